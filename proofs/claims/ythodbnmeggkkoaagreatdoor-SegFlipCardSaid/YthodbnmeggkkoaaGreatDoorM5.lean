/-
  Part 5 of the texts that the claim leans on: D13 E3 E4 E5 E6 E7 E8 E9.
-/
import Derived.Test.YthodbnmeggkkoaaGreatDoorM4
/-
  Package record: Get where a head is right and the rest is not; Same.
-/
namespace Go.Proofs.YthodbnmeggkkoaaGreatDoor
open Go Go.RowKit Go.Hb Go.Proofs

set_option maxHeartbeats 4000000 in
/-- The head is right, what stands behind it is not, or it is not all there. -/
theorem get_half {g : World} {F : List HP} {v : Value} {xs t : List UInt8} {kind : Nat} {r : RecM} (hH : HalfG g) (hSz : SizesG g) (hR : RdB g F v xs) (hx : xs = cov (hdOf kind r) ++ t) (hok : recOk r) (hk : r.kind = (kind : Int))
    (hr : 25 + r.key.length + r.value.length ≤ xs.length → ¬ rightP (xs.take (25 + r.key.length + r.value.length))) :
    RCs Tryz.prog 36 [v] g F (fun u w => ∃ sz e : Int, u = .tuple #[.agg [.int .u64 0, .int .i64 0, .slice none 0 0, .slice none 0 0, .int .u32 0, .int .u32 0].toArray, .int .i64 sz, .int .i64 e] ∧
      (25 + r.key.length + r.value.length ≤ xs.length → sz = ((25 + r.key.length + r.value.length : Nat) : Int) ∧ e = 23) ∧ (xs.length < 25 + r.key.length + r.value.length → sz = 0 ∧ e = 22) ∧ St g w F) := by
  obtain ⟨b1, b2, b3, b4, b5, b6, b7, b8, b9⟩ := recOk_bounds hok hk
  have hmx := hR.2.1
  simp only [maxLen] at hmx
  have hh : (hdOf kind r).length = 17 := by simp [hdOf, le_length]
  have h21 : xs.take 21 = cov (hdOf kind r) := by
    rw [hx, List.take_left' (by rw [cov_length, hh])]
  have hR1 : RdB g F v (hdOf kind r ++ (le (crc (hdOf kind r)) 4 ++ t)) := by
    have e : xs = hdOf kind r ++ (le (crc (hdOf kind r)) 4 ++ t) := by rw [hx]; simp [cov]
    rw [← e]; exact hR
  have hl1 : (hdOf kind r ++ (le (crc (hdOf kind r)) 4 ++ t)).length = xs.length := by rw [hx]; simp [cov]
  have hxl : xs.length = 21 + t.length := by rw [hx]; simp [cov_length, hh]
  clear hx
  by_cases hl : 25 + r.key.length + r.value.length ≤ xs.length
  · have hr := hr hl
    refine RCs_of_WPs Tryz.func36 rfl Tryz.ntmps36 rfl Tryz.results36 ?_
    refine WPs_seq ?_
    refine WPs_regionK [0, 2] ?_
    refine s_alloc Tryz.zeroValue46 (cl := [_, _, _, _, _, _]) rfl rfl (fun b2 => ?_)
    refine s_assign rfl rfl ?_
    refine s_assign rfl rfl ?_
    refine SXs_nilK (fr' := [(0, _), (2, _)]) rfl ?_
    refine KSs_wp ?_
    refine WPs_seq ?_
    refine WPs_regionK [0, 2, 5] ?_
    refine s_assign rfl rfl ?_
    refine SXs_nilK (fr' := [(0, _), (2, _), (5, _)]) rfl ?_
    refine KSs_wp ?_
    refine WPs_seq ?_
    refine WPs_block ?_
    refine WPs_seq ?_
    refine WPs_regionK [0, 2, 5, 10] ?_
    refine s_move rfl rfl ?_
    refine s_lenRd rfl Tryz.underlying42 rfl rfl (by ((apply RdIn.cons; assumption))) ?_
    refine s_lss rfl rfl rfl ?_
    refine s_assign rfl rfl ?_
    refine SXs_nilK (fr' := [(0, _), (2, _), (5, _), (10, _)]) rfl ?_
    refine KSs_wp ?_
    refine WPs_cond rfl (fun hc1 => ?_) (fun hc1 => ?_)
    · (exfalso; (cases hc1; done))
    · simp only [decide_eq_false_iff_not] at hc1
      refine WPs_seq ?_
      refine WPs_regionK [0, 2, 5, 19] ?_
      refine s_move rfl rfl ?_
      refine s_sliceRdF F slt_42 (l := 0) (h' := 21) (vlo := none) (vhi := some _) rfl rfl hR trivial rfl (.inr ⟨rfl, rfl⟩) (.inl rfl) (by omega) (by omega) (fun va21 vc21 hR21 => ?_)
      have hRt := rd_take (n := 0) (by omega) hR21
      refine s_call Tryz.call84 rfl (vs := [_]) rfl (RCs.perm (by (repeat ((exact List.Perm.refl _)))) (right_yes (xs := xs.take 21) hH hRt.cons (by simp; omega) (by rw [h21]; exact cov_right _))) ?_
      rintro v w ⟨rfl, hS⟩
      refine SXs_go hS ?_
      clear hS; clear w
      simp only [putF]
      refine s_not rfl rfl ?_
      refine s_assign rfl rfl ?_
      refine SXs_nilK (fr' := [(0, _), (2, _), (5, _), (19, _)]) rfl ?_
      refine KSs_wp ?_
      refine WPs_cond rfl (fun hc2 => ?_) (fun hc2 => ?_)
      · (exfalso; (cases hc2; done))
      · simp only [Bool.not_true] at hc2
        refine WPs_skip ?_
        refine KSs_wp ?_
        refine WPs_seq ?_
        refine WPs_regionK [0, 2, 5, 6, 7, 8] ?_
        refine s_move rfl rfl ?_
        refine s_call Tryz.call85 rfl (vs := [_]) rfl (RCs.perm (by (repeat ((exact List.Perm.refl _)))) (told_rec hSz hR1.cons hok hk (by rw [hl1]; omega))) ?_
        rintro v w ⟨rfl, hS⟩
        refine SXs_go hS ?_
        clear hS; clear w
        simp only [putF]
        refine s_move rfl rfl ?_
        refine s_extract rfl rfl rfl ?_
        refine s_extract rfl rfl rfl ?_
        refine s_extract rfl rfl rfl ?_
        refine s_alloc Tryz.zeroValue46 (cl := [_, _, _, _, _, _]) rfl rfl (fun b6 => ?_)
        refine s_store (i := 0) Tryz.sizeOf46 rfl rfl rfl (vs := [_, _, _, _, _, _]) rfl rfl rfl rfl ?_
        simp only [List.set_cons_zero, List.set_cons_succ, spl]
        refine s_assign rfl rfl ?_
        refine s_assign rfl rfl ?_
        refine SXs_nilK (fr' := [(0, _), (2, _), (5, _), (6, _), (7, _), (8, _)]) rfl ?_
        refine KSs_wp ?_
        refine WPs_seq ?_
        refine WPs_draw [0, 2, 5, 6, 7] (List.contains [7]) (F) Tryz.mixed rfl (listed := #[false, false, false, false, false, false, false, false]) rfl ?_
        refine st_take 0 rfl (by decide +kernel) (listed' := #[true, false, false, false, false, false, false, false]) rfl (by (intro _ h; (exact h.tail.tail))) (gv_move rfl rfl) ?_
        refine st_take 2 rfl (by decide +kernel) (listed' := #[true, false, true, false, false, false, false, false]) rfl (by (intro _ h; (exact h.tail.tail))) (gv_move rfl rfl) ?_
        refine st_two 1 3 rfl rfl (by decide +kernel) ?_ ?_
        ·
          refine s_makeSlice slt_42 rfl rfl rfl rfl (by ((simp only [maxLen]; omega))) (by ((omega))) (fun va36 vc36 => ?_)
          refine st_next (listed' := #[true, true, true, false, false, false, false, false]) rfl (by intro _ _; (intro _ h; (exact h.tail.tail.tail))) ?_
          refine st_take 4 rfl (by decide +kernel) (listed' := #[true, true, true, false, true, false, false, false]) rfl (by (intro _ h; (exact h.tail.tail.tail))) (gv_fieldAddr fo_46_2 rfl rfl) ?_
          refine st_two 3 5 rfl rfl (by decide +kernel) ?_ ?_
          ·
            refine s_makeSlice slt_42 rfl rfl rfl rfl (by ((simp only [maxLen]; omega))) (by ((omega))) (fun va38 vc38 => ?_)
            refine st_next (listed' := #[true, true, true, true, true, false, false, false]) rfl (by intro _ _; (intro _ h; (exact h.sl (by (repeat (first | exact Sl.refl _ | refine Sl.skip ?_)))))) ?_
            refine st_one 5 rfl (by decide +kernel) ?_
            refine s_store (i := 2) Tryz.sizeOf42 rfl rfl rfl (vs := [_]) rfl rfl rfl rfl ?_
            simp only [List.set_cons_zero, List.set_cons_succ, spl]
            refine st_next (listed' := #[true, true, true, true, true, true, false, false]) rfl (by intro _ _; (intro _ h; (exact h.sl (by (repeat (first | exact Sl.refl _ | refine Sl.skip ?_)))))) ?_
            refine st_take 6 rfl (by decide +kernel) (listed' := #[true, true, true, true, true, true, true, false]) rfl (by (intro _ h; (exact h.sl (by (repeat (first | exact Sl.refl _ | refine Sl.skip ?_)))))) (gv_fieldAddr fo_46_3 rfl rfl) ?_
            refine st_one 7 rfl (by decide +kernel) ?_
            refine s_store (i := 2) Tryz.sizeOf42 rfl rfl rfl (vs := [_]) rfl rfl rfl rfl ?_
            simp only [List.set_cons_zero, List.set_cons_succ, spl]
            refine st_next (listed' := #[true, true, true, true, true, true, true, true]) rfl (by intro e; cases e) ?_
            refine st_doneK (fr' := [(0, _), (2, _), (5, _), (6, _), (7, _)]) (by decide +kernel) rfl ?_
            refine KSs_wp ?_
            refine WPs_seq ?_
            refine WPs_seq ?_
            refine WPs_regionK [0, 2, 5, 6, 7, 43] ?_
            refine SXs_rd (T := 5) 0 rfl (fun hRa => ?_)
            refine SXs_rd (T := 5) 1 rfl (fun hRb => ?_)
            refine s_loadN Tryz.isAgg46 Tryz.sizeOf46 (vs := [_, _, _, _, _, _]) rfl rfl (by exact csin (i := 2) (k := 6) rfl rfl) rfl ?_
            refine s_call Tryz.call23 rfl (vs := [_]) rfl (RCs.perm (by (repeat ((exact List.Perm.refl _)))) (recMay_len (r := r) (kb := List.replicate r.key.length 0) (vb := List.replicate r.value.length 0) (by simp) (by simp) (by (exact rdz hRb)) (by (exact rdz hRa)) hok)) ?_
            rintro v w ⟨rfl, hS⟩
            refine SXs_go hS ?_
            clear hS; clear w
            simp only [putF]
            refine s_not rfl rfl ?_
            refine SXs_nilK (fr' := [(0, _), (2, _), (5, _), (6, _), (7, _), (43, _)]) rfl ?_
            refine KSs_wp ?_
            refine WPs_cond rfl (fun hc3 => ?_) (fun hc3 => ?_)
            · (exfalso; (cases hc3; done))
            · simp only [Bool.not_true] at hc3
              refine WPs_skip ?_
              refine KSs_wp ?_
              refine WPs_seq ?_
              refine WPs_regionK [0, 2, 5, 6, 7, 9] ?_
              refine s_loadN Tryz.isAgg46 Tryz.sizeOf46 (vs := [_, _, _, _, _, _]) rfl rfl (by exact csin (i := 2) (k := 6) rfl rfl) rfl ?_
              refine s_call Tryz.call41 rfl (vs := [_]) rfl (RCs.perm (by (repeat ((exact List.Perm.refl _)))) (recSize_spec (r := r) (by omega) (by omega))) ?_
              rintro v w ⟨rfl, hS⟩
              refine SXs_go hS ?_
              clear hS; clear w
              simp only [putF]
              refine s_assign rfl rfl ?_
              refine SXs_nilK (fr' := [(0, _), (2, _), (5, _), (6, _), (7, _), (9, _)]) rfl ?_
              refine KSs_wp ?_
              refine WPs_seq ?_
              refine WPs_block ?_
              refine WPs_seq ?_
              refine WPs_regionK [0, 2, 5, 6, 7, 9, 51] ?_
              refine s_move rfl rfl ?_
              refine s_lenRd rfl Tryz.underlying42 rfl rfl (by ((apply RdIn.cons; apply RdIn.cons; apply RdIn.cons; apply RdIn.cons; assumption))) ?_
              refine s_move rfl rfl ?_
              refine s_lss rfl rfl rfl ?_
              refine s_assign rfl rfl ?_
              refine SXs_nilK (fr' := [(0, _), (2, _), (5, _), (6, _), (7, _), (9, _), (51, _)]) rfl ?_
              refine KSs_wp ?_
              refine WPs_cond rfl (fun hc4 => ?_) (fun hc4 => ?_)
              · (exfalso; (simp only [decide_eq_true_eq] at hc4; omega))
              · simp only [decide_eq_false_iff_not] at hc4
                refine WPs_seq ?_
                refine WPs_regionK [0, 2, 5, 6, 7, 9, 61] ?_
                refine s_move rfl rfl ?_
                refine s_move rfl rfl ?_
                refine s_sliceRdF F slt_42 (l := 0) (h' := 25 + r.key.length + r.value.length) (vlo := none) (vhi := some _) rfl rfl hR trivial rfl (.inr ⟨rfl, rfl⟩) (.inl rfl) (by omega) (by omega) (fun va64 vc64 hR64 => ?_)
                have hRt2 := rd_take (n := 0) hl hR64
                refine s_call Tryz.call84 rfl (vs := [_]) rfl (RCs.perm (by (repeat ((exact List.Perm.refl _)))) (right_no (xs := xs.take (25 + r.key.length + r.value.length)) hH hRt2.cons.cons.cons.cons (by rw [List.length_take]; omega) hr)) ?_
                rintro v w ⟨rfl, hS⟩
                refine SXs_go hS ?_
                clear hS; clear w
                simp only [putF]
                refine s_not rfl rfl ?_
                refine s_assign rfl rfl ?_
                refine SXs_nilK (fr' := [(0, _), (2, _), (5, _), (6, _), (7, _), (9, _), (61, _)]) rfl ?_
                refine KSs_wp ?_
                refine WPs_cond rfl (fun hc5 => ?_) (fun hc5 => ?_)
                · simp only [Bool.not_false] at hc5
                  refine WPs_seq ?_
                  refine WPs_regionK [2, 3, 4] ?_
                  refine s_move rfl rfl ?_
                  refine s_move rfl rfl ?_
                  refine s_callV (vs := [_, _]) Tryz.call83 rfl rfl rfl rfl (RCs.perm (by (repeat ((exact List.Perm.refl _)))) (get_fails)) ?_
                  rintro v w ⟨rfl, hS⟩
                  refine SXs_go hS ?_
                  clear hS; clear w
                  simp only [putF]
                  refine s_extract rfl rfl rfl ?_
                  refine s_extract rfl rfl rfl ?_
                  refine s_extract rfl rfl rfl ?_
                  refine s_store (i := 3) Tryz.sizeOf46 rfl rfl rfl (vs := [_, _, _, _, _, _]) rfl rfl rfl rfl ?_
                  simp only [List.set_cons_zero, List.set_cons_succ, spl]
                  refine s_assign rfl rfl ?_
                  refine s_assign rfl rfl ?_
                  refine SXs_nilK (fr' := [(2, _), (3, _), (4, _)]) rfl ?_
                  refine KSs_wp ?_
                  refine WPs_ret ?_
                  refine RLs_start ?_
                  refine RLs_cellN Tryz.isAgg46 Tryz.sizeOf46 (cs := [_, _, _, _, _, _]) rfl (by exact csin (i := 3) (k := 6) rfl rfl) rfl ?_
                  refine RLs_tmp rfl ?_
                  refine RLs_tmp rfl ?_
                  refine RLs_fin3 ?_
                  exact fun w hS => ⟨_, _, rfl, fun _ => ⟨rfl, rfl⟩, fun h => absurd hl (by omega), hS.sl (by (repeat (first | exact Sl.refl _ | refine Sl.skip ?_)))⟩
                · (exfalso; (cases hc5; done))
          ·
            refine s_store (i := 1) Tryz.sizeOf42 rfl rfl rfl (vs := [_]) rfl rfl rfl rfl ?_
            simp only [List.set_cons_zero, List.set_cons_succ, spl]
            refine st_next (listed' := #[true, true, true, false, true, true, false, false]) rfl (by intro _ _; (intro _ h; (exact h.tail.tail.tail))) ?_
            refine st_one 3 rfl (by decide +kernel) ?_
            refine s_makeSlice slt_42 rfl rfl rfl rfl (by ((simp only [maxLen]; omega))) (by ((omega))) (fun va38 vc38 => ?_)
            refine st_next (listed' := #[true, true, true, true, true, true, false, false]) rfl (by intro _ _; (intro _ h; (exact h.sl (by (repeat (first | exact Sl.refl _ | refine Sl.skip ?_)))))) ?_
            refine st_take 6 rfl (by decide +kernel) (listed' := #[true, true, true, true, true, true, true, false]) rfl (by (intro _ h; (exact h.sl (by (repeat (first | exact Sl.refl _ | refine Sl.skip ?_)))))) (gv_fieldAddr fo_46_3 rfl rfl) ?_
            refine st_one 7 rfl (by decide +kernel) ?_
            refine s_store (i := 2) Tryz.sizeOf42 rfl rfl rfl (vs := [_]) rfl rfl rfl rfl ?_
            simp only [List.set_cons_zero, List.set_cons_succ, spl]
            refine st_next (listed' := #[true, true, true, true, true, true, true, true]) rfl (by intro e; cases e) ?_
            refine st_doneK (fr' := [(0, _), (2, _), (5, _), (6, _), (7, _)]) (by decide +kernel) rfl ?_
            refine KSs_wp ?_
            refine WPs_seq ?_
            refine WPs_seq ?_
            refine WPs_regionK [0, 2, 5, 6, 7, 43] ?_
            refine SXs_rd (T := 5) 0 rfl (fun hRa => ?_)
            refine SXs_rd (T := 5) 1 rfl (fun hRb => ?_)
            refine s_loadN Tryz.isAgg46 Tryz.sizeOf46 (vs := [_, _, _, _, _, _]) rfl rfl (by exact csin (i := 2) (k := 6) rfl rfl) rfl ?_
            refine s_call Tryz.call23 rfl (vs := [_]) rfl (RCs.perm (by (repeat ((exact List.Perm.refl _)))) (recMay_len (r := r) (kb := List.replicate r.key.length 0) (vb := List.replicate r.value.length 0) (by simp) (by simp) (by (exact rdz hRb)) (by (exact rdz hRa)) hok)) ?_
            rintro v w ⟨rfl, hS⟩
            refine SXs_go hS ?_
            clear hS; clear w
            simp only [putF]
            refine s_not rfl rfl ?_
            refine SXs_nilK (fr' := [(0, _), (2, _), (5, _), (6, _), (7, _), (43, _)]) rfl ?_
            refine KSs_wp ?_
            refine WPs_cond rfl (fun hc6 => ?_) (fun hc6 => ?_)
            · (exfalso; (cases hc6; done))
            · simp only [Bool.not_true] at hc6
              refine WPs_skip ?_
              refine KSs_wp ?_
              refine WPs_seq ?_
              refine WPs_regionK [0, 2, 5, 6, 7, 9] ?_
              refine s_loadN Tryz.isAgg46 Tryz.sizeOf46 (vs := [_, _, _, _, _, _]) rfl rfl (by exact csin (i := 2) (k := 6) rfl rfl) rfl ?_
              refine s_call Tryz.call41 rfl (vs := [_]) rfl (RCs.perm (by (repeat ((exact List.Perm.refl _)))) (recSize_spec (r := r) (by omega) (by omega))) ?_
              rintro v w ⟨rfl, hS⟩
              refine SXs_go hS ?_
              clear hS; clear w
              simp only [putF]
              refine s_assign rfl rfl ?_
              refine SXs_nilK (fr' := [(0, _), (2, _), (5, _), (6, _), (7, _), (9, _)]) rfl ?_
              refine KSs_wp ?_
              refine WPs_seq ?_
              refine WPs_block ?_
              refine WPs_seq ?_
              refine WPs_regionK [0, 2, 5, 6, 7, 9, 51] ?_
              refine s_move rfl rfl ?_
              refine s_lenRd rfl Tryz.underlying42 rfl rfl (by ((apply RdIn.cons; apply RdIn.cons; apply RdIn.cons; apply RdIn.cons; assumption))) ?_
              refine s_move rfl rfl ?_
              refine s_lss rfl rfl rfl ?_
              refine s_assign rfl rfl ?_
              refine SXs_nilK (fr' := [(0, _), (2, _), (5, _), (6, _), (7, _), (9, _), (51, _)]) rfl ?_
              refine KSs_wp ?_
              refine WPs_cond rfl (fun hc7 => ?_) (fun hc7 => ?_)
              · (exfalso; (simp only [decide_eq_true_eq] at hc7; omega))
              · simp only [decide_eq_false_iff_not] at hc7
                refine WPs_seq ?_
                refine WPs_regionK [0, 2, 5, 6, 7, 9, 61] ?_
                refine s_move rfl rfl ?_
                refine s_move rfl rfl ?_
                refine s_sliceRdF F slt_42 (l := 0) (h' := 25 + r.key.length + r.value.length) (vlo := none) (vhi := some _) rfl rfl hR trivial rfl (.inr ⟨rfl, rfl⟩) (.inl rfl) (by omega) (by omega) (fun va64 vc64 hR64 => ?_)
                have hRt2 := rd_take (n := 0) hl hR64
                refine s_call Tryz.call84 rfl (vs := [_]) rfl (RCs.perm (by (repeat ((exact List.Perm.refl _)))) (right_no (xs := xs.take (25 + r.key.length + r.value.length)) hH hRt2.cons.cons.cons.cons (by rw [List.length_take]; omega) hr)) ?_
                rintro v w ⟨rfl, hS⟩
                refine SXs_go hS ?_
                clear hS; clear w
                simp only [putF]
                refine s_not rfl rfl ?_
                refine s_assign rfl rfl ?_
                refine SXs_nilK (fr' := [(0, _), (2, _), (5, _), (6, _), (7, _), (9, _), (61, _)]) rfl ?_
                refine KSs_wp ?_
                refine WPs_cond rfl (fun hc8 => ?_) (fun hc8 => ?_)
                · simp only [Bool.not_false] at hc8
                  refine WPs_seq ?_
                  refine WPs_regionK [2, 3, 4] ?_
                  refine s_move rfl rfl ?_
                  refine s_move rfl rfl ?_
                  refine s_callV (vs := [_, _]) Tryz.call83 rfl rfl rfl rfl (RCs.perm (by (repeat ((exact List.Perm.refl _)))) (get_fails)) ?_
                  rintro v w ⟨rfl, hS⟩
                  refine SXs_go hS ?_
                  clear hS; clear w
                  simp only [putF]
                  refine s_extract rfl rfl rfl ?_
                  refine s_extract rfl rfl rfl ?_
                  refine s_extract rfl rfl rfl ?_
                  refine s_store (i := 3) Tryz.sizeOf46 rfl rfl rfl (vs := [_, _, _, _, _, _]) rfl rfl rfl rfl ?_
                  simp only [List.set_cons_zero, List.set_cons_succ, spl]
                  refine s_assign rfl rfl ?_
                  refine s_assign rfl rfl ?_
                  refine SXs_nilK (fr' := [(2, _), (3, _), (4, _)]) rfl ?_
                  refine KSs_wp ?_
                  refine WPs_ret ?_
                  refine RLs_start ?_
                  refine RLs_cellN Tryz.isAgg46 Tryz.sizeOf46 (cs := [_, _, _, _, _, _]) rfl (by exact csin (i := 3) (k := 6) rfl rfl) rfl ?_
                  refine RLs_tmp rfl ?_
                  refine RLs_tmp rfl ?_
                  refine RLs_fin3 ?_
                  exact fun w hS => ⟨_, _, rfl, fun _ => ⟨rfl, rfl⟩, fun h => absurd hl (by omega), hS.sl (by (repeat (first | exact Sl.refl _ | refine Sl.skip ?_)))⟩
                · (exfalso; (cases hc8; done))
        ·
          refine s_makeSlice slt_42 rfl rfl rfl rfl (by ((simp only [maxLen]; omega))) (by ((omega))) (fun va38 vc38 => ?_)
          refine st_next (listed' := #[true, false, true, true, false, false, false, false]) rfl (by intro _ _; (intro _ h; (exact h.tail.tail.tail))) ?_
          refine st_one 1 rfl (by decide +kernel) ?_
          refine s_makeSlice slt_42 rfl rfl rfl rfl (by ((simp only [maxLen]; omega))) (by ((omega))) (fun va36 vc36 => ?_)
          refine st_next (listed' := #[true, true, true, true, false, false, false, false]) rfl (by intro _ _; (intro _ h; (exact h.sl (by (repeat (first | exact Sl.refl _ | refine Sl.skip ?_)))))) ?_
          refine st_take 4 rfl (by decide +kernel) (listed' := #[true, true, true, true, true, false, false, false]) rfl (by (intro _ h; (exact h.sl (by (repeat (first | exact Sl.refl _ | refine Sl.skip ?_)))))) (gv_fieldAddr fo_46_2 rfl rfl) ?_
          refine st_one 5 rfl (by decide +kernel) ?_
          refine s_store (i := 2) Tryz.sizeOf42 rfl rfl rfl (vs := [_]) rfl rfl rfl rfl ?_
          simp only [List.set_cons_zero, List.set_cons_succ, spl]
          refine st_next (listed' := #[true, true, true, true, true, true, false, false]) rfl (by intro _ _; (intro _ h; (exact h.sl (by (repeat (first | exact Sl.refl _ | refine Sl.skip ?_)))))) ?_
          refine st_take 6 rfl (by decide +kernel) (listed' := #[true, true, true, true, true, true, true, false]) rfl (by (intro _ h; (exact h.sl (by (repeat (first | exact Sl.refl _ | refine Sl.skip ?_)))))) (gv_fieldAddr fo_46_3 rfl rfl) ?_
          refine st_one 7 rfl (by decide +kernel) ?_
          refine s_store (i := 2) Tryz.sizeOf42 rfl rfl rfl (vs := [_]) rfl rfl rfl rfl ?_
          simp only [List.set_cons_zero, List.set_cons_succ, spl]
          refine st_next (listed' := #[true, true, true, true, true, true, true, true]) rfl (by intro e; cases e) ?_
          refine st_doneK (fr' := [(0, _), (2, _), (5, _), (6, _), (7, _)]) (by decide +kernel) rfl ?_
          refine KSs_wp ?_
          refine WPs_seq ?_
          refine WPs_seq ?_
          refine WPs_regionK [0, 2, 5, 6, 7, 43] ?_
          refine SXs_rd (T := 5) 0 rfl (fun hRa => ?_)
          refine SXs_rd (T := 5) 1 rfl (fun hRb => ?_)
          refine s_loadN Tryz.isAgg46 Tryz.sizeOf46 (vs := [_, _, _, _, _, _]) rfl rfl (by exact csin (i := 2) (k := 6) rfl rfl) rfl ?_
          refine s_call Tryz.call23 rfl (vs := [_]) rfl (RCs.perm (by (repeat ((exact List.Perm.refl _)))) (recMay_len (r := r) (kb := List.replicate r.key.length 0) (vb := List.replicate r.value.length 0) (by simp) (by simp) (by (exact rdz hRa)) (by (exact rdz hRb)) hok)) ?_
          rintro v w ⟨rfl, hS⟩
          refine SXs_go hS ?_
          clear hS; clear w
          simp only [putF]
          refine s_not rfl rfl ?_
          refine SXs_nilK (fr' := [(0, _), (2, _), (5, _), (6, _), (7, _), (43, _)]) rfl ?_
          refine KSs_wp ?_
          refine WPs_cond rfl (fun hc9 => ?_) (fun hc9 => ?_)
          · (exfalso; (cases hc9; done))
          · simp only [Bool.not_true] at hc9
            refine WPs_skip ?_
            refine KSs_wp ?_
            refine WPs_seq ?_
            refine WPs_regionK [0, 2, 5, 6, 7, 9] ?_
            refine s_loadN Tryz.isAgg46 Tryz.sizeOf46 (vs := [_, _, _, _, _, _]) rfl rfl (by exact csin (i := 2) (k := 6) rfl rfl) rfl ?_
            refine s_call Tryz.call41 rfl (vs := [_]) rfl (RCs.perm (by (repeat ((exact List.Perm.refl _)))) (recSize_spec (r := r) (by omega) (by omega))) ?_
            rintro v w ⟨rfl, hS⟩
            refine SXs_go hS ?_
            clear hS; clear w
            simp only [putF]
            refine s_assign rfl rfl ?_
            refine SXs_nilK (fr' := [(0, _), (2, _), (5, _), (6, _), (7, _), (9, _)]) rfl ?_
            refine KSs_wp ?_
            refine WPs_seq ?_
            refine WPs_block ?_
            refine WPs_seq ?_
            refine WPs_regionK [0, 2, 5, 6, 7, 9, 51] ?_
            refine s_move rfl rfl ?_
            refine s_lenRd rfl Tryz.underlying42 rfl rfl (by ((apply RdIn.cons; apply RdIn.cons; apply RdIn.cons; apply RdIn.cons; assumption))) ?_
            refine s_move rfl rfl ?_
            refine s_lss rfl rfl rfl ?_
            refine s_assign rfl rfl ?_
            refine SXs_nilK (fr' := [(0, _), (2, _), (5, _), (6, _), (7, _), (9, _), (51, _)]) rfl ?_
            refine KSs_wp ?_
            refine WPs_cond rfl (fun hc10 => ?_) (fun hc10 => ?_)
            · (exfalso; (simp only [decide_eq_true_eq] at hc10; omega))
            · simp only [decide_eq_false_iff_not] at hc10
              refine WPs_seq ?_
              refine WPs_regionK [0, 2, 5, 6, 7, 9, 61] ?_
              refine s_move rfl rfl ?_
              refine s_move rfl rfl ?_
              refine s_sliceRdF F slt_42 (l := 0) (h' := 25 + r.key.length + r.value.length) (vlo := none) (vhi := some _) rfl rfl hR trivial rfl (.inr ⟨rfl, rfl⟩) (.inl rfl) (by omega) (by omega) (fun va64 vc64 hR64 => ?_)
              have hRt2 := rd_take (n := 0) hl hR64
              refine s_call Tryz.call84 rfl (vs := [_]) rfl (RCs.perm (by (repeat ((exact List.Perm.refl _)))) (right_no (xs := xs.take (25 + r.key.length + r.value.length)) hH hRt2.cons.cons.cons.cons (by rw [List.length_take]; omega) hr)) ?_
              rintro v w ⟨rfl, hS⟩
              refine SXs_go hS ?_
              clear hS; clear w
              simp only [putF]
              refine s_not rfl rfl ?_
              refine s_assign rfl rfl ?_
              refine SXs_nilK (fr' := [(0, _), (2, _), (5, _), (6, _), (7, _), (9, _), (61, _)]) rfl ?_
              refine KSs_wp ?_
              refine WPs_cond rfl (fun hc11 => ?_) (fun hc11 => ?_)
              · simp only [Bool.not_false] at hc11
                refine WPs_seq ?_
                refine WPs_regionK [2, 3, 4] ?_
                refine s_move rfl rfl ?_
                refine s_move rfl rfl ?_
                refine s_callV (vs := [_, _]) Tryz.call83 rfl rfl rfl rfl (RCs.perm (by (repeat ((exact List.Perm.refl _)))) (get_fails)) ?_
                rintro v w ⟨rfl, hS⟩
                refine SXs_go hS ?_
                clear hS; clear w
                simp only [putF]
                refine s_extract rfl rfl rfl ?_
                refine s_extract rfl rfl rfl ?_
                refine s_extract rfl rfl rfl ?_
                refine s_store (i := 3) Tryz.sizeOf46 rfl rfl rfl (vs := [_, _, _, _, _, _]) rfl rfl rfl rfl ?_
                simp only [List.set_cons_zero, List.set_cons_succ, spl]
                refine s_assign rfl rfl ?_
                refine s_assign rfl rfl ?_
                refine SXs_nilK (fr' := [(2, _), (3, _), (4, _)]) rfl ?_
                refine KSs_wp ?_
                refine WPs_ret ?_
                refine RLs_start ?_
                refine RLs_cellN Tryz.isAgg46 Tryz.sizeOf46 (cs := [_, _, _, _, _, _]) rfl (by exact csin (i := 3) (k := 6) rfl rfl) rfl ?_
                refine RLs_tmp rfl ?_
                refine RLs_tmp rfl ?_
                refine RLs_fin3 ?_
                exact fun w hS => ⟨_, _, rfl, fun _ => ⟨rfl, rfl⟩, fun h => absurd hl (by omega), hS.sl (by (repeat (first | exact Sl.refl _ | refine Sl.skip ?_)))⟩
              · (exfalso; (cases hc11; done))
  · by_cases hl2 : 21 ≤ xs.length
    rotate_left
    · omega
    refine RCs_of_WPs Tryz.func36 rfl Tryz.ntmps36 rfl Tryz.results36 ?_
    refine WPs_seq ?_
    refine WPs_regionK [0, 2] ?_
    refine s_alloc Tryz.zeroValue46 (cl := [_, _, _, _, _, _]) rfl rfl (fun b2 => ?_)
    refine s_assign rfl rfl ?_
    refine s_assign rfl rfl ?_
    refine SXs_nilK (fr' := [(0, _), (2, _)]) rfl ?_
    refine KSs_wp ?_
    refine WPs_seq ?_
    refine WPs_regionK [0, 2, 5] ?_
    refine s_assign rfl rfl ?_
    refine SXs_nilK (fr' := [(0, _), (2, _), (5, _)]) rfl ?_
    refine KSs_wp ?_
    refine WPs_seq ?_
    refine WPs_block ?_
    refine WPs_seq ?_
    refine WPs_regionK [0, 2, 5, 10] ?_
    refine s_move rfl rfl ?_
    refine s_lenRd rfl Tryz.underlying42 rfl rfl (by ((apply RdIn.cons; assumption))) ?_
    refine s_lss rfl rfl rfl ?_
    refine s_assign rfl rfl ?_
    refine SXs_nilK (fr' := [(0, _), (2, _), (5, _), (10, _)]) rfl ?_
    refine KSs_wp ?_
    refine WPs_cond rfl (fun hc1 => ?_) (fun hc1 => ?_)
    · (exfalso; (cases hc1; done))
    · simp only [decide_eq_false_iff_not] at hc1
      refine WPs_seq ?_
      refine WPs_regionK [0, 2, 5, 19] ?_
      refine s_move rfl rfl ?_
      refine s_sliceRdF F slt_42 (l := 0) (h' := 21) (vlo := none) (vhi := some _) rfl rfl hR trivial rfl (.inr ⟨rfl, rfl⟩) (.inl rfl) (by omega) (by omega) (fun va21 vc21 hR21 => ?_)
      have hRt := rd_take (n := 0) (by omega) hR21
      refine s_call Tryz.call84 rfl (vs := [_]) rfl (RCs.perm (by (repeat ((exact List.Perm.refl _)))) (right_yes (xs := xs.take 21) hH hRt.cons (by simp; omega) (by rw [h21]; exact cov_right _))) ?_
      rintro v w ⟨rfl, hS⟩
      refine SXs_go hS ?_
      clear hS; clear w
      simp only [putF]
      refine s_not rfl rfl ?_
      refine s_assign rfl rfl ?_
      refine SXs_nilK (fr' := [(0, _), (2, _), (5, _), (19, _)]) rfl ?_
      refine KSs_wp ?_
      refine WPs_cond rfl (fun hc2 => ?_) (fun hc2 => ?_)
      · (exfalso; (cases hc2; done))
      · simp only [Bool.not_true] at hc2
        refine WPs_skip ?_
        refine KSs_wp ?_
        refine WPs_seq ?_
        refine WPs_regionK [0, 2, 5, 6, 7, 8] ?_
        refine s_move rfl rfl ?_
        refine s_call Tryz.call85 rfl (vs := [_]) rfl (RCs.perm (by (repeat ((exact List.Perm.refl _)))) (told_rec hSz hR1.cons hok hk (by rw [hl1]; omega))) ?_
        rintro v w ⟨rfl, hS⟩
        refine SXs_go hS ?_
        clear hS; clear w
        simp only [putF]
        refine s_move rfl rfl ?_
        refine s_extract rfl rfl rfl ?_
        refine s_extract rfl rfl rfl ?_
        refine s_extract rfl rfl rfl ?_
        refine s_alloc Tryz.zeroValue46 (cl := [_, _, _, _, _, _]) rfl rfl (fun b6 => ?_)
        refine s_store (i := 0) Tryz.sizeOf46 rfl rfl rfl (vs := [_, _, _, _, _, _]) rfl rfl rfl rfl ?_
        simp only [List.set_cons_zero, List.set_cons_succ, spl]
        refine s_assign rfl rfl ?_
        refine s_assign rfl rfl ?_
        refine SXs_nilK (fr' := [(0, _), (2, _), (5, _), (6, _), (7, _), (8, _)]) rfl ?_
        refine KSs_wp ?_
        refine WPs_seq ?_
        refine WPs_draw [0, 2, 5, 6, 7] (List.contains [7]) (F) Tryz.mixed rfl (listed := #[false, false, false, false, false, false, false, false]) rfl ?_
        refine st_take 0 rfl (by decide +kernel) (listed' := #[true, false, false, false, false, false, false, false]) rfl (by (intro _ h; (exact h.tail.tail))) (gv_move rfl rfl) ?_
        refine st_take 2 rfl (by decide +kernel) (listed' := #[true, false, true, false, false, false, false, false]) rfl (by (intro _ h; (exact h.tail.tail))) (gv_move rfl rfl) ?_
        refine st_two 1 3 rfl rfl (by decide +kernel) ?_ ?_
        ·
          refine s_makeSlice slt_42 rfl rfl rfl rfl (by ((simp only [maxLen]; omega))) (by ((omega))) (fun va36 vc36 => ?_)
          refine st_next (listed' := #[true, true, true, false, false, false, false, false]) rfl (by intro _ _; (intro _ h; (exact h.tail.tail.tail))) ?_
          refine st_take 4 rfl (by decide +kernel) (listed' := #[true, true, true, false, true, false, false, false]) rfl (by (intro _ h; (exact h.tail.tail.tail))) (gv_fieldAddr fo_46_2 rfl rfl) ?_
          refine st_two 3 5 rfl rfl (by decide +kernel) ?_ ?_
          ·
            refine s_makeSlice slt_42 rfl rfl rfl rfl (by ((simp only [maxLen]; omega))) (by ((omega))) (fun va38 vc38 => ?_)
            refine st_next (listed' := #[true, true, true, true, true, false, false, false]) rfl (by intro _ _; (intro _ h; (exact h.sl (by (repeat (first | exact Sl.refl _ | refine Sl.skip ?_)))))) ?_
            refine st_one 5 rfl (by decide +kernel) ?_
            refine s_store (i := 2) Tryz.sizeOf42 rfl rfl rfl (vs := [_]) rfl rfl rfl rfl ?_
            simp only [List.set_cons_zero, List.set_cons_succ, spl]
            refine st_next (listed' := #[true, true, true, true, true, true, false, false]) rfl (by intro _ _; (intro _ h; (exact h.sl (by (repeat (first | exact Sl.refl _ | refine Sl.skip ?_)))))) ?_
            refine st_take 6 rfl (by decide +kernel) (listed' := #[true, true, true, true, true, true, true, false]) rfl (by (intro _ h; (exact h.sl (by (repeat (first | exact Sl.refl _ | refine Sl.skip ?_)))))) (gv_fieldAddr fo_46_3 rfl rfl) ?_
            refine st_one 7 rfl (by decide +kernel) ?_
            refine s_store (i := 2) Tryz.sizeOf42 rfl rfl rfl (vs := [_]) rfl rfl rfl rfl ?_
            simp only [List.set_cons_zero, List.set_cons_succ, spl]
            refine st_next (listed' := #[true, true, true, true, true, true, true, true]) rfl (by intro e; cases e) ?_
            refine st_doneK (fr' := [(0, _), (2, _), (5, _), (6, _), (7, _)]) (by decide +kernel) rfl ?_
            refine KSs_wp ?_
            refine WPs_seq ?_
            refine WPs_seq ?_
            refine WPs_regionK [0, 2, 5, 6, 7, 43] ?_
            refine SXs_rd (T := 5) 0 rfl (fun hRa => ?_)
            refine SXs_rd (T := 5) 1 rfl (fun hRb => ?_)
            refine s_loadN Tryz.isAgg46 Tryz.sizeOf46 (vs := [_, _, _, _, _, _]) rfl rfl (by exact csin (i := 2) (k := 6) rfl rfl) rfl ?_
            refine s_call Tryz.call23 rfl (vs := [_]) rfl (RCs.perm (by (repeat ((exact List.Perm.refl _)))) (recMay_len (r := r) (kb := List.replicate r.key.length 0) (vb := List.replicate r.value.length 0) (by simp) (by simp) (by (exact rdz hRb)) (by (exact rdz hRa)) hok)) ?_
            rintro v w ⟨rfl, hS⟩
            refine SXs_go hS ?_
            clear hS; clear w
            simp only [putF]
            refine s_not rfl rfl ?_
            refine SXs_nilK (fr' := [(0, _), (2, _), (5, _), (6, _), (7, _), (43, _)]) rfl ?_
            refine KSs_wp ?_
            refine WPs_cond rfl (fun hc3 => ?_) (fun hc3 => ?_)
            · (exfalso; (cases hc3; done))
            · simp only [Bool.not_true] at hc3
              refine WPs_skip ?_
              refine KSs_wp ?_
              refine WPs_seq ?_
              refine WPs_regionK [0, 2, 5, 6, 7, 9] ?_
              refine s_loadN Tryz.isAgg46 Tryz.sizeOf46 (vs := [_, _, _, _, _, _]) rfl rfl (by exact csin (i := 2) (k := 6) rfl rfl) rfl ?_
              refine s_call Tryz.call41 rfl (vs := [_]) rfl (RCs.perm (by (repeat ((exact List.Perm.refl _)))) (recSize_spec (r := r) (by omega) (by omega))) ?_
              rintro v w ⟨rfl, hS⟩
              refine SXs_go hS ?_
              clear hS; clear w
              simp only [putF]
              refine s_assign rfl rfl ?_
              refine SXs_nilK (fr' := [(0, _), (2, _), (5, _), (6, _), (7, _), (9, _)]) rfl ?_
              refine KSs_wp ?_
              refine WPs_seq ?_
              refine WPs_block ?_
              refine WPs_seq ?_
              refine WPs_regionK [0, 2, 5, 6, 7, 9, 51] ?_
              refine s_move rfl rfl ?_
              refine s_lenRd rfl Tryz.underlying42 rfl rfl (by ((apply RdIn.cons; apply RdIn.cons; apply RdIn.cons; apply RdIn.cons; assumption))) ?_
              refine s_move rfl rfl ?_
              refine s_lss rfl rfl rfl ?_
              refine s_assign rfl rfl ?_
              refine SXs_nilK (fr' := [(0, _), (2, _), (5, _), (6, _), (7, _), (9, _), (51, _)]) rfl ?_
              refine KSs_wp ?_
              refine WPs_cond rfl (fun hc4 => ?_) (fun hc4 => ?_)
              · simp only [decide_eq_true_eq] at hc4
                refine WPs_seq ?_
                refine WPs_regionK [2, 3, 4] ?_
                refine s_move rfl rfl ?_
                refine s_callV (vs := [_, _]) Tryz.call83 rfl rfl rfl rfl (RCs.perm (by (repeat ((exact List.Perm.refl _)))) (get_fails)) ?_
                rintro v w ⟨rfl, hS⟩
                refine SXs_go hS ?_
                clear hS; clear w
                simp only [putF]
                refine s_extract rfl rfl rfl ?_
                refine s_extract rfl rfl rfl ?_
                refine s_extract rfl rfl rfl ?_
                refine s_store (i := 3) Tryz.sizeOf46 rfl rfl rfl (vs := [_, _, _, _, _, _]) rfl rfl rfl rfl ?_
                simp only [List.set_cons_zero, List.set_cons_succ, spl]
                refine s_assign rfl rfl ?_
                refine s_assign rfl rfl ?_
                refine SXs_nilK (fr' := [(2, _), (3, _), (4, _)]) rfl ?_
                refine KSs_wp ?_
                refine WPs_ret ?_
                refine RLs_start ?_
                refine RLs_cellN Tryz.isAgg46 Tryz.sizeOf46 (cs := [_, _, _, _, _, _]) rfl (by exact csin (i := 3) (k := 6) rfl rfl) rfl ?_
                refine RLs_tmp rfl ?_
                refine RLs_tmp rfl ?_
                refine RLs_fin3 ?_
                exact fun w hS => ⟨_, _, rfl, fun h => absurd h hl, fun _ => ⟨rfl, rfl⟩, hS.sl (by (repeat (first | exact Sl.refl _ | refine Sl.skip ?_)))⟩
              · (exfalso; (simp only [decide_eq_false_iff_not] at hc4; omega))
          ·
            refine s_store (i := 1) Tryz.sizeOf42 rfl rfl rfl (vs := [_]) rfl rfl rfl rfl ?_
            simp only [List.set_cons_zero, List.set_cons_succ, spl]
            refine st_next (listed' := #[true, true, true, false, true, true, false, false]) rfl (by intro _ _; (intro _ h; (exact h.tail.tail.tail))) ?_
            refine st_one 3 rfl (by decide +kernel) ?_
            refine s_makeSlice slt_42 rfl rfl rfl rfl (by ((simp only [maxLen]; omega))) (by ((omega))) (fun va38 vc38 => ?_)
            refine st_next (listed' := #[true, true, true, true, true, true, false, false]) rfl (by intro _ _; (intro _ h; (exact h.sl (by (repeat (first | exact Sl.refl _ | refine Sl.skip ?_)))))) ?_
            refine st_take 6 rfl (by decide +kernel) (listed' := #[true, true, true, true, true, true, true, false]) rfl (by (intro _ h; (exact h.sl (by (repeat (first | exact Sl.refl _ | refine Sl.skip ?_)))))) (gv_fieldAddr fo_46_3 rfl rfl) ?_
            refine st_one 7 rfl (by decide +kernel) ?_
            refine s_store (i := 2) Tryz.sizeOf42 rfl rfl rfl (vs := [_]) rfl rfl rfl rfl ?_
            simp only [List.set_cons_zero, List.set_cons_succ, spl]
            refine st_next (listed' := #[true, true, true, true, true, true, true, true]) rfl (by intro e; cases e) ?_
            refine st_doneK (fr' := [(0, _), (2, _), (5, _), (6, _), (7, _)]) (by decide +kernel) rfl ?_
            refine KSs_wp ?_
            refine WPs_seq ?_
            refine WPs_seq ?_
            refine WPs_regionK [0, 2, 5, 6, 7, 43] ?_
            refine SXs_rd (T := 5) 0 rfl (fun hRa => ?_)
            refine SXs_rd (T := 5) 1 rfl (fun hRb => ?_)
            refine s_loadN Tryz.isAgg46 Tryz.sizeOf46 (vs := [_, _, _, _, _, _]) rfl rfl (by exact csin (i := 2) (k := 6) rfl rfl) rfl ?_
            refine s_call Tryz.call23 rfl (vs := [_]) rfl (RCs.perm (by (repeat ((exact List.Perm.refl _)))) (recMay_len (r := r) (kb := List.replicate r.key.length 0) (vb := List.replicate r.value.length 0) (by simp) (by simp) (by (exact rdz hRb)) (by (exact rdz hRa)) hok)) ?_
            rintro v w ⟨rfl, hS⟩
            refine SXs_go hS ?_
            clear hS; clear w
            simp only [putF]
            refine s_not rfl rfl ?_
            refine SXs_nilK (fr' := [(0, _), (2, _), (5, _), (6, _), (7, _), (43, _)]) rfl ?_
            refine KSs_wp ?_
            refine WPs_cond rfl (fun hc6 => ?_) (fun hc6 => ?_)
            · (exfalso; (cases hc6; done))
            · simp only [Bool.not_true] at hc6
              refine WPs_skip ?_
              refine KSs_wp ?_
              refine WPs_seq ?_
              refine WPs_regionK [0, 2, 5, 6, 7, 9] ?_
              refine s_loadN Tryz.isAgg46 Tryz.sizeOf46 (vs := [_, _, _, _, _, _]) rfl rfl (by exact csin (i := 2) (k := 6) rfl rfl) rfl ?_
              refine s_call Tryz.call41 rfl (vs := [_]) rfl (RCs.perm (by (repeat ((exact List.Perm.refl _)))) (recSize_spec (r := r) (by omega) (by omega))) ?_
              rintro v w ⟨rfl, hS⟩
              refine SXs_go hS ?_
              clear hS; clear w
              simp only [putF]
              refine s_assign rfl rfl ?_
              refine SXs_nilK (fr' := [(0, _), (2, _), (5, _), (6, _), (7, _), (9, _)]) rfl ?_
              refine KSs_wp ?_
              refine WPs_seq ?_
              refine WPs_block ?_
              refine WPs_seq ?_
              refine WPs_regionK [0, 2, 5, 6, 7, 9, 51] ?_
              refine s_move rfl rfl ?_
              refine s_lenRd rfl Tryz.underlying42 rfl rfl (by ((apply RdIn.cons; apply RdIn.cons; apply RdIn.cons; apply RdIn.cons; assumption))) ?_
              refine s_move rfl rfl ?_
              refine s_lss rfl rfl rfl ?_
              refine s_assign rfl rfl ?_
              refine SXs_nilK (fr' := [(0, _), (2, _), (5, _), (6, _), (7, _), (9, _), (51, _)]) rfl ?_
              refine KSs_wp ?_
              refine WPs_cond rfl (fun hc7 => ?_) (fun hc7 => ?_)
              · simp only [decide_eq_true_eq] at hc7
                refine WPs_seq ?_
                refine WPs_regionK [2, 3, 4] ?_
                refine s_move rfl rfl ?_
                refine s_callV (vs := [_, _]) Tryz.call83 rfl rfl rfl rfl (RCs.perm (by (repeat ((exact List.Perm.refl _)))) (get_fails)) ?_
                rintro v w ⟨rfl, hS⟩
                refine SXs_go hS ?_
                clear hS; clear w
                simp only [putF]
                refine s_extract rfl rfl rfl ?_
                refine s_extract rfl rfl rfl ?_
                refine s_extract rfl rfl rfl ?_
                refine s_store (i := 3) Tryz.sizeOf46 rfl rfl rfl (vs := [_, _, _, _, _, _]) rfl rfl rfl rfl ?_
                simp only [List.set_cons_zero, List.set_cons_succ, spl]
                refine s_assign rfl rfl ?_
                refine s_assign rfl rfl ?_
                refine SXs_nilK (fr' := [(2, _), (3, _), (4, _)]) rfl ?_
                refine KSs_wp ?_
                refine WPs_ret ?_
                refine RLs_start ?_
                refine RLs_cellN Tryz.isAgg46 Tryz.sizeOf46 (cs := [_, _, _, _, _, _]) rfl (by exact csin (i := 3) (k := 6) rfl rfl) rfl ?_
                refine RLs_tmp rfl ?_
                refine RLs_tmp rfl ?_
                refine RLs_fin3 ?_
                exact fun w hS => ⟨_, _, rfl, fun h => absurd h hl, fun _ => ⟨rfl, rfl⟩, hS.sl (by (repeat (first | exact Sl.refl _ | refine Sl.skip ?_)))⟩
              · (exfalso; (simp only [decide_eq_false_iff_not] at hc7; omega))
        ·
          refine s_makeSlice slt_42 rfl rfl rfl rfl (by ((simp only [maxLen]; omega))) (by ((omega))) (fun va38 vc38 => ?_)
          refine st_next (listed' := #[true, false, true, true, false, false, false, false]) rfl (by intro _ _; (intro _ h; (exact h.tail.tail.tail))) ?_
          refine st_one 1 rfl (by decide +kernel) ?_
          refine s_makeSlice slt_42 rfl rfl rfl rfl (by ((simp only [maxLen]; omega))) (by ((omega))) (fun va36 vc36 => ?_)
          refine st_next (listed' := #[true, true, true, true, false, false, false, false]) rfl (by intro _ _; (intro _ h; (exact h.sl (by (repeat (first | exact Sl.refl _ | refine Sl.skip ?_)))))) ?_
          refine st_take 4 rfl (by decide +kernel) (listed' := #[true, true, true, true, true, false, false, false]) rfl (by (intro _ h; (exact h.sl (by (repeat (first | exact Sl.refl _ | refine Sl.skip ?_)))))) (gv_fieldAddr fo_46_2 rfl rfl) ?_
          refine st_one 5 rfl (by decide +kernel) ?_
          refine s_store (i := 2) Tryz.sizeOf42 rfl rfl rfl (vs := [_]) rfl rfl rfl rfl ?_
          simp only [List.set_cons_zero, List.set_cons_succ, spl]
          refine st_next (listed' := #[true, true, true, true, true, true, false, false]) rfl (by intro _ _; (intro _ h; (exact h.sl (by (repeat (first | exact Sl.refl _ | refine Sl.skip ?_)))))) ?_
          refine st_take 6 rfl (by decide +kernel) (listed' := #[true, true, true, true, true, true, true, false]) rfl (by (intro _ h; (exact h.sl (by (repeat (first | exact Sl.refl _ | refine Sl.skip ?_)))))) (gv_fieldAddr fo_46_3 rfl rfl) ?_
          refine st_one 7 rfl (by decide +kernel) ?_
          refine s_store (i := 2) Tryz.sizeOf42 rfl rfl rfl (vs := [_]) rfl rfl rfl rfl ?_
          simp only [List.set_cons_zero, List.set_cons_succ, spl]
          refine st_next (listed' := #[true, true, true, true, true, true, true, true]) rfl (by intro e; cases e) ?_
          refine st_doneK (fr' := [(0, _), (2, _), (5, _), (6, _), (7, _)]) (by decide +kernel) rfl ?_
          refine KSs_wp ?_
          refine WPs_seq ?_
          refine WPs_seq ?_
          refine WPs_regionK [0, 2, 5, 6, 7, 43] ?_
          refine SXs_rd (T := 5) 0 rfl (fun hRa => ?_)
          refine SXs_rd (T := 5) 1 rfl (fun hRb => ?_)
          refine s_loadN Tryz.isAgg46 Tryz.sizeOf46 (vs := [_, _, _, _, _, _]) rfl rfl (by exact csin (i := 2) (k := 6) rfl rfl) rfl ?_
          refine s_call Tryz.call23 rfl (vs := [_]) rfl (RCs.perm (by (repeat ((exact List.Perm.refl _)))) (recMay_len (r := r) (kb := List.replicate r.key.length 0) (vb := List.replicate r.value.length 0) (by simp) (by simp) (by (exact rdz hRa)) (by (exact rdz hRb)) hok)) ?_
          rintro v w ⟨rfl, hS⟩
          refine SXs_go hS ?_
          clear hS; clear w
          simp only [putF]
          refine s_not rfl rfl ?_
          refine SXs_nilK (fr' := [(0, _), (2, _), (5, _), (6, _), (7, _), (43, _)]) rfl ?_
          refine KSs_wp ?_
          refine WPs_cond rfl (fun hc9 => ?_) (fun hc9 => ?_)
          · (exfalso; (cases hc9; done))
          · simp only [Bool.not_true] at hc9
            refine WPs_skip ?_
            refine KSs_wp ?_
            refine WPs_seq ?_
            refine WPs_regionK [0, 2, 5, 6, 7, 9] ?_
            refine s_loadN Tryz.isAgg46 Tryz.sizeOf46 (vs := [_, _, _, _, _, _]) rfl rfl (by exact csin (i := 2) (k := 6) rfl rfl) rfl ?_
            refine s_call Tryz.call41 rfl (vs := [_]) rfl (RCs.perm (by (repeat ((exact List.Perm.refl _)))) (recSize_spec (r := r) (by omega) (by omega))) ?_
            rintro v w ⟨rfl, hS⟩
            refine SXs_go hS ?_
            clear hS; clear w
            simp only [putF]
            refine s_assign rfl rfl ?_
            refine SXs_nilK (fr' := [(0, _), (2, _), (5, _), (6, _), (7, _), (9, _)]) rfl ?_
            refine KSs_wp ?_
            refine WPs_seq ?_
            refine WPs_block ?_
            refine WPs_seq ?_
            refine WPs_regionK [0, 2, 5, 6, 7, 9, 51] ?_
            refine s_move rfl rfl ?_
            refine s_lenRd rfl Tryz.underlying42 rfl rfl (by ((apply RdIn.cons; apply RdIn.cons; apply RdIn.cons; apply RdIn.cons; assumption))) ?_
            refine s_move rfl rfl ?_
            refine s_lss rfl rfl rfl ?_
            refine s_assign rfl rfl ?_
            refine SXs_nilK (fr' := [(0, _), (2, _), (5, _), (6, _), (7, _), (9, _), (51, _)]) rfl ?_
            refine KSs_wp ?_
            refine WPs_cond rfl (fun hc10 => ?_) (fun hc10 => ?_)
            · simp only [decide_eq_true_eq] at hc10
              refine WPs_seq ?_
              refine WPs_regionK [2, 3, 4] ?_
              refine s_move rfl rfl ?_
              refine s_callV (vs := [_, _]) Tryz.call83 rfl rfl rfl rfl (RCs.perm (by (repeat ((exact List.Perm.refl _)))) (get_fails)) ?_
              rintro v w ⟨rfl, hS⟩
              refine SXs_go hS ?_
              clear hS; clear w
              simp only [putF]
              refine s_extract rfl rfl rfl ?_
              refine s_extract rfl rfl rfl ?_
              refine s_extract rfl rfl rfl ?_
              refine s_store (i := 3) Tryz.sizeOf46 rfl rfl rfl (vs := [_, _, _, _, _, _]) rfl rfl rfl rfl ?_
              simp only [List.set_cons_zero, List.set_cons_succ, spl]
              refine s_assign rfl rfl ?_
              refine s_assign rfl rfl ?_
              refine SXs_nilK (fr' := [(2, _), (3, _), (4, _)]) rfl ?_
              refine KSs_wp ?_
              refine WPs_ret ?_
              refine RLs_start ?_
              refine RLs_cellN Tryz.isAgg46 Tryz.sizeOf46 (cs := [_, _, _, _, _, _]) rfl (by exact csin (i := 3) (k := 6) rfl rfl) rfl ?_
              refine RLs_tmp rfl ?_
              refine RLs_tmp rfl ?_
              refine RLs_fin3 ?_
              exact fun w hS => ⟨_, _, rfl, fun h => absurd h hl, fun _ => ⟨rfl, rfl⟩, hS.sl (by (repeat (first | exact Sl.refl _ | refine Sl.skip ?_)))⟩
            · (exfalso; (simp only [decide_eq_false_iff_not] at hc10; omega))
set_option maxHeartbeats 1000000 in
/-- Too few bytes for a head. -/
theorem get_short {g : World} {F : List HP} {v : Value} {xs : List UInt8} (hR : RdB g F v xs) (h : xs.length < 21) :
    RCs Tryz.prog 36 [v] g F (fun u w => u = .tuple #[.agg [.int .u64 0, .int .i64 0, .slice none 0 0, .slice none 0 0, .int .u32 0, .int .u32 0].toArray, .int .i64 0, .int .i64 22] ∧ St g w F) := by
  refine RCs_of_WPs Tryz.func36 rfl Tryz.ntmps36 rfl Tryz.results36 ?_
  refine WPs_seq ?_
  refine WPs_regionK [0, 2] ?_
  refine s_alloc Tryz.zeroValue46 (cl := [_, _, _, _, _, _]) rfl rfl (fun b2 => ?_)
  refine s_assign rfl rfl ?_
  refine s_assign rfl rfl ?_
  refine SXs_nilK (fr' := [(0, _), (2, _)]) rfl ?_
  refine KSs_wp ?_
  refine WPs_seq ?_
  refine WPs_regionK [0, 2, 5] ?_
  refine s_assign rfl rfl ?_
  refine SXs_nilK (fr' := [(0, _), (2, _), (5, _)]) rfl ?_
  refine KSs_wp ?_
  refine WPs_seq ?_
  refine WPs_block ?_
  refine WPs_seq ?_
  refine WPs_regionK [0, 2, 5, 10] ?_
  refine s_move rfl rfl ?_
  refine s_lenRd rfl Tryz.underlying42 rfl rfl (by ((apply RdIn.cons; assumption))) ?_
  refine s_lss rfl rfl rfl ?_
  refine s_assign rfl rfl ?_
  refine SXs_nilK (fr' := [(0, _), (2, _), (5, _), (10, _)]) rfl ?_
  refine KSs_wp ?_
  refine WPs_cond rfl (fun hc1 => ?_) (fun hc1 => ?_)
  · simp only [decide_eq_true_eq] at hc1
    refine WPs_seq ?_
    refine WPs_regionK [2, 3, 4] ?_
    refine s_move rfl rfl ?_
    refine s_callV (vs := [_, _]) Tryz.call83 rfl rfl rfl rfl (RCs.perm (by (repeat ((exact List.Perm.refl _)))) (get_fails)) ?_
    rintro v w ⟨rfl, hS⟩
    refine SXs_go hS ?_
    clear hS; clear w
    simp only [putF]
    refine s_extract rfl rfl rfl ?_
    refine s_extract rfl rfl rfl ?_
    refine s_extract rfl rfl rfl ?_
    refine s_store (i := 0) Tryz.sizeOf46 rfl rfl rfl (vs := [_, _, _, _, _, _]) rfl rfl rfl rfl ?_
    simp only [List.set_cons_zero, List.set_cons_succ, spl]
    refine s_assign rfl rfl ?_
    refine s_assign rfl rfl ?_
    refine SXs_nilK (fr' := [(2, _), (3, _), (4, _)]) rfl ?_
    refine KSs_wp ?_
    refine WPs_ret ?_
    refine RLs_start ?_
    refine RLs_cellN Tryz.isAgg46 Tryz.sizeOf46 (cs := [_, _, _, _, _, _]) rfl (by exact csin (i := 0) (k := 6) rfl rfl) rfl ?_
    refine RLs_tmp rfl ?_
    refine RLs_tmp rfl ?_
    refine RLs_fin3 ?_
    exact fun w hS => ⟨rfl, hS.sl (by (repeat (first | exact Sl.refl _ | refine Sl.skip ?_)))⟩
  · (exfalso; (simp only [decide_eq_false_iff_not] at hc1; omega))
theorem bytes_dec (xs ys : List UInt8) : decide ((ByteArray.mk xs.toArray) = ByteArray.mk ys.toArray) = decide (xs = ys) := by
  rw [Bool.eq_iff_iff]
  simp
theorem bytesEqual_spec {g : World} {F : List HP} {v u : Value} {xs ys : List UInt8} (hR : RdB g F v xs) (hR2 : RdB g F u ys) :
    RCs Tryz.prog 37 [v, u] g F (fun r w => r = .bool (decide (xs = ys)) ∧ St g w F) := by
  refine RCs_of_WPs Tryz.func37 rfl Tryz.ntmps37 rfl Tryz.results37 ?_
  refine WPs_seq ?_
  refine WPs_regionK [0, 1] ?_
  refine s_assign rfl rfl ?_
  refine SXs_nilK (fr' := [(0, _), (1, _)]) rfl ?_
  refine KSs_wp ?_
  refine WPs_seq ?_
  refine WPs_regionK [4] ?_
  refine s_move rfl rfl ?_
  refine c_b2s (bs := xs) Tryz.underlying42 Tryz.underlying5 Tryz.underlying9 rfl rfl hR ?_
  refine s_move rfl rfl ?_
  refine c_b2s (bs := ys) Tryz.underlying42 Tryz.underlying5 Tryz.underlying9 rfl rfl hR2 ?_
  refine s_eql_str rfl rfl rfl ?_
  refine s_assign rfl rfl ?_
  refine SXs_nilK (fr' := [(4, _)]) rfl ?_
  refine KSs_wp ?_
  refine WPs_ret ?_
  refine RLs_start ?_
  refine RLs_tmp rfl ?_
  refine RLs_fin1 ?_
  exact fun w hS => ⟨by rw [bytes_dec], hS⟩
theorem bytesEqual_yes {g : World} {F : List HP} {v u : Value} {xs : List UInt8} (hR : RdB g F v xs) (hR2 : RdB g F u xs) :
    RCs Tryz.prog 37 [v, u] g F (fun r w => r = .bool true ∧ St g w F) := (bytesEqual_spec hR hR2).mono fun r w ⟨h1, h2⟩ => ⟨by rw [h1]; simp, h2⟩

set_option maxHeartbeats 1000000 in
theorem same_yes {g : World} {F : List HP} {r : RecM} {ka va kb vb : Option Addr} {kc vc kd vd : Nat} (hK : RdB g F (.slice ka r.key.length kc) r.key) (hV : RdB g F (.slice va r.value.length vc) r.value) (hK2 : RdB g F (.slice kb r.key.length kd) r.key) (hV2 : RdB g F (.slice vb r.value.length vd) r.value) :
    RCs Tryz.prog 14 [.agg [.int .u64 (r.seq : Int), .int .i64 r.kind, .slice ka r.key.length kc, .slice va r.value.length vc, .int .u32 (r.ps : Int), .int .u32 (r.po : Int)].toArray,
      .agg [.int .u64 (r.seq : Int), .int .i64 r.kind, .slice kb r.key.length kd, .slice vb r.value.length vd, .int .u32 (r.ps : Int), .int .u32 (r.po : Int)].toArray] g F (fun u w => u = .bool true ∧ St g w F) := by
  refine RCs_of_WPs Tryz.func14 rfl Tryz.ntmps14 rfl Tryz.results14 ?_
  refine WPs_seq ?_
  refine WPs_regionK [2, 3] ?_
  refine s_box (cl := [_, _, _, _, _, _]) rfl rfl rfl (fun b2 => ?_)
  refine s_box (cl := [_, _, _, _, _, _]) rfl rfl rfl (fun b3 => ?_)
  refine s_assign rfl rfl ?_
  refine SXs_nilK (fr' := [(2, _), (3, _)]) rfl ?_
  refine KSs_wp ?_
  refine WPs_seq ?_
  refine WPs_regionK [4] ?_
  refine s_fieldAddr fo_46_0 rfl rfl ?_
  refine s_load1 Tryz.isAgg36 rfl rfl (by exact cin (i := 1) rfl rfl) ?_
  refine s_fieldAddr fo_46_0 rfl rfl ?_
  refine s_load1 Tryz.isAgg36 rfl rfl (by exact cin (i := 0) rfl rfl) ?_
  refine s_eql rfl rfl rfl ?_
  refine s_move rfl rfl ?_
  refine s_guard rfl rfl rfl (fun hc1 => ?_) (fun hc1 => ?_)
  · simp only [decide_eq_true_eq] at hc1
    refine s_fieldAddr fo_46_1 rfl rfl ?_
    refine s_guard_t2 rfl rfl (by ((simp_all; done))) rfl ?_
    refine s_load1 Tryz.isAgg3 rfl rfl (by exact cin (i := 1) rfl rfl) ?_
    refine s_guard_t2 rfl rfl (by ((simp_all; done))) rfl ?_
    refine s_fieldAddr fo_46_1 rfl rfl ?_
    refine s_guard_t2 rfl rfl (by ((simp_all; done))) rfl ?_
    refine s_load1 Tryz.isAgg3 rfl rfl (by exact cin (i := 0) rfl rfl) ?_
    refine s_guard_t2 rfl rfl (by ((simp_all; done))) rfl ?_
    refine s_eql rfl rfl rfl ?_
    refine s_pickB rfl rfl rfl rfl ?_
    refine s_move rfl rfl ?_
    refine s_guard rfl rfl rfl (fun hc2 => ?_) (fun hc2 => ?_)
    · simp only [decide_eq_true_eq] at hc2
      refine s_fieldAddr fo_46_4 rfl rfl ?_
      refine s_guard_t2 rfl rfl (by ((simp_all; done))) rfl ?_
      refine s_loadN Tryz.isAgg44 Tryz.sizeOf44 (vs := [_, _]) rfl rfl (by exact csin (i := 1) (k := 2) rfl rfl) rfl ?_
      refine s_guard_t2 rfl rfl (by ((simp_all; done))) rfl ?_
      refine s_fieldAddr fo_46_4 rfl rfl ?_
      refine s_guard_t2 rfl rfl (by ((simp_all; done))) rfl ?_
      refine s_loadN Tryz.isAgg44 Tryz.sizeOf44 (vs := [_, _]) rfl rfl (by exact csin (i := 0) (k := 2) rfl rfl) rfl ?_
      refine s_guard_t2 rfl rfl (by ((simp_all; done))) rfl ?_
      refine s_eqlV rfl rfl rfl (eq_loc _ _ _ _) ?_
      refine s_pickB rfl rfl rfl rfl ?_
      refine s_move rfl rfl ?_
      refine s_guard rfl rfl rfl (fun hc3 => ?_) (fun hc3 => ?_)
      · simp only [decide_eq_true_eq] at hc3
        refine s_fieldAddr fo_46_2 rfl rfl ?_
        refine s_guard_t2 rfl rfl (by ((simp_all; done))) rfl ?_
        refine s_load1 Tryz.isAgg42 rfl rfl (by exact cin (i := 1) rfl rfl) ?_
        refine s_guard_t2 rfl rfl (by ((simp_all; done))) rfl ?_
        refine s_fieldAddr fo_46_2 rfl rfl ?_
        refine s_guard_t2 rfl rfl (by ((simp_all; done))) rfl ?_
        refine s_load1 Tryz.isAgg42 rfl rfl (by exact cin (i := 0) rfl rfl) ?_
        refine s_guard_t2 rfl rfl (by ((simp_all; done))) rfl ?_
        refine s_call Tryz.call37 rfl (vs := [_, _]) rfl (RCs.perm (by (repeat ((exact List.Perm.refl _)))) (bytesEqual_yes hK.cons.cons hK2.cons.cons)) ?_
        rintro v w ⟨rfl, hS⟩
        refine SXs_go hS ?_
        clear hS; clear w
        simp only [putF]
        refine s_pick_t rfl rfl rfl ?_
        refine s_move rfl rfl ?_
        refine s_guard rfl rfl rfl (fun hc4 => ?_) (fun hc4 => ?_)
        · simp only [decide_eq_true_eq] at hc4
          refine s_fieldAddr fo_46_3 rfl rfl ?_
          refine s_guard_t2 rfl rfl (by ((rfl))) rfl ?_
          refine s_load1 Tryz.isAgg42 rfl rfl (by exact cin (i := 1) rfl rfl) ?_
          refine s_guard_t2 rfl rfl (by ((rfl))) rfl ?_
          refine s_fieldAddr fo_46_3 rfl rfl ?_
          refine s_guard_t2 rfl rfl (by ((rfl))) rfl ?_
          refine s_load1 Tryz.isAgg42 rfl rfl (by exact cin (i := 0) rfl rfl) ?_
          refine s_guard_t2 rfl rfl (by ((rfl))) rfl ?_
          refine s_call Tryz.call37 rfl (vs := [_, _]) rfl (RCs.perm (by (repeat ((exact List.Perm.refl _)))) (bytesEqual_yes hV.cons.cons hV2.cons.cons)) ?_
          rintro v w ⟨rfl, hS⟩
          refine SXs_go hS ?_
          clear hS; clear w
          simp only [putF]
          refine s_pick_t rfl rfl rfl ?_
          refine s_assign rfl rfl ?_
          refine SXs_nilK (fr' := [(4, _)]) rfl ?_
          refine KSs_wp ?_
          refine WPs_ret ?_
          refine RLs_start ?_
          refine RLs_tmp rfl ?_
          refine RLs_fin1 ?_
          exact fun w hS => ⟨by (rfl), hS.sl (by (repeat (first | exact Sl.refl _ | refine Sl.skip ?_)))⟩
        · (exfalso; (cases hc4; done))
      · (exfalso; (simp at hc3; done))
    · (exfalso; (simp at hc2; done))
  · (exfalso; (simp at hc1; done))
end Go.Proofs.YthodbnmeggkkoaaGreatDoor
/-
  Package head: may, Put.
-/
namespace Go.Proofs.YthodbnmeggkkoaaGreatDoor
open Go Go.RowKit Go.Hb Go.Proofs
def mayH (kind id : Nat) : Prop := (kind = 2 ∧ id = 0) ∨ (kind = 1 ∧ 1 ≤ id ∧ id ≤ 16777215)
instance (a b : Nat) : Decidable (mayH a b) := by unfold mayH; infer_instance
theorem head_may {g : World} {F : List HP} {kind id : Nat} : RCs Tryz.prog 111 [.int .i64 (kind : Int), .int .u32 (id : Int)] g F (fun u w => u = .bool (decide (mayH kind id)) ∧ St g w F) := by
  refine RCs_of_WPs Tryz.func111 rfl Tryz.ntmps111 rfl Tryz.results111 ?_
  refine WPs_seq ?_
  refine WPs_regionK [0, 1] ?_
  refine s_assign rfl rfl ?_
  refine SXs_nilK (fr' := [(0, _), (1, _)]) rfl ?_
  refine KSs_wp ?_
  refine WPs_seq ?_
  refine WPs_regionK [4] ?_
  refine s_move rfl rfl ?_
  refine s_eql rfl rfl rfl ?_
  refine s_move rfl rfl ?_
  refine s_guard rfl rfl rfl (fun hc1 => ?_) (fun hc1 => ?_)
  · simp only [decide_eq_true_eq] at hc1
    refine s_move rfl rfl ?_
    refine s_guard_t2 rfl rfl (by ((simp; assumption))) rfl ?_
    refine s_eql rfl rfl rfl ?_
    refine s_pickB rfl rfl rfl rfl ?_
    refine s_move rfl rfl ?_
    refine s_guard rfl rfl rfl (fun hc2 => ?_) (fun hc2 => ?_)
    · refine s_move rfl rfl ?_
      refine s_guard_t2 rfl rfl (by ((assumption))) rfl ?_
      refine s_eql rfl rfl rfl ?_
      refine s_guard_t2 rfl rfl (by ((assumption))) rfl ?_
      refine s_move rfl rfl ?_
      refine s_guard rfl rfl rfl (fun hc3 => ?_) (fun hc3 => ?_)
      · (exfalso; (simp only [decide_eq_true_eq] at hc3; omega))
      · simp only [decide_eq_false_iff_not, Bool.not_true] at hc3
        refine s_guard_f rfl rfl (by ((simp; assumption))) rfl ?_
        refine s_guard_t2 rfl rfl (by ((assumption))) rfl ?_
        refine s_pickH_f rfl rfl (by ((simp; assumption))) rfl ?_
        refine s_guard_t2 rfl rfl (by ((assumption))) rfl ?_
        refine s_move rfl rfl ?_
        refine s_guard rfl rfl rfl (fun hc5 => ?_) (fun hc5 => ?_)
        · (exfalso; (cases hc5; done))
        · simp only [Bool.not_true] at hc5
          refine s_guard_f rfl rfl (by ((rfl))) rfl ?_
          refine s_guard_t2 rfl rfl (by ((assumption))) rfl ?_
          refine s_pick_f rfl rfl rfl ?_
          refine s_pickB rfl rfl rfl rfl ?_
          refine s_assign rfl rfl ?_
          refine SXs_nilK (fr' := [(4, _)]) rfl ?_
          refine KSs_wp ?_
          refine WPs_ret ?_
          refine RLs_start ?_
          refine RLs_tmp rfl ?_
          refine RLs_fin1 ?_
          exact fun w hS => ⟨by clear hS; congr 1; rw [Bool.eq_iff_iff, decide_eq_true_eq]; unfold mayH; (simp at *; omega), hS⟩
    · simp only [Bool.not_false] at hc2
      refine s_guard_f rfl rfl (by ((assumption))) rfl ?_
      refine s_guard_f rfl rfl (by ((assumption))) rfl ?_
      refine s_guard_u rfl rfl rfl ?_
      refine s_guard_u rfl rfl rfl ?_
      refine s_guard_f rfl rfl (by ((assumption))) rfl ?_
      refine s_guard_f rfl rfl (by ((assumption))) rfl ?_
      refine s_guard_u rfl rfl rfl ?_
      refine s_guard_u rfl rfl rfl ?_
      refine s_guard_f rfl rfl (by ((assumption))) rfl ?_
      refine s_pickH_t rfl rfl (by ((assumption))) rfl ?_
      refine s_assign rfl rfl ?_
      refine SXs_nilK (fr' := [(4, _)]) rfl ?_
      refine KSs_wp ?_
      refine WPs_ret ?_
      refine RLs_start ?_
      refine RLs_tmp rfl ?_
      refine RLs_fin1 ?_
      exact fun w hS => ⟨by clear hS; congr 1; rw [Bool.eq_iff_iff, decide_eq_true_eq]; unfold mayH; (simp at *; omega), hS⟩
  · simp only [decide_eq_false_iff_not, Bool.not_true] at hc1
    refine s_guard_f rfl rfl (by ((simp; assumption))) rfl ?_
    refine s_pickH_f rfl rfl (by ((simp; assumption))) rfl ?_
    refine s_move rfl rfl ?_
    refine s_guard rfl rfl rfl (fun hc6 => ?_) (fun hc6 => ?_)
    · simp only [decide_eq_true_eq] at hc6
      refine s_move rfl rfl ?_
      refine s_guard_t2 rfl rfl (by ((rfl))) rfl ?_
      refine s_eql rfl rfl rfl ?_
      refine s_guard_t2 rfl rfl (by ((rfl))) rfl ?_
      refine s_move rfl rfl ?_
      refine s_guard rfl rfl rfl (fun hc7 => ?_) (fun hc7 => ?_)
      · simp only [decide_eq_true_eq] at hc7
        refine s_move rfl rfl ?_
        refine s_guard_t2 rfl rfl (by ((simp; assumption))) rfl ?_
        refine s_geq rfl rfl rfl ?_
        refine s_guard_t2 rfl rfl (by ((rfl))) rfl ?_
        refine s_pickB rfl rfl rfl rfl ?_
        refine s_guard_t2 rfl rfl (by ((rfl))) rfl ?_
        refine s_move rfl rfl ?_
        refine s_guard rfl rfl rfl (fun hc8 => ?_) (fun hc8 => ?_)
        · refine s_move rfl rfl ?_
          refine s_guard_t2 rfl rfl (by ((assumption))) rfl ?_
          refine s_leq rfl rfl rfl ?_
          refine s_guard_t2 rfl rfl (by ((rfl))) rfl ?_
          refine s_pickB rfl rfl rfl rfl ?_
          refine s_pick_f rfl rfl rfl ?_
          refine s_assign rfl rfl ?_
          refine SXs_nilK (fr' := [(4, _)]) rfl ?_
          refine KSs_wp ?_
          refine WPs_ret ?_
          refine RLs_start ?_
          refine RLs_tmp rfl ?_
          refine RLs_fin1 ?_
          exact fun w hS => ⟨by clear hS; congr 1; rw [Bool.eq_iff_iff, decide_eq_true_eq]; unfold mayH; (simp at *; omega), hS⟩
        · simp only [Bool.not_true] at hc8
          refine s_guard_f rfl rfl (by ((assumption))) rfl ?_
          refine s_guard_t2 rfl rfl (by ((rfl))) rfl ?_
          refine s_pickH_f rfl rfl (by ((assumption))) rfl ?_
          refine s_pick_f rfl rfl rfl ?_
          refine s_assign rfl rfl ?_
          refine SXs_nilK (fr' := [(4, _)]) rfl ?_
          refine KSs_wp ?_
          refine WPs_ret ?_
          refine RLs_start ?_
          refine RLs_tmp rfl ?_
          refine RLs_fin1 ?_
          exact fun w hS => ⟨by clear hS; congr 1; rw [Bool.eq_iff_iff, decide_eq_true_eq]; unfold mayH; (simp at *; omega), hS⟩
      · simp only [decide_eq_false_iff_not, Bool.not_true] at hc7
        refine s_guard_f rfl rfl (by ((simp; assumption))) rfl ?_
        refine s_guard_t2 rfl rfl (by ((rfl))) rfl ?_
        refine s_pickH_f rfl rfl (by ((simp; assumption))) rfl ?_
        refine s_guard_t2 rfl rfl (by ((rfl))) rfl ?_
        refine s_move rfl rfl ?_
        refine s_guard rfl rfl rfl (fun hc9 => ?_) (fun hc9 => ?_)
        · (exfalso; (cases hc9; done))
        · simp only [Bool.not_true] at hc9
          refine s_guard_f rfl rfl (by ((rfl))) rfl ?_
          refine s_guard_t2 rfl rfl (by ((rfl))) rfl ?_
          refine s_pick_f rfl rfl rfl ?_
          refine s_pick_f rfl rfl rfl ?_
          refine s_assign rfl rfl ?_
          refine SXs_nilK (fr' := [(4, _)]) rfl ?_
          refine KSs_wp ?_
          refine WPs_ret ?_
          refine RLs_start ?_
          refine RLs_tmp rfl ?_
          refine RLs_fin1 ?_
          exact fun w hS => ⟨by clear hS; congr 1; rw [Bool.eq_iff_iff, decide_eq_true_eq]; unfold mayH; (simp at *; omega), hS⟩
    · (exfalso; (cases hc6; done))
def headOf (kind id : Nat) : List UInt8 := cov ((([104, 111, 117, 114, 98, 107, 49] : List UInt8) ++ [UInt8.ofNat kind]) ++ le id 4)
theorem headOf_length (kind id : Nat) : (headOf kind id).length = 16 := by simp [headOf, cov_length, le_length]
theorem head_may_yes {g : World} {F : List HP} {kind id : Nat} (h : mayH kind id) : RCs Tryz.prog 111 [.int .i64 (kind : Int), .int .u32 (id : Int)] g F (fun u w => u = .bool true ∧ St g w F) :=
  head_may.mono fun v w ⟨h1, h2⟩ => ⟨by rw [h1]; simp [h], h2⟩
theorem head_may_no {g : World} {F : List HP} {kind id : Nat} (h : ¬ mayH kind id) : RCs Tryz.prog 111 [.int .i64 (kind : Int), .int .u32 (id : Int)] g F (fun u w => u = .bool false ∧ St g w F) :=
  head_may.mono fun v w ⟨h1, h2⟩ => ⟨by rw [h1]; simp [h], h2⟩

theorem head_put_no {g : World} {F : List HP} {kind id : Nat} (h : ¬ mayH kind id) : RCs Tryz.prog 62 [.int .i64 (kind : Int), .int .u32 (id : Int)] g F (fun u w => u = .tuple #[.slice none 0 0, .int .i64 1] ∧ St g w F) := by
  refine RCs_of_WPs Tryz.func62 rfl Tryz.ntmps62 rfl Tryz.results62 ?_
  refine WPs_seq ?_
  refine WPs_regionK [0, 1] ?_
  refine s_assign rfl rfl ?_
  refine s_assign rfl rfl ?_
  refine SXs_nilK (fr' := [(0, _), (1, _)]) rfl ?_
  refine KSs_wp ?_
  refine WPs_seq ?_
  refine WPs_seq ?_
  refine WPs_regionK [0, 1, 11] ?_
  refine s_move rfl rfl ?_
  refine s_move rfl rfl ?_
  refine s_call Tryz.call111 rfl (vs := [_, _]) rfl (RCs.perm (by (repeat ((exact List.Perm.refl _)))) (head_may_no h)) ?_
  rintro v w ⟨rfl, hS⟩
  refine SXs_go hS ?_
  clear hS; clear w
  simp only [putF]
  refine s_not rfl rfl ?_
  refine SXs_nilK (fr' := [(0, _), (1, _), (11, _)]) rfl ?_
  refine KSs_wp ?_
  refine WPs_cond rfl (fun hc1 => ?_) (fun hc1 => ?_)
  · simp only [Bool.not_false] at hc1
    refine WPs_seq ?_
    refine WPs_regionK [4, 5] ?_
    refine s_assign rfl rfl ?_
    refine s_assign rfl rfl ?_
    refine SXs_nilK (fr' := [(4, _), (5, _)]) rfl ?_
    refine KSs_wp ?_
    refine WPs_ret ?_
    refine RLs_start ?_
    refine RLs_tmp rfl ?_
    refine RLs_tmp rfl ?_
    refine RLs_fin2 ?_
    exact fun w hS => ⟨rfl, hS⟩
  · (exfalso; (cases hc1; done))
theorem head_put {g : World} {F : List HP} {kind id : Nat} (hH : HalfG g) (h : mayH kind id) : RCs Tryz.prog 62 [.int .i64 (kind : Int), .int .u32 (id : Int)] g F (fun u w => ∃ r, u = .tuple #[r, .int .i64 0] ∧ SlB g (headOf kind id) F r w) := by
  have hb : kind < 256 ∧ id < 4294967296 := by unfold mayH at h; omega
  obtain ⟨hb1, hb2⟩ := hb
  have hu : IntKind.wrap .u8 (kind : Int) = ((UInt8.ofNat kind).toNat : Int) := by
    rw [UInt8.toNat_ofNat']
    have : kind % 2 ^ 8 = kind := Nat.mod_eq_of_lt (by omega)
    rw [this]
    exact inR_u8 (by omega) (by omega)
  refine RCs_of_WPs Tryz.func62 rfl Tryz.ntmps62 rfl Tryz.results62 ?_
  refine WPs_seq ?_
  refine WPs_regionK [0, 1] ?_
  refine s_assign rfl rfl ?_
  refine s_assign rfl rfl ?_
  refine SXs_nilK (fr' := [(0, _), (1, _)]) rfl ?_
  refine KSs_wp ?_
  refine WPs_seq ?_
  refine WPs_seq ?_
  refine WPs_regionK [0, 1, 11] ?_
  refine s_move rfl rfl ?_
  refine s_move rfl rfl ?_
  refine s_call Tryz.call111 rfl (vs := [_, _]) rfl (RCs.perm (by (repeat ((exact List.Perm.refl _)))) (head_may_yes h)) ?_
  rintro v w ⟨rfl, hS⟩
  refine SXs_go hS ?_
  clear hS; clear w
  simp only [putF]
  refine s_not rfl rfl ?_
  refine SXs_nilK (fr' := [(0, _), (1, _), (11, _)]) rfl ?_
  refine KSs_wp ?_
  refine WPs_cond rfl (fun hc1 => ?_) (fun hc1 => ?_)
  · (exfalso; (cases hc1; done))
  · simp only [Bool.not_true] at hc1
    refine WPs_skip ?_
    refine KSs_wp ?_
    refine WPs_seq ?_
    refine WPs_regionK [6] ?_
    refine s_buildSlice (vs := [(0, .int .u8 104), (1, .int .u8 111), (2, .int .u8 117), (3, .int .u8 114), (4, .int .u8 98), (5, .int .u8 107), (6, .int .u8 49)]) (cs := [.int .u8 104, .int .u8 111, .int .u8 117, .int .u8 114, .int .u8 98, .int .u8 107, .int .u8 49]) rfl rfl (buildSlice_lits (vs := [.int .u8 104, .int .u8 111, .int .u8 117, .int .u8 114, .int .u8 98, .int .u8 107, .int .u8 49]) slt_42 rfl (by simp [Value.cells]) (by decide) (by decide)) (fun b13 => ?_)
    refine s_convMark (i := 0) Tryz.underlying42 Tryz.underlying5 rfl rfl rfl ?_
    simp only [List.set_cons_zero]
    refine s_move rfl rfl ?_
    refine s_conv Tryz.underlying3 Tryz.underlying5 rfl rfl hu ?_
    refine s_buildSlice (vs := [(0, _)]) (cs := [_]) rfl rfl (buildSlice_one slt_42 rfl rfl (by decide)) (fun b17 => ?_)
    refine s_appendFull (m := 7) (mm := 1) (xs := [.int .u8 104, .int .u8 111, .int .u8 117, .int .u8 114, .int .u8 98, .int .u8 107, .int .u8 49]) (ys := [.int .u8 ((UInt8.ofNat kind).toNat : Int)]) slt_42 rfl rfl rfl (csin (i := 1) (k := 7) rfl rfl) rfl (pt_RdIn (i := 0) rfl rfl rfl (by omega) (by simp only [maxLen]; omega)) (by decide) (by simp only [maxLen]; omega) (by omega) (fun va18 vc18 => ?_)
    refine s_move rfl rfl ?_
    refine s_conv Tryz.underlying34 Tryz.underlying36 rfl rfl (inR_u64 (by omega) (by omega)) ?_
    refine SXs_rd (T := 5) 0 rfl (fun hR18 => ?_)
    refine s_call Tryz.call89 rfl (vs := [_, _, _]) rfl (RCs.perm (by (repeat ((exact List.Perm.refl _)))) (fixed_spec (xs := ([104, 111, 117, 114, 98, 107, 49] : List UInt8) ++ [UInt8.ofNat kind]) (n := id) (k := 4) hR18 (by simp) (by omega) (by omega) (by omega) (by omega))) ?_
    rintro v w ⟨_, rfl, va21, vc21, rfl, hS⟩
    refine SXs_go hS ?_
    clear hS; clear w
    simp only [putF, List.nil_append, List.cons_append]
    refine s_move rfl rfl ?_
    refine s_extract rfl rfl rfl ?_
    refine s_extract rfl rfl rfl ?_
    refine s_assign rfl rfl ?_
    refine s_assign rfl rfl ?_
    refine SXs_nilK (fr' := [(6, _)]) rfl ?_
    refine KSs_wp ?_
    refine WPs_seq ?_
    refine WPs_regionK [4, 5] ?_
    refine SXs_rd (T := 5) 0 rfl (fun hR6 => ?_)
    refine s_move rfl rfl ?_
    refine s_call Tryz.call90 rfl (vs := [_]) rfl (RCs.perm (by (repeat ((exact List.Perm.refl _)))) (cover_spec (xs := (([104, 111, 117, 114, 98, 107, 49] : List UInt8) ++ [UInt8.ofNat kind]) ++ le id 4) hH hR6 (by simp [le_length]))) ?_
    rintro v w ⟨va25, vc25, rfl, hS⟩
    refine SXs_go hS ?_
    clear hS; clear w
    simp only [putF, List.nil_append, List.cons_append]
    refine s_assign rfl rfl ?_
    refine s_assign rfl rfl ?_
    refine SXs_nilK (fr' := [(4, _), (5, _)]) rfl ?_
    refine KSs_wp ?_
    refine WPs_ret ?_
    refine RLs_start ?_
    refine RLs_tmp rfl ?_
    refine RLs_tmp rfl ?_
    refine RLs_fin2 ?_
    exact fun w hS => ⟨_, rfl, SlQ.of (hS.sl (by (repeat (first | exact Sl.refl _ | (apply Sl.pick 0; exact rfl) | refine Sl.skip ?_))))⟩
end Go.Proofs.YthodbnmeggkkoaaGreatDoor
/-
  Package head: Get, Check.
-/
namespace Go.Proofs.YthodbnmeggkkoaaGreatDoor
open Go Go.RowKit Go.Hb Go.Proofs

theorem rd16 {xs : List UInt8} (hl : 16 ≤ xs.length) : (bv xs).take 16 = bv (xs.take 16) ∧ (bv (xs.take 16)).length = 16 := by
  refine ⟨by rw [bv_take], by rw [bv_length, List.length_take]; omega⟩

abbrev headCs (c0 c1 c2 : Nat) (kind id : Nat) (v : Value) (F : List HP) : List HP :=
  pt c0 (.cells [.int .i64 (kind : Int)].toArray 3 (0, 0)) :: pt c1 (.cells [.int .u32 (id : Int)].toArray 34 (0, 0)) :: pt c2 (.cells [v].toArray 42 (0, 0)) :: F

theorem head_is_no {g : World} {F : List HP} {c0 c1 c2 kind id : Nat} {v : Value} (h : ¬ mayH kind id) :
    RCs Tryz.prog 160 [.pointer (some ⟨c0, 0, none⟩), .pointer (some ⟨c1, 0, none⟩), .pointer (some ⟨c2, 0, none⟩)] g (headCs c0 c1 c2 kind id v F)
      (fun u w => u = .bool false ∧ St g w (headCs c0 c1 c2 kind id v F)) := by
  refine RCs_of_WPs Tryz.func160 rfl Tryz.ntmps160 rfl Tryz.results160 ?_
  refine WPs_seq ?_
  refine WPs_regionK [0, 1, 2] ?_
  refine s_assign rfl rfl ?_
  refine SXs_nilK (fr' := [(0, _), (1, _), (2, _)]) rfl ?_
  refine KSs_wp ?_
  refine WPs_seq ?_
  refine WPs_regionK [2, 4, 5] ?_
  refine s_load1 Tryz.isAgg3 rfl rfl (by exact cin (i := 0) rfl rfl) ?_
  refine s_load1 Tryz.isAgg34 rfl rfl (by exact cin (i := 1) rfl rfl) ?_
  refine s_call Tryz.call62 rfl (vs := [_, _]) rfl (RCs.perm (by (repeat ((exact List.Perm.refl _)))) (head_put_no h)) ?_
  rintro v w ⟨rfl, hS⟩
  refine SXs_go hS ?_
  clear hS; clear w
  simp only [putF]
  refine s_move rfl rfl ?_
  refine s_extract rfl rfl rfl ?_
  refine s_extract rfl rfl rfl ?_
  refine s_assign rfl rfl ?_
  refine s_assign rfl rfl ?_
  refine SXs_nilK (fr' := [(2, _), (4, _), (5, _)]) rfl ?_
  refine KSs_wp ?_
  refine WPs_seq ?_
  refine WPs_drawL [3] [] Tryz.mixed rfl (listed := #[false, false, false, false, false, false, false, false, false, false, false, false]) rfl ?_
  refine st_take 0 rfl (by decide +kernel) (listed' := #[true, false, false, false, false, false, false, false, false, false, false, false]) rfl (by (intro _ h; (exact h))) (gv_move rfl rfl) ?_
  refine st_take 1 rfl (by decide +kernel) (listed' := #[true, true, false, false, false, false, false, false, false, false, false, false]) rfl (by (intro _ h; (exact h))) (gv_eql rfl rfl rfl) ?_
  refine st_take 2 rfl (by decide +kernel) (listed' := #[true, true, true, false, false, false, false, false, false, false, false, false]) rfl (by (intro _ h; (exact h))) (gv_move rfl rfl) ?_
  refine st_split (dj := 14) rfl (fun hc1 => ?_) (fun hc1 => ?_)
  · (exfalso; (cases hc1; done))
  · simp only [decide_eq_false_iff_not] at hc1
    refine st_take_f 3 rfl (by decide +kernel) (listed' := #[true, true, true, true, false, false, false, false, false, false, false, false]) rfl (by (intro _ h; (exact h))) rfl rfl (by ((rfl))) rfl ?_
    refine st_take_f 4 rfl (by decide +kernel) (listed' := #[true, true, true, true, true, false, false, false, false, false, false, false]) rfl (by (intro _ h; (exact h))) rfl rfl (by ((rfl))) rfl ?_
    refine st_take_f 5 rfl (by decide +kernel) (listed' := #[true, true, true, true, true, true, false, false, false, false, false, false]) rfl (by (intro _ h; (exact h))) rfl rfl (by ((rfl))) rfl ?_
    refine st_take_f 6 rfl (by decide +kernel) (listed' := #[true, true, true, true, true, true, true, false, false, false, false, false]) rfl (by (intro _ h; (exact h))) rfl rfl (by ((rfl))) rfl ?_
    refine st_take_f 7 rfl (by decide +kernel) (listed' := #[true, true, true, true, true, true, true, true, false, false, false, false]) rfl (by (intro _ h; (exact h))) rfl rfl (by ((rfl))) rfl ?_
    refine st_take_f 8 rfl (by decide +kernel) (listed' := #[true, true, true, true, true, true, true, true, true, false, false, false]) rfl (by (intro _ h; (exact h))) rfl rfl (by ((rfl))) rfl ?_
    refine st_take_f 9 rfl (by decide +kernel) (listed' := #[true, true, true, true, true, true, true, true, true, true, false, false]) rfl (by (intro _ h; (exact h))) rfl rfl (by ((rfl))) rfl ?_
    refine st_take 10 rfl (by decide +kernel) (listed' := #[true, true, true, true, true, true, true, true, true, true, true, false]) rfl (by (intro _ h; (exact h))) (gv_pick_f rfl rfl rfl) ?_
    refine st_take 11 rfl (by decide +kernel) (listed' := #[true, true, true, true, true, true, true, true, true, true, true, true]) rfl (by (intro _ h; (exact h))) (gv_assign rfl rfl) ?_
    refine st_doneK (fr' := [(3, _)]) (by decide +kernel) rfl ?_
    refine KSs_wp ?_
    refine WPs_ret ?_
    refine RLs_start ?_
    refine RLs_tmp rfl ?_
    refine RLs_fin1 ?_
    exact fun w hS => ⟨rfl, hS⟩

set_option maxHeartbeats 1000000 in
theorem head_is_yes {g : World} {F : List HP} {c0 c1 c2 kind id : Nat} {v : Value} {xs : List UInt8} (hH : HalfG g) (h : mayH kind id) (hR : RdB g F v xs) (hl : 16 ≤ xs.length) :
    RCs Tryz.prog 160 [.pointer (some ⟨c0, 0, none⟩), .pointer (some ⟨c1, 0, none⟩), .pointer (some ⟨c2, 0, none⟩)] g (headCs c0 c1 c2 kind id v F)
      (fun u w => u = .bool (decide (headOf kind id = xs.take 16)) ∧ St g w (headCs c0 c1 c2 kind id v F)) := by
  have hhl := headOf_length kind id
  have h16 := rd16 hl
  refine RCs_of_WPs Tryz.func160 rfl Tryz.ntmps160 rfl Tryz.results160 ?_
  refine WPs_seq ?_
  refine WPs_regionK [0, 1, 2] ?_
  refine s_assign rfl rfl ?_
  refine SXs_nilK (fr' := [(0, _), (1, _), (2, _)]) rfl ?_
  refine KSs_wp ?_
  refine WPs_seq ?_
  refine WPs_regionK [2, 4, 5] ?_
  refine s_load1 Tryz.isAgg3 rfl rfl (by exact cin (i := 0) rfl rfl) ?_
  refine s_load1 Tryz.isAgg34 rfl rfl (by exact cin (i := 1) rfl rfl) ?_
  refine s_call Tryz.call62 rfl (vs := [_, _]) rfl (RCs.perm (by (repeat ((exact List.Perm.refl _)))) (head_put hH h)) ?_
  rintro v w ⟨_, rfl, va9, vc9, rfl, hS⟩
  refine SXs_go hS ?_
  clear hS; clear w
  simp only [putF]
  refine SXs_rd (T := 5) 0 rfl (fun hRw => ?_)
  refine s_move rfl rfl ?_
  refine s_extract rfl rfl rfl ?_
  refine s_extract rfl rfl rfl ?_
  refine s_assign rfl rfl ?_
  refine s_assign rfl rfl ?_
  refine SXs_nilK (fr' := [(2, _), (4, _), (5, _)]) rfl ?_
  refine KSs_wp ?_
  refine WPs_seq ?_
  refine WPs_drawL [3] [] Tryz.mixed rfl (listed := #[false, false, false, false, false, false, false, false, false, false, false, false]) rfl ?_
  refine st_take 0 rfl (by decide +kernel) (listed' := #[true, false, false, false, false, false, false, false, false, false, false, false]) rfl (by (intro _ h; (exact h))) (gv_move rfl rfl) ?_
  refine st_take 1 rfl (by decide +kernel) (listed' := #[true, true, false, false, false, false, false, false, false, false, false, false]) rfl (by (intro _ h; (exact h))) (gv_eql rfl rfl rfl) ?_
  refine st_take 2 rfl (by decide +kernel) (listed' := #[true, true, true, false, false, false, false, false, false, false, false, false]) rfl (by (intro _ h; (exact h))) (gv_move rfl rfl) ?_
  refine st_split (dj := 14) rfl (fun hc1 => ?_) (fun hc1 => ?_)
  · simp only [decide_eq_true_eq] at hc1
    refine st_take_t 3 rfl (by decide +kernel) (listed' := #[true, true, true, true, false, false, false, false, false, false, false, false]) rfl (by (intro _ h; (exact h))) rfl rfl (by ((rfl))) (gv_move rfl rfl) ?_
    refine ex_toArrRd 4 rfl Tryz.underlying217 rfl rfl hRw (by omega) (by omega) (fun b16 o16 hc16 hG2_4 => ?_)
    refine st_take_t 4 rfl (by decide +kernel) (listed' := #[true, true, true, true, true, false, false, false, false, false, false, false]) rfl (by (intro _ h; (exact h))) rfl rfl (by ((rfl))) hG2_4 ?_
    refine st_take_t 5 rfl (by decide +kernel) (listed' := #[true, true, true, true, true, true, false, false, false, false, false, false]) rfl (by (intro _ h; (exact h))) rfl rfl (by ((rfl))) (gv_loadN Tryz.isAgg217 Tryz.sizeOf217 (vs := bv (headOf kind id)) rfl rfl hc16 (by rw [bv_length, hhl])) ?_
    refine st_take_t 6 rfl (by decide +kernel) (listed' := #[true, true, true, true, true, true, true, false, false, false, false, false]) rfl (by (intro _ h; (exact h))) rfl rfl (by ((rfl))) (gv_load1 Tryz.isAgg42 rfl rfl (by exact cin (i := 3) rfl rfl)) ?_
    refine ex_toArrRd 7 rfl Tryz.underlying217 rfl rfl hR.cons.cons.cons.cons (by omega) (by omega) (fun b19 o19 hc19 hG2_7 => ?_)
    refine st_take_t 7 rfl (by decide +kernel) (listed' := #[true, true, true, true, true, true, true, true, false, false, false, false]) rfl (by (intro _ h; (exact h))) rfl rfl (by ((rfl))) hG2_7 ?_
    refine st_take_t 8 rfl (by decide +kernel) (listed' := #[true, true, true, true, true, true, true, true, true, false, false, false]) rfl (by (intro _ h; (exact h))) rfl rfl (by ((rfl))) (gv_loadN Tryz.isAgg217 Tryz.sizeOf217 (vs := bv (xs.take 16)) rfl rfl (h16.1 ▸ hc19.take) h16.2) ?_
    refine st_take_t 9 rfl (by decide +kernel) (listed' := #[true, true, true, true, true, true, true, true, true, true, false, false]) rfl (by (intro _ h; (exact h))) rfl rfl (by ((rfl))) (gv_eqlV rfl rfl rfl (eq_bytes Tryz.underlying217 (by kernel_rfl) hhl (by rw [List.length_take]; omega))) ?_
    refine st_take 10 rfl (by decide +kernel) (listed' := #[true, true, true, true, true, true, true, true, true, true, true, false]) rfl (by (intro _ h; (exact h))) (gv_pick_t rfl rfl rfl) ?_
    refine st_take 11 rfl (by decide +kernel) (listed' := #[true, true, true, true, true, true, true, true, true, true, true, true]) rfl (by (intro _ h; (exact h))) (gv_assign rfl rfl) ?_
    refine st_doneK (fr' := [(3, _)]) (by decide +kernel) rfl ?_
    refine KSs_wp ?_
    refine WPs_ret ?_
    refine RLs_start ?_
    refine RLs_tmp rfl ?_
    refine RLs_fin1 ?_
    exact fun w hS => ⟨rfl, hS.sl (by (repeat (first | exact Sl.refl _ | (apply Sl.pick 1; exact rfl) | refine Sl.skip ?_)))⟩
  · (exfalso; (cases hc1; done))
/-- A head that is some kind's and id's. -/
theorem head_get_ok {g : World} {F : List HP} {v : Value} {xs : List UInt8} {kind id : Nat} (hH : HalfG g) (hR : RdB g F v xs) (hl : 16 ≤ xs.length) (h : mayH kind id) (hx : xs.take 16 = headOf kind id) :
    RCs Tryz.prog 132 [v] g F (fun u w => u = .tuple #[.int .i64 (kind : Int), .int .u32 (id : Int), .int .i64 0] ∧ St g w F) := by
  have hmx := hR.2.1
  simp only [maxLen] at hmx
  obtain ⟨va, vc, rfl, _⟩ := hR.form
  have hkb : kind < 256 ∧ id < 4294967296 := by unfold mayH at h; omega
  obtain ⟨hb1, hb2⟩ := hkb
  have hx2 : xs = headOf kind id ++ xs.drop 16 := by rw [← hx, List.take_append_drop]
  have h7 : xs[7]? = some (UInt8.ofNat kind) := by rw [hx2]; simp [headOf, cov]
  have h8 : rdN ((xs.drop 8).take 4) = id := by
    have e : (xs.drop 8).take 4 = le id 4 := by
      rw [hx2]
      have e2 : headOf kind id = ([104, 111, 117, 114, 98, 107, 49, UInt8.ofNat kind] : List UInt8) ++ (le id 4 ++ le (crc ((([104, 111, 117, 114, 98, 107, 49] : List UInt8) ++ [UInt8.ofNat kind]) ++ le id 4)) 4) := by simp [headOf, cov]
      rw [e2]
      simp only [List.cons_append, List.nil_append, List.drop_succ_cons, List.drop_zero]
      rw [List.append_assoc, List.take_left' (le_length id 4)]
    rw [e, rdN_le 4 id (by omega)]
  have hk : ((UInt8.ofNat kind).toNat : Int) = (kind : Int) := by
    rw [UInt8.toNat_ofNat']; have : kind % 2 ^ 8 = kind := Nat.mod_eq_of_lt (by omega)
    rw [this]
  have hRead := fun (G : List HP) (v' : Value) (hv : RdB g G v' (xs.drop 8)) => read_spec (F := G) (v := v') (xs := xs.drop 8) (k := 4) hv (by omega) (by omega) (by simp; omega)
  rw [h8] at hRead
  refine RCs_of_WPs Tryz.func132 rfl Tryz.ntmps132 rfl Tryz.results132 ?_
  refine WPs_seq ?_
  refine WPs_regionK [1] ?_
  refine s_box (cl := [_]) rfl rfl rfl (fun b1 => ?_)
  refine s_assign rfl rfl ?_
  refine s_assign rfl rfl ?_
  refine s_assign rfl rfl ?_
  refine SXs_nilK (fr' := [(1, _)]) rfl ?_
  refine KSs_wp ?_
  refine WPs_seq ?_
  refine WPs_seq ?_
  refine WPs_regionK [1, 12] ?_
  refine s_load1 Tryz.isAgg42 rfl rfl (by exact cin (i := 0) rfl rfl) ?_
  refine s_len rfl Tryz.underlying42 rfl rfl ?_
  refine s_lss rfl rfl rfl ?_
  refine SXs_nilK (fr' := [(1, _), (12, _)]) rfl ?_
  refine KSs_wp ?_
  refine WPs_cond rfl (fun hc1 => ?_) (fun hc1 => ?_)
  · (exfalso; (simp only [decide_eq_true_eq] at hc1; omega))
  · simp only [decide_eq_false_iff_not] at hc1
    refine WPs_skip ?_
    refine KSs_wp ?_
    refine WPs_seq ?_
    refine WPs_regionK [1, 5] ?_
    refine s_load1 Tryz.isAgg42 rfl rfl (by exact cin (i := 0) rfl rfl) ?_
    refine s_sliceRdF F slt_42 (l := 8) (vlo := some _) (vhi := none) rfl rfl hR rfl trivial (.inl rfl) (.inr ⟨rfl, rfl⟩) (by omega) (by omega) (fun va15 vc15 hR15 => ?_)
    refine s_call Tryz.call131 rfl (vs := [_, _]) rfl (RCs.perm (by (repeat ((exact List.Perm.refl _)))) (hRead _ _ (rd_drop hR15).cons)) ?_
    rintro v w ⟨rfl, hS⟩
    refine SXs_go hS ?_
    clear hS; clear w
    simp only [putF]
    refine s_move rfl rfl ?_
    refine s_extract rfl rfl rfl ?_
    refine s_extract rfl rfl rfl ?_
    refine s_assign rfl rfl ?_
    refine s_assign rfl rfl ?_
    refine SXs_nilK (fr' := [(1, _), (5, _)]) rfl ?_
    refine KSs_wp ?_
    refine WPs_seq ?_
    refine WPs_regionK [1, 7, 8] ?_
    refine s_load1 Tryz.isAgg42 rfl rfl (by exact cin (i := 0) rfl rfl) ?_
    refine s_idxRd slt_42 rfl rfl hR.cons rfl (by omega) (by omega) (fun b20 o20 hc20 => ?_)
    refine s_load1 (v := .int .u8 (kind : Int)) Tryz.isAgg5 rfl rfl (hc20.at0 (by rw [List.getElem?_take_of_lt (by omega), List.getElem?_drop]; simp only [bv_get]; rw [show (7 : Int).toNat * 1 + 0 = 7 from rfl, h7]; exact congrArg (fun z => some (Value.int .u8 z)) hk)) ?_
    refine s_conv_ok Tryz.underlying5 Tryz.underlying3 rfl rfl (inR_i64 (by omega) (by omega)) ?_
    refine s_move rfl rfl ?_
    refine s_conv_ok Tryz.underlying36 Tryz.underlying34 rfl rfl (inR_u32 (by omega) (by omega)) ?_
    refine s_alloc Tryz.zeroValue3 (cl := [_]) rfl rfl (fun b7 => ?_)
    refine s_alloc Tryz.zeroValue34 (cl := [_]) rfl rfl (fun b8 => ?_)
    refine s_store (i := 1) Tryz.sizeOf3 rfl rfl rfl (vs := [_]) rfl rfl rfl rfl ?_
    simp only [List.set_cons_zero, List.set_cons_succ, spl]
    refine s_store (i := 0) Tryz.sizeOf34 rfl rfl rfl (vs := [_]) rfl rfl rfl rfl ?_
    simp only [List.set_cons_zero, spl]
    refine SXs_nilK (fr' := [(1, _), (7, _), (8, _)]) rfl ?_
    refine KSs_wp ?_
    refine WPs_seq ?_
    refine WPs_regionK [7, 8, 9] ?_
    refine s_makeFunc (fs := []) (cs := [_, _, _]) rfl rfl rfl ?_
    refine s_assign rfl rfl ?_
    refine SXs_nilK (fr' := [(7, _), (8, _), (9, _)]) rfl ?_
    refine KSs_wp ?_
    refine WPs_seq ?_
    refine WPs_seq ?_
    refine WPs_regionK [7, 8, 28] ?_
    refine s_move rfl rfl ?_
    refine s_callV (vs := []) Tryz.call160 rfl rfl rfl rfl (RCs.perm (by (repeat (first | exact List.Perm.refl _ | (apply pick 1; exact rfl)))) ((head_is_yes hH h hR hl))) ?_
    rintro v w ⟨rfl, hS⟩
    refine SXs_go hS ?_
    clear hS; clear w
    simp only [putF]
    rw [show decide (headOf kind id = xs.take 16) = true from by simp [hx]]
    refine s_not rfl rfl ?_
    refine SXs_nilK (fr' := [(7, _), (8, _), (28, _)]) rfl ?_
    refine KSs_wp ?_
    refine WPs_cond rfl (fun hc2 => ?_) (fun hc2 => ?_)
    · (exfalso; (cases hc2; done))
    · simp only [Bool.not_true] at hc2
      refine WPs_skip ?_
      refine KSs_wp ?_
      refine WPs_seq ?_
      refine WPs_drawL [2, 3, 4] [] Tryz.mixed rfl (listed := #[false, false, false, false, false]) rfl ?_
      refine st_take 0 rfl (by decide +kernel) (listed' := #[true, false, false, false, false]) rfl (by (intro _ h; (exact h))) (gv_load1 Tryz.isAgg3 rfl rfl (by exact cin (i := 0) rfl rfl)) ?_
      refine st_take 1 rfl (by decide +kernel) (listed' := #[true, true, false, false, false]) rfl (by (intro _ h; (exact h))) (gv_load1 Tryz.isAgg34 rfl rfl (by exact cin (i := 1) rfl rfl)) ?_
      refine st_take 2 rfl (by decide +kernel) (listed' := #[true, true, true, false, false]) rfl (by (intro _ h; (exact h))) (gv_assign rfl rfl) ?_
      refine st_take 3 rfl (by decide +kernel) (listed' := #[true, true, true, true, false]) rfl (by (intro _ h; (exact h))) (gv_assign rfl rfl) ?_
      refine st_take 4 rfl (by decide +kernel) (listed' := #[true, true, true, true, true]) rfl (by (intro _ h; (exact h))) (gv_assign rfl rfl) ?_
      refine st_doneK (fr' := [(2, _), (3, _), (4, _)]) (by decide +kernel) rfl ?_
      refine KSs_wp ?_
      refine WPs_ret ?_
      refine RLs_start ?_
      refine RLs_tmp rfl ?_
      refine RLs_tmp rfl ?_
      refine RLs_tmp rfl ?_
      refine RLs_fin3 ?_
      exact fun w hS => ⟨rfl, hS.sl (by (repeat (first | exact Sl.refl _ | refine Sl.skip ?_)))⟩

/-- A head whose sum is not right. -/
theorem head_get_bad {g : World} {F : List HP} {v : Value} {xs : List UInt8} (hH : HalfG g) (hR : RdB g F v xs) (hl : 16 ≤ xs.length) (h : ¬ rightP (xs.take 16)) :
    RCs Tryz.prog 132 [v] g F (fun u w => u = .tuple #[.int .i64 0, .int .u32 0, .int .i64 23] ∧ St g w F) := by
  have hmx := hR.2.1
  simp only [maxLen] at hmx
  obtain ⟨va, vc, rfl, _⟩ := hR.form
  have hno : ∀ kind id, ¬ headOf kind id = xs.take 16 := fun kind id e => h (by rw [← e]; exact cov_right _)
  have hi : rdN ((xs.drop 8).take 4) < 4294967296 := rdN_take_lt (xs.drop 8) 4
  obtain ⟨c, h7⟩ : ∃ c, xs[7]? = some c := ⟨_, List.getElem?_eq_getElem (by omega)⟩
  have hcl := c.toNat_lt
  have his : ∀ (G : List HP) (c0 c1 : Nat), RCs Tryz.prog 160 [.pointer (some ⟨c0, 0, none⟩), .pointer (some ⟨c1, 0, none⟩), .pointer (some ⟨G.length, 0, none⟩)] g G (fun _ _ => True) → True := fun _ _ _ _ => trivial
  have key : ∀ c0 c1 c2, RCs Tryz.prog 160 [.pointer (some ⟨c0, 0, none⟩), .pointer (some ⟨c1, 0, none⟩), .pointer (some ⟨c2, 0, none⟩)] g (headCs c0 c1 c2 c.toNat (rdN ((xs.drop 8).take 4)) (.slice va xs.length vc) F)
      (fun u w => u = .bool false ∧ St g w (headCs c0 c1 c2 c.toNat (rdN ((xs.drop 8).take 4)) (.slice va xs.length vc) F)) := fun c0 c1 c2 => by
    by_cases hm : mayH c.toNat (rdN ((xs.drop 8).take 4))
    · exact (head_is_yes hH hm hR hl).mono fun u w ⟨h1, h2⟩ => ⟨by rw [h1]; simp [hno], h2⟩
    · exact head_is_no hm
  refine RCs_of_WPs Tryz.func132 rfl Tryz.ntmps132 rfl Tryz.results132 ?_
  refine WPs_seq ?_
  refine WPs_regionK [1] ?_
  refine s_box (cl := [_]) rfl rfl rfl (fun b1 => ?_)
  refine s_assign rfl rfl ?_
  refine s_assign rfl rfl ?_
  refine s_assign rfl rfl ?_
  refine SXs_nilK (fr' := [(1, _)]) rfl ?_
  refine KSs_wp ?_
  refine WPs_seq ?_
  refine WPs_seq ?_
  refine WPs_regionK [1, 12] ?_
  refine s_load1 Tryz.isAgg42 rfl rfl (by exact cin (i := 0) rfl rfl) ?_
  refine s_len rfl Tryz.underlying42 rfl rfl ?_
  refine s_lss rfl rfl rfl ?_
  refine SXs_nilK (fr' := [(1, _), (12, _)]) rfl ?_
  refine KSs_wp ?_
  refine WPs_cond rfl (fun hc1 => ?_) (fun hc1 => ?_)
  · (exfalso; (simp only [decide_eq_true_eq] at hc1; omega))
  · simp only [decide_eq_false_iff_not] at hc1
    refine WPs_skip ?_
    refine KSs_wp ?_
    refine WPs_seq ?_
    refine WPs_regionK [1, 5] ?_
    refine s_load1 Tryz.isAgg42 rfl rfl (by exact cin (i := 0) rfl rfl) ?_
    refine s_sliceRdF F slt_42 (l := 8) (vlo := some _) (vhi := none) rfl rfl hR rfl trivial (.inl rfl) (.inr ⟨rfl, rfl⟩) (by omega) (by omega) (fun va15 vc15 hR15 => ?_)
    refine s_call Tryz.call131 rfl (vs := [_, _]) rfl (RCs.perm (by (repeat ((exact List.Perm.refl _)))) (read_spec (xs := xs.drop 8) (k := 4) (rd_drop hR15).cons (by omega) (by omega) (by simp; omega))) ?_
    rintro v w ⟨rfl, hS⟩
    refine SXs_go hS ?_
    clear hS; clear w
    simp only [putF]
    refine s_move rfl rfl ?_
    refine s_extract rfl rfl rfl ?_
    refine s_extract rfl rfl rfl ?_
    refine s_assign rfl rfl ?_
    refine s_assign rfl rfl ?_
    refine SXs_nilK (fr' := [(1, _), (5, _)]) rfl ?_
    refine KSs_wp ?_
    refine WPs_seq ?_
    refine WPs_regionK [1, 7, 8] ?_
    refine s_load1 Tryz.isAgg42 rfl rfl (by exact cin (i := 0) rfl rfl) ?_
    refine s_idxRd slt_42 rfl rfl hR.cons rfl (by omega) (by omega) (fun b20 o20 hc20 => ?_)
    refine s_load1 (v := .int .u8 (c.toNat : Int)) Tryz.isAgg5 rfl rfl (hc20.at0 (by rw [List.getElem?_take_of_lt (by omega), List.getElem?_drop]; simp only [bv_get]; rw [show (7 : Int).toNat * 1 + 0 = 7 from rfl, h7]; rfl)) ?_
    refine s_conv_ok Tryz.underlying5 Tryz.underlying3 rfl rfl (inR_i64 (by omega) (by omega)) ?_
    refine s_move rfl rfl ?_
    refine s_conv_ok Tryz.underlying36 Tryz.underlying34 rfl rfl (inR_u32 (by omega) (by omega)) ?_
    refine s_alloc Tryz.zeroValue3 (cl := [_]) rfl rfl (fun b7 => ?_)
    refine s_alloc Tryz.zeroValue34 (cl := [_]) rfl rfl (fun b8 => ?_)
    refine s_store (i := 1) Tryz.sizeOf3 rfl rfl rfl (vs := [_]) rfl rfl rfl rfl ?_
    simp only [List.set_cons_zero, List.set_cons_succ, spl]
    refine s_store (i := 0) Tryz.sizeOf34 rfl rfl rfl (vs := [_]) rfl rfl rfl rfl ?_
    simp only [List.set_cons_zero, spl]
    refine SXs_nilK (fr' := [(1, _), (7, _), (8, _)]) rfl ?_
    refine KSs_wp ?_
    refine WPs_seq ?_
    refine WPs_regionK [7, 8, 9] ?_
    refine s_makeFunc (fs := []) (cs := [_, _, _]) rfl rfl rfl ?_
    refine s_assign rfl rfl ?_
    refine SXs_nilK (fr' := [(7, _), (8, _), (9, _)]) rfl ?_
    refine KSs_wp ?_
    refine WPs_seq ?_
    refine WPs_seq ?_
    refine WPs_regionK [7, 8, 28] ?_
    refine s_move rfl rfl ?_
    refine s_callV (vs := []) Tryz.call160 rfl rfl rfl rfl (RCs.perm (by (repeat (first | exact List.Perm.refl _ | (apply pick 1; exact rfl)))) (key _ _ _)) ?_
    rintro v w ⟨rfl, hS⟩
    refine SXs_go hS ?_
    clear hS; clear w
    simp only [putF]
    refine s_not rfl rfl ?_
    refine SXs_nilK (fr' := [(7, _), (8, _), (28, _)]) rfl ?_
    refine KSs_wp ?_
    refine WPs_cond rfl (fun hc2 => ?_) (fun hc2 => ?_)
    · simp only [Bool.not_false] at hc2
      refine WPs_seq ?_
      refine WPs_regionK [2, 3, 4] ?_
      refine s_assign rfl rfl ?_
      refine s_assign rfl rfl ?_
      refine s_assign rfl rfl ?_
      refine SXs_nilK (fr' := [(2, _), (3, _), (4, _)]) rfl ?_
      refine KSs_wp ?_
      refine WPs_ret ?_
      refine RLs_start ?_
      refine RLs_tmp rfl ?_
      refine RLs_tmp rfl ?_
      refine RLs_tmp rfl ?_
      refine RLs_fin3 ?_
      exact fun w hS => ⟨rfl, hS.sl (by (repeat (first | exact Sl.refl _ | refine Sl.skip ?_)))⟩
    · (exfalso; (cases hc2; done))
theorem head_get_short {g : World} {F : List HP} {v : Value} {xs : List UInt8} (hR : RdB g F v xs) (hl : xs.length < 16) :
    RCs Tryz.prog 132 [v] g F (fun u w => u = .tuple #[.int .i64 0, .int .u32 0, .int .i64 22] ∧ St g w F) := by
  obtain ⟨va, vc, rfl, _⟩ := hR.form
  refine RCs_of_WPs Tryz.func132 rfl Tryz.ntmps132 rfl Tryz.results132 ?_
  refine WPs_seq ?_
  refine WPs_regionK [1] ?_
  refine s_box (cl := [_]) rfl rfl rfl (fun b1 => ?_)
  refine s_assign rfl rfl ?_
  refine s_assign rfl rfl ?_
  refine s_assign rfl rfl ?_
  refine SXs_nilK (fr' := [(1, _)]) rfl ?_
  refine KSs_wp ?_
  refine WPs_seq ?_
  refine WPs_seq ?_
  refine WPs_regionK [1, 12] ?_
  refine s_load1 Tryz.isAgg42 rfl rfl (by exact cin (i := 0) rfl rfl) ?_
  refine s_len rfl Tryz.underlying42 rfl rfl ?_
  refine s_lss rfl rfl rfl ?_
  refine SXs_nilK (fr' := [(1, _), (12, _)]) rfl ?_
  refine KSs_wp ?_
  refine WPs_cond rfl (fun hc1 => ?_) (fun hc1 => ?_)
  · simp only [decide_eq_true_eq] at hc1
    refine WPs_seq ?_
    refine WPs_regionK [2, 3, 4] ?_
    refine s_assign rfl rfl ?_
    refine s_assign rfl rfl ?_
    refine s_assign rfl rfl ?_
    refine SXs_nilK (fr' := [(2, _), (3, _), (4, _)]) rfl ?_
    refine KSs_wp ?_
    refine WPs_ret ?_
    refine RLs_start ?_
    refine RLs_tmp rfl ?_
    refine RLs_tmp rfl ?_
    refine RLs_tmp rfl ?_
    refine RLs_fin3 ?_
    exact fun w hS => ⟨rfl, hS.sl (by (repeat (first | exact Sl.refl _ | refine Sl.skip ?_)))⟩
  · (exfalso; (simp only [decide_eq_false_iff_not] at hc1; omega))
theorem head_check_ok {g : World} {F : List HP} {v : Value} {xs : List UInt8} {kind id : Nat} (hH : HalfG g) (hR : RdB g F v xs) (hl : 16 ≤ xs.length) (h : mayH kind id) (hx : xs.take 16 = headOf kind id) :
    RCs Tryz.prog 87 [v, .int .i64 (kind : Int), .int .u32 (id : Int)] g F (fun u w => u = .int .i64 0 ∧ St g w F) := by
  refine RCs_of_WPs Tryz.func87 rfl Tryz.ntmps87 rfl Tryz.results87 ?_
  refine WPs_seq ?_
  refine WPs_regionK [0, 1, 2] ?_
  refine s_assign rfl rfl ?_
  refine SXs_nilK (fr' := [(0, _), (1, _), (2, _)]) rfl ?_
  refine KSs_wp ?_
  refine WPs_seq ?_
  refine WPs_regionK [1, 2, 7, 8, 9] ?_
  refine s_move rfl rfl ?_
  refine s_call Tryz.call132 rfl (vs := [_]) rfl (RCs.perm (by (repeat ((exact List.Perm.refl _)))) (head_get_ok hH hR hl h hx)) ?_
  rintro v w ⟨rfl, hS⟩
  refine SXs_go hS ?_
  clear hS; clear w
  simp only [putF]
  refine s_move rfl rfl ?_
  refine s_extract rfl rfl rfl ?_
  refine s_extract rfl rfl rfl ?_
  refine s_extract rfl rfl rfl ?_
  refine s_assign rfl rfl ?_
  refine s_assign rfl rfl ?_
  refine s_assign rfl rfl ?_
  refine SXs_nilK (fr' := [(1, _), (2, _), (7, _), (8, _), (9, _)]) rfl ?_
  refine KSs_wp ?_
  refine WPs_seq ?_
  refine WPs_seq ?_
  refine WPs_regionK [9, 27] ?_
  refine s_move rfl rfl ?_
  refine s_eql rfl rfl rfl ?_
  refine s_move rfl rfl ?_
  refine s_guard rfl rfl rfl (fun hc1 => ?_) (fun hc1 => ?_)
  · simp only [decide_eq_true_eq] at hc1
    refine s_move rfl rfl ?_
    refine s_guard_t2 rfl rfl (by ((rfl))) rfl ?_
    refine s_move rfl rfl ?_
    refine s_guard_t2 rfl rfl (by ((rfl))) rfl ?_
    refine s_neq rfl rfl rfl ?_
    refine s_guard_t2 rfl rfl (by ((rfl))) rfl ?_
    refine s_move rfl rfl ?_
    refine s_guard rfl rfl rfl (fun hc2 => ?_) (fun hc2 => ?_)
    · simp only [decide_eq_true_eq, Bool.not_eq_false'] at hc2
      refine s_move rfl rfl ?_
      refine s_guard_t2 rfl rfl (by ((simp_all; done))) rfl ?_
      refine s_move rfl rfl ?_
      refine s_guard_t2 rfl rfl (by ((simp_all; done))) rfl ?_
      refine s_neq rfl rfl rfl ?_
      refine s_guard_t2 rfl rfl (by ((rfl))) rfl ?_
      refine s_pickB rfl rfl rfl rfl ?_
      refine s_pick_t rfl rfl rfl ?_
      refine SXs_nilK (fr' := [(9, _), (27, _)]) rfl ?_
      refine KSs_wp ?_
      refine WPs_cond rfl (fun hc3 => ?_) (fun hc3 => ?_)
      · (exfalso; (simp at hc3; done))
      · simp only [decide_eq_true_eq] at hc3
        refine WPs_skip ?_
        refine KSs_wp ?_
        refine WPs_seq ?_
        refine WPs_regionK [6] ?_
        refine s_move rfl rfl ?_
        refine s_assign rfl rfl ?_
        refine SXs_nilK (fr' := [(6, _)]) rfl ?_
        refine KSs_wp ?_
        refine WPs_ret ?_
        refine RLs_start ?_
        refine RLs_tmp rfl ?_
        refine RLs_fin1 ?_
        exact fun w hS => ⟨rfl, hS⟩
    · (exfalso; (simp at hc2; done))
  · (exfalso; (cases hc1; done))
theorem head_check_bad {g : World} {F : List HP} {v : Value} {xs : List UInt8} {kind id : Nat} (hH : HalfG g) (hR : RdB g F v xs) (hl : 16 ≤ xs.length) (h : ¬ rightP (xs.take 16)) :
    RCs Tryz.prog 87 [v, .int .i64 (kind : Int), .int .u32 (id : Int)] g F (fun u w => u = .int .i64 23 ∧ St g w F) := by
  refine RCs_of_WPs Tryz.func87 rfl Tryz.ntmps87 rfl Tryz.results87 ?_
  refine WPs_seq ?_
  refine WPs_regionK [0, 1, 2] ?_
  refine s_assign rfl rfl ?_
  refine SXs_nilK (fr' := [(0, _), (1, _), (2, _)]) rfl ?_
  refine KSs_wp ?_
  refine WPs_seq ?_
  refine WPs_regionK [1, 2, 7, 8, 9] ?_
  refine s_move rfl rfl ?_
  refine s_call Tryz.call132 rfl (vs := [_]) rfl (RCs.perm (by (repeat ((exact List.Perm.refl _)))) (head_get_bad hH hR hl h)) ?_
  rintro v w ⟨rfl, hS⟩
  refine SXs_go hS ?_
  clear hS; clear w
  simp only [putF]
  refine s_move rfl rfl ?_
  refine s_extract rfl rfl rfl ?_
  refine s_extract rfl rfl rfl ?_
  refine s_extract rfl rfl rfl ?_
  refine s_assign rfl rfl ?_
  refine s_assign rfl rfl ?_
  refine s_assign rfl rfl ?_
  refine SXs_nilK (fr' := [(1, _), (2, _), (7, _), (8, _), (9, _)]) rfl ?_
  refine KSs_wp ?_
  refine WPs_seq ?_
  refine WPs_seq ?_
  refine WPs_regionK [9, 27] ?_
  refine s_move rfl rfl ?_
  refine s_eql rfl rfl rfl ?_
  refine s_move rfl rfl ?_
  refine s_guard rfl rfl rfl (fun hc1 => ?_) (fun hc1 => ?_)
  · (exfalso; (cases hc1; done))
  · simp only [decide_eq_false_iff_not, Bool.not_true] at hc1
    refine s_guard_f rfl rfl (by ((rfl))) rfl ?_
    refine s_guard_f rfl rfl (by ((rfl))) rfl ?_
    refine s_guard_f rfl rfl (by ((rfl))) rfl ?_
    refine s_guard_u rfl rfl rfl ?_
    refine s_guard_u rfl rfl rfl ?_
    refine s_guard_u rfl rfl rfl ?_
    refine s_guard_f rfl rfl (by ((rfl))) rfl ?_
    refine s_pick_f rfl rfl rfl ?_
    refine SXs_nilK (fr' := [(9, _), (27, _)]) rfl ?_
    refine KSs_wp ?_
    refine WPs_cond rfl (fun hc5 => ?_) (fun hc5 => ?_)
    · (exfalso; (cases hc5; done))
    · simp only [decide_eq_true_eq] at hc5
      refine WPs_skip ?_
      refine KSs_wp ?_
      refine WPs_seq ?_
      refine WPs_regionK [6] ?_
      refine s_move rfl rfl ?_
      refine s_assign rfl rfl ?_
      refine SXs_nilK (fr' := [(6, _)]) rfl ?_
      refine KSs_wp ?_
      refine WPs_ret ?_
      refine RLs_start ?_
      refine RLs_tmp rfl ?_
      refine RLs_fin1 ?_
      exact fun w hS => ⟨rfl, hS⟩
end Go.Proofs.YthodbnmeggkkoaaGreatDoor
/-
  Package scan: what is found, in memory; last.
-/
namespace Go.Proofs.YthodbnmeggkkoaaGreatDoor
open Go Go.RowKit Go.Hb Go.Proofs

/-- A record that was found: it; its place; where its key and its value lie. -/
structure FE where
  r : RecM
  off : Nat
  ka : Option Addr
  va : Option Addr
  kc : Nat
  vc : Nat

def rsz (r : RecM) : Nat := 25 + r.key.length + r.value.length
def feCs (id : Nat) (e : FE) : List Value := [.int .u32 (id : Int), .int .u32 (e.off : Int), .int .i64 (rsz e.r : Int), .int .u64 (e.r.seq : Int), .int .i64 e.r.kind, .slice e.ka e.r.key.length e.kc, .slice e.va e.r.value.length e.vc, .int .u32 (e.r.ps : Int), .int .u32 (e.r.po : Int)]
def flat (id : Nat) (E : List FE) : List Value := E.flatMap (feCs id)
def kvL (E : List FE) : List HP := E.flatMap fun e => [own 5 1 (.slice e.ka e.r.key.length e.kc) e.r.key.length (bv e.r.key), own 5 1 (.slice e.va e.r.value.length e.vc) e.r.value.length (bv e.r.value)]

theorem flat_length (id : Nat) (E : List FE) : (flat id E).length = E.length * 9 := by
  induction E with
  | nil => rfl
  | cons e E ih => simp only [flat, List.flatMap_cons, List.length_append] at *; rw [ih]; simp [feCs]; omega
theorem flat_snoc (id : Nat) (E : List FE) (e : FE) : flat id (E ++ [e]) = flat id E ++ feCs id e := by simp [flat]
theorem kvL_snoc (E : List FE) (e : FE) : kvL (E ++ [e]) = kvL E ++ [own 5 1 (.slice e.ka e.r.key.length e.kc) e.r.key.length (bv e.r.key), own 5 1 (.slice e.va e.r.value.length e.vc) e.r.value.length (bv e.r.value)] := by simp [kvL]
theorem flat_drop (id : Nat) : ∀ (E : List FE) (i : Nat), (flat id E).drop (i * 9) = flat id (E.drop i) := by
  intro E
  induction E with
  | nil => intro i; simp [flat]
  | cons e E ih =>
    intro i
    cases i with
    | zero => simp
    | succ i =>
      have : flat id (e :: E) = feCs id e ++ flat id E := rfl
      rw [this, List.drop_succ_cons, ← ih, show (i + 1) * 9 = (feCs id e).length + i * 9 from by simp [feCs]; omega, List.drop_append]
      simp
theorem flat_at (id : Nat) {E : List FE} {i : Nat} {e : FE} (h : E[i]? = some e) : ((flat id E).drop (i * 9)).take 9 = feCs id e := by
  rw [flat_drop]
  obtain ⟨hlt, he⟩ := List.getElem?_eq_some_iff.1 h
  rw [List.drop_eq_getElem_cons hlt, he]
  have : flat id (e :: E.drop (i + 1)) = feCs id e ++ flat id (E.drop (i + 1)) := rfl
  rw [this]
  exact List.take_left' (by simp [feCs])

def lastSeq (E : List FE) : Nat := (E.getLast?.map (·.r.seq)).getD 0
theorem lastSeq_snoc (E : List FE) (e : FE) : lastSeq (E ++ [e]) = e.r.seq := by simp [lastSeq]
theorem lastSeq_at {E : List FE} {e : FE} (h : E[E.length - 1]? = some e) : lastSeq E = e.r.seq := by
  unfold lastSeq
  rw [List.getLast?_eq_getElem?, h]; rfl

abbrev scanP (s id : Nat) (fv pv : Value) (pos : Nat) (why : Int) : HP := pt s (.cells [.int .u32 (id : Int), fv, pv, .int .i64 (pos : Int), .int .i64 why].toArray 53 (0, 0))

theorem last_spec {g : World} {F : List HP} {s id pos : Nat} {why : Int} {fv pv : Value} {E : List FE} :
    RCs Tryz.prog 57 [.pointer (some ⟨s, 0, none⟩)] g (scanP s id fv pv pos why :: own 57 9 fv E.length (flat id E) :: F)
      (fun u w => u = .int .u64 (lastSeq E : Int) ∧ St g w (scanP s id fv pv pos why :: own 57 9 fv E.length (flat id E) :: F)) := by
  refine RCs_rd (T := 57) 1 rfl (fun hR => ?_)
  have hmx := hR.2.1
  simp only [maxLen] at hmx
  by_cases h0 : E.length = 0
  · have hE : E = [] := List.eq_nil_of_length_eq_zero h0
    refine RCs.mono (k := fun u w => u = .int .u64 0 ∧ St g w (scanP s id fv pv pos why :: own 57 9 fv E.length (flat id E) :: F)) ?_ (fun u w ⟨h1, h2⟩ => ⟨by rw [h1, hE]; rfl, h2⟩)
    refine RCs_of_WPs Tryz.func57 rfl Tryz.ntmps57 rfl Tryz.results57 ?_
    refine WPs_seq ?_
    refine WPs_regionK [0] ?_
    refine s_assign rfl rfl ?_
    refine SXs_nilK (fr' := [(0, _)]) rfl ?_
    refine KSs_wp ?_
    refine WPs_seq ?_
    refine WPs_seq ?_
    refine WPs_regionK [0, 8] ?_
    refine s_move rfl rfl ?_
    refine s_nilCheck rfl rfl ?_
    refine s_fieldAddr fo_53_1 rfl rfl ?_
    refine s_load1 Tryz.isAgg50 rfl rfl (by exact cin (i := 0) rfl rfl) ?_
    refine s_lenRd rfl Tryz.underlying50 rfl rfl (by ((assumption))) ?_
    refine s_eql rfl rfl rfl ?_
    refine SXs_nilK (fr' := [(0, _), (8, _)]) rfl ?_
    refine KSs_wp ?_
    refine WPs_cond rfl (fun hc1 => ?_) (fun hc1 => ?_)
    · simp only [decide_eq_true_eq] at hc1
      refine WPs_seq ?_
      refine WPs_regionK [2] ?_
      refine s_assign rfl rfl ?_
      refine SXs_nilK (fr' := [(2, _)]) rfl ?_
      refine KSs_wp ?_
      refine WPs_ret ?_
      refine RLs_start ?_
      refine RLs_tmp rfl ?_
      refine RLs_fin1 ?_
      exact fun w hS => ⟨rfl, hS⟩
    · (exfalso; (simp only [decide_eq_false_iff_not] at hc1; omega))
  · obtain ⟨e, he⟩ : ∃ e, E[E.length - 1]? = some e := ⟨_, List.getElem?_eq_getElem (by omega)⟩
    have hl := lastSeq_at he
    have hfa := flat_at id he
    rw [hl]
    have ei : ((E.length : Int) - 1) = ((E.length - 1 : Nat) : Int) := by omega
    have en : ((E.length - 1 : Nat) : Int).toNat = E.length - 1 := by omega
    refine RCs_of_WPs Tryz.func57 rfl Tryz.ntmps57 rfl Tryz.results57 ?_
    refine WPs_seq ?_
    refine WPs_regionK [0] ?_
    refine s_assign rfl rfl ?_
    refine SXs_nilK (fr' := [(0, _)]) rfl ?_
    refine KSs_wp ?_
    refine WPs_seq ?_
    refine WPs_seq ?_
    refine WPs_regionK [0, 8] ?_
    refine s_move rfl rfl ?_
    refine s_nilCheck rfl rfl ?_
    refine s_fieldAddr fo_53_1 rfl rfl ?_
    refine s_load1 Tryz.isAgg50 rfl rfl (by exact cin (i := 0) rfl rfl) ?_
    refine s_lenRd rfl Tryz.underlying50 rfl rfl (by ((assumption))) ?_
    refine s_eql rfl rfl rfl ?_
    refine SXs_nilK (fr' := [(0, _), (8, _)]) rfl ?_
    refine KSs_wp ?_
    refine WPs_cond rfl (fun hc1 => ?_) (fun hc1 => ?_)
    · (exfalso; (simp only [decide_eq_true_eq] at hc1; omega))
    · simp only [decide_eq_false_iff_not] at hc1
      refine WPs_skip ?_
      refine KSs_wp ?_
      refine WPs_seq ?_
      refine WPs_drawL [2] [] Tryz.mixed rfl (listed := #[false, false, false, false, false, false, false, false, false, false, false, false, false, false, false]) rfl ?_
      refine st_take 0 rfl (by decide +kernel) (listed' := #[true, false, false, false, false, false, false, false, false, false, false, false, false, false, false]) rfl (by (intro _ h; (exact h))) (gv_move rfl rfl) ?_
      refine st_take 1 rfl (by decide +kernel) (listed' := #[true, true, false, false, false, false, false, false, false, false, false, false, false, false, false]) rfl (by (intro _ h; (exact h))) (gv_nilCheck rfl rfl) ?_
      refine st_take 2 rfl (by decide +kernel) (listed' := #[true, true, true, false, false, false, false, false, false, false, false, false, false, false, false]) rfl (by (intro _ h; (exact h))) (gv_fieldAddr fo_53_1 rfl rfl) ?_
      refine st_take 3 rfl (by decide +kernel) (listed' := #[true, true, true, true, false, false, false, false, false, false, false, false, false, false, false]) rfl (by (intro _ h; (exact h))) (gv_load1 Tryz.isAgg50 rfl rfl (by exact cin (i := 0) rfl rfl)) ?_
      refine st_take 4 rfl (by decide +kernel) (listed' := #[true, true, true, true, true, false, false, false, false, false, false, false, false, false, false]) rfl (by (intro _ h; (exact h))) (gv_move rfl rfl) ?_
      refine st_take 5 rfl (by decide +kernel) (listed' := #[true, true, true, true, true, true, false, false, false, false, false, false, false, false, false]) rfl (by (intro _ h; (exact h))) (gv_nilCheck rfl rfl) ?_
      refine st_take 6 rfl (by decide +kernel) (listed' := #[true, true, true, true, true, true, true, false, false, false, false, false, false, false, false]) rfl (by (intro _ h; (exact h))) (gv_fieldAddr fo_53_1 rfl rfl) ?_
      refine st_take 7 rfl (by decide +kernel) (listed' := #[true, true, true, true, true, true, true, true, false, false, false, false, false, false, false]) rfl (by (intro _ h; (exact h))) (gv_load1 Tryz.isAgg50 rfl rfl (by exact cin (i := 0) rfl rfl)) ?_
      refine st_take 8 rfl (by decide +kernel) (listed' := #[true, true, true, true, true, true, true, true, true, false, false, false, false, false, false]) rfl (by (intro _ h; (exact h))) (gv_lenRd rfl Tryz.underlying50 rfl rfl (by ((assumption)))) ?_
      refine st_take 9 rfl (by decide +kernel) (listed' := #[true, true, true, true, true, true, true, true, true, true, false, false, false, false, false]) rfl (by (intro _ h; (exact h))) (gv_subC (c := ((E.length - 1 : Nat) : Int)) rfl rfl rfl (by rw [ei]; exact inR_i64 (by omega) (by omega))) ?_
      refine ex_idxRd 10 rfl slt_50 rfl rfl hR rfl (by omega) (by omega) (fun b19 o19 hc19 hG3_10 => ?_)
      refine st_take 10 rfl (by decide +kernel) (listed' := #[true, true, true, true, true, true, true, true, true, true, true, false, false, false, false]) rfl (by (intro _ h; (exact h))) hG3_10 ?_
      refine st_take 11 rfl (by decide +kernel) (listed' := #[true, true, true, true, true, true, true, true, true, true, true, true, false, false, false]) rfl (by (intro _ h; (exact h))) (gv_fieldAddr fo_57_2 rfl rfl) ?_
      refine st_take 12 rfl (by decide +kernel) (listed' := #[true, true, true, true, true, true, true, true, true, true, true, true, true, false, false]) rfl (by (intro _ h; (exact h))) (gv_fieldAddr fo_46_0 rfl rfl) ?_
      refine st_take 13 rfl (by decide +kernel) (listed' := #[true, true, true, true, true, true, true, true, true, true, true, true, true, true, false]) rfl (by (intro _ h; (exact h))) (gv_load1 (v := .int .u64 (e.r.seq : Int)) Tryz.isAgg36 rfl rfl (CellsIn.at (j := 3) hc19 (by rw [en, hfa]; rfl))) ?_
      refine st_take 14 rfl (by decide +kernel) (listed' := #[true, true, true, true, true, true, true, true, true, true, true, true, true, true, true]) rfl (by (intro _ h; (exact h))) (gv_assign rfl rfl) ?_
      refine st_doneK (fr' := [(2, _)]) (by decide +kernel) rfl ?_
      refine KSs_wp ?_
      refine WPs_ret ?_
      refine RLs_start ?_
      refine RLs_tmp rfl ?_
      refine RLs_fin1 ?_
      exact fun w hS => ⟨rfl, hS⟩
end Go.Proofs.YthodbnmeggkkoaaGreatDoor
/-
  Package scan: next.
-/
namespace Go.Proofs.YthodbnmeggkkoaaGreatDoor
open Go Go.RowKit Go.Hb Go.Proofs

/-- r stands at the beginning of ys, whole. -/
structure GoodAt (ys : List UInt8) (r : RecM) (kind : Nat) : Prop where
  t : ∃ t, ys = cov (hdOf kind r) ++ t
  ok : recOk r
  hk : r.kind = (kind : Int)
  hl : rsz r ≤ ys.length
  hr : rightP (ys.take (rsz r))
  key : (ys.drop 21).take r.key.length = r.key
  val : (ys.drop (21 + r.key.length)).take r.value.length = r.value

theorem get_good {g : World} {F : List HP} {v : Value} {ys : List UInt8} {kind : Nat} {r : RecM} (hH : HalfG g) (hSz : SizesG g) (hR : RdB g F v ys) (hg : GoodAt ys r kind) :
    RCs Tryz.prog 36 [v] g F (fun u w => ∃ ka kc va vc, u = .tuple #[.agg [.int .u64 (r.seq : Int), .int .i64 r.kind, .slice ka r.key.length kc, .slice va r.value.length vc, .int .u32 (r.ps : Int), .int .u32 (r.po : Int)].toArray, .int .i64 (rsz r : Int), .int .i64 0] ∧
      St g w (own 5 1 (.slice ka r.key.length kc) r.key.length (bv r.key) :: own 5 1 (.slice va r.value.length vc) r.value.length (bv r.value) :: F)) := by
  obtain ⟨t, ht⟩ := hg.t
  have h := get_ok hH hSz hR ht hg.ok hg.hk hg.hl hg.hr
  rw [hg.key, hg.val] at h
  exact h

abbrev scanL (s id : Nat) (fv pv : Value) (pos : Nat) (why : Int) (E : List FE) (F : List HP) : List HP := scanP s id fv pv pos why :: own 57 9 fv E.length (flat id E) :: F

set_option maxHeartbeats 4000000 in
theorem next_found {g : World} {F : List HP} {s id pos : Nat} {fv pv v : Value} {E : List FE} {xs : List UInt8} {r : RecM} {kind : Nat} (hH : HalfG g) (hSz : SizesG g) (hR : RdB g F v xs) (hpos : pos < xs.length) (hms : pos ≤ 16777216)
    (hg : GoodAt (xs.drop pos) r kind) (hseq : lastSeq E < r.seq) (hE : E.length ≤ 1048576) :
    RCs Tryz.prog 88 [.pointer (some ⟨s, 0, none⟩), v] g (scanL s id fv pv pos 0 E F)
      (fun u w => u = .bool true ∧ ∃ fv' e, e.r = r ∧ e.off = pos ∧ St g w (scanP s id fv' pv (pos + rsz r) 0 :: own 57 9 fv' (E ++ [e]).length (flat id (E ++ [e])) ::
        own 5 1 (.slice e.ka e.r.key.length e.kc) e.r.key.length (bv e.r.key) :: own 5 1 (.slice e.va e.r.value.length e.vc) e.r.value.length (bv e.r.value) :: F)) := by
  have hmx := hR.2.1
  simp only [maxLen] at hmx
  obtain ⟨b1, b2, b3, b4, b5, b6, b7, b8, b9⟩ := recOk_bounds hg.ok hg.hk
  have hrs : rsz r = 25 + r.key.length + r.value.length := rfl
  have hos : r.seq ≤ 1099511627776 := hg.ok.2.2.1
  refine RCs_of_WPs Tryz.func88 rfl Tryz.ntmps88 rfl Tryz.results88 ?_
  refine WPs_seq ?_
  refine WPs_regionK [0, 1] ?_
  refine s_assign rfl rfl ?_
  refine SXs_nilK (fr' := [(0, _), (1, _)]) rfl ?_
  refine KSs_wp ?_
  refine WPs_seq ?_
  refine WPs_seq ?_
  refine WPs_regionK [0, 1, 14] ?_
  refine s_move rfl rfl ?_
  refine s_nilCheck rfl rfl ?_
  refine s_fieldAddr fo_53_3 rfl rfl ?_
  refine s_load1 Tryz.isAgg3 rfl rfl (by exact cin (i := 0) rfl rfl) ?_
  refine s_move rfl rfl ?_
  refine s_lenRd rfl Tryz.underlying42 rfl rfl (by ((apply RdIn.cons; apply RdIn.cons; assumption))) ?_
  refine s_eql rfl rfl rfl ?_
  refine SXs_nilK (fr' := [(0, _), (1, _), (14, _)]) rfl ?_
  refine KSs_wp ?_
  refine WPs_cond rfl (fun hc1 => ?_) (fun hc1 => ?_)
  · (exfalso; (simp only [decide_eq_true_eq] at hc1; omega))
  · simp only [decide_eq_false_iff_not] at hc1
    refine WPs_skip ?_
    refine KSs_wp ?_
    refine WPs_seq ?_
    refine WPs_regionK [0, 5, 6, 7] ?_
    refine s_move rfl rfl ?_
    refine s_move rfl rfl ?_
    refine s_nilCheck rfl rfl ?_
    refine s_fieldAddr fo_53_3 rfl rfl ?_
    refine s_load1 Tryz.isAgg3 rfl rfl (by exact cin (i := 0) rfl rfl) ?_
    refine s_sliceRdF F slt_42 (l := pos) (vlo := some _) (vhi := none) rfl rfl hR rfl trivial (.inl rfl) (.inr ⟨rfl, rfl⟩) (by omega) (by omega) (fun va21 vc21 hR21 => ?_)
    refine s_call Tryz.call36 rfl (vs := [_]) rfl (RCs.perm (by (repeat ((exact List.Perm.refl _)))) (get_good hH hSz (rd_drop hR21).cons.cons hg)) ?_
    rintro v w ⟨ka, kc, va, vc, rfl, hS⟩
    refine SXs_go hS ?_
    clear hS; clear w
    simp only [putF]
    refine s_move rfl rfl ?_
    refine s_extract rfl rfl rfl ?_
    refine s_extract rfl rfl rfl ?_
    refine s_extract rfl rfl rfl ?_
    refine s_alloc Tryz.zeroValue46 (cl := [_, _, _, _, _, _]) rfl rfl (fun b5 => ?_)
    refine s_store (i := 0) Tryz.sizeOf46 rfl rfl rfl (vs := [_, _, _, _, _, _]) rfl rfl rfl rfl ?_
    simp only [List.set_cons_zero, List.set_cons_succ, spl]
    refine s_assign rfl rfl ?_
    refine s_assign rfl rfl ?_
    refine SXs_nilK (fr' := [(0, _), (5, _), (6, _), (7, _)]) rfl ?_
    refine KSs_wp ?_
    refine WPs_seq ?_
    refine WPs_block ?_
    refine WPs_seq ?_
    refine WPs_regionK [0, 5, 6, 7, 29] ?_
    refine s_move rfl rfl ?_
    refine s_nilCheck rfl rfl ?_
    refine s_fieldAddr fo_53_3 rfl rfl ?_
    refine s_load1 Tryz.isAgg3 rfl rfl (by exact cin (i := 3) rfl rfl) ?_
    refine s_gtr rfl rfl rfl ?_
    refine s_assign rfl rfl ?_
    refine SXs_nilK (fr' := [(0, _), (5, _), (6, _), (7, _), (29, _)]) rfl ?_
    refine KSs_wp ?_
    refine WPs_cond rfl (fun hc2 => ?_) (fun hc2 => ?_)
    · (exfalso; (simp only [decide_eq_true_eq] at hc2; omega))
    · simp only [decide_eq_false_iff_not] at hc2
      refine WPs_seq ?_
      refine WPs_drawL [0, 5, 6, 7, 38] [] Tryz.mixed rfl (listed := #[false, false, false, false, false, false, false, false, false, false]) rfl ?_
      refine st_take 0 rfl (by decide +kernel) (listed' := #[true, false, false, false, false, false, false, false, false, false]) rfl (by (intro _ h; (exact h))) (gv_move rfl rfl) ?_
      refine st_take 1 rfl (by decide +kernel) (listed' := #[true, true, false, false, false, false, false, false, false, false]) rfl (by (intro _ h; (exact h))) (gv_eql rfl rfl rfl) ?_
      refine st_take 2 rfl (by decide +kernel) (listed' := #[true, true, true, false, false, false, false, false, false, false]) rfl (by (intro _ h; (exact h))) (gv_move rfl rfl) ?_
      refine st_split (dj := 41) rfl (fun hc3 => ?_) (fun hc3 => ?_)
      · simp only [decide_eq_true_eq] at hc3
        refine st_take_t 3 rfl (by decide +kernel) (listed' := #[true, true, true, true, false, false, false, false, false, false]) rfl (by (intro _ h; (exact h))) rfl rfl (by ((rfl))) (gv_fieldAddr fo_46_0 rfl rfl) ?_
        refine st_take_t 4 rfl (by decide +kernel) (listed' := #[true, true, true, true, true, false, false, false, false, false]) rfl (by (intro _ h; (exact h))) rfl rfl (by ((rfl))) (gv_load1 Tryz.isAgg36 rfl rfl (by exact cin (i := 0) rfl rfl)) ?_
        refine st_take_t 5 rfl (by decide +kernel) (listed' := #[true, true, true, true, true, true, false, false, false, false]) rfl (by (intro _ h; (exact h))) rfl rfl (by ((rfl))) (gv_move rfl rfl) ?_
        refine st_one 6 rfl (by decide +kernel) ?_
        refine s_guard_t2 rfl rfl (by ((rfl))) rfl ?_
        refine s_call Tryz.call57 rfl (vs := [_]) rfl (RCs.perm (by (repeat (first | exact List.Perm.refl _ | (apply pick 3; exact rfl)))) (last_spec (E := E))) ?_
        rintro v w ⟨rfl, hS⟩
        refine SXs_go hS ?_
        clear hS; clear w
        simp only [List.eraseIdx_cons_zero, List.eraseIdx_cons_succ, putF]
        refine st_next (listed' := #[true, true, true, true, true, true, true, false, false, false]) rfl (by intro _ _; (intro _ h; (exact h.sl (by (repeat (first | exact Sl.refl _ | (apply Sl.pick 2; exact rfl))))))) ?_
        refine st_take_t 7 rfl (by decide +kernel) (listed' := #[true, true, true, true, true, true, true, true, false, false]) rfl (by (intro _ h; (exact h.sl (by (repeat (first | exact Sl.refl _ | (apply Sl.pick 2; exact rfl))))))) rfl rfl (by ((rfl))) (gv_gtr rfl rfl rfl) ?_
        refine st_take 8 rfl (by decide +kernel) (listed' := #[true, true, true, true, true, true, true, true, true, false]) rfl (by (intro _ h; (exact h.sl (by (repeat (first | exact Sl.refl _ | (apply Sl.pick 2; exact rfl))))))) (gv_pick_t rfl rfl rfl) ?_
        refine st_take 9 rfl (by decide +kernel) (listed' := #[true, true, true, true, true, true, true, true, true, true]) rfl (by (intro _ h; (exact h.sl (by (repeat (first | exact Sl.refl _ | (apply Sl.pick 2; exact rfl))))))) (gv_assign rfl rfl) ?_
        refine st_doneK (fr' := [(0, _), (5, _), (6, _), (7, _), (38, _)]) (by decide +kernel) rfl ?_
        refine KSs_wp ?_
        refine WPs_cond rfl (fun hc4 => ?_) (fun hc4 => ?_)
        · simp only [decide_eq_true_eq] at hc4
          refine WPs_draw [0, 6] (List.contains [22]) (scanP s id fv pv pos 0 :: pt b5 (.cells [.int .u64 (r.seq : Int), .int .i64 r.kind, .slice ka r.key.length kc, .slice va r.value.length vc, .int .u32 (r.ps : Int), .int .u32 (r.po : Int)].toArray 46 (0, 0)) :: F) Tryz.mixed rfl (listed := #[false, false, false, false, false, false, false, false, false, false, false, false, false, false, false, false, false, false, false, false, false, false, false]) rfl ?_
          refine st_take 0 rfl (by decide +kernel) (listed' := #[true, false, false, false, false, false, false, false, false, false, false, false, false, false, false, false, false, false, false, false, false, false, false]) rfl (by (intro _ h; (exact h.sl (by (repeat (first | exact Sl.refl _ | (apply Sl.pick 0; exact rfl) | (apply Sl.pick 1; exact rfl) | refine Sl.skip ?_)))))) (gv_move rfl rfl) ?_
          refine st_take 1 rfl (by decide +kernel) (listed' := #[true, true, false, false, false, false, false, false, false, false, false, false, false, false, false, false, false, false, false, false, false, false, false]) rfl (by (intro _ h; (exact h.sl (by (repeat (first | exact Sl.refl _ | (apply Sl.pick 0; exact rfl) | (apply Sl.pick 1; exact rfl) | refine Sl.skip ?_)))))) (gv_move rfl rfl) ?_
          refine st_take 2 rfl (by decide +kernel) (listed' := #[true, true, true, false, false, false, false, false, false, false, false, false, false, false, false, false, false, false, false, false, false, false, false]) rfl (by (intro _ h; (exact h.sl (by (repeat (first | exact Sl.refl _ | (apply Sl.pick 0; exact rfl) | (apply Sl.pick 1; exact rfl) | refine Sl.skip ?_)))))) (gv_nilCheck rfl rfl) ?_
          refine st_take 3 rfl (by decide +kernel) (listed' := #[true, true, true, true, false, false, false, false, false, false, false, false, false, false, false, false, false, false, false, false, false, false, false]) rfl (by (intro _ h; (exact h.sl (by (repeat (first | exact Sl.refl _ | (apply Sl.pick 0; exact rfl) | (apply Sl.pick 1; exact rfl) | refine Sl.skip ?_)))))) (gv_fieldAddr fo_53_1 rfl rfl) ?_
          refine st_take 4 rfl (by decide +kernel) (listed' := #[true, true, true, true, true, false, false, false, false, false, false, false, false, false, false, false, false, false, false, false, false, false, false]) rfl (by (intro _ h; (exact h.sl (by (repeat (first | exact Sl.refl _ | (apply Sl.pick 0; exact rfl) | (apply Sl.pick 1; exact rfl) | refine Sl.skip ?_)))))) (gv_load1 Tryz.isAgg50 rfl rfl (by exact cin (i := 0) rfl rfl)) ?_
          refine st_take 5 rfl (by decide +kernel) (listed' := #[true, true, true, true, true, true, false, false, false, false, false, false, false, false, false, false, false, false, false, false, false, false, false]) rfl (by (intro _ h; (exact h.sl (by (repeat (first | exact Sl.refl _ | (apply Sl.pick 0; exact rfl) | (apply Sl.pick 1; exact rfl) | refine Sl.skip ?_)))))) (gv_move rfl rfl) ?_
          refine st_take 6 rfl (by decide +kernel) (listed' := #[true, true, true, true, true, true, true, false, false, false, false, false, false, false, false, false, false, false, false, false, false, false, false]) rfl (by (intro _ h; (exact h.sl (by (repeat (first | exact Sl.refl _ | (apply Sl.pick 0; exact rfl) | (apply Sl.pick 1; exact rfl) | refine Sl.skip ?_)))))) (gv_nilCheck rfl rfl) ?_
          refine st_take 7 rfl (by decide +kernel) (listed' := #[true, true, true, true, true, true, true, true, false, false, false, false, false, false, false, false, false, false, false, false, false, false, false]) rfl (by (intro _ h; (exact h.sl (by (repeat (first | exact Sl.refl _ | (apply Sl.pick 0; exact rfl) | (apply Sl.pick 1; exact rfl) | refine Sl.skip ?_)))))) (gv_fieldAddr fo_53_0 rfl rfl) ?_
          refine st_take 8 rfl (by decide +kernel) (listed' := #[true, true, true, true, true, true, true, true, true, false, false, false, false, false, false, false, false, false, false, false, false, false, false]) rfl (by (intro _ h; (exact h.sl (by (repeat (first | exact Sl.refl _ | (apply Sl.pick 0; exact rfl) | (apply Sl.pick 1; exact rfl) | refine Sl.skip ?_)))))) (gv_load1 Tryz.isAgg34 rfl rfl (by exact cin (i := 0) rfl rfl)) ?_
          refine st_take 9 rfl (by decide +kernel) (listed' := #[true, true, true, true, true, true, true, true, true, true, false, false, false, false, false, false, false, false, false, false, false, false, false]) rfl (by (intro _ h; (exact h.sl (by (repeat (first | exact Sl.refl _ | (apply Sl.pick 0; exact rfl) | (apply Sl.pick 1; exact rfl) | refine Sl.skip ?_)))))) (gv_move rfl rfl) ?_
          refine st_take 10 rfl (by decide +kernel) (listed' := #[true, true, true, true, true, true, true, true, true, true, true, false, false, false, false, false, false, false, false, false, false, false, false]) rfl (by (intro _ h; (exact h.sl (by (repeat (first | exact Sl.refl _ | (apply Sl.pick 0; exact rfl) | (apply Sl.pick 1; exact rfl) | refine Sl.skip ?_)))))) (gv_nilCheck rfl rfl) ?_
          refine st_take 11 rfl (by decide +kernel) (listed' := #[true, true, true, true, true, true, true, true, true, true, true, true, false, false, false, false, false, false, false, false, false, false, false]) rfl (by (intro _ h; (exact h.sl (by (repeat (first | exact Sl.refl _ | (apply Sl.pick 0; exact rfl) | (apply Sl.pick 1; exact rfl) | refine Sl.skip ?_)))))) (gv_fieldAddr fo_53_3 rfl rfl) ?_
          refine st_take 12 rfl (by decide +kernel) (listed' := #[true, true, true, true, true, true, true, true, true, true, true, true, true, false, false, false, false, false, false, false, false, false, false]) rfl (by (intro _ h; (exact h.sl (by (repeat (first | exact Sl.refl _ | (apply Sl.pick 0; exact rfl) | (apply Sl.pick 1; exact rfl) | refine Sl.skip ?_)))))) (gv_load1 Tryz.isAgg3 rfl rfl (by exact cin (i := 0) rfl rfl)) ?_
          refine st_take 13 rfl (by decide +kernel) (listed' := #[true, true, true, true, true, true, true, true, true, true, true, true, true, true, false, false, false, false, false, false, false, false, false]) rfl (by (intro _ h; (exact h.sl (by (repeat (first | exact Sl.refl _ | (apply Sl.pick 0; exact rfl) | (apply Sl.pick 1; exact rfl) | refine Sl.skip ?_)))))) (gv_conv_ok Tryz.underlying3 Tryz.underlying34 rfl rfl (inR_u32 (by omega) (by omega))) ?_
          refine st_take 14 rfl (by decide +kernel) (listed' := #[true, true, true, true, true, true, true, true, true, true, true, true, true, true, true, false, false, false, false, false, false, false, false]) rfl (by (intro _ h; (exact h.sl (by (repeat (first | exact Sl.refl _ | (apply Sl.pick 0; exact rfl) | (apply Sl.pick 1; exact rfl) | refine Sl.skip ?_)))))) (gv_build (vs := [(0, _), (1, _)]) (cs := [_, _]) rfl rfl (build_44_0_1 rfl rfl)) ?_
          refine st_take 15 rfl (by decide +kernel) (listed' := #[true, true, true, true, true, true, true, true, true, true, true, true, true, true, true, true, false, false, false, false, false, false, false]) rfl (by (intro _ h; (exact h.sl (by (repeat (first | exact Sl.refl _ | (apply Sl.pick 0; exact rfl) | (apply Sl.pick 1; exact rfl) | refine Sl.skip ?_)))))) (gv_move rfl rfl) ?_
          refine st_take 16 rfl (by decide +kernel) (listed' := #[true, true, true, true, true, true, true, true, true, true, true, true, true, true, true, true, true, false, false, false, false, false, false]) rfl (by (intro _ h; (exact h.sl (by (repeat (first | exact Sl.refl _ | (apply Sl.pick 0; exact rfl) | (apply Sl.pick 1; exact rfl) | refine Sl.skip ?_)))))) (gv_loadN Tryz.isAgg46 Tryz.sizeOf46 (vs := [_, _, _, _, _, _]) rfl rfl (by exact csin (i := 1) (k := 6) rfl rfl) rfl) ?_
          refine st_take 17 rfl (by decide +kernel) (listed' := #[true, true, true, true, true, true, true, true, true, true, true, true, true, true, true, true, true, true, false, false, false, false, false]) rfl (by (intro _ h; (exact h.sl (by (repeat (first | exact Sl.refl _ | (apply Sl.pick 0; exact rfl) | (apply Sl.pick 1; exact rfl) | refine Sl.skip ?_)))))) (gv_build (vs := [(0, _), (1, _), (2, _)]) (cs := [_, _, _, _, _, _, _, _, _]) rfl rfl (build_57_0_1_2 rfl)) ?_
          refine st_one 18 rfl (by decide +kernel) ?_
          refine s_buildSlice (vs := [(0, _)]) (cs := [_, _, _, _, _, _, _, _, _]) rfl rfl (buildSlice_one slt_50 rfl rfl (by decide)) (fun b66 => ?_)
          refine st_next (listed' := #[true, true, true, true, true, true, true, true, true, true, true, true, true, true, true, true, true, true, true, false, false, false, false]) rfl (by intro _ _; (intro _ h; (exact h.sl (by (repeat (first | exact Sl.refl _ | (apply Sl.pick 1; exact rfl) | (apply Sl.pick 2; exact rfl) | refine Sl.skip ?_)))))) ?_
          refine st_one 19 rfl (by decide +kernel) ?_
          refine s_append (i := 2) slt_50 rfl rfl rfl rfl (by exact pt_RdIn (i := 0) rfl rfl rfl (by omega) (by simp only [maxLen]; omega)) (by ((rfl))) (by ((simp only [maxLen]; omega))) (by ((omega))) (fun va67 vc67 => ?_)
          simp only [List.set_cons_zero, List.set_cons_succ]
          refine st_next (listed' := #[true, true, true, true, true, true, true, true, true, true, true, true, true, true, true, true, true, true, true, true, false, false, false]) rfl (by intro _ _; (intro _ h; (exact h.sl (by (repeat (first | exact Sl.refl _ | (apply Sl.pick 1; exact rfl) | (apply Sl.pick 2; exact rfl) | refine Sl.skip ?_)))))) ?_
          refine st_take 20 rfl (by decide +kernel) (listed' := #[true, true, true, true, true, true, true, true, true, true, true, true, true, true, true, true, true, true, true, true, true, false, false]) rfl (by (intro _ h; (exact h.sl (by (repeat (first | exact Sl.refl _ | (apply Sl.pick 1; exact rfl) | (apply Sl.pick 2; exact rfl) | refine Sl.skip ?_)))))) (gv_nilCheck rfl rfl) ?_
          refine st_take 21 rfl (by decide +kernel) (listed' := #[true, true, true, true, true, true, true, true, true, true, true, true, true, true, true, true, true, true, true, true, true, true, false]) rfl (by (intro _ h; (exact h.sl (by (repeat (first | exact Sl.refl _ | (apply Sl.pick 1; exact rfl) | (apply Sl.pick 2; exact rfl) | refine Sl.skip ?_)))))) (gv_fieldAddr fo_53_1 rfl rfl) ?_
          refine st_one 22 rfl (by decide +kernel) ?_
          refine s_store (i := 1) Tryz.sizeOf50 rfl rfl rfl (vs := [_]) rfl rfl rfl rfl ?_
          simp only [List.set_cons_zero, List.set_cons_succ, spl]
          refine st_next (listed' := #[true, true, true, true, true, true, true, true, true, true, true, true, true, true, true, true, true, true, true, true, true, true, true]) rfl (by intro e; cases e) ?_
          refine st_doneK (fr' := [(0, _), (6, _)]) (by decide +kernel) rfl ?_
          refine KSs_wp ?_
          refine WPs_seq ?_
          refine WPs_regionK [] ?_
          refine s_move rfl rfl ?_
          refine s_nilCheck rfl rfl ?_
          refine s_fieldAddr fo_53_3 rfl rfl ?_
          refine s_load1 Tryz.isAgg3 rfl rfl (by exact cin (i := 1) rfl rfl) ?_
          refine s_move rfl rfl ?_
          refine s_add_ok rfl rfl rfl (inR_i64 (by omega) (by omega)) ?_
          refine s_nilCheck rfl rfl ?_
          refine s_fieldAddr fo_53_3 rfl rfl ?_
          refine s_store (i := 1) Tryz.sizeOf3 rfl rfl rfl (vs := [_]) rfl rfl rfl rfl ?_
          simp only [List.set_cons_zero, List.set_cons_succ, spl]
          refine SXs_nilK (fr' := []) rfl ?_
          refine KSs_wp ?_
          refine WPs_seq ?_
          refine WPs_regionK [4] ?_
          refine s_assign rfl rfl ?_
          refine SXs_nilK (fr' := [(4, _)]) rfl ?_
          refine KSs_wp ?_
          refine WPs_ret ?_
          refine RLs_start ?_
          refine RLs_tmp rfl ?_
          refine RLs_fin1 ?_
          exact fun w hS => ⟨rfl, _, ⟨r, pos, ka, va, kc, vc⟩, rfl, rfl, by
              have e1 : ((pos : Int) + (rsz r : Int)) = ((pos + rsz r : Nat) : Int) := by omega
              rw [List.length_append, List.length_singleton, flat_snoc]
              rw [e1] at hS
              exact hS.sl (by (repeat (first | exact Sl.refl _ | (apply Sl.pick 1; exact rfl) | (apply Sl.pick 2; exact rfl) | refine Sl.skip ?_)))⟩
        · (exfalso; (simp only [decide_eq_false_iff_not] at hc4; omega))
      · (exfalso; (cases hc3; done))
/-- A record whose head is right, and no more. -/
structure HalfAt (ys : List UInt8) (r : RecM) (kind : Nat) : Prop where
  t : ∃ t, ys = cov (hdOf kind r) ++ t
  ok : recOk r
  hk : r.kind = (kind : Int)
  hr : rsz r ≤ ys.length → ¬ rightP (ys.take (rsz r))

set_option maxHeartbeats 4000000 in
theorem next_passed {g : World} {F : List HP} {s id pos : Nat} {fv pv v : Value} {pn : List Nat} {xs : List UInt8} {r : RecM} {kind : Nat} (hH : HalfG g) (hSz : SizesG g) (hR : RdB g F v xs) (hpos : pos < xs.length) (hms : pos ≤ 16777216)
    (hg : HalfAt (xs.drop pos) r kind) (hl : rsz r ≤ (xs.drop pos).length) (hE : pn.length ≤ 1048576) :
    RCs Tryz.prog 88 [.pointer (some ⟨s, 0, none⟩), v] g (scanP s id fv pv pos 0 :: own 3 1 pv pn.length (pn.map fun (n : Nat) => .int .i64 (n : Int)) :: F)
      (fun u w => u = .bool true ∧ ∃ pv', St g w (scanP s id fv pv' (pos + rsz r) 0 :: own 3 1 pv' (pn ++ [pos]).length ((pn ++ [pos]).map fun (n : Nat) => .int .i64 (n : Int)) :: F)) := by
  have hmx := hR.2.1
  simp only [maxLen] at hmx
  have hrs : rsz r = 25 + r.key.length + r.value.length := rfl
  obtain ⟨b1, b2, b3, b4, b5', b6, b7, b8, b9⟩ := recOk_bounds hg.ok hg.hk
  obtain ⟨t, ht⟩ := hg.t
  have hget := fun (G : List HP) (v' : Value) (hv : RdB g G v' (xs.drop pos)) => (get_half hH hSz hv ht hg.ok hg.hk (fun h => hg.hr h)).mono (k' := fun u w => u = .tuple #[.agg [.int .u64 0, .int .i64 0, .slice none 0 0, .slice none 0 0, .int .u32 0, .int .u32 0].toArray, .int .i64 (rsz r : Int), .int .i64 23] ∧ St g w G) (fun u w ⟨sz, e, h1, h2, _, h3⟩ => by
    obtain ⟨rfl, rfl⟩ := h2 hl
    exact ⟨h1, h3⟩)
  refine RCs_of_WPs Tryz.func88 rfl Tryz.ntmps88 rfl Tryz.results88 ?_
  refine WPs_seq ?_
  refine WPs_regionK [0, 1] ?_
  refine s_assign rfl rfl ?_
  refine SXs_nilK (fr' := [(0, _), (1, _)]) rfl ?_
  refine KSs_wp ?_
  refine WPs_seq ?_
  refine WPs_seq ?_
  refine WPs_regionK [0, 1, 14] ?_
  refine s_move rfl rfl ?_
  refine s_nilCheck rfl rfl ?_
  refine s_fieldAddr fo_53_3 rfl rfl ?_
  refine s_load1 Tryz.isAgg3 rfl rfl (by exact cin (i := 0) rfl rfl) ?_
  refine s_move rfl rfl ?_
  refine s_lenRd rfl Tryz.underlying42 rfl rfl (by ((apply RdIn.cons; apply RdIn.cons; assumption))) ?_
  refine s_eql rfl rfl rfl ?_
  refine SXs_nilK (fr' := [(0, _), (1, _), (14, _)]) rfl ?_
  refine KSs_wp ?_
  refine WPs_cond rfl (fun hc1 => ?_) (fun hc1 => ?_)
  · (exfalso; (simp only [decide_eq_true_eq] at hc1; omega))
  · simp only [decide_eq_false_iff_not] at hc1
    refine WPs_skip ?_
    refine KSs_wp ?_
    refine WPs_seq ?_
    refine WPs_regionK [0, 5, 6, 7] ?_
    refine s_move rfl rfl ?_
    refine s_move rfl rfl ?_
    refine s_nilCheck rfl rfl ?_
    refine s_fieldAddr fo_53_3 rfl rfl ?_
    refine s_load1 Tryz.isAgg3 rfl rfl (by exact cin (i := 0) rfl rfl) ?_
    refine s_sliceRdF F slt_42 (l := pos) (vlo := some _) (vhi := none) rfl rfl hR rfl trivial (.inl rfl) (.inr ⟨rfl, rfl⟩) (by omega) (by omega) (fun va21 vc21 hR21 => ?_)
    refine s_call Tryz.call36 rfl (vs := [_]) rfl (RCs.perm (by (repeat ((exact List.Perm.refl _)))) (hget _ _ (rd_drop hR21).cons.cons)) ?_
    rintro v w ⟨rfl, hS⟩
    refine SXs_go hS ?_
    clear hS; clear w
    simp only [putF]
    refine s_move rfl rfl ?_
    refine s_extract rfl rfl rfl ?_
    refine s_extract rfl rfl rfl ?_
    refine s_extract rfl rfl rfl ?_
    refine s_alloc Tryz.zeroValue46 (cl := [_, _, _, _, _, _]) rfl rfl (fun b5 => ?_)
    refine s_store (i := 0) Tryz.sizeOf46 rfl rfl rfl (vs := [_, _, _, _, _, _]) rfl rfl rfl rfl ?_
    simp only [List.set_cons_zero, List.set_cons_succ, spl]
    refine s_assign rfl rfl ?_
    refine s_assign rfl rfl ?_
    refine SXs_nilK (fr' := [(0, _), (5, _), (6, _), (7, _)]) rfl ?_
    refine KSs_wp ?_
    refine WPs_seq ?_
    refine WPs_block ?_
    refine WPs_seq ?_
    refine WPs_regionK [0, 5, 6, 7, 29] ?_
    refine s_move rfl rfl ?_
    refine s_nilCheck rfl rfl ?_
    refine s_fieldAddr fo_53_3 rfl rfl ?_
    refine s_load1 Tryz.isAgg3 rfl rfl (by exact cin (i := 1) rfl rfl) ?_
    refine s_gtr rfl rfl rfl ?_
    refine s_assign rfl rfl ?_
    refine SXs_nilK (fr' := [(0, _), (5, _), (6, _), (7, _), (29, _)]) rfl ?_
    refine KSs_wp ?_
    refine WPs_cond rfl (fun hc2 => ?_) (fun hc2 => ?_)
    · (exfalso; (simp only [decide_eq_true_eq] at hc2; omega))
    · simp only [decide_eq_false_iff_not] at hc2
      refine WPs_seq ?_
      refine WPs_drawL [0, 5, 6, 7, 38] [] Tryz.mixed rfl (listed := #[false, false, false, false, false, false, false, false, false, false]) rfl ?_
      refine st_take 0 rfl (by decide +kernel) (listed' := #[true, false, false, false, false, false, false, false, false, false]) rfl (by (intro _ h; (exact h))) (gv_move rfl rfl) ?_
      refine st_take 1 rfl (by decide +kernel) (listed' := #[true, true, false, false, false, false, false, false, false, false]) rfl (by (intro _ h; (exact h))) (gv_eql rfl rfl rfl) ?_
      refine st_take 2 rfl (by decide +kernel) (listed' := #[true, true, true, false, false, false, false, false, false, false]) rfl (by (intro _ h; (exact h))) (gv_move rfl rfl) ?_
      refine st_split (dj := 41) rfl (fun hc3 => ?_) (fun hc3 => ?_)
      · (exfalso; (cases hc3; done))
      · simp only [decide_eq_false_iff_not] at hc3
        refine st_take_f 3 rfl (by decide +kernel) (listed' := #[true, true, true, true, false, false, false, false, false, false]) rfl (by (intro _ h; (exact h))) rfl rfl (by ((rfl))) rfl ?_
        refine st_take_f 4 rfl (by decide +kernel) (listed' := #[true, true, true, true, true, false, false, false, false, false]) rfl (by (intro _ h; (exact h))) rfl rfl (by ((rfl))) rfl ?_
        refine st_take_f 5 rfl (by decide +kernel) (listed' := #[true, true, true, true, true, true, false, false, false, false]) rfl (by (intro _ h; (exact h))) rfl rfl (by ((rfl))) rfl ?_
        refine st_take_f 6 rfl (by decide +kernel) (listed' := #[true, true, true, true, true, true, true, false, false, false]) rfl (by (intro _ h; (exact h))) rfl rfl (by ((rfl))) rfl ?_
        refine st_take_f 7 rfl (by decide +kernel) (listed' := #[true, true, true, true, true, true, true, true, false, false]) rfl (by (intro _ h; (exact h))) rfl rfl (by ((rfl))) rfl ?_
        refine st_take 8 rfl (by decide +kernel) (listed' := #[true, true, true, true, true, true, true, true, true, false]) rfl (by (intro _ h; (exact h))) (gv_pick_f rfl rfl rfl) ?_
        refine st_take 9 rfl (by decide +kernel) (listed' := #[true, true, true, true, true, true, true, true, true, true]) rfl (by (intro _ h; (exact h))) (gv_assign rfl rfl) ?_
        refine st_doneK (fr' := [(0, _), (5, _), (6, _), (7, _), (38, _)]) (by decide +kernel) rfl ?_
        refine KSs_wp ?_
        refine WPs_cond rfl (fun hc10 => ?_) (fun hc10 => ?_)
        · (exfalso; (cases hc10; done))
        · simp only [decide_eq_true_eq] at hc10
          refine WPs_seq ?_
          refine WPs_regionK [0, 6, 7, 70] ?_
          refine s_move rfl rfl ?_
          refine s_eql rfl rfl rfl ?_
          refine s_move rfl rfl ?_
          refine s_guard rfl rfl rfl (fun hc11 => ?_) (fun hc11 => ?_)
          · simp only [decide_eq_true_eq] at hc11
            refine s_move rfl rfl ?_
            refine s_guard_t2 rfl rfl (by ((rfl))) rfl ?_
            refine s_gtr rfl rfl rfl ?_
            refine s_pick_t rfl rfl rfl ?_
            refine s_assign rfl rfl ?_
            refine SXs_nilK (fr' := [(0, _), (6, _), (7, _), (70, _)]) rfl ?_
            refine KSs_wp ?_
            refine WPs_cond rfl (fun hc12 => ?_) (fun hc12 => ?_)
            · simp only [decide_eq_true_eq] at hc12
              refine WPs_draw [0, 6] (List.contains [13]) (scanP s id fv pv pos 0 :: F) Tryz.mixed rfl (listed := #[false, false, false, false, false, false, false, false, false, false, false, false, false, false]) rfl ?_
              refine st_take 0 rfl (by decide +kernel) (listed' := #[true, false, false, false, false, false, false, false, false, false, false, false, false, false]) rfl (by (intro _ h; (exact h.sl (by (repeat (first | exact Sl.refl _ | (apply Sl.pick 1; exact rfl) | refine Sl.skip ?_)))))) (gv_move rfl rfl) ?_
              refine st_take 1 rfl (by decide +kernel) (listed' := #[true, true, false, false, false, false, false, false, false, false, false, false, false, false]) rfl (by (intro _ h; (exact h.sl (by (repeat (first | exact Sl.refl _ | (apply Sl.pick 1; exact rfl) | refine Sl.skip ?_)))))) (gv_move rfl rfl) ?_
              refine st_take 2 rfl (by decide +kernel) (listed' := #[true, true, true, false, false, false, false, false, false, false, false, false, false, false]) rfl (by (intro _ h; (exact h.sl (by (repeat (first | exact Sl.refl _ | (apply Sl.pick 1; exact rfl) | refine Sl.skip ?_)))))) (gv_nilCheck rfl rfl) ?_
              refine st_take 3 rfl (by decide +kernel) (listed' := #[true, true, true, true, false, false, false, false, false, false, false, false, false, false]) rfl (by (intro _ h; (exact h.sl (by (repeat (first | exact Sl.refl _ | (apply Sl.pick 1; exact rfl) | refine Sl.skip ?_)))))) (gv_fieldAddr fo_53_2 rfl rfl) ?_
              refine st_take 4 rfl (by decide +kernel) (listed' := #[true, true, true, true, true, false, false, false, false, false, false, false, false, false]) rfl (by (intro _ h; (exact h.sl (by (repeat (first | exact Sl.refl _ | (apply Sl.pick 1; exact rfl) | refine Sl.skip ?_)))))) (gv_load1 Tryz.isAgg51 rfl rfl (by exact cin (i := 0) rfl rfl)) ?_
              refine st_take 5 rfl (by decide +kernel) (listed' := #[true, true, true, true, true, true, false, false, false, false, false, false, false, false]) rfl (by (intro _ h; (exact h.sl (by (repeat (first | exact Sl.refl _ | (apply Sl.pick 1; exact rfl) | refine Sl.skip ?_)))))) (gv_move rfl rfl) ?_
              refine st_take 6 rfl (by decide +kernel) (listed' := #[true, true, true, true, true, true, true, false, false, false, false, false, false, false]) rfl (by (intro _ h; (exact h.sl (by (repeat (first | exact Sl.refl _ | (apply Sl.pick 1; exact rfl) | refine Sl.skip ?_)))))) (gv_nilCheck rfl rfl) ?_
              refine st_take 7 rfl (by decide +kernel) (listed' := #[true, true, true, true, true, true, true, true, false, false, false, false, false, false]) rfl (by (intro _ h; (exact h.sl (by (repeat (first | exact Sl.refl _ | (apply Sl.pick 1; exact rfl) | refine Sl.skip ?_)))))) (gv_fieldAddr fo_53_3 rfl rfl) ?_
              refine st_take 8 rfl (by decide +kernel) (listed' := #[true, true, true, true, true, true, true, true, true, false, false, false, false, false]) rfl (by (intro _ h; (exact h.sl (by (repeat (first | exact Sl.refl _ | (apply Sl.pick 1; exact rfl) | refine Sl.skip ?_)))))) (gv_load1 Tryz.isAgg3 rfl rfl (by exact cin (i := 0) rfl rfl)) ?_
              refine st_one 9 rfl (by decide +kernel) ?_
              refine s_buildSlice (vs := [(0, _)]) (cs := [_]) rfl rfl (buildSlice_one slt_51 rfl rfl (by decide)) (fun b86 => ?_)
              refine st_next (listed' := #[true, true, true, true, true, true, true, true, true, true, false, false, false, false]) rfl (by intro _ _; (intro _ h; (exact h.sl (by (repeat (first | exact Sl.refl _ | (apply Sl.pick 2; exact rfl) | refine Sl.skip ?_)))))) ?_
              refine st_one 10 rfl (by decide +kernel) ?_
              refine s_append (i := 3) slt_51 rfl rfl rfl rfl (by exact pt_RdIn (i := 0) rfl rfl rfl (by omega) (by simp only [maxLen]; omega)) (by ((rfl))) (by ((simp only [maxLen]; omega))) (by ((omega))) (fun va87 vc87 => ?_)
              simp only [List.set_cons_zero, List.set_cons_succ]
              refine st_next (listed' := #[true, true, true, true, true, true, true, true, true, true, true, false, false, false]) rfl (by intro _ _; (intro _ h; (exact h.sl (by (repeat (first | exact Sl.refl _ | (apply Sl.pick 2; exact rfl) | refine Sl.skip ?_)))))) ?_
              refine st_take 11 rfl (by decide +kernel) (listed' := #[true, true, true, true, true, true, true, true, true, true, true, true, false, false]) rfl (by (intro _ h; (exact h.sl (by (repeat (first | exact Sl.refl _ | (apply Sl.pick 2; exact rfl) | refine Sl.skip ?_)))))) (gv_nilCheck rfl rfl) ?_
              refine st_take 12 rfl (by decide +kernel) (listed' := #[true, true, true, true, true, true, true, true, true, true, true, true, true, false]) rfl (by (intro _ h; (exact h.sl (by (repeat (first | exact Sl.refl _ | (apply Sl.pick 2; exact rfl) | refine Sl.skip ?_)))))) (gv_fieldAddr fo_53_2 rfl rfl) ?_
              refine st_one 13 rfl (by decide +kernel) ?_
              refine s_store (i := 2) Tryz.sizeOf51 rfl rfl rfl (vs := [_]) rfl rfl rfl rfl ?_
              simp only [List.set_cons_zero, List.set_cons_succ, spl]
              refine st_next (listed' := #[true, true, true, true, true, true, true, true, true, true, true, true, true, true]) rfl (by intro e; cases e) ?_
              refine st_doneK (fr' := [(0, _), (6, _)]) (by decide +kernel) rfl ?_
              refine KSs_wp ?_
              refine WPs_seq ?_
              refine WPs_regionK [] ?_
              refine s_move rfl rfl ?_
              refine s_nilCheck rfl rfl ?_
              refine s_fieldAddr fo_53_3 rfl rfl ?_
              refine s_load1 Tryz.isAgg3 rfl rfl (by exact cin (i := 2) rfl rfl) ?_
              refine s_move rfl rfl ?_
              refine s_add_ok rfl rfl rfl (inR_i64 (by omega) (by omega)) ?_
              refine s_nilCheck rfl rfl ?_
              refine s_fieldAddr fo_53_3 rfl rfl ?_
              refine s_store (i := 2) Tryz.sizeOf3 rfl rfl rfl (vs := [_]) rfl rfl rfl rfl ?_
              simp only [List.set_cons_zero, List.set_cons_succ, spl]
              refine SXs_nilK (fr' := []) rfl ?_
              refine KSs_wp ?_
              refine WPs_seq ?_
              refine WPs_regionK [4] ?_
              refine s_assign rfl rfl ?_
              refine SXs_nilK (fr' := [(4, _)]) rfl ?_
              refine KSs_wp ?_
              refine WPs_ret ?_
              refine RLs_start ?_
              refine RLs_tmp rfl ?_
              refine RLs_fin1 ?_
              exact fun w hS => ⟨rfl, _, by
                  have e1 : ((pos : Int) + (rsz r : Int)) = ((pos + rsz r : Nat) : Int) := by omega
                  rw [List.length_append, List.length_singleton, List.map_append]
                  rw [e1] at hS
                  exact hS.sl (by (repeat (first | exact Sl.refl _ | (apply Sl.pick 2; exact rfl) | refine Sl.skip ?_)))⟩
            · (exfalso; (simp only [decide_eq_false_iff_not] at hc12; omega))
          · (exfalso; (cases hc11; done))
set_option maxHeartbeats 2000000 in
/-- Too few bytes, or a head that is not right: the scan stops. -/
theorem next_stops {g : World} {F : List HP} {s id pos : Nat} {fv pv v : Value} {xs : List UInt8} {e0 : Int} (hR : RdB g F v xs) (hpos : pos < xs.length) (hms : pos ≤ 16777216) (he : e0 = 22 ∨ e0 = 23)
    (hget : ∀ (G : List HP) (v' : Value), RdB g G v' (xs.drop pos) → RCs Tryz.prog 36 [v'] g G (fun u w => u = .tuple #[.agg [.int .u64 0, .int .i64 0, .slice none 0 0, .slice none 0 0, .int .u32 0, .int .u32 0].toArray, .int .i64 0, .int .i64 e0] ∧ St g w G)) :
    RCs Tryz.prog 88 [.pointer (some ⟨s, 0, none⟩), v] g (scanP s id fv pv pos 0 :: F)
      (fun u w => u = .bool false ∧ St g w (scanP s id fv pv pos e0 :: F)) := by
  have hmx := hR.2.1
  simp only [maxLen] at hmx
  rcases he with rfl | rfl
  all_goals
    refine RCs_of_WPs Tryz.func88 rfl Tryz.ntmps88 rfl Tryz.results88 ?_
    refine WPs_seq ?_
    refine WPs_regionK [0, 1] ?_
    refine s_assign rfl rfl ?_
    refine SXs_nilK (fr' := [(0, _), (1, _)]) rfl ?_
    refine KSs_wp ?_
    refine WPs_seq ?_
    refine WPs_seq ?_
    refine WPs_regionK [0, 1, 14] ?_
    refine s_move rfl rfl ?_
    refine s_nilCheck rfl rfl ?_
    refine s_fieldAddr fo_53_3 rfl rfl ?_
    refine s_load1 Tryz.isAgg3 rfl rfl (by exact cin (i := 0) rfl rfl) ?_
    refine s_move rfl rfl ?_
    refine s_lenRd rfl Tryz.underlying42 rfl rfl (by ((apply RdIn.cons; assumption))) ?_
    refine s_eql rfl rfl rfl ?_
    refine SXs_nilK (fr' := [(0, _), (1, _), (14, _)]) rfl ?_
    refine KSs_wp ?_
    refine WPs_cond rfl (fun hc1 => ?_) (fun hc1 => ?_)
    · (exfalso; (simp only [decide_eq_true_eq] at hc1; omega))
    · simp only [decide_eq_false_iff_not] at hc1
      refine WPs_skip ?_
      refine KSs_wp ?_
      refine WPs_seq ?_
      refine WPs_regionK [0, 5, 6, 7] ?_
      refine s_move rfl rfl ?_
      refine s_move rfl rfl ?_
      refine s_nilCheck rfl rfl ?_
      refine s_fieldAddr fo_53_3 rfl rfl ?_
      refine s_load1 Tryz.isAgg3 rfl rfl (by exact cin (i := 0) rfl rfl) ?_
      refine s_sliceRdF F slt_42 (l := pos) (vlo := some _) (vhi := none) rfl rfl hR rfl trivial (.inl rfl) (.inr ⟨rfl, rfl⟩) (by omega) (by omega) (fun va21 vc21 hR21 => ?_)
      refine s_call Tryz.call36 rfl (vs := [_]) rfl (RCs.perm (by (repeat ((exact List.Perm.refl _)))) (hget _ _ (rd_drop hR21).cons)) ?_
      rintro v w ⟨rfl, hS⟩
      refine SXs_go hS ?_
      clear hS; clear w
      simp only [putF]
      refine s_move rfl rfl ?_
      refine s_extract rfl rfl rfl ?_
      refine s_extract rfl rfl rfl ?_
      refine s_extract rfl rfl rfl ?_
      refine s_alloc Tryz.zeroValue46 (cl := [_, _, _, _, _, _]) rfl rfl (fun b5 => ?_)
      refine s_store (i := 0) Tryz.sizeOf46 rfl rfl rfl (vs := [_, _, _, _, _, _]) rfl rfl rfl rfl ?_
      simp only [List.set_cons_zero, List.set_cons_succ, spl]
      refine s_assign rfl rfl ?_
      refine s_assign rfl rfl ?_
      refine SXs_nilK (fr' := [(0, _), (5, _), (6, _), (7, _)]) rfl ?_
      refine KSs_wp ?_
      refine WPs_seq ?_
      refine WPs_block ?_
      refine WPs_seq ?_
      refine WPs_regionK [0, 5, 6, 7, 29] ?_
      refine s_move rfl rfl ?_
      refine s_nilCheck rfl rfl ?_
      refine s_fieldAddr fo_53_3 rfl rfl ?_
      refine s_load1 Tryz.isAgg3 rfl rfl (by exact cin (i := 1) rfl rfl) ?_
      refine s_gtr rfl rfl rfl ?_
      refine s_assign rfl rfl ?_
      refine SXs_nilK (fr' := [(0, _), (5, _), (6, _), (7, _), (29, _)]) rfl ?_
      refine KSs_wp ?_
      refine WPs_cond rfl (fun hc2 => ?_) (fun hc2 => ?_)
      · (exfalso; (simp only [decide_eq_true_eq] at hc2; omega))
      · simp only [decide_eq_false_iff_not] at hc2
        refine WPs_seq ?_
        refine WPs_drawL [0, 5, 6, 7, 38] [] Tryz.mixed rfl (listed := #[false, false, false, false, false, false, false, false, false, false]) rfl ?_
        refine st_take 0 rfl (by decide +kernel) (listed' := #[true, false, false, false, false, false, false, false, false, false]) rfl (by (intro _ h; (exact h))) (gv_move rfl rfl) ?_
        refine st_take 1 rfl (by decide +kernel) (listed' := #[true, true, false, false, false, false, false, false, false, false]) rfl (by (intro _ h; (exact h))) (gv_eql rfl rfl rfl) ?_
        refine st_take 2 rfl (by decide +kernel) (listed' := #[true, true, true, false, false, false, false, false, false, false]) rfl (by (intro _ h; (exact h))) (gv_move rfl rfl) ?_
        refine st_split (dj := 41) rfl (fun hc3 => ?_) (fun hc3 => ?_)
        · (exfalso; (cases hc3; done))
        · simp only [decide_eq_false_iff_not] at hc3
          refine st_take_f 3 rfl (by decide +kernel) (listed' := #[true, true, true, true, false, false, false, false, false, false]) rfl (by (intro _ h; (exact h))) rfl rfl (by ((rfl))) rfl ?_
          refine st_take_f 4 rfl (by decide +kernel) (listed' := #[true, true, true, true, true, false, false, false, false, false]) rfl (by (intro _ h; (exact h))) rfl rfl (by ((rfl))) rfl ?_
          refine st_take_f 5 rfl (by decide +kernel) (listed' := #[true, true, true, true, true, true, false, false, false, false]) rfl (by (intro _ h; (exact h))) rfl rfl (by ((rfl))) rfl ?_
          refine st_take_f 6 rfl (by decide +kernel) (listed' := #[true, true, true, true, true, true, true, false, false, false]) rfl (by (intro _ h; (exact h))) rfl rfl (by ((rfl))) rfl ?_
          refine st_take_f 7 rfl (by decide +kernel) (listed' := #[true, true, true, true, true, true, true, true, false, false]) rfl (by (intro _ h; (exact h))) rfl rfl (by ((rfl))) rfl ?_
          refine st_take 8 rfl (by decide +kernel) (listed' := #[true, true, true, true, true, true, true, true, true, false]) rfl (by (intro _ h; (exact h))) (gv_pick_f rfl rfl rfl) ?_
          refine st_take 9 rfl (by decide +kernel) (listed' := #[true, true, true, true, true, true, true, true, true, true]) rfl (by (intro _ h; (exact h))) (gv_assign rfl rfl) ?_
          refine st_doneK (fr' := [(0, _), (5, _), (6, _), (7, _), (38, _)]) (by decide +kernel) rfl ?_
          refine KSs_wp ?_
          refine WPs_cond rfl (fun hc10 => ?_) (fun hc10 => ?_)
          · (exfalso; (cases hc10; done))
          · simp only [decide_eq_true_eq] at hc10
            refine WPs_seq ?_
            refine WPs_regionK [0, 6, 7, 70] ?_
            refine s_move rfl rfl ?_
            refine s_eql rfl rfl rfl ?_
            refine s_move rfl rfl ?_
            refine s_guard rfl rfl rfl (fun hc11 => ?_) (fun hc11 => ?_)
            · first
              | (exfalso; (cases hc11; done))
              | skip
                simp only [decide_eq_true_eq] at hc11
                refine s_move rfl rfl ?_
                refine s_guard_t2 rfl rfl (by ((rfl))) rfl ?_
                refine s_gtr rfl rfl rfl ?_
                refine s_pick_t rfl rfl rfl ?_
                refine s_assign rfl rfl ?_
                refine SXs_nilK (fr' := [(0, _), (6, _), (7, _), (70, _)]) rfl ?_
                refine KSs_wp ?_
                refine WPs_cond rfl (fun hc12 => ?_) (fun hc12 => ?_)
                · (exfalso; (cases hc12; done))
                · simp only [decide_eq_false_iff_not] at hc12
                  refine WPs_seq ?_
                  refine WPs_regionK [0, 7, 90] ?_
                  refine s_move rfl rfl ?_
                  refine s_eql rfl rfl rfl ?_
                  refine s_assign rfl rfl ?_
                  refine SXs_nilK (fr' := [(0, _), (7, _), (90, _)]) rfl ?_
                  refine KSs_wp ?_
                  refine WPs_cond rfl (fun hc13 => ?_) (fun hc13 => ?_)
                  · (exfalso; (cases hc13; done))
                  · simp only [decide_eq_false_iff_not] at hc13
                    refine WPs_seq ?_
                    refine WPs_regionK [] ?_
                    refine s_move rfl rfl ?_
                    refine s_nilCheck rfl rfl ?_
                    refine s_fieldAddr fo_53_4 rfl rfl ?_
                    refine s_store (i := 1) Tryz.sizeOf26 rfl rfl rfl (vs := [_]) rfl rfl rfl rfl ?_
                    simp only [List.set_cons_zero, List.set_cons_succ, spl]
                    refine SXs_nilK (fr' := []) rfl ?_
                    refine KSs_wp ?_
                    refine WPs_seq ?_
                    refine WPs_regionK [4] ?_
                    refine s_assign rfl rfl ?_
                    refine SXs_nilK (fr' := [(4, _)]) rfl ?_
                    refine KSs_wp ?_
                    refine WPs_ret ?_
                    refine RLs_start ?_
                    refine RLs_tmp rfl ?_
                    refine RLs_fin1 ?_
                    exact fun w hS => ⟨rfl, hS.sl (by (repeat (first | exact Sl.refl _ | (apply Sl.pick 1; exact rfl) | refine Sl.skip ?_)))⟩
            · first
              | (exfalso; (cases hc11; done))
              | skip
                simp only [decide_eq_false_iff_not, Bool.not_true] at hc11
                refine s_guard_f rfl rfl (by ((rfl))) rfl ?_
                refine s_pick_f rfl rfl rfl ?_
                refine s_assign rfl rfl ?_
                refine SXs_nilK (fr' := [(0, _), (6, _), (7, _), (70, _)]) rfl ?_
                refine KSs_wp ?_
                refine WPs_cond rfl (fun hc14 => ?_) (fun hc14 => ?_)
                · (exfalso; (cases hc14; done))
                · simp only [decide_eq_true_eq] at hc14
                  refine WPs_seq ?_
                  refine WPs_regionK [0, 7, 90] ?_
                  refine s_move rfl rfl ?_
                  refine s_eql rfl rfl rfl ?_
                  refine s_assign rfl rfl ?_
                  refine SXs_nilK (fr' := [(0, _), (7, _), (90, _)]) rfl ?_
                  refine KSs_wp ?_
                  refine WPs_cond rfl (fun hc15 => ?_) (fun hc15 => ?_)
                  · simp only [decide_eq_true_eq] at hc15
                    refine WPs_seq ?_
                    refine WPs_regionK [] ?_
                    refine s_move rfl rfl ?_
                    refine s_move rfl rfl ?_
                    refine s_nilCheck rfl rfl ?_
                    refine s_fieldAddr fo_53_4 rfl rfl ?_
                    refine s_store (i := 1) Tryz.sizeOf26 rfl rfl rfl (vs := [_]) rfl rfl rfl rfl ?_
                    simp only [List.set_cons_zero, List.set_cons_succ, spl]
                    refine SXs_nilK (fr' := []) rfl ?_
                    refine KSs_wp ?_
                    refine WPs_seq ?_
                    refine WPs_regionK [4] ?_
                    refine s_assign rfl rfl ?_
                    refine SXs_nilK (fr' := [(4, _)]) rfl ?_
                    refine KSs_wp ?_
                    refine WPs_ret ?_
                    refine RLs_start ?_
                    refine RLs_tmp rfl ?_
                    refine RLs_fin1 ?_
                    exact fun w hS => ⟨rfl, hS.sl (by (repeat (first | exact Sl.refl _ | (apply Sl.pick 1; exact rfl) | refine Sl.skip ?_)))⟩
                  · (exfalso; (cases hc15; done))
theorem next_end {g : World} {F : List HP} {s id pos : Nat} {fv pv v : Value} {xs : List UInt8} {why : Int} (hR : RdB g F v xs) (hpos : pos = xs.length) :
    RCs Tryz.prog 88 [.pointer (some ⟨s, 0, none⟩), v] g (scanP s id fv pv pos why :: F)
      (fun u w => u = .bool false ∧ St g w (scanP s id fv pv pos why :: F)) := by
  have hmx := hR.2.1
  simp only [maxLen] at hmx
  refine RCs_of_WPs Tryz.func88 rfl Tryz.ntmps88 rfl Tryz.results88 ?_
  refine WPs_seq ?_
  refine WPs_regionK [0, 1] ?_
  refine s_assign rfl rfl ?_
  refine SXs_nilK (fr' := [(0, _), (1, _)]) rfl ?_
  refine KSs_wp ?_
  refine WPs_seq ?_
  refine WPs_seq ?_
  refine WPs_regionK [0, 1, 14] ?_
  refine s_move rfl rfl ?_
  refine s_nilCheck rfl rfl ?_
  refine s_fieldAddr fo_53_3 rfl rfl ?_
  refine s_load1 Tryz.isAgg3 rfl rfl (by exact cin (i := 0) rfl rfl) ?_
  refine s_move rfl rfl ?_
  refine s_lenRd rfl Tryz.underlying42 rfl rfl (by ((apply RdIn.cons; assumption))) ?_
  refine s_eql rfl rfl rfl ?_
  refine SXs_nilK (fr' := [(0, _), (1, _), (14, _)]) rfl ?_
  refine KSs_wp ?_
  refine WPs_cond rfl (fun hc1 => ?_) (fun hc1 => ?_)
  · simp only [decide_eq_true_eq] at hc1
    refine WPs_seq ?_
    refine WPs_regionK [4] ?_
    refine s_assign rfl rfl ?_
    refine SXs_nilK (fr' := [(4, _)]) rfl ?_
    refine KSs_wp ?_
    refine WPs_ret ?_
    refine RLs_start ?_
    refine RLs_tmp rfl ?_
    refine RLs_fin1 ?_
    exact fun w hS => ⟨rfl, hS.sl (by (repeat ((exact Sl.refl _))))⟩
  · (exfalso; (simp only [decide_eq_false_iff_not] at hc1; omega))
end Go.Proofs.YthodbnmeggkkoaaGreatDoor
/-
  Package scan: Of.
-/
namespace Go.Proofs.YthodbnmeggkkoaaGreatDoor
open Go Go.RowKit Go.Hb Go.Proofs

/-- What a scan of xs finds from pos on, behind the number last: the records, where it stops, why. -/
inductive SC (xs : List UInt8) : Nat → Nat → List (RecM × Nat) → Nat → Int → Prop
  | done {pos last : Nat} : pos = xs.length → SC xs pos last [] pos 0
  | found {pos last kind e : Nat} {y : Int} {r : RecM} {fs : List (RecM × Nat)} : pos < xs.length → pos ≤ 16777216 → GoodAt (xs.drop pos) r kind → last < r.seq → SC xs (pos + rsz r) r.seq fs e y → SC xs pos last ((r, pos) :: fs) e y
  | passed {pos last kind e : Nat} {y : Int} {r : RecM} {fs : List (RecM × Nat)} : pos < xs.length → pos ≤ 16777216 → HalfAt (xs.drop pos) r kind → rsz r ≤ (xs.drop pos).length → SC xs (pos + rsz r) last fs e y → SC xs pos last fs e y
  | bad {pos last : Nat} : pos < xs.length → pos ≤ 16777216 → 21 ≤ (xs.drop pos).length → ¬ rightP ((xs.drop pos).take 21) → SC xs pos last [] pos 23
  | short {pos last : Nat} : pos < xs.length → pos ≤ 16777216 → (xs.drop pos).length < 21 → SC xs pos last [] pos 22
  | torn {pos last kind : Nat} {r : RecM} : pos < xs.length → pos ≤ 16777216 → HalfAt (xs.drop pos) r kind → (xs.drop pos).length < rsz r → SC xs pos last [] pos 22

theorem SC.pos_le {xs : List UInt8} {pos last e : Nat} {y : Int} {fs : List (RecM × Nat)} (h : SC xs pos last fs e y) : pos ≤ xs.length := by cases h <;> omega

def scanH (s id : Nat) (E : List FE) (pn : List Nat) (pos : Nat) (why : Int) : HP := fun h => ∃ fv pv, grp [scanP s id fv pv pos why, own 57 9 fv E.length (flat id E), own 3 1 pv pn.length (pn.map fun (n : Nat) => .int .i64 (n : Int)), grp (kvL E)] h
theorem scanH_open {g w : World} {L : List HP} {s id pos : Nat} {E : List FE} {pn : List Nat} {why : Int} (h : St g w (scanH s id E pn pos why :: L)) :
    ∃ fv pv, St g w (scanP s id fv pv pos why :: own 57 9 fv E.length (flat id E) :: own 3 1 pv pn.length (pn.map fun (n : Nat) => .int .i64 (n : Int)) :: grp (kvL E) :: L) := by
  obtain ⟨fv, h⟩ := St.ex h
  obtain ⟨pv, h⟩ := St.ex h
  exact ⟨fv, pv, h.ungrp⟩
theorem scanH_mk {g w : World} {L : List HP} {s id pos : Nat} {E : List FE} {pn : List Nat} {why : Int} {fv pv : Value} (h : St g w (scanP s id fv pv pos why :: own 57 9 fv E.length (flat id E) :: own 3 1 pv pn.length (pn.map fun (n : Nat) => .int .i64 (n : Int)) :: grp (kvL E) :: L)) :
    St g w (scanH s id E pn pos why :: L) :=
  (St.grp (A := [_, _, _, _]) h).imp fun _ hh => ⟨fv, pv, hh⟩
theorem kv_more {g w : World} {L : List HP} {E : List FE} {e : FE} (h : St g w (grp (kvL E) :: own 5 1 (.slice e.ka e.r.key.length e.kc) e.r.key.length (bv e.r.key) :: own 5 1 (.slice e.va e.r.value.length e.vc) e.r.value.length (bv e.r.value) :: L)) :
    St g w (grp (kvL (E ++ [e])) :: L) := by
  rw [kvL_snoc]
  have h1 := h.ungrp
  have h2 : St g w ((kvL E ++ [own 5 1 (.slice e.ka e.r.key.length e.kc) e.r.key.length (bv e.r.key), own 5 1 (.slice e.va e.r.value.length e.vc) e.r.value.length (bv e.r.value)]) ++ L) := by
    rw [List.append_assoc]; exact h1
  exact h2.grp
theorem SXs_scan {P : Program} {n : Nat} {fr : Fr} {g : World} {L : List HP} {K : Fr → World → Prop} {X : Ks} {ops : Array Oper} {l : List Oper} {s id pos : Nat} {E : List FE} {pn : List Nat} {why : Int}
    (h : ∀ fa fc pa pc, SXs P n ops l fr g (scanP s id (.slice fa E.length fc) (.slice pa pn.length pc) pos why :: own 57 9 (.slice fa E.length fc) E.length (flat id E) :: own 3 1 (.slice pa pn.length pc) pn.length (pn.map fun (n : Nat) => .int .i64 (n : Int)) :: grp (kvL E) :: L) K X) : SXs P n ops l fr g (scanH s id E pn pos why :: L) K X := fun w hw => by
  obtain ⟨fv, pv, hw⟩ := scanH_open hw
  obtain ⟨fa, fc, rfl, _⟩ := own_form (i := 1) hw rfl
  obtain ⟨pa, pc, rfl, _⟩ := own_form (i := 2) hw rfl
  exact h fa fc pa pc w hw
theorem RCs_scan {P : Program} {f : FuncId} {vs : List Value} {g : World} {L : List HP} {q : Value → World → Prop} {s id pos : Nat} {E : List FE} {pn : List Nat} {why : Int}
    (h : ∀ fv pv, RCs P f vs g (scanP s id fv pv pos why :: own 57 9 fv E.length (flat id E) :: own 3 1 pv pn.length (pn.map fun (n : Nat) => .int .i64 (n : Int)) :: grp (kvL E) :: L) q) : RCs P f vs g (scanH s id E pn pos why :: L) q := fun w hw => by
  obtain ⟨fv, pv, hw⟩ := scanH_open hw
  exact h fv pv w hw

def ents (E : List FE) : List (RecM × Nat) := E.map fun e => (e.r, e.off)
theorem rsz_ge {r : RecM} (h : recOk r) : 26 ≤ rsz r := by unfold recOk at h; unfold rsz; omega
theorem rsz_le {r : RecM} (h : recOk r) : rsz r ≤ 1113 := by unfold recOk at h; unfold rsz; omega

set_option maxHeartbeats 1000000 in
theorem next_spec {g : World} {F : List HP} {s id pos last e : Nat} {y : Int} {v : Value} {E : List FE} {pn : List Nat} {xs : List UInt8} {fs : List (RecM × Nat)} (hH : HalfG g) (hSz : SizesG g) (hR : RdB g F v xs) (hsc : SC xs pos last fs e y) (hl : last = lastSeq E) (hcnt : 26 * (E.length + pn.length) ≤ pos) :
    RCs Tryz.prog 88 [.pointer (some ⟨s, 0, none⟩), v] g (scanH s id E pn pos 0 :: F)
      (fun u w => ∃ b E' pn' pos' y', u = .bool b ∧ (b = true → y' = 0 ∧ pos < pos' ∧ 26 * (E'.length + pn'.length) ≤ pos' ∧ ∃ fs', SC xs pos' (lastSeq E') fs' e y ∧ ents E' ++ fs' = ents E ++ fs) ∧
        (b = false → pos' = e ∧ y' = y ∧ ents E' = ents E ++ fs) ∧ St g w (scanH s id E' pn' pos' y' :: F)) := by
  refine RCs_scan (fun fv pv => ?_)
  cases hsc with
  | done h =>
    have hR2 : RdB g (own 57 9 fv E.length (flat id E) :: own 3 1 pv pn.length (pn.map fun (n : Nat) => .int .i64 (n : Int)) :: grp (kvL E) :: F) v xs := hR.cons.cons.cons
    refine (next_end hR2 h).mono ?_
    rintro u w ⟨rfl, hS⟩
    exact ⟨false, E, pn, pos, 0, rfl, (fun h => by cases h), fun _ => ⟨rfl, rfl, by simp⟩, scanH_mk hS⟩
  | found h1 h2 h3 h4 h5 =>
    rename_i kind r fs'
    have hR2 : RdB g (own 3 1 pv pn.length (pn.map fun (n : Nat) => .int .i64 (n : Int)) :: grp (kvL E) :: F) v xs := hR.cons.cons
    refine (next_found (E := E) hH hSz hR2 h1 h2 h3 (by omega) (by omega)).mono ?_
    rintro u w ⟨rfl, fv', e', he1, he2, hS⟩
    have hge := rsz_ge h3.ok
    refine ⟨true, E ++ [e'], pn, pos + rsz r, 0, rfl, fun _ => ⟨rfl, by omega, by simp; omega, fs', ?_, ?_⟩, (fun h => by cases h), ?_⟩
    · rw [lastSeq_snoc, he1]; exact h5
    · simp [ents, he1, he2]
    · refine scanH_mk (fv := fv') (pv := pv) ?_
      have h6 := hS.perm (L' := grp (kvL E) :: own 5 1 (.slice e'.ka e'.r.key.length e'.kc) e'.r.key.length (bv e'.r.key) :: own 5 1 (.slice e'.va e'.r.value.length e'.vc) e'.r.value.length (bv e'.r.value) :: scanP s id fv' pv (pos + rsz r) 0 :: own 57 9 fv' (E ++ [e']).length (flat id (E ++ [e'])) :: own 3 1 pv pn.length (pn.map fun (n : Nat) => .int .i64 (n : Int)) :: F) (by (repeat (first | exact List.Perm.refl _ | (apply pick 2; exact rfl) | (apply pick 5; exact rfl))))
      exact (kv_more h6).perm (by (repeat (first | exact List.Perm.refl _ | (apply pick 1; exact rfl))))
  | passed h1 h2 h3 h4 h5 =>
    rename_i kind r
    have hR2 : RdB g (own 57 9 fv E.length (flat id E) :: grp (kvL E) :: F) v xs := hR.cons.cons
    have hge := rsz_ge h3.ok
    refine (RCs.perm (by (repeat (first | exact List.Perm.refl _ | (apply pick 0; exact rfl) | (apply pick 1; exact rfl)))) (next_passed (fv := fv) (pv := pv) (pn := pn) hH hSz hR2 h1 h2 h3 h4 (by omega))).mono ?_
    rintro u w ⟨rfl, pv', hS⟩
    exact ⟨true, E, pn ++ [pos], pos + rsz r, 0, rfl, fun _ => ⟨rfl, by omega, by simp; omega, fs, by rw [← hl]; exact h5, rfl⟩, (fun h => by cases h), scanH_mk (fv := fv) (pv := pv') (hS.perm (by (repeat (first | exact List.Perm.refl _ | (apply pick 0; exact rfl) | (apply pick 1; exact rfl)))))⟩
  | bad h1 h2 h3 h4 =>
    have hR2 : RdB g (own 57 9 fv E.length (flat id E) :: own 3 1 pv pn.length (pn.map fun (n : Nat) => .int .i64 (n : Int)) :: grp (kvL E) :: F) v xs := hR.cons.cons.cons
    refine (next_stops hR2 h1 h2 (.inr rfl) (fun G v' hv => (get_bad hH hv (.inr h4)).mono (fun u w ⟨e0, a1, a2, a3, a4⟩ => by
      have := a3 h3; subst this; exact ⟨a1, a4⟩))).mono ?_
    rintro u w ⟨rfl, hS⟩
    exact ⟨false, E, pn, pos, 23, rfl, (fun h => by cases h), fun _ => ⟨rfl, rfl, by simp⟩, scanH_mk hS⟩
  | short h1 h2 h3 =>
    have hR2 : RdB g (own 57 9 fv E.length (flat id E) :: own 3 1 pv pn.length (pn.map fun (n : Nat) => .int .i64 (n : Int)) :: grp (kvL E) :: F) v xs := hR.cons.cons.cons
    refine (next_stops hR2 h1 h2 (.inl rfl) (fun G v' hv => get_short hv h3)).mono ?_
    rintro u w ⟨rfl, hS⟩
    exact ⟨false, E, pn, pos, 22, rfl, (fun h => by cases h), fun _ => ⟨rfl, rfl, by simp⟩, scanH_mk hS⟩
  | torn h1 h2 h3 h4 =>
    obtain ⟨t, ht⟩ := h3.t
    have hR2 : RdB g (own 57 9 fv E.length (flat id E) :: own 3 1 pv pn.length (pn.map fun (n : Nat) => .int .i64 (n : Int)) :: grp (kvL E) :: F) v xs := hR.cons.cons.cons
    refine (next_stops hR2 h1 h2 (.inl rfl) (fun G v' hv => (get_half hH hSz hv ht h3.ok h3.hk (fun h => h3.hr h)).mono (fun u w ⟨sz, e0, a1, a2, a3, a4⟩ => by
      obtain ⟨rfl, rfl⟩ := a3 h4; exact ⟨a1, a4⟩))).mono ?_
    rintro u w ⟨rfl, hS⟩
    exact ⟨false, E, pn, pos, 22, rfl, (fun h => by cases h), fun _ => ⟨rfl, rfl, by simp⟩, scanH_mk hS⟩

/-- What Of hands back: the records that were found. -/
def OfPost (g : World) (id : Nat) (fs : List (RecM × Nat)) (e : Nat) (y : Int) (F : List HP) : Value → World → Prop := fun u w =>
  ∃ (E : List FE) (fa pa : Option Addr) (fc pm pc : Nat), u = .agg [.int .u32 (id : Int), .slice fa E.length fc, .slice pa pm pc, .int .i64 (e : Int), .int .i64 y].toArray ∧ ents E = fs ∧ St g w (own 57 9 (.slice fa E.length fc) E.length (flat id E) :: grp (kvL E) :: F)

set_option maxHeartbeats 2000000 in
theorem of_spec {g : World} {F : List HP} {id e : Nat} {y : Int} {v : Value} {xs : List UInt8} {fs : List (RecM × Nat)} (hH : HalfG g) (hSz : SizesG g) (hR : RdB g F v xs) (hl : 16 ≤ xs.length) (hm : mayH 1 id) (hx : xs.take 16 = headOf 1 id) (hsc : SC xs 16 0 fs e y) :
    RCs Tryz.prog 40 [.int .u32 (id : Int), v] g F (OfPost g id fs e y F) := by
  have hmx := hR.2.1
  simp only [maxLen] at hmx
  refine RCs_of_WPs Tryz.func40 rfl Tryz.ntmps40 rfl Tryz.results40 ?_
  refine WPs_seq ?_
  refine WPs_regionK [0, 1, 4] ?_
  refine s_alloc Tryz.zeroValue53 (cl := [_, _, _, _, _]) rfl rfl (fun b4 => ?_)
  refine SXs_nilK (fr' := [(0, _), (1, _), (4, _)]) rfl ?_
  refine KSs_wp ?_
  refine WPs_seq ?_
  refine WPs_regionK [0, 1, 4, 5] ?_
  refine s_move rfl rfl ?_
  refine s_build (vs := [(0, _)]) (cs := [_, _, _, _, _]) rfl rfl (build_53_0 rfl) ?_
  refine s_alloc Tryz.zeroValue53 (cl := [_, _, _, _, _]) rfl rfl (fun b5 => ?_)
  refine s_store (i := 0) Tryz.sizeOf53 rfl rfl rfl (vs := [_, _, _, _, _]) rfl rfl rfl rfl ?_
  simp only [List.set_cons_zero, List.set_cons_succ, spl]
  refine SXs_nilK (fr' := [(0, _), (1, _), (4, _), (5, _)]) rfl ?_
  refine KSs_wp ?_
  refine WPs_seq ?_
  refine WPs_seq ?_
  refine WPs_regionK [1, 4, 5] ?_
  refine s_move rfl rfl ?_
  refine s_move rfl rfl ?_
  refine s_call Tryz.call87 rfl (vs := [_, _, _]) rfl (RCs.perm (by (repeat ((exact List.Perm.refl _)))) (head_check_ok (kind := 1) (id := id) hH hR.cons.cons hl hm hx)) ?_
  rintro v w ⟨rfl, hS⟩
  refine SXs_go hS ?_
  clear hS; clear w
  simp only [putF]
  refine s_fieldAddr fo_53_4 rfl rfl ?_
  refine s_store (i := 0) Tryz.sizeOf26 rfl rfl rfl (vs := [_]) rfl rfl rfl rfl ?_
  simp only [List.set_cons_zero, List.set_cons_succ, spl]
  refine SXs_nilK (fr' := [(1, _), (4, _), (5, _)]) rfl ?_
  refine KSs_wp ?_
  refine WPs_seq ?_
  refine WPs_regionK [1, 4, 5, 14] ?_
  refine s_fieldAddr fo_53_4 rfl rfl ?_
  refine s_load1 Tryz.isAgg26 rfl rfl (by exact cin (i := 0) rfl rfl) ?_
  refine s_neq rfl rfl rfl ?_
  refine SXs_nilK (fr' := [(1, _), (4, _), (5, _), (14, _)]) rfl ?_
  refine KSs_wp ?_
  refine WPs_cond rfl (fun hc1 => ?_) (fun hc1 => ?_)
  · (exfalso; (cases hc1; done))
  · simp only [decide_eq_true_eq, Bool.not_eq_false'] at hc1
    refine WPs_skip ?_
    refine KSs_wp ?_
    refine WPs_seq ?_
    refine WPs_regionK [1, 4, 5] ?_
    refine s_fieldAddr fo_53_3 rfl rfl ?_
    refine s_store (i := 0) Tryz.sizeOf3 rfl rfl rfl (vs := [_]) rfl rfl rfl rfl ?_
    simp only [List.set_cons_zero, List.set_cons_succ, spl]
    refine SXs_nilK (fr' := [(1, _), (4, _), (5, _)]) rfl ?_
    refine KSs_wp ?_
    refine WPs_seq ?_
    refine WPs_block ?_
    refine WPs_loopS (ks := [1, 4, 5]) (fun ((E, pn, pos, fr2) : (List FE) × (List Nat) × (Nat) × (List (RecM × Nat))) => []) (fun ((E, pn, pos, fr2) : (List FE) × (List Nat) × (Nat) × (List (RecM × Nat))) => scanH b5 id E pn pos 0 :: pt b4 (.cells [.int .u32 0, .slice none 0 0, .slice none 0 0, .int .i64 0, .int .i64 0].toArray 53 (0, 0)) :: F) (fun ((E, pn, pos, fr2) : (List FE) × (List Nat) × (Nat) × (List (RecM × Nat))) => SC xs pos (lastSeq E) fr2 e y ∧ ents E ++ fr2 = fs ∧ 26 * (E.length + pn.length) ≤ pos ∧ pos ≤ xs.length + 1) (fun ((E, pn, pos, fr2) : (List FE) × (List Nat) × (Nat) × (List (RecM × Nat))) => (xs.length + 1) - pos) (([], [], 16, fs)) rfl (fun w hS => by
        have h1 := own_nil_in (T := 3) (k := 1) (St.grp (A := []) hS)
        have h2 := own_nil_in (T := 57) (k := 9) h1
        exact scanH_mk (fv := .slice none 0 0) (pv := .slice none 0 0) (E := []) (pn := []) (pos := 16) (h2.perm (by (repeat (first | exact List.Perm.refl _ | (apply pick 3; exact rfl)))))) (⟨hsc, rfl, by simp, by omega⟩) ?_
    rintro ⟨E, pn, pos, fr2⟩ hok
    dsimp only [List.cons_append, List.nil_append] at hok ⊢
    refine WPs_seq ?_
    refine WPs_seq ?_
    refine WPs_regionK [1, 4, 5, 18] ?_
    refine s_move rfl rfl ?_
    refine s_call Tryz.call88 rfl (vs := [_, _]) rfl (RCs.perm (by (repeat ((exact List.Perm.refl _)))) (next_spec (xs := xs) (E := E) hH hSz hR.cons hok.1 rfl hok.2.2.1)) ?_
    rintro v w ⟨b, E', pn', pos', y', rfl, hT, hF, hS⟩
    refine SXs_go hS ?_
    clear hS; clear w
    simp only [putF]
    refine SXs_nilK (fr' := [(1, _), (4, _), (5, _), (18, _)]) rfl ?_
    refine KSs_wp ?_
    refine WPs_cond rfl (fun hc2 => ?_) (fun hc2 => ?_)
    · refine WPs_skip ?_
      refine KSs_wp ?_
      refine WPs_block ?_
      refine WPs_skip ?_
      obtain ⟨rfl, h1, h2, fs', h3, h4⟩ := hT (by assumption)
      have h5 := h3.pos_le
      have h6 := hok.1.pos_le
      exact fun w hS => ⟨(E', pn', pos', fs'), rfl, hS.perm (by (repeat ((exact List.Perm.refl _)))), ⟨h3, h4.trans hok.2.1, h2, by dsimp only; omega⟩, by dsimp only; omega⟩
    · refine WPs_exit rfl ?_
      refine KSs_wp ?_
      refine WPs_seq ?_
      refine WPs_regionK [4] ?_
      obtain ⟨rfl, rfl, hEq⟩ := hF (by assumption)
      refine SXs_scan (fun fa7 fc7 pa7 pc7 => ?_)
      refine s_loadN Tryz.isAgg53 Tryz.sizeOf53 (vs := [_, _, _, _, _]) rfl rfl (by exact csin (i := 0) (k := 5) rfl rfl) rfl ?_
      refine s_store (i := 4) Tryz.sizeOf53 rfl rfl rfl (vs := [_, _, _, _, _]) rfl rfl rfl rfl ?_
      simp only [List.set_cons_zero, List.set_cons_succ, spl]
      refine SXs_nilK (fr' := [(4, _)]) rfl ?_
      refine KSs_wp ?_
      refine WPs_ret ?_
      refine RLs_start ?_
      refine RLs_cellN Tryz.isAgg53 Tryz.sizeOf53 (cs := [_, _, _, _, _]) rfl (by exact csin (i := 4) (k := 5) rfl rfl) rfl ?_
      refine RLs_fin1 ?_
      exact fun w hS => ⟨E', _, _, _, _, _, rfl, hEq.trans hok.2.1, hS.sl (by (repeat (first | exact Sl.refl _ | (apply Sl.pick 1; exact rfl) | (apply Sl.pick 2; exact rfl) | refine Sl.skip ?_)))⟩

theorem of_bad {g : World} {F : List HP} {id : Nat} {v : Value} {xs : List UInt8} (hH : HalfG g) (hR : RdB g F v xs) (hl : 16 ≤ xs.length) (h : ¬ rightP (xs.take 16)) :
    RCs Tryz.prog 40 [.int .u32 (id : Int), v] g F (OfPost g id [] 0 23 F) := by
  refine RCs_of_WPs Tryz.func40 rfl Tryz.ntmps40 rfl Tryz.results40 ?_
  refine WPs_seq ?_
  refine WPs_regionK [0, 1, 4] ?_
  refine s_alloc Tryz.zeroValue53 (cl := [_, _, _, _, _]) rfl rfl (fun b4 => ?_)
  refine SXs_nilK (fr' := [(0, _), (1, _), (4, _)]) rfl ?_
  refine KSs_wp ?_
  refine WPs_seq ?_
  refine WPs_regionK [0, 1, 4, 5] ?_
  refine s_move rfl rfl ?_
  refine s_build (vs := [(0, _)]) (cs := [_, _, _, _, _]) rfl rfl (build_53_0 rfl) ?_
  refine s_alloc Tryz.zeroValue53 (cl := [_, _, _, _, _]) rfl rfl (fun b5 => ?_)
  refine s_store (i := 0) Tryz.sizeOf53 rfl rfl rfl (vs := [_, _, _, _, _]) rfl rfl rfl rfl ?_
  simp only [List.set_cons_zero, List.set_cons_succ, spl]
  refine SXs_nilK (fr' := [(0, _), (1, _), (4, _), (5, _)]) rfl ?_
  refine KSs_wp ?_
  refine WPs_seq ?_
  refine WPs_seq ?_
  refine WPs_regionK [1, 4, 5] ?_
  refine s_move rfl rfl ?_
  refine s_move rfl rfl ?_
  refine s_call Tryz.call87 rfl (vs := [_, _, _]) rfl (RCs.perm (by (repeat ((exact List.Perm.refl _)))) (head_check_bad (kind := 1) (id := id) hH hR.cons.cons hl h)) ?_
  rintro v w ⟨rfl, hS⟩
  refine SXs_go hS ?_
  clear hS; clear w
  simp only [putF]
  refine s_fieldAddr fo_53_4 rfl rfl ?_
  refine s_store (i := 0) Tryz.sizeOf26 rfl rfl rfl (vs := [_]) rfl rfl rfl rfl ?_
  simp only [List.set_cons_zero, List.set_cons_succ, spl]
  refine SXs_nilK (fr' := [(1, _), (4, _), (5, _)]) rfl ?_
  refine KSs_wp ?_
  refine WPs_seq ?_
  refine WPs_regionK [1, 4, 5, 14] ?_
  refine s_fieldAddr fo_53_4 rfl rfl ?_
  refine s_load1 Tryz.isAgg26 rfl rfl (by exact cin (i := 0) rfl rfl) ?_
  refine s_neq rfl rfl rfl ?_
  refine SXs_nilK (fr' := [(1, _), (4, _), (5, _), (14, _)]) rfl ?_
  refine KSs_wp ?_
  refine WPs_cond rfl (fun hc1 => ?_) (fun hc1 => ?_)
  · simp only [decide_eq_false_iff_not, Bool.not_eq_true'] at hc1
    refine WPs_seq ?_
    refine WPs_regionK [4] ?_
    refine s_loadN Tryz.isAgg53 Tryz.sizeOf53 (vs := [_, _, _, _, _]) rfl rfl (by exact csin (i := 0) (k := 5) rfl rfl) rfl ?_
    refine s_store (i := 1) Tryz.sizeOf53 rfl rfl rfl (vs := [_, _, _, _, _]) rfl rfl rfl rfl ?_
    simp only [List.set_cons_zero, List.set_cons_succ, spl]
    refine SXs_nilK (fr' := [(4, _)]) rfl ?_
    refine KSs_wp ?_
    refine WPs_ret ?_
    refine RLs_start ?_
    refine RLs_cellN Tryz.isAgg53 Tryz.sizeOf53 (cs := [_, _, _, _, _]) rfl (by exact csin (i := 1) (k := 5) rfl rfl) rfl ?_
    refine RLs_fin1 ?_
    exact fun w hS => ⟨[], none, none, 0, 0, 0, rfl, rfl, by
        have h1 : St g w F := hS.sl (by (repeat (first | exact Sl.refl _ | refine Sl.skip ?_)))
        exact own_nil_in (T := 57) (k := 9) (St.grp (A := []) h1)⟩
  · (exfalso; (cases hc1; done))
end Go.Proofs.YthodbnmeggkkoaaGreatDoor
/-
  Package seg: Load, Read, Safe.
-/
namespace Go.Proofs.YthodbnmeggkkoaaGreatDoor
open Go Go.RowKit Go.Hb Go.Proofs

theorem seg_safe {g : World} {F : List HP} {x f id size many first last safe : Nat} :
    RCs Tryz.prog 16 [.pointer (some ⟨x, 0, none⟩)] g (segP x f id size many first last safe :: F)
      (fun u w => u = .int .u64 (safe : Int) ∧ St g w (segP x f id size many first last safe :: F)) := by
  refine RCs_of_WPs Tryz.func16 rfl Tryz.ntmps16 rfl Tryz.results16 ?_
  refine WPs_seq ?_
  refine WPs_regionK [0] ?_
  refine s_assign rfl rfl ?_
  refine SXs_nilK (fr' := [(0, _)]) rfl ?_
  refine KSs_wp ?_
  refine WPs_seq ?_
  refine WPs_seq ?_
  refine WPs_regionK [0, 4] ?_
  refine s_move rfl rfl ?_
  refine s_call Tryz.call28 rfl (vs := [_]) rfl (RCs.perm (by (repeat ((exact List.Perm.refl _)))) (seg_none)) ?_
  rintro v w ⟨rfl, hS⟩
  refine SXs_go hS ?_
  clear hS; clear w
  simp only [putF]
  refine SXs_nilK (fr' := [(0, _), (4, _)]) rfl ?_
  refine KSs_wp ?_
  refine WPs_cond rfl (fun hc1 => ?_) (fun hc1 => ?_)
  · (exfalso; (cases hc1; done))
  · simp only [decide_eq_true_eq] at hc1
    refine WPs_skip ?_
    refine KSs_wp ?_
    refine WPs_seq ?_
    refine WPs_regionK [2] ?_
    refine s_move rfl rfl ?_
    refine s_nilCheck rfl rfl ?_
    refine s_fieldAddr fo_79_2 rfl rfl ?_
    refine s_load1 Tryz.isAgg36 rfl rfl (by exact cin (i := 0) rfl rfl) ?_
    refine s_assign rfl rfl ?_
    refine SXs_nilK (fr' := [(2, _)]) rfl ?_
    refine KSs_wp ?_
    refine WPs_ret ?_
    refine RLs_start ?_
    refine RLs_tmp rfl ?_
    refine RLs_fin1 ?_
    exact fun w hS => ⟨rfl, hS.sl (by (repeat ((exact Sl.refl _))))⟩

set_option maxHeartbeats 1000000 in
theorem seg_load {g : World} {F : List HP} {f id e : Nat} {y q : Int} {ph : Bool} {nm : ByteArray} {m : FileM} {fs : List (RecM × Nat)} (hn : NameOk g id nm) (hm : MayOk nm) (h1 : 1 ≤ id) (h2 : id ≤ 16777215) (hsz : m.now.length ≤ 70368744177664)
    (hOf : ∀ (G : List HP) (v : Value), RdB g G v m.now → RCs Tryz.prog 40 [.int .u32 (id : Int), v] g G (OfPost g id fs e y G)) :
    RCs Tryz.prog 15 [.pointer (some ⟨f, 0, none⟩), .int .u32 (id : Int)] g (FsR ph f nm q m :: F)
      (fun u w => ∃ (E : List FE) (fa pa : Option Addr) (fc pm pc : Nat), u = .tuple #[.agg [.int .u32 (id : Int), .slice fa E.length fc, .slice pa pm pc, .int .i64 (e : Int), .int .i64 y].toArray, .int .i64 0] ∧ ents E = fs ∧
        St g w (own 57 9 (.slice fa E.length fc) E.length (flat id E) :: grp (kvL E) :: FsR ph f nm q m :: F)) := by
  have ht : (m.now.drop 0).take m.now.length = m.now := by simp
  have hread : ∀ G : List HP, RCs Tryz.prog 35 [.pointer (some ⟨f, 0, none⟩), .string nm, .int .i64 ((0 : Nat) : Int), .int .i64 (m.now.length : Int)] g (FsR ph f nm q m :: G)
      (fun u w => ∃ v, u = .tuple #[v, .int .i64 0] ∧ SlB g m.now (FsR ph f nm q m :: G) v w) := fun G => by
    have h := fs_readAt (g := g) (F := G) (q := q) (ph := ph) (f := f) (m := m) (at_ := 0) (k := m.now.length) hm hsz (by omega)
    rw [ht] at h
    exact h
  refine RCs_of_WPs Tryz.func15 rfl Tryz.ntmps15 rfl Tryz.results15 ?_
  refine WPs_seq ?_
  refine WPs_regionK [0, 1, 4] ?_
  refine s_alloc Tryz.zeroValue53 (cl := [_, _, _, _, _]) rfl rfl (fun b4 => ?_)
  refine s_assign rfl rfl ?_
  refine SXs_nilK (fr' := [(0, _), (1, _), (4, _)]) rfl ?_
  refine KSs_wp ?_
  refine WPs_seq ?_
  refine WPs_seq ?_
  refine WPs_regionK [0, 1, 4, 6] ?_
  refine s_move rfl rfl ?_
  refine s_move rfl rfl ?_
  refine s_call Tryz.call38 rfl (vs := [_, _]) rfl (RCs.perm (by (repeat ((exact List.Perm.refl _)))) (seg_asks h1 h2)) ?_
  rintro v w ⟨rfl, hS⟩
  refine SXs_go hS ?_
  clear hS; clear w
  simp only [putF]
  refine s_assign rfl rfl ?_
  refine SXs_nilK (fr' := [(0, _), (1, _), (4, _), (6, _)]) rfl ?_
  refine KSs_wp ?_
  refine WPs_seq ?_
  refine WPs_regionK [0, 1, 4, 6, 14] ?_
  refine s_move rfl rfl ?_
  refine s_neq rfl rfl rfl ?_
  refine SXs_nilK (fr' := [(0, _), (1, _), (4, _), (6, _), (14, _)]) rfl ?_
  refine KSs_wp ?_
  refine WPs_cond rfl (fun hc1 => ?_) (fun hc1 => ?_)
  · (exfalso; (cases hc1; done))
  · simp only [decide_eq_true_eq, Bool.not_eq_false'] at hc1
    refine WPs_skip ?_
    refine KSs_wp ?_
    refine WPs_seq ?_
    refine WPs_regionK [0, 1, 4, 7, 8] ?_
    refine s_move rfl rfl ?_
    refine s_move rfl rfl ?_
    refine s_call Tryz.call12 rfl (vs := [_]) rfl (RCs.perm (by (repeat ((exact List.Perm.refl _)))) (hn _)) ?_
    rintro v w ⟨rfl, hS⟩
    refine SXs_go hS ?_
    clear hS; clear w
    simp only [putF]
    refine s_call Tryz.call39 rfl (vs := [_, _]) rfl (RCs.perm (by (repeat (first | exact List.Perm.refl _ | (apply pick 1; exact rfl)))) (fs_size (m := m) hm)) ?_
    rintro v w ⟨rfl, hS⟩
    refine SXs_go hS ?_
    clear hS; clear w
    simp only [List.eraseIdx_cons_zero, List.eraseIdx_cons_succ, putF]
    refine s_move rfl rfl ?_
    refine s_extract rfl rfl rfl ?_
    refine s_extract rfl rfl rfl ?_
    refine s_assign rfl rfl ?_
    refine s_assign rfl rfl ?_
    refine SXs_nilK (fr' := [(0, _), (1, _), (4, _), (7, _), (8, _)]) rfl ?_
    refine KSs_wp ?_
    refine WPs_seq ?_
    refine WPs_seq ?_
    refine WPs_regionK [0, 1, 4, 7, 8, 25] ?_
    refine s_move rfl rfl ?_
    refine s_neq rfl rfl rfl ?_
    refine SXs_nilK (fr' := [(0, _), (1, _), (4, _), (7, _), (8, _), (25, _)]) rfl ?_
    refine KSs_wp ?_
    refine WPs_cond rfl (fun hc2 => ?_) (fun hc2 => ?_)
    · (exfalso; (cases hc2; done))
    · simp only [decide_eq_true_eq, Bool.not_eq_false'] at hc2
      refine WPs_skip ?_
      refine KSs_wp ?_
      refine WPs_seq ?_
      refine WPs_regionK [1, 4, 8, 9] ?_
      refine s_move rfl rfl ?_
      refine s_move rfl rfl ?_
      refine s_call Tryz.call12 rfl (vs := [_]) rfl (RCs.perm (by (repeat ((exact List.Perm.refl _)))) (hn _)) ?_
      rintro v w ⟨rfl, hS⟩
      refine SXs_go hS ?_
      clear hS; clear w
      simp only [putF]
      refine s_move rfl rfl ?_
      refine s_call Tryz.call35 rfl (vs := [_, _, _, _]) rfl (RCs.perm (by (repeat ((exact List.Perm.refl _)))) (hread _)) ?_
      rintro v w ⟨_, rfl, va33, vc33, rfl, hS⟩
      refine SXs_go hS ?_
      clear hS; clear w
      simp only [putF]
      refine s_move rfl rfl ?_
      refine s_extract rfl rfl rfl ?_
      refine s_extract rfl rfl rfl ?_
      refine s_assign rfl rfl ?_
      refine s_assign rfl rfl ?_
      refine SXs_nilK (fr' := [(1, _), (4, _), (8, _), (9, _)]) rfl ?_
      refine KSs_wp ?_
      refine WPs_seq ?_
      refine WPs_seq ?_
      refine WPs_regionK [1, 4, 8, 9, 37] ?_
      refine s_move rfl rfl ?_
      refine s_neq rfl rfl rfl ?_
      refine SXs_nilK (fr' := [(1, _), (4, _), (8, _), (9, _), (37, _)]) rfl ?_
      refine KSs_wp ?_
      refine WPs_cond rfl (fun hc3 => ?_) (fun hc3 => ?_)
      · (exfalso; (cases hc3; done))
      · simp only [decide_eq_true_eq, Bool.not_eq_false'] at hc3
        refine WPs_skip ?_
        refine KSs_wp ?_
        refine WPs_seq ?_
        refine WPs_regionK [4, 5] ?_
        refine SXs_rd (T := 5) 0 rfl (fun hRb => ?_)
        refine s_move rfl rfl ?_
        refine s_move rfl rfl ?_
        refine s_call Tryz.call40 rfl (vs := [_, _]) rfl (RCs.perm (by (repeat ((exact List.Perm.refl _)))) (hOf _ _ hRb)) ?_
        rintro v w ⟨E, fa, pa, fc, pm, pc, rfl, hE, hS⟩
        refine SXs_go hS ?_
        clear hS; clear w
        simp only [putF]
        refine s_store (i := 4) Tryz.sizeOf53 rfl rfl rfl (vs := [_, _, _, _, _]) rfl rfl rfl rfl ?_
        simp only [List.set_cons_zero, List.set_cons_succ, spl]
        refine s_assign rfl rfl ?_
        refine SXs_nilK (fr' := [(4, _), (5, _)]) rfl ?_
        refine KSs_wp ?_
        refine WPs_ret ?_
        refine RLs_start ?_
        refine RLs_cellN Tryz.isAgg53 Tryz.sizeOf53 (cs := [_, _, _, _, _]) rfl (by exact csin (i := 4) (k := 5) rfl rfl) rfl ?_
        refine RLs_tmp rfl ?_
        refine RLs_fin2 ?_
        exact fun w hS => ⟨E, fa, pa, fc, pm, pc, rfl, hE, hS.sl (by (repeat (first | exact Sl.refl _ | (apply Sl.pick 0; exact rfl) | (apply Sl.pick 1; exact rfl) | refine Sl.skip ?_)))⟩

def readN (size off : Nat) : Nat := min 1113 (size - off)
/-- What Read reads of the file. -/
def readB (now : List UInt8) (size off : Nat) : List UInt8 := (now.drop off).take (readN size off)

set_option maxHeartbeats 2000000 in
theorem seg_read_ok {g : World} {F : List HP} {x f id size many first last safe off : Nat} {q : Int} {ph : Bool} {nm : ByteArray} {m : FileM} {r : RecM} {kind : Nat} (hH : HalfG g) (hSz : SizesG g) (hn : NameOk g id nm) (hm : MayOk nm) (hsz : m.now.length ≤ 70368744177664) (hs : size = m.now.length) (hs2 : size ≤ 16777216) (h16 : 16 ≤ off) (hoff : off < size) (hg : GoodAt (readB m.now size off) r kind):
    RCs Tryz.prog 13 [.pointer (some ⟨x, 0, none⟩), .agg [.int .u32 (id : Int), .int .u32 (off : Int)].toArray] g (segP x f id size many first last safe :: FsR ph f nm q m :: F) 
      (fun u w => ∃ ka kc va vc, u = .tuple #[.agg [.int .u64 (r.seq : Int), .int .i64 r.kind, .slice ka r.key.length kc, .slice va r.value.length vc, .int .u32 (r.ps : Int), .int .u32 (r.po : Int)].toArray, .int .i64 0] ∧
        St g w (own 5 1 (.slice ka r.key.length kc) r.key.length (bv r.key) :: own 5 1 (.slice va r.value.length vc) r.value.length (bv r.value) :: segP x f id size many first last safe :: FsR ph f nm q m :: F)) := by
  refine RCs_of_WPs Tryz.func13 rfl Tryz.ntmps13 rfl Tryz.results13 ?_
  refine WPs_seq ?_
  refine WPs_regionK [0, 3, 4] ?_
  refine s_box (cl := [_, _]) rfl rfl rfl (fun b3 => ?_)
  refine s_alloc Tryz.zeroValue46 (cl := [_, _, _, _, _, _]) rfl rfl (fun b4 => ?_)
  refine s_assign rfl rfl ?_
  refine SXs_nilK (fr' := [(0, _), (3, _), (4, _)]) rfl ?_
  refine KSs_wp ?_
  refine WPs_seq ?_
  refine WPs_block ?_
  refine WPs_seq ?_
  refine WPs_regionK [0, 3, 4, 10] ?_
  refine s_move rfl rfl ?_
  refine s_call Tryz.call28 rfl (vs := [_]) rfl (RCs.perm (by (repeat (first | exact List.Perm.refl _ | (apply pick 2; exact rfl)))) (seg_none)) ?_
  rintro v w ⟨rfl, hS⟩
  refine SXs_go hS ?_
  clear hS; clear w
  simp only [List.eraseIdx_cons_zero, List.eraseIdx_cons_succ, putF]
  refine s_assign rfl rfl ?_
  refine SXs_nilK (fr' := [(0, _), (3, _), (4, _), (10, _)]) rfl ?_
  refine KSs_wp ?_
  refine WPs_cond rfl (fun hc1 => ?_) (fun hc1 => ?_)
  · (exfalso; (cases hc1; done))
  · simp only [decide_eq_true_eq] at hc1
    refine WPs_seq ?_
    refine WPs_drawL [0, 3, 4, 14] [] Tryz.mixed rfl (listed := #[false, false, false, false, false, false, false, false, false, false, false, false, false, false, false, false, false, false, false, false, false, false, false, false]) rfl ?_
    refine st_take 0 rfl (by decide +kernel) (listed' := #[true, false, false, false, false, false, false, false, false, false, false, false, false, false, false, false, false, false, false, false, false, false, false, false]) rfl (by (intro _ h; (exact h))) (gv_fieldAddr fo_44_0 rfl rfl) ?_
    refine st_take 1 rfl (by decide +kernel) (listed' := #[true, true, false, false, false, false, false, false, false, false, false, false, false, false, false, false, false, false, false, false, false, false, false, false]) rfl (by (intro _ h; (exact h))) (gv_load1 Tryz.isAgg34 rfl rfl (by exact cin (i := 2) rfl rfl)) ?_
    refine st_take 2 rfl (by decide +kernel) (listed' := #[true, true, true, false, false, false, false, false, false, false, false, false, false, false, false, false, false, false, false, false, false, false, false, false]) rfl (by (intro _ h; (exact h))) (gv_move rfl rfl) ?_
    refine st_take 3 rfl (by decide +kernel) (listed' := #[true, true, true, true, false, false, false, false, false, false, false, false, false, false, false, false, false, false, false, false, false, false, false, false]) rfl (by (intro _ h; (exact h))) (gv_nilCheck rfl rfl) ?_
    refine st_take 4 rfl (by decide +kernel) (listed' := #[true, true, true, true, true, false, false, false, false, false, false, false, false, false, false, false, false, false, false, false, false, false, false, false]) rfl (by (intro _ h; (exact h))) (gv_fieldAddr fo_79_1 rfl rfl) ?_
    refine st_take 5 rfl (by decide +kernel) (listed' := #[true, true, true, true, true, true, false, false, false, false, false, false, false, false, false, false, false, false, false, false, false, false, false, false]) rfl (by (intro _ h; (exact h))) (gv_fieldAddr fo_38_0 rfl rfl) ?_
    refine st_take 6 rfl (by decide +kernel) (listed' := #[true, true, true, true, true, true, true, false, false, false, false, false, false, false, false, false, false, false, false, false, false, false, false, false]) rfl (by (intro _ h; (exact h))) (gv_load1 Tryz.isAgg34 rfl rfl (by exact cin (i := 0) rfl rfl)) ?_
    refine st_take 7 rfl (by decide +kernel) (listed' := #[true, true, true, true, true, true, true, true, false, false, false, false, false, false, false, false, false, false, false, false, false, false, false, false]) rfl (by (intro _ h; (exact h))) (gv_neq rfl rfl rfl) ?_
    refine st_take 8 rfl (by decide +kernel) (listed' := #[true, true, true, true, true, true, true, true, true, false, false, false, false, false, false, false, false, false, false, false, false, false, false, false]) rfl (by (intro _ h; (exact h))) (gv_move rfl rfl) ?_
    refine st_split (dj := 23) rfl (fun hc2 => ?_) (fun hc2 => ?_)
    · (exfalso; (simp at hc2; done))
    · simp only [decide_eq_true_eq, Bool.not_eq_false'] at hc2
      refine st_take_t 9 rfl (by decide +kernel) (listed' := #[true, true, true, true, true, true, true, true, true, true, false, false, false, false, false, false, false, false, false, false, false, false, false, false]) rfl (by (intro _ h; (exact h))) rfl rfl (by ((simp_all; done))) (gv_fieldAddr fo_44_1 rfl rfl) ?_
      refine st_take_t 10 rfl (by decide +kernel) (listed' := #[true, true, true, true, true, true, true, true, true, true, true, false, false, false, false, false, false, false, false, false, false, false, false, false]) rfl (by (intro _ h; (exact h))) rfl rfl (by ((simp_all; done))) (gv_load1 Tryz.isAgg34 rfl rfl (by exact cin (i := 2) rfl rfl)) ?_
      refine st_take_t 11 rfl (by decide +kernel) (listed' := #[true, true, true, true, true, true, true, true, true, true, true, true, false, false, false, false, false, false, false, false, false, false, false, false]) rfl (by (intro _ h; (exact h))) rfl rfl (by ((simp_all; done))) (gv_lss rfl rfl rfl) ?_
      refine st_take 12 rfl (by decide +kernel) (listed' := #[true, true, true, true, true, true, true, true, true, true, true, true, true, false, false, false, false, false, false, false, false, false, false, false]) rfl (by (intro _ h; (exact h))) (gv_pickB rfl rfl rfl rfl) ?_
      refine st_take 13 rfl (by decide +kernel) (listed' := #[true, true, true, true, true, true, true, true, true, true, true, true, true, true, false, false, false, false, false, false, false, false, false, false]) rfl (by (intro _ h; (exact h))) (gv_move rfl rfl) ?_
      refine st_split (dj := 28) rfl (fun hc12 => ?_) (fun hc12 => ?_)
      · (exfalso; (simp at hc12; omega))
      · simp only [decide_eq_true_eq] at hc12
        refine st_take_t 14 rfl (by decide +kernel) (listed' := #[true, true, true, true, true, true, true, true, true, true, true, true, true, true, true, false, false, false, false, false, false, false, false, false]) rfl (by (intro _ h; (exact h))) rfl rfl (by ((simp_all; done))) (gv_fieldAddr fo_44_1 rfl rfl) ?_
        refine st_take_t 15 rfl (by decide +kernel) (listed' := #[true, true, true, true, true, true, true, true, true, true, true, true, true, true, true, true, false, false, false, false, false, false, false, false]) rfl (by (intro _ h; (exact h))) rfl rfl (by ((simp_all; done))) (gv_load1 Tryz.isAgg34 rfl rfl (by exact cin (i := 2) rfl rfl)) ?_
        refine st_take_t 16 rfl (by decide +kernel) (listed' := #[true, true, true, true, true, true, true, true, true, true, true, true, true, true, true, true, true, false, false, false, false, false, false, false]) rfl (by (intro _ h; (exact h))) rfl rfl (by ((simp_all; done))) (gv_move rfl rfl) ?_
        refine st_take_t 17 rfl (by decide +kernel) (listed' := #[true, true, true, true, true, true, true, true, true, true, true, true, true, true, true, true, true, true, false, false, false, false, false, false]) rfl (by (intro _ h; (exact h))) rfl rfl (by ((simp_all; done))) (gv_nilCheck rfl rfl) ?_
        refine st_take_t 18 rfl (by decide +kernel) (listed' := #[true, true, true, true, true, true, true, true, true, true, true, true, true, true, true, true, true, true, true, false, false, false, false, false]) rfl (by (intro _ h; (exact h))) rfl rfl (by ((simp_all; done))) (gv_fieldAddr fo_79_1 rfl rfl) ?_
        refine st_take_t 19 rfl (by decide +kernel) (listed' := #[true, true, true, true, true, true, true, true, true, true, true, true, true, true, true, true, true, true, true, true, false, false, false, false]) rfl (by (intro _ h; (exact h))) rfl rfl (by ((simp_all; done))) (gv_fieldAddr fo_38_1 rfl rfl) ?_
        refine st_take_t 20 rfl (by decide +kernel) (listed' := #[true, true, true, true, true, true, true, true, true, true, true, true, true, true, true, true, true, true, true, true, true, false, false, false]) rfl (by (intro _ h; (exact h))) rfl rfl (by ((simp_all; done))) (gv_load1 Tryz.isAgg34 rfl rfl (by exact cin (i := 0) rfl rfl)) ?_
        refine st_take_t 21 rfl (by decide +kernel) (listed' := #[true, true, true, true, true, true, true, true, true, true, true, true, true, true, true, true, true, true, true, true, true, true, false, false]) rfl (by (intro _ h; (exact h))) rfl rfl (by ((simp_all; done))) (gv_geq rfl rfl rfl) ?_
        refine st_take 22 rfl (by decide +kernel) (listed' := #[true, true, true, true, true, true, true, true, true, true, true, true, true, true, true, true, true, true, true, true, true, true, true, false]) rfl (by (intro _ h; (exact h))) (gv_pickB rfl rfl rfl rfl) ?_
        refine st_take 23 rfl (by decide +kernel) (listed' := #[true, true, true, true, true, true, true, true, true, true, true, true, true, true, true, true, true, true, true, true, true, true, true, true]) rfl (by (intro _ h; (exact h))) (gv_assign rfl rfl) ?_
        refine st_doneK (fr' := [(0, _), (3, _), (4, _), (14, _)]) (by decide +kernel) rfl ?_
        refine KSs_wp ?_
        refine WPs_cond rfl (fun hc17 => ?_) (fun hc17 => ?_)
        · (exfalso; (simp at hc17; omega))
        · simp only [decide_eq_true_eq] at hc17
          refine WPs_skip ?_
          refine KSs_wp ?_
          refine WPs_seq ?_
          refine WPs_drawL [4, 6, 7] [] Tryz.mixed rfl (listed := #[false, false, false, false, false, false, false, false, false, false, false, false, false, false, false, false, false, false, false, false, false, false, false, false, false, false]) rfl ?_
          refine st_take 0 rfl (by decide +kernel) (listed' := #[true, false, false, false, false, false, false, false, false, false, false, false, false, false, false, false, false, false, false, false, false, false, false, false, false, false]) rfl (by (intro _ h; (exact h))) (gv_move rfl rfl) ?_
          refine st_take 1 rfl (by decide +kernel) (listed' := #[true, true, false, false, false, false, false, false, false, false, false, false, false, false, false, false, false, false, false, false, false, false, false, false, false, false]) rfl (by (intro _ h; (exact h))) (gv_nilCheck rfl rfl) ?_
          refine st_take 2 rfl (by decide +kernel) (listed' := #[true, true, true, false, false, false, false, false, false, false, false, false, false, false, false, false, false, false, false, false, false, false, false, false, false, false]) rfl (by (intro _ h; (exact h))) (gv_fieldAddr fo_79_0 rfl rfl) ?_
          refine st_take 3 rfl (by decide +kernel) (listed' := #[true, true, true, true, false, false, false, false, false, false, false, false, false, false, false, false, false, false, false, false, false, false, false, false, false, false]) rfl (by (intro _ h; (exact h))) (gv_load1 Tryz.isAgg25 rfl rfl (by exact cin (i := 0) rfl rfl)) ?_
          refine st_take 4 rfl (by decide +kernel) (listed' := #[true, true, true, true, true, false, false, false, false, false, false, false, false, false, false, false, false, false, false, false, false, false, false, false, false, false]) rfl (by (intro _ h; (exact h))) (gv_fieldAddr fo_44_0 rfl rfl) ?_
          refine st_take 5 rfl (by decide +kernel) (listed' := #[true, true, true, true, true, true, false, false, false, false, false, false, false, false, false, false, false, false, false, false, false, false, false, false, false, false]) rfl (by (intro _ h; (exact h))) (gv_load1 Tryz.isAgg34 rfl rfl (by exact cin (i := 2) rfl rfl)) ?_
          refine st_take 7 rfl (by decide +kernel) (listed' := #[true, true, true, true, true, true, false, true, false, false, false, false, false, false, false, false, false, false, false, false, false, false, false, false, false, false]) rfl (by (intro _ h; (exact h))) (gv_fieldAddr fo_44_1 rfl rfl) ?_
          refine st_take 8 rfl (by decide +kernel) (listed' := #[true, true, true, true, true, true, false, true, true, false, false, false, false, false, false, false, false, false, false, false, false, false, false, false, false, false]) rfl (by (intro _ h; (exact h))) (gv_load1 Tryz.isAgg34 rfl rfl (by exact cin (i := 2) rfl rfl)) ?_
          refine st_take 9 rfl (by decide +kernel) (listed' := #[true, true, true, true, true, true, false, true, true, true, false, false, false, false, false, false, false, false, false, false, false, false, false, false, false, false]) rfl (by (intro _ h; (exact h))) (gv_conv_ok Tryz.underlying34 Tryz.underlying3 rfl rfl (inR_i64 (by omega) (by omega))) ?_
          refine st_take 10 rfl (by decide +kernel) (listed' := #[true, true, true, true, true, true, false, true, true, true, true, false, false, false, false, false, false, false, false, false, false, false, false, false, false, false]) rfl (by (intro _ h; (exact h))) (gv_move rfl rfl) ?_
          refine st_take 11 rfl (by decide +kernel) (listed' := #[true, true, true, true, true, true, false, true, true, true, true, true, false, false, false, false, false, false, false, false, false, false, false, false, false, false]) rfl (by (intro _ h; (exact h))) (gv_nilCheck rfl rfl) ?_
          refine st_take 12 rfl (by decide +kernel) (listed' := #[true, true, true, true, true, true, false, true, true, true, true, true, true, false, false, false, false, false, false, false, false, false, false, false, false, false]) rfl (by (intro _ h; (exact h))) (gv_fieldAddr fo_79_1 rfl rfl) ?_
          refine st_take 13 rfl (by decide +kernel) (listed' := #[true, true, true, true, true, true, false, true, true, true, true, true, true, true, false, false, false, false, false, false, false, false, false, false, false, false]) rfl (by (intro _ h; (exact h))) (gv_fieldAddr fo_38_1 rfl rfl) ?_
          refine st_take 14 rfl (by decide +kernel) (listed' := #[true, true, true, true, true, true, false, true, true, true, true, true, true, true, true, false, false, false, false, false, false, false, false, false, false, false]) rfl (by (intro _ h; (exact h))) (gv_load1 Tryz.isAgg34 rfl rfl (by exact cin (i := 0) rfl rfl)) ?_
          refine st_take 15 rfl (by decide +kernel) (listed' := #[true, true, true, true, true, true, false, true, true, true, true, true, true, true, true, true, false, false, false, false, false, false, false, false, false, false]) rfl (by (intro _ h; (exact h))) (gv_fieldAddr fo_44_1 rfl rfl) ?_
          refine st_take 16 rfl (by decide +kernel) (listed' := #[true, true, true, true, true, true, false, true, true, true, true, true, true, true, true, true, true, false, false, false, false, false, false, false, false, false]) rfl (by (intro _ h; (exact h))) (gv_load1 Tryz.isAgg34 rfl rfl (by exact cin (i := 2) rfl rfl)) ?_
          refine st_take 17 rfl (by decide +kernel) (listed' := #[true, true, true, true, true, true, false, true, true, true, true, true, true, true, true, true, true, true, false, false, false, false, false, false, false, false]) rfl (by (intro _ h; (exact h))) (gv_sub_ok rfl rfl rfl (inR_u32 (by omega) (by omega))) ?_
          refine st_take 18 rfl (by decide +kernel) (listed' := #[true, true, true, true, true, true, false, true, true, true, true, true, true, true, true, true, true, true, true, false, false, false, false, false, false, false]) rfl (by (intro _ h; (exact h))) (gv_conv_ok Tryz.underlying34 Tryz.underlying3 rfl rfl (inR_i64 (by omega) (by omega))) ?_
          refine st_take 19 rfl (by decide +kernel) (listed' := #[true, true, true, true, true, true, false, true, true, true, true, true, true, true, true, true, true, true, true, true, false, false, false, false, false, false]) rfl (by (intro _ h; (exact h))) (gv_minC (c := (readN size off : Int)) rfl rfl rfl (by unfold readN; omega)) ?_
          refine st_one 6 rfl (by decide +kernel) ?_
          refine s_call Tryz.call12 rfl (vs := [_]) rfl (RCs.perm (by (repeat ((exact List.Perm.refl _)))) (hn _)) ?_
          rintro v w ⟨rfl, hS⟩
          refine SXs_go hS ?_
          clear hS; clear w
          simp only [putF]
          refine st_next (listed' := #[true, true, true, true, true, true, true, true, true, true, true, true, true, true, true, true, true, true, true, true, false, false, false, false, false, false]) rfl (by intro _ _; (intro _ h; (exact h))) ?_
          refine st_one 20 rfl (by decide +kernel) ?_
          refine s_call Tryz.call35 rfl (vs := [_, _, _, _]) rfl (RCs.perm (by (repeat (first | exact List.Perm.refl _ | (apply pick 3; exact rfl)))) (fs_readAt (m := m) (at_ := off) (k := readN size off) hm hsz (by unfold readN; omega))) ?_
          rintro v w ⟨_, rfl, va60, vc60, rfl, hS⟩
          refine SXs_go hS ?_
          clear hS; clear w
          simp only [List.eraseIdx_cons_zero, List.eraseIdx_cons_succ, putF]
          refine st_next (listed' := #[true, true, true, true, true, true, true, true, true, true, true, true, true, true, true, true, true, true, true, true, true, false, false, false, false, false]) rfl (by intro _ _; (intro _ h; (exact h.sl (by (repeat (first | exact Sl.refl _ | (apply Sl.pick 1; exact rfl) | (apply Sl.pick 2; exact rfl) | refine Sl.skip ?_)))))) ?_
          refine st_take 21 rfl (by decide +kernel) (listed' := #[true, true, true, true, true, true, true, true, true, true, true, true, true, true, true, true, true, true, true, true, true, true, false, false, false, false]) rfl (by (intro _ h; (exact h.sl (by (repeat (first | exact Sl.refl _ | (apply Sl.pick 1; exact rfl) | (apply Sl.pick 2; exact rfl) | refine Sl.skip ?_)))))) (gv_move rfl rfl) ?_
          refine st_take 22 rfl (by decide +kernel) (listed' := #[true, true, true, true, true, true, true, true, true, true, true, true, true, true, true, true, true, true, true, true, true, true, true, false, false, false]) rfl (by (intro _ h; (exact h.sl (by (repeat (first | exact Sl.refl _ | (apply Sl.pick 1; exact rfl) | (apply Sl.pick 2; exact rfl) | refine Sl.skip ?_)))))) (gv_extract rfl rfl rfl) ?_
          refine st_take 23 rfl (by decide +kernel) (listed' := #[true, true, true, true, true, true, true, true, true, true, true, true, true, true, true, true, true, true, true, true, true, true, true, true, false, false]) rfl (by (intro _ h; (exact h.sl (by (repeat (first | exact Sl.refl _ | (apply Sl.pick 1; exact rfl) | (apply Sl.pick 2; exact rfl) | refine Sl.skip ?_)))))) (gv_extract rfl rfl rfl) ?_
          refine st_take 24 rfl (by decide +kernel) (listed' := #[true, true, true, true, true, true, true, true, true, true, true, true, true, true, true, true, true, true, true, true, true, true, true, true, true, false]) rfl (by (intro _ h; (exact h.sl (by (repeat (first | exact Sl.refl _ | (apply Sl.pick 1; exact rfl) | (apply Sl.pick 2; exact rfl) | refine Sl.skip ?_)))))) (gv_assign rfl rfl) ?_
          refine st_take 25 rfl (by decide +kernel) (listed' := #[true, true, true, true, true, true, true, true, true, true, true, true, true, true, true, true, true, true, true, true, true, true, true, true, true, true]) rfl (by (intro _ h; (exact h.sl (by (repeat (first | exact Sl.refl _ | (apply Sl.pick 1; exact rfl) | (apply Sl.pick 2; exact rfl) | refine Sl.skip ?_)))))) (gv_assign rfl rfl) ?_
          refine st_doneK (fr' := [(4, _), (6, _), (7, _)]) (by decide +kernel) rfl ?_
          refine KSs_wp ?_
          refine WPs_seq ?_
          refine WPs_seq ?_
          refine WPs_regionK [4, 6, 7, 63] ?_
          refine s_move rfl rfl ?_
          refine SXs_nilK (fr' := [(4, _), (6, _), (7, _), (63, _)]) rfl ?_
          refine KSs_wp ?_
          refine WPs_block ?_
          refine WPs_seq ?_
          refine WPs_regionK [4, 6, 7, 63, 66] ?_
          refine s_eql rfl rfl rfl ?_
          refine s_assign rfl rfl ?_
          refine SXs_nilK (fr' := [(4, _), (6, _), (7, _), (63, _), (66, _)]) rfl ?_
          refine KSs_wp ?_
          refine WPs_cond rfl (fun hc18 => ?_) (fun hc18 => ?_)
          · simp only [decide_eq_true_eq] at hc18
            refine WPs_skip ?_
            refine KSs_wp ?_
            refine WPs_seq ?_
            refine WPs_regionK [4, 7, 8] ?_
            refine SXs_rd (T := 5) 0 rfl (fun hRb => ?_)
            refine s_move rfl rfl ?_
            refine s_call Tryz.call36 rfl (vs := [_]) rfl (RCs.perm (by (repeat ((exact List.Perm.refl _)))) (get_good (ys := readB m.now size off) hH hSz hRb hg)) ?_
            rintro v w ⟨ka, kc, va, vc, rfl, hS⟩
            refine SXs_go hS ?_
            clear hS; clear w
            simp only [putF]
            refine s_move rfl rfl ?_
            refine s_extract rfl rfl rfl ?_
            refine s_extract rfl rfl rfl ?_
            refine s_extract rfl rfl rfl ?_
            refine s_alloc Tryz.zeroValue46 (cl := [_, _, _, _, _, _]) rfl rfl (fun b8 => ?_)
            refine s_store (i := 0) Tryz.sizeOf46 rfl rfl rfl (vs := [_, _, _, _, _, _]) rfl rfl rfl rfl ?_
            simp only [List.set_cons_zero, List.set_cons_succ, spl]
            refine s_assign rfl rfl ?_
            refine s_assign rfl rfl ?_
            refine SXs_nilK (fr' := [(4, _), (7, _), (8, _)]) rfl ?_
            refine KSs_wp ?_
            refine WPs_seq ?_
            refine WPs_seq ?_
            refine WPs_regionK [4, 8, 78] ?_
            refine s_move rfl rfl ?_
            refine s_neq rfl rfl rfl ?_
            refine SXs_nilK (fr' := [(4, _), (8, _), (78, _)]) rfl ?_
            refine KSs_wp ?_
            refine WPs_cond rfl (fun hc19 => ?_) (fun hc19 => ?_)
            · (exfalso; (cases hc19; done))
            · simp only [decide_eq_true_eq, Bool.not_eq_false'] at hc19
              refine WPs_skip ?_
              refine KSs_wp ?_
              refine WPs_seq ?_
              refine WPs_regionK [4, 5] ?_
              refine s_loadN Tryz.isAgg46 Tryz.sizeOf46 (vs := [_, _, _, _, _, _]) rfl rfl (by exact csin (i := 0) (k := 6) rfl rfl) rfl ?_
              refine s_store (i := 6) Tryz.sizeOf46 rfl rfl rfl (vs := [_, _, _, _, _, _]) rfl rfl rfl rfl ?_
              simp only [List.set_cons_zero, List.set_cons_succ, spl]
              refine s_assign rfl rfl ?_
              refine SXs_nilK (fr' := [(4, _), (5, _)]) rfl ?_
              refine KSs_wp ?_
              refine WPs_ret ?_
              refine RLs_start ?_
              refine RLs_cellN Tryz.isAgg46 Tryz.sizeOf46 (cs := [_, _, _, _, _, _]) rfl (by exact csin (i := 6) (k := 6) rfl rfl) rfl ?_
              refine RLs_tmp rfl ?_
              refine RLs_fin2 ?_
              exact fun w hS => ⟨ka, kc, va, vc, rfl, hS.sl (by (repeat (first | exact Sl.refl _ | (apply Sl.pick 1; exact rfl) | (apply Sl.pick 2; exact rfl) | (apply Sl.pick 3; exact rfl) | refine Sl.skip ?_)))⟩
          · (exfalso; (cases hc18; done))
set_option maxHeartbeats 2000000 in
theorem seg_read_bad {g : World} {F : List HP} {x f id size many first last safe off : Nat} {q : Int} {ph : Bool} {nm : ByteArray} {m : FileM} (hH : HalfG g) (hSz : SizesG g) (hn : NameOk g id nm) (hm : MayOk nm) (hsz : m.now.length ≤ 70368744177664) (hs : size = m.now.length) (hs2 : size ≤ 16777216) (h16 : 16 ≤ off) (hoff : off < size) (hbad : ∀ (G : List HP) (v : Value), RdB g G v (readB m.now size off) → RCs Tryz.prog 36 [v] g G (fun u w => ∃ sz e : Int, u = .tuple #[.agg [.int .u64 0, .int .i64 0, .slice none 0 0, .slice none 0 0, .int .u32 0, .int .u32 0].toArray, .int .i64 sz, .int .i64 e] ∧ e ≠ 0 ∧ St g w G)):
    RCs Tryz.prog 13 [.pointer (some ⟨x, 0, none⟩), .agg [.int .u32 (id : Int), .int .u32 (off : Int)].toArray] g (segP x f id size many first last safe :: FsR ph f nm q m :: F) 
      (fun u w => u = .tuple #[.agg [.int .u64 0, .int .i64 0, .slice none 0 0, .slice none 0 0, .int .u32 0, .int .u32 0].toArray, .int .i64 36] ∧ St g w (segP x f id size many first last safe :: FsR ph f nm q m :: F)) := by
  refine RCs_of_WPs Tryz.func13 rfl Tryz.ntmps13 rfl Tryz.results13 ?_
  refine WPs_seq ?_
  refine WPs_regionK [0, 3, 4] ?_
  refine s_box (cl := [_, _]) rfl rfl rfl (fun b3 => ?_)
  refine s_alloc Tryz.zeroValue46 (cl := [_, _, _, _, _, _]) rfl rfl (fun b4 => ?_)
  refine s_assign rfl rfl ?_
  refine SXs_nilK (fr' := [(0, _), (3, _), (4, _)]) rfl ?_
  refine KSs_wp ?_
  refine WPs_seq ?_
  refine WPs_block ?_
  refine WPs_seq ?_
  refine WPs_regionK [0, 3, 4, 10] ?_
  refine s_move rfl rfl ?_
  refine s_call Tryz.call28 rfl (vs := [_]) rfl (RCs.perm (by (repeat (first | exact List.Perm.refl _ | (apply pick 2; exact rfl)))) (seg_none)) ?_
  rintro v w ⟨rfl, hS⟩
  refine SXs_go hS ?_
  clear hS; clear w
  simp only [List.eraseIdx_cons_zero, List.eraseIdx_cons_succ, putF]
  refine s_assign rfl rfl ?_
  refine SXs_nilK (fr' := [(0, _), (3, _), (4, _), (10, _)]) rfl ?_
  refine KSs_wp ?_
  refine WPs_cond rfl (fun hc1 => ?_) (fun hc1 => ?_)
  · (exfalso; (cases hc1; done))
  · simp only [decide_eq_true_eq] at hc1
    refine WPs_seq ?_
    refine WPs_drawL [0, 3, 4, 14] [] Tryz.mixed rfl (listed := #[false, false, false, false, false, false, false, false, false, false, false, false, false, false, false, false, false, false, false, false, false, false, false, false]) rfl ?_
    refine st_take 0 rfl (by decide +kernel) (listed' := #[true, false, false, false, false, false, false, false, false, false, false, false, false, false, false, false, false, false, false, false, false, false, false, false]) rfl (by (intro _ h; (exact h))) (gv_fieldAddr fo_44_0 rfl rfl) ?_
    refine st_take 1 rfl (by decide +kernel) (listed' := #[true, true, false, false, false, false, false, false, false, false, false, false, false, false, false, false, false, false, false, false, false, false, false, false]) rfl (by (intro _ h; (exact h))) (gv_load1 Tryz.isAgg34 rfl rfl (by exact cin (i := 2) rfl rfl)) ?_
    refine st_take 2 rfl (by decide +kernel) (listed' := #[true, true, true, false, false, false, false, false, false, false, false, false, false, false, false, false, false, false, false, false, false, false, false, false]) rfl (by (intro _ h; (exact h))) (gv_move rfl rfl) ?_
    refine st_take 3 rfl (by decide +kernel) (listed' := #[true, true, true, true, false, false, false, false, false, false, false, false, false, false, false, false, false, false, false, false, false, false, false, false]) rfl (by (intro _ h; (exact h))) (gv_nilCheck rfl rfl) ?_
    refine st_take 4 rfl (by decide +kernel) (listed' := #[true, true, true, true, true, false, false, false, false, false, false, false, false, false, false, false, false, false, false, false, false, false, false, false]) rfl (by (intro _ h; (exact h))) (gv_fieldAddr fo_79_1 rfl rfl) ?_
    refine st_take 5 rfl (by decide +kernel) (listed' := #[true, true, true, true, true, true, false, false, false, false, false, false, false, false, false, false, false, false, false, false, false, false, false, false]) rfl (by (intro _ h; (exact h))) (gv_fieldAddr fo_38_0 rfl rfl) ?_
    refine st_take 6 rfl (by decide +kernel) (listed' := #[true, true, true, true, true, true, true, false, false, false, false, false, false, false, false, false, false, false, false, false, false, false, false, false]) rfl (by (intro _ h; (exact h))) (gv_load1 Tryz.isAgg34 rfl rfl (by exact cin (i := 0) rfl rfl)) ?_
    refine st_take 7 rfl (by decide +kernel) (listed' := #[true, true, true, true, true, true, true, true, false, false, false, false, false, false, false, false, false, false, false, false, false, false, false, false]) rfl (by (intro _ h; (exact h))) (gv_neq rfl rfl rfl) ?_
    refine st_take 8 rfl (by decide +kernel) (listed' := #[true, true, true, true, true, true, true, true, true, false, false, false, false, false, false, false, false, false, false, false, false, false, false, false]) rfl (by (intro _ h; (exact h))) (gv_move rfl rfl) ?_
    refine st_split (dj := 23) rfl (fun hc2 => ?_) (fun hc2 => ?_)
    · (exfalso; (simp at hc2; done))
    · simp only [decide_eq_true_eq, Bool.not_eq_false'] at hc2
      refine st_take_t 9 rfl (by decide +kernel) (listed' := #[true, true, true, true, true, true, true, true, true, true, false, false, false, false, false, false, false, false, false, false, false, false, false, false]) rfl (by (intro _ h; (exact h))) rfl rfl (by ((simp_all; done))) (gv_fieldAddr fo_44_1 rfl rfl) ?_
      refine st_take_t 10 rfl (by decide +kernel) (listed' := #[true, true, true, true, true, true, true, true, true, true, true, false, false, false, false, false, false, false, false, false, false, false, false, false]) rfl (by (intro _ h; (exact h))) rfl rfl (by ((simp_all; done))) (gv_load1 Tryz.isAgg34 rfl rfl (by exact cin (i := 2) rfl rfl)) ?_
      refine st_take_t 11 rfl (by decide +kernel) (listed' := #[true, true, true, true, true, true, true, true, true, true, true, true, false, false, false, false, false, false, false, false, false, false, false, false]) rfl (by (intro _ h; (exact h))) rfl rfl (by ((simp_all; done))) (gv_lss rfl rfl rfl) ?_
      refine st_take 12 rfl (by decide +kernel) (listed' := #[true, true, true, true, true, true, true, true, true, true, true, true, true, false, false, false, false, false, false, false, false, false, false, false]) rfl (by (intro _ h; (exact h))) (gv_pickB rfl rfl rfl rfl) ?_
      refine st_take 13 rfl (by decide +kernel) (listed' := #[true, true, true, true, true, true, true, true, true, true, true, true, true, true, false, false, false, false, false, false, false, false, false, false]) rfl (by (intro _ h; (exact h))) (gv_move rfl rfl) ?_
      refine st_split (dj := 28) rfl (fun hc12 => ?_) (fun hc12 => ?_)
      · (exfalso; (simp at hc12; omega))
      · simp only [decide_eq_true_eq] at hc12
        refine st_take_t 14 rfl (by decide +kernel) (listed' := #[true, true, true, true, true, true, true, true, true, true, true, true, true, true, true, false, false, false, false, false, false, false, false, false]) rfl (by (intro _ h; (exact h))) rfl rfl (by ((simp_all; done))) (gv_fieldAddr fo_44_1 rfl rfl) ?_
        refine st_take_t 15 rfl (by decide +kernel) (listed' := #[true, true, true, true, true, true, true, true, true, true, true, true, true, true, true, true, false, false, false, false, false, false, false, false]) rfl (by (intro _ h; (exact h))) rfl rfl (by ((simp_all; done))) (gv_load1 Tryz.isAgg34 rfl rfl (by exact cin (i := 2) rfl rfl)) ?_
        refine st_take_t 16 rfl (by decide +kernel) (listed' := #[true, true, true, true, true, true, true, true, true, true, true, true, true, true, true, true, true, false, false, false, false, false, false, false]) rfl (by (intro _ h; (exact h))) rfl rfl (by ((simp_all; done))) (gv_move rfl rfl) ?_
        refine st_take_t 17 rfl (by decide +kernel) (listed' := #[true, true, true, true, true, true, true, true, true, true, true, true, true, true, true, true, true, true, false, false, false, false, false, false]) rfl (by (intro _ h; (exact h))) rfl rfl (by ((simp_all; done))) (gv_nilCheck rfl rfl) ?_
        refine st_take_t 18 rfl (by decide +kernel) (listed' := #[true, true, true, true, true, true, true, true, true, true, true, true, true, true, true, true, true, true, true, false, false, false, false, false]) rfl (by (intro _ h; (exact h))) rfl rfl (by ((simp_all; done))) (gv_fieldAddr fo_79_1 rfl rfl) ?_
        refine st_take_t 19 rfl (by decide +kernel) (listed' := #[true, true, true, true, true, true, true, true, true, true, true, true, true, true, true, true, true, true, true, true, false, false, false, false]) rfl (by (intro _ h; (exact h))) rfl rfl (by ((simp_all; done))) (gv_fieldAddr fo_38_1 rfl rfl) ?_
        refine st_take_t 20 rfl (by decide +kernel) (listed' := #[true, true, true, true, true, true, true, true, true, true, true, true, true, true, true, true, true, true, true, true, true, false, false, false]) rfl (by (intro _ h; (exact h))) rfl rfl (by ((simp_all; done))) (gv_load1 Tryz.isAgg34 rfl rfl (by exact cin (i := 0) rfl rfl)) ?_
        refine st_take_t 21 rfl (by decide +kernel) (listed' := #[true, true, true, true, true, true, true, true, true, true, true, true, true, true, true, true, true, true, true, true, true, true, false, false]) rfl (by (intro _ h; (exact h))) rfl rfl (by ((simp_all; done))) (gv_geq rfl rfl rfl) ?_
        refine st_take 22 rfl (by decide +kernel) (listed' := #[true, true, true, true, true, true, true, true, true, true, true, true, true, true, true, true, true, true, true, true, true, true, true, false]) rfl (by (intro _ h; (exact h))) (gv_pickB rfl rfl rfl rfl) ?_
        refine st_take 23 rfl (by decide +kernel) (listed' := #[true, true, true, true, true, true, true, true, true, true, true, true, true, true, true, true, true, true, true, true, true, true, true, true]) rfl (by (intro _ h; (exact h))) (gv_assign rfl rfl) ?_
        refine st_doneK (fr' := [(0, _), (3, _), (4, _), (14, _)]) (by decide +kernel) rfl ?_
        refine KSs_wp ?_
        refine WPs_cond rfl (fun hc17 => ?_) (fun hc17 => ?_)
        · (exfalso; (simp at hc17; omega))
        · simp only [decide_eq_true_eq] at hc17
          refine WPs_skip ?_
          refine KSs_wp ?_
          refine WPs_seq ?_
          refine WPs_drawL [4, 6, 7] [] Tryz.mixed rfl (listed := #[false, false, false, false, false, false, false, false, false, false, false, false, false, false, false, false, false, false, false, false, false, false, false, false, false, false]) rfl ?_
          refine st_take 0 rfl (by decide +kernel) (listed' := #[true, false, false, false, false, false, false, false, false, false, false, false, false, false, false, false, false, false, false, false, false, false, false, false, false, false]) rfl (by (intro _ h; (exact h))) (gv_move rfl rfl) ?_
          refine st_take 1 rfl (by decide +kernel) (listed' := #[true, true, false, false, false, false, false, false, false, false, false, false, false, false, false, false, false, false, false, false, false, false, false, false, false, false]) rfl (by (intro _ h; (exact h))) (gv_nilCheck rfl rfl) ?_
          refine st_take 2 rfl (by decide +kernel) (listed' := #[true, true, true, false, false, false, false, false, false, false, false, false, false, false, false, false, false, false, false, false, false, false, false, false, false, false]) rfl (by (intro _ h; (exact h))) (gv_fieldAddr fo_79_0 rfl rfl) ?_
          refine st_take 3 rfl (by decide +kernel) (listed' := #[true, true, true, true, false, false, false, false, false, false, false, false, false, false, false, false, false, false, false, false, false, false, false, false, false, false]) rfl (by (intro _ h; (exact h))) (gv_load1 Tryz.isAgg25 rfl rfl (by exact cin (i := 0) rfl rfl)) ?_
          refine st_take 4 rfl (by decide +kernel) (listed' := #[true, true, true, true, true, false, false, false, false, false, false, false, false, false, false, false, false, false, false, false, false, false, false, false, false, false]) rfl (by (intro _ h; (exact h))) (gv_fieldAddr fo_44_0 rfl rfl) ?_
          refine st_take 5 rfl (by decide +kernel) (listed' := #[true, true, true, true, true, true, false, false, false, false, false, false, false, false, false, false, false, false, false, false, false, false, false, false, false, false]) rfl (by (intro _ h; (exact h))) (gv_load1 Tryz.isAgg34 rfl rfl (by exact cin (i := 2) rfl rfl)) ?_
          refine st_take 7 rfl (by decide +kernel) (listed' := #[true, true, true, true, true, true, false, true, false, false, false, false, false, false, false, false, false, false, false, false, false, false, false, false, false, false]) rfl (by (intro _ h; (exact h))) (gv_fieldAddr fo_44_1 rfl rfl) ?_
          refine st_take 8 rfl (by decide +kernel) (listed' := #[true, true, true, true, true, true, false, true, true, false, false, false, false, false, false, false, false, false, false, false, false, false, false, false, false, false]) rfl (by (intro _ h; (exact h))) (gv_load1 Tryz.isAgg34 rfl rfl (by exact cin (i := 2) rfl rfl)) ?_
          refine st_take 9 rfl (by decide +kernel) (listed' := #[true, true, true, true, true, true, false, true, true, true, false, false, false, false, false, false, false, false, false, false, false, false, false, false, false, false]) rfl (by (intro _ h; (exact h))) (gv_conv_ok Tryz.underlying34 Tryz.underlying3 rfl rfl (inR_i64 (by omega) (by omega))) ?_
          refine st_take 10 rfl (by decide +kernel) (listed' := #[true, true, true, true, true, true, false, true, true, true, true, false, false, false, false, false, false, false, false, false, false, false, false, false, false, false]) rfl (by (intro _ h; (exact h))) (gv_move rfl rfl) ?_
          refine st_take 11 rfl (by decide +kernel) (listed' := #[true, true, true, true, true, true, false, true, true, true, true, true, false, false, false, false, false, false, false, false, false, false, false, false, false, false]) rfl (by (intro _ h; (exact h))) (gv_nilCheck rfl rfl) ?_
          refine st_take 12 rfl (by decide +kernel) (listed' := #[true, true, true, true, true, true, false, true, true, true, true, true, true, false, false, false, false, false, false, false, false, false, false, false, false, false]) rfl (by (intro _ h; (exact h))) (gv_fieldAddr fo_79_1 rfl rfl) ?_
          refine st_take 13 rfl (by decide +kernel) (listed' := #[true, true, true, true, true, true, false, true, true, true, true, true, true, true, false, false, false, false, false, false, false, false, false, false, false, false]) rfl (by (intro _ h; (exact h))) (gv_fieldAddr fo_38_1 rfl rfl) ?_
          refine st_take 14 rfl (by decide +kernel) (listed' := #[true, true, true, true, true, true, false, true, true, true, true, true, true, true, true, false, false, false, false, false, false, false, false, false, false, false]) rfl (by (intro _ h; (exact h))) (gv_load1 Tryz.isAgg34 rfl rfl (by exact cin (i := 0) rfl rfl)) ?_
          refine st_take 15 rfl (by decide +kernel) (listed' := #[true, true, true, true, true, true, false, true, true, true, true, true, true, true, true, true, false, false, false, false, false, false, false, false, false, false]) rfl (by (intro _ h; (exact h))) (gv_fieldAddr fo_44_1 rfl rfl) ?_
          refine st_take 16 rfl (by decide +kernel) (listed' := #[true, true, true, true, true, true, false, true, true, true, true, true, true, true, true, true, true, false, false, false, false, false, false, false, false, false]) rfl (by (intro _ h; (exact h))) (gv_load1 Tryz.isAgg34 rfl rfl (by exact cin (i := 2) rfl rfl)) ?_
          refine st_take 17 rfl (by decide +kernel) (listed' := #[true, true, true, true, true, true, false, true, true, true, true, true, true, true, true, true, true, true, false, false, false, false, false, false, false, false]) rfl (by (intro _ h; (exact h))) (gv_sub_ok rfl rfl rfl (inR_u32 (by omega) (by omega))) ?_
          refine st_take 18 rfl (by decide +kernel) (listed' := #[true, true, true, true, true, true, false, true, true, true, true, true, true, true, true, true, true, true, true, false, false, false, false, false, false, false]) rfl (by (intro _ h; (exact h))) (gv_conv_ok Tryz.underlying34 Tryz.underlying3 rfl rfl (inR_i64 (by omega) (by omega))) ?_
          refine st_take 19 rfl (by decide +kernel) (listed' := #[true, true, true, true, true, true, false, true, true, true, true, true, true, true, true, true, true, true, true, true, false, false, false, false, false, false]) rfl (by (intro _ h; (exact h))) (gv_minC (c := (readN size off : Int)) rfl rfl rfl (by unfold readN; omega)) ?_
          refine st_one 6 rfl (by decide +kernel) ?_
          refine s_call Tryz.call12 rfl (vs := [_]) rfl (RCs.perm (by (repeat ((exact List.Perm.refl _)))) (hn _)) ?_
          rintro v w ⟨rfl, hS⟩
          refine SXs_go hS ?_
          clear hS; clear w
          simp only [putF]
          refine st_next (listed' := #[true, true, true, true, true, true, true, true, true, true, true, true, true, true, true, true, true, true, true, true, false, false, false, false, false, false]) rfl (by intro _ _; (intro _ h; (exact h))) ?_
          refine st_one 20 rfl (by decide +kernel) ?_
          refine s_call Tryz.call35 rfl (vs := [_, _, _, _]) rfl (RCs.perm (by (repeat (first | exact List.Perm.refl _ | (apply pick 3; exact rfl)))) (fs_readAt (m := m) (at_ := off) (k := readN size off) hm hsz (by unfold readN; omega))) ?_
          rintro v w ⟨_, rfl, va60, vc60, rfl, hS⟩
          refine SXs_go hS ?_
          clear hS; clear w
          simp only [List.eraseIdx_cons_zero, List.eraseIdx_cons_succ, putF]
          refine st_next (listed' := #[true, true, true, true, true, true, true, true, true, true, true, true, true, true, true, true, true, true, true, true, true, false, false, false, false, false]) rfl (by intro _ _; (intro _ h; (exact h.sl (by (repeat (first | exact Sl.refl _ | (apply Sl.pick 1; exact rfl) | (apply Sl.pick 2; exact rfl) | refine Sl.skip ?_)))))) ?_
          refine st_take 21 rfl (by decide +kernel) (listed' := #[true, true, true, true, true, true, true, true, true, true, true, true, true, true, true, true, true, true, true, true, true, true, false, false, false, false]) rfl (by (intro _ h; (exact h.sl (by (repeat (first | exact Sl.refl _ | (apply Sl.pick 1; exact rfl) | (apply Sl.pick 2; exact rfl) | refine Sl.skip ?_)))))) (gv_move rfl rfl) ?_
          refine st_take 22 rfl (by decide +kernel) (listed' := #[true, true, true, true, true, true, true, true, true, true, true, true, true, true, true, true, true, true, true, true, true, true, true, false, false, false]) rfl (by (intro _ h; (exact h.sl (by (repeat (first | exact Sl.refl _ | (apply Sl.pick 1; exact rfl) | (apply Sl.pick 2; exact rfl) | refine Sl.skip ?_)))))) (gv_extract rfl rfl rfl) ?_
          refine st_take 23 rfl (by decide +kernel) (listed' := #[true, true, true, true, true, true, true, true, true, true, true, true, true, true, true, true, true, true, true, true, true, true, true, true, false, false]) rfl (by (intro _ h; (exact h.sl (by (repeat (first | exact Sl.refl _ | (apply Sl.pick 1; exact rfl) | (apply Sl.pick 2; exact rfl) | refine Sl.skip ?_)))))) (gv_extract rfl rfl rfl) ?_
          refine st_take 24 rfl (by decide +kernel) (listed' := #[true, true, true, true, true, true, true, true, true, true, true, true, true, true, true, true, true, true, true, true, true, true, true, true, true, false]) rfl (by (intro _ h; (exact h.sl (by (repeat (first | exact Sl.refl _ | (apply Sl.pick 1; exact rfl) | (apply Sl.pick 2; exact rfl) | refine Sl.skip ?_)))))) (gv_assign rfl rfl) ?_
          refine st_take 25 rfl (by decide +kernel) (listed' := #[true, true, true, true, true, true, true, true, true, true, true, true, true, true, true, true, true, true, true, true, true, true, true, true, true, true]) rfl (by (intro _ h; (exact h.sl (by (repeat (first | exact Sl.refl _ | (apply Sl.pick 1; exact rfl) | (apply Sl.pick 2; exact rfl) | refine Sl.skip ?_)))))) (gv_assign rfl rfl) ?_
          refine st_doneK (fr' := [(4, _), (6, _), (7, _)]) (by decide +kernel) rfl ?_
          refine KSs_wp ?_
          refine WPs_seq ?_
          refine WPs_seq ?_
          refine WPs_regionK [4, 6, 7, 63] ?_
          refine s_move rfl rfl ?_
          refine SXs_nilK (fr' := [(4, _), (6, _), (7, _), (63, _)]) rfl ?_
          refine KSs_wp ?_
          refine WPs_block ?_
          refine WPs_seq ?_
          refine WPs_regionK [4, 6, 7, 63, 66] ?_
          refine s_eql rfl rfl rfl ?_
          refine s_assign rfl rfl ?_
          refine SXs_nilK (fr' := [(4, _), (6, _), (7, _), (63, _), (66, _)]) rfl ?_
          refine KSs_wp ?_
          refine WPs_cond rfl (fun hc18 => ?_) (fun hc18 => ?_)
          · simp only [decide_eq_true_eq] at hc18
            refine WPs_skip ?_
            refine KSs_wp ?_
            refine WPs_seq ?_
            refine WPs_regionK [4, 7, 8] ?_
            refine SXs_rd (T := 5) 0 rfl (fun hRb => ?_)
            refine s_move rfl rfl ?_
            refine s_call Tryz.call36 rfl (vs := [_]) rfl (RCs.perm (by (repeat ((exact List.Perm.refl _)))) (hbad _ _ hRb)) ?_
            rintro v w ⟨szz, ee, rfl, hee, hS⟩
            refine SXs_go hS ?_
            clear hS; clear w
            simp only [putF]
            refine s_move rfl rfl ?_
            refine s_extract rfl rfl rfl ?_
            refine s_extract rfl rfl rfl ?_
            refine s_extract rfl rfl rfl ?_
            refine s_alloc Tryz.zeroValue46 (cl := [_, _, _, _, _, _]) rfl rfl (fun b8 => ?_)
            refine s_store (i := 0) Tryz.sizeOf46 rfl rfl rfl (vs := [_, _, _, _, _, _]) rfl rfl rfl rfl ?_
            simp only [List.set_cons_zero, List.set_cons_succ, spl]
            refine s_assign rfl rfl ?_
            refine s_assign rfl rfl ?_
            refine SXs_nilK (fr' := [(4, _), (7, _), (8, _)]) rfl ?_
            refine KSs_wp ?_
            refine WPs_seq ?_
            refine WPs_seq ?_
            refine WPs_regionK [4, 8, 78] ?_
            refine s_move rfl rfl ?_
            refine s_neq rfl rfl rfl ?_
            refine SXs_nilK (fr' := [(4, _), (8, _), (78, _)]) rfl ?_
            refine KSs_wp ?_
            refine WPs_cond rfl (fun hc19 => ?_) (fun hc19 => ?_)
            · simp only [decide_eq_false_iff_not, Bool.not_eq_true'] at hc19
              refine WPs_seq ?_
              refine WPs_regionK [4, 5] ?_
              refine s_build (vs := []) (cs := [_, _, _, _, _, _]) rfl rfl (build_46_) ?_
              refine s_store (i := 4) Tryz.sizeOf46 rfl rfl rfl (vs := [_, _, _, _, _, _]) rfl rfl rfl rfl ?_
              simp only [List.set_cons_zero, List.set_cons_succ, spl]
              refine s_assign rfl rfl ?_
              refine SXs_nilK (fr' := [(4, _), (5, _)]) rfl ?_
              refine KSs_wp ?_
              refine WPs_ret ?_
              refine RLs_start ?_
              refine RLs_cellN Tryz.isAgg46 Tryz.sizeOf46 (cs := [_, _, _, _, _, _]) rfl (by exact csin (i := 4) (k := 6) rfl rfl) rfl ?_
              refine RLs_tmp rfl ?_
              refine RLs_fin2 ?_
              exact fun w hS => ⟨rfl, hS.sl (by (repeat (first | exact Sl.refl _ | (apply Sl.pick 2; exact rfl) | (apply Sl.pick 3; exact rfl) | refine Sl.skip ?_)))⟩
            · (exfalso; (simp only [decide_eq_true_eq, Bool.not_eq_false'] at hc19; omega))
          · (exfalso; (cases hc18; done))
end Go.Proofs.YthodbnmeggkkoaaGreatDoor
/-
  Package seg: Create, on a file system without a file.
-/
namespace Go.Proofs.YthodbnmeggkkoaaGreatDoor
open Go Go.RowKit Go.Hb Go.Proofs

abbrev ptF (a f : Nat) : HP := pt a (.cells [.pointer (some ⟨f, 0, none⟩)].toArray 25 (0, 0))
abbrev ptS (a : Nat) (nm : ByteArray) : HP := pt a (.cells [.string nm].toArray 9 (0, 0))
abbrev ptB (a : Nat) (v : Value) : HP := pt a (.cells [v].toArray 42 (0, 0))

theorem create1 {g : World} {F : List HP} {a b f : Nat} {q : Int} {nm : ByteArray} (hm : MayOk nm) :
    RCs Tryz.prog 63 [.pointer (some ⟨a, 0, none⟩), .pointer (some ⟨b, 0, none⟩)] g (Fs0 f q :: ptF a f :: ptS b nm :: F)
      (fun u w => u = .int .i64 0 ∧ St g w (FsR false f nm q ⟨[], [], []⟩ :: ptF a f :: ptS b nm :: F)) := by
  refine RCs_of_WPs Tryz.func63 rfl Tryz.ntmps63 rfl Tryz.results63 ?_
  refine WPs_seq ?_
  refine WPs_regionK [0, 1] ?_
  refine s_assign rfl rfl ?_
  refine SXs_nilK (fr' := [(0, _), (1, _)]) rfl ?_
  refine KSs_wp ?_
  refine WPs_seq ?_
  refine WPs_regionK [2] ?_
  refine s_load1 Tryz.isAgg25 rfl rfl (by exact cin (i := 1) rfl rfl) ?_
  refine s_load1 Tryz.isAgg9 rfl rfl (by exact cin (i := 2) rfl rfl) ?_
  refine s_call Tryz.call64 rfl (vs := [_, _]) rfl (RCs.perm (by (repeat ((exact List.Perm.refl _)))) (fs_create hm)) ?_
  rintro v w ⟨rfl, hS⟩
  refine SXs_go hS ?_
  clear hS; clear w
  simp only [putF]
  refine s_assign rfl rfl ?_
  refine SXs_nilK (fr' := [(2, _)]) rfl ?_
  refine KSs_wp ?_
  refine WPs_ret ?_
  refine RLs_start ?_
  refine RLs_tmp rfl ?_
  refine RLs_fin1 ?_
  exact fun w hS => ⟨rfl, hS.sl (by (repeat ((exact Sl.refl _))))⟩
theorem create2 {g : World} {F : List HP} {a b c f : Nat} {q : Int} {nm : ByteArray} {va : Option Addr} {vc : Nat} {bs : List UInt8} (hm : MayOk nm) (h0 : 0 < bs.length) (hq : (bs.length : Int) ≤ q) (hq2 : q ≤ 1073741824) :
    RCs Tryz.prog 65 [.pointer (some ⟨a, 0, none⟩), .pointer (some ⟨b, 0, none⟩), .pointer (some ⟨c, 0, none⟩)] g (FsR false f nm q ⟨[], [], []⟩ :: ptF a f :: ptS b nm :: ptB c (.slice va bs.length vc) :: ownB (.slice va bs.length vc) bs :: F)
      (fun u w => u = .int .i64 0 ∧ St g w (FsR false f nm q ⟨[], bs, [.add bs]⟩ :: ptF a f :: ptS b nm :: ptB c (.slice va bs.length vc) :: ownB (.slice va bs.length vc) bs :: F)) := by
  refine RCs_of_WPs Tryz.func65 rfl Tryz.ntmps65 rfl Tryz.results65 ?_
  refine WPs_seq ?_
  refine WPs_regionK [0, 1, 2] ?_
  refine s_assign rfl rfl ?_
  refine SXs_nilK (fr' := [(0, _), (1, _), (2, _)]) rfl ?_
  refine KSs_wp ?_
  refine WPs_seq ?_
  refine WPs_regionK [3] ?_
  refine s_load1 Tryz.isAgg25 rfl rfl (by exact cin (i := 1) rfl rfl) ?_
  refine s_load1 Tryz.isAgg9 rfl rfl (by exact cin (i := 2) rfl rfl) ?_
  refine s_load1 Tryz.isAgg42 rfl rfl (by exact cin (i := 3) rfl rfl) ?_
  refine SXs_rdSub (ptF a f :: ptS b nm :: ptB c (.slice va bs.length vc) :: ownB (.slice va bs.length vc) bs :: F) 3 (fun w hw => hw.sl (by (repeat (first | exact Sl.refl _ | (apply Sl.pick 1; exact rfl) | refine Sl.skip ?_)))) rfl (fun hRb => ?_)
  refine s_call Tryz.call43 rfl (vs := [_, _, _]) rfl (RCs.perm (by (repeat ((exact List.Perm.refl _)))) (fs_append (m := ⟨[], [], []⟩) hm hRb h0 (by simpa using hq) hq2 (by simp))) ?_
  rintro v w ⟨rfl, hS⟩
  refine SXs_go hS ?_
  clear hS; clear w
  simp only [putF, List.nil_append]
  refine s_assign rfl rfl ?_
  refine SXs_nilK (fr' := [(3, _)]) rfl ?_
  refine KSs_wp ?_
  refine WPs_ret ?_
  refine RLs_start ?_
  refine RLs_tmp rfl ?_
  refine RLs_fin1 ?_
  exact fun w hS => ⟨rfl, hS.sl (by (repeat ((exact Sl.refl _))))⟩
theorem create3 {g : World} {F : List HP} {a b f : Nat} {q : Int} {nm : ByteArray} {m : FileM} (hm : MayOk nm) (hsz : m.now.length ≤ 70368744177664) :
    RCs Tryz.prog 66 [.pointer (some ⟨a, 0, none⟩), .pointer (some ⟨b, 0, none⟩)] g (FsR false f nm q m :: ptF a f :: ptS b nm :: F)
      (fun u w => u = .int .i64 0 ∧ St g w (FsR false f nm q ⟨m.now, m.now, []⟩ :: ptF a f :: ptS b nm :: F)) := by
  refine RCs_of_WPs Tryz.func66 rfl Tryz.ntmps66 rfl Tryz.results66 ?_
  refine WPs_seq ?_
  refine WPs_regionK [0, 1] ?_
  refine s_assign rfl rfl ?_
  refine SXs_nilK (fr' := [(0, _), (1, _)]) rfl ?_
  refine KSs_wp ?_
  refine WPs_seq ?_
  refine WPs_regionK [2] ?_
  refine s_load1 Tryz.isAgg25 rfl rfl (by exact cin (i := 1) rfl rfl) ?_
  refine s_load1 Tryz.isAgg9 rfl rfl (by exact cin (i := 2) rfl rfl) ?_
  refine s_call Tryz.call29 rfl (vs := [_, _]) rfl (RCs.perm (by (repeat ((exact List.Perm.refl _)))) (fs_sync (m := m) hm hsz)) ?_
  rintro v w ⟨rfl, hS⟩
  refine SXs_go hS ?_
  clear hS; clear w
  simp only [putF]
  refine s_assign rfl rfl ?_
  refine SXs_nilK (fr' := [(2, _)]) rfl ?_
  refine KSs_wp ?_
  refine WPs_ret ?_
  refine RLs_start ?_
  refine RLs_tmp rfl ?_
  refine RLs_fin1 ?_
  exact fun w hS => ⟨rfl, hS.sl (by (repeat ((exact Sl.refl _))))⟩
theorem create4 {g : World} {F : List HP} {a f : Nat} {q : Int} {nm : ByteArray} {m : FileM} :
    RCs Tryz.prog 67 [.pointer (some ⟨a, 0, none⟩)] g (FsR false f nm q m :: ptF a f :: F)
      (fun u w => u = .int .i64 0 ∧ St g w (FsR true f nm q m :: ptF a f :: F)) := by
  refine RCs_of_WPs Tryz.func67 rfl Tryz.ntmps67 rfl Tryz.results67 ?_
  refine WPs_seq ?_
  refine WPs_regionK [0] ?_
  refine s_assign rfl rfl ?_
  refine SXs_nilK (fr' := [(0, _)]) rfl ?_
  refine KSs_wp ?_
  refine WPs_seq ?_
  refine WPs_regionK [1] ?_
  refine s_load1 Tryz.isAgg25 rfl rfl (by exact cin (i := 1) rfl rfl) ?_
  refine s_call Tryz.call68 rfl (vs := [_]) rfl (RCs.perm (by (repeat ((exact List.Perm.refl _)))) (fs_syncdir (m := m))) ?_
  rintro v w ⟨rfl, hS⟩
  refine SXs_go hS ?_
  clear hS; clear w
  simp only [putF]
  refine s_assign rfl rfl ?_
  refine SXs_nilK (fr' := [(1, _)]) rfl ?_
  refine KSs_wp ?_
  refine WPs_ret ?_
  refine RLs_start ?_
  refine RLs_tmp rfl ?_
  refine RLs_fin1 ?_
  exact fun w hS => ⟨rfl, hS.sl (by (repeat ((exact Sl.refl _))))⟩

set_option maxHeartbeats 4000000 in
theorem seg_create {g : World} {F : List HP} {f id : Nat} {q : Int} {nm : ByteArray} (hH : HalfG g) (hn : NameOk g id nm) (hm : MayOk nm) (h1 : 1 ≤ id) (h2 : id ≤ 16777215) (hq : 16 ≤ q) (hq2 : q ≤ 1073741824) :
    RCs Tryz.prog 27 [.pointer (some ⟨f, 0, none⟩), .int .u32 (id : Int)] g (Fs0 f q :: F)
      (fun u w => ∃ x, u = .tuple #[.pointer (some ⟨x, 0, none⟩), .int .i64 0] ∧ St g w (segP x f id 16 0 0 0 0 :: FsR true f nm q ⟨headOf 1 id, headOf 1 id, []⟩ :: F)) := by
  have hhl := headOf_length 1 id
  have hmay : mayH 1 id := .inr ⟨rfl, h1, h2⟩
  refine RCs_of_WPs Tryz.func27 rfl Tryz.ntmps27 rfl Tryz.results27 ?_
  refine WPs_seq ?_
  refine WPs_regionK [1, 2] ?_
  refine s_box (cl := [_]) rfl rfl rfl (fun b2 => ?_)
  refine s_assign rfl rfl ?_
  refine s_assign rfl rfl ?_
  refine SXs_nilK (fr' := [(1, _), (2, _)]) rfl ?_
  refine KSs_wp ?_
  refine WPs_seq ?_
  refine WPs_seq ?_
  refine WPs_regionK [1, 2, 6] ?_
  refine s_load1 Tryz.isAgg25 rfl rfl (by exact cin (i := 0) rfl rfl) ?_
  refine s_move rfl rfl ?_
  refine s_call Tryz.call38 rfl (vs := [_, _]) rfl (RCs.perm (by (repeat ((exact List.Perm.refl _)))) (seg_asks h1 h2)) ?_
  rintro v w ⟨rfl, hS⟩
  refine SXs_go hS ?_
  clear hS; clear w
  simp only [putF]
  refine s_assign rfl rfl ?_
  refine SXs_nilK (fr' := [(1, _), (2, _), (6, _)]) rfl ?_
  refine KSs_wp ?_
  refine WPs_seq ?_
  refine WPs_regionK [1, 2, 6, 18] ?_
  refine s_move rfl rfl ?_
  refine c_neq false rfl rfl rfl (by kernel_rfl) ?_
  refine SXs_nilK (fr' := [(1, _), (2, _), (6, _), (18, _)]) rfl ?_
  refine KSs_wp ?_
  refine WPs_condF rfl ?_
  refine WPs_skip ?_
  refine KSs_wp ?_
  refine WPs_seq ?_
  refine WPs_regionK [1, 2, 7] ?_
  refine s_move rfl rfl ?_
  refine s_call Tryz.call12 rfl (vs := [_]) rfl (RCs.perm (by (repeat ((exact List.Perm.refl _)))) (hn _)) ?_
  rintro v w ⟨rfl, hS⟩
  refine SXs_go hS ?_
  clear hS; clear w
  simp only [putF]
  refine s_alloc Tryz.zeroValue9 (cl := [_]) rfl rfl (fun b7 => ?_)
  refine s_store (i := 0) Tryz.sizeOf9 rfl rfl rfl (vs := [_]) rfl rfl rfl rfl ?_
  simp only [List.set_cons_zero, spl]
  refine SXs_nilK (fr' := [(1, _), (2, _), (7, _)]) rfl ?_
  refine KSs_wp ?_
  refine WPs_seq ?_
  refine WPs_regionK [1, 2, 7, 8] ?_
  refine s_move rfl rfl ?_
  refine s_call Tryz.call62 rfl (vs := [_, _]) rfl (RCs.perm (by (repeat ((exact List.Perm.refl _)))) (head_put (kind := 1) (id := id) hH hmay)) ?_
  rintro v w ⟨_, rfl, va24, vc24, rfl, hS⟩
  refine SXs_go hS ?_
  clear hS; clear w
  simp only [putF]
  refine s_move rfl rfl ?_
  refine s_extract rfl rfl rfl ?_
  refine s_extract rfl rfl rfl ?_
  refine s_alloc Tryz.zeroValue42 (cl := [_]) rfl rfl (fun b8 => ?_)
  refine s_store (i := 0) Tryz.sizeOf42 rfl rfl rfl (vs := [_]) rfl rfl rfl rfl ?_
  simp only [List.set_cons_zero, spl]
  refine s_assign rfl rfl ?_
  refine SXs_nilK (fr' := [(1, _), (2, _), (7, _), (8, _)]) rfl ?_
  refine KSs_wp ?_
  refine WPs_seq ?_
  refine WPs_regionK [1, 2, 7, 10] ?_
  refine s_makeFunc (fs := []) (cs := [_, _]) rfl rfl rfl ?_
  refine s_makeFunc (fs := []) (cs := [_, _, _]) rfl rfl rfl ?_
  refine s_makeFunc (fs := []) (cs := [_, _]) rfl rfl rfl ?_
  refine s_makeFunc (fs := []) (cs := [_]) rfl rfl rfl ?_
  refine s_build (vs := [(0, _), (1, _), (2, _), (3, _)]) (cs := [_, _, _, _]) rfl rfl (build_121_0_1_2_3 rfl rfl rfl rfl) ?_
  refine s_alloc Tryz.zeroValue121 (cl := [_, _, _, _]) rfl rfl (fun b10 => ?_)
  refine s_store (i := 0) Tryz.sizeOf121 rfl rfl rfl (vs := [_, _, _, _]) rfl rfl rfl rfl ?_
  simp only [List.set_cons_zero, List.set_cons_succ, spl]
  refine SXs_nilK (fr' := [(1, _), (2, _), (7, _), (10, _)]) rfl ?_
  refine KSs_wp ?_
  refine WPs_seq ?_
  refine WPs_seq ?_
  refine WPs_regionK [1, 2, 7, 32, 33] ?_
  refine s_loadN Tryz.isAgg121 Tryz.sizeOf121 (vs := [_, _, _, _]) rfl rfl (by exact csin (i := 0) (k := 4) rfl rfl) rfl ?_
  refine s_move rfl rfl ?_
  refine SXs_nilK (fr' := [(1, _), (2, _), (7, _), (32, _), (33, _)]) rfl ?_
  refine KSs_wp ?_
  refine WPs_block ?_
  refine WPs_unroll 4 ?_
  refine WPs_seq ?_
  refine WPs_regionK [1, 2, 7, 32, 33, 34] ?_
  refine c_lss true rfl rfl rfl (by kernel_rfl) ?_
  refine SXs_nilK (fr' := [(1, _), (2, _), (7, _), (32, _), (33, _), (34, _)]) rfl ?_
  refine KSs_wp ?_
  refine WPs_seq ?_
  refine WPs_condT rfl ?_
  refine WPs_skip ?_
  refine KSs_wp ?_
  refine WPs_seq ?_
  refine WPs_block ?_
  refine WPs_seq ?_
  refine WPs_regionK [1, 2, 7, 11, 12, 32, 33] ?_
  refine s_move rfl rfl ?_
  refine s_index Tryz.underlying121 Tryz.isAgg35 Tryz.sizeOf35 rfl rfl rfl (by omega) (by omega) rfl ?_
  refine s_assign rfl rfl ?_
  refine s_assign rfl rfl ?_
  refine SXs_nilK (fr' := [(1, _), (2, _), (7, _), (11, _), (12, _), (32, _), (33, _)]) rfl ?_
  refine KSs_wp ?_
  refine WPs_seq ?_
  refine WPs_regionK [1, 2, 7, 11, 13, 32, 33] ?_
  refine s_move rfl rfl ?_
  refine s_callV (vs := []) Tryz.call63 rfl rfl rfl rfl (RCs.perm (by (repeat (first | exact List.Perm.refl _ | (apply pick 3; exact rfl) | (apply pick 4; exact rfl) | (apply pick 5; exact rfl)))) (create1 hm)) ?_
  rintro v w ⟨rfl, hS⟩
  refine SXs_go hS ?_
  clear hS; clear w
  simp only [List.eraseIdx_cons_zero, List.eraseIdx_cons_succ, putF]
  refine s_assign rfl rfl ?_
  refine SXs_nilK (fr' := [(1, _), (2, _), (7, _), (11, _), (13, _), (32, _), (33, _)]) rfl ?_
  refine KSs_wp ?_
  refine WPs_seq ?_
  refine WPs_seq ?_
  refine WPs_regionK [1, 2, 7, 13, 32, 33, 44] ?_
  refine s_move rfl rfl ?_
  refine c_neq false rfl rfl rfl (by kernel_rfl) ?_
  refine s_move rfl rfl ?_
  refine s_guard_f rfl rfl (by ((rfl))) rfl ?_
  refine s_guard_f rfl rfl (by ((rfl))) rfl ?_
  refine s_pick_f rfl rfl rfl ?_
  refine SXs_nilK (fr' := [(1, _), (2, _), (7, _), (13, _), (32, _), (33, _), (44, _)]) rfl ?_
  refine KSs_wp ?_
  refine WPs_condF rfl ?_
  refine WPs_skip ?_
  refine KSs_wp ?_
  refine WPs_seq ?_
  refine WPs_regionK [1, 2, 7, 13, 32, 33, 49] ?_
  refine s_move rfl rfl ?_
  refine c_neq false rfl rfl rfl (by kernel_rfl) ?_
  refine SXs_nilK (fr' := [(1, _), (2, _), (7, _), (13, _), (32, _), (33, _), (49, _)]) rfl ?_
  refine KSs_wp ?_
  refine WPs_condF rfl ?_
  refine WPs_skip ?_
  refine KSs_wp ?_
  refine WPs_regionK [1, 2, 7, 32, 33] ?_
  refine s_add' (c := 1) rfl rfl rfl (by kernel_rfl) ?_
  refine s_move rfl rfl ?_
  refine SXs_nilK (fr' := [(1, _), (2, _), (7, _), (32, _), (33, _)]) rfl ?_
  refine KSs_unroll (N := 3) ?_
  refine WPs_seq ?_
  refine WPs_regionK [1, 2, 7, 32, 33, 34] ?_
  refine c_lss true rfl rfl rfl (by kernel_rfl) ?_
  refine SXs_nilK (fr' := [(1, _), (2, _), (7, _), (32, _), (33, _), (34, _)]) rfl ?_
  refine KSs_wp ?_
  refine WPs_seq ?_
  refine WPs_condT rfl ?_
  refine WPs_skip ?_
  refine KSs_wp ?_
  refine WPs_seq ?_
  refine WPs_block ?_
  refine WPs_seq ?_
  refine WPs_regionK [1, 2, 7, 11, 12, 32, 33] ?_
  refine s_move rfl rfl ?_
  refine s_index Tryz.underlying121 Tryz.isAgg35 Tryz.sizeOf35 rfl rfl rfl (by omega) (by omega) rfl ?_
  refine s_assign rfl rfl ?_
  refine s_assign rfl rfl ?_
  refine SXs_nilK (fr' := [(1, _), (2, _), (7, _), (11, _), (12, _), (32, _), (33, _)]) rfl ?_
  refine KSs_wp ?_
  refine WPs_seq ?_
  refine WPs_regionK [1, 2, 7, 11, 13, 32, 33] ?_
  refine s_move rfl rfl ?_
  refine s_callV (vs := []) Tryz.call65 rfl rfl rfl rfl (RCs.perm (by (repeat (first | exact List.Perm.refl _ | (apply pick 0; exact rfl) | (apply pick 1; exact rfl)))) (create2 (bs := headOf 1 id) hm (by omega) (by omega) hq2)) ?_
  rintro v w ⟨rfl, hS⟩
  refine SXs_go hS ?_
  clear hS; clear w
  simp only [List.eraseIdx_cons_zero, List.eraseIdx_cons_succ, putF]
  refine s_assign rfl rfl ?_
  refine SXs_nilK (fr' := [(1, _), (2, _), (7, _), (11, _), (13, _), (32, _), (33, _)]) rfl ?_
  refine KSs_wp ?_
  refine WPs_seq ?_
  refine WPs_seq ?_
  refine WPs_regionK [1, 2, 7, 13, 32, 33, 44] ?_
  refine s_move rfl rfl ?_
  refine c_neq false rfl rfl rfl (by kernel_rfl) ?_
  refine s_move rfl rfl ?_
  refine s_guard_f rfl rfl (by ((rfl))) rfl ?_
  refine s_guard_f rfl rfl (by ((rfl))) rfl ?_
  refine s_pick_f rfl rfl rfl ?_
  refine SXs_nilK (fr' := [(1, _), (2, _), (7, _), (13, _), (32, _), (33, _), (44, _)]) rfl ?_
  refine KSs_wp ?_
  refine WPs_condF rfl ?_
  refine WPs_skip ?_
  refine KSs_wp ?_
  refine WPs_seq ?_
  refine WPs_regionK [1, 2, 7, 13, 32, 33, 49] ?_
  refine s_move rfl rfl ?_
  refine c_neq false rfl rfl rfl (by kernel_rfl) ?_
  refine SXs_nilK (fr' := [(1, _), (2, _), (7, _), (13, _), (32, _), (33, _), (49, _)]) rfl ?_
  refine KSs_wp ?_
  refine WPs_condF rfl ?_
  refine WPs_skip ?_
  refine KSs_wp ?_
  refine WPs_regionK [1, 2, 7, 32, 33] ?_
  refine s_add' (c := 2) rfl rfl rfl (by kernel_rfl) ?_
  refine s_move rfl rfl ?_
  refine SXs_nilK (fr' := [(1, _), (2, _), (7, _), (32, _), (33, _)]) rfl ?_
  refine KSs_unroll (N := 2) ?_
  refine WPs_seq ?_
  refine WPs_regionK [1, 2, 7, 32, 33, 34] ?_
  refine c_lss true rfl rfl rfl (by kernel_rfl) ?_
  refine SXs_nilK (fr' := [(1, _), (2, _), (7, _), (32, _), (33, _), (34, _)]) rfl ?_
  refine KSs_wp ?_
  refine WPs_seq ?_
  refine WPs_condT rfl ?_
  refine WPs_skip ?_
  refine KSs_wp ?_
  refine WPs_seq ?_
  refine WPs_block ?_
  refine WPs_seq ?_
  refine WPs_regionK [1, 2, 7, 11, 12, 32, 33] ?_
  refine s_move rfl rfl ?_
  refine s_index Tryz.underlying121 Tryz.isAgg35 Tryz.sizeOf35 rfl rfl rfl (by omega) (by omega) rfl ?_
  refine s_assign rfl rfl ?_
  refine s_assign rfl rfl ?_
  refine SXs_nilK (fr' := [(1, _), (2, _), (7, _), (11, _), (12, _), (32, _), (33, _)]) rfl ?_
  refine KSs_wp ?_
  refine WPs_seq ?_
  refine WPs_regionK [1, 2, 7, 11, 13, 32, 33] ?_
  refine s_move rfl rfl ?_
  refine s_callV (vs := []) Tryz.call66 rfl rfl rfl rfl (RCs.perm (by (repeat ((exact List.Perm.refl _)))) (create3 hm (by simp [hhl]))) ?_
  rintro v w ⟨rfl, hS⟩
  refine SXs_go hS ?_
  clear hS; clear w
  simp only [putF]
  refine s_assign rfl rfl ?_
  refine SXs_nilK (fr' := [(1, _), (2, _), (7, _), (11, _), (13, _), (32, _), (33, _)]) rfl ?_
  refine KSs_wp ?_
  refine WPs_seq ?_
  refine WPs_seq ?_
  refine WPs_regionK [1, 2, 7, 13, 32, 33, 44] ?_
  refine s_move rfl rfl ?_
  refine c_neq false rfl rfl rfl (by kernel_rfl) ?_
  refine s_move rfl rfl ?_
  refine s_guard_f rfl rfl (by ((rfl))) rfl ?_
  refine s_guard_f rfl rfl (by ((rfl))) rfl ?_
  refine s_pick_f rfl rfl rfl ?_
  refine SXs_nilK (fr' := [(1, _), (2, _), (7, _), (13, _), (32, _), (33, _), (44, _)]) rfl ?_
  refine KSs_wp ?_
  refine WPs_condF rfl ?_
  refine WPs_skip ?_
  refine KSs_wp ?_
  refine WPs_seq ?_
  refine WPs_regionK [1, 2, 7, 13, 32, 33, 49] ?_
  refine s_move rfl rfl ?_
  refine c_neq false rfl rfl rfl (by kernel_rfl) ?_
  refine SXs_nilK (fr' := [(1, _), (2, _), (7, _), (13, _), (32, _), (33, _), (49, _)]) rfl ?_
  refine KSs_wp ?_
  refine WPs_condF rfl ?_
  refine WPs_skip ?_
  refine KSs_wp ?_
  refine WPs_regionK [1, 2, 7, 32, 33] ?_
  refine s_add' (c := 3) rfl rfl rfl (by kernel_rfl) ?_
  refine s_move rfl rfl ?_
  refine SXs_nilK (fr' := [(1, _), (2, _), (7, _), (32, _), (33, _)]) rfl ?_
  refine KSs_unroll (N := 1) ?_
  refine WPs_seq ?_
  refine WPs_regionK [1, 2, 7, 32, 33, 34] ?_
  refine c_lss true rfl rfl rfl (by kernel_rfl) ?_
  refine SXs_nilK (fr' := [(1, _), (2, _), (7, _), (32, _), (33, _), (34, _)]) rfl ?_
  refine KSs_wp ?_
  refine WPs_seq ?_
  refine WPs_condT rfl ?_
  refine WPs_skip ?_
  refine KSs_wp ?_
  refine WPs_seq ?_
  refine WPs_block ?_
  refine WPs_seq ?_
  refine WPs_regionK [1, 2, 7, 11, 12, 32, 33] ?_
  refine s_move rfl rfl ?_
  refine s_index Tryz.underlying121 Tryz.isAgg35 Tryz.sizeOf35 rfl rfl rfl (by omega) (by omega) rfl ?_
  refine s_assign rfl rfl ?_
  refine s_assign rfl rfl ?_
  refine SXs_nilK (fr' := [(1, _), (2, _), (7, _), (11, _), (12, _), (32, _), (33, _)]) rfl ?_
  refine KSs_wp ?_
  refine WPs_seq ?_
  refine WPs_regionK [1, 2, 7, 11, 13, 32, 33] ?_
  refine s_move rfl rfl ?_
  refine s_callV (vs := []) Tryz.call67 rfl rfl rfl rfl (RCs.perm (by (repeat ((exact List.Perm.refl _)))) (create4)) ?_
  rintro v w ⟨rfl, hS⟩
  refine SXs_go hS ?_
  clear hS; clear w
  simp only [putF]
  refine s_assign rfl rfl ?_
  refine SXs_nilK (fr' := [(1, _), (2, _), (7, _), (11, _), (13, _), (32, _), (33, _)]) rfl ?_
  refine KSs_wp ?_
  refine WPs_seq ?_
  refine WPs_seq ?_
  refine WPs_regionK [1, 2, 7, 13, 32, 33, 44] ?_
  refine s_move rfl rfl ?_
  refine c_neq false rfl rfl rfl (by kernel_rfl) ?_
  refine s_move rfl rfl ?_
  refine s_guard_f rfl rfl (by ((rfl))) rfl ?_
  refine s_guard_f rfl rfl (by ((rfl))) rfl ?_
  refine s_pick_f rfl rfl rfl ?_
  refine SXs_nilK (fr' := [(1, _), (2, _), (7, _), (13, _), (32, _), (33, _), (44, _)]) rfl ?_
  refine KSs_wp ?_
  refine WPs_condF rfl ?_
  refine WPs_skip ?_
  refine KSs_wp ?_
  refine WPs_seq ?_
  refine WPs_regionK [1, 2, 7, 13, 32, 33, 49] ?_
  refine s_move rfl rfl ?_
  refine c_neq false rfl rfl rfl (by kernel_rfl) ?_
  refine SXs_nilK (fr' := [(1, _), (2, _), (7, _), (13, _), (32, _), (33, _), (49, _)]) rfl ?_
  refine KSs_wp ?_
  refine WPs_condF rfl ?_
  refine WPs_skip ?_
  refine KSs_wp ?_
  refine WPs_regionK [1, 2, 7, 32, 33] ?_
  refine s_add' (c := 4) rfl rfl rfl (by kernel_rfl) ?_
  refine s_move rfl rfl ?_
  refine SXs_nilK (fr' := [(1, _), (2, _), (7, _), (32, _), (33, _)]) rfl ?_
  refine KSs_unroll (N := 0) ?_
  refine WPs_seq ?_
  refine WPs_regionK [1, 2, 7, 32, 33, 34] ?_
  refine c_lss false rfl rfl rfl (by kernel_rfl) ?_
  refine SXs_nilK (fr' := [(1, _), (2, _), (7, _), (32, _), (33, _), (34, _)]) rfl ?_
  refine KSs_wp ?_
  refine WPs_seq ?_
  refine WPs_condF rfl ?_
  refine WPs_exit rfl ?_
  refine KSs_wp ?_
  refine WPs_seq ?_
  refine WPs_regionK [4, 5] ?_
  refine s_load1 Tryz.isAgg25 rfl rfl (by exact cin (i := 1) rfl rfl) ?_
  refine s_move rfl rfl ?_
  refine s_build (vs := [(0, _), (1, _)]) (cs := [_, _, _, _, _]) rfl rfl (build_38_0_1 rfl rfl) ?_
  refine s_build (vs := [(0, _), (1, _)]) (cs := [_, _, _, _, _, _, _]) rfl rfl (build_79_0_1 rfl) ?_
  refine s_box (cl := [_, _, _, _, _, _, _]) rfl rfl rfl (fun b56 => ?_)
  refine s_assign rfl rfl ?_
  refine s_assign rfl rfl ?_
  refine SXs_nilK (fr' := [(4, _), (5, _)]) rfl ?_
  refine KSs_wp ?_
  refine WPs_ret ?_
  refine RLs_start ?_
  refine RLs_tmp rfl ?_
  refine RLs_tmp rfl ?_
  refine RLs_fin2 ?_
  exact fun w hS => ⟨_, rfl, hS.sl (by (repeat (first | exact Sl.refl _ | (apply Sl.pick 0; exact rfl) | refine Sl.skip ?_)))⟩
end Go.Proofs.YthodbnmeggkkoaaGreatDoor
