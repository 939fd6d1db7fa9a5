/-
  Part 3 of the texts that the claim leans on: D2 D3 D4 D5 D6 D7 D8 D9 D10 D11 F1.
-/
import Derived.Test.YthodbnmeggkkoaaGreatDoorM2
import Derived.ChangeKeysEq
import Derived.Laws.StructEq
/-
  Package crc: the sum, as the code reckons it.
-/
namespace Go.Proofs.YthodbnmeggkkoaaGreatDoor
open Go Go.RowKit Go.Hb Go.Proofs

def half : List Nat := [0, 274646895, 549293790, 820201905, 1098587580, 1361435347, 1640403810, 1905808397, 2197175160, 2460548119, 2722870694, 2987750089, 3280807620, 3553878443, 3811616794, 4084100981]
def crT (s : Nat) : Nat := (s >>> 4) ^^^ half.getD (s &&& 15) 0
def crB (s c : Nat) : Nat := crT (crT (s ^^^ c))
def crM (s : Nat) (bs : List UInt8) : Nat := bs.foldl (fun s c => crB s c.toNat) s
def crc (bs : List UInt8) : Nat := 4294967295 ^^^ crM 4294967295 bs
theorem half_lt : ∀ i, half.getD i 0 < 2 ^ 32 := by
  intro i
  rcases Nat.lt_or_ge i 16 with h | h
  · have : ∀ i < 16, half.getD i 0 < 2 ^ 32 := by decide
    exact this i h
  · have : half.getD i 0 = 0 := by simp [List.getD, List.getElem?_eq_none (show half.length ≤ i from h)]
    rw [this]; decide
theorem crT_lt {s : Nat} (h : s < 2 ^ 32) : crT s < 2 ^ 32 := by
  refine Nat.xor_lt_two_pow ?_ (half_lt _)
  rw [Nat.shiftRight_eq_div_pow]; omega
theorem crB_lt {s c : Nat} (h : s < 2 ^ 32) (hc : c < 256) : crB s c < 2 ^ 32 := crT_lt (crT_lt (Nat.xor_lt_two_pow h (by omega)))
theorem crM_lt : ∀ (bs : List UInt8) {s : Nat}, s < 2 ^ 32 → crM s bs < 2 ^ 32 := by
  intro bs
  induction bs with
  | nil => exact fun h => h
  | cons c bs ih => exact fun h => ih (crB_lt h c.toNat_lt)
theorem crM_snoc (s : Nat) (bs : List UInt8) (c : UInt8) : crM s (bs ++ [c]) = crB (crM s bs) c.toNat := by simp [crM]
theorem crc_lt (bs : List UInt8) : crc bs < 2 ^ 32 := Nat.xor_lt_two_pow (by decide) (crM_lt _ (by decide))

/-- What the table holds. -/
def HalfG (g : World) : Prop := ∀ i, i < 16 → g.cell? ⟨5, i, none⟩ = some (.int .u32 ((half.getD i 0 : Nat) : Int))

theorem more_spec {g : World} {F : List HP} {v : Value} {xs : List UInt8} (hH : HalfG g) (hR : RdB g F v xs) :
    RCs Tryz.prog 159 [.int .u32 0, v] g F (fun u w => u = .int .u32 (crc xs : Int) ∧ St g w F) := by
  have hmx := hR.2.1
  simp only [maxLen] at hmx
  refine RCs_of_WPs Tryz.func159 rfl Tryz.ntmps159 rfl Tryz.results159 ?_
  refine WPs_seq ?_
  refine WPs_regionK [0, 1] ?_
  refine s_assign rfl rfl ?_
  refine SXs_nilK (fr' := [(0, _), (1, _)]) rfl ?_
  refine KSs_wp ?_
  refine WPs_seq ?_
  refine WPs_regionK [0, 1] ?_
  refine s_move rfl rfl ?_
  refine s_comN rfl rfl rfl (by ((decide))) ?_
  refine s_assign rfl rfl ?_
  refine SXs_nilK (fr' := [(0, _), (1, _)]) rfl ?_
  refine KSs_wp ?_
  refine WPs_seq ?_
  refine WPs_seq ?_
  refine WPs_regionK [0, 9, 10, 11] ?_
  refine s_move rfl rfl ?_
  refine s_lenRd rfl Tryz.underlying42 rfl rfl (by ((assumption))) ?_
  refine s_move rfl rfl ?_
  refine SXs_nilK (fr' := [(0, _), (9, _), (10, _), (11, _)]) rfl ?_
  refine KSs_wp ?_
  refine WPs_block ?_
  refine WPs_loopS (ks := [11, 0, 9, 10]) (fun (i : Nat) => [(11, .int .i64 (i : Int)), (0, .int .u32 (crM 4294967295 (xs.take i) : Int))]) (fun (i : Nat) => F) (fun (i : Nat) => i ≤ xs.length) (fun (i : Nat) => xs.length - i) (0) rfl (fun w hS => hS) (Nat.zero_le _) ?_
  rintro i hok
  dsimp only [List.cons_append, List.nil_append] at hok ⊢
  refine WPs_seq ?_
  refine WPs_regionK [0, 9, 10, 11, 12] ?_
  refine s_lss rfl rfl rfl ?_
  refine SXs_nilK (fr' := [(0, _), (9, _), (10, _), (11, _), (12, _)]) rfl ?_
  refine KSs_wp ?_
  refine WPs_seq ?_
  refine WPs_cond rfl (fun hc1 => ?_) (fun hc1 => ?_)
  · simp only [decide_eq_true_eq] at hc1
    refine WPs_skip ?_
    refine KSs_wp ?_
    refine WPs_seq ?_
    refine WPs_block ?_
    refine WPs_seq ?_
    refine WPs_regionK [0, 6, 9, 10, 11] ?_
    have hi : i < xs.length := by omega
    obtain ⟨c, hc⟩ : ∃ c, xs[i]? = some c := ⟨_, List.getElem?_eq_getElem hi⟩
    have hti : crM 4294967295 (xs.take (i + 1)) = crT (crT (crM 4294967295 (xs.take i) ^^^ c.toNat)) := by rw [List.take_add_one, hc, Option.toList_some, crM_snoc]; rfl
    have hcell : ((bv xs).drop ((i : Int).toNat * 1))[0]? = some (.int .u8 (c.toNat : Int)) := by simp [bv_get, hc]
    have hs0 : crM 4294967295 (xs.take i) < 2 ^ 32 := crM_lt _ (by decide)
    have hs1 : crM 4294967295 (xs.take i) ^^^ c.toNat < 2 ^ 32 := Nat.xor_lt_two_pow hs0 (by have := c.toNat_lt; omega)
    have hs2 := crT_lt hs1
    have hq1 : (crM 4294967295 (xs.take i) ^^^ c.toNat) &&& 15 < 16 := Nat.lt_of_le_of_lt Nat.and_le_right (by decide)
    have hq2 : crT (crM 4294967295 (xs.take i) ^^^ c.toNat) &&& 15 < 16 := Nat.lt_of_le_of_lt Nat.and_le_right (by decide)
    refine s_idxRd slt_42 rfl rfl (by ((assumption))) rfl (by omega) (by omega) (fun b13 o13 hc13 => ?_)
    refine s_load1 Tryz.isAgg5 rfl rfl (hc13.at0 (by rw [List.getElem?_take_of_lt (by omega)]; exact hcell)) ?_
    refine s_assign rfl rfl ?_
    refine SXs_nilK (fr' := [(0, _), (6, _), (9, _), (10, _), (11, _)]) rfl ?_
    refine KSs_wp ?_
    refine WPs_seq ?_
    refine WPs_regionK [0, 9, 10, 11] ?_
    refine s_move rfl rfl ?_
    refine s_move rfl rfl ?_
    refine s_conv_ok Tryz.underlying5 Tryz.underlying34 rfl rfl (inR_u32 (by omega) (by have := c.toNat_lt; omega)) ?_
    refine s_xorN rfl rfl rfl rfl hs0 (by have := c.toNat_lt; show _ < 4294967296; omega) ?_
    refine s_assign rfl rfl ?_
    refine SXs_nilK (fr' := [(0, _), (9, _), (10, _), (11, _)]) rfl ?_
    refine KSs_wp ?_
    refine WPs_seq ?_
    refine WPs_regionK [0, 9, 10, 11] ?_
    refine s_move rfl rfl ?_
    refine s_shrN (b := 4) rfl rfl rfl (by decide) ?_
    refine s_move rfl rfl ?_
    refine s_andN (b := 15) rfl rfl rfl rfl hs1 (by decide) ?_
    refine s_idxArr Tryz.underlying238 Tryz.sizeOf34 rfl rfl rfl (by omega) (by omega) ?_
    refine s_load1 (v := .int .u32 ((half.getD ((crM 4294967295 (xs.take i) ^^^ c.toNat) &&& 15) 0 : Nat) : Int)) Tryz.isAgg34 rfl rfl (cin_old (by simpa using hH _ hq1)) ?_
    refine s_xorN rfl rfl rfl rfl (by rw [Nat.shiftRight_eq_div_pow]; show _ < 4294967296; omega) (half_lt _) ?_
    refine s_assign rfl rfl ?_
    refine SXs_nilK (fr' := [(0, _), (9, _), (10, _), (11, _)]) rfl ?_
    refine KSs_wp ?_
    refine WPs_regionK [0, 9, 10, 11] ?_
    refine s_move rfl rfl ?_
    refine s_shrN (a := crT (crM 4294967295 (xs.take i) ^^^ c.toNat)) (b := 4) rfl rfl rfl (by decide) ?_
    refine s_move rfl rfl ?_
    refine s_andN (a := crT (crM 4294967295 (xs.take i) ^^^ c.toNat)) (b := 15) rfl rfl rfl rfl hs2 (by decide) ?_
    refine s_idxArr Tryz.underlying238 Tryz.sizeOf34 rfl rfl rfl (by omega) (by omega) ?_
    refine s_load1 (v := .int .u32 ((half.getD (crT (crM 4294967295 (xs.take i) ^^^ c.toNat) &&& 15) 0 : Nat) : Int)) Tryz.isAgg34 rfl rfl (cin_old (by simpa using hH _ hq2)) ?_
    refine s_xorN rfl rfl rfl rfl (by rw [Nat.shiftRight_eq_div_pow]; show _ < 4294967296; omega) (half_lt _) ?_
    rw [show (crT (crM 4294967295 (xs.take i) ^^^ c.toNat) >>> 4 ^^^ half.getD (crT (crM 4294967295 (xs.take i) ^^^ c.toNat) &&& 15) 0) = crM 4294967295 (xs.take (i + 1)) from hti.symm]
    refine s_assign rfl rfl ?_
    refine SXs_nilK (fr' := [(0, _), (9, _), (10, _), (11, _)]) rfl ?_
    refine KSs_wp ?_
    refine WPs_regionK [0, 9, 10, 11] ?_
    refine s_add_ok rfl rfl rfl (inR_i64 (by omega) (by omega)) ?_
    refine s_move rfl rfl ?_
    refine SXs_nilK (fr' := [(0, _), (9, _), (10, _), (11, _)]) rfl ?_
    exact fun w hS => ⟨i + 1, rfl, hS, by (omega), by (omega)⟩
  · simp only [decide_eq_false_iff_not] at hc1
    refine WPs_exit rfl ?_
    refine KSs_wp ?_
    refine WPs_seq ?_
    refine WPs_regionK [4] ?_
    refine s_move rfl rfl ?_
    refine s_comN rfl rfl rfl (crM_lt _ (by decide)) ?_
    refine s_assign rfl rfl ?_
    refine SXs_nilK (fr' := [(4, _)]) rfl ?_
    refine KSs_wp ?_
    refine WPs_ret ?_
    refine RLs_start ?_
    refine RLs_tmp rfl ?_
    refine RLs_fin1 ?_
    exact fun w hS => ⟨by
        have e : i = xs.length := by omega
        subst e
        rw [List.take_length]
        rfl, hS⟩

theorem sum_spec {g : World} {F : List HP} {v : Value} {xs : List UInt8} (hH : HalfG g) (hR : RdB g F v xs) :
    RCs Tryz.prog 130 [v] g F (fun u w => u = .int .u32 (crc xs : Int) ∧ St g w F) := by
  refine RCs_of_WPs Tryz.func130 rfl Tryz.ntmps130 rfl Tryz.results130 ?_
  refine WPs_seq ?_
  refine WPs_regionK [0] ?_
  refine s_assign rfl rfl ?_
  refine SXs_nilK (fr' := [(0, _)]) rfl ?_
  refine KSs_wp ?_
  refine WPs_seq ?_
  refine WPs_regionK [2] ?_
  refine s_move rfl rfl ?_
  refine s_call Tryz.call159 rfl (vs := [_, _]) rfl (RCs.perm (by (repeat ((exact List.Perm.refl _)))) (more_spec hH hR)) ?_
  rintro v w ⟨rfl, hS⟩
  refine SXs_go hS ?_
  clear hS; clear w
  simp only [putF]
  refine s_assign rfl rfl ?_
  refine SXs_nilK (fr' := [(2, _)]) rfl ?_
  refine KSs_wp ?_
  refine WPs_ret ?_
  refine RLs_start ?_
  refine RLs_tmp rfl ?_
  refine RLs_fin1 ?_
  exact fun w hS => ⟨rfl, hS⟩

/-- The four bytes of a sum. -/
theorem le_four (s : Nat) : bv (le s 4) = [.int .u8 ((UInt8.ofNat s).toNat : Int), .int .u8 ((UInt8.ofNat (s >>> 8)).toNat : Int), .int .u8 ((UInt8.ofNat (s >>> 16)).toNat : Int), .int .u8 ((UInt8.ofNat (s >>> 24)).toNat : Int)] := by
  simp [le, bv, List.range_succ]

theorem laid_spec {g : World} {F : List HP} {s : Nat} (hs : s < 2 ^ 32) :
    RCs Tryz.prog 129 [.int .u32 (s : Int)] g F (fun u w => u = .agg [.int .u8 ((UInt8.ofNat s).toNat : Int), .int .u8 ((UInt8.ofNat (s >>> 8)).toNat : Int), .int .u8 ((UInt8.ofNat (s >>> 16)).toNat : Int), .int .u8 ((UInt8.ofNat (s >>> 24)).toNat : Int)].toArray ∧ St g w F) := by
  refine RCs_of_WPs Tryz.func129 rfl Tryz.ntmps129 rfl Tryz.results129 ?_
  refine WPs_seq ?_
  refine WPs_regionK [0, 2] ?_
  refine s_alloc Tryz.zeroValue185 (cl := [_, _, _, _]) rfl rfl (fun b2 => ?_)
  refine SXs_nilK (fr' := [(0, _), (2, _)]) rfl ?_
  refine KSs_wp ?_
  refine WPs_seq ?_
  refine WPs_regionK [2] ?_
  refine s_move rfl rfl ?_
  refine s_conv Tryz.underlying34 Tryz.underlying5 rfl rfl (wrap_u8 _) ?_
  refine s_move rfl rfl ?_
  refine s_shrN (b := 8) rfl rfl rfl (by ((decide))) ?_
  refine s_conv Tryz.underlying34 Tryz.underlying5 rfl rfl (wrap_u8 _) ?_
  refine s_move rfl rfl ?_
  refine s_shrN (b := 16) rfl rfl rfl (by ((decide))) ?_
  refine s_conv Tryz.underlying34 Tryz.underlying5 rfl rfl (wrap_u8 _) ?_
  refine s_move rfl rfl ?_
  refine s_shrN (b := 24) rfl rfl rfl (by ((decide))) ?_
  refine s_conv Tryz.underlying34 Tryz.underlying5 rfl rfl (wrap_u8 _) ?_
  refine s_build (vs := [(0, _), (1, _), (2, _), (3, _)]) (cs := [_, _, _, _]) rfl rfl (build_185_0_1_2_3 rfl rfl rfl rfl) ?_
  refine s_store (i := 0) Tryz.sizeOf185 rfl rfl rfl (vs := [_, _, _, _]) rfl rfl rfl rfl ?_
  simp only [List.set_cons_zero, List.set_cons_succ, spl]
  refine SXs_nilK (fr' := [(2, _)]) rfl ?_
  refine KSs_wp ?_
  refine WPs_ret ?_
  refine RLs_start ?_
  refine RLs_cellN Tryz.isAgg185 Tryz.sizeOf185 (cs := [_, _, _, _]) rfl (by exact csin (i := 0) (k := 4) rfl rfl) rfl ?_
  refine RLs_fin1 ?_
  exact fun w hS => ⟨rfl, hS.sl (by (repeat (first | exact Sl.refl _ | refine Sl.skip ?_)))⟩

theorem cover_spec {g : World} {F : List HP} {v : Value} {xs : List UInt8} (hH : HalfG g) (hR : RdB g F v xs) (hsz : xs.length ≤ 1048576) :
    RCs Tryz.prog 90 [v] g F (SlB g (xs ++ le (crc xs) 4) F) := by
  refine RCs_of_WPs Tryz.func90 rfl Tryz.ntmps90 rfl Tryz.results90 ?_
  refine WPs_seq ?_
  refine WPs_regionK [0] ?_
  refine s_assign rfl rfl ?_
  refine SXs_nilK (fr' := [(0, _)]) rfl ?_
  refine KSs_wp ?_
  refine WPs_seq ?_
  refine WPs_regionK [0, 3] ?_
  refine s_move rfl rfl ?_
  refine s_call Tryz.call130 rfl (vs := [_]) rfl (RCs.perm (by (repeat ((exact List.Perm.refl _)))) (sum_spec hH hR)) ?_
  rintro v w ⟨rfl, hS⟩
  refine SXs_go hS ?_
  clear hS; clear w
  simp only [putF]
  refine s_call Tryz.call129 rfl (vs := [_]) rfl (RCs.perm (by (repeat ((exact List.Perm.refl _)))) (laid_spec (crc_lt xs))) ?_
  rintro v w ⟨rfl, hS⟩
  refine SXs_go hS ?_
  clear hS; clear w
  simp only [putF]
  refine s_alloc Tryz.zeroValue185 (cl := [_, _, _, _]) rfl rfl (fun b3 => ?_)
  refine s_store (i := 0) Tryz.sizeOf185 rfl rfl rfl (vs := [_, _, _, _]) rfl rfl rfl rfl ?_
  simp only [List.set_cons_zero, List.set_cons_succ, spl]
  refine SXs_nilK (fr' := [(0, _), (3, _)]) rfl ?_
  refine KSs_wp ?_
  refine WPs_seq ?_
  refine WPs_drawL [2] [] Tryz.mixed rfl (listed := #[false, false, false, false, false]) rfl ?_
  refine st_take 0 rfl (by decide +kernel) (listed' := #[true, false, false, false, false]) rfl (by (intro _ h; (exact h))) (gv_move rfl rfl) ?_
  refine st_take 2 rfl (by decide +kernel) (listed' := #[true, false, true, false, false]) rfl (by (intro _ h; (exact h))) (gv_sliceArr Tryz.underlying185 Tryz.sizeOf5 rfl rfl) ?_
  refine st_one 1 rfl (by decide +kernel) ?_
  refine s_appendNil slt_42 rfl rfl rfl (by ((apply RdIn.cons; assumption))) (by exact bv_one _) (by ((omega))) (fun va8 vc8 => ?_)
  refine st_next (listed' := #[true, true, true, false, false]) rfl (by intro _ _; (intro _ h; (exact h.tail))) ?_
  refine st_one 3 rfl (by decide +kernel) ?_
  refine s_append (i := 0) slt_42 rfl rfl rfl rfl (pt_RdIn (i := 1) (m := 4) (k := 1) (xs := bv (le (crc xs) 4)) rfl (by rw [le_four]; rfl) (by simp [bv_length, le_length]) (by omega) (by simp only [maxLen]; omega)) (bv_one _) (by simp only [maxLen]; omega) (by omega) (fun va10 vc10 => ?_)
  simp only [List.set_cons_zero]
  refine st_next (listed' := #[true, true, true, true, false]) rfl (by intro _ _; (intro _ h; (exact h.tail))) ?_
  refine st_take 4 rfl (by decide +kernel) (listed' := #[true, true, true, true, true]) rfl (by (intro _ h; (exact h.tail))) (gv_assign rfl rfl) ?_
  refine st_doneK (fr' := [(2, _)]) (by decide +kernel) rfl ?_
  refine KSs_wp ?_
  refine WPs_ret ?_
  refine RLs_start ?_
  refine RLs_tmp rfl ?_
  refine RLs_fin1 ?_
  exact fun w hS => slb_of (hS.sl (by (repeat (first | exact Sl.refl _ | (apply Sl.pick 0; exact rfl) | refine Sl.skip ?_)))) (by simp [bv])
end Go.Proofs.YthodbnmeggkkoaaGreatDoor
/-
  Arrays of bytes compared; crc.Right.
-/
namespace Go.Proofs.YthodbnmeggkkoaaGreatDoor
open Go Go.RowKit Go.Hb Go.Proofs

theorem run_eqItems_u8 (d : Nat) (xs ys : List UInt8) (w : World) : ∀ is : List Nat, (∀ i ∈ is, i < xs.length ∧ i < ys.length) →
    (Op.eqItems (d + 1) 5 1 (bv xs).toArray (bv ys).toArray is).run Tryz.prog w = .ok (is.all fun i => xs[i]? == ys[i]?) w := by
  intro is
  induction is with
  | nil => intro _; simp [Op.eqItems]
  | cons i is ih =>
    intro h
    obtain ⟨h1, h2⟩ := h i List.mem_cons_self
    have h3 : (bv xs)[i]? = some (.int .u8 (xs[i].toNat : Int)) := by rw [bv_get, List.getElem?_eq_getElem h1]; rfl
    have h4 : (bv ys)[i]? = some (.int .u8 (ys[i].toNat : Int)) := by rw [bv_get, List.getElem?_eq_getElem h2]; rfl
    have p1 : (part 5 (bv xs).toArray (i * 1)).run Tryz.prog w = .ok (.int .u8 (xs[i].toNat : Int)) w := by simp [part, Tryz.isAgg5, h3]
    have p2 : (part 5 (bv ys).toArray (i * 1)).run Tryz.prog w = .ok (.int .u8 (ys[i].toNat : Int)) w := by simp [part, Tryz.isAgg5, h4]
    have p3 : (Op.equalIn (d + 1) 5 (.int .u8 (xs[i].toNat : Int)) (.int .u8 (ys[i].toNat : Int))).run Tryz.prog w = .ok (((xs[i].toNat : Int)) == (ys[i].toNat : Int)) w := by
      simp [Op.equalIn, underlying, Tryz.underlying5]
    simp only [Op.eqItems, Sem.run_bind, p1, p2, p3, Result.andThen_ok]
    have e : (((xs[i].toNat : Int)) == (ys[i].toNat : Int)) = (xs[i]? == ys[i]?) := by
      rw [List.getElem?_eq_getElem h1, List.getElem?_eq_getElem h2]
      rw [Bool.eq_iff_iff]
      simp only [beq_iff_eq, Option.some.injEq]
      exact ⟨fun h => UInt8.toNat_inj.1 (by omega), fun h => by rw [h]⟩
    rw [e, List.all_cons]
    cases (xs[i]? == ys[i]?)
    · simp
    · simpa using ih (fun j hj => h j (List.mem_cons_of_mem _ hj))

theorem all_range (xs ys : List UInt8) {n : Nat} (h1 : xs.length = n) (h2 : ys.length = n) : ((List.range n).all fun i => xs[i]? == ys[i]?) = decide (xs = ys) := by
  rw [Bool.eq_iff_iff]
  simp only [List.all_eq_true, List.mem_range, beq_iff_eq, decide_eq_true_eq]
  constructor
  · intro h
    apply List.ext_getElem?
    intro i
    rcases Nat.lt_or_ge i n with h3 | h3
    · exact h i h3
    · rw [List.getElem?_eq_none (by omega), List.getElem?_eq_none (by omega)]
  · rintro rfl i _; rfl

theorem eq_bytes {t n : Nat} (hu : Tryz.prog.underlying t = some (.array n 5)) (hg : Tryz.prog.eqGuardType Tryz.prog.depth t = false) {xs ys : List UInt8} (h1 : xs.length = n) (h2 : ys.length = n) :
    EqV Tryz.prog t (.agg (bv xs).toArray) (.agg (bv ys).toArray) (decide (xs = ys)) := by
  refine EqV.of_equal (fun w => ?_) (fun x y w => run_eqGuard_agg w .eql t x y _ _ hg) (fun x y w => run_eqGuard_agg w .neq t x y _ _ hg) rfl rfl
  obtain ⟨i, hi, hc⟩ : ∃ i, Tryz.prog.info? 5 = some i ∧ Tryz.prog.cellsOf 5 = 1 := by
    have h : (Tryz.prog.info? 5).isSome = true ∧ Tryz.prog.cellsOf 5 = 1 := ⟨by kernel_rfl, by kernel_rfl⟩
    exact ⟨_, Option.some_get h.1 |>.symm, h.2⟩
  show (Op.equalIn (9998 + 1 + 1) t _ _).run Tryz.prog w = _
  rw [run_equalIn_array w (9998 + 1) _ _ hu hi, hc, run_eqItems_u8 9998 xs ys w (List.range n) (fun i hi => by simp at hi; omega), all_range xs ys h1 h2]

theorem right_spec {g : World} {F : List HP} {v : Value} {xs : List UInt8} (hH : HalfG g) (hR : RdB g F v xs) (h4 : 4 ≤ xs.length) :
    RCs Tryz.prog 84 [v] g F (fun u w => u = .bool (decide (xs.drop (xs.length - 4) = le (crc (xs.take (xs.length - 4))) 4)) ∧ St g w F) := by
  have hmx := hR.2.1
  simp only [maxLen] at hmx
  have he : ((bv xs).drop ((xs.length - 4) * 1)).take ((xs.length - (xs.length - 4)) * 1) = bv (xs.drop (xs.length - 4)) := by
    rw [Nat.mul_one, Nat.mul_one, bv_drop, bv_take, ← List.length_drop, List.take_length]
  have he2 : ((bv xs).drop (0 * 1)).take ((xs.length - 4 - 0) * 1) = bv (xs.take (xs.length - 4)) := by
    rw [Nat.zero_mul, List.drop_zero, Nat.mul_one, Nat.sub_zero, bv_take]
  refine RCs_of_WPs Tryz.func84 rfl Tryz.ntmps84 rfl Tryz.results84 ?_
  refine WPs_seq ?_
  refine WPs_regionK [0] ?_
  refine s_assign rfl rfl ?_
  refine SXs_nilK (fr' := [(0, _)]) rfl ?_
  refine KSs_wp ?_
  refine WPs_seq ?_
  refine WPs_regionK [0, 3] ?_
  refine s_move rfl rfl ?_
  refine s_lenRd rfl Tryz.underlying42 rfl rfl (by ((assumption))) ?_
  refine s_sub_ok rfl rfl rfl (inR_i64 (by omega) (by omega)) ?_
  rw [show ((xs.length : Int) - 4) = ((xs.length - 4 : Nat) : Int) from by omega]
  refine s_assign rfl rfl ?_
  refine SXs_nilK (fr' := [(0, _), (3, _)]) rfl ?_
  refine KSs_wp ?_
  refine WPs_seq ?_
  refine WPs_drawL [2] [] Tryz.mixed rfl (listed := #[false, false, false, false, false, false, false, false, false, false, false, false, false, false, false, false]) rfl ?_
  refine st_take 0 rfl (by decide +kernel) (listed' := #[true, false, false, false, false, false, false, false, false, false, false, false, false, false, false, false]) rfl (by (intro _ h; (exact h))) (gv_move rfl rfl) ?_
  refine st_take 1 rfl (by decide +kernel) (listed' := #[true, true, false, false, false, false, false, false, false, false, false, false, false, false, false, false]) rfl (by (intro _ h; (exact h))) (gv_geq rfl rfl rfl) ?_
  refine st_take 2 rfl (by decide +kernel) (listed' := #[true, true, true, false, false, false, false, false, false, false, false, false, false, false, false, false]) rfl (by (intro _ h; (exact h))) (gv_move rfl rfl) ?_
  refine st_split (dj := 9) rfl (fun hc1 => ?_) (fun hc1 => ?_)
  · simp only [decide_eq_true_eq] at hc1
    refine st_take_t 3 rfl (by decide +kernel) (listed' := #[true, true, true, true, false, false, false, false, false, false, false, false, false, false, false, false]) rfl (by (intro _ h; (exact h))) rfl rfl (by ((rfl))) (gv_move rfl rfl) ?_
    refine st_take_t 4 rfl (by decide +kernel) (listed' := #[true, true, true, true, true, false, false, false, false, false, false, false, false, false, false, false]) rfl (by (intro _ h; (exact h))) rfl rfl (by ((rfl))) (gv_move rfl rfl) ?_
    refine ex_sliceRd 5 rfl slt_42 (vlo := some _) (vhi := none) rfl rfl (by ((assumption))) (rfl) (trivial) (.inl rfl) (.inr ⟨rfl, rfl⟩) (by omega) (by omega) (fun va12 vc12 hR12 hG2_5 => ?_)
    refine st_take_t 5 rfl (by decide +kernel) (listed' := #[true, true, true, true, true, true, false, false, false, false, false, false, false, false, false, false]) rfl (by (intro _ h; (exact h))) rfl rfl (by ((rfl))) hG2_5 ?_
    refine ex_toArrRd 6 rfl Tryz.underlying185 rfl rfl (by ((assumption))) (by omega) (by omega) (fun b13 o13 hc13 hG2_6 => ?_)
    refine st_take_t 6 rfl (by decide +kernel) (listed' := #[true, true, true, true, true, true, true, false, false, false, false, false, false, false, false, false]) rfl (by (intro _ h; (exact h))) rfl rfl (by ((rfl))) hG2_6 ?_
    refine st_take_t 7 rfl (by decide +kernel) (listed' := #[true, true, true, true, true, true, true, true, false, false, false, false, false, false, false, false]) rfl (by (intro _ h; (exact h))) rfl rfl (by ((rfl))) (gv_loadN Tryz.isAgg185 Tryz.sizeOf185 (vs := bv (xs.drop (xs.length - 4))) rfl rfl (he ▸ hc13) (by simp [bv_length]; omega)) ?_
    refine st_take_t 8 rfl (by decide +kernel) (listed' := #[true, true, true, true, true, true, true, true, true, false, false, false, false, false, false, false]) rfl (by (intro _ h; (exact h))) rfl rfl (by ((rfl))) (gv_move rfl rfl) ?_
    refine st_take_t 9 rfl (by decide +kernel) (listed' := #[true, true, true, true, true, true, true, true, true, true, false, false, false, false, false, false]) rfl (by (intro _ h; (exact h))) rfl rfl (by ((rfl))) (gv_move rfl rfl) ?_
    refine ex_sliceRd 10 rfl slt_42 (vlo := none) (vhi := some _) rfl rfl (by ((assumption))) (trivial) (rfl) (.inr ⟨rfl, rfl⟩) (.inl rfl) (by omega) (by omega) (fun va17 vc17 hR17 hG2_10 => ?_)
    refine st_take_t 10 rfl (by decide +kernel) (listed' := #[true, true, true, true, true, true, true, true, true, true, true, false, false, false, false, false]) rfl (by (intro _ h; (exact h))) rfl rfl (by ((rfl))) hG2_10 ?_
    refine st_one 11 rfl (by decide +kernel) ?_
    refine s_guard_t2 rfl rfl (by ((rfl))) rfl ?_
    refine s_call Tryz.call130 rfl (vs := [_]) rfl (RCs.perm (by (repeat ((exact List.Perm.refl _)))) (sum_spec (xs := xs.take (xs.length - 4)) hH (rdb_of hR17 he2))) ?_
    rintro v w ⟨rfl, hS⟩
    refine SXs_go hS ?_
    clear hS; clear w
    simp only [putF]
    refine st_next (listed' := #[true, true, true, true, true, true, true, true, true, true, true, true, false, false, false, false]) rfl (by intro _ _; (intro _ h; (exact h))) ?_
    refine st_one 12 rfl (by decide +kernel) ?_
    refine s_guard_t2 rfl rfl (by ((rfl))) rfl ?_
    refine s_call Tryz.call129 rfl (vs := [_]) rfl (RCs.perm (by (repeat ((exact List.Perm.refl _)))) (laid_spec (crc_lt _))) ?_
    rintro v w ⟨rfl, hS⟩
    refine SXs_go hS ?_
    clear hS; clear w
    simp only [putF]
    refine st_next (listed' := #[true, true, true, true, true, true, true, true, true, true, true, true, true, false, false, false]) rfl (by intro _ _; (intro _ h; (exact h))) ?_
    rw [← le_four (crc (xs.take (xs.length - 4)))]
    refine st_take_t 13 rfl (by decide +kernel) (listed' := #[true, true, true, true, true, true, true, true, true, true, true, true, true, true, false, false]) rfl (by (intro _ h; (exact h))) rfl rfl (by ((rfl))) (gv_eqlV rfl rfl rfl (eq_bytes Tryz.underlying185 (by kernel_rfl) (by simp; omega) (le_length _ _))) ?_
    refine st_take 14 rfl (by decide +kernel) (listed' := #[true, true, true, true, true, true, true, true, true, true, true, true, true, true, true, false]) rfl (by (intro _ h; (exact h))) (gv_pick_t rfl rfl rfl) ?_
    refine st_take 15 rfl (by decide +kernel) (listed' := #[true, true, true, true, true, true, true, true, true, true, true, true, true, true, true, true]) rfl (by (intro _ h; (exact h))) (gv_assign rfl rfl) ?_
    refine st_doneK (fr' := [(2, _)]) (by decide +kernel) rfl ?_
    refine KSs_wp ?_
    refine WPs_ret ?_
    refine RLs_start ?_
    refine RLs_tmp rfl ?_
    refine RLs_fin1 ?_
    exact fun w hS => ⟨by (rfl), hS⟩
  · (exfalso; (cases hc1; done))
end Go.Proofs.YthodbnmeggkkoaaGreatDoor
/-
  Packages key, loc; record.May, record.Size.
-/
namespace Go.Proofs.YthodbnmeggkkoaaGreatDoor
open Go Go.RowKit Go.Hb Go.Proofs

theorem keyMay_spec {g : World} {F : List HP} {v : Value} {xs : List UInt8} (hR : RdB g F v xs) :
    RCs Tryz.prog 58 [v] g F (fun u w => u = .bool (decide (1 ≤ xs.length ∧ xs.length ≤ 64)) ∧ St g w F) := by
  refine RCs_of_WPs Tryz.func58 rfl Tryz.ntmps58 rfl Tryz.results58 ?_
  refine WPs_seq ?_
  refine WPs_regionK [0] ?_
  refine s_assign rfl rfl ?_
  refine SXs_nilK (fr' := [(0, _)]) rfl ?_
  refine KSs_wp ?_
  refine WPs_seq ?_
  refine WPs_regionK [2] ?_
  refine s_move rfl rfl ?_
  refine s_lenRd rfl Tryz.underlying42 rfl rfl (by ((assumption))) ?_
  refine s_geq rfl rfl rfl ?_
  refine s_move rfl rfl ?_
  refine s_guard rfl rfl rfl (fun hc1 => ?_) (fun hc1 => ?_)
  · simp only [decide_eq_true_eq] at hc1
    refine s_move rfl rfl ?_
    refine s_guard_t2 rfl rfl (by ((simp; assumption))) rfl ?_
    refine s_lenRd rfl Tryz.underlying42 rfl rfl (by ((assumption))) ?_
    refine s_guard_t2 rfl rfl (by ((simp; assumption))) rfl ?_
    refine s_leq rfl rfl rfl ?_
    refine s_pickB rfl rfl rfl rfl ?_
    refine s_assign rfl rfl ?_
    refine SXs_nilK (fr' := [(2, _)]) rfl ?_
    refine KSs_wp ?_
    refine WPs_ret ?_
    refine RLs_start ?_
    refine RLs_tmp rfl ?_
    refine RLs_fin1 ?_
    exact fun w hS => ⟨by congr 1; (rw [Bool.eq_iff_iff]; simp; omega), hS⟩
  · simp only [decide_eq_false_iff_not, Bool.not_true] at hc1
    refine s_guard_f rfl rfl (by ((simp_all; done))) rfl ?_
    refine s_guard_f rfl rfl (by ((simp_all; done))) rfl ?_
    refine s_pickH_f rfl rfl (by ((simp_all; done))) rfl ?_
    refine s_assign rfl rfl ?_
    refine SXs_nilK (fr' := [(2, _)]) rfl ?_
    refine KSs_wp ?_
    refine WPs_ret ?_
    refine RLs_start ?_
    refine RLs_tmp rfl ?_
    refine RLs_fin1 ?_
    exact fun w hS => ⟨by congr 1; (simp; omega), hS⟩
theorem keyMayV_spec {g : World} {F : List HP} {v : Value} {xs : List UInt8} (hR : RdB g F v xs) :
    RCs Tryz.prog 59 [v] g F (fun u w => u = .bool (decide (xs.length ≤ 1024)) ∧ St g w F) := by
  refine RCs_of_WPs Tryz.func59 rfl Tryz.ntmps59 rfl Tryz.results59 ?_
  refine WPs_seq ?_
  refine WPs_regionK [0] ?_
  refine s_assign rfl rfl ?_
  refine SXs_nilK (fr' := [(0, _)]) rfl ?_
  refine KSs_wp ?_
  refine WPs_seq ?_
  refine WPs_regionK [2] ?_
  refine s_move rfl rfl ?_
  refine s_lenRd rfl Tryz.underlying42 rfl rfl (by ((assumption))) ?_
  refine s_leq rfl rfl rfl ?_
  refine s_assign rfl rfl ?_
  refine SXs_nilK (fr' := [(2, _)]) rfl ?_
  refine KSs_wp ?_
  refine WPs_ret ?_
  refine RLs_start ?_
  refine RLs_tmp rfl ?_
  refine RLs_fin1 ?_
  exact fun w hS => ⟨by congr 1; rw [Bool.eq_iff_iff]; simp; omega, hS⟩

theorem eq_loc_in (d : Nat) (a b c e : Int) (w : World) : (Op.equalIn (d + 1 + 1) 44 (.agg [.int .u32 a, .int .u32 b].toArray) (.agg [.int .u32 c, .int .u32 e].toArray)).run Tryz.prog w = .ok (decide (a = c ∧ b = e)) w := by
  rw [run_equalIn_struct w (d + 1) 44 _ _ (by kernel_rfl) (by kernel_rfl)]
  have hf : (Tryz.prog.fieldsOf 44).toList.map (fun f => (f.name ≠ "_", f.type, f.offset)) = [(True, 34, 0), (True, 34, 1)] := by
    simp [Program.fieldsOf, Tryz.underlying44]
  have q : ∀ (x y : Int) (w : World), (Op.equalIn (d + 1) 34 (.int .u32 x) (.int .u32 y)).run Tryz.prog w = .ok (x == y) w := fun x y w => by simp [Op.equalIn, underlying, Tryz.underlying34]
  simp [Program.fieldsOf, Tryz.underlying44, Op.eqFields, part, Tryz.isAgg34, q]
  by_cases h1 : a = c <;> by_cases h2 : b = e <;> simp [h1, h2]
theorem eq_loc (a b c d : Int) : EqV Tryz.prog 44 (.agg [.int .u32 a, .int .u32 b].toArray) (.agg [.int .u32 c, .int .u32 d].toArray) (decide (a = c ∧ b = d)) :=
  EqV.of_equal (fun w => eq_loc_in 9998 a b c d w) (fun x y w => run_eqGuard_agg w .eql _ x y _ _ (by kernel_rfl)) (fun x y w => run_eqGuard_agg w .neq _ x y _ _ (by kernel_rfl)) rfl rfl

theorem stands_spec {g : World} {F : List HP} {a b : Nat} :
    RCs Tryz.prog 108 [.agg [.int .u32 (a : Int), .int .u32 (b : Int)].toArray] g F (fun u w => u = .bool (decide (1 ≤ a ∧ a ≤ 16777215 ∧ 16 ≤ b ∧ b ≤ 16777216)) ∧ St g w F) := by
  refine RCs_of_WPs Tryz.func108 rfl Tryz.ntmps108 rfl Tryz.results108 ?_
  refine WPs_seq ?_
  refine WPs_regionK [1] ?_
  refine s_box (cl := [_, _]) rfl rfl rfl (fun b1 => ?_)
  refine s_assign rfl rfl ?_
  refine SXs_nilK (fr' := [(1, _)]) rfl ?_
  refine KSs_wp ?_
  refine WPs_seq ?_
  refine WPs_regionK [2] ?_
  refine s_fieldAddr fo_44_0 rfl rfl ?_
  refine s_load1 Tryz.isAgg34 rfl rfl (by exact cin (i := 0) rfl rfl) ?_
  refine s_geq rfl rfl rfl ?_
  refine s_move rfl rfl ?_
  refine s_guard rfl rfl rfl (fun hc1 => ?_) (fun hc1 => ?_)
  · simp only [decide_eq_true_eq] at hc1
    refine s_fieldAddr fo_44_0 rfl rfl ?_
    refine s_guard_t2 rfl rfl (by ((simp; assumption))) rfl ?_
    refine s_load1 Tryz.isAgg34 rfl rfl (by exact cin (i := 0) rfl rfl) ?_
    refine s_guard_t2 rfl rfl (by ((simp; assumption))) rfl ?_
    refine s_leq rfl rfl rfl ?_
    refine s_pickB rfl rfl rfl rfl ?_
    refine s_move rfl rfl ?_
    refine s_guard rfl rfl rfl (fun hc2 => ?_) (fun hc2 => ?_)
    · refine s_fieldAddr fo_44_1 rfl rfl ?_
      refine s_guard_t2 rfl rfl (by ((assumption))) rfl ?_
      refine s_load1 Tryz.isAgg34 rfl rfl (by exact cin (i := 0) rfl rfl) ?_
      refine s_guard_t2 rfl rfl (by ((assumption))) rfl ?_
      refine s_geq rfl rfl rfl ?_
      refine s_pickB rfl rfl rfl rfl ?_
      refine s_move rfl rfl ?_
      refine s_guard rfl rfl rfl (fun hc3 => ?_) (fun hc3 => ?_)
      · refine s_fieldAddr fo_44_1 rfl rfl ?_
        refine s_guard_t2 rfl rfl (by ((assumption))) rfl ?_
        refine s_load1 Tryz.isAgg34 rfl rfl (by exact cin (i := 0) rfl rfl) ?_
        refine s_guard_t2 rfl rfl (by ((assumption))) rfl ?_
        refine s_leq rfl rfl rfl ?_
        refine s_pickB rfl rfl rfl rfl ?_
        refine s_assign rfl rfl ?_
        refine SXs_nilK (fr' := [(2, _)]) rfl ?_
        refine KSs_wp ?_
        refine WPs_ret ?_
        refine RLs_start ?_
        refine RLs_tmp rfl ?_
        refine RLs_fin1 ?_
        exact fun w hS => ⟨by congr 1; rw [Bool.eq_iff_iff]; (simp at *; omega), hS.sl (by (repeat (first | exact Sl.refl _ | refine Sl.skip ?_)))⟩
      · simp only [Bool.not_true] at hc3
        refine s_guard_f rfl rfl (by ((assumption))) rfl ?_
        refine s_guard_f rfl rfl (by ((assumption))) rfl ?_
        refine s_pickH_f rfl rfl (by ((assumption))) rfl ?_
        refine s_assign rfl rfl ?_
        refine SXs_nilK (fr' := [(2, _)]) rfl ?_
        refine KSs_wp ?_
        refine WPs_ret ?_
        refine RLs_start ?_
        refine RLs_tmp rfl ?_
        refine RLs_fin1 ?_
        exact fun w hS => ⟨by congr 1; rw [Bool.eq_iff_iff]; (simp at *; omega), hS.sl (by (repeat (first | exact Sl.refl _ | refine Sl.skip ?_)))⟩
    · simp only [Bool.not_true] at hc2
      refine s_guard_f rfl rfl (by ((assumption))) rfl ?_
      refine s_guard_f rfl rfl (by ((assumption))) rfl ?_
      refine s_pickH_f rfl rfl (by ((assumption))) rfl ?_
      refine s_move rfl rfl ?_
      refine s_guard rfl rfl rfl (fun hc4 => ?_) (fun hc4 => ?_)
      · (exfalso; (cases hc4; done))
      · simp only [Bool.not_true] at hc4
        refine s_guard_f rfl rfl (by ((rfl))) rfl ?_
        refine s_guard_f rfl rfl (by ((rfl))) rfl ?_
        refine s_pick_f rfl rfl rfl ?_
        refine s_assign rfl rfl ?_
        refine SXs_nilK (fr' := [(2, _)]) rfl ?_
        refine KSs_wp ?_
        refine WPs_ret ?_
        refine RLs_start ?_
        refine RLs_tmp rfl ?_
        refine RLs_fin1 ?_
        exact fun w hS => ⟨by congr 1; rw [Bool.eq_iff_iff]; (simp at *; omega), hS.sl (by (repeat (first | exact Sl.refl _ | refine Sl.skip ?_)))⟩
  · simp only [decide_eq_false_iff_not, Bool.not_true] at hc1
    refine s_guard_f rfl rfl (by ((simp_all; done))) rfl ?_
    refine s_guard_f rfl rfl (by ((simp_all; done))) rfl ?_
    refine s_pickH_f rfl rfl (by ((simp_all; done))) rfl ?_
    refine s_move rfl rfl ?_
    refine s_guard rfl rfl rfl (fun hc5 => ?_) (fun hc5 => ?_)
    · (exfalso; (cases hc5; done))
    · simp only [Bool.not_true] at hc5
      refine s_guard_f rfl rfl (by ((rfl))) rfl ?_
      refine s_guard_f rfl rfl (by ((rfl))) rfl ?_
      refine s_pick_f rfl rfl rfl ?_
      refine s_move rfl rfl ?_
      refine s_guard rfl rfl rfl (fun hc7 => ?_) (fun hc7 => ?_)
      · (exfalso; (cases hc7; done))
      · simp only [Bool.not_true] at hc7
        refine s_guard_f rfl rfl (by ((rfl))) rfl ?_
        refine s_guard_f rfl rfl (by ((rfl))) rfl ?_
        refine s_pick_f rfl rfl rfl ?_
        refine s_assign rfl rfl ?_
        refine SXs_nilK (fr' := [(2, _)]) rfl ?_
        refine KSs_wp ?_
        refine WPs_ret ?_
        refine RLs_start ?_
        refine RLs_tmp rfl ?_
        refine RLs_fin1 ?_
        exact fun w hS => ⟨by congr 1; rw [Bool.eq_iff_iff]; (simp at *; omega), hS.sl (by (repeat (first | exact Sl.refl _ | refine Sl.skip ?_)))⟩

theorem none_spec {g : World} {F : List HP} {a b : Nat} :
    RCs Tryz.prog 107 [.agg [.int .u32 (a : Int), .int .u32 (b : Int)].toArray] g F (fun u w => u = .bool (decide (a = 0 ∧ b = 0)) ∧ St g w F) := by
  refine RCs_of_WPs Tryz.func107 rfl Tryz.ntmps107 rfl Tryz.results107 ?_
  refine WPs_seq ?_
  refine WPs_regionK [1] ?_
  refine s_box (cl := [_, _]) rfl rfl rfl (fun b1 => ?_)
  refine s_assign rfl rfl ?_
  refine SXs_nilK (fr' := [(1, _)]) rfl ?_
  refine KSs_wp ?_
  refine WPs_seq ?_
  refine WPs_regionK [2] ?_
  refine s_loadN Tryz.isAgg44 Tryz.sizeOf44 (vs := [_, _]) rfl rfl (by exact csin (i := 0) (k := 2) rfl rfl) rfl ?_
  refine s_build (vs := []) (cs := [_, _]) rfl rfl (build_44_) ?_
  refine s_eqlV rfl rfl rfl (eq_loc _ _ _ _) ?_
  refine s_assign rfl rfl ?_
  refine SXs_nilK (fr' := [(2, _)]) rfl ?_
  refine KSs_wp ?_
  refine WPs_ret ?_
  refine RLs_start ?_
  refine RLs_tmp rfl ?_
  refine RLs_fin1 ?_
  exact fun w hS => ⟨by congr 1; rw [Bool.eq_iff_iff]; (simp; done), hS.sl (by (repeat (first | exact Sl.refl _ | refine Sl.skip ?_)))⟩
def locOk (a b : Nat) : Prop := (a = 0 ∧ b = 0) ∨ (1 ≤ a ∧ a ≤ 16777215 ∧ 16 ≤ b ∧ b ≤ 16777216)
instance (a b : Nat) : Decidable (locOk a b) := by unfold locOk; infer_instance
theorem locMay_spec {g : World} {F : List HP} {a b : Nat} :
    RCs Tryz.prog 60 [.agg [.int .u32 (a : Int), .int .u32 (b : Int)].toArray] g F (fun u w => u = .bool (decide (locOk a b)) ∧ St g w F) := by
  refine RCs_of_WPs Tryz.func60 rfl Tryz.ntmps60 rfl Tryz.results60 ?_
  refine WPs_seq ?_
  refine WPs_regionK [1] ?_
  refine s_box (cl := [_, _]) rfl rfl rfl (fun b1 => ?_)
  refine s_assign rfl rfl ?_
  refine SXs_nilK (fr' := [(1, _)]) rfl ?_
  refine KSs_wp ?_
  refine WPs_seq ?_
  refine WPs_regionK [2] ?_
  refine s_loadN Tryz.isAgg44 Tryz.sizeOf44 (vs := [_, _]) rfl rfl (by exact csin (i := 0) (k := 2) rfl rfl) rfl ?_
  refine s_call Tryz.call107 rfl (vs := [_]) rfl (RCs.perm (by (repeat ((exact List.Perm.refl _)))) (none_spec)) ?_
  rintro v w ⟨rfl, hS⟩
  refine SXs_go hS ?_
  clear hS; clear w
  simp only [putF]
  refine s_move rfl rfl ?_
  refine s_guard rfl rfl rfl (fun hc1 => ?_) (fun hc1 => ?_)
  · simp only [decide_eq_false_iff_not] at hc1
    refine s_loadN Tryz.isAgg44 Tryz.sizeOf44 (vs := [_, _]) rfl rfl (by exact csin (i := 0) (k := 2) rfl rfl) rfl ?_
    refine s_guard_t2 rfl rfl (by ((simp_all; done))) rfl ?_
    refine s_call Tryz.call108 rfl (vs := [_]) rfl (RCs.perm (by (repeat ((exact List.Perm.refl _)))) (stands_spec)) ?_
    rintro v w ⟨rfl, hS⟩
    refine SXs_go hS ?_
    clear hS; clear w
    simp only [putF]
    refine s_pickB rfl rfl rfl rfl ?_
    refine s_assign rfl rfl ?_
    refine SXs_nilK (fr' := [(2, _)]) rfl ?_
    refine KSs_wp ?_
    refine WPs_ret ?_
    refine RLs_start ?_
    refine RLs_tmp rfl ?_
    refine RLs_fin1 ?_
    exact fun w hS => ⟨by congr 1; rw [Bool.eq_iff_iff]; unfold locOk; by_cases h0 : a = 0 ∧ b = 0 <;> simp [h0] <;> omega, hS.sl (by (repeat (first | exact Sl.refl _ | refine Sl.skip ?_)))⟩
  · simp only [decide_eq_true_eq, Bool.not_false] at hc1
    refine s_guard_f rfl rfl (by ((simp; assumption))) rfl ?_
    refine s_pickH_t rfl rfl (by ((simp; assumption))) rfl ?_
    refine s_assign rfl rfl ?_
    refine SXs_nilK (fr' := [(2, _)]) rfl ?_
    refine KSs_wp ?_
    refine WPs_ret ?_
    refine RLs_start ?_
    refine RLs_tmp rfl ?_
    refine RLs_fin1 ?_
    exact fun w hS => ⟨by congr 1; rw [Bool.eq_iff_iff]; unfold locOk; by_cases h0 : a = 0 ∧ b = 0 <;> simp [h0] <;> omega, hS.sl (by (repeat (first | exact Sl.refl _ | refine Sl.skip ?_)))⟩
end Go.Proofs.YthodbnmeggkkoaaGreatDoor
/-
  Package record: what may be, how long it is.
-/
namespace Go.Proofs.YthodbnmeggkkoaaGreatDoor
open Go Go.RowKit Go.Hb Go.Proofs

structure RecM where
  seq : Nat
  kind : Int
  key : List UInt8
  value : List UInt8
  ps : Nat
  po : Nat

def recCs (r : RecM) (ka va : Option Addr) (kc vc : Nat) : List Value := [.int .u64 (r.seq : Int), .int .i64 r.kind, .slice ka r.key.length kc, .slice va r.value.length vc, .int .u32 (r.ps : Int), .int .u32 (r.po : Int)]
def recOk (r : RecM) : Prop := (r.kind = 1 ∨ (r.kind = 2 ∧ r.value.length = 0)) ∧ 1 ≤ r.seq ∧ r.seq ≤ 1099511627776 ∧ (1 ≤ r.key.length ∧ r.key.length ≤ 64) ∧ r.value.length ≤ 1024 ∧ locOk r.ps r.po
instance (r : RecM) : Decidable (recOk r) := by unfold recOk; infer_instance

theorem recNo_seq {r : RecM} (h : r.seq < 1) : Value.bool false = Value.bool (decide (recOk r)) := by
  have hno : ¬ recOk r := by unfold recOk; intro hh; omega
  simp [hno]

theorem recMay_spec {g : World} {F : List HP} {r : RecM} {ka va : Option Addr} {kc vc : Nat} (hK : RdB g F (.slice ka r.key.length kc) r.key) (hV : RdB g F (.slice va r.value.length vc) r.value) :
    RCs Tryz.prog 23 [.agg [.int .u64 (r.seq : Int), .int .i64 r.kind, .slice ka r.key.length kc, .slice va r.value.length vc, .int .u32 (r.ps : Int), .int .u32 (r.po : Int)].toArray] g F (fun u w => u = .bool (decide (recOk r)) ∧ St g w F) := by
  refine RCs_of_WPs Tryz.func23 rfl Tryz.ntmps23 rfl Tryz.results23 ?_
  refine WPs_seq ?_
  refine WPs_regionK [1] ?_
  refine s_box (cl := [_, _, _, _, _, _]) rfl rfl rfl (fun b1 => ?_)
  refine s_assign rfl rfl ?_
  refine SXs_nilK (fr' := [(1, _)]) rfl ?_
  refine KSs_wp ?_
  refine WPs_seq ?_
  refine WPs_regionK [1, 3] ?_
  refine s_fieldAddr fo_46_1 rfl rfl ?_
  refine s_load1 Tryz.isAgg3 rfl rfl (by exact cin (i := 0) rfl rfl) ?_
  refine s_eql rfl rfl rfl ?_
  refine s_move rfl rfl ?_
  refine s_guard rfl rfl rfl (fun hc1 => ?_) (fun hc1 => ?_)
  · simp only [decide_eq_false_iff_not] at hc1
    refine s_fieldAddr fo_46_1 rfl rfl ?_
    refine s_guard_t2 rfl rfl (by ((simp; assumption))) rfl ?_
    refine s_load1 Tryz.isAgg3 rfl rfl (by exact cin (i := 0) rfl rfl) ?_
    refine s_guard_t2 rfl rfl (by ((simp; assumption))) rfl ?_
    refine s_eql rfl rfl rfl ?_
    refine s_guard_t2 rfl rfl (by ((simp; assumption))) rfl ?_
    refine s_move rfl rfl ?_
    refine s_guard rfl rfl rfl (fun hc2 => ?_) (fun hc2 => ?_)
    · simp only [decide_eq_true_eq] at hc2
      refine s_fieldAddr fo_46_3 rfl rfl ?_
      refine s_guard_t2 rfl rfl (by ((simp; assumption))) rfl ?_
      refine s_load1 Tryz.isAgg42 rfl rfl (by exact cin (i := 0) rfl rfl) ?_
      refine s_guard_t2 rfl rfl (by ((simp; assumption))) rfl ?_
      refine s_len rfl Tryz.underlying42 rfl rfl ?_
      refine s_guard_t2 rfl rfl (by ((simp; assumption))) rfl ?_
      refine s_eql rfl rfl rfl ?_
      refine s_guard_t2 rfl rfl (by ((simp; assumption))) rfl ?_
      refine s_pickB rfl rfl rfl rfl ?_
      refine s_pickB rfl rfl rfl rfl ?_
      refine s_assign rfl rfl ?_
      refine SXs_nilK (fr' := [(1, _), (3, _)]) rfl ?_
      refine KSs_wp ?_
      refine WPs_seq ?_
      refine WPs_regionK [2] ?_
      refine s_move rfl rfl ?_
      refine s_move rfl rfl ?_
      refine s_guard rfl rfl rfl (fun hc3 => ?_) (fun hc3 => ?_)
      · refine s_fieldAddr fo_46_0 rfl rfl ?_
        refine s_guard_t2 rfl rfl (by ((assumption))) rfl ?_
        refine s_load1 Tryz.isAgg36 rfl rfl (by exact cin (i := 0) rfl rfl) ?_
        refine s_guard_t2 rfl rfl (by ((assumption))) rfl ?_
        refine s_geq rfl rfl rfl ?_
        refine s_pickB rfl rfl rfl rfl ?_
        refine s_move rfl rfl ?_
        refine s_guard rfl rfl rfl (fun hc4 => ?_) (fun hc4 => ?_)
        · refine s_fieldAddr fo_46_0 rfl rfl ?_
          refine s_guard_t2 rfl rfl (by ((assumption))) rfl ?_
          refine s_load1 Tryz.isAgg36 rfl rfl (by exact cin (i := 0) rfl rfl) ?_
          refine s_guard_t2 rfl rfl (by ((assumption))) rfl ?_
          refine s_leq rfl rfl rfl ?_
          refine s_pickB rfl rfl rfl rfl ?_
          refine s_move rfl rfl ?_
          refine s_guard rfl rfl rfl (fun hc5 => ?_) (fun hc5 => ?_)
          · refine s_fieldAddr fo_46_2 rfl rfl ?_
            refine s_guard_t2 rfl rfl (by ((assumption))) rfl ?_
            refine s_load1 Tryz.isAgg42 rfl rfl (by exact cin (i := 0) rfl rfl) ?_
            refine s_guard_t2 rfl rfl (by ((assumption))) rfl ?_
            refine s_call Tryz.call58 rfl (vs := [_]) rfl (RCs.perm (by (repeat ((exact List.Perm.refl _)))) (keyMay_spec (xs := r.key) hK.cons)) ?_
            rintro v w ⟨rfl, hS⟩
            refine SXs_go hS ?_
            clear hS; clear w
            simp only [putF]
            refine s_pickB rfl rfl rfl rfl ?_
            refine s_move rfl rfl ?_
            refine s_guard rfl rfl rfl (fun hc6 => ?_) (fun hc6 => ?_)
            · refine s_fieldAddr fo_46_3 rfl rfl ?_
              refine s_guard_t2 rfl rfl (by ((assumption))) rfl ?_
              refine s_load1 Tryz.isAgg42 rfl rfl (by exact cin (i := 0) rfl rfl) ?_
              refine s_guard_t2 rfl rfl (by ((assumption))) rfl ?_
              refine s_call Tryz.call59 rfl (vs := [_]) rfl (RCs.perm (by (repeat ((exact List.Perm.refl _)))) (keyMayV_spec (xs := r.value) hV.cons)) ?_
              rintro v w ⟨rfl, hS⟩
              refine SXs_go hS ?_
              clear hS; clear w
              simp only [putF]
              refine s_pickB rfl rfl rfl rfl ?_
              refine s_move rfl rfl ?_
              refine s_guard rfl rfl rfl (fun hc7 => ?_) (fun hc7 => ?_)
              · refine s_fieldAddr fo_46_4 rfl rfl ?_
                refine s_guard_t2 rfl rfl (by ((assumption))) rfl ?_
                refine s_loadN Tryz.isAgg44 Tryz.sizeOf44 (vs := [_, _]) rfl rfl (by exact csin (i := 0) (k := 2) rfl rfl) rfl ?_
                refine s_guard_t2 rfl rfl (by ((assumption))) rfl ?_
                refine s_call Tryz.call60 rfl (vs := [_]) rfl (RCs.perm (by (repeat ((exact List.Perm.refl _)))) (locMay_spec)) ?_
                rintro v w ⟨rfl, hS⟩
                refine SXs_go hS ?_
                clear hS; clear w
                simp only [putF]
                refine s_pickB rfl rfl rfl rfl ?_
                refine s_assign rfl rfl ?_
                refine SXs_nilK (fr' := [(2, _)]) rfl ?_
                refine KSs_wp ?_
                refine WPs_ret ?_
                refine RLs_start ?_
                refine RLs_tmp rfl ?_
                refine RLs_fin1 ?_
                exact fun w hS => ⟨by clear hS; (congr 1; rw [Bool.eq_iff_iff, decide_eq_true_eq]; unfold recOk; simp only [Bool.cond_false_right, Bool.cond_true_left, Bool.and_eq_true, Bool.or_eq_true, decide_eq_true_eq] at *; grind), hS.sl (by (repeat (first | exact Sl.refl _ | refine Sl.skip ?_)))⟩
              · simp only [Bool.not_true] at hc7
                refine s_guard_f rfl rfl (by ((assumption))) rfl ?_
                refine s_guard_f rfl rfl (by ((assumption))) rfl ?_
                refine s_pickH_t rfl rfl (by ((simp_all; done))) rfl ?_
                refine s_assign rfl rfl ?_
                refine SXs_nilK (fr' := [(2, _)]) rfl ?_
                refine KSs_wp ?_
                refine WPs_ret ?_
                refine RLs_start ?_
                refine RLs_tmp rfl ?_
                refine RLs_fin1 ?_
                exact fun w hS => ⟨by clear hS; (exfalso; simp_all; done), hS.sl (by (repeat (first | exact Sl.refl _ | refine Sl.skip ?_)))⟩
            · simp only [Bool.not_true] at hc6
              refine s_guard_f rfl rfl (by ((assumption))) rfl ?_
              refine s_guard_f rfl rfl (by ((assumption))) rfl ?_
              refine s_pickH_f rfl rfl (by ((assumption))) rfl ?_
              refine s_move rfl rfl ?_
              refine s_guard rfl rfl rfl (fun hc8 => ?_) (fun hc8 => ?_)
              · (exfalso; (cases hc8; done))
              · simp only [Bool.not_true] at hc8
                refine s_guard_f rfl rfl (by ((rfl))) rfl ?_
                refine s_guard_f rfl rfl (by ((rfl))) rfl ?_
                refine s_pick_f rfl rfl rfl ?_
                refine s_assign rfl rfl ?_
                refine SXs_nilK (fr' := [(2, _)]) rfl ?_
                refine KSs_wp ?_
                refine WPs_ret ?_
                refine RLs_start ?_
                refine RLs_tmp rfl ?_
                refine RLs_fin1 ?_
                exact fun w hS => ⟨by clear hS; (congr 1; rw [Bool.eq_iff_iff, decide_eq_true_eq]; unfold recOk; simp only [Bool.cond_false_right, Bool.cond_true_left, Bool.and_eq_true, Bool.or_eq_true, decide_eq_true_eq, Bool.and_eq_false_iff, decide_eq_false_iff_not, Bool.or_eq_false_iff] at *; grind), hS.sl (by (repeat (first | exact Sl.refl _ | refine Sl.skip ?_)))⟩
          · simp only [Bool.not_true] at hc5
            refine s_guard_f rfl rfl (by ((assumption))) rfl ?_
            refine s_guard_f rfl rfl (by ((assumption))) rfl ?_
            refine s_pickH_f rfl rfl (by ((assumption))) rfl ?_
            refine s_move rfl rfl ?_
            refine s_guard rfl rfl rfl (fun hc9 => ?_) (fun hc9 => ?_)
            · (exfalso; (cases hc9; done))
            · simp only [Bool.not_true] at hc9
              refine s_guard_f rfl rfl (by ((rfl))) rfl ?_
              refine s_guard_f rfl rfl (by ((rfl))) rfl ?_
              refine s_pick_f rfl rfl rfl ?_
              refine s_move rfl rfl ?_
              refine s_guard rfl rfl rfl (fun hc11 => ?_) (fun hc11 => ?_)
              · (exfalso; (cases hc11; done))
              · simp only [Bool.not_true] at hc11
                refine s_guard_f rfl rfl (by ((rfl))) rfl ?_
                refine s_guard_f rfl rfl (by ((rfl))) rfl ?_
                refine s_pick_f rfl rfl rfl ?_
                refine s_assign rfl rfl ?_
                refine SXs_nilK (fr' := [(2, _)]) rfl ?_
                refine KSs_wp ?_
                refine WPs_ret ?_
                refine RLs_start ?_
                refine RLs_tmp rfl ?_
                refine RLs_fin1 ?_
                exact fun w hS => ⟨by clear hS; (congr 1; rw [Bool.eq_iff_iff, decide_eq_true_eq]; unfold recOk; simp only [Bool.cond_false_right, Bool.cond_true_left, Bool.and_eq_true, Bool.or_eq_true, decide_eq_true_eq, Bool.and_eq_false_iff, decide_eq_false_iff_not, Bool.or_eq_false_iff] at *; grind), hS.sl (by (repeat (first | exact Sl.refl _ | refine Sl.skip ?_)))⟩
        · simp only [Bool.not_true] at hc4
          refine s_guard_f rfl rfl (by ((assumption))) rfl ?_
          refine s_guard_f rfl rfl (by ((assumption))) rfl ?_
          refine s_pickH_f rfl rfl (by ((assumption))) rfl ?_
          refine s_move rfl rfl ?_
          refine s_guard rfl rfl rfl (fun hc12 => ?_) (fun hc12 => ?_)
          · (exfalso; (cases hc12; done))
          · simp only [Bool.not_true] at hc12
            refine s_guard_f rfl rfl (by ((rfl))) rfl ?_
            refine s_guard_f rfl rfl (by ((rfl))) rfl ?_
            refine s_pick_f rfl rfl rfl ?_
            refine s_move rfl rfl ?_
            refine s_guard rfl rfl rfl (fun hc16 => ?_) (fun hc16 => ?_)
            · (exfalso; (cases hc16; done))
            · simp only [Bool.not_true] at hc16
              refine s_guard_f rfl rfl (by ((rfl))) rfl ?_
              refine s_guard_f rfl rfl (by ((rfl))) rfl ?_
              refine s_pick_f rfl rfl rfl ?_
              refine s_move rfl rfl ?_
              refine s_guard rfl rfl rfl (fun hc18 => ?_) (fun hc18 => ?_)
              · (exfalso; (cases hc18; done))
              · simp only [Bool.not_true] at hc18
                refine s_guard_f rfl rfl (by ((rfl))) rfl ?_
                refine s_guard_f rfl rfl (by ((rfl))) rfl ?_
                refine s_pick_f rfl rfl rfl ?_
                refine s_assign rfl rfl ?_
                refine SXs_nilK (fr' := [(2, _)]) rfl ?_
                refine KSs_wp ?_
                refine WPs_ret ?_
                refine RLs_start ?_
                refine RLs_tmp rfl ?_
                refine RLs_fin1 ?_
                exact fun w hS => ⟨by clear hS; (congr 1; rw [Bool.eq_iff_iff, decide_eq_true_eq]; unfold recOk; simp only [Bool.cond_false_right, Bool.cond_true_left, Bool.and_eq_true, Bool.or_eq_true, decide_eq_true_eq, Bool.and_eq_false_iff, decide_eq_false_iff_not, Bool.or_eq_false_iff] at *; grind), hS.sl (by (repeat (first | exact Sl.refl _ | refine Sl.skip ?_)))⟩
      · simp only [Bool.not_true] at hc3
        refine s_guard_f rfl rfl (by ((assumption))) rfl ?_
        refine s_guard_f rfl rfl (by ((assumption))) rfl ?_
        refine s_pickH_f rfl rfl (by ((assumption))) rfl ?_
        refine s_move rfl rfl ?_
        refine s_guard rfl rfl rfl (fun hc19 => ?_) (fun hc19 => ?_)
        · (exfalso; (cases hc19; done))
        · simp only [Bool.not_true] at hc19
          refine s_guard_f rfl rfl (by ((rfl))) rfl ?_
          refine s_guard_f rfl rfl (by ((rfl))) rfl ?_
          refine s_pick_f rfl rfl rfl ?_
          refine s_move rfl rfl ?_
          refine s_guard rfl rfl rfl (fun hc27 => ?_) (fun hc27 => ?_)
          · (exfalso; (cases hc27; done))
          · simp only [Bool.not_true] at hc27
            refine s_guard_f rfl rfl (by ((rfl))) rfl ?_
            refine s_guard_f rfl rfl (by ((rfl))) rfl ?_
            refine s_pick_f rfl rfl rfl ?_
            refine s_move rfl rfl ?_
            refine s_guard rfl rfl rfl (fun hc31 => ?_) (fun hc31 => ?_)
            · (exfalso; (cases hc31; done))
            · simp only [Bool.not_true] at hc31
              refine s_guard_f rfl rfl (by ((rfl))) rfl ?_
              refine s_guard_f rfl rfl (by ((rfl))) rfl ?_
              refine s_pick_f rfl rfl rfl ?_
              refine s_move rfl rfl ?_
              refine s_guard rfl rfl rfl (fun hc33 => ?_) (fun hc33 => ?_)
              · (exfalso; (cases hc33; done))
              · simp only [Bool.not_true] at hc33
                refine s_guard_f rfl rfl (by ((rfl))) rfl ?_
                refine s_guard_f rfl rfl (by ((rfl))) rfl ?_
                refine s_pick_f rfl rfl rfl ?_
                refine s_assign rfl rfl ?_
                refine SXs_nilK (fr' := [(2, _)]) rfl ?_
                refine KSs_wp ?_
                refine WPs_ret ?_
                refine RLs_start ?_
                refine RLs_tmp rfl ?_
                refine RLs_fin1 ?_
                exact fun w hS => ⟨by clear hS; (congr 1; rw [Bool.eq_iff_iff, decide_eq_true_eq]; unfold recOk; simp only [Bool.cond_false_right, Bool.cond_true_left, Bool.and_eq_false_iff, decide_eq_false_iff_not, Bool.or_eq_false_iff] at *; grind), hS.sl (by (repeat (first | exact Sl.refl _ | refine Sl.skip ?_)))⟩
    · simp only [decide_eq_false_iff_not, Bool.not_true] at hc2
      refine s_guard_f rfl rfl (by ((simp; assumption))) rfl ?_
      refine s_guard_f rfl rfl (by ((simp; assumption))) rfl ?_
      refine s_guard_f rfl rfl (by ((simp; assumption))) rfl ?_
      refine s_guard_t2 rfl rfl (by ((simp; assumption))) rfl ?_
      refine s_pickH_f rfl rfl (by ((simp; assumption))) rfl ?_
      refine s_pickB rfl rfl rfl rfl ?_
      refine s_assign rfl rfl ?_
      refine SXs_nilK (fr' := [(1, _), (3, _)]) rfl ?_
      refine KSs_wp ?_
      refine WPs_seq ?_
      refine WPs_regionK [2] ?_
      refine s_move rfl rfl ?_
      refine s_move rfl rfl ?_
      refine s_guard rfl rfl rfl (fun hc34 => ?_) (fun hc34 => ?_)
      · (exfalso; (simp at hc34; omega))
      · simp only [Bool.not_true] at hc34
        refine s_guard_f rfl rfl (by ((assumption))) rfl ?_
        refine s_guard_f rfl rfl (by ((assumption))) rfl ?_
        refine s_pickH_f rfl rfl (by ((assumption))) rfl ?_
        refine s_move rfl rfl ?_
        refine s_guard rfl rfl rfl (fun hc50 => ?_) (fun hc50 => ?_)
        · (exfalso; (cases hc50; done))
        · simp only [Bool.not_true] at hc50
          refine s_guard_f rfl rfl (by ((rfl))) rfl ?_
          refine s_guard_f rfl rfl (by ((rfl))) rfl ?_
          refine s_pick_f rfl rfl rfl ?_
          refine s_move rfl rfl ?_
          refine s_guard rfl rfl rfl (fun hc58 => ?_) (fun hc58 => ?_)
          · (exfalso; (cases hc58; done))
          · simp only [Bool.not_true] at hc58
            refine s_guard_f rfl rfl (by ((rfl))) rfl ?_
            refine s_guard_f rfl rfl (by ((rfl))) rfl ?_
            refine s_pick_f rfl rfl rfl ?_
            refine s_move rfl rfl ?_
            refine s_guard rfl rfl rfl (fun hc62 => ?_) (fun hc62 => ?_)
            · (exfalso; (cases hc62; done))
            · simp only [Bool.not_true] at hc62
              refine s_guard_f rfl rfl (by ((rfl))) rfl ?_
              refine s_guard_f rfl rfl (by ((rfl))) rfl ?_
              refine s_pick_f rfl rfl rfl ?_
              refine s_move rfl rfl ?_
              refine s_guard rfl rfl rfl (fun hc64 => ?_) (fun hc64 => ?_)
              · (exfalso; (cases hc64; done))
              · simp only [Bool.not_true] at hc64
                refine s_guard_f rfl rfl (by ((rfl))) rfl ?_
                refine s_guard_f rfl rfl (by ((rfl))) rfl ?_
                refine s_pick_f rfl rfl rfl ?_
                refine s_assign rfl rfl ?_
                refine SXs_nilK (fr' := [(2, _)]) rfl ?_
                refine KSs_wp ?_
                refine WPs_ret ?_
                refine RLs_start ?_
                refine RLs_tmp rfl ?_
                refine RLs_fin1 ?_
                exact fun w hS => ⟨by clear hS; (congr 1; rw [Bool.eq_iff_iff, decide_eq_true_eq]; unfold recOk; simp only [Bool.cond_false_right, Bool.and_eq_false_iff, decide_eq_false_iff_not] at *; grind), hS.sl (by (repeat (first | exact Sl.refl _ | refine Sl.skip ?_)))⟩
  · simp only [decide_eq_true_eq, Bool.not_false] at hc1
    refine s_guard_f rfl rfl (by ((simp; assumption))) rfl ?_
    refine s_guard_f rfl rfl (by ((simp; assumption))) rfl ?_
    refine s_guard_f rfl rfl (by ((simp; assumption))) rfl ?_
    refine s_guard_u rfl rfl rfl ?_
    refine s_guard_u rfl rfl rfl ?_
    refine s_guard_u rfl rfl rfl ?_
    refine s_guard_u rfl rfl rfl ?_
    refine s_guard_f rfl rfl (by ((simp; assumption))) rfl ?_
    refine s_pickH_t rfl rfl (by ((simp; assumption))) rfl ?_
    refine s_assign rfl rfl ?_
    refine SXs_nilK (fr' := [(1, _), (3, _)]) rfl ?_
    refine KSs_wp ?_
    refine WPs_seq ?_
    refine WPs_regionK [2] ?_
    refine s_move rfl rfl ?_
    refine s_move rfl rfl ?_
    refine s_guard rfl rfl rfl (fun hc65 => ?_) (fun hc65 => ?_)
    · simp only [decide_eq_true_eq] at hc65
      refine s_fieldAddr fo_46_0 rfl rfl ?_
      refine s_guard_t2 rfl rfl (by ((rfl))) rfl ?_
      refine s_load1 Tryz.isAgg36 rfl rfl (by exact cin (i := 0) rfl rfl) ?_
      refine s_guard_t2 rfl rfl (by ((rfl))) rfl ?_
      refine s_geq rfl rfl rfl ?_
      refine s_pick_t rfl rfl rfl ?_
      refine s_move rfl rfl ?_
      refine s_guard rfl rfl rfl (fun hc66 => ?_) (fun hc66 => ?_)
      · simp only [decide_eq_true_eq] at hc66
        refine s_fieldAddr fo_46_0 rfl rfl ?_
        refine s_guard_t2 rfl rfl (by ((simp; assumption))) rfl ?_
        refine s_load1 Tryz.isAgg36 rfl rfl (by exact cin (i := 0) rfl rfl) ?_
        refine s_guard_t2 rfl rfl (by ((simp; assumption))) rfl ?_
        refine s_leq rfl rfl rfl ?_
        refine s_pickB rfl rfl rfl rfl ?_
        refine s_move rfl rfl ?_
        refine s_guard rfl rfl rfl (fun hc67 => ?_) (fun hc67 => ?_)
        · refine s_fieldAddr fo_46_2 rfl rfl ?_
          refine s_guard_t2 rfl rfl (by ((assumption))) rfl ?_
          refine s_load1 Tryz.isAgg42 rfl rfl (by exact cin (i := 0) rfl rfl) ?_
          refine s_guard_t2 rfl rfl (by ((assumption))) rfl ?_
          refine s_call Tryz.call58 rfl (vs := [_]) rfl (RCs.perm (by (repeat ((exact List.Perm.refl _)))) (keyMay_spec (xs := r.key) hK.cons)) ?_
          rintro v w ⟨rfl, hS⟩
          refine SXs_go hS ?_
          clear hS; clear w
          simp only [putF]
          refine s_pickB rfl rfl rfl rfl ?_
          refine s_move rfl rfl ?_
          refine s_guard rfl rfl rfl (fun hc68 => ?_) (fun hc68 => ?_)
          · refine s_fieldAddr fo_46_3 rfl rfl ?_
            refine s_guard_t2 rfl rfl (by ((assumption))) rfl ?_
            refine s_load1 Tryz.isAgg42 rfl rfl (by exact cin (i := 0) rfl rfl) ?_
            refine s_guard_t2 rfl rfl (by ((assumption))) rfl ?_
            refine s_call Tryz.call59 rfl (vs := [_]) rfl (RCs.perm (by (repeat ((exact List.Perm.refl _)))) (keyMayV_spec (xs := r.value) hV.cons)) ?_
            rintro v w ⟨rfl, hS⟩
            refine SXs_go hS ?_
            clear hS; clear w
            simp only [putF]
            refine s_pickB rfl rfl rfl rfl ?_
            refine s_move rfl rfl ?_
            refine s_guard rfl rfl rfl (fun hc69 => ?_) (fun hc69 => ?_)
            · refine s_fieldAddr fo_46_4 rfl rfl ?_
              refine s_guard_t2 rfl rfl (by ((assumption))) rfl ?_
              refine s_loadN Tryz.isAgg44 Tryz.sizeOf44 (vs := [_, _]) rfl rfl (by exact csin (i := 0) (k := 2) rfl rfl) rfl ?_
              refine s_guard_t2 rfl rfl (by ((assumption))) rfl ?_
              refine s_call Tryz.call60 rfl (vs := [_]) rfl (RCs.perm (by (repeat ((exact List.Perm.refl _)))) (locMay_spec)) ?_
              rintro v w ⟨rfl, hS⟩
              refine SXs_go hS ?_
              clear hS; clear w
              simp only [putF]
              refine s_pickB rfl rfl rfl rfl ?_
              refine s_assign rfl rfl ?_
              refine SXs_nilK (fr' := [(2, _)]) rfl ?_
              refine KSs_wp ?_
              refine WPs_ret ?_
              refine RLs_start ?_
              refine RLs_tmp rfl ?_
              refine RLs_fin1 ?_
              exact fun w hS => ⟨by clear hS; (congr 1; rw [Bool.eq_iff_iff, decide_eq_true_eq]; unfold recOk; simp only [Bool.cond_false_right, Bool.and_eq_true, decide_eq_true_eq] at *; grind), hS.sl (by (repeat (first | exact Sl.refl _ | refine Sl.skip ?_)))⟩
            · simp only [Bool.not_true] at hc69
              refine s_guard_f rfl rfl (by ((assumption))) rfl ?_
              refine s_guard_f rfl rfl (by ((assumption))) rfl ?_
              refine s_pickH_f rfl rfl (by ((assumption))) rfl ?_
              refine s_assign rfl rfl ?_
              refine SXs_nilK (fr' := [(2, _)]) rfl ?_
              refine KSs_wp ?_
              refine WPs_ret ?_
              refine RLs_start ?_
              refine RLs_tmp rfl ?_
              refine RLs_fin1 ?_
              exact fun w hS => ⟨by clear hS; (congr 1; rw [Bool.eq_iff_iff, decide_eq_true_eq]; unfold recOk; simp only [Bool.cond_false_right, Bool.and_eq_true, decide_eq_true_eq, Bool.and_eq_false_iff, decide_eq_false_iff_not] at *; grind), hS.sl (by (repeat (first | exact Sl.refl _ | refine Sl.skip ?_)))⟩
          · simp only [Bool.not_true] at hc68
            refine s_guard_f rfl rfl (by ((assumption))) rfl ?_
            refine s_guard_f rfl rfl (by ((assumption))) rfl ?_
            refine s_pickH_f rfl rfl (by ((assumption))) rfl ?_
            refine s_move rfl rfl ?_
            refine s_guard rfl rfl rfl (fun hc70 => ?_) (fun hc70 => ?_)
            · (exfalso; (cases hc70; done))
            · simp only [Bool.not_true] at hc70
              refine s_guard_f rfl rfl (by ((rfl))) rfl ?_
              refine s_guard_f rfl rfl (by ((rfl))) rfl ?_
              refine s_pick_f rfl rfl rfl ?_
              refine s_assign rfl rfl ?_
              refine SXs_nilK (fr' := [(2, _)]) rfl ?_
              refine KSs_wp ?_
              refine WPs_ret ?_
              refine RLs_start ?_
              refine RLs_tmp rfl ?_
              refine RLs_fin1 ?_
              exact fun w hS => ⟨by clear hS; (congr 1; rw [Bool.eq_iff_iff, decide_eq_true_eq]; unfold recOk; simp only [Bool.cond_false_right, Bool.and_eq_true, decide_eq_true_eq, Bool.and_eq_false_iff, decide_eq_false_iff_not] at *; grind), hS.sl (by (repeat (first | exact Sl.refl _ | refine Sl.skip ?_)))⟩
        · simp only [Bool.not_true] at hc67
          refine s_guard_f rfl rfl (by ((assumption))) rfl ?_
          refine s_guard_f rfl rfl (by ((assumption))) rfl ?_
          refine s_pickH_f rfl rfl (by ((assumption))) rfl ?_
          refine s_move rfl rfl ?_
          refine s_guard rfl rfl rfl (fun hc71 => ?_) (fun hc71 => ?_)
          · (exfalso; (cases hc71; done))
          · simp only [Bool.not_true] at hc71
            refine s_guard_f rfl rfl (by ((rfl))) rfl ?_
            refine s_guard_f rfl rfl (by ((rfl))) rfl ?_
            refine s_pick_f rfl rfl rfl ?_
            refine s_move rfl rfl ?_
            refine s_guard rfl rfl rfl (fun hc73 => ?_) (fun hc73 => ?_)
            · (exfalso; (cases hc73; done))
            · simp only [Bool.not_true] at hc73
              refine s_guard_f rfl rfl (by ((rfl))) rfl ?_
              refine s_guard_f rfl rfl (by ((rfl))) rfl ?_
              refine s_pick_f rfl rfl rfl ?_
              refine s_assign rfl rfl ?_
              refine SXs_nilK (fr' := [(2, _)]) rfl ?_
              refine KSs_wp ?_
              refine WPs_ret ?_
              refine RLs_start ?_
              refine RLs_tmp rfl ?_
              refine RLs_fin1 ?_
              exact fun w hS => ⟨by clear hS; (congr 1; rw [Bool.eq_iff_iff, decide_eq_true_eq]; unfold recOk; simp only [Bool.cond_false_right, Bool.and_eq_false_iff, decide_eq_false_iff_not] at *; grind), hS.sl (by (repeat (first | exact Sl.refl _ | refine Sl.skip ?_)))⟩
      · simp only [decide_eq_false_iff_not, Bool.not_true] at hc66
        refine s_guard_f rfl rfl (by ((simp_all; done))) rfl ?_
        refine s_guard_f rfl rfl (by ((simp_all; done))) rfl ?_
        refine s_pickH_f rfl rfl (by ((simp_all; done))) rfl ?_
        refine s_move rfl rfl ?_
        refine s_guard rfl rfl rfl (fun hc74 => ?_) (fun hc74 => ?_)
        · (exfalso; (cases hc74; done))
        · simp only [Bool.not_true] at hc74
          refine s_guard_f rfl rfl (by ((rfl))) rfl ?_
          refine s_guard_f rfl rfl (by ((rfl))) rfl ?_
          refine s_pick_f rfl rfl rfl ?_
          refine s_move rfl rfl ?_
          refine s_guard rfl rfl rfl (fun hc78 => ?_) (fun hc78 => ?_)
          · (exfalso; (cases hc78; done))
          · simp only [Bool.not_true] at hc78
            refine s_guard_f rfl rfl (by ((rfl))) rfl ?_
            refine s_guard_f rfl rfl (by ((rfl))) rfl ?_
            refine s_pick_f rfl rfl rfl ?_
            refine s_move rfl rfl ?_
            refine s_guard rfl rfl rfl (fun hc80 => ?_) (fun hc80 => ?_)
            · (exfalso; (cases hc80; done))
            · simp only [Bool.not_true] at hc80
              refine s_guard_f rfl rfl (by ((rfl))) rfl ?_
              refine s_guard_f rfl rfl (by ((rfl))) rfl ?_
              refine s_pick_f rfl rfl rfl ?_
              refine s_assign rfl rfl ?_
              refine SXs_nilK (fr' := [(2, _)]) rfl ?_
              refine KSs_wp ?_
              refine WPs_ret ?_
              refine RLs_start ?_
              refine RLs_tmp rfl ?_
              refine RLs_fin1 ?_
              exact fun w hS => ⟨by clear hS; (exact recNo_seq (by omega)), hS.sl (by (repeat (first | exact Sl.refl _ | refine Sl.skip ?_)))⟩
    · (exfalso; (cases hc65; done))
theorem recSize_spec {g : World} {F : List HP} {r : RecM} {ka va : Option Addr} {kc vc : Nat} (h1 : r.key.length ≤ 1048576) (h2 : r.value.length ≤ 1048576) :
    RCs Tryz.prog 41 [.agg [.int .u64 (r.seq : Int), .int .i64 r.kind, .slice ka r.key.length kc, .slice va r.value.length vc, .int .u32 (r.ps : Int), .int .u32 (r.po : Int)].toArray] g F (fun u w => u = .int .i64 ((25 + r.key.length + r.value.length : Nat) : Int) ∧ St g w F) := by
  refine RCs_of_WPs Tryz.func41 rfl Tryz.ntmps41 rfl Tryz.results41 ?_
  refine WPs_seq ?_
  refine WPs_regionK [1] ?_
  refine s_box (cl := [_, _, _, _, _, _]) rfl rfl rfl (fun b1 => ?_)
  refine s_assign rfl rfl ?_
  refine SXs_nilK (fr' := [(1, _)]) rfl ?_
  refine KSs_wp ?_
  refine WPs_seq ?_
  refine WPs_regionK [2] ?_
  refine s_fieldAddr fo_46_2 rfl rfl ?_
  refine s_load1 Tryz.isAgg42 rfl rfl (by exact cin (i := 0) rfl rfl) ?_
  refine s_len rfl Tryz.underlying42 rfl rfl ?_
  refine s_add_ok rfl rfl rfl (inR_i64 (by omega) (by omega)) ?_
  refine s_fieldAddr fo_46_3 rfl rfl ?_
  refine s_load1 Tryz.isAgg42 rfl rfl (by exact cin (i := 0) rfl rfl) ?_
  refine s_len rfl Tryz.underlying42 rfl rfl ?_
  refine s_add_ok rfl rfl rfl (inR_i64 (by omega) (by omega)) ?_
  refine s_add_ok rfl rfl rfl (inR_i64 (by omega) (by omega)) ?_
  refine s_assign rfl rfl ?_
  refine SXs_nilK (fr' := [(2, _)]) rfl ?_
  refine KSs_wp ?_
  refine WPs_ret ?_
  refine RLs_start ?_
  refine RLs_tmp rfl ?_
  refine RLs_fin1 ?_
  exact fun w hS => ⟨by congr 1; omega, hS.sl (by (repeat (first | exact Sl.refl _ | refine Sl.skip ?_)))⟩
end Go.Proofs.YthodbnmeggkkoaaGreatDoor
/-
  Package record: Put.
-/
namespace Go.Proofs.YthodbnmeggkkoaaGreatDoor
open Go Go.RowKit Go.Hb Go.Proofs

/-- What 'sizes' holds. -/
structure SizesG (g : World) : Prop where
  h0 : g.cell? ⟨0, 0, none⟩ = some (.int .i64 1)
  h1 : g.cell? ⟨0, 1, none⟩ = some (.int .i64 1)
  h2 : g.cell? ⟨0, 2, none⟩ = some (.int .i64 2)
  h3 : g.cell? ⟨0, 3, none⟩ = some (.int .i64 6)
  h4 : g.cell? ⟨0, 4, none⟩ = some (.int .i64 3)
  h5 : g.cell? ⟨0, 5, none⟩ = some (.int .i64 4)

def hdOf (kind : Nat) (r : RecM) : List UInt8 := ((((([] ++ le kind 1) ++ le r.key.length 1) ++ le r.value.length 2) ++ le r.seq 6) ++ le r.ps 3) ++ le r.po 4
def encOf (kind : Nat) (r : RecM) : List UInt8 :=
  let run := hdOf kind r ++ le (crc (hdOf kind r)) 4
  ((run ++ r.key) ++ r.value) ++ le (crc ((run ++ r.key) ++ r.value)) 4

theorem recMay_ok {g : World} {F : List HP} {r : RecM} {ka va : Option Addr} {kc vc : Nat} (hK : RdB g F (.slice ka r.key.length kc) r.key) (hV : RdB g F (.slice va r.value.length vc) r.value) (hok : recOk r) :
    RCs Tryz.prog 23 [.agg [.int .u64 (r.seq : Int), .int .i64 r.kind, .slice ka r.key.length kc, .slice va r.value.length vc, .int .u32 (r.ps : Int), .int .u32 (r.po : Int)].toArray] g F (fun u w => u = .bool true ∧ St g w F) :=
  (recMay_spec hK hV).mono fun v w ⟨h1, h2⟩ => ⟨by rw [h1]; simp [hok], h2⟩

set_option maxHeartbeats 4000000 in
theorem recPut_spec {g : World} {F : List HP} {r : RecM} {ka va : Option Addr} {kc vc kind : Nat} (hH : HalfG g) (hS : SizesG g) (hK : RdB g F (.slice ka r.key.length kc) r.key) (hV : RdB g F (.slice va r.value.length vc) r.value) (hok : recOk r) (hk : r.kind = (kind : Int)) :
    RCs Tryz.prog 42 [.agg [.int .u64 (r.seq : Int), .int .i64 r.kind, .slice ka r.key.length kc, .slice va r.value.length vc, .int .u32 (r.ps : Int), .int .u32 (r.po : Int)].toArray] g F (fun u w => ∃ s, u = .tuple #[s, .int .i64 0] ∧ SlB g (encOf kind r) F s w) := by
  have hok' := hok
  unfold recOk locOk at hok'
  have hSz := hS
  rw [hk]
  refine RCs_of_WPs Tryz.func42 rfl Tryz.ntmps42 rfl Tryz.results42 ?_
  refine WPs_seq ?_
  refine WPs_regionK [1] ?_
  refine s_box (cl := [_, _, _, _, _, _]) rfl rfl rfl (fun b1 => ?_)
  refine s_assign rfl rfl ?_
  refine s_assign rfl rfl ?_
  refine SXs_nilK (fr' := [(1, _)]) rfl ?_
  refine KSs_wp ?_
  refine WPs_seq ?_
  refine WPs_seq ?_
  refine WPs_regionK [1, 10] ?_
  refine s_loadN Tryz.isAgg46 Tryz.sizeOf46 (vs := [_, _, _, _, _, _]) rfl rfl (by exact csin (i := 0) (k := 6) rfl rfl) rfl ?_
  refine s_call Tryz.call23 rfl (vs := [_]) rfl (RCs.perm (by (repeat ((exact List.Perm.refl _)))) (hk ▸ recMay_ok (r := r) hK.cons hV.cons hok)) ?_
  rintro v w ⟨rfl, hS⟩
  refine SXs_go hS ?_
  clear hS; clear w
  simp only [putF]
  refine s_not rfl rfl ?_
  refine SXs_nilK (fr' := [(1, _), (10, _)]) rfl ?_
  refine KSs_wp ?_
  refine WPs_cond rfl (fun hc1 => ?_) (fun hc1 => ?_)
  · (exfalso; (cases hc1; done))
  · simp only [Bool.not_true] at hc1
    refine WPs_skip ?_
    refine KSs_wp ?_
    refine WPs_seq ?_
    refine WPs_regionK [1, 4] ?_
    refine s_assign rfl rfl ?_
    refine SXs_nilK (fr' := [(1, _), (4, _)]) rfl ?_
    refine KSs_wp ?_
    refine WPs_seq ?_
    refine WPs_seq ?_
    refine WPs_regionK [1, 4, 32, 33] ?_
    refine s_fieldAddr fo_46_1 rfl rfl ?_
    refine s_load1 Tryz.isAgg3 rfl rfl (by exact cin (i := 0) rfl rfl) ?_
    refine s_conv_ok Tryz.underlying3 Tryz.underlying36 rfl rfl (inR_u64 (by omega) (by omega)) ?_
    refine s_fieldAddr fo_46_2 rfl rfl ?_
    refine s_load1 Tryz.isAgg42 rfl rfl (by exact cin (i := 0) rfl rfl) ?_
    refine s_len rfl Tryz.underlying42 rfl rfl ?_
    refine s_conv_ok Tryz.underlying3 Tryz.underlying36 rfl rfl (inR_u64 (by omega) (by omega)) ?_
    refine s_fieldAddr fo_46_3 rfl rfl ?_
    refine s_load1 Tryz.isAgg42 rfl rfl (by exact cin (i := 0) rfl rfl) ?_
    refine s_len rfl Tryz.underlying42 rfl rfl ?_
    refine s_conv_ok Tryz.underlying3 Tryz.underlying36 rfl rfl (inR_u64 (by omega) (by omega)) ?_
    refine s_fieldAddr fo_46_0 rfl rfl ?_
    refine s_load1 Tryz.isAgg36 rfl rfl (by exact cin (i := 0) rfl rfl) ?_
    refine s_fieldAddr fo_46_4 rfl rfl ?_
    refine s_fieldAddr fo_44_0 rfl rfl ?_
    refine s_load1 Tryz.isAgg34 rfl rfl (by exact cin (i := 0) rfl rfl) ?_
    refine s_conv_ok Tryz.underlying34 Tryz.underlying36 rfl rfl (inR_u64 (by omega) (by omega)) ?_
    refine s_fieldAddr fo_46_4 rfl rfl ?_
    refine s_fieldAddr fo_44_1 rfl rfl ?_
    refine s_load1 Tryz.isAgg34 rfl rfl (by exact cin (i := 0) rfl rfl) ?_
    refine s_conv_ok Tryz.underlying34 Tryz.underlying36 rfl rfl (inR_u64 (by omega) (by omega)) ?_
    refine s_build (vs := [(0, _), (1, _), (2, _), (3, _), (4, _), (5, _)]) (cs := [_, _, _, _, _, _]) rfl rfl (build_143_0_1_2_3_4_5 rfl rfl rfl rfl rfl rfl) ?_
    refine s_move rfl rfl ?_
    refine SXs_nilK (fr' := [(1, _), (4, _), (32, _), (33, _)]) rfl ?_
    refine KSs_wp ?_
    refine WPs_block ?_
    refine WPs_unroll 6 ?_
    refine WPs_seq ?_
    refine WPs_regionK [1, 4, 32, 33, 34] ?_
    refine s_lss rfl rfl rfl ?_
    refine SXs_nilK (fr' := [(1, _), (4, _), (32, _), (33, _), (34, _)]) rfl ?_
    refine KSs_wp ?_
    refine WPs_seq ?_
    refine WPs_cond rfl (fun hc2 => ?_) (fun hc2 => ?_)
    · simp only [decide_eq_true_eq] at hc2
      refine WPs_skip ?_
      refine KSs_wp ?_
      refine WPs_seq ?_
      refine WPs_block ?_
      refine WPs_seq ?_
      refine WPs_regionK [1, 4, 5, 6, 32, 33] ?_
      refine s_move rfl rfl ?_
      refine s_index Tryz.underlying143 Tryz.isAgg36 Tryz.sizeOf36 rfl rfl rfl (by omega) (by omega) rfl ?_
      refine s_assign rfl rfl ?_
      refine s_assign rfl rfl ?_
      refine SXs_nilK (fr' := [(1, _), (4, _), (5, _), (6, _), (32, _), (33, _)]) rfl ?_
      refine KSs_wp ?_
      refine WPs_regionK [1, 4, 32, 33] ?_
      skip
      refine s_move rfl rfl ?_
      refine s_move rfl rfl ?_
      refine s_move rfl rfl ?_
      refine s_idxArr Tryz.underlying145 Tryz.sizeOf3 rfl rfl rfl (by omega) (by omega) ?_
      refine s_load1 Tryz.isAgg3 rfl rfl (cin_old (by (exact hSz.h0))) ?_
      refine s_call Tryz.call89 rfl (vs := [_, _, _]) rfl (RCs.perm (by (repeat ((exact List.Perm.refl _)))) (fixed_spec (xs := ([] : List UInt8)) (n := kind) (k := 1) RdIn.nil (by simp [le_length]) (by omega) (by omega) (by omega) (by omega))) ?_
      rintro v w ⟨_, rfl, v1, c1, rfl, hS⟩
      refine SXs_go hS ?_
      clear hS; clear w
      simp only [putF, List.nil_append]
      refine s_move rfl rfl ?_
      refine s_extract rfl rfl rfl ?_
      refine s_extract rfl rfl rfl ?_
      refine s_assign rfl rfl ?_
      refine SXs_nilK (fr' := [(1, _), (4, _), (32, _), (33, _)]) rfl ?_
      refine KSs_wp ?_
      refine WPs_regionK [1, 4, 32, 33] ?_
      refine s_add_ok rfl rfl rfl (inR_i64 (by omega) (by omega)) ?_
      refine s_move rfl rfl ?_
      refine SXs_nilK (fr' := [(1, _), (4, _), (32, _), (33, _)]) rfl ?_
      refine KSs_unroll (N := 5) ?_
      refine WPs_seq ?_
      refine WPs_regionK [1, 4, 32, 33, 34] ?_
      refine s_lss rfl rfl rfl ?_
      refine SXs_nilK (fr' := [(1, _), (4, _), (32, _), (33, _), (34, _)]) rfl ?_
      refine KSs_wp ?_
      refine WPs_seq ?_
      refine WPs_cond rfl (fun hc3 => ?_) (fun hc3 => ?_)
      · simp only [decide_eq_true_eq] at hc3
        refine WPs_skip ?_
        refine KSs_wp ?_
        refine WPs_seq ?_
        refine WPs_block ?_
        refine WPs_seq ?_
        refine WPs_regionK [1, 4, 5, 6, 32, 33] ?_
        refine s_move rfl rfl ?_
        refine s_index Tryz.underlying143 Tryz.isAgg36 Tryz.sizeOf36 rfl rfl rfl (by omega) (by omega) rfl ?_
        refine s_assign rfl rfl ?_
        refine s_assign rfl rfl ?_
        refine SXs_nilK (fr' := [(1, _), (4, _), (5, _), (6, _), (32, _), (33, _)]) rfl ?_
        refine KSs_wp ?_
        refine WPs_regionK [1, 4, 32, 33] ?_
        refine SXs_rd (T := 5) 0 rfl (fun hRd => ?_)
        refine s_move rfl rfl ?_
        refine s_move rfl rfl ?_
        refine s_move rfl rfl ?_
        refine s_idxArr Tryz.underlying145 Tryz.sizeOf3 rfl rfl rfl (by omega) (by omega) ?_
        refine s_load1 Tryz.isAgg3 rfl rfl (cin_old (by (exact hSz.h1))) ?_
        refine s_call Tryz.call89 rfl (vs := [_, _, _]) rfl (RCs.perm (by (repeat ((exact List.Perm.refl _)))) (fixed_spec (xs := (([] : List UInt8) ++ le (kind) 1)) (n := r.key.length) (k := 1) hRd (by simp [le_length]) (by omega) (by omega) (by omega) (by omega))) ?_
        rintro v w ⟨_, rfl, v2, c2, rfl, hS⟩
        refine SXs_go hS ?_
        clear hS; clear w
        simp only [putF, List.nil_append]
        refine s_move rfl rfl ?_
        refine s_extract rfl rfl rfl ?_
        refine s_extract rfl rfl rfl ?_
        refine s_assign rfl rfl ?_
        refine SXs_nilK (fr' := [(1, _), (4, _), (32, _), (33, _)]) rfl ?_
        refine KSs_wp ?_
        refine WPs_regionK [1, 4, 32, 33] ?_
        refine s_add_ok rfl rfl rfl (inR_i64 (by omega) (by omega)) ?_
        refine s_move rfl rfl ?_
        refine SXs_nilK (fr' := [(1, _), (4, _), (32, _), (33, _)]) rfl ?_
        refine KSs_unroll (N := 4) ?_
        refine WPs_seq ?_
        refine WPs_regionK [1, 4, 32, 33, 34] ?_
        refine s_lss rfl rfl rfl ?_
        refine SXs_nilK (fr' := [(1, _), (4, _), (32, _), (33, _), (34, _)]) rfl ?_
        refine KSs_wp ?_
        refine WPs_seq ?_
        refine WPs_cond rfl (fun hc4 => ?_) (fun hc4 => ?_)
        · simp only [decide_eq_true_eq] at hc4
          refine WPs_skip ?_
          refine KSs_wp ?_
          refine WPs_seq ?_
          refine WPs_block ?_
          refine WPs_seq ?_
          refine WPs_regionK [1, 4, 5, 6, 32, 33] ?_
          refine s_move rfl rfl ?_
          refine s_index Tryz.underlying143 Tryz.isAgg36 Tryz.sizeOf36 rfl rfl rfl (by omega) (by omega) rfl ?_
          refine s_assign rfl rfl ?_
          refine s_assign rfl rfl ?_
          refine SXs_nilK (fr' := [(1, _), (4, _), (5, _), (6, _), (32, _), (33, _)]) rfl ?_
          refine KSs_wp ?_
          refine WPs_regionK [1, 4, 32, 33] ?_
          refine SXs_rd (T := 5) 0 rfl (fun hRd => ?_)
          refine s_move rfl rfl ?_
          refine s_move rfl rfl ?_
          refine s_move rfl rfl ?_
          refine s_idxArr Tryz.underlying145 Tryz.sizeOf3 rfl rfl rfl (by omega) (by omega) ?_
          refine s_load1 Tryz.isAgg3 rfl rfl (cin_old (by (exact hSz.h2))) ?_
          refine s_call Tryz.call89 rfl (vs := [_, _, _]) rfl (RCs.perm (by (repeat ((exact List.Perm.refl _)))) (fixed_spec (xs := ((([] : List UInt8) ++ le (kind) 1) ++ le (r.key.length) 1)) (n := r.value.length) (k := 2) hRd (by simp [le_length]) (by omega) (by omega) (by omega) (by omega))) ?_
          rintro v w ⟨_, rfl, v3, c3, rfl, hS⟩
          refine SXs_go hS ?_
          clear hS; clear w
          simp only [putF, List.nil_append]
          refine s_move rfl rfl ?_
          refine s_extract rfl rfl rfl ?_
          refine s_extract rfl rfl rfl ?_
          refine s_assign rfl rfl ?_
          refine SXs_nilK (fr' := [(1, _), (4, _), (32, _), (33, _)]) rfl ?_
          refine KSs_wp ?_
          refine WPs_regionK [1, 4, 32, 33] ?_
          refine s_add_ok rfl rfl rfl (inR_i64 (by omega) (by omega)) ?_
          refine s_move rfl rfl ?_
          refine SXs_nilK (fr' := [(1, _), (4, _), (32, _), (33, _)]) rfl ?_
          refine KSs_unroll (N := 3) ?_
          refine WPs_seq ?_
          refine WPs_regionK [1, 4, 32, 33, 34] ?_
          refine s_lss rfl rfl rfl ?_
          refine SXs_nilK (fr' := [(1, _), (4, _), (32, _), (33, _), (34, _)]) rfl ?_
          refine KSs_wp ?_
          refine WPs_seq ?_
          refine WPs_cond rfl (fun hc5 => ?_) (fun hc5 => ?_)
          · simp only [decide_eq_true_eq] at hc5
            refine WPs_skip ?_
            refine KSs_wp ?_
            refine WPs_seq ?_
            refine WPs_block ?_
            refine WPs_seq ?_
            refine WPs_regionK [1, 4, 5, 6, 32, 33] ?_
            refine s_move rfl rfl ?_
            refine s_index Tryz.underlying143 Tryz.isAgg36 Tryz.sizeOf36 rfl rfl rfl (by omega) (by omega) rfl ?_
            refine s_assign rfl rfl ?_
            refine s_assign rfl rfl ?_
            refine SXs_nilK (fr' := [(1, _), (4, _), (5, _), (6, _), (32, _), (33, _)]) rfl ?_
            refine KSs_wp ?_
            refine WPs_regionK [1, 4, 32, 33] ?_
            refine SXs_rd (T := 5) 0 rfl (fun hRd => ?_)
            refine s_move rfl rfl ?_
            refine s_move rfl rfl ?_
            refine s_move rfl rfl ?_
            refine s_idxArr Tryz.underlying145 Tryz.sizeOf3 rfl rfl rfl (by omega) (by omega) ?_
            refine s_load1 Tryz.isAgg3 rfl rfl (cin_old (by (exact hSz.h3))) ?_
            refine s_call Tryz.call89 rfl (vs := [_, _, _]) rfl (RCs.perm (by (repeat ((exact List.Perm.refl _)))) (fixed_spec (xs := (((([] : List UInt8) ++ le (kind) 1) ++ le (r.key.length) 1) ++ le (r.value.length) 2)) (n := r.seq) (k := 6) hRd (by simp [le_length]) (by omega) (by omega) (by omega) (by omega))) ?_
            rintro v w ⟨_, rfl, v4, c4, rfl, hS⟩
            refine SXs_go hS ?_
            clear hS; clear w
            simp only [putF, List.nil_append]
            refine s_move rfl rfl ?_
            refine s_extract rfl rfl rfl ?_
            refine s_extract rfl rfl rfl ?_
            refine s_assign rfl rfl ?_
            refine SXs_nilK (fr' := [(1, _), (4, _), (32, _), (33, _)]) rfl ?_
            refine KSs_wp ?_
            refine WPs_regionK [1, 4, 32, 33] ?_
            refine s_add_ok rfl rfl rfl (inR_i64 (by omega) (by omega)) ?_
            refine s_move rfl rfl ?_
            refine SXs_nilK (fr' := [(1, _), (4, _), (32, _), (33, _)]) rfl ?_
            refine KSs_unroll (N := 2) ?_
            refine WPs_seq ?_
            refine WPs_regionK [1, 4, 32, 33, 34] ?_
            refine s_lss rfl rfl rfl ?_
            refine SXs_nilK (fr' := [(1, _), (4, _), (32, _), (33, _), (34, _)]) rfl ?_
            refine KSs_wp ?_
            refine WPs_seq ?_
            refine WPs_cond rfl (fun hc6 => ?_) (fun hc6 => ?_)
            · simp only [decide_eq_true_eq] at hc6
              refine WPs_skip ?_
              refine KSs_wp ?_
              refine WPs_seq ?_
              refine WPs_block ?_
              refine WPs_seq ?_
              refine WPs_regionK [1, 4, 5, 6, 32, 33] ?_
              refine s_move rfl rfl ?_
              refine s_index Tryz.underlying143 Tryz.isAgg36 Tryz.sizeOf36 rfl rfl rfl (by omega) (by omega) rfl ?_
              refine s_assign rfl rfl ?_
              refine s_assign rfl rfl ?_
              refine SXs_nilK (fr' := [(1, _), (4, _), (5, _), (6, _), (32, _), (33, _)]) rfl ?_
              refine KSs_wp ?_
              refine WPs_regionK [1, 4, 32, 33] ?_
              refine SXs_rd (T := 5) 0 rfl (fun hRd => ?_)
              refine s_move rfl rfl ?_
              refine s_move rfl rfl ?_
              refine s_move rfl rfl ?_
              refine s_idxArr Tryz.underlying145 Tryz.sizeOf3 rfl rfl rfl (by omega) (by omega) ?_
              refine s_load1 Tryz.isAgg3 rfl rfl (cin_old (by (exact hSz.h4))) ?_
              refine s_call Tryz.call89 rfl (vs := [_, _, _]) rfl (RCs.perm (by (repeat ((exact List.Perm.refl _)))) (fixed_spec (xs := ((((([] : List UInt8) ++ le (kind) 1) ++ le (r.key.length) 1) ++ le (r.value.length) 2) ++ le (r.seq) 6)) (n := r.ps) (k := 3) hRd (by simp [le_length]) (by omega) (by omega) (by omega) (by omega))) ?_
              rintro v w ⟨_, rfl, v5, c5, rfl, hS⟩
              refine SXs_go hS ?_
              clear hS; clear w
              simp only [putF, List.nil_append]
              refine s_move rfl rfl ?_
              refine s_extract rfl rfl rfl ?_
              refine s_extract rfl rfl rfl ?_
              refine s_assign rfl rfl ?_
              refine SXs_nilK (fr' := [(1, _), (4, _), (32, _), (33, _)]) rfl ?_
              refine KSs_wp ?_
              refine WPs_regionK [1, 4, 32, 33] ?_
              refine s_add_ok rfl rfl rfl (inR_i64 (by omega) (by omega)) ?_
              refine s_move rfl rfl ?_
              refine SXs_nilK (fr' := [(1, _), (4, _), (32, _), (33, _)]) rfl ?_
              refine KSs_unroll (N := 1) ?_
              refine WPs_seq ?_
              refine WPs_regionK [1, 4, 32, 33, 34] ?_
              refine s_lss rfl rfl rfl ?_
              refine SXs_nilK (fr' := [(1, _), (4, _), (32, _), (33, _), (34, _)]) rfl ?_
              refine KSs_wp ?_
              refine WPs_seq ?_
              refine WPs_cond rfl (fun hc7 => ?_) (fun hc7 => ?_)
              · simp only [decide_eq_true_eq] at hc7
                refine WPs_skip ?_
                refine KSs_wp ?_
                refine WPs_seq ?_
                refine WPs_block ?_
                refine WPs_seq ?_
                refine WPs_regionK [1, 4, 5, 6, 32, 33] ?_
                refine s_move rfl rfl ?_
                refine s_index Tryz.underlying143 Tryz.isAgg36 Tryz.sizeOf36 rfl rfl rfl (by omega) (by omega) rfl ?_
                refine s_assign rfl rfl ?_
                refine s_assign rfl rfl ?_
                refine SXs_nilK (fr' := [(1, _), (4, _), (5, _), (6, _), (32, _), (33, _)]) rfl ?_
                refine KSs_wp ?_
                refine WPs_regionK [1, 4, 32, 33] ?_
                refine SXs_rd (T := 5) 0 rfl (fun hRd => ?_)
                refine s_move rfl rfl ?_
                refine s_move rfl rfl ?_
                refine s_move rfl rfl ?_
                refine s_idxArr Tryz.underlying145 Tryz.sizeOf3 rfl rfl rfl (by omega) (by omega) ?_
                refine s_load1 Tryz.isAgg3 rfl rfl (cin_old (by (exact hSz.h5))) ?_
                refine s_call Tryz.call89 rfl (vs := [_, _, _]) rfl (RCs.perm (by (repeat ((exact List.Perm.refl _)))) (fixed_spec (xs := (((((([] : List UInt8) ++ le (kind) 1) ++ le (r.key.length) 1) ++ le (r.value.length) 2) ++ le (r.seq) 6) ++ le (r.ps) 3)) (n := r.po) (k := 4) hRd (by simp [le_length]) (by omega) (by omega) (by omega) (by omega))) ?_
                rintro v w ⟨_, rfl, v6, c6, rfl, hS⟩
                refine SXs_go hS ?_
                clear hS; clear w
                simp only [putF, List.nil_append]
                refine s_move rfl rfl ?_
                refine s_extract rfl rfl rfl ?_
                refine s_extract rfl rfl rfl ?_
                refine s_assign rfl rfl ?_
                refine SXs_nilK (fr' := [(1, _), (4, _), (32, _), (33, _)]) rfl ?_
                refine KSs_wp ?_
                refine WPs_regionK [1, 4, 32, 33] ?_
                refine s_add_ok rfl rfl rfl (inR_i64 (by omega) (by omega)) ?_
                refine s_move rfl rfl ?_
                refine SXs_nilK (fr' := [(1, _), (4, _), (32, _), (33, _)]) rfl ?_
                refine KSs_unroll (N := 0) ?_
                refine WPs_seq ?_
                refine WPs_regionK [1, 4, 32, 33, 34] ?_
                refine s_lss rfl rfl rfl ?_
                refine SXs_nilK (fr' := [(1, _), (4, _), (32, _), (33, _), (34, _)]) rfl ?_
                refine KSs_wp ?_
                refine WPs_seq ?_
                refine WPs_cond rfl (fun hc8 => ?_) (fun hc8 => ?_)
                · (exfalso; (cases hc8; done))
                · simp only [decide_eq_false_iff_not] at hc8
                  refine WPs_exit rfl ?_
                  refine KSs_wp ?_
                  refine WPs_seq ?_
                  refine WPs_regionK [1, 7] ?_
                  refine SXs_rd (T := 5) 0 rfl (fun hRd => ?_)
                  refine s_move rfl rfl ?_
                  refine s_call Tryz.call90 rfl (vs := [_]) rfl (RCs.perm (by (repeat ((exact List.Perm.refl _)))) (cover_spec (xs := hdOf kind r) hH hRd (by simp [hdOf, le_length]))) ?_
                  rintro v w ⟨v7, c7, rfl, hS⟩
                  refine SXs_go hS ?_
                  clear hS; clear w
                  simp only [putF]
                  refine SXs_st (fun w hS => hS.sl (A := ownB (.slice v7 (hdOf kind r ++ le (crc (hdOf kind r)) 4).length c7) (hdOf kind r ++ le (crc (hdOf kind r)) 4) :: pt b1 (.cells [.int .u64 (r.seq : Int), .int .i64 (kind : Int), .slice ka r.key.length kc, .slice va r.value.length vc, .int .u32 (r.ps : Int), .int .u32 (r.po : Int)].toArray 46 (0, 0)) :: F) (by (repeat (first | exact Sl.refl _ | (apply Sl.pick 0; exact rfl) | (apply Sl.pick 6; exact rfl) | refine Sl.skip ?_)))) ?_
                  refine s_assign rfl rfl ?_
                  refine SXs_nilK (fr' := [(1, _), (7, _)]) rfl ?_
                  refine KSs_wp ?_
                  refine WPs_seq ?_
                  refine WPs_draw [2, 3] (List.contains []) (pt b1 (.cells [.int .u64 (r.seq : Int), .int .i64 (kind : Int), .slice ka r.key.length kc, .slice va r.value.length vc, .int .u32 (r.ps : Int), .int .u32 (r.po : Int)].toArray 46 (0, 0)) :: F) Tryz.mixed rfl (listed := #[false, false, false, false, false, false, false, false, false, false]) rfl ?_
                  refine st_take 0 rfl (by decide +kernel) (listed' := #[true, false, false, false, false, false, false, false, false, false]) rfl (by (intro _ h; (exact h.tail))) (gv_move rfl rfl) ?_
                  refine st_take 1 rfl (by decide +kernel) (listed' := #[true, true, false, false, false, false, false, false, false, false]) rfl (by (intro _ h; (exact h.tail))) (gv_fieldAddr fo_46_2 rfl rfl) ?_
                  refine st_take 2 rfl (by decide +kernel) (listed' := #[true, true, true, false, false, false, false, false, false, false]) rfl (by (intro _ h; (exact h.tail))) (gv_load1 Tryz.isAgg42 rfl rfl (by exact cin (i := 0) rfl rfl)) ?_
                  refine st_take 4 rfl (by decide +kernel) (listed' := #[true, true, true, false, true, false, false, false, false, false]) rfl (by (intro _ h; (exact h.tail))) (gv_fieldAddr fo_46_3 rfl rfl) ?_
                  refine st_take 5 rfl (by decide +kernel) (listed' := #[true, true, true, false, true, true, false, false, false, false]) rfl (by (intro _ h; (exact h.tail))) (gv_load1 Tryz.isAgg42 rfl rfl (by exact cin (i := 0) rfl rfl)) ?_
                  refine st_one 3 rfl (by decide +kernel) ?_
                  have hK1 : RdB g (pt b1 (.cells [.int .u64 (r.seq : Int), .int .i64 (kind : Int), .slice ka r.key.length kc, .slice va r.value.length vc, .int .u32 (r.ps : Int), .int .u32 (r.po : Int)].toArray 46 (0, 0)) :: F) (.slice ka r.key.length kc) r.key := hK.cons
                  have hrl : (hdOf kind r ++ le (crc (hdOf kind r)) 4).length = 21 := by simp [hdOf, le_length]
                  refine s_append (i := 0) slt_42 rfl rfl rfl rfl (by ((apply RdIn.cons; assumption))) (by exact bv_one _) (by ((simp only [maxLen]; omega))) (by ((omega))) (fun va52 vc52 => ?_)
                  simp only [List.set_cons_zero]
                  refine st_next (listed' := #[true, true, true, true, true, true, false, false, false, false]) rfl (by intro _ _; (intro _ h; (exact h.tail))) ?_
                  refine st_one 6 rfl (by decide +kernel) ?_
                  refine s_append (i := 0) slt_42 rfl rfl rfl rfl (by ((apply RdIn.cons; apply RdIn.cons; assumption))) (by exact bv_one _) (by ((simp only [maxLen]; omega))) (by ((omega))) (fun va55 vc55 => ?_)
                  simp only [List.set_cons_zero]
                  refine st_next (listed' := #[true, true, true, true, true, true, true, false, false, false]) rfl (by intro _ _; (intro _ h; (exact h.tail))) ?_
                  refine st_one 7 rfl (by decide +kernel) ?_
                  refine SXs_st (fun w hS => ownB_of (xs := ((hdOf kind r ++ le (crc (hdOf kind r)) 4) ++ r.key) ++ r.value) hS (by simp [bv])) ?_
                  refine SXs_rd (T := 5) 0 rfl (fun hRd2 => ?_)
                  refine s_call Tryz.call90 rfl (vs := [_]) rfl (RCs.perm (by (repeat ((exact List.Perm.refl _)))) (cover_spec (xs := ((hdOf kind r ++ le (crc (hdOf kind r)) 4) ++ r.key) ++ r.value) hH hRd2 (by simp [hdOf, le_length]; omega))) ?_
                  rintro v w ⟨v8, c8, rfl, hS⟩
                  refine SXs_go hS ?_
                  clear hS; clear w
                  simp only [putF]
                  refine st_next (listed' := #[true, true, true, true, true, true, true, true, false, false]) rfl (by intro _ _; (intro _ h; (exact h.tail.tail))) ?_
                  refine st_take 8 rfl (by decide +kernel) (listed' := #[true, true, true, true, true, true, true, true, true, false]) rfl (by (intro _ h; (exact h.tail.tail))) (gv_assign rfl rfl) ?_
                  refine st_take 9 rfl (by decide +kernel) (listed' := #[true, true, true, true, true, true, true, true, true, true]) rfl (by (intro _ h; (exact h.tail.tail))) (gv_assign rfl rfl) ?_
                  refine st_doneK (fr' := [(2, _), (3, _)]) (by decide +kernel) rfl ?_
                  refine KSs_wp ?_
                  refine WPs_ret ?_
                  refine RLs_start ?_
                  refine RLs_tmp rfl ?_
                  refine RLs_tmp rfl ?_
                  refine RLs_fin2 ?_
                  exact fun w hS => ⟨_, rfl, SlQ.of (hS.sl (by (repeat (first | exact Sl.refl _ | (apply Sl.pick 0; exact rfl) | refine Sl.skip ?_))))⟩
              · (exfalso; (cases hc7; done))
            · (exfalso; (cases hc6; done))
          · (exfalso; (cases hc5; done))
        · (exfalso; (cases hc4; done))
      · (exfalso; (cases hc3; done))
    · (exfalso; (cases hc2; done))
end Go.Proofs.YthodbnmeggkkoaaGreatDoor
/-
  The plain law of the sum: a byte that is turned is seen.
-/
namespace Go.Proofs.YthodbnmeggkkoaaGreatDoor
open Go Go.Hb Go.Proofs

theorem half_top : ∀ i < 16, (half.getD i 0) >>> 28 = i := by decide
theorem crT_top {s : Nat} (h : s < 2 ^ 32) : crT s >>> 28 = s &&& 15 := by
  have h15 : s &&& 15 < 16 := Nat.lt_of_le_of_lt Nat.and_le_right (by decide)
  unfold crT
  rw [Nat.shiftRight_xor_distrib, half_top _ h15]
  have : s >>> 4 >>> 28 = 0 := by
    rw [← Nat.shiftRight_add, Nat.shiftRight_eq_div_pow]
    exact Nat.div_eq_of_lt h
  rw [this, Nat.zero_xor]
theorem crT_inj {s t : Nat} (hs : s < 2 ^ 32) (ht : t < 2 ^ 32) (h : crT s = crT t) : s = t := by
  have h1 : s &&& 15 = t &&& 15 := by rw [← crT_top hs, ← crT_top ht, h]
  have h2 : s >>> 4 = t >>> 4 := by
    have h3 := h
    unfold crT at h3
    rw [h1] at h3
    have h4 : (s >>> 4 ^^^ half.getD (t &&& 15) 0) ^^^ half.getD (t &&& 15) 0 = (t >>> 4 ^^^ half.getD (t &&& 15) 0) ^^^ half.getD (t &&& 15) 0 := by rw [h3]
    simpa [Nat.xor_assoc] using h4
  have e1 : s &&& 15 = s % 16 := Nat.and_two_pow_sub_one_eq_mod s 4
  have e2 : t &&& 15 = t % 16 := Nat.and_two_pow_sub_one_eq_mod t 4
  rw [Nat.shiftRight_eq_div_pow, Nat.shiftRight_eq_div_pow] at h2
  omega
theorem xor_left_inj {a b c : Nat} (h : a ^^^ c = b ^^^ c) : a = b := by
  have : (a ^^^ c) ^^^ c = (b ^^^ c) ^^^ c := by rw [h]
  simpa [Nat.xor_assoc] using this
theorem crB_inj {s t c : Nat} (hs : s < 2 ^ 32) (ht : t < 2 ^ 32) (hc : c < 256) (h : crB s c = crB t c) : s = t := by
  have h1 : s ^^^ c < 2 ^ 32 := Nat.xor_lt_two_pow hs (by omega)
  have h2 : t ^^^ c < 2 ^ 32 := Nat.xor_lt_two_pow ht (by omega)
  exact xor_left_inj (crT_inj h1 h2 (crT_inj (crT_lt h1) (crT_lt h2) h))
theorem crM_inj : ∀ (bs : List UInt8) {s t : Nat}, s < 2 ^ 32 → t < 2 ^ 32 → crM s bs = crM t bs → s = t := by
  intro bs
  induction bs with
  | nil => intro s t _ _ h; exact h
  | cons c bs ih =>
    intro s t hs ht h
    exact crB_inj hs ht c.toNat_lt (ih (crB_lt hs c.toNat_lt) (crB_lt ht c.toNat_lt) h)
theorem crM_flip {a b : List UInt8} {c d : UInt8} {s : Nat} (hs : s < 2 ^ 32) (h : crM s (a ++ c :: b) = crM s (a ++ d :: b)) : c = d := by
  have e : ∀ x : UInt8, crM s (a ++ x :: b) = crM (crB (crM s a) x.toNat) b := fun x => by simp [crM]
  rw [e, e] at h
  have hm := crM_lt a hs
  have h1 := crM_inj b (crB_lt hm c.toNat_lt) (crB_lt hm d.toNat_lt) h
  have h2 : crM s a ^^^ c.toNat < 2 ^ 32 := Nat.xor_lt_two_pow hm (by have := c.toNat_lt; omega)
  have h3 : crM s a ^^^ d.toNat < 2 ^ 32 := Nat.xor_lt_two_pow hm (by have := d.toNat_lt; omega)
  have h4 := crT_inj h2 h3 (crT_inj (crT_lt h2) (crT_lt h3) h1)
  rw [Nat.xor_comm _ c.toNat, Nat.xor_comm _ d.toNat] at h4
  exact UInt8.toNat_inj.1 (xor_left_inj h4)
theorem crc_flip {a b : List UInt8} {c d : UInt8} (h : crc (a ++ c :: b) = crc (a ++ d :: b)) : c = d := by
  unfold crc at h
  rw [Nat.xor_comm, Nat.xor_comm 4294967295] at h
  exact crM_flip (by decide) (xor_left_inj h)

theorem rdN_le : ∀ (k n : Nat), n < 2 ^ (8 * k) → rdN (le n k) = n := by
  intro k
  induction k with
  | zero => intro n h; simp at h; subst h; rfl
  | succ k ih =>
    intro n h
    rw [le_succ, rdN_snoc, le_length]
    have h1 : rdN (le n k) = n % 2 ^ (8 * k) := by
      have h2 : le n k = le (n % 2 ^ (8 * k)) k := by
        unfold le
        apply List.map_congr_left
        intro i hi
        have hik : i < k := by simpa using hi
        apply UInt8.toNat_inj.1
        simp only [UInt8.toNat_ofNat', Nat.shiftRight_eq_div_pow]
        have e : 2 ^ (8 * k) = 2 ^ (8 * i) * (2 ^ 8 * 2 ^ (8 * (k - i - 1))) := by
          rw [← Nat.pow_add, ← Nat.pow_add]; congr 1; omega
        rw [e, Nat.mod_mul_right_div_self, Nat.mod_mul_right_mod]
      rw [h2, ih _ (Nat.mod_lt _ (Nat.pow_pos (by decide)))]
    have h3 : (UInt8.ofNat (n >>> (8 * k))).toNat = n >>> (8 * k) := by
      simp only [UInt8.toNat_ofNat', Nat.shiftRight_eq_div_pow]
      apply Nat.mod_eq_of_lt
      rw [Nat.div_lt_iff_lt_mul (Nat.pow_pos (by decide)), show (2 ^ 8 : Nat) * 2 ^ (8 * k) = 2 ^ (8 * (k + 1)) from by rw [← Nat.pow_add]; congr 1; omega]
      exact h
    rw [h1, h3, Nat.shiftRight_eq_div_pow]
    exact Nat.mod_add_div' n _

theorem le_inj {n m k : Nat} (hn : n < 2 ^ (8 * k)) (hm : m < 2 ^ (8 * k)) (h : le n k = le m k) : n = m := by
  rw [← rdN_le k n hn, ← rdN_le k m hm, h]

/-- Bytes with their sum behind them. -/
def cov (xs : List UInt8) : List UInt8 := xs ++ le (crc xs) 4
def rightP (ys : List UInt8) : Prop := ys.drop (ys.length - 4) = le (crc (ys.take (ys.length - 4))) 4
theorem cov_length (xs : List UInt8) : (cov xs).length = xs.length + 4 := by simp [cov, le_length]
theorem cov_right (xs : List UInt8) : rightP (cov xs) := by
  unfold rightP
  rw [cov_length, Nat.add_sub_cancel]
  simp [cov]

theorem set_split {xs : List UInt8} {i : Nat} {c : UInt8} (h : i < xs.length) : xs = xs.take i ++ xs[i] :: xs.drop (i + 1) ∧ xs.set i c = xs.take i ++ c :: xs.drop (i + 1) := by
  refine ⟨?_, ?_⟩
  · rw [List.getElem_cons_drop, List.take_append_drop]
  · rw [List.set_eq_take_append_cons_drop, if_pos h]

/-- A byte that is turned is seen. -/
theorem flip_seen {xs : List UInt8} {i : Nat} {c : UInt8} (hi : i < (cov xs).length) (hc : (cov xs)[i] ≠ c) : ¬ rightP ((cov xs).set i c) := by
  intro h
  unfold rightP at h
  rw [List.length_set, cov_length, Nat.add_sub_cancel] at h
  rcases Nat.lt_or_ge i xs.length with h1 | h1
  · have e : (cov xs).set i c = xs.set i c ++ le (crc xs) 4 := by simp [cov, List.set_append, h1]
    rw [e] at h
    have e1 : (xs.set i c ++ le (crc xs) 4).drop xs.length = le (crc xs) 4 := by
      rw [show xs.length = (xs.set i c).length from by simp, List.drop_left]
    have e2 : (xs.set i c ++ le (crc xs) 4).take xs.length = xs.set i c := by
      rw [show xs.length = (xs.set i c).length from by simp, List.take_left]
    rw [e1, e2] at h
    have h2 := le_inj (k := 4) (crc_lt _) (crc_lt _) h
    obtain ⟨s1, s2⟩ := set_split (c := c) h1
    rw [s2] at h2
    have h3 : crc (xs.take i ++ xs[i] :: xs.drop (i + 1)) = crc (xs.take i ++ c :: xs.drop (i + 1)) := by rw [← s1]; exact h2
    have h4 := crc_flip h3
    exact hc (by simp [cov, List.getElem_append_left h1, h4])
  · have e : (cov xs).set i c = xs ++ (le (crc xs) 4).set (i - xs.length) c := by
      unfold cov
      rw [List.set_append, if_neg (by omega)]
    rw [e, List.drop_left, List.take_left] at h
    have hl : i - xs.length < (le (crc xs) 4).length := by rw [cov_length] at hi; simp [le_length]; omega
    have h5 : ((le (crc xs) 4).set (i - xs.length) c)[i - xs.length]'(by simpa using hl) = c := by simp
    have h6 : (le (crc xs) 4)[i - xs.length] = c := by
      rw [← h5]
      congr 1
      exact h.symm
    exact hc (by simp only [cov]; rw [List.getElem_append_right h1]; exact h6)
end Go.Proofs.YthodbnmeggkkoaaGreatDoor
/-
  Package record: told.
-/
namespace Go.Hb
open Go Go.RowKit
section
variable {P : Program} {n : Nat} {fr : Fr} {g : World} {L : List HP} {K : Fr → World → Prop} {X : Ks} {ops : Array Oper}
variable {d : Nat} {ty : TypeId} {ps : String} {af : Array Edge} {rest : List Oper}
theorem s_sliceRdF (L0 : List HP) {T E k bytes : Nat} {z : Value} (hT : SlT P T E k bytes z) {x : Operand} {lo hi : Option Operand} {vlo vhi : Option Value} {v : Value} {m l h' : Nat} {xs : List Value} (hd : Nat.blt d n = true) (hx : evO fr x = some v) (hR : RdIn g L0 v k m xs)
    (hlo : evOpt fr lo vlo) (hhi : evOpt fr hi vhi) (hl : vlo = some (.int .i64 (l : Int)) ∨ (vlo = none ∧ l = 0)) (hh : vhi = some (.int .i64 (h' : Int)) ∨ (vhi = none ∧ h' = m)) (h1 : l ≤ h') (h2 : h' ≤ m)
    (h : ∀ va vc, RdIn g L0 (.slice va (h' - l) vc) k (h' - l) ((xs.drop (l * k)).take ((h' - l) * k)) → SXs P n ops rest ((d, .slice va (h' - l) vc) :: fr) g L K X) : SXs P n ops (⟨some d, .slice T x lo hi none, ty, ps, af, none⟩ :: rest) fr g L K X := by
  obtain ⟨hlen, hmx, hv⟩ := hR
  have hlen' : ((xs.drop (l * k)).take ((h' - l) * k)).length = (h' - l) * k := by
    rw [List.length_take, List.length_drop, hlen, Nat.sub_mul]
    have := Nat.mul_le_mul_right k h2
    omega
  rcases hv with ⟨az, rfl, rfl⟩ | ⟨b, o, cap, rfl, hc, hcs⟩
  · have hl0 : l = 0 := by omega
    have hh0 : h' = 0 := by omega
    have hlz : h' - l = 0 := by omega
    have hX := h az 0 (by rw [hlz] at hlen' ⊢; exact ⟨hlen', by omega, .inl ⟨_, rfl, rfl⟩⟩)
    rw [hlz] at hX
    refine s_gen hd (v := .slice az 0 0) (fun a' w hag _ => ?_) hX
    have hr := run_slice hT (a := az) (m := 0) (cap := 0) hl hh h1 h2 w
    simp only [execOp, hag.evO hx, hag.evOpt hlo, hag.evOpt hhi, Option.map_none, Sem.run_bind, hr, Result.andThen_ok, Sem.run_pure]
    simp [hl0, hh0]
  · refine s_gen hd (v := .slice (if cap = l then some ⟨b, o, none⟩ else some ⟨b, o + l * k, none⟩) (h' - l) (cap - l)) (fun a' w hag _ => ?_) (h _ _ ⟨hlen', by omega, .inr ?_⟩)
    · have hr := run_slice hT (a := some ⟨b, o, none⟩) (m := m) (cap := cap) hl hh h1 (by omega) w
      simp only [execOp, hag.evO hx, hag.evOpt hlo, hag.evOpt hhi, Option.map_none, Sem.run_bind, hr, Result.andThen_ok, Sem.run_pure, Option.map_some, add_none]
    · by_cases e : cap = l
      · refine ⟨b, o, cap - l, by simp [e], by omega, fun w hw j u hj => ?_⟩
        have : h' - l = 0 := by omega
        rw [this] at hj
        simp at hj
      · refine ⟨b, o + l * k, cap - l, by simp [e], by omega, fun w hw j u hj => ?_⟩
        rw [List.getElem?_take] at hj
        split at hj
        · rw [List.getElem?_drop] at hj
          have := hcs w hw _ u hj
          rwa [Nat.add_assoc]
        · cases hj

end
end Go.Hb
namespace Go.Proofs.YthodbnmeggkkoaaGreatDoor
open Go Go.RowKit Go.Hb Go.Proofs

theorem SizesG.all {g : World} (h : SizesG g) : ∀ j v, ([.int .i64 1, .int .i64 1, .int .i64 2, .int .i64 6, .int .i64 3, .int .i64 4] : List Value)[j]? = some v → g.cell? ⟨0, 0 + j, none⟩ = some v := by
  intro j v hj
  match j, hj with
  | 0, hj => cases hj; exact h.h0
  | 1, hj => cases hj; exact h.h1
  | 2, hj => cases hj; exact h.h2
  | 3, hj => cases hj; exact h.h3
  | 4, hj => cases hj; exact h.h4
  | 5, hj => cases hj; exact h.h5

theorem rd_drop {g : World} {F : List HP} {v : Value} {ys : List UInt8} {l : Nat} (h : RdIn g F v 1 (ys.length - l) (((bv ys).drop (l * 1)).take ((ys.length - l) * 1))) : RdB g F v (ys.drop l) :=
  rdb_of h (by rw [Nat.mul_one, Nat.mul_one, bv_drop, bv_take, ← List.length_drop, List.take_length])

theorem rdN_take_lt (l : List UInt8) (k : Nat) : rdN (l.take k) < 2 ^ (8 * k) :=
  Nat.lt_of_lt_of_le (rdN_lt _) (Nat.pow_le_pow_right (by decide) (by have : (l.take k).length ≤ k := List.length_take_le k l; omega))

set_option maxHeartbeats 2000000 in
theorem told_spec {g : World} {F : List HP} {v : Value} {xs : List UInt8} (hS : SizesG g) (hR : RdB g F v xs) (hl : 21 ≤ xs.length) :
    RCs Tryz.prog 85 [v] g F (fun u w => u = .tuple #[.agg [.int .u64 (rdN (((((xs.drop 1).drop 1).drop 2)).take 6) : Int), .int .i64 (rdN (xs.take 1) : Int), .slice none 0 0, .slice none 0 0, .int .u32 (rdN ((((((xs.drop 1).drop 1).drop 2).drop 6)).take 3) : Int), .int .u32 (rdN (((((((xs.drop 1).drop 1).drop 2).drop 6).drop 3)).take 4) : Int)].toArray,
      .int .i64 (rdN ((xs.drop 1).take 1) : Int), .int .i64 (rdN (((xs.drop 1).drop 1).take 2) : Int)] ∧ St g w F) := by
  have b0 := rdN_take_lt xs 1
  have b1 := rdN_take_lt (xs.drop 1) 1
  have b2 := rdN_take_lt ((xs.drop 1).drop 1) 2
  have b3 := rdN_take_lt (((xs.drop 1).drop 1).drop 2) 6
  have b4 := rdN_take_lt ((((xs.drop 1).drop 1).drop 2).drop 6) 3
  have b5 := rdN_take_lt (((((xs.drop 1).drop 1).drop 2).drop 6).drop 3) 4
  have hSz := hS
  have hR0 := hR
  refine RCs_of_WPs Tryz.func85 rfl Tryz.ntmps85 rfl Tryz.results85 ?_
  refine WPs_seq ?_
  refine WPs_regionK [0, 2] ?_
  refine s_alloc Tryz.zeroValue46 (cl := [_, _, _, _, _, _]) rfl rfl (fun b2 => ?_)
  refine s_assign rfl rfl ?_
  refine s_assign rfl rfl ?_
  refine SXs_nilK (fr' := [(0, _), (2, _)]) rfl ?_
  refine KSs_wp ?_
  refine WPs_seq ?_
  refine WPs_regionK [0, 2, 5] ?_
  refine s_alloc Tryz.zeroValue143 (cl := [_, _, _, _, _, _]) rfl rfl (fun b5 => ?_)
  refine SXs_nilK (fr' := [(0, _), (2, _), (5, _)]) rfl ?_
  refine KSs_wp ?_
  refine WPs_seq ?_
  refine WPs_seq ?_
  refine WPs_regionK [0, 2, 5, 8, 9] ?_
  refine s_loadN Tryz.isAgg145 Tryz.sizeOf145 (vs := [.int .i64 1, .int .i64 1, .int .i64 2, .int .i64 6, .int .i64 3, .int .i64 4]) rfl rfl (csin_old hSz.all) rfl ?_
  refine s_move rfl rfl ?_
  refine SXs_nilK (fr' := [(0, _), (2, _), (5, _), (8, _), (9, _)]) rfl ?_
  refine KSs_wp ?_
  refine WPs_block ?_
  refine WPs_unroll 6 ?_
  refine WPs_seq ?_
  refine WPs_regionK [0, 2, 5, 8, 9, 10] ?_
  refine s_lss rfl rfl rfl ?_
  refine SXs_nilK (fr' := [(0, _), (2, _), (5, _), (8, _), (9, _), (10, _)]) rfl ?_
  refine KSs_wp ?_
  refine WPs_seq ?_
  refine WPs_cond rfl (fun hc1 => ?_) (fun hc1 => ?_)
  · simp only [decide_eq_true_eq] at hc1
    refine WPs_skip ?_
    refine KSs_wp ?_
    refine WPs_seq ?_
    refine WPs_block ?_
    refine WPs_seq ?_
    refine WPs_regionK [0, 2, 5, 6, 7, 8, 9] ?_
    refine s_move rfl rfl ?_
    refine s_index Tryz.underlying145 Tryz.isAgg3 Tryz.sizeOf3 rfl rfl rfl (by omega) (by omega) rfl ?_
    refine s_assign rfl rfl ?_
    refine s_assign rfl rfl ?_
    refine SXs_nilK (fr' := [(0, _), (2, _), (5, _), (6, _), (7, _), (8, _), (9, _)]) rfl ?_
    refine KSs_wp ?_
    refine WPs_seq ?_
    refine WPs_regionK [0, 2, 5, 7, 8, 9] ?_
    refine s_move rfl rfl ?_
    refine s_move rfl rfl ?_
    refine s_move rfl rfl ?_
    refine s_call Tryz.call131 rfl (vs := [_, _]) rfl (RCs.perm (by (repeat ((exact List.Perm.refl _)))) (read_spec (k := 1) hR0.cons.cons (by omega) (by omega) (by (omega)))) ?_
    rintro v w ⟨rfl, hS⟩
    refine SXs_go hS ?_
    clear hS; clear w
    simp only [putF]
    refine s_move rfl rfl ?_
    refine s_extract rfl rfl rfl ?_
    refine s_extract rfl rfl rfl ?_
    refine s_idxArr Tryz.underlying143 Tryz.sizeOf36 rfl rfl rfl (by omega) (by omega) ?_
    refine s_store (i := 0) Tryz.sizeOf36 rfl rfl rfl (vs := [_]) rfl rfl rfl rfl ?_
    simp only [List.set_cons_zero, spl]
    refine SXs_nilK (fr' := [(0, _), (2, _), (5, _), (7, _), (8, _), (9, _)]) rfl ?_
    refine KSs_wp ?_
    refine WPs_regionK [0, 2, 5, 8, 9] ?_
    refine s_move rfl rfl ?_
    refine s_move rfl rfl ?_
    refine s_sliceRdF F slt_42 (l := 1) (vlo := some _) (vhi := none) rfl rfl hR0 rfl trivial (.inl rfl) (.inr ⟨rfl, rfl⟩) (by (omega)) (by omega) (fun va23 vc23 hR1 => ?_)
    have hR0 := rd_drop hR1
    clear hR1
    refine s_assign rfl rfl ?_
    refine SXs_nilK (fr' := [(0, _), (2, _), (5, _), (8, _), (9, _)]) rfl ?_
    refine KSs_wp ?_
    refine WPs_regionK [0, 2, 5, 8, 9] ?_
    refine s_add_ok rfl rfl rfl (inR_i64 (by omega) (by omega)) ?_
    refine s_move rfl rfl ?_
    refine SXs_nilK (fr' := [(0, _), (2, _), (5, _), (8, _), (9, _)]) rfl ?_
    refine KSs_unroll (N := 5) ?_
    refine WPs_seq ?_
    refine WPs_regionK [0, 2, 5, 8, 9, 10] ?_
    refine s_lss rfl rfl rfl ?_
    refine SXs_nilK (fr' := [(0, _), (2, _), (5, _), (8, _), (9, _), (10, _)]) rfl ?_
    refine KSs_wp ?_
    refine WPs_seq ?_
    refine WPs_cond rfl (fun hc2 => ?_) (fun hc2 => ?_)
    · simp only [decide_eq_true_eq] at hc2
      refine WPs_skip ?_
      refine KSs_wp ?_
      refine WPs_seq ?_
      refine WPs_block ?_
      refine WPs_seq ?_
      refine WPs_regionK [0, 2, 5, 6, 7, 8, 9] ?_
      refine s_move rfl rfl ?_
      refine s_index Tryz.underlying145 Tryz.isAgg3 Tryz.sizeOf3 rfl rfl rfl (by omega) (by omega) rfl ?_
      refine s_assign rfl rfl ?_
      refine s_assign rfl rfl ?_
      refine SXs_nilK (fr' := [(0, _), (2, _), (5, _), (6, _), (7, _), (8, _), (9, _)]) rfl ?_
      refine KSs_wp ?_
      refine WPs_seq ?_
      refine WPs_regionK [0, 2, 5, 7, 8, 9] ?_
      refine s_move rfl rfl ?_
      refine s_move rfl rfl ?_
      refine s_move rfl rfl ?_
      refine s_call Tryz.call131 rfl (vs := [_, _]) rfl (RCs.perm (by (repeat ((exact List.Perm.refl _)))) (read_spec (k := 1) hR0.cons.cons (by omega) (by omega) (by (simp; omega)))) ?_
      rintro v w ⟨rfl, hS⟩
      refine SXs_go hS ?_
      clear hS; clear w
      simp only [putF]
      refine s_move rfl rfl ?_
      refine s_extract rfl rfl rfl ?_
      refine s_extract rfl rfl rfl ?_
      refine s_idxArr Tryz.underlying143 Tryz.sizeOf36 rfl rfl rfl (by omega) (by omega) ?_
      refine s_store (i := 0) Tryz.sizeOf36 rfl rfl rfl (vs := [_]) rfl rfl rfl rfl ?_
      simp only [List.set_cons_zero, spl]
      refine SXs_nilK (fr' := [(0, _), (2, _), (5, _), (7, _), (8, _), (9, _)]) rfl ?_
      refine KSs_wp ?_
      refine WPs_regionK [0, 2, 5, 8, 9] ?_
      refine s_move rfl rfl ?_
      refine s_move rfl rfl ?_
      refine s_sliceRdF F slt_42 (l := 1) (vlo := some _) (vhi := none) rfl rfl hR0 rfl trivial (.inl rfl) (.inr ⟨rfl, rfl⟩) (by (simp; omega)) (by omega) (fun va23 vc23 hR1 => ?_)
      have hR0 := rd_drop hR1
      clear hR1
      refine s_assign rfl rfl ?_
      refine SXs_nilK (fr' := [(0, _), (2, _), (5, _), (8, _), (9, _)]) rfl ?_
      refine KSs_wp ?_
      refine WPs_regionK [0, 2, 5, 8, 9] ?_
      refine s_add_ok rfl rfl rfl (inR_i64 (by omega) (by omega)) ?_
      refine s_move rfl rfl ?_
      refine SXs_nilK (fr' := [(0, _), (2, _), (5, _), (8, _), (9, _)]) rfl ?_
      refine KSs_unroll (N := 4) ?_
      refine WPs_seq ?_
      refine WPs_regionK [0, 2, 5, 8, 9, 10] ?_
      refine s_lss rfl rfl rfl ?_
      refine SXs_nilK (fr' := [(0, _), (2, _), (5, _), (8, _), (9, _), (10, _)]) rfl ?_
      refine KSs_wp ?_
      refine WPs_seq ?_
      refine WPs_cond rfl (fun hc3 => ?_) (fun hc3 => ?_)
      · simp only [decide_eq_true_eq] at hc3
        refine WPs_skip ?_
        refine KSs_wp ?_
        refine WPs_seq ?_
        refine WPs_block ?_
        refine WPs_seq ?_
        refine WPs_regionK [0, 2, 5, 6, 7, 8, 9] ?_
        refine s_move rfl rfl ?_
        refine s_index Tryz.underlying145 Tryz.isAgg3 Tryz.sizeOf3 rfl rfl rfl (by omega) (by omega) rfl ?_
        refine s_assign rfl rfl ?_
        refine s_assign rfl rfl ?_
        refine SXs_nilK (fr' := [(0, _), (2, _), (5, _), (6, _), (7, _), (8, _), (9, _)]) rfl ?_
        refine KSs_wp ?_
        refine WPs_seq ?_
        refine WPs_regionK [0, 2, 5, 7, 8, 9] ?_
        refine s_move rfl rfl ?_
        refine s_move rfl rfl ?_
        refine s_move rfl rfl ?_
        refine s_call Tryz.call131 rfl (vs := [_, _]) rfl (RCs.perm (by (repeat ((exact List.Perm.refl _)))) (read_spec (k := 2) hR0.cons.cons (by omega) (by omega) (by (simp; omega)))) ?_
        rintro v w ⟨rfl, hS⟩
        refine SXs_go hS ?_
        clear hS; clear w
        simp only [putF]
        refine s_move rfl rfl ?_
        refine s_extract rfl rfl rfl ?_
        refine s_extract rfl rfl rfl ?_
        refine s_idxArr Tryz.underlying143 Tryz.sizeOf36 rfl rfl rfl (by omega) (by omega) ?_
        refine s_store (i := 0) Tryz.sizeOf36 rfl rfl rfl (vs := [_]) rfl rfl rfl rfl ?_
        simp only [List.set_cons_zero, spl]
        refine SXs_nilK (fr' := [(0, _), (2, _), (5, _), (7, _), (8, _), (9, _)]) rfl ?_
        refine KSs_wp ?_
        refine WPs_regionK [0, 2, 5, 8, 9] ?_
        refine s_move rfl rfl ?_
        refine s_move rfl rfl ?_
        refine s_sliceRdF F slt_42 (l := 2) (vlo := some _) (vhi := none) rfl rfl hR0 rfl trivial (.inl rfl) (.inr ⟨rfl, rfl⟩) (by (simp; omega)) (by omega) (fun va23 vc23 hR1 => ?_)
        have hR0 := rd_drop hR1
        clear hR1
        refine s_assign rfl rfl ?_
        refine SXs_nilK (fr' := [(0, _), (2, _), (5, _), (8, _), (9, _)]) rfl ?_
        refine KSs_wp ?_
        refine WPs_regionK [0, 2, 5, 8, 9] ?_
        refine s_add_ok rfl rfl rfl (inR_i64 (by omega) (by omega)) ?_
        refine s_move rfl rfl ?_
        refine SXs_nilK (fr' := [(0, _), (2, _), (5, _), (8, _), (9, _)]) rfl ?_
        refine KSs_unroll (N := 3) ?_
        refine WPs_seq ?_
        refine WPs_regionK [0, 2, 5, 8, 9, 10] ?_
        refine s_lss rfl rfl rfl ?_
        refine SXs_nilK (fr' := [(0, _), (2, _), (5, _), (8, _), (9, _), (10, _)]) rfl ?_
        refine KSs_wp ?_
        refine WPs_seq ?_
        refine WPs_cond rfl (fun hc4 => ?_) (fun hc4 => ?_)
        · simp only [decide_eq_true_eq] at hc4
          refine WPs_skip ?_
          refine KSs_wp ?_
          refine WPs_seq ?_
          refine WPs_block ?_
          refine WPs_seq ?_
          refine WPs_regionK [0, 2, 5, 6, 7, 8, 9] ?_
          refine s_move rfl rfl ?_
          refine s_index Tryz.underlying145 Tryz.isAgg3 Tryz.sizeOf3 rfl rfl rfl (by omega) (by omega) rfl ?_
          refine s_assign rfl rfl ?_
          refine s_assign rfl rfl ?_
          refine SXs_nilK (fr' := [(0, _), (2, _), (5, _), (6, _), (7, _), (8, _), (9, _)]) rfl ?_
          refine KSs_wp ?_
          refine WPs_seq ?_
          refine WPs_regionK [0, 2, 5, 7, 8, 9] ?_
          refine s_move rfl rfl ?_
          refine s_move rfl rfl ?_
          refine s_move rfl rfl ?_
          refine s_call Tryz.call131 rfl (vs := [_, _]) rfl (RCs.perm (by (repeat ((exact List.Perm.refl _)))) (read_spec (k := 6) hR0.cons.cons (by omega) (by omega) (by (simp; omega)))) ?_
          rintro v w ⟨rfl, hS⟩
          refine SXs_go hS ?_
          clear hS; clear w
          simp only [putF]
          refine s_move rfl rfl ?_
          refine s_extract rfl rfl rfl ?_
          refine s_extract rfl rfl rfl ?_
          refine s_idxArr Tryz.underlying143 Tryz.sizeOf36 rfl rfl rfl (by omega) (by omega) ?_
          refine s_store (i := 0) Tryz.sizeOf36 rfl rfl rfl (vs := [_]) rfl rfl rfl rfl ?_
          simp only [List.set_cons_zero, spl]
          refine SXs_nilK (fr' := [(0, _), (2, _), (5, _), (7, _), (8, _), (9, _)]) rfl ?_
          refine KSs_wp ?_
          refine WPs_regionK [0, 2, 5, 8, 9] ?_
          refine s_move rfl rfl ?_
          refine s_move rfl rfl ?_
          refine s_sliceRdF F slt_42 (l := 6) (vlo := some _) (vhi := none) rfl rfl hR0 rfl trivial (.inl rfl) (.inr ⟨rfl, rfl⟩) (by (simp; omega)) (by omega) (fun va23 vc23 hR1 => ?_)
          have hR0 := rd_drop hR1
          clear hR1
          refine s_assign rfl rfl ?_
          refine SXs_nilK (fr' := [(0, _), (2, _), (5, _), (8, _), (9, _)]) rfl ?_
          refine KSs_wp ?_
          refine WPs_regionK [0, 2, 5, 8, 9] ?_
          refine s_add_ok rfl rfl rfl (inR_i64 (by omega) (by omega)) ?_
          refine s_move rfl rfl ?_
          refine SXs_nilK (fr' := [(0, _), (2, _), (5, _), (8, _), (9, _)]) rfl ?_
          refine KSs_unroll (N := 2) ?_
          refine WPs_seq ?_
          refine WPs_regionK [0, 2, 5, 8, 9, 10] ?_
          refine s_lss rfl rfl rfl ?_
          refine SXs_nilK (fr' := [(0, _), (2, _), (5, _), (8, _), (9, _), (10, _)]) rfl ?_
          refine KSs_wp ?_
          refine WPs_seq ?_
          refine WPs_cond rfl (fun hc5 => ?_) (fun hc5 => ?_)
          · simp only [decide_eq_true_eq] at hc5
            refine WPs_skip ?_
            refine KSs_wp ?_
            refine WPs_seq ?_
            refine WPs_block ?_
            refine WPs_seq ?_
            refine WPs_regionK [0, 2, 5, 6, 7, 8, 9] ?_
            refine s_move rfl rfl ?_
            refine s_index Tryz.underlying145 Tryz.isAgg3 Tryz.sizeOf3 rfl rfl rfl (by omega) (by omega) rfl ?_
            refine s_assign rfl rfl ?_
            refine s_assign rfl rfl ?_
            refine SXs_nilK (fr' := [(0, _), (2, _), (5, _), (6, _), (7, _), (8, _), (9, _)]) rfl ?_
            refine KSs_wp ?_
            refine WPs_seq ?_
            refine WPs_regionK [0, 2, 5, 7, 8, 9] ?_
            refine s_move rfl rfl ?_
            refine s_move rfl rfl ?_
            refine s_move rfl rfl ?_
            refine s_call Tryz.call131 rfl (vs := [_, _]) rfl (RCs.perm (by (repeat ((exact List.Perm.refl _)))) (read_spec (k := 3) hR0.cons.cons (by omega) (by omega) (by (simp; omega)))) ?_
            rintro v w ⟨rfl, hS⟩
            refine SXs_go hS ?_
            clear hS; clear w
            simp only [putF]
            refine s_move rfl rfl ?_
            refine s_extract rfl rfl rfl ?_
            refine s_extract rfl rfl rfl ?_
            refine s_idxArr Tryz.underlying143 Tryz.sizeOf36 rfl rfl rfl (by omega) (by omega) ?_
            refine s_store (i := 0) Tryz.sizeOf36 rfl rfl rfl (vs := [_]) rfl rfl rfl rfl ?_
            simp only [List.set_cons_zero, spl]
            refine SXs_nilK (fr' := [(0, _), (2, _), (5, _), (7, _), (8, _), (9, _)]) rfl ?_
            refine KSs_wp ?_
            refine WPs_regionK [0, 2, 5, 8, 9] ?_
            refine s_move rfl rfl ?_
            refine s_move rfl rfl ?_
            refine s_sliceRdF F slt_42 (l := 3) (vlo := some _) (vhi := none) rfl rfl hR0 rfl trivial (.inl rfl) (.inr ⟨rfl, rfl⟩) (by (simp; omega)) (by omega) (fun va23 vc23 hR1 => ?_)
            have hR0 := rd_drop hR1
            clear hR1
            refine s_assign rfl rfl ?_
            refine SXs_nilK (fr' := [(0, _), (2, _), (5, _), (8, _), (9, _)]) rfl ?_
            refine KSs_wp ?_
            refine WPs_regionK [0, 2, 5, 8, 9] ?_
            refine s_add_ok rfl rfl rfl (inR_i64 (by omega) (by omega)) ?_
            refine s_move rfl rfl ?_
            refine SXs_nilK (fr' := [(0, _), (2, _), (5, _), (8, _), (9, _)]) rfl ?_
            refine KSs_unroll (N := 1) ?_
            refine WPs_seq ?_
            refine WPs_regionK [0, 2, 5, 8, 9, 10] ?_
            refine s_lss rfl rfl rfl ?_
            refine SXs_nilK (fr' := [(0, _), (2, _), (5, _), (8, _), (9, _), (10, _)]) rfl ?_
            refine KSs_wp ?_
            refine WPs_seq ?_
            refine WPs_cond rfl (fun hc6 => ?_) (fun hc6 => ?_)
            · simp only [decide_eq_true_eq] at hc6
              refine WPs_skip ?_
              refine KSs_wp ?_
              refine WPs_seq ?_
              refine WPs_block ?_
              refine WPs_seq ?_
              refine WPs_regionK [0, 2, 5, 6, 7, 8, 9] ?_
              refine s_move rfl rfl ?_
              refine s_index Tryz.underlying145 Tryz.isAgg3 Tryz.sizeOf3 rfl rfl rfl (by omega) (by omega) rfl ?_
              refine s_assign rfl rfl ?_
              refine s_assign rfl rfl ?_
              refine SXs_nilK (fr' := [(0, _), (2, _), (5, _), (6, _), (7, _), (8, _), (9, _)]) rfl ?_
              refine KSs_wp ?_
              refine WPs_seq ?_
              refine WPs_regionK [0, 2, 5, 7, 8, 9] ?_
              refine s_move rfl rfl ?_
              refine s_move rfl rfl ?_
              refine s_move rfl rfl ?_
              refine s_call Tryz.call131 rfl (vs := [_, _]) rfl (RCs.perm (by (repeat ((exact List.Perm.refl _)))) (read_spec (k := 4) hR0.cons.cons (by omega) (by omega) (by (simp; omega)))) ?_
              rintro v w ⟨rfl, hS⟩
              refine SXs_go hS ?_
              clear hS; clear w
              simp only [putF]
              refine s_move rfl rfl ?_
              refine s_extract rfl rfl rfl ?_
              refine s_extract rfl rfl rfl ?_
              refine s_idxArr Tryz.underlying143 Tryz.sizeOf36 rfl rfl rfl (by omega) (by omega) ?_
              refine s_store (i := 0) Tryz.sizeOf36 rfl rfl rfl (vs := [_]) rfl rfl rfl rfl ?_
              simp only [List.set_cons_zero, spl]
              refine SXs_nilK (fr' := [(0, _), (2, _), (5, _), (7, _), (8, _), (9, _)]) rfl ?_
              refine KSs_wp ?_
              refine WPs_regionK [0, 2, 5, 8, 9] ?_
              refine s_move rfl rfl ?_
              refine s_move rfl rfl ?_
              refine s_sliceRdF F slt_42 (l := 4) (vlo := some _) (vhi := none) rfl rfl hR0 rfl trivial (.inl rfl) (.inr ⟨rfl, rfl⟩) (by (simp; omega)) (by omega) (fun va23 vc23 hR1 => ?_)
              have hR0 := rd_drop hR1
              clear hR1
              refine s_assign rfl rfl ?_
              refine SXs_nilK (fr' := [(0, _), (2, _), (5, _), (8, _), (9, _)]) rfl ?_
              refine KSs_wp ?_
              refine WPs_regionK [0, 2, 5, 8, 9] ?_
              refine s_add_ok rfl rfl rfl (inR_i64 (by omega) (by omega)) ?_
              refine s_move rfl rfl ?_
              refine SXs_nilK (fr' := [(0, _), (2, _), (5, _), (8, _), (9, _)]) rfl ?_
              refine KSs_unroll (N := 0) ?_
              refine WPs_seq ?_
              refine WPs_regionK [0, 2, 5, 8, 9, 10] ?_
              refine s_lss rfl rfl rfl ?_
              refine SXs_nilK (fr' := [(0, _), (2, _), (5, _), (8, _), (9, _), (10, _)]) rfl ?_
              refine KSs_wp ?_
              refine WPs_seq ?_
              refine WPs_cond rfl (fun hc7 => ?_) (fun hc7 => ?_)
              · (exfalso; (cases hc7; done))
              · simp only [decide_eq_false_iff_not] at hc7
                refine WPs_exit rfl ?_
                refine KSs_wp ?_
                refine WPs_seq ?_
                refine WPs_regionK [2, 5] ?_
                refine s_idxArr Tryz.underlying143 Tryz.sizeOf36 rfl rfl rfl (by omega) (by omega) ?_
                refine s_load1 Tryz.isAgg36 rfl rfl (by exact cin (i := 0) rfl rfl) ?_
                refine s_idxArr Tryz.underlying143 Tryz.sizeOf36 rfl rfl rfl (by omega) (by omega) ?_
                refine s_load1 Tryz.isAgg36 rfl rfl (by exact cin (i := 0) rfl rfl) ?_
                refine s_conv_ok Tryz.underlying36 Tryz.underlying3 rfl rfl (inR_i64 (by omega) (by omega)) ?_
                refine s_idxArr Tryz.underlying143 Tryz.sizeOf36 rfl rfl rfl (by omega) (by omega) ?_
                refine s_load1 Tryz.isAgg36 rfl rfl (by exact cin (i := 0) rfl rfl) ?_
                refine s_conv_ok Tryz.underlying36 Tryz.underlying34 rfl rfl (inR_u32 (by omega) (by omega)) ?_
                refine s_idxArr Tryz.underlying143 Tryz.sizeOf36 rfl rfl rfl (by omega) (by omega) ?_
                refine s_load1 Tryz.isAgg36 rfl rfl (by exact cin (i := 0) rfl rfl) ?_
                refine s_conv_ok Tryz.underlying36 Tryz.underlying34 rfl rfl (inR_u32 (by omega) (by omega)) ?_
                refine s_build (vs := [(0, _), (1, _)]) (cs := [_, _]) rfl rfl (build_44_0_1 rfl rfl) ?_
                refine s_build (vs := [(0, _), (1, _), (4, _)]) (cs := [_, _, _, _, _, _]) rfl rfl (build_46_0_1_4 rfl rfl) ?_
                refine s_store (i := 1) Tryz.sizeOf46 rfl rfl rfl (vs := [_, _, _, _, _, _]) rfl rfl rfl rfl ?_
                simp only [List.set_cons_zero, List.set_cons_succ, spl]
                refine SXs_nilK (fr' := [(2, _), (5, _)]) rfl ?_
                refine KSs_wp ?_
                refine WPs_seq ?_
                refine WPs_drawL [2, 3, 4] [] Tryz.mixed rfl (listed := #[false, false, false, false, false, false, false, false, false, false]) rfl ?_
                refine st_take 0 rfl (by decide +kernel) (listed' := #[true, false, false, false, false, false, false, false, false, false]) rfl (by (intro _ h; (exact h))) (gv_loadN Tryz.isAgg46 Tryz.sizeOf46 (vs := [_, _, _, _, _, _]) rfl rfl (by exact csin (i := 1) (k := 6) rfl rfl) rfl) ?_
                refine st_take 1 rfl (by decide +kernel) (listed' := #[true, true, false, false, false, false, false, false, false, false]) rfl (by (intro _ h; (exact h))) (gv_idxArr Tryz.underlying143 Tryz.sizeOf36 rfl rfl rfl (by omega) (by omega)) ?_
                refine st_take 2 rfl (by decide +kernel) (listed' := #[true, true, true, false, false, false, false, false, false, false]) rfl (by (intro _ h; (exact h))) (gv_load1 Tryz.isAgg36 rfl rfl (by exact cin (i := 0) rfl rfl)) ?_
                refine st_take 3 rfl (by decide +kernel) (listed' := #[true, true, true, true, false, false, false, false, false, false]) rfl (by (intro _ h; (exact h))) (gv_conv_ok Tryz.underlying36 Tryz.underlying3 rfl rfl (inR_i64 (by omega) (by omega))) ?_
                refine st_take 4 rfl (by decide +kernel) (listed' := #[true, true, true, true, true, false, false, false, false, false]) rfl (by (intro _ h; (exact h))) (gv_idxArr Tryz.underlying143 Tryz.sizeOf36 rfl rfl rfl (by omega) (by omega)) ?_
                refine st_take 5 rfl (by decide +kernel) (listed' := #[true, true, true, true, true, true, false, false, false, false]) rfl (by (intro _ h; (exact h))) (gv_load1 Tryz.isAgg36 rfl rfl (by exact cin (i := 0) rfl rfl)) ?_
                refine st_take 6 rfl (by decide +kernel) (listed' := #[true, true, true, true, true, true, true, false, false, false]) rfl (by (intro _ h; (exact h))) (gv_conv_ok Tryz.underlying36 Tryz.underlying3 rfl rfl (inR_i64 (by omega) (by omega))) ?_
                refine st_one 7 rfl (by decide +kernel) ?_
                refine s_store (i := 1) Tryz.sizeOf46 rfl rfl rfl (vs := [_, _, _, _, _, _]) rfl rfl rfl rfl ?_
                simp only [List.set_cons_zero, List.set_cons_succ, spl]
                refine st_next (listed' := #[true, true, true, true, true, true, true, true, false, false]) rfl (by intro _ _; (intro _ h; (exact h))) ?_
                refine st_take 8 rfl (by decide +kernel) (listed' := #[true, true, true, true, true, true, true, true, true, false]) rfl (by (intro _ h; (exact h))) (gv_assign rfl rfl) ?_
                refine st_take 9 rfl (by decide +kernel) (listed' := #[true, true, true, true, true, true, true, true, true, true]) rfl (by (intro _ h; (exact h))) (gv_assign rfl rfl) ?_
                refine st_doneK (fr' := [(2, _), (3, _), (4, _)]) (by decide +kernel) rfl ?_
                refine KSs_wp ?_
                refine WPs_ret ?_
                refine RLs_start ?_
                refine RLs_cellN Tryz.isAgg46 Tryz.sizeOf46 (cs := [_, _, _, _, _, _]) rfl (by exact csin (i := 1) (k := 6) rfl rfl) rfl ?_
                refine RLs_tmp rfl ?_
                refine RLs_tmp rfl ?_
                refine RLs_fin3 ?_
                exact fun w hS => ⟨rfl, hS.sl (by (repeat (first | exact Sl.refl _ | refine Sl.skip ?_)))⟩
            · (exfalso; (cases hc6; done))
          · (exfalso; (cases hc5; done))
        · (exfalso; (cases hc4; done))
      · (exfalso; (cases hc3; done))
    · (exfalso; (cases hc2; done))
  · (exfalso; (cases hc1; done))
end Go.Proofs.YthodbnmeggkkoaaGreatDoor
/-
  Package record: Get's own closure.
-/
namespace Go.Proofs.YthodbnmeggkkoaaGreatDoor
open Go Go.RowKit Go.Hb Go.Proofs
theorem get_fails {g : World} {F : List HP} {a b : Int} :
    RCs Tryz.prog 83 [.int .i64 a, .int .i64 b] g F (fun u w => u = .tuple #[.agg [.int .u64 0, .int .i64 0, .slice none 0 0, .slice none 0 0, .int .u32 0, .int .u32 0].toArray, .int .i64 a, .int .i64 b] ∧ St g w F) := by
  refine RCs_of_WPs Tryz.func83 rfl Tryz.ntmps83 rfl Tryz.results83 ?_
  refine WPs_seq ?_
  refine WPs_regionK [0, 1, 4] ?_
  refine s_alloc Tryz.zeroValue46 (cl := [_, _, _, _, _, _]) rfl rfl (fun b4 => ?_)
  refine s_assign rfl rfl ?_
  refine s_assign rfl rfl ?_
  refine SXs_nilK (fr' := [(0, _), (1, _), (4, _)]) rfl ?_
  refine KSs_wp ?_
  refine WPs_seq ?_
  refine WPs_regionK [4, 5, 6] ?_
  refine s_build (vs := []) (cs := [_, _, _, _, _, _]) rfl rfl (build_46_) ?_
  refine s_move rfl rfl ?_
  refine s_move rfl rfl ?_
  refine s_store (i := 0) Tryz.sizeOf46 rfl rfl rfl (vs := [_, _, _, _, _, _]) rfl rfl rfl rfl ?_
  simp only [List.eraseIdx_cons_zero, List.eraseIdx_cons_succ, List.set_cons_zero, List.set_cons_succ, spl, putF, List.nil_append, List.cons_append]
  refine s_assign rfl rfl ?_
  refine s_assign rfl rfl ?_
  refine SXs_nilK (fr' := [(4, _), (5, _), (6, _)]) rfl ?_
  refine KSs_wp ?_
  refine WPs_ret ?_
  refine RLs_start ?_
  refine RLs_cellN Tryz.isAgg46 Tryz.sizeOf46 (cs := [_, _, _, _, _, _]) rfl (by ((exact csin (i := 0) (k := 6) rfl rfl))) rfl ?_
  refine RLs_tmp rfl ?_
  refine RLs_tmp rfl ?_
  refine RLs_fin3 ?_
  exact fun w hS => ⟨rfl, hS.sl (by (repeat (first | exact Sl.refl _ | refine Sl.skip ?_)))⟩
end Go.Proofs.YthodbnmeggkkoaaGreatDoor
/-
  Package record: Get. (Under way.)
-/
namespace Go.Proofs.YthodbnmeggkkoaaGreatDoor
open Go Go.RowKit Go.Hb Go.Proofs

theorem rd_take {g : World} {F : List HP} {v : Value} {ys : List UInt8} {l n : Nat} (hl : l ≤ ys.length) (h : RdIn g F v 1 (l - 0) (((bv ys).drop (0 * 1)).take ((l - 0) * 1))) : RdB g F v (ys.take l) :=
  rdb_of h (by rw [Nat.zero_mul, List.drop_zero, Nat.mul_one, Nat.sub_zero, bv_take])

theorem right_no {g : World} {F : List HP} {v : Value} {xs : List UInt8} (hH : HalfG g) (hR : RdB g F v xs) (h4 : 4 ≤ xs.length) (h : ¬ rightP xs) :
    RCs Tryz.prog 84 [v] g F (fun u w => u = .bool false ∧ St g w F) :=
  (right_spec hH hR h4).mono fun v w ⟨h1, h2⟩ => ⟨by rw [h1]; unfold rightP at h; simp [h], h2⟩
theorem right_yes {g : World} {F : List HP} {v : Value} {xs : List UInt8} (hH : HalfG g) (hR : RdB g F v xs) (h4 : 4 ≤ xs.length) (h : rightP xs) :
    RCs Tryz.prog 84 [v] g F (fun u w => u = .bool true ∧ St g w F) :=
  (right_spec hH hR h4).mono fun v w ⟨h1, h2⟩ => ⟨by rw [h1]; unfold rightP at h; simp [h], h2⟩

set_option maxHeartbeats 2000000 in
/-- Too few bytes; a head whose sum is not right. -/
theorem get_bad {g : World} {F : List HP} {v : Value} {xs : List UInt8} (hH : HalfG g) (hR : RdB g F v xs) (h : xs.length < 21 ∨ ¬ rightP (xs.take 21)) :
    RCs Tryz.prog 36 [v] g F (fun u w => ∃ e : Int, u = .tuple #[.agg [.int .u64 0, .int .i64 0, .slice none 0 0, .slice none 0 0, .int .u32 0, .int .u32 0].toArray, .int .i64 0, .int .i64 e] ∧ (e = 22 ∨ e = 23) ∧ (21 ≤ xs.length → e = 23) ∧ St g w F) := by
  refine RCs_of_WPs Tryz.func36 rfl Tryz.ntmps36 rfl Tryz.results36 ?_
  refine WPs_seq ?_
  refine WPs_regionK [0, 2] ?_
  refine s_alloc Tryz.zeroValue46 (cl := [_, _, _, _, _, _]) rfl rfl (fun b2 => ?_)
  refine s_assign rfl rfl ?_
  refine s_assign rfl rfl ?_
  refine SXs_nilK (fr' := [(0, _), (2, _)]) rfl ?_
  refine KSs_wp ?_
  refine WPs_seq ?_
  refine WPs_regionK [0, 2, 5] ?_
  refine s_assign rfl rfl ?_
  refine SXs_nilK (fr' := [(0, _), (2, _), (5, _)]) rfl ?_
  refine KSs_wp ?_
  refine WPs_seq ?_
  refine WPs_block ?_
  refine WPs_seq ?_
  refine WPs_regionK [0, 2, 5, 10] ?_
  refine s_move rfl rfl ?_
  refine s_lenRd rfl Tryz.underlying42 rfl rfl (by ((apply RdIn.cons; assumption))) ?_
  refine s_lss rfl rfl rfl ?_
  refine s_assign rfl rfl ?_
  refine SXs_nilK (fr' := [(0, _), (2, _), (5, _), (10, _)]) rfl ?_
  refine KSs_wp ?_
  refine WPs_cond rfl (fun hc1 => ?_) (fun hc1 => ?_)
  · simp only [decide_eq_true_eq] at hc1
    refine WPs_seq ?_
    refine WPs_regionK [2, 3, 4] ?_
    refine s_move rfl rfl ?_
    refine s_callV (vs := [_, _]) Tryz.call83 rfl rfl rfl rfl (RCs.perm (by (repeat ((exact List.Perm.refl _)))) (get_fails)) ?_
    rintro v w ⟨rfl, hS⟩
    refine SXs_go hS ?_
    clear hS; clear w
    simp only [putF]
    refine s_extract rfl rfl rfl ?_
    refine s_extract rfl rfl rfl ?_
    refine s_extract rfl rfl rfl ?_
    refine s_store (i := 0) Tryz.sizeOf46 rfl rfl rfl (vs := [_, _, _, _, _, _]) rfl rfl rfl rfl ?_
    simp only [List.set_cons_zero, List.set_cons_succ, spl]
    refine s_assign rfl rfl ?_
    refine s_assign rfl rfl ?_
    refine SXs_nilK (fr' := [(2, _), (3, _), (4, _)]) rfl ?_
    refine KSs_wp ?_
    refine WPs_ret ?_
    refine RLs_start ?_
    refine RLs_cellN Tryz.isAgg46 Tryz.sizeOf46 (cs := [_, _, _, _, _, _]) rfl (by exact csin (i := 0) (k := 6) rfl rfl) rfl ?_
    refine RLs_tmp rfl ?_
    refine RLs_tmp rfl ?_
    refine RLs_fin3 ?_
    exact fun w hS => ⟨22, rfl, .inl rfl, fun h => by omega, hS.sl (by (repeat (first | exact Sl.refl _ | refine Sl.skip ?_)))⟩
  · simp only [decide_eq_false_iff_not] at hc1
    refine WPs_seq ?_
    refine WPs_regionK [0, 2, 5, 19] ?_
    refine s_move rfl rfl ?_
    refine s_sliceRdF F slt_42 (l := 0) (h' := 21) (vlo := none) (vhi := some _) rfl rfl hR trivial rfl (.inr ⟨rfl, rfl⟩) (.inl rfl) (by omega) (by omega) (fun va21 vc21 hR21 => ?_)
    have hRt := rd_take (n := 0) (by omega) hR21
    refine s_call Tryz.call84 rfl (vs := [_]) rfl (RCs.perm (by (repeat ((exact List.Perm.refl _)))) (right_no (xs := xs.take 21) hH hRt.cons (by simp; omega) (h.resolve_left (by omega)))) ?_
    rintro v w ⟨rfl, hS⟩
    refine SXs_go hS ?_
    clear hS; clear w
    simp only [putF]
    refine s_not rfl rfl ?_
    refine s_assign rfl rfl ?_
    refine SXs_nilK (fr' := [(0, _), (2, _), (5, _), (19, _)]) rfl ?_
    refine KSs_wp ?_
    refine WPs_cond rfl (fun hc2 => ?_) (fun hc2 => ?_)
    · simp only [Bool.not_false] at hc2
      refine WPs_seq ?_
      refine WPs_regionK [2, 3, 4] ?_
      refine s_move rfl rfl ?_
      refine s_callV (vs := [_, _]) Tryz.call83 rfl rfl rfl rfl (RCs.perm (by (repeat ((exact List.Perm.refl _)))) (get_fails)) ?_
      rintro v w ⟨rfl, hS⟩
      refine SXs_go hS ?_
      clear hS; clear w
      simp only [putF]
      refine s_extract rfl rfl rfl ?_
      refine s_extract rfl rfl rfl ?_
      refine s_extract rfl rfl rfl ?_
      refine s_store (i := 0) Tryz.sizeOf46 rfl rfl rfl (vs := [_, _, _, _, _, _]) rfl rfl rfl rfl ?_
      simp only [List.set_cons_zero, List.set_cons_succ, spl]
      refine s_assign rfl rfl ?_
      refine s_assign rfl rfl ?_
      refine SXs_nilK (fr' := [(2, _), (3, _), (4, _)]) rfl ?_
      refine KSs_wp ?_
      refine WPs_ret ?_
      refine RLs_start ?_
      refine RLs_cellN Tryz.isAgg46 Tryz.sizeOf46 (cs := [_, _, _, _, _, _]) rfl (by exact csin (i := 0) (k := 6) rfl rfl) rfl ?_
      refine RLs_tmp rfl ?_
      refine RLs_tmp rfl ?_
      refine RLs_fin3 ?_
      exact fun w hS => ⟨23, rfl, .inr rfl, fun h => rfl, hS.sl (by (repeat (first | exact Sl.refl _ | refine Sl.skip ?_)))⟩
    · (exfalso; (cases hc2; done))
end Go.Proofs.YthodbnmeggkkoaaGreatDoor
/-
  What 'told' tells of a head that Put has written.
-/
namespace Go.Proofs.YthodbnmeggkkoaaGreatDoor
open Go Go.Hb Go.Proofs

theorem take_le {n k : Nat} {t : List UInt8} : (le n k ++ t).take k = le n k := by rw [List.take_left' (le_length n k)]
theorem drop_le {n k : Nat} {t : List UInt8} : (le n k ++ t).drop k = t := by rw [List.drop_left' (le_length n k)]

theorem told_hd {kind : Nat} {r : RecM} {t : List UInt8} (hk : kind < 256) (h1 : r.key.length < 256) (h2 : r.value.length < 65536) (h3 : r.seq < 2 ^ 48) (h4 : r.ps < 2 ^ 24) (h5 : r.po < 2 ^ 32) :
    rdN ((hdOf kind r ++ t).take 1) = kind ∧ rdN (((hdOf kind r ++ t).drop 1).take 1) = r.key.length ∧ rdN ((((hdOf kind r ++ t).drop 1).drop 1).take 2) = r.value.length ∧
    rdN (((((hdOf kind r ++ t).drop 1).drop 1).drop 2).take 6) = r.seq ∧ rdN ((((((hdOf kind r ++ t).drop 1).drop 1).drop 2).drop 6).take 3) = r.ps ∧ rdN (((((((hdOf kind r ++ t).drop 1).drop 1).drop 2).drop 6).drop 3).take 4) = r.po := by
  have e : hdOf kind r ++ t = le kind 1 ++ (le r.key.length 1 ++ (le r.value.length 2 ++ (le r.seq 6 ++ (le r.ps 3 ++ (le r.po 4 ++ t))))) := by simp [hdOf]
  rw [e]
  simp only [take_le, drop_le]
  exact ⟨rdN_le 1 _ hk, rdN_le 1 _ h1, rdN_le 2 _ h2, rdN_le 6 _ h3, rdN_le 3 _ h4, rdN_le 4 _ h5⟩
end Go.Proofs.YthodbnmeggkkoaaGreatDoor
/-
  Calls at which all is known: names of segments.
-/
namespace Go.Proofs.YthodbnmeggkkoaaGreatDoor
open Go Go.RowKit Go.Hb Go.Proofs

def de64 : List Nat := [0, 1, 56, 2, 57, 49, 28, 3, 61, 58, 42, 50, 38, 29, 17, 4, 62, 47, 59, 36, 45, 43, 51, 22, 53, 39, 33, 30, 24, 18, 12, 5, 63, 55, 48, 27, 60, 41, 37, 16, 46, 35, 44, 21, 52, 32, 23, 11, 54, 26, 40, 15, 34, 20, 31, 10, 25, 14, 19, 9, 13, 8, 7, 6]
/-- What the table holds. -/
def DeG (g : World) : Prop := ∀ (j : Nat) (v : Value), (de64.map fun (x : Nat) => Value.int .u8 (x : Int))[j]? = some v → g.cell? ⟨7, j, none⟩ = some v

/-- hourbook/seg.is -/
theorem clF1_32_0 {g : World} {F : List HP} : RCs Tryz.prog 32 [(.int .u32 7)] g F (fun u w => u = (.bool true) ∧ St g w F) := by
  refine RCs_of_WPs Tryz.func32 rfl Tryz.ntmps32 rfl Tryz.results32 ?_
  refine WPs_seq ?_
  refine WPs_regionK [0] ?_
  refine s_assign rfl rfl ?_
  refine SXs_nilK (fr' := [(0, _)]) rfl ?_
  refine KSs_wp ?_
  refine WPs_seq ?_
  refine WPs_regionK [2] ?_
  refine s_move rfl rfl ?_
  refine c_geq true rfl rfl rfl (by kernel_rfl) ?_
  refine s_move rfl rfl ?_
  refine s_guard_t2 rfl rfl (by ((rfl))) rfl ?_
  refine s_move rfl rfl ?_
  refine s_guard_t2 rfl rfl (by ((rfl))) rfl ?_
  refine c_leq true rfl rfl rfl (by kernel_rfl) ?_
  refine s_pick_t rfl rfl rfl ?_
  refine s_assign rfl rfl ?_
  refine SXs_nilK (fr' := [(2, _)]) rfl ?_
  refine KSs_wp ?_
  refine WPs_ret ?_
  refine RLs_start ?_
  refine RLs_tmp rfl ?_
  refine RLs_fin1 ?_
  exact fun w hS => ⟨rfl, hS.sl (by (repeat ((exact Sl.refl _))))⟩

/-- internal/strconv.isPowerOfTwo -/
theorem clF1_155_0 {g : World} {F : List HP} : RCs Tryz.prog 155 [(.int .i64 16)] g F (fun u w => u = (.bool true) ∧ St g w F) := by
  refine RCs_of_WPs Tryz.func155 rfl Tryz.ntmps155 rfl Tryz.results155 ?_
  refine WPs_seq ?_
  refine WPs_regionK [0] ?_
  refine s_assign rfl rfl ?_
  refine SXs_nilK (fr' := [(0, _)]) rfl ?_
  refine KSs_wp ?_
  refine WPs_seq ?_
  refine WPs_regionK [2] ?_
  refine s_move rfl rfl ?_
  refine s_move rfl rfl ?_
  refine s_sub' (c := 15) rfl rfl rfl (by kernel_rfl) ?_
  refine c_bin .and 0 (by simp) rfl rfl rfl (fun _ => by kernel_rfl) ?_
  refine c_eql true rfl rfl rfl (by kernel_rfl) ?_
  refine s_assign rfl rfl ?_
  refine SXs_nilK (fr' := [(2, _)]) rfl ?_
  refine KSs_wp ?_
  refine WPs_ret ?_
  refine RLs_start ?_
  refine RLs_tmp rfl ?_
  refine RLs_fin1 ?_
  exact fun w hS => ⟨rfl, hS.sl (by (repeat ((exact Sl.refl _))))⟩

/-- math/bits.TrailingZeros64 -/
theorem clF1_178_0 {g : World} {F : List HP} (hG : DeG g) : RCs Tryz.prog 178 [(.int .u64 16)] g F (fun u w => u = (.int .i64 4) ∧ St g w F) := by
  refine RCs_of_WPs Tryz.func178 rfl Tryz.ntmps178 rfl Tryz.results178 ?_
  refine WPs_seq ?_
  refine WPs_regionK [0] ?_
  refine s_assign rfl rfl ?_
  refine SXs_nilK (fr' := [(0, _)]) rfl ?_
  refine KSs_wp ?_
  refine WPs_seq ?_
  refine WPs_seq ?_
  refine WPs_regionK [0, 4] ?_
  refine s_move rfl rfl ?_
  refine c_eql false rfl rfl rfl (by kernel_rfl) ?_
  refine SXs_nilK (fr' := [(0, _), (4, _)]) rfl ?_
  refine KSs_wp ?_
  refine WPs_condF rfl ?_
  refine WPs_skip ?_
  refine KSs_wp ?_
  refine WPs_seq ?_
  refine WPs_regionK [2] ?_
  refine s_move rfl rfl ?_
  refine s_move rfl rfl ?_
  refine s_neg (c := 18446744073709551600) rfl rfl (by kernel_rfl) ?_
  refine c_bin .and 16 (by simp) rfl rfl rfl (fun _ => by kernel_rfl) ?_
  refine s_mul' (c := 4573923408821661840) rfl rfl rfl (by kernel_rfl) ?_
  refine s_shr (c := 15) rfl rfl rfl (by omega) (by kernel_rfl) ?_
  refine c_idxArr 15 Tryz.underlying249 Tryz.sizeOf5 rfl rfl rfl (by omega) (by omega) (by kernel_rfl) ?_
  refine s_load1 (v := .int .u8 4) Tryz.isAgg5 rfl rfl (cin_old (hG 15 _ rfl)) ?_
  refine s_conv (c := 4) Tryz.underlying5 Tryz.underlying3 rfl rfl (by kernel_rfl) ?_
  refine s_assign rfl rfl ?_
  refine SXs_nilK (fr' := [(2, _)]) rfl ?_
  refine KSs_wp ?_
  refine WPs_ret ?_
  refine RLs_start ?_
  refine RLs_tmp rfl ?_
  refine RLs_fin1 ?_
  exact fun w hS => ⟨rfl, hS.sl (by (repeat ((exact Sl.refl _))))⟩

/-- math/bits.TrailingZeros -/
theorem clF1_156_0 {g : World} {F : List HP} (hG : DeG g) : RCs Tryz.prog 156 [(.int .u64 16)] g F (fun u w => u = (.int .i64 4) ∧ St g w F) := by
  refine RCs_of_WPs Tryz.func156 rfl Tryz.ntmps156 rfl Tryz.results156 ?_
  refine WPs_seq ?_
  refine WPs_regionK [0] ?_
  refine s_assign rfl rfl ?_
  refine SXs_nilK (fr' := [(0, _)]) rfl ?_
  refine KSs_wp ?_
  refine WPs_seq ?_
  refine WPs_condF rfl ?_
  refine WPs_skip ?_
  refine KSs_wp ?_
  refine WPs_seq ?_
  refine WPs_regionK [2] ?_
  refine s_move rfl rfl ?_
  refine s_call Tryz.call178 rfl (vs := [_]) rfl (RCs.perm (by (repeat ((exact List.Perm.refl _)))) (clF1_178_0 hG)) ?_
  rintro v w ⟨rfl, hS⟩
  refine SXs_go hS ?_
  clear hS; clear w
  simp only [putF]
  refine s_assign rfl rfl ?_
  refine SXs_nilK (fr' := [(2, _)]) rfl ?_
  refine KSs_wp ?_
  refine WPs_ret ?_
  refine RLs_start ?_
  refine RLs_tmp rfl ?_
  refine RLs_fin1 ?_
  exact fun w hS => ⟨rfl, hS.sl (by (repeat ((exact Sl.refl _))))⟩

/-- internal/strconv.formatBits -/
theorem clF1_123_0 {g : World} {F : List HP} (hG : DeG g) : RCs Tryz.prog 123 [(.slice none 0 0), (.int .u64 7), (.int .i64 16), (.bool false), (.bool false)] g F (fun u w => u = .tuple #[(.slice none 0 0), (.string ⟨#[55]⟩)] ∧ St g w F) := by
  refine RCs_of_WPs Tryz.func123 rfl Tryz.ntmps123 rfl Tryz.results123 ?_
  refine WPs_seq ?_
  refine WPs_regionK [0, 1, 2, 3, 4, 10, 11] ?_
  refine s_assign rfl rfl ?_
  refine s_assign rfl rfl ?_
  refine SXs_nilK (fr' := [(0, _), (1, _), (2, _), (3, _), (4, _), (10, _), (11, _)]) rfl ?_
  refine KSs_wp ?_
  refine WPs_seq ?_
  refine WPs_seq ?_
  refine WPs_regionK [0, 1, 2, 3, 4, 10, 11, 28] ?_
  refine s_move rfl rfl ?_
  refine c_lss false rfl rfl rfl (by kernel_rfl) ?_
  refine s_move rfl rfl ?_
  refine s_guard_t2 rfl rfl (by ((rfl))) rfl ?_
  refine s_move rfl rfl ?_
  refine s_guard_t2 rfl rfl (by ((rfl))) rfl ?_
  refine c_eql false rfl rfl rfl (by kernel_rfl) ?_
  refine s_pick_f rfl rfl rfl ?_
  refine s_move rfl rfl ?_
  refine s_guard_t2 rfl rfl (by ((rfl))) rfl ?_
  refine s_move rfl rfl ?_
  refine s_guard_t2 rfl rfl (by ((rfl))) rfl ?_
  refine c_gtr false rfl rfl rfl (by kernel_rfl) ?_
  refine s_pick_f rfl rfl rfl ?_
  refine SXs_nilK (fr' := [(0, _), (1, _), (2, _), (3, _), (4, _), (10, _), (11, _), (28, _)]) rfl ?_
  refine KSs_wp ?_
  refine WPs_condF rfl ?_
  refine WPs_skip ?_
  refine KSs_wp ?_
  refine WPs_seq ?_
  refine WPs_regionK [0, 1, 2, 3, 4, 10, 11, 12] ?_
  refine s_alloc Tryz.zeroValue212 (cl := [_, _, _, _, _, _, _, _, _, _, _, _, _, _, _, _, _, _, _, _, _, _, _, _, _, _, _, _, _, _, _, _, _, _, _, _, _, _, _, _, _, _, _, _, _, _, _, _, _, _, _, _, _, _, _, _, _, _, _, _, _, _, _, _, _]) rfl rfl (fun b12 => ?_)
  refine SXs_nilK (fr' := [(0, _), (1, _), (2, _), (3, _), (4, _), (10, _), (11, _), (12, _)]) rfl ?_
  refine KSs_wp ?_
  refine WPs_seq ?_
  refine WPs_regionK [0, 1, 2, 3, 4, 10, 11, 12, 13] ?_
  refine s_assign rfl rfl ?_
  refine SXs_nilK (fr' := [(0, _), (1, _), (2, _), (3, _), (4, _), (10, _), (11, _), (12, _), (13, _)]) rfl ?_
  refine KSs_wp ?_
  refine WPs_seq ?_
  refine WPs_seq ?_
  refine WPs_regionK [0, 1, 2, 3, 4, 10, 11, 12, 13, 30] ?_
  refine s_move rfl rfl ?_
  refine SXs_nilK (fr' := [(0, _), (1, _), (2, _), (3, _), (4, _), (10, _), (11, _), (12, _), (13, _), (30, _)]) rfl ?_
  refine KSs_wp ?_
  refine WPs_condF rfl ?_
  refine WPs_skip ?_
  refine KSs_wp ?_
  refine WPs_seq ?_
  refine WPs_seq ?_
  refine WPs_regionK [0, 1, 2, 3, 4, 10, 11, 12, 13, 34] ?_
  refine s_move rfl rfl ?_
  refine s_call Tryz.call155 rfl (vs := [_]) rfl (RCs.perm (by (repeat ((exact List.Perm.refl _)))) (clF1_155_0)) ?_
  rintro v w ⟨rfl, hS⟩
  refine SXs_go hS ?_
  clear hS; clear w
  simp only [putF]
  refine SXs_nilK (fr' := [(0, _), (1, _), (2, _), (3, _), (4, _), (10, _), (11, _), (12, _), (13, _), (34, _)]) rfl ?_
  refine KSs_wp ?_
  refine WPs_condT rfl ?_
  refine WPs_seq ?_
  refine WPs_regionK [0, 1, 2, 3, 4, 10, 11, 12, 13, 14] ?_
  refine s_move rfl rfl ?_
  refine s_conv (c := 16) Tryz.underlying3 Tryz.underlying127 rfl rfl (by kernel_rfl) ?_
  refine s_call Tryz.call156 rfl (vs := [_]) rfl (RCs.perm (by (repeat ((exact List.Perm.refl _)))) (clF1_156_0 hG)) ?_
  rintro v w ⟨rfl, hS⟩
  refine SXs_go hS ?_
  clear hS; clear w
  simp only [putF]
  refine s_conv (c := 4) Tryz.underlying3 Tryz.underlying127 rfl rfl (by kernel_rfl) ?_
  refine s_assign rfl rfl ?_
  refine SXs_nilK (fr' := [(0, _), (1, _), (2, _), (3, _), (4, _), (10, _), (11, _), (12, _), (13, _), (14, _)]) rfl ?_
  refine KSs_wp ?_
  refine WPs_seq ?_
  refine WPs_regionK [0, 1, 2, 3, 4, 10, 11, 12, 13, 14, 15] ?_
  refine s_move rfl rfl ?_
  refine s_conv (c := 16) Tryz.underlying3 Tryz.underlying36 rfl rfl (by kernel_rfl) ?_
  refine s_assign rfl rfl ?_
  refine SXs_nilK (fr' := [(0, _), (1, _), (2, _), (3, _), (4, _), (10, _), (11, _), (12, _), (13, _), (14, _), (15, _)]) rfl ?_
  refine KSs_wp ?_
  refine WPs_seq ?_
  refine WPs_regionK [0, 1, 3, 4, 10, 11, 12, 13, 14, 15, 16] ?_
  refine s_move rfl rfl ?_
  refine s_conv (c := 16) Tryz.underlying3 Tryz.underlying127 rfl rfl (by kernel_rfl) ?_
  refine s_sub' (c := 15) rfl rfl rfl (by kernel_rfl) ?_
  refine s_assign rfl rfl ?_
  refine SXs_nilK (fr' := [(0, _), (1, _), (3, _), (4, _), (10, _), (11, _), (12, _), (13, _), (14, _), (15, _), (16, _)]) rfl ?_
  refine KSs_wp ?_
  refine WPs_seq ?_
  refine WPs_block ?_
  refine WPs_unroll 59 ?_
  refine WPs_seq ?_
  refine WPs_seq ?_
  refine WPs_regionK [0, 1, 3, 4, 10, 11, 12, 13, 14, 15, 16, 46] ?_
  refine s_move rfl rfl ?_
  refine s_move rfl rfl ?_
  refine c_geq false rfl rfl rfl (by kernel_rfl) ?_
  refine SXs_nilK (fr' := [(0, _), (1, _), (3, _), (4, _), (10, _), (11, _), (12, _), (13, _), (14, _), (15, _), (16, _), (46, _)]) rfl ?_
  refine KSs_wp ?_
  refine WPs_condF rfl ?_
  refine WPs_exit rfl ?_
  refine KSs_wp ?_
  refine WPs_seq ?_
  refine WPs_regionK [0, 1, 3, 4, 10, 11, 12, 13] ?_
  refine s_move rfl rfl ?_
  refine s_sub' (c := 64) rfl rfl rfl (by kernel_rfl) ?_
  refine s_assign rfl rfl ?_
  refine SXs_nilK (fr' := [(0, _), (1, _), (3, _), (4, _), (10, _), (11, _), (12, _), (13, _)]) rfl ?_
  refine KSs_wp ?_
  refine WPs_regionK [0, 3, 4, 10, 11, 12, 13] ?_
  refine s_move rfl rfl ?_
  refine s_move rfl rfl ?_
  refine c_idxStr (j := 7) 55 Tryz.underlying9 rfl rfl rfl (by kernel_rfl) (by kernel_rfl) ?_
  refine c_idxArr 64 Tryz.underlying212 Tryz.sizeOf5 rfl rfl rfl (by omega) (by omega) (by kernel_rfl) ?_
  refine s_store (i := 0) Tryz.sizeOf5 rfl rfl rfl (vs := [_]) rfl rfl rfl rfl ?_
  simp only [List.set_cons_zero, List.set_cons_succ, spl]
  refine SXs_nilK (fr' := [(0, _), (3, _), (4, _), (10, _), (11, _), (12, _), (13, _)]) rfl ?_
  refine KSs_wp ?_
  refine WPs_seq ?_
  refine WPs_seq ?_
  refine WPs_regionK [0, 4, 10, 11, 12, 13, 89] ?_
  refine s_move rfl rfl ?_
  refine SXs_nilK (fr' := [(0, _), (4, _), (10, _), (11, _), (12, _), (13, _), (89, _)]) rfl ?_
  refine KSs_wp ?_
  refine WPs_condF rfl ?_
  refine WPs_skip ?_
  refine KSs_wp ?_
  refine WPs_seq ?_
  refine WPs_seq ?_
  refine WPs_regionK [0, 10, 11, 12, 13, 94] ?_
  refine s_move rfl rfl ?_
  refine SXs_nilK (fr' := [(0, _), (10, _), (11, _), (12, _), (13, _), (94, _)]) rfl ?_
  refine KSs_wp ?_
  refine WPs_condF rfl ?_
  refine WPs_skip ?_
  refine KSs_wp ?_
  refine WPs_seq ?_
  refine WPs_regionK [10, 11] ?_
  refine s_move rfl rfl ?_
  refine c_sliceArr 64 65 (vlo := some _) (vhi := none) Tryz.underlying212 Tryz.sizeOf5 rfl rfl rfl trivial (.inl rfl) (.inr ⟨rfl, rfl⟩) rfl rfl ?_
  refine c_b2s (bs := [55]) Tryz.underlying42 Tryz.underlying5 Tryz.underlying9 rfl rfl (by (exact pt_RdIn (i := 0) rfl rfl rfl (by omega) (by simp only [maxLen]; omega))) ?_
  refine s_assign rfl rfl ?_
  refine SXs_nilK (fr' := [(10, _), (11, _)]) rfl ?_
  refine KSs_wp ?_
  refine WPs_ret ?_
  refine RLs_start ?_
  refine RLs_tmp rfl ?_
  refine RLs_tmp rfl ?_
  refine RLs_fin2 ?_
  exact fun w hS => ⟨rfl, hS.sl (by (repeat (first | exact Sl.refl _ | refine Sl.skip ?_)))⟩

/-- internal/strconv.FormatUint -/
theorem clF1_75_0 {g : World} {F : List HP} (hG : DeG g) : RCs Tryz.prog 75 [(.int .u64 7), (.int .i64 16)] g F (fun u w => u = (.string ⟨#[55]⟩) ∧ St g w F) := by
  refine RCs_of_WPs Tryz.func75 rfl Tryz.ntmps75 rfl Tryz.results75 ?_
  refine WPs_seq ?_
  refine WPs_regionK [0, 1] ?_
  refine s_assign rfl rfl ?_
  refine SXs_nilK (fr' := [(0, _), (1, _)]) rfl ?_
  refine KSs_wp ?_
  refine WPs_seq ?_
  refine WPs_seq ?_
  refine WPs_regionK [0, 1, 10] ?_
  refine s_move rfl rfl ?_
  refine c_eql false rfl rfl rfl (by kernel_rfl) ?_
  refine SXs_nilK (fr' := [(0, _), (1, _), (10, _)]) rfl ?_
  refine KSs_wp ?_
  refine WPs_condF rfl ?_
  refine WPs_skip ?_
  refine KSs_wp ?_
  refine WPs_seq ?_
  refine WPs_regionK [8] ?_
  refine s_move rfl rfl ?_
  refine s_move rfl rfl ?_
  refine s_call Tryz.call123 rfl (vs := [_, _, _, _, _]) rfl (RCs.perm (by (repeat ((exact List.Perm.refl _)))) (clF1_123_0 hG)) ?_
  rintro v w ⟨rfl, hS⟩
  refine SXs_go hS ?_
  clear hS; clear w
  simp only [putF]
  refine s_move rfl rfl ?_
  refine s_extract rfl rfl rfl ?_
  refine s_extract rfl rfl rfl ?_
  refine s_assign rfl rfl ?_
  refine s_assign rfl rfl ?_
  refine SXs_nilK (fr' := [(8, _)]) rfl ?_
  refine KSs_wp ?_
  refine WPs_seq ?_
  refine WPs_regionK [4] ?_
  refine s_move rfl rfl ?_
  refine s_assign rfl rfl ?_
  refine SXs_nilK (fr' := [(4, _)]) rfl ?_
  refine KSs_wp ?_
  refine WPs_ret ?_
  refine RLs_start ?_
  refine RLs_tmp rfl ?_
  refine RLs_fin1 ?_
  exact fun w hS => ⟨rfl, hS.sl (by (repeat ((exact Sl.refl _))))⟩

/-- strconv.FormatUint -/
theorem clF1_33_0 {g : World} {F : List HP} (hG : DeG g) : RCs Tryz.prog 33 [(.int .u64 7), (.int .i64 16)] g F (fun u w => u = (.string ⟨#[55]⟩) ∧ St g w F) := by
  refine RCs_of_WPs Tryz.func33 rfl Tryz.ntmps33 rfl Tryz.results33 ?_
  refine WPs_seq ?_
  refine WPs_regionK [0, 1] ?_
  refine s_assign rfl rfl ?_
  refine SXs_nilK (fr' := [(0, _), (1, _)]) rfl ?_
  refine KSs_wp ?_
  refine WPs_seq ?_
  refine WPs_regionK [4] ?_
  refine s_move rfl rfl ?_
  refine s_move rfl rfl ?_
  refine s_call Tryz.call75 rfl (vs := [_, _]) rfl (RCs.perm (by (repeat ((exact List.Perm.refl _)))) (clF1_75_0 hG)) ?_
  rintro v w ⟨rfl, hS⟩
  refine SXs_go hS ?_
  clear hS; clear w
  simp only [putF]
  refine s_assign rfl rfl ?_
  refine SXs_nilK (fr' := [(4, _)]) rfl ?_
  refine KSs_wp ?_
  refine WPs_ret ?_
  refine RLs_start ?_
  refine RLs_tmp rfl ?_
  refine RLs_fin1 ?_
  exact fun w hS => ⟨rfl, hS.sl (by (repeat ((exact Sl.refl _))))⟩

/-- math/bits.Mul64 -/
theorem clF1_125_0 {g : World} {F : List HP} : RCs Tryz.prog 125 [(.int .u64 1), (.int .u64 5)] g F (fun u w => u = .tuple #[(.int .u64 0), (.int .u64 5)] ∧ St g w F) := by
  refine RCs_of_WPs Tryz.func125 rfl Tryz.ntmps125 rfl Tryz.results125 ?_
  refine WPs_seq ?_
  refine WPs_regionK [0, 1] ?_
  refine s_assign rfl rfl ?_
  refine s_assign rfl rfl ?_
  refine SXs_nilK (fr' := [(0, _), (1, _)]) rfl ?_
  refine KSs_wp ?_
  refine WPs_seq ?_
  refine WPs_regionK [0, 1, 6] ?_
  refine s_move rfl rfl ?_
  refine c_bin .and 1 (by simp) rfl rfl rfl (fun _ => by kernel_rfl) ?_
  refine s_assign rfl rfl ?_
  refine SXs_nilK (fr' := [(0, _), (1, _), (6, _)]) rfl ?_
  refine KSs_wp ?_
  refine WPs_seq ?_
  refine WPs_regionK [0, 1, 6, 7] ?_
  refine s_move rfl rfl ?_
  refine s_shr (c := 0) rfl rfl rfl (by omega) (by kernel_rfl) ?_
  refine s_assign rfl rfl ?_
  refine SXs_nilK (fr' := [(0, _), (1, _), (6, _), (7, _)]) rfl ?_
  refine KSs_wp ?_
  refine WPs_seq ?_
  refine WPs_regionK [0, 1, 6, 7, 8] ?_
  refine s_move rfl rfl ?_
  refine c_bin .and 5 (by simp) rfl rfl rfl (fun _ => by kernel_rfl) ?_
  refine s_assign rfl rfl ?_
  refine SXs_nilK (fr' := [(0, _), (1, _), (6, _), (7, _), (8, _)]) rfl ?_
  refine KSs_wp ?_
  refine WPs_seq ?_
  refine WPs_regionK [0, 1, 6, 7, 8, 9] ?_
  refine s_move rfl rfl ?_
  refine s_shr (c := 0) rfl rfl rfl (by omega) (by kernel_rfl) ?_
  refine s_assign rfl rfl ?_
  refine SXs_nilK (fr' := [(0, _), (1, _), (6, _), (7, _), (8, _), (9, _)]) rfl ?_
  refine KSs_wp ?_
  refine WPs_seq ?_
  refine WPs_regionK [0, 1, 6, 7, 8, 9, 10] ?_
  refine s_move rfl rfl ?_
  refine s_move rfl rfl ?_
  refine s_mul' (c := 5) rfl rfl rfl (by kernel_rfl) ?_
  refine s_assign rfl rfl ?_
  refine SXs_nilK (fr' := [(0, _), (1, _), (6, _), (7, _), (8, _), (9, _), (10, _)]) rfl ?_
  refine KSs_wp ?_
  refine WPs_seq ?_
  refine WPs_regionK [0, 1, 6, 7, 9, 11] ?_
  refine s_move rfl rfl ?_
  refine s_move rfl rfl ?_
  refine s_mul' (c := 0) rfl rfl rfl (by kernel_rfl) ?_
  refine s_move rfl rfl ?_
  refine s_shr (c := 0) rfl rfl rfl (by omega) (by kernel_rfl) ?_
  refine s_add' (c := 0) rfl rfl rfl (by kernel_rfl) ?_
  refine s_assign rfl rfl ?_
  refine SXs_nilK (fr' := [(0, _), (1, _), (6, _), (7, _), (9, _), (11, _)]) rfl ?_
  refine KSs_wp ?_
  refine WPs_seq ?_
  refine WPs_regionK [0, 1, 6, 7, 9, 11, 12] ?_
  refine s_move rfl rfl ?_
  refine c_bin .and 0 (by simp) rfl rfl rfl (fun _ => by kernel_rfl) ?_
  refine s_assign rfl rfl ?_
  refine SXs_nilK (fr' := [(0, _), (1, _), (6, _), (7, _), (9, _), (11, _), (12, _)]) rfl ?_
  refine KSs_wp ?_
  refine WPs_seq ?_
  refine WPs_regionK [0, 1, 6, 7, 9, 12, 13] ?_
  refine s_move rfl rfl ?_
  refine s_shr (c := 0) rfl rfl rfl (by omega) (by kernel_rfl) ?_
  refine s_assign rfl rfl ?_
  refine SXs_nilK (fr' := [(0, _), (1, _), (6, _), (7, _), (9, _), (12, _), (13, _)]) rfl ?_
  refine KSs_wp ?_
  refine WPs_seq ?_
  refine WPs_regionK [0, 1, 7, 9, 12, 13] ?_
  refine s_move rfl rfl ?_
  refine s_move rfl rfl ?_
  refine s_move rfl rfl ?_
  refine s_mul' (c := 0) rfl rfl rfl (by kernel_rfl) ?_
  refine s_add' (c := 0) rfl rfl rfl (by kernel_rfl) ?_
  refine s_assign rfl rfl ?_
  refine SXs_nilK (fr' := [(0, _), (1, _), (7, _), (9, _), (12, _), (13, _)]) rfl ?_
  refine KSs_wp ?_
  refine WPs_seq ?_
  refine WPs_regionK [0, 1, 4] ?_
  refine s_move rfl rfl ?_
  refine s_move rfl rfl ?_
  refine s_mul' (c := 0) rfl rfl rfl (by kernel_rfl) ?_
  refine s_move rfl rfl ?_
  refine s_add' (c := 0) rfl rfl rfl (by kernel_rfl) ?_
  refine s_move rfl rfl ?_
  refine s_shr (c := 0) rfl rfl rfl (by omega) (by kernel_rfl) ?_
  refine s_add' (c := 0) rfl rfl rfl (by kernel_rfl) ?_
  refine s_assign rfl rfl ?_
  refine SXs_nilK (fr' := [(0, _), (1, _), (4, _)]) rfl ?_
  refine KSs_wp ?_
  refine WPs_seq ?_
  refine WPs_regionK [4, 5] ?_
  refine s_move rfl rfl ?_
  refine s_move rfl rfl ?_
  refine s_mul' (c := 5) rfl rfl rfl (by kernel_rfl) ?_
  refine s_assign rfl rfl ?_
  refine SXs_nilK (fr' := [(4, _), (5, _)]) rfl ?_
  refine KSs_wp ?_
  refine WPs_ret ?_
  refine RLs_start ?_
  refine RLs_tmp rfl ?_
  refine RLs_tmp rfl ?_
  refine RLs_fin2 ?_
  exact fun w hS => ⟨rfl, hS.sl (by (repeat ((exact Sl.refl _))))⟩

/-- math/bits.Mul -/
theorem clF1_76_0 {g : World} {F : List HP} : RCs Tryz.prog 76 [(.int .u64 1), (.int .u64 5)] g F (fun u w => u = .tuple #[(.int .u64 0), (.int .u64 5)] ∧ St g w F) := by
  refine RCs_of_WPs Tryz.func76 rfl Tryz.ntmps76 rfl Tryz.results76 ?_
  refine WPs_seq ?_
  refine WPs_regionK [0, 1] ?_
  refine s_assign rfl rfl ?_
  refine s_assign rfl rfl ?_
  refine SXs_nilK (fr' := [(0, _), (1, _)]) rfl ?_
  refine KSs_wp ?_
  refine WPs_seq ?_
  refine WPs_condF rfl ?_
  refine WPs_skip ?_
  refine KSs_wp ?_
  refine WPs_seq ?_
  refine WPs_regionK [8, 9] ?_
  refine s_move rfl rfl ?_
  refine s_move rfl rfl ?_
  refine s_call Tryz.call125 rfl (vs := [_, _]) rfl (RCs.perm (by (repeat ((exact List.Perm.refl _)))) (clF1_125_0)) ?_
  rintro v w ⟨rfl, hS⟩
  refine SXs_go hS ?_
  clear hS; clear w
  simp only [putF]
  refine s_move rfl rfl ?_
  refine s_extract rfl rfl rfl ?_
  refine s_extract rfl rfl rfl ?_
  refine s_assign rfl rfl ?_
  refine s_assign rfl rfl ?_
  refine SXs_nilK (fr' := [(8, _), (9, _)]) rfl ?_
  refine KSs_wp ?_
  refine WPs_seq ?_
  refine WPs_regionK [4, 5] ?_
  refine s_move rfl rfl ?_
  refine s_move rfl rfl ?_
  refine s_assign rfl rfl ?_
  refine s_assign rfl rfl ?_
  refine SXs_nilK (fr' := [(4, _), (5, _)]) rfl ?_
  refine KSs_wp ?_
  refine WPs_ret ?_
  refine RLs_start ?_
  refine RLs_tmp rfl ?_
  refine RLs_tmp rfl ?_
  refine RLs_fin2 ?_
  exact fun w hS => ⟨rfl, hS.sl (by (repeat ((exact Sl.refl _))))⟩

/-- internal/stringslite.HasPrefix -/
theorem clF1_126_0 {g : World} {F : List HP} : RCs Tryz.prog 126 [(.string ⟨#[32, 32, 32, 32, 32, 32, 32, 32, 32, 32, 32, 32, 32, 32, 32, 32, 32, 32, 32, 32, 32, 32, 32, 32, 32, 32, 32, 32, 32, 32, 32, 32, 32, 32, 32, 32, 32, 32, 32, 32, 32, 32, 32, 32, 32, 32, 32, 32, 32, 32, 32, 32, 32, 32, 32, 32, 32, 32, 32, 32, 32, 32, 32, 32, 32, 32, 32, 32, 32, 32, 32, 32, 32, 32, 32, 32, 32, 32, 32, 32, 32, 32, 32, 32, 32, 32, 32, 32, 32, 32, 32, 32, 32, 32, 32, 32, 32, 32, 32, 32, 32, 32, 32, 32, 32, 32, 32, 32, 32, 32, 32, 32, 32, 32, 32, 32, 32, 32, 32, 32, 32, 32, 32, 32, 32, 32, 32, 32]⟩), (.string ⟨#[48]⟩)] g F (fun u w => u = (.bool false) ∧ St g w F) := by
  refine RCs_of_WPs Tryz.func126 rfl Tryz.ntmps126 rfl Tryz.results126 ?_
  refine WPs_seq ?_
  refine WPs_regionK [0, 1] ?_
  refine s_assign rfl rfl ?_
  refine SXs_nilK (fr' := [(0, _), (1, _)]) rfl ?_
  refine KSs_wp ?_
  refine WPs_seq ?_
  refine WPs_regionK [4] ?_
  refine s_move rfl rfl ?_
  refine c_lenStr 128 rfl Tryz.underlying9 rfl rfl (by kernel_rfl) ?_
  refine s_move rfl rfl ?_
  refine c_lenStr 1 rfl Tryz.underlying9 rfl rfl (by kernel_rfl) ?_
  refine c_geq true rfl rfl rfl (by kernel_rfl) ?_
  refine s_move rfl rfl ?_
  refine s_guard_t2 rfl rfl (by ((rfl))) rfl ?_
  refine s_move rfl rfl ?_
  refine s_guard_t2 rfl rfl (by ((rfl))) rfl ?_
  refine s_move rfl rfl ?_
  refine s_guard_t2 rfl rfl (by ((rfl))) rfl ?_
  refine c_lenStr 1 rfl Tryz.underlying9 rfl rfl (by kernel_rfl) ?_
  refine s_guard_t2 rfl rfl (by ((rfl))) rfl ?_
  refine c_sliceStr (l := 0) (m := 1) (vlo := none) (vhi := some _) ⟨#[32]⟩ Tryz.underlying9 rfl rfl trivial rfl (.inr ⟨rfl, rfl⟩) (.inl rfl) (by kernel_rfl) (by kernel_rfl) (by kernel_rfl) ?_
  refine s_guard_t2 rfl rfl (by ((rfl))) rfl ?_
  refine s_move rfl rfl ?_
  refine s_guard_t2 rfl rfl (by ((rfl))) rfl ?_
  refine c_strEq false rfl rfl rfl (by kernel_rfl) ?_
  refine s_pick_t rfl rfl rfl ?_
  refine s_assign rfl rfl ?_
  refine SXs_nilK (fr' := [(4, _)]) rfl ?_
  refine KSs_wp ?_
  refine WPs_ret ?_
  refine RLs_start ?_
  refine RLs_tmp rfl ?_
  refine RLs_fin1 ?_
  exact fun w hS => ⟨rfl, hS.sl (by (repeat ((exact Sl.refl _))))⟩

/-- strings.HasPrefix -/
theorem clF1_77_0 {g : World} {F : List HP} : RCs Tryz.prog 77 [(.string ⟨#[32, 32, 32, 32, 32, 32, 32, 32, 32, 32, 32, 32, 32, 32, 32, 32, 32, 32, 32, 32, 32, 32, 32, 32, 32, 32, 32, 32, 32, 32, 32, 32, 32, 32, 32, 32, 32, 32, 32, 32, 32, 32, 32, 32, 32, 32, 32, 32, 32, 32, 32, 32, 32, 32, 32, 32, 32, 32, 32, 32, 32, 32, 32, 32, 32, 32, 32, 32, 32, 32, 32, 32, 32, 32, 32, 32, 32, 32, 32, 32, 32, 32, 32, 32, 32, 32, 32, 32, 32, 32, 32, 32, 32, 32, 32, 32, 32, 32, 32, 32, 32, 32, 32, 32, 32, 32, 32, 32, 32, 32, 32, 32, 32, 32, 32, 32, 32, 32, 32, 32, 32, 32, 32, 32, 32, 32, 32, 32]⟩), (.string ⟨#[48]⟩)] g F (fun u w => u = (.bool false) ∧ St g w F) := by
  refine RCs_of_WPs Tryz.func77 rfl Tryz.ntmps77 rfl Tryz.results77 ?_
  refine WPs_seq ?_
  refine WPs_regionK [0, 1] ?_
  refine s_assign rfl rfl ?_
  refine SXs_nilK (fr' := [(0, _), (1, _)]) rfl ?_
  refine KSs_wp ?_
  refine WPs_seq ?_
  refine WPs_regionK [4] ?_
  refine s_move rfl rfl ?_
  refine s_move rfl rfl ?_
  refine s_call Tryz.call126 rfl (vs := [_, _]) rfl (RCs.perm (by (repeat ((exact List.Perm.refl _)))) (clF1_126_0)) ?_
  rintro v w ⟨rfl, hS⟩
  refine SXs_go hS ?_
  clear hS; clear w
  simp only [putF]
  refine s_assign rfl rfl ?_
  refine SXs_nilK (fr' := [(4, _)]) rfl ?_
  refine KSs_wp ?_
  refine WPs_ret ?_
  refine RLs_start ?_
  refine RLs_tmp rfl ?_
  refine RLs_fin1 ?_
  exact fun w hS => ⟨rfl, hS.sl (by (repeat ((exact Sl.refl _))))⟩

/-- internal/stringslite.HasPrefix -/
theorem clF1_126_1 {g : World} {F : List HP} : RCs Tryz.prog 126 [(.string ⟨#[45, 45, 45, 45, 45, 45, 45, 45, 45, 45, 45, 45, 45, 45, 45, 45, 45, 45, 45, 45, 45, 45, 45, 45, 45, 45, 45, 45, 45, 45, 45, 45, 45, 45, 45, 45, 45, 45, 45, 45, 45, 45, 45, 45, 45, 45, 45, 45, 45, 45, 45, 45, 45, 45, 45, 45, 45, 45, 45, 45, 45, 45, 45, 45, 45, 45, 45, 45, 45, 45, 45, 45, 45, 45, 45, 45, 45, 45, 45, 45, 45, 45, 45, 45, 45, 45, 45, 45, 45, 45, 45, 45, 45, 45, 45, 45, 45, 45, 45, 45, 45, 45, 45, 45, 45, 45, 45, 45, 45, 45, 45, 45, 45, 45, 45, 45, 45, 45, 45, 45, 45, 45, 45, 45, 45, 45, 45, 45]⟩), (.string ⟨#[48]⟩)] g F (fun u w => u = (.bool false) ∧ St g w F) := by
  refine RCs_of_WPs Tryz.func126 rfl Tryz.ntmps126 rfl Tryz.results126 ?_
  refine WPs_seq ?_
  refine WPs_regionK [0, 1] ?_
  refine s_assign rfl rfl ?_
  refine SXs_nilK (fr' := [(0, _), (1, _)]) rfl ?_
  refine KSs_wp ?_
  refine WPs_seq ?_
  refine WPs_regionK [4] ?_
  refine s_move rfl rfl ?_
  refine c_lenStr 128 rfl Tryz.underlying9 rfl rfl (by kernel_rfl) ?_
  refine s_move rfl rfl ?_
  refine c_lenStr 1 rfl Tryz.underlying9 rfl rfl (by kernel_rfl) ?_
  refine c_geq true rfl rfl rfl (by kernel_rfl) ?_
  refine s_move rfl rfl ?_
  refine s_guard_t2 rfl rfl (by ((rfl))) rfl ?_
  refine s_move rfl rfl ?_
  refine s_guard_t2 rfl rfl (by ((rfl))) rfl ?_
  refine s_move rfl rfl ?_
  refine s_guard_t2 rfl rfl (by ((rfl))) rfl ?_
  refine c_lenStr 1 rfl Tryz.underlying9 rfl rfl (by kernel_rfl) ?_
  refine s_guard_t2 rfl rfl (by ((rfl))) rfl ?_
  refine c_sliceStr (l := 0) (m := 1) (vlo := none) (vhi := some _) ⟨#[45]⟩ Tryz.underlying9 rfl rfl trivial rfl (.inr ⟨rfl, rfl⟩) (.inl rfl) (by kernel_rfl) (by kernel_rfl) (by kernel_rfl) ?_
  refine s_guard_t2 rfl rfl (by ((rfl))) rfl ?_
  refine s_move rfl rfl ?_
  refine s_guard_t2 rfl rfl (by ((rfl))) rfl ?_
  refine c_strEq false rfl rfl rfl (by kernel_rfl) ?_
  refine s_pick_t rfl rfl rfl ?_
  refine s_assign rfl rfl ?_
  refine SXs_nilK (fr' := [(4, _)]) rfl ?_
  refine KSs_wp ?_
  refine WPs_ret ?_
  refine RLs_start ?_
  refine RLs_tmp rfl ?_
  refine RLs_fin1 ?_
  exact fun w hS => ⟨rfl, hS.sl (by (repeat ((exact Sl.refl _))))⟩

/-- strings.HasPrefix -/
theorem clF1_77_1 {g : World} {F : List HP} : RCs Tryz.prog 77 [(.string ⟨#[45, 45, 45, 45, 45, 45, 45, 45, 45, 45, 45, 45, 45, 45, 45, 45, 45, 45, 45, 45, 45, 45, 45, 45, 45, 45, 45, 45, 45, 45, 45, 45, 45, 45, 45, 45, 45, 45, 45, 45, 45, 45, 45, 45, 45, 45, 45, 45, 45, 45, 45, 45, 45, 45, 45, 45, 45, 45, 45, 45, 45, 45, 45, 45, 45, 45, 45, 45, 45, 45, 45, 45, 45, 45, 45, 45, 45, 45, 45, 45, 45, 45, 45, 45, 45, 45, 45, 45, 45, 45, 45, 45, 45, 45, 45, 45, 45, 45, 45, 45, 45, 45, 45, 45, 45, 45, 45, 45, 45, 45, 45, 45, 45, 45, 45, 45, 45, 45, 45, 45, 45, 45, 45, 45, 45, 45, 45, 45]⟩), (.string ⟨#[48]⟩)] g F (fun u w => u = (.bool false) ∧ St g w F) := by
  refine RCs_of_WPs Tryz.func77 rfl Tryz.ntmps77 rfl Tryz.results77 ?_
  refine WPs_seq ?_
  refine WPs_regionK [0, 1] ?_
  refine s_assign rfl rfl ?_
  refine SXs_nilK (fr' := [(0, _), (1, _)]) rfl ?_
  refine KSs_wp ?_
  refine WPs_seq ?_
  refine WPs_regionK [4] ?_
  refine s_move rfl rfl ?_
  refine s_move rfl rfl ?_
  refine s_call Tryz.call126 rfl (vs := [_, _]) rfl (RCs.perm (by (repeat ((exact List.Perm.refl _)))) (clF1_126_1)) ?_
  rintro v w ⟨rfl, hS⟩
  refine SXs_go hS ?_
  clear hS; clear w
  simp only [putF]
  refine s_assign rfl rfl ?_
  refine SXs_nilK (fr' := [(4, _)]) rfl ?_
  refine KSs_wp ?_
  refine WPs_ret ?_
  refine RLs_start ?_
  refine RLs_tmp rfl ?_
  refine RLs_fin1 ?_
  exact fun w hS => ⟨rfl, hS.sl (by (repeat ((exact Sl.refl _))))⟩

/-- internal/stringslite.HasPrefix -/
theorem clF1_126_2 {g : World} {F : List HP} : RCs Tryz.prog 126 [(.string ⟨#[48, 48, 48, 48, 48, 48, 48, 48, 48, 48, 48, 48, 48, 48, 48, 48, 48, 48, 48, 48, 48, 48, 48, 48, 48, 48, 48, 48, 48, 48, 48, 48, 48, 48, 48, 48, 48, 48, 48, 48, 48, 48, 48, 48, 48, 48, 48, 48, 48, 48, 48, 48, 48, 48, 48, 48, 48, 48, 48, 48, 48, 48, 48, 48]⟩), (.string ⟨#[48]⟩)] g F (fun u w => u = (.bool true) ∧ St g w F) := by
  refine RCs_of_WPs Tryz.func126 rfl Tryz.ntmps126 rfl Tryz.results126 ?_
  refine WPs_seq ?_
  refine WPs_regionK [0, 1] ?_
  refine s_assign rfl rfl ?_
  refine SXs_nilK (fr' := [(0, _), (1, _)]) rfl ?_
  refine KSs_wp ?_
  refine WPs_seq ?_
  refine WPs_regionK [4] ?_
  refine s_move rfl rfl ?_
  refine c_lenStr 64 rfl Tryz.underlying9 rfl rfl (by kernel_rfl) ?_
  refine s_move rfl rfl ?_
  refine c_lenStr 1 rfl Tryz.underlying9 rfl rfl (by kernel_rfl) ?_
  refine c_geq true rfl rfl rfl (by kernel_rfl) ?_
  refine s_move rfl rfl ?_
  refine s_guard_t2 rfl rfl (by ((rfl))) rfl ?_
  refine s_move rfl rfl ?_
  refine s_guard_t2 rfl rfl (by ((rfl))) rfl ?_
  refine s_move rfl rfl ?_
  refine s_guard_t2 rfl rfl (by ((rfl))) rfl ?_
  refine c_lenStr 1 rfl Tryz.underlying9 rfl rfl (by kernel_rfl) ?_
  refine s_guard_t2 rfl rfl (by ((rfl))) rfl ?_
  refine c_sliceStr (l := 0) (m := 1) (vlo := none) (vhi := some _) ⟨#[48]⟩ Tryz.underlying9 rfl rfl trivial rfl (.inr ⟨rfl, rfl⟩) (.inl rfl) (by kernel_rfl) (by kernel_rfl) (by kernel_rfl) ?_
  refine s_guard_t2 rfl rfl (by ((rfl))) rfl ?_
  refine s_move rfl rfl ?_
  refine s_guard_t2 rfl rfl (by ((rfl))) rfl ?_
  refine c_strEq true rfl rfl rfl (by kernel_rfl) ?_
  refine s_pick_t rfl rfl rfl ?_
  refine s_assign rfl rfl ?_
  refine SXs_nilK (fr' := [(4, _)]) rfl ?_
  refine KSs_wp ?_
  refine WPs_ret ?_
  refine RLs_start ?_
  refine RLs_tmp rfl ?_
  refine RLs_fin1 ?_
  exact fun w hS => ⟨rfl, hS.sl (by (repeat ((exact Sl.refl _))))⟩

/-- strings.HasPrefix -/
theorem clF1_77_2 {g : World} {F : List HP} : RCs Tryz.prog 77 [(.string ⟨#[48, 48, 48, 48, 48, 48, 48, 48, 48, 48, 48, 48, 48, 48, 48, 48, 48, 48, 48, 48, 48, 48, 48, 48, 48, 48, 48, 48, 48, 48, 48, 48, 48, 48, 48, 48, 48, 48, 48, 48, 48, 48, 48, 48, 48, 48, 48, 48, 48, 48, 48, 48, 48, 48, 48, 48, 48, 48, 48, 48, 48, 48, 48, 48]⟩), (.string ⟨#[48]⟩)] g F (fun u w => u = (.bool true) ∧ St g w F) := by
  refine RCs_of_WPs Tryz.func77 rfl Tryz.ntmps77 rfl Tryz.results77 ?_
  refine WPs_seq ?_
  refine WPs_regionK [0, 1] ?_
  refine s_assign rfl rfl ?_
  refine SXs_nilK (fr' := [(0, _), (1, _)]) rfl ?_
  refine KSs_wp ?_
  refine WPs_seq ?_
  refine WPs_regionK [4] ?_
  refine s_move rfl rfl ?_
  refine s_move rfl rfl ?_
  refine s_call Tryz.call126 rfl (vs := [_, _]) rfl (RCs.perm (by (repeat ((exact List.Perm.refl _)))) (clF1_126_2)) ?_
  rintro v w ⟨rfl, hS⟩
  refine SXs_go hS ?_
  clear hS; clear w
  simp only [putF]
  refine s_assign rfl rfl ?_
  refine SXs_nilK (fr' := [(4, _)]) rfl ?_
  refine KSs_wp ?_
  refine WPs_ret ?_
  refine RLs_start ?_
  refine RLs_tmp rfl ?_
  refine RLs_fin1 ?_
  exact fun w hS => ⟨rfl, hS.sl (by (repeat ((exact Sl.refl _))))⟩

/-- strings.Repeat -/
theorem clF1_34_0 {g : World} {F : List HP} : RCs Tryz.prog 34 [(.string ⟨#[48]⟩), (.int .i64 5)] g F (fun u w => u = (.string ⟨#[48, 48, 48, 48, 48]⟩) ∧ St g w F) := by
  refine RCs_of_WPs Tryz.func34 rfl Tryz.ntmps34 rfl Tryz.results34 ?_
  refine WPs_seq ?_
  refine WPs_regionK [0, 1] ?_
  refine s_assign rfl rfl ?_
  refine SXs_nilK (fr' := [(0, _), (1, _)]) rfl ?_
  refine KSs_wp ?_
  refine WPs_seq ?_
  refine WPs_seq ?_
  refine WPs_regionK [0, 1, 11] ?_
  refine s_move rfl rfl ?_
  refine SXs_nilK (fr' := [(0, _), (1, _), (11, _)]) rfl ?_
  refine KSs_wp ?_
  refine WPs_block ?_
  refine WPs_seq ?_
  refine WPs_regionK [0, 1, 11, 12] ?_
  refine c_eql false rfl rfl rfl (by kernel_rfl) ?_
  refine s_assign rfl rfl ?_
  refine SXs_nilK (fr' := [(0, _), (1, _), (11, _), (12, _)]) rfl ?_
  refine KSs_wp ?_
  refine WPs_condF rfl ?_
  refine WPs_seq ?_
  refine WPs_regionK [0, 1, 14] ?_
  refine c_eql false rfl rfl rfl (by kernel_rfl) ?_
  refine s_assign rfl rfl ?_
  refine SXs_nilK (fr' := [(0, _), (1, _), (14, _)]) rfl ?_
  refine KSs_wp ?_
  refine WPs_condF rfl ?_
  refine WPs_skip ?_
  refine KSs_wp ?_
  refine WPs_seq ?_
  refine WPs_seq ?_
  refine WPs_regionK [0, 1, 18] ?_
  refine s_move rfl rfl ?_
  refine c_lss false rfl rfl rfl (by kernel_rfl) ?_
  refine SXs_nilK (fr' := [(0, _), (1, _), (18, _)]) rfl ?_
  refine KSs_wp ?_
  refine WPs_condF rfl ?_
  refine WPs_skip ?_
  refine KSs_wp ?_
  refine WPs_seq ?_
  refine WPs_regionK [0, 5, 6] ?_
  refine s_move rfl rfl ?_
  refine c_lenStr 1 rfl Tryz.underlying9 rfl rfl (by kernel_rfl) ?_
  refine s_conv (c := 1) Tryz.underlying3 Tryz.underlying127 rfl rfl (by kernel_rfl) ?_
  refine s_move rfl rfl ?_
  refine s_conv (c := 5) Tryz.underlying3 Tryz.underlying127 rfl rfl (by kernel_rfl) ?_
  refine s_call Tryz.call76 rfl (vs := [_, _]) rfl (RCs.perm (by (repeat ((exact List.Perm.refl _)))) (clF1_76_0)) ?_
  rintro v w ⟨rfl, hS⟩
  refine SXs_go hS ?_
  clear hS; clear w
  simp only [putF]
  refine s_move rfl rfl ?_
  refine s_extract rfl rfl rfl ?_
  refine s_extract rfl rfl rfl ?_
  refine s_assign rfl rfl ?_
  refine s_assign rfl rfl ?_
  refine SXs_nilK (fr' := [(0, _), (5, _), (6, _)]) rfl ?_
  refine KSs_wp ?_
  refine WPs_seq ?_
  refine WPs_seq ?_
  refine WPs_regionK [0, 6, 34] ?_
  refine s_move rfl rfl ?_
  refine c_gtr false rfl rfl rfl (by kernel_rfl) ?_
  refine s_move rfl rfl ?_
  refine s_guard_t2 rfl rfl (by ((rfl))) rfl ?_
  refine s_move rfl rfl ?_
  refine s_guard_t2 rfl rfl (by ((rfl))) rfl ?_
  refine c_gtr false rfl rfl rfl (by kernel_rfl) ?_
  refine s_pick_f rfl rfl rfl ?_
  refine SXs_nilK (fr' := [(0, _), (6, _), (34, _)]) rfl ?_
  refine KSs_wp ?_
  refine WPs_condF rfl ?_
  refine WPs_skip ?_
  refine KSs_wp ?_
  refine WPs_seq ?_
  refine WPs_regionK [0, 7] ?_
  refine s_move rfl rfl ?_
  refine s_conv (c := 5) Tryz.underlying127 Tryz.underlying3 rfl rfl (by kernel_rfl) ?_
  refine s_assign rfl rfl ?_
  refine SXs_nilK (fr' := [(0, _), (7, _)]) rfl ?_
  refine KSs_wp ?_
  refine WPs_seq ?_
  refine WPs_seq ?_
  refine WPs_regionK [0, 7, 40] ?_
  refine s_move rfl rfl ?_
  refine c_lenStr 1 rfl Tryz.underlying9 rfl rfl (by kernel_rfl) ?_
  refine c_eql false rfl rfl rfl (by kernel_rfl) ?_
  refine SXs_nilK (fr' := [(0, _), (7, _), (40, _)]) rfl ?_
  refine KSs_wp ?_
  refine WPs_condF rfl ?_
  refine WPs_skip ?_
  refine KSs_wp ?_
  refine WPs_seq ?_
  refine WPs_seq ?_
  refine WPs_regionK [0, 7, 42] ?_
  refine s_move rfl rfl ?_
  refine c_idxStr (j := 0) 48 Tryz.underlying9 rfl rfl rfl (by kernel_rfl) (by kernel_rfl) ?_
  refine SXs_nilK (fr' := [(0, _), (7, _), (42, _)]) rfl ?_
  refine KSs_wp ?_
  refine WPs_block ?_
  refine WPs_seq ?_
  refine WPs_seq ?_
  refine WPs_regionK [0, 7, 42, 43] ?_
  refine c_eql false rfl rfl rfl (by kernel_rfl) ?_
  refine s_assign rfl rfl ?_
  refine SXs_nilK (fr' := [(0, _), (7, _), (42, _), (43, _)]) rfl ?_
  refine KSs_wp ?_
  refine WPs_condF rfl ?_
  refine WPs_seq ?_
  refine WPs_regionK [0, 7, 42, 43] ?_
  refine c_eql false rfl rfl rfl (by kernel_rfl) ?_
  refine s_assign rfl rfl ?_
  refine SXs_nilK (fr' := [(0, _), (7, _), (42, _), (43, _)]) rfl ?_
  refine KSs_wp ?_
  refine WPs_condF rfl ?_
  refine WPs_seq ?_
  refine WPs_regionK [0, 7, 42, 43] ?_
  refine c_eql true rfl rfl rfl (by kernel_rfl) ?_
  refine s_assign rfl rfl ?_
  refine SXs_nilK (fr' := [(0, _), (7, _), (42, _), (43, _)]) rfl ?_
  refine KSs_wp ?_
  refine WPs_condT rfl ?_
  refine WPs_skip ?_
  refine KSs_wp ?_
  refine WPs_condT rfl ?_
  refine WPs_block ?_
  refine WPs_seq ?_
  refine WPs_regionK [0, 7, 49] ?_
  refine s_move rfl rfl ?_
  refine c_leq true rfl rfl rfl (by kernel_rfl) ?_
  refine s_move rfl rfl ?_
  refine s_guard_t2 rfl rfl (by ((rfl))) rfl ?_
  refine s_move rfl rfl ?_
  refine s_guard_t2 rfl rfl (by ((rfl))) rfl ?_
  refine s_call Tryz.call77 rfl (vs := [_, _]) rfl (RCs.perm (by (repeat ((exact List.Perm.refl _)))) (clF1_77_0)) ?_
  rintro v w ⟨rfl, hS⟩
  refine SXs_go hS ?_
  clear hS; clear w
  simp only [putF]
  refine s_pick_t rfl rfl rfl ?_
  refine s_assign rfl rfl ?_
  refine SXs_nilK (fr' := [(0, _), (7, _), (49, _)]) rfl ?_
  refine KSs_wp ?_
  refine WPs_condF rfl ?_
  refine WPs_seq ?_
  refine WPs_regionK [0, 7, 58] ?_
  refine s_move rfl rfl ?_
  refine c_leq true rfl rfl rfl (by kernel_rfl) ?_
  refine s_move rfl rfl ?_
  refine s_guard_t2 rfl rfl (by ((rfl))) rfl ?_
  refine s_move rfl rfl ?_
  refine s_guard_t2 rfl rfl (by ((rfl))) rfl ?_
  refine s_call Tryz.call77 rfl (vs := [_, _]) rfl (RCs.perm (by (repeat ((exact List.Perm.refl _)))) (clF1_77_1)) ?_
  rintro v w ⟨rfl, hS⟩
  refine SXs_go hS ?_
  clear hS; clear w
  simp only [putF]
  refine s_pick_t rfl rfl rfl ?_
  refine s_assign rfl rfl ?_
  refine SXs_nilK (fr' := [(0, _), (7, _), (58, _)]) rfl ?_
  refine KSs_wp ?_
  refine WPs_condF rfl ?_
  refine WPs_seq ?_
  refine WPs_regionK [0, 7, 67] ?_
  refine s_move rfl rfl ?_
  refine c_leq true rfl rfl rfl (by kernel_rfl) ?_
  refine s_move rfl rfl ?_
  refine s_guard_t2 rfl rfl (by ((rfl))) rfl ?_
  refine s_move rfl rfl ?_
  refine s_guard_t2 rfl rfl (by ((rfl))) rfl ?_
  refine s_call Tryz.call77 rfl (vs := [_, _]) rfl (RCs.perm (by (repeat ((exact List.Perm.refl _)))) (clF1_77_2)) ?_
  rintro v w ⟨rfl, hS⟩
  refine SXs_go hS ?_
  clear hS; clear w
  simp only [putF]
  refine s_pick_t rfl rfl rfl ?_
  refine s_assign rfl rfl ?_
  refine SXs_nilK (fr' := [(0, _), (7, _), (67, _)]) rfl ?_
  refine KSs_wp ?_
  refine WPs_condT rfl ?_
  refine WPs_seq ?_
  refine WPs_regionK [4] ?_
  refine s_move rfl rfl ?_
  refine c_sliceStr (l := 0) (m := 5) (vlo := none) (vhi := some _) ⟨#[48, 48, 48, 48, 48]⟩ Tryz.underlying9 rfl rfl trivial rfl (.inr ⟨rfl, rfl⟩) (.inl rfl) (by kernel_rfl) (by kernel_rfl) (by kernel_rfl) ?_
  refine s_assign rfl rfl ?_
  refine SXs_nilK (fr' := [(4, _)]) rfl ?_
  refine KSs_wp ?_
  refine WPs_ret ?_
  refine RLs_start ?_
  refine RLs_tmp rfl ?_
  refine RLs_fin1 ?_
  exact fun w hS => ⟨rfl, hS.sl (by (repeat ((exact Sl.refl _))))⟩

/-- hourbook/seg.Name -/
theorem clF1_12_0 {g : World} {F : List HP} (hG : DeG g) : RCs Tryz.prog 12 [(.int .u32 7)] g F (fun u w => u = (.string ⟨#[115, 101, 103, 45, 48, 48, 48, 48, 48, 55]⟩) ∧ St g w F) := by
  refine RCs_of_WPs Tryz.func12 rfl Tryz.ntmps12 rfl Tryz.results12 ?_
  refine WPs_seq ?_
  refine WPs_regionK [0] ?_
  refine s_assign rfl rfl ?_
  refine SXs_nilK (fr' := [(0, _)]) rfl ?_
  refine KSs_wp ?_
  refine WPs_seq ?_
  refine WPs_seq ?_
  refine WPs_regionK [0, 6] ?_
  refine s_move rfl rfl ?_
  refine s_call Tryz.call32 rfl (vs := [_]) rfl (RCs.perm (by (repeat ((exact List.Perm.refl _)))) (clF1_32_0)) ?_
  rintro v w ⟨rfl, hS⟩
  refine SXs_go hS ?_
  clear hS; clear w
  simp only [putF]
  refine c_not false rfl rfl (by kernel_rfl) ?_
  refine SXs_nilK (fr' := [(0, _), (6, _)]) rfl ?_
  refine KSs_wp ?_
  refine WPs_condF rfl ?_
  refine WPs_skip ?_
  refine KSs_wp ?_
  refine WPs_seq ?_
  refine WPs_regionK [3] ?_
  refine s_move rfl rfl ?_
  refine s_conv (c := 7) Tryz.underlying34 Tryz.underlying36 rfl rfl (by kernel_rfl) ?_
  refine s_call Tryz.call33 rfl (vs := [_, _]) rfl (RCs.perm (by (repeat ((exact List.Perm.refl _)))) (clF1_33_0 hG)) ?_
  rintro v w ⟨rfl, hS⟩
  refine SXs_go hS ?_
  clear hS; clear w
  simp only [putF]
  refine s_assign rfl rfl ?_
  refine SXs_nilK (fr' := [(3, _)]) rfl ?_
  refine KSs_wp ?_
  refine WPs_seq ?_
  refine WPs_regionK [2] ?_
  refine s_move rfl rfl ?_
  refine c_lenStr 1 rfl Tryz.underlying9 rfl rfl (by kernel_rfl) ?_
  refine s_sub' (c := 5) rfl rfl rfl (by kernel_rfl) ?_
  refine s_call Tryz.call34 rfl (vs := [_, _]) rfl (RCs.perm (by (repeat ((exact List.Perm.refl _)))) (clF1_34_0)) ?_
  rintro v w ⟨rfl, hS⟩
  refine SXs_go hS ?_
  clear hS; clear w
  simp only [putF]
  refine c_strAdd ⟨#[115, 101, 103, 45, 48, 48, 48, 48, 48]⟩ rfl rfl rfl (by kernel_rfl) (by kernel_rfl) ?_
  refine s_move rfl rfl ?_
  refine c_strAdd ⟨#[115, 101, 103, 45, 48, 48, 48, 48, 48, 55]⟩ rfl rfl rfl (by kernel_rfl) (by kernel_rfl) ?_
  refine s_assign rfl rfl ?_
  refine SXs_nilK (fr' := [(2, _)]) rfl ?_
  refine KSs_wp ?_
  refine WPs_ret ?_
  refine RLs_start ?_
  refine RLs_tmp rfl ?_
  refine RLs_fin1 ?_
  exact fun w hS => ⟨rfl, hS.sl (by (repeat ((exact Sl.refl _))))⟩

theorem name7 {g : World} {F : List HP} (hG : DeG g) : RCs Tryz.prog 12 [(.int .u32 7)] g F (fun u w => u = (.string ⟨#[115, 101, 103, 45, 48, 48, 48, 48, 48, 55]⟩) ∧ St g w F) := clF1_12_0 hG

/-- hourbook/seg.is -/
theorem clF1_32_1 {g : World} {F : List HP} : RCs Tryz.prog 32 [(.int .u32 1)] g F (fun u w => u = (.bool true) ∧ St g w F) := by
  refine RCs_of_WPs Tryz.func32 rfl Tryz.ntmps32 rfl Tryz.results32 ?_
  refine WPs_seq ?_
  refine WPs_regionK [0] ?_
  refine s_assign rfl rfl ?_
  refine SXs_nilK (fr' := [(0, _)]) rfl ?_
  refine KSs_wp ?_
  refine WPs_seq ?_
  refine WPs_regionK [2] ?_
  refine s_move rfl rfl ?_
  refine c_geq true rfl rfl rfl (by kernel_rfl) ?_
  refine s_move rfl rfl ?_
  refine s_guard_t2 rfl rfl (by ((rfl))) rfl ?_
  refine s_move rfl rfl ?_
  refine s_guard_t2 rfl rfl (by ((rfl))) rfl ?_
  refine c_leq true rfl rfl rfl (by kernel_rfl) ?_
  refine s_pick_t rfl rfl rfl ?_
  refine s_assign rfl rfl ?_
  refine SXs_nilK (fr' := [(2, _)]) rfl ?_
  refine KSs_wp ?_
  refine WPs_ret ?_
  refine RLs_start ?_
  refine RLs_tmp rfl ?_
  refine RLs_fin1 ?_
  exact fun w hS => ⟨rfl, hS.sl (by (repeat ((exact Sl.refl _))))⟩

/-- internal/strconv.formatBits -/
theorem clF1_123_1 {g : World} {F : List HP} (hG : DeG g) : RCs Tryz.prog 123 [(.slice none 0 0), (.int .u64 1), (.int .i64 16), (.bool false), (.bool false)] g F (fun u w => u = .tuple #[(.slice none 0 0), (.string ⟨#[49]⟩)] ∧ St g w F) := by
  refine RCs_of_WPs Tryz.func123 rfl Tryz.ntmps123 rfl Tryz.results123 ?_
  refine WPs_seq ?_
  refine WPs_regionK [0, 1, 2, 3, 4, 10, 11] ?_
  refine s_assign rfl rfl ?_
  refine s_assign rfl rfl ?_
  refine SXs_nilK (fr' := [(0, _), (1, _), (2, _), (3, _), (4, _), (10, _), (11, _)]) rfl ?_
  refine KSs_wp ?_
  refine WPs_seq ?_
  refine WPs_seq ?_
  refine WPs_regionK [0, 1, 2, 3, 4, 10, 11, 28] ?_
  refine s_move rfl rfl ?_
  refine c_lss false rfl rfl rfl (by kernel_rfl) ?_
  refine s_move rfl rfl ?_
  refine s_guard_t2 rfl rfl (by ((rfl))) rfl ?_
  refine s_move rfl rfl ?_
  refine s_guard_t2 rfl rfl (by ((rfl))) rfl ?_
  refine c_eql false rfl rfl rfl (by kernel_rfl) ?_
  refine s_pick_f rfl rfl rfl ?_
  refine s_move rfl rfl ?_
  refine s_guard_t2 rfl rfl (by ((rfl))) rfl ?_
  refine s_move rfl rfl ?_
  refine s_guard_t2 rfl rfl (by ((rfl))) rfl ?_
  refine c_gtr false rfl rfl rfl (by kernel_rfl) ?_
  refine s_pick_f rfl rfl rfl ?_
  refine SXs_nilK (fr' := [(0, _), (1, _), (2, _), (3, _), (4, _), (10, _), (11, _), (28, _)]) rfl ?_
  refine KSs_wp ?_
  refine WPs_condF rfl ?_
  refine WPs_skip ?_
  refine KSs_wp ?_
  refine WPs_seq ?_
  refine WPs_regionK [0, 1, 2, 3, 4, 10, 11, 12] ?_
  refine s_alloc Tryz.zeroValue212 (cl := [_, _, _, _, _, _, _, _, _, _, _, _, _, _, _, _, _, _, _, _, _, _, _, _, _, _, _, _, _, _, _, _, _, _, _, _, _, _, _, _, _, _, _, _, _, _, _, _, _, _, _, _, _, _, _, _, _, _, _, _, _, _, _, _, _]) rfl rfl (fun b12 => ?_)
  refine SXs_nilK (fr' := [(0, _), (1, _), (2, _), (3, _), (4, _), (10, _), (11, _), (12, _)]) rfl ?_
  refine KSs_wp ?_
  refine WPs_seq ?_
  refine WPs_regionK [0, 1, 2, 3, 4, 10, 11, 12, 13] ?_
  refine s_assign rfl rfl ?_
  refine SXs_nilK (fr' := [(0, _), (1, _), (2, _), (3, _), (4, _), (10, _), (11, _), (12, _), (13, _)]) rfl ?_
  refine KSs_wp ?_
  refine WPs_seq ?_
  refine WPs_seq ?_
  refine WPs_regionK [0, 1, 2, 3, 4, 10, 11, 12, 13, 30] ?_
  refine s_move rfl rfl ?_
  refine SXs_nilK (fr' := [(0, _), (1, _), (2, _), (3, _), (4, _), (10, _), (11, _), (12, _), (13, _), (30, _)]) rfl ?_
  refine KSs_wp ?_
  refine WPs_condF rfl ?_
  refine WPs_skip ?_
  refine KSs_wp ?_
  refine WPs_seq ?_
  refine WPs_seq ?_
  refine WPs_regionK [0, 1, 2, 3, 4, 10, 11, 12, 13, 34] ?_
  refine s_move rfl rfl ?_
  refine s_call Tryz.call155 rfl (vs := [_]) rfl (RCs.perm (by (repeat ((exact List.Perm.refl _)))) (clF1_155_0)) ?_
  rintro v w ⟨rfl, hS⟩
  refine SXs_go hS ?_
  clear hS; clear w
  simp only [putF]
  refine SXs_nilK (fr' := [(0, _), (1, _), (2, _), (3, _), (4, _), (10, _), (11, _), (12, _), (13, _), (34, _)]) rfl ?_
  refine KSs_wp ?_
  refine WPs_condT rfl ?_
  refine WPs_seq ?_
  refine WPs_regionK [0, 1, 2, 3, 4, 10, 11, 12, 13, 14] ?_
  refine s_move rfl rfl ?_
  refine s_conv (c := 16) Tryz.underlying3 Tryz.underlying127 rfl rfl (by kernel_rfl) ?_
  refine s_call Tryz.call156 rfl (vs := [_]) rfl (RCs.perm (by (repeat ((exact List.Perm.refl _)))) (clF1_156_0 hG)) ?_
  rintro v w ⟨rfl, hS⟩
  refine SXs_go hS ?_
  clear hS; clear w
  simp only [putF]
  refine s_conv (c := 4) Tryz.underlying3 Tryz.underlying127 rfl rfl (by kernel_rfl) ?_
  refine s_assign rfl rfl ?_
  refine SXs_nilK (fr' := [(0, _), (1, _), (2, _), (3, _), (4, _), (10, _), (11, _), (12, _), (13, _), (14, _)]) rfl ?_
  refine KSs_wp ?_
  refine WPs_seq ?_
  refine WPs_regionK [0, 1, 2, 3, 4, 10, 11, 12, 13, 14, 15] ?_
  refine s_move rfl rfl ?_
  refine s_conv (c := 16) Tryz.underlying3 Tryz.underlying36 rfl rfl (by kernel_rfl) ?_
  refine s_assign rfl rfl ?_
  refine SXs_nilK (fr' := [(0, _), (1, _), (2, _), (3, _), (4, _), (10, _), (11, _), (12, _), (13, _), (14, _), (15, _)]) rfl ?_
  refine KSs_wp ?_
  refine WPs_seq ?_
  refine WPs_regionK [0, 1, 3, 4, 10, 11, 12, 13, 14, 15, 16] ?_
  refine s_move rfl rfl ?_
  refine s_conv (c := 16) Tryz.underlying3 Tryz.underlying127 rfl rfl (by kernel_rfl) ?_
  refine s_sub' (c := 15) rfl rfl rfl (by kernel_rfl) ?_
  refine s_assign rfl rfl ?_
  refine SXs_nilK (fr' := [(0, _), (1, _), (3, _), (4, _), (10, _), (11, _), (12, _), (13, _), (14, _), (15, _), (16, _)]) rfl ?_
  refine KSs_wp ?_
  refine WPs_seq ?_
  refine WPs_block ?_
  refine WPs_unroll 59 ?_
  refine WPs_seq ?_
  refine WPs_seq ?_
  refine WPs_regionK [0, 1, 3, 4, 10, 11, 12, 13, 14, 15, 16, 46] ?_
  refine s_move rfl rfl ?_
  refine s_move rfl rfl ?_
  refine c_geq false rfl rfl rfl (by kernel_rfl) ?_
  refine SXs_nilK (fr' := [(0, _), (1, _), (3, _), (4, _), (10, _), (11, _), (12, _), (13, _), (14, _), (15, _), (16, _), (46, _)]) rfl ?_
  refine KSs_wp ?_
  refine WPs_condF rfl ?_
  refine WPs_exit rfl ?_
  refine KSs_wp ?_
  refine WPs_seq ?_
  refine WPs_regionK [0, 1, 3, 4, 10, 11, 12, 13] ?_
  refine s_move rfl rfl ?_
  refine s_sub' (c := 64) rfl rfl rfl (by kernel_rfl) ?_
  refine s_assign rfl rfl ?_
  refine SXs_nilK (fr' := [(0, _), (1, _), (3, _), (4, _), (10, _), (11, _), (12, _), (13, _)]) rfl ?_
  refine KSs_wp ?_
  refine WPs_regionK [0, 3, 4, 10, 11, 12, 13] ?_
  refine s_move rfl rfl ?_
  refine s_move rfl rfl ?_
  refine c_idxStr (j := 1) 49 Tryz.underlying9 rfl rfl rfl (by kernel_rfl) (by kernel_rfl) ?_
  refine c_idxArr 64 Tryz.underlying212 Tryz.sizeOf5 rfl rfl rfl (by omega) (by omega) (by kernel_rfl) ?_
  refine s_store (i := 0) Tryz.sizeOf5 rfl rfl rfl (vs := [_]) rfl rfl rfl rfl ?_
  simp only [List.set_cons_zero, List.set_cons_succ, spl]
  refine SXs_nilK (fr' := [(0, _), (3, _), (4, _), (10, _), (11, _), (12, _), (13, _)]) rfl ?_
  refine KSs_wp ?_
  refine WPs_seq ?_
  refine WPs_seq ?_
  refine WPs_regionK [0, 4, 10, 11, 12, 13, 89] ?_
  refine s_move rfl rfl ?_
  refine SXs_nilK (fr' := [(0, _), (4, _), (10, _), (11, _), (12, _), (13, _), (89, _)]) rfl ?_
  refine KSs_wp ?_
  refine WPs_condF rfl ?_
  refine WPs_skip ?_
  refine KSs_wp ?_
  refine WPs_seq ?_
  refine WPs_seq ?_
  refine WPs_regionK [0, 10, 11, 12, 13, 94] ?_
  refine s_move rfl rfl ?_
  refine SXs_nilK (fr' := [(0, _), (10, _), (11, _), (12, _), (13, _), (94, _)]) rfl ?_
  refine KSs_wp ?_
  refine WPs_condF rfl ?_
  refine WPs_skip ?_
  refine KSs_wp ?_
  refine WPs_seq ?_
  refine WPs_regionK [10, 11] ?_
  refine s_move rfl rfl ?_
  refine c_sliceArr 64 65 (vlo := some _) (vhi := none) Tryz.underlying212 Tryz.sizeOf5 rfl rfl rfl trivial (.inl rfl) (.inr ⟨rfl, rfl⟩) rfl rfl ?_
  refine c_b2s (bs := [49]) Tryz.underlying42 Tryz.underlying5 Tryz.underlying9 rfl rfl (by (exact pt_RdIn (i := 0) rfl rfl rfl (by omega) (by simp only [maxLen]; omega))) ?_
  refine s_assign rfl rfl ?_
  refine SXs_nilK (fr' := [(10, _), (11, _)]) rfl ?_
  refine KSs_wp ?_
  refine WPs_ret ?_
  refine RLs_start ?_
  refine RLs_tmp rfl ?_
  refine RLs_tmp rfl ?_
  refine RLs_fin2 ?_
  exact fun w hS => ⟨rfl, hS.sl (by (repeat (first | exact Sl.refl _ | refine Sl.skip ?_)))⟩

/-- internal/strconv.FormatUint -/
theorem clF1_75_1 {g : World} {F : List HP} (hG : DeG g) : RCs Tryz.prog 75 [(.int .u64 1), (.int .i64 16)] g F (fun u w => u = (.string ⟨#[49]⟩) ∧ St g w F) := by
  refine RCs_of_WPs Tryz.func75 rfl Tryz.ntmps75 rfl Tryz.results75 ?_
  refine WPs_seq ?_
  refine WPs_regionK [0, 1] ?_
  refine s_assign rfl rfl ?_
  refine SXs_nilK (fr' := [(0, _), (1, _)]) rfl ?_
  refine KSs_wp ?_
  refine WPs_seq ?_
  refine WPs_seq ?_
  refine WPs_regionK [0, 1, 10] ?_
  refine s_move rfl rfl ?_
  refine c_eql false rfl rfl rfl (by kernel_rfl) ?_
  refine SXs_nilK (fr' := [(0, _), (1, _), (10, _)]) rfl ?_
  refine KSs_wp ?_
  refine WPs_condF rfl ?_
  refine WPs_skip ?_
  refine KSs_wp ?_
  refine WPs_seq ?_
  refine WPs_regionK [8] ?_
  refine s_move rfl rfl ?_
  refine s_move rfl rfl ?_
  refine s_call Tryz.call123 rfl (vs := [_, _, _, _, _]) rfl (RCs.perm (by (repeat ((exact List.Perm.refl _)))) (clF1_123_1 hG)) ?_
  rintro v w ⟨rfl, hS⟩
  refine SXs_go hS ?_
  clear hS; clear w
  simp only [putF]
  refine s_move rfl rfl ?_
  refine s_extract rfl rfl rfl ?_
  refine s_extract rfl rfl rfl ?_
  refine s_assign rfl rfl ?_
  refine s_assign rfl rfl ?_
  refine SXs_nilK (fr' := [(8, _)]) rfl ?_
  refine KSs_wp ?_
  refine WPs_seq ?_
  refine WPs_regionK [4] ?_
  refine s_move rfl rfl ?_
  refine s_assign rfl rfl ?_
  refine SXs_nilK (fr' := [(4, _)]) rfl ?_
  refine KSs_wp ?_
  refine WPs_ret ?_
  refine RLs_start ?_
  refine RLs_tmp rfl ?_
  refine RLs_fin1 ?_
  exact fun w hS => ⟨rfl, hS.sl (by (repeat ((exact Sl.refl _))))⟩

/-- strconv.FormatUint -/
theorem clF1_33_1 {g : World} {F : List HP} (hG : DeG g) : RCs Tryz.prog 33 [(.int .u64 1), (.int .i64 16)] g F (fun u w => u = (.string ⟨#[49]⟩) ∧ St g w F) := by
  refine RCs_of_WPs Tryz.func33 rfl Tryz.ntmps33 rfl Tryz.results33 ?_
  refine WPs_seq ?_
  refine WPs_regionK [0, 1] ?_
  refine s_assign rfl rfl ?_
  refine SXs_nilK (fr' := [(0, _), (1, _)]) rfl ?_
  refine KSs_wp ?_
  refine WPs_seq ?_
  refine WPs_regionK [4] ?_
  refine s_move rfl rfl ?_
  refine s_move rfl rfl ?_
  refine s_call Tryz.call75 rfl (vs := [_, _]) rfl (RCs.perm (by (repeat ((exact List.Perm.refl _)))) (clF1_75_1 hG)) ?_
  rintro v w ⟨rfl, hS⟩
  refine SXs_go hS ?_
  clear hS; clear w
  simp only [putF]
  refine s_assign rfl rfl ?_
  refine SXs_nilK (fr' := [(4, _)]) rfl ?_
  refine KSs_wp ?_
  refine WPs_ret ?_
  refine RLs_start ?_
  refine RLs_tmp rfl ?_
  refine RLs_fin1 ?_
  exact fun w hS => ⟨rfl, hS.sl (by (repeat ((exact Sl.refl _))))⟩

/-- hourbook/seg.Name -/
theorem clF1_12_1 {g : World} {F : List HP} (hG : DeG g) : RCs Tryz.prog 12 [(.int .u32 1)] g F (fun u w => u = (.string ⟨#[115, 101, 103, 45, 48, 48, 48, 48, 48, 49]⟩) ∧ St g w F) := by
  refine RCs_of_WPs Tryz.func12 rfl Tryz.ntmps12 rfl Tryz.results12 ?_
  refine WPs_seq ?_
  refine WPs_regionK [0] ?_
  refine s_assign rfl rfl ?_
  refine SXs_nilK (fr' := [(0, _)]) rfl ?_
  refine KSs_wp ?_
  refine WPs_seq ?_
  refine WPs_seq ?_
  refine WPs_regionK [0, 6] ?_
  refine s_move rfl rfl ?_
  refine s_call Tryz.call32 rfl (vs := [_]) rfl (RCs.perm (by (repeat ((exact List.Perm.refl _)))) (clF1_32_1)) ?_
  rintro v w ⟨rfl, hS⟩
  refine SXs_go hS ?_
  clear hS; clear w
  simp only [putF]
  refine c_not false rfl rfl (by kernel_rfl) ?_
  refine SXs_nilK (fr' := [(0, _), (6, _)]) rfl ?_
  refine KSs_wp ?_
  refine WPs_condF rfl ?_
  refine WPs_skip ?_
  refine KSs_wp ?_
  refine WPs_seq ?_
  refine WPs_regionK [3] ?_
  refine s_move rfl rfl ?_
  refine s_conv (c := 1) Tryz.underlying34 Tryz.underlying36 rfl rfl (by kernel_rfl) ?_
  refine s_call Tryz.call33 rfl (vs := [_, _]) rfl (RCs.perm (by (repeat ((exact List.Perm.refl _)))) (clF1_33_1 hG)) ?_
  rintro v w ⟨rfl, hS⟩
  refine SXs_go hS ?_
  clear hS; clear w
  simp only [putF]
  refine s_assign rfl rfl ?_
  refine SXs_nilK (fr' := [(3, _)]) rfl ?_
  refine KSs_wp ?_
  refine WPs_seq ?_
  refine WPs_regionK [2] ?_
  refine s_move rfl rfl ?_
  refine c_lenStr 1 rfl Tryz.underlying9 rfl rfl (by kernel_rfl) ?_
  refine s_sub' (c := 5) rfl rfl rfl (by kernel_rfl) ?_
  refine s_call Tryz.call34 rfl (vs := [_, _]) rfl (RCs.perm (by (repeat ((exact List.Perm.refl _)))) (clF1_34_0)) ?_
  rintro v w ⟨rfl, hS⟩
  refine SXs_go hS ?_
  clear hS; clear w
  simp only [putF]
  refine c_strAdd ⟨#[115, 101, 103, 45, 48, 48, 48, 48, 48]⟩ rfl rfl rfl (by kernel_rfl) (by kernel_rfl) ?_
  refine s_move rfl rfl ?_
  refine c_strAdd ⟨#[115, 101, 103, 45, 48, 48, 48, 48, 48, 49]⟩ rfl rfl rfl (by kernel_rfl) (by kernel_rfl) ?_
  refine s_assign rfl rfl ?_
  refine SXs_nilK (fr' := [(2, _)]) rfl ?_
  refine KSs_wp ?_
  refine WPs_ret ?_
  refine RLs_start ?_
  refine RLs_tmp rfl ?_
  refine RLs_fin1 ?_
  exact fun w hS => ⟨rfl, hS.sl (by (repeat ((exact Sl.refl _))))⟩

theorem name1 {g : World} {F : List HP} (hG : DeG g) : RCs Tryz.prog 12 [(.int .u32 1)] g F (fun u w => u = (.string ⟨#[115, 101, 103, 45, 48, 48, 48, 48, 48, 49]⟩) ∧ St g w F) := clF1_12_1 hG

/-- hourbook/seg.is -/
theorem clF1_32_2 {g : World} {F : List HP} : RCs Tryz.prog 32 [(.int .u32 255)] g F (fun u w => u = (.bool true) ∧ St g w F) := by
  refine RCs_of_WPs Tryz.func32 rfl Tryz.ntmps32 rfl Tryz.results32 ?_
  refine WPs_seq ?_
  refine WPs_regionK [0] ?_
  refine s_assign rfl rfl ?_
  refine SXs_nilK (fr' := [(0, _)]) rfl ?_
  refine KSs_wp ?_
  refine WPs_seq ?_
  refine WPs_regionK [2] ?_
  refine s_move rfl rfl ?_
  refine c_geq true rfl rfl rfl (by kernel_rfl) ?_
  refine s_move rfl rfl ?_
  refine s_guard_t2 rfl rfl (by ((rfl))) rfl ?_
  refine s_move rfl rfl ?_
  refine s_guard_t2 rfl rfl (by ((rfl))) rfl ?_
  refine c_leq true rfl rfl rfl (by kernel_rfl) ?_
  refine s_pick_t rfl rfl rfl ?_
  refine s_assign rfl rfl ?_
  refine SXs_nilK (fr' := [(2, _)]) rfl ?_
  refine KSs_wp ?_
  refine WPs_ret ?_
  refine RLs_start ?_
  refine RLs_tmp rfl ?_
  refine RLs_fin1 ?_
  exact fun w hS => ⟨rfl, hS.sl (by (repeat ((exact Sl.refl _))))⟩

/-- internal/strconv.formatBits -/
theorem clF1_123_2 {g : World} {F : List HP} (hG : DeG g) : RCs Tryz.prog 123 [(.slice none 0 0), (.int .u64 255), (.int .i64 16), (.bool false), (.bool false)] g F (fun u w => u = .tuple #[(.slice none 0 0), (.string ⟨#[102, 102]⟩)] ∧ St g w F) := by
  refine RCs_of_WPs Tryz.func123 rfl Tryz.ntmps123 rfl Tryz.results123 ?_
  refine WPs_seq ?_
  refine WPs_regionK [0, 1, 2, 3, 4, 10, 11] ?_
  refine s_assign rfl rfl ?_
  refine s_assign rfl rfl ?_
  refine SXs_nilK (fr' := [(0, _), (1, _), (2, _), (3, _), (4, _), (10, _), (11, _)]) rfl ?_
  refine KSs_wp ?_
  refine WPs_seq ?_
  refine WPs_seq ?_
  refine WPs_regionK [0, 1, 2, 3, 4, 10, 11, 28] ?_
  refine s_move rfl rfl ?_
  refine c_lss false rfl rfl rfl (by kernel_rfl) ?_
  refine s_move rfl rfl ?_
  refine s_guard_t2 rfl rfl (by ((rfl))) rfl ?_
  refine s_move rfl rfl ?_
  refine s_guard_t2 rfl rfl (by ((rfl))) rfl ?_
  refine c_eql false rfl rfl rfl (by kernel_rfl) ?_
  refine s_pick_f rfl rfl rfl ?_
  refine s_move rfl rfl ?_
  refine s_guard_t2 rfl rfl (by ((rfl))) rfl ?_
  refine s_move rfl rfl ?_
  refine s_guard_t2 rfl rfl (by ((rfl))) rfl ?_
  refine c_gtr false rfl rfl rfl (by kernel_rfl) ?_
  refine s_pick_f rfl rfl rfl ?_
  refine SXs_nilK (fr' := [(0, _), (1, _), (2, _), (3, _), (4, _), (10, _), (11, _), (28, _)]) rfl ?_
  refine KSs_wp ?_
  refine WPs_condF rfl ?_
  refine WPs_skip ?_
  refine KSs_wp ?_
  refine WPs_seq ?_
  refine WPs_regionK [0, 1, 2, 3, 4, 10, 11, 12] ?_
  refine s_alloc Tryz.zeroValue212 (cl := [_, _, _, _, _, _, _, _, _, _, _, _, _, _, _, _, _, _, _, _, _, _, _, _, _, _, _, _, _, _, _, _, _, _, _, _, _, _, _, _, _, _, _, _, _, _, _, _, _, _, _, _, _, _, _, _, _, _, _, _, _, _, _, _, _]) rfl rfl (fun b12 => ?_)
  refine SXs_nilK (fr' := [(0, _), (1, _), (2, _), (3, _), (4, _), (10, _), (11, _), (12, _)]) rfl ?_
  refine KSs_wp ?_
  refine WPs_seq ?_
  refine WPs_regionK [0, 1, 2, 3, 4, 10, 11, 12, 13] ?_
  refine s_assign rfl rfl ?_
  refine SXs_nilK (fr' := [(0, _), (1, _), (2, _), (3, _), (4, _), (10, _), (11, _), (12, _), (13, _)]) rfl ?_
  refine KSs_wp ?_
  refine WPs_seq ?_
  refine WPs_seq ?_
  refine WPs_regionK [0, 1, 2, 3, 4, 10, 11, 12, 13, 30] ?_
  refine s_move rfl rfl ?_
  refine SXs_nilK (fr' := [(0, _), (1, _), (2, _), (3, _), (4, _), (10, _), (11, _), (12, _), (13, _), (30, _)]) rfl ?_
  refine KSs_wp ?_
  refine WPs_condF rfl ?_
  refine WPs_skip ?_
  refine KSs_wp ?_
  refine WPs_seq ?_
  refine WPs_seq ?_
  refine WPs_regionK [0, 1, 2, 3, 4, 10, 11, 12, 13, 34] ?_
  refine s_move rfl rfl ?_
  refine s_call Tryz.call155 rfl (vs := [_]) rfl (RCs.perm (by (repeat ((exact List.Perm.refl _)))) (clF1_155_0)) ?_
  rintro v w ⟨rfl, hS⟩
  refine SXs_go hS ?_
  clear hS; clear w
  simp only [putF]
  refine SXs_nilK (fr' := [(0, _), (1, _), (2, _), (3, _), (4, _), (10, _), (11, _), (12, _), (13, _), (34, _)]) rfl ?_
  refine KSs_wp ?_
  refine WPs_condT rfl ?_
  refine WPs_seq ?_
  refine WPs_regionK [0, 1, 2, 3, 4, 10, 11, 12, 13, 14] ?_
  refine s_move rfl rfl ?_
  refine s_conv (c := 16) Tryz.underlying3 Tryz.underlying127 rfl rfl (by kernel_rfl) ?_
  refine s_call Tryz.call156 rfl (vs := [_]) rfl (RCs.perm (by (repeat ((exact List.Perm.refl _)))) (clF1_156_0 hG)) ?_
  rintro v w ⟨rfl, hS⟩
  refine SXs_go hS ?_
  clear hS; clear w
  simp only [putF]
  refine s_conv (c := 4) Tryz.underlying3 Tryz.underlying127 rfl rfl (by kernel_rfl) ?_
  refine s_assign rfl rfl ?_
  refine SXs_nilK (fr' := [(0, _), (1, _), (2, _), (3, _), (4, _), (10, _), (11, _), (12, _), (13, _), (14, _)]) rfl ?_
  refine KSs_wp ?_
  refine WPs_seq ?_
  refine WPs_regionK [0, 1, 2, 3, 4, 10, 11, 12, 13, 14, 15] ?_
  refine s_move rfl rfl ?_
  refine s_conv (c := 16) Tryz.underlying3 Tryz.underlying36 rfl rfl (by kernel_rfl) ?_
  refine s_assign rfl rfl ?_
  refine SXs_nilK (fr' := [(0, _), (1, _), (2, _), (3, _), (4, _), (10, _), (11, _), (12, _), (13, _), (14, _), (15, _)]) rfl ?_
  refine KSs_wp ?_
  refine WPs_seq ?_
  refine WPs_regionK [0, 1, 3, 4, 10, 11, 12, 13, 14, 15, 16] ?_
  refine s_move rfl rfl ?_
  refine s_conv (c := 16) Tryz.underlying3 Tryz.underlying127 rfl rfl (by kernel_rfl) ?_
  refine s_sub' (c := 15) rfl rfl rfl (by kernel_rfl) ?_
  refine s_assign rfl rfl ?_
  refine SXs_nilK (fr' := [(0, _), (1, _), (3, _), (4, _), (10, _), (11, _), (12, _), (13, _), (14, _), (15, _), (16, _)]) rfl ?_
  refine KSs_wp ?_
  refine WPs_seq ?_
  refine WPs_block ?_
  refine WPs_unroll 59 ?_
  refine WPs_seq ?_
  refine WPs_seq ?_
  refine WPs_regionK [0, 1, 3, 4, 10, 11, 12, 13, 14, 15, 16, 46] ?_
  refine s_move rfl rfl ?_
  refine s_move rfl rfl ?_
  refine c_geq true rfl rfl rfl (by kernel_rfl) ?_
  refine SXs_nilK (fr' := [(0, _), (1, _), (3, _), (4, _), (10, _), (11, _), (12, _), (13, _), (14, _), (15, _), (16, _), (46, _)]) rfl ?_
  refine KSs_wp ?_
  refine WPs_condT rfl ?_
  refine WPs_skip ?_
  refine KSs_wp ?_
  refine WPs_block ?_
  refine WPs_seq ?_
  refine WPs_regionK [0, 1, 3, 4, 10, 11, 12, 13, 14, 15, 16] ?_
  refine s_move rfl rfl ?_
  refine s_sub' (c := 64) rfl rfl rfl (by kernel_rfl) ?_
  refine s_assign rfl rfl ?_
  refine SXs_nilK (fr' := [(0, _), (1, _), (3, _), (4, _), (10, _), (11, _), (12, _), (13, _), (14, _), (15, _), (16, _)]) rfl ?_
  refine KSs_wp ?_
  refine WPs_seq ?_
  refine WPs_regionK [0, 1, 3, 4, 10, 11, 12, 13, 14, 15, 16] ?_
  refine s_move rfl rfl ?_
  refine s_move rfl rfl ?_
  refine s_move rfl rfl ?_
  refine c_bin .and 15 (by simp) rfl rfl rfl (fun _ => by kernel_rfl) ?_
  refine c_idxStr (j := 15) 102 Tryz.underlying9 rfl rfl rfl (by kernel_rfl) (by kernel_rfl) ?_
  refine c_idxArr 64 Tryz.underlying212 Tryz.sizeOf5 rfl rfl rfl (by omega) (by omega) (by kernel_rfl) ?_
  refine s_store (i := 0) Tryz.sizeOf5 rfl rfl rfl (vs := [_]) rfl rfl rfl rfl ?_
  simp only [List.set_cons_zero, List.set_cons_succ, spl]
  refine SXs_nilK (fr' := [(0, _), (1, _), (3, _), (4, _), (10, _), (11, _), (12, _), (13, _), (14, _), (15, _), (16, _)]) rfl ?_
  refine KSs_wp ?_
  refine WPs_regionK [0, 1, 3, 4, 10, 11, 12, 13, 14, 15, 16] ?_
  refine s_move rfl rfl ?_
  refine s_move rfl rfl ?_
  refine s_shr (c := 15) rfl rfl rfl (by omega) (by kernel_rfl) ?_
  refine s_assign rfl rfl ?_
  refine SXs_nilK (fr' := [(0, _), (1, _), (3, _), (4, _), (10, _), (11, _), (12, _), (13, _), (14, _), (15, _), (16, _)]) rfl ?_
  refine KSs_unroll (N := 58) ?_
  refine WPs_seq ?_
  refine WPs_seq ?_
  refine WPs_regionK [0, 1, 3, 4, 10, 11, 12, 13, 14, 15, 16, 46] ?_
  refine s_move rfl rfl ?_
  refine s_move rfl rfl ?_
  refine c_geq false rfl rfl rfl (by kernel_rfl) ?_
  refine SXs_nilK (fr' := [(0, _), (1, _), (3, _), (4, _), (10, _), (11, _), (12, _), (13, _), (14, _), (15, _), (16, _), (46, _)]) rfl ?_
  refine KSs_wp ?_
  refine WPs_condF rfl ?_
  refine WPs_exit rfl ?_
  refine KSs_wp ?_
  refine WPs_seq ?_
  refine WPs_regionK [0, 1, 3, 4, 10, 11, 12, 13] ?_
  refine s_move rfl rfl ?_
  refine s_sub' (c := 63) rfl rfl rfl (by kernel_rfl) ?_
  refine s_assign rfl rfl ?_
  refine SXs_nilK (fr' := [(0, _), (1, _), (3, _), (4, _), (10, _), (11, _), (12, _), (13, _)]) rfl ?_
  refine KSs_wp ?_
  refine WPs_regionK [0, 3, 4, 10, 11, 12, 13] ?_
  refine s_move rfl rfl ?_
  refine s_move rfl rfl ?_
  refine c_idxStr (j := 15) 102 Tryz.underlying9 rfl rfl rfl (by kernel_rfl) (by kernel_rfl) ?_
  refine c_idxArr 63 Tryz.underlying212 Tryz.sizeOf5 rfl rfl rfl (by omega) (by omega) (by kernel_rfl) ?_
  refine s_store (i := 0) Tryz.sizeOf5 rfl rfl rfl (vs := [_]) rfl rfl rfl rfl ?_
  simp only [List.set_cons_zero, List.set_cons_succ, spl]
  refine SXs_nilK (fr' := [(0, _), (3, _), (4, _), (10, _), (11, _), (12, _), (13, _)]) rfl ?_
  refine KSs_wp ?_
  refine WPs_seq ?_
  refine WPs_seq ?_
  refine WPs_regionK [0, 4, 10, 11, 12, 13, 89] ?_
  refine s_move rfl rfl ?_
  refine SXs_nilK (fr' := [(0, _), (4, _), (10, _), (11, _), (12, _), (13, _), (89, _)]) rfl ?_
  refine KSs_wp ?_
  refine WPs_condF rfl ?_
  refine WPs_skip ?_
  refine KSs_wp ?_
  refine WPs_seq ?_
  refine WPs_seq ?_
  refine WPs_regionK [0, 10, 11, 12, 13, 94] ?_
  refine s_move rfl rfl ?_
  refine SXs_nilK (fr' := [(0, _), (10, _), (11, _), (12, _), (13, _), (94, _)]) rfl ?_
  refine KSs_wp ?_
  refine WPs_condF rfl ?_
  refine WPs_skip ?_
  refine KSs_wp ?_
  refine WPs_seq ?_
  refine WPs_regionK [10, 11] ?_
  refine s_move rfl rfl ?_
  refine c_sliceArr 63 65 (vlo := some _) (vhi := none) Tryz.underlying212 Tryz.sizeOf5 rfl rfl rfl trivial (.inl rfl) (.inr ⟨rfl, rfl⟩) rfl rfl ?_
  refine c_b2s (bs := [102, 102]) Tryz.underlying42 Tryz.underlying5 Tryz.underlying9 rfl rfl (by (exact pt_RdIn (i := 0) rfl rfl rfl (by omega) (by simp only [maxLen]; omega))) ?_
  refine s_assign rfl rfl ?_
  refine SXs_nilK (fr' := [(10, _), (11, _)]) rfl ?_
  refine KSs_wp ?_
  refine WPs_ret ?_
  refine RLs_start ?_
  refine RLs_tmp rfl ?_
  refine RLs_tmp rfl ?_
  refine RLs_fin2 ?_
  exact fun w hS => ⟨rfl, hS.sl (by (repeat (first | exact Sl.refl _ | refine Sl.skip ?_)))⟩

/-- internal/strconv.FormatUint -/
theorem clF1_75_2 {g : World} {F : List HP} (hG : DeG g) : RCs Tryz.prog 75 [(.int .u64 255), (.int .i64 16)] g F (fun u w => u = (.string ⟨#[102, 102]⟩) ∧ St g w F) := by
  refine RCs_of_WPs Tryz.func75 rfl Tryz.ntmps75 rfl Tryz.results75 ?_
  refine WPs_seq ?_
  refine WPs_regionK [0, 1] ?_
  refine s_assign rfl rfl ?_
  refine SXs_nilK (fr' := [(0, _), (1, _)]) rfl ?_
  refine KSs_wp ?_
  refine WPs_seq ?_
  refine WPs_seq ?_
  refine WPs_regionK [0, 1, 10] ?_
  refine s_move rfl rfl ?_
  refine c_eql false rfl rfl rfl (by kernel_rfl) ?_
  refine SXs_nilK (fr' := [(0, _), (1, _), (10, _)]) rfl ?_
  refine KSs_wp ?_
  refine WPs_condF rfl ?_
  refine WPs_skip ?_
  refine KSs_wp ?_
  refine WPs_seq ?_
  refine WPs_regionK [8] ?_
  refine s_move rfl rfl ?_
  refine s_move rfl rfl ?_
  refine s_call Tryz.call123 rfl (vs := [_, _, _, _, _]) rfl (RCs.perm (by (repeat ((exact List.Perm.refl _)))) (clF1_123_2 hG)) ?_
  rintro v w ⟨rfl, hS⟩
  refine SXs_go hS ?_
  clear hS; clear w
  simp only [putF]
  refine s_move rfl rfl ?_
  refine s_extract rfl rfl rfl ?_
  refine s_extract rfl rfl rfl ?_
  refine s_assign rfl rfl ?_
  refine s_assign rfl rfl ?_
  refine SXs_nilK (fr' := [(8, _)]) rfl ?_
  refine KSs_wp ?_
  refine WPs_seq ?_
  refine WPs_regionK [4] ?_
  refine s_move rfl rfl ?_
  refine s_assign rfl rfl ?_
  refine SXs_nilK (fr' := [(4, _)]) rfl ?_
  refine KSs_wp ?_
  refine WPs_ret ?_
  refine RLs_start ?_
  refine RLs_tmp rfl ?_
  refine RLs_fin1 ?_
  exact fun w hS => ⟨rfl, hS.sl (by (repeat ((exact Sl.refl _))))⟩

/-- strconv.FormatUint -/
theorem clF1_33_2 {g : World} {F : List HP} (hG : DeG g) : RCs Tryz.prog 33 [(.int .u64 255), (.int .i64 16)] g F (fun u w => u = (.string ⟨#[102, 102]⟩) ∧ St g w F) := by
  refine RCs_of_WPs Tryz.func33 rfl Tryz.ntmps33 rfl Tryz.results33 ?_
  refine WPs_seq ?_
  refine WPs_regionK [0, 1] ?_
  refine s_assign rfl rfl ?_
  refine SXs_nilK (fr' := [(0, _), (1, _)]) rfl ?_
  refine KSs_wp ?_
  refine WPs_seq ?_
  refine WPs_regionK [4] ?_
  refine s_move rfl rfl ?_
  refine s_move rfl rfl ?_
  refine s_call Tryz.call75 rfl (vs := [_, _]) rfl (RCs.perm (by (repeat ((exact List.Perm.refl _)))) (clF1_75_2 hG)) ?_
  rintro v w ⟨rfl, hS⟩
  refine SXs_go hS ?_
  clear hS; clear w
  simp only [putF]
  refine s_assign rfl rfl ?_
  refine SXs_nilK (fr' := [(4, _)]) rfl ?_
  refine KSs_wp ?_
  refine WPs_ret ?_
  refine RLs_start ?_
  refine RLs_tmp rfl ?_
  refine RLs_fin1 ?_
  exact fun w hS => ⟨rfl, hS.sl (by (repeat ((exact Sl.refl _))))⟩

/-- math/bits.Mul64 -/
theorem clF1_125_1 {g : World} {F : List HP} : RCs Tryz.prog 125 [(.int .u64 1), (.int .u64 4)] g F (fun u w => u = .tuple #[(.int .u64 0), (.int .u64 4)] ∧ St g w F) := by
  refine RCs_of_WPs Tryz.func125 rfl Tryz.ntmps125 rfl Tryz.results125 ?_
  refine WPs_seq ?_
  refine WPs_regionK [0, 1] ?_
  refine s_assign rfl rfl ?_
  refine s_assign rfl rfl ?_
  refine SXs_nilK (fr' := [(0, _), (1, _)]) rfl ?_
  refine KSs_wp ?_
  refine WPs_seq ?_
  refine WPs_regionK [0, 1, 6] ?_
  refine s_move rfl rfl ?_
  refine c_bin .and 1 (by simp) rfl rfl rfl (fun _ => by kernel_rfl) ?_
  refine s_assign rfl rfl ?_
  refine SXs_nilK (fr' := [(0, _), (1, _), (6, _)]) rfl ?_
  refine KSs_wp ?_
  refine WPs_seq ?_
  refine WPs_regionK [0, 1, 6, 7] ?_
  refine s_move rfl rfl ?_
  refine s_shr (c := 0) rfl rfl rfl (by omega) (by kernel_rfl) ?_
  refine s_assign rfl rfl ?_
  refine SXs_nilK (fr' := [(0, _), (1, _), (6, _), (7, _)]) rfl ?_
  refine KSs_wp ?_
  refine WPs_seq ?_
  refine WPs_regionK [0, 1, 6, 7, 8] ?_
  refine s_move rfl rfl ?_
  refine c_bin .and 4 (by simp) rfl rfl rfl (fun _ => by kernel_rfl) ?_
  refine s_assign rfl rfl ?_
  refine SXs_nilK (fr' := [(0, _), (1, _), (6, _), (7, _), (8, _)]) rfl ?_
  refine KSs_wp ?_
  refine WPs_seq ?_
  refine WPs_regionK [0, 1, 6, 7, 8, 9] ?_
  refine s_move rfl rfl ?_
  refine s_shr (c := 0) rfl rfl rfl (by omega) (by kernel_rfl) ?_
  refine s_assign rfl rfl ?_
  refine SXs_nilK (fr' := [(0, _), (1, _), (6, _), (7, _), (8, _), (9, _)]) rfl ?_
  refine KSs_wp ?_
  refine WPs_seq ?_
  refine WPs_regionK [0, 1, 6, 7, 8, 9, 10] ?_
  refine s_move rfl rfl ?_
  refine s_move rfl rfl ?_
  refine s_mul' (c := 4) rfl rfl rfl (by kernel_rfl) ?_
  refine s_assign rfl rfl ?_
  refine SXs_nilK (fr' := [(0, _), (1, _), (6, _), (7, _), (8, _), (9, _), (10, _)]) rfl ?_
  refine KSs_wp ?_
  refine WPs_seq ?_
  refine WPs_regionK [0, 1, 6, 7, 9, 11] ?_
  refine s_move rfl rfl ?_
  refine s_move rfl rfl ?_
  refine s_mul' (c := 0) rfl rfl rfl (by kernel_rfl) ?_
  refine s_move rfl rfl ?_
  refine s_shr (c := 0) rfl rfl rfl (by omega) (by kernel_rfl) ?_
  refine s_add' (c := 0) rfl rfl rfl (by kernel_rfl) ?_
  refine s_assign rfl rfl ?_
  refine SXs_nilK (fr' := [(0, _), (1, _), (6, _), (7, _), (9, _), (11, _)]) rfl ?_
  refine KSs_wp ?_
  refine WPs_seq ?_
  refine WPs_regionK [0, 1, 6, 7, 9, 11, 12] ?_
  refine s_move rfl rfl ?_
  refine c_bin .and 0 (by simp) rfl rfl rfl (fun _ => by kernel_rfl) ?_
  refine s_assign rfl rfl ?_
  refine SXs_nilK (fr' := [(0, _), (1, _), (6, _), (7, _), (9, _), (11, _), (12, _)]) rfl ?_
  refine KSs_wp ?_
  refine WPs_seq ?_
  refine WPs_regionK [0, 1, 6, 7, 9, 12, 13] ?_
  refine s_move rfl rfl ?_
  refine s_shr (c := 0) rfl rfl rfl (by omega) (by kernel_rfl) ?_
  refine s_assign rfl rfl ?_
  refine SXs_nilK (fr' := [(0, _), (1, _), (6, _), (7, _), (9, _), (12, _), (13, _)]) rfl ?_
  refine KSs_wp ?_
  refine WPs_seq ?_
  refine WPs_regionK [0, 1, 7, 9, 12, 13] ?_
  refine s_move rfl rfl ?_
  refine s_move rfl rfl ?_
  refine s_move rfl rfl ?_
  refine s_mul' (c := 0) rfl rfl rfl (by kernel_rfl) ?_
  refine s_add' (c := 0) rfl rfl rfl (by kernel_rfl) ?_
  refine s_assign rfl rfl ?_
  refine SXs_nilK (fr' := [(0, _), (1, _), (7, _), (9, _), (12, _), (13, _)]) rfl ?_
  refine KSs_wp ?_
  refine WPs_seq ?_
  refine WPs_regionK [0, 1, 4] ?_
  refine s_move rfl rfl ?_
  refine s_move rfl rfl ?_
  refine s_mul' (c := 0) rfl rfl rfl (by kernel_rfl) ?_
  refine s_move rfl rfl ?_
  refine s_add' (c := 0) rfl rfl rfl (by kernel_rfl) ?_
  refine s_move rfl rfl ?_
  refine s_shr (c := 0) rfl rfl rfl (by omega) (by kernel_rfl) ?_
  refine s_add' (c := 0) rfl rfl rfl (by kernel_rfl) ?_
  refine s_assign rfl rfl ?_
  refine SXs_nilK (fr' := [(0, _), (1, _), (4, _)]) rfl ?_
  refine KSs_wp ?_
  refine WPs_seq ?_
  refine WPs_regionK [4, 5] ?_
  refine s_move rfl rfl ?_
  refine s_move rfl rfl ?_
  refine s_mul' (c := 4) rfl rfl rfl (by kernel_rfl) ?_
  refine s_assign rfl rfl ?_
  refine SXs_nilK (fr' := [(4, _), (5, _)]) rfl ?_
  refine KSs_wp ?_
  refine WPs_ret ?_
  refine RLs_start ?_
  refine RLs_tmp rfl ?_
  refine RLs_tmp rfl ?_
  refine RLs_fin2 ?_
  exact fun w hS => ⟨rfl, hS.sl (by (repeat ((exact Sl.refl _))))⟩

/-- math/bits.Mul -/
theorem clF1_76_1 {g : World} {F : List HP} : RCs Tryz.prog 76 [(.int .u64 1), (.int .u64 4)] g F (fun u w => u = .tuple #[(.int .u64 0), (.int .u64 4)] ∧ St g w F) := by
  refine RCs_of_WPs Tryz.func76 rfl Tryz.ntmps76 rfl Tryz.results76 ?_
  refine WPs_seq ?_
  refine WPs_regionK [0, 1] ?_
  refine s_assign rfl rfl ?_
  refine s_assign rfl rfl ?_
  refine SXs_nilK (fr' := [(0, _), (1, _)]) rfl ?_
  refine KSs_wp ?_
  refine WPs_seq ?_
  refine WPs_condF rfl ?_
  refine WPs_skip ?_
  refine KSs_wp ?_
  refine WPs_seq ?_
  refine WPs_regionK [8, 9] ?_
  refine s_move rfl rfl ?_
  refine s_move rfl rfl ?_
  refine s_call Tryz.call125 rfl (vs := [_, _]) rfl (RCs.perm (by (repeat ((exact List.Perm.refl _)))) (clF1_125_1)) ?_
  rintro v w ⟨rfl, hS⟩
  refine SXs_go hS ?_
  clear hS; clear w
  simp only [putF]
  refine s_move rfl rfl ?_
  refine s_extract rfl rfl rfl ?_
  refine s_extract rfl rfl rfl ?_
  refine s_assign rfl rfl ?_
  refine s_assign rfl rfl ?_
  refine SXs_nilK (fr' := [(8, _), (9, _)]) rfl ?_
  refine KSs_wp ?_
  refine WPs_seq ?_
  refine WPs_regionK [4, 5] ?_
  refine s_move rfl rfl ?_
  refine s_move rfl rfl ?_
  refine s_assign rfl rfl ?_
  refine s_assign rfl rfl ?_
  refine SXs_nilK (fr' := [(4, _), (5, _)]) rfl ?_
  refine KSs_wp ?_
  refine WPs_ret ?_
  refine RLs_start ?_
  refine RLs_tmp rfl ?_
  refine RLs_tmp rfl ?_
  refine RLs_fin2 ?_
  exact fun w hS => ⟨rfl, hS.sl (by (repeat ((exact Sl.refl _))))⟩

/-- strings.Repeat -/
theorem clF1_34_1 {g : World} {F : List HP} : RCs Tryz.prog 34 [(.string ⟨#[48]⟩), (.int .i64 4)] g F (fun u w => u = (.string ⟨#[48, 48, 48, 48]⟩) ∧ St g w F) := by
  refine RCs_of_WPs Tryz.func34 rfl Tryz.ntmps34 rfl Tryz.results34 ?_
  refine WPs_seq ?_
  refine WPs_regionK [0, 1] ?_
  refine s_assign rfl rfl ?_
  refine SXs_nilK (fr' := [(0, _), (1, _)]) rfl ?_
  refine KSs_wp ?_
  refine WPs_seq ?_
  refine WPs_seq ?_
  refine WPs_regionK [0, 1, 11] ?_
  refine s_move rfl rfl ?_
  refine SXs_nilK (fr' := [(0, _), (1, _), (11, _)]) rfl ?_
  refine KSs_wp ?_
  refine WPs_block ?_
  refine WPs_seq ?_
  refine WPs_regionK [0, 1, 11, 12] ?_
  refine c_eql false rfl rfl rfl (by kernel_rfl) ?_
  refine s_assign rfl rfl ?_
  refine SXs_nilK (fr' := [(0, _), (1, _), (11, _), (12, _)]) rfl ?_
  refine KSs_wp ?_
  refine WPs_condF rfl ?_
  refine WPs_seq ?_
  refine WPs_regionK [0, 1, 14] ?_
  refine c_eql false rfl rfl rfl (by kernel_rfl) ?_
  refine s_assign rfl rfl ?_
  refine SXs_nilK (fr' := [(0, _), (1, _), (14, _)]) rfl ?_
  refine KSs_wp ?_
  refine WPs_condF rfl ?_
  refine WPs_skip ?_
  refine KSs_wp ?_
  refine WPs_seq ?_
  refine WPs_seq ?_
  refine WPs_regionK [0, 1, 18] ?_
  refine s_move rfl rfl ?_
  refine c_lss false rfl rfl rfl (by kernel_rfl) ?_
  refine SXs_nilK (fr' := [(0, _), (1, _), (18, _)]) rfl ?_
  refine KSs_wp ?_
  refine WPs_condF rfl ?_
  refine WPs_skip ?_
  refine KSs_wp ?_
  refine WPs_seq ?_
  refine WPs_regionK [0, 5, 6] ?_
  refine s_move rfl rfl ?_
  refine c_lenStr 1 rfl Tryz.underlying9 rfl rfl (by kernel_rfl) ?_
  refine s_conv (c := 1) Tryz.underlying3 Tryz.underlying127 rfl rfl (by kernel_rfl) ?_
  refine s_move rfl rfl ?_
  refine s_conv (c := 4) Tryz.underlying3 Tryz.underlying127 rfl rfl (by kernel_rfl) ?_
  refine s_call Tryz.call76 rfl (vs := [_, _]) rfl (RCs.perm (by (repeat ((exact List.Perm.refl _)))) (clF1_76_1)) ?_
  rintro v w ⟨rfl, hS⟩
  refine SXs_go hS ?_
  clear hS; clear w
  simp only [putF]
  refine s_move rfl rfl ?_
  refine s_extract rfl rfl rfl ?_
  refine s_extract rfl rfl rfl ?_
  refine s_assign rfl rfl ?_
  refine s_assign rfl rfl ?_
  refine SXs_nilK (fr' := [(0, _), (5, _), (6, _)]) rfl ?_
  refine KSs_wp ?_
  refine WPs_seq ?_
  refine WPs_seq ?_
  refine WPs_regionK [0, 6, 34] ?_
  refine s_move rfl rfl ?_
  refine c_gtr false rfl rfl rfl (by kernel_rfl) ?_
  refine s_move rfl rfl ?_
  refine s_guard_t2 rfl rfl (by ((rfl))) rfl ?_
  refine s_move rfl rfl ?_
  refine s_guard_t2 rfl rfl (by ((rfl))) rfl ?_
  refine c_gtr false rfl rfl rfl (by kernel_rfl) ?_
  refine s_pick_f rfl rfl rfl ?_
  refine SXs_nilK (fr' := [(0, _), (6, _), (34, _)]) rfl ?_
  refine KSs_wp ?_
  refine WPs_condF rfl ?_
  refine WPs_skip ?_
  refine KSs_wp ?_
  refine WPs_seq ?_
  refine WPs_regionK [0, 7] ?_
  refine s_move rfl rfl ?_
  refine s_conv (c := 4) Tryz.underlying127 Tryz.underlying3 rfl rfl (by kernel_rfl) ?_
  refine s_assign rfl rfl ?_
  refine SXs_nilK (fr' := [(0, _), (7, _)]) rfl ?_
  refine KSs_wp ?_
  refine WPs_seq ?_
  refine WPs_seq ?_
  refine WPs_regionK [0, 7, 40] ?_
  refine s_move rfl rfl ?_
  refine c_lenStr 1 rfl Tryz.underlying9 rfl rfl (by kernel_rfl) ?_
  refine c_eql false rfl rfl rfl (by kernel_rfl) ?_
  refine SXs_nilK (fr' := [(0, _), (7, _), (40, _)]) rfl ?_
  refine KSs_wp ?_
  refine WPs_condF rfl ?_
  refine WPs_skip ?_
  refine KSs_wp ?_
  refine WPs_seq ?_
  refine WPs_seq ?_
  refine WPs_regionK [0, 7, 42] ?_
  refine s_move rfl rfl ?_
  refine c_idxStr (j := 0) 48 Tryz.underlying9 rfl rfl rfl (by kernel_rfl) (by kernel_rfl) ?_
  refine SXs_nilK (fr' := [(0, _), (7, _), (42, _)]) rfl ?_
  refine KSs_wp ?_
  refine WPs_block ?_
  refine WPs_seq ?_
  refine WPs_seq ?_
  refine WPs_regionK [0, 7, 42, 43] ?_
  refine c_eql false rfl rfl rfl (by kernel_rfl) ?_
  refine s_assign rfl rfl ?_
  refine SXs_nilK (fr' := [(0, _), (7, _), (42, _), (43, _)]) rfl ?_
  refine KSs_wp ?_
  refine WPs_condF rfl ?_
  refine WPs_seq ?_
  refine WPs_regionK [0, 7, 42, 43] ?_
  refine c_eql false rfl rfl rfl (by kernel_rfl) ?_
  refine s_assign rfl rfl ?_
  refine SXs_nilK (fr' := [(0, _), (7, _), (42, _), (43, _)]) rfl ?_
  refine KSs_wp ?_
  refine WPs_condF rfl ?_
  refine WPs_seq ?_
  refine WPs_regionK [0, 7, 42, 43] ?_
  refine c_eql true rfl rfl rfl (by kernel_rfl) ?_
  refine s_assign rfl rfl ?_
  refine SXs_nilK (fr' := [(0, _), (7, _), (42, _), (43, _)]) rfl ?_
  refine KSs_wp ?_
  refine WPs_condT rfl ?_
  refine WPs_skip ?_
  refine KSs_wp ?_
  refine WPs_condT rfl ?_
  refine WPs_block ?_
  refine WPs_seq ?_
  refine WPs_regionK [0, 7, 49] ?_
  refine s_move rfl rfl ?_
  refine c_leq true rfl rfl rfl (by kernel_rfl) ?_
  refine s_move rfl rfl ?_
  refine s_guard_t2 rfl rfl (by ((rfl))) rfl ?_
  refine s_move rfl rfl ?_
  refine s_guard_t2 rfl rfl (by ((rfl))) rfl ?_
  refine s_call Tryz.call77 rfl (vs := [_, _]) rfl (RCs.perm (by (repeat ((exact List.Perm.refl _)))) (clF1_77_0)) ?_
  rintro v w ⟨rfl, hS⟩
  refine SXs_go hS ?_
  clear hS; clear w
  simp only [putF]
  refine s_pick_t rfl rfl rfl ?_
  refine s_assign rfl rfl ?_
  refine SXs_nilK (fr' := [(0, _), (7, _), (49, _)]) rfl ?_
  refine KSs_wp ?_
  refine WPs_condF rfl ?_
  refine WPs_seq ?_
  refine WPs_regionK [0, 7, 58] ?_
  refine s_move rfl rfl ?_
  refine c_leq true rfl rfl rfl (by kernel_rfl) ?_
  refine s_move rfl rfl ?_
  refine s_guard_t2 rfl rfl (by ((rfl))) rfl ?_
  refine s_move rfl rfl ?_
  refine s_guard_t2 rfl rfl (by ((rfl))) rfl ?_
  refine s_call Tryz.call77 rfl (vs := [_, _]) rfl (RCs.perm (by (repeat ((exact List.Perm.refl _)))) (clF1_77_1)) ?_
  rintro v w ⟨rfl, hS⟩
  refine SXs_go hS ?_
  clear hS; clear w
  simp only [putF]
  refine s_pick_t rfl rfl rfl ?_
  refine s_assign rfl rfl ?_
  refine SXs_nilK (fr' := [(0, _), (7, _), (58, _)]) rfl ?_
  refine KSs_wp ?_
  refine WPs_condF rfl ?_
  refine WPs_seq ?_
  refine WPs_regionK [0, 7, 67] ?_
  refine s_move rfl rfl ?_
  refine c_leq true rfl rfl rfl (by kernel_rfl) ?_
  refine s_move rfl rfl ?_
  refine s_guard_t2 rfl rfl (by ((rfl))) rfl ?_
  refine s_move rfl rfl ?_
  refine s_guard_t2 rfl rfl (by ((rfl))) rfl ?_
  refine s_call Tryz.call77 rfl (vs := [_, _]) rfl (RCs.perm (by (repeat ((exact List.Perm.refl _)))) (clF1_77_2)) ?_
  rintro v w ⟨rfl, hS⟩
  refine SXs_go hS ?_
  clear hS; clear w
  simp only [putF]
  refine s_pick_t rfl rfl rfl ?_
  refine s_assign rfl rfl ?_
  refine SXs_nilK (fr' := [(0, _), (7, _), (67, _)]) rfl ?_
  refine KSs_wp ?_
  refine WPs_condT rfl ?_
  refine WPs_seq ?_
  refine WPs_regionK [4] ?_
  refine s_move rfl rfl ?_
  refine c_sliceStr (l := 0) (m := 4) (vlo := none) (vhi := some _) ⟨#[48, 48, 48, 48]⟩ Tryz.underlying9 rfl rfl trivial rfl (.inr ⟨rfl, rfl⟩) (.inl rfl) (by kernel_rfl) (by kernel_rfl) (by kernel_rfl) ?_
  refine s_assign rfl rfl ?_
  refine SXs_nilK (fr' := [(4, _)]) rfl ?_
  refine KSs_wp ?_
  refine WPs_ret ?_
  refine RLs_start ?_
  refine RLs_tmp rfl ?_
  refine RLs_fin1 ?_
  exact fun w hS => ⟨rfl, hS.sl (by (repeat ((exact Sl.refl _))))⟩

/-- hourbook/seg.Name -/
theorem clF1_12_2 {g : World} {F : List HP} (hG : DeG g) : RCs Tryz.prog 12 [(.int .u32 255)] g F (fun u w => u = (.string ⟨#[115, 101, 103, 45, 48, 48, 48, 48, 102, 102]⟩) ∧ St g w F) := by
  refine RCs_of_WPs Tryz.func12 rfl Tryz.ntmps12 rfl Tryz.results12 ?_
  refine WPs_seq ?_
  refine WPs_regionK [0] ?_
  refine s_assign rfl rfl ?_
  refine SXs_nilK (fr' := [(0, _)]) rfl ?_
  refine KSs_wp ?_
  refine WPs_seq ?_
  refine WPs_seq ?_
  refine WPs_regionK [0, 6] ?_
  refine s_move rfl rfl ?_
  refine s_call Tryz.call32 rfl (vs := [_]) rfl (RCs.perm (by (repeat ((exact List.Perm.refl _)))) (clF1_32_2)) ?_
  rintro v w ⟨rfl, hS⟩
  refine SXs_go hS ?_
  clear hS; clear w
  simp only [putF]
  refine c_not false rfl rfl (by kernel_rfl) ?_
  refine SXs_nilK (fr' := [(0, _), (6, _)]) rfl ?_
  refine KSs_wp ?_
  refine WPs_condF rfl ?_
  refine WPs_skip ?_
  refine KSs_wp ?_
  refine WPs_seq ?_
  refine WPs_regionK [3] ?_
  refine s_move rfl rfl ?_
  refine s_conv (c := 255) Tryz.underlying34 Tryz.underlying36 rfl rfl (by kernel_rfl) ?_
  refine s_call Tryz.call33 rfl (vs := [_, _]) rfl (RCs.perm (by (repeat ((exact List.Perm.refl _)))) (clF1_33_2 hG)) ?_
  rintro v w ⟨rfl, hS⟩
  refine SXs_go hS ?_
  clear hS; clear w
  simp only [putF]
  refine s_assign rfl rfl ?_
  refine SXs_nilK (fr' := [(3, _)]) rfl ?_
  refine KSs_wp ?_
  refine WPs_seq ?_
  refine WPs_regionK [2] ?_
  refine s_move rfl rfl ?_
  refine c_lenStr 2 rfl Tryz.underlying9 rfl rfl (by kernel_rfl) ?_
  refine s_sub' (c := 4) rfl rfl rfl (by kernel_rfl) ?_
  refine s_call Tryz.call34 rfl (vs := [_, _]) rfl (RCs.perm (by (repeat ((exact List.Perm.refl _)))) (clF1_34_1)) ?_
  rintro v w ⟨rfl, hS⟩
  refine SXs_go hS ?_
  clear hS; clear w
  simp only [putF]
  refine c_strAdd ⟨#[115, 101, 103, 45, 48, 48, 48, 48]⟩ rfl rfl rfl (by kernel_rfl) (by kernel_rfl) ?_
  refine s_move rfl rfl ?_
  refine c_strAdd ⟨#[115, 101, 103, 45, 48, 48, 48, 48, 102, 102]⟩ rfl rfl rfl (by kernel_rfl) (by kernel_rfl) ?_
  refine s_assign rfl rfl ?_
  refine SXs_nilK (fr' := [(2, _)]) rfl ?_
  refine KSs_wp ?_
  refine WPs_ret ?_
  refine RLs_start ?_
  refine RLs_tmp rfl ?_
  refine RLs_fin1 ?_
  exact fun w hS => ⟨rfl, hS.sl (by (repeat ((exact Sl.refl _))))⟩

theorem name255 {g : World} {F : List HP} (hG : DeG g) : RCs Tryz.prog 12 [(.int .u32 255)] g F (fun u w => u = (.string ⟨#[115, 101, 103, 45, 48, 48, 48, 48, 102, 102]⟩) ∧ St g w F) := clF1_12_2 hG

/-- hourbook/folder.May$1 -/
theorem clF1_150_0 {g : World} {F : List HP} : RCs Tryz.prog 150 [(.int .i32 115)] g F (fun u w => u = (.bool false) ∧ St g w F) := by
  refine RCs_of_WPs Tryz.func150 rfl Tryz.ntmps150 rfl Tryz.results150 ?_
  refine WPs_seq ?_
  refine WPs_regionK [0] ?_
  refine s_assign rfl rfl ?_
  refine SXs_nilK (fr' := [(0, _)]) rfl ?_
  refine KSs_wp ?_
  refine WPs_seq ?_
  refine WPs_regionK [2] ?_
  refine s_move rfl rfl ?_
  refine c_lss false rfl rfl rfl (by kernel_rfl) ?_
  refine s_move rfl rfl ?_
  refine s_guard_t2 rfl rfl (by ((rfl))) rfl ?_
  refine s_move rfl rfl ?_
  refine s_guard_t2 rfl rfl (by ((rfl))) rfl ?_
  refine c_gtr false rfl rfl rfl (by kernel_rfl) ?_
  refine s_pick_f rfl rfl rfl ?_
  refine s_move rfl rfl ?_
  refine s_guard_f rfl rfl (by ((rfl))) rfl ?_
  refine s_guard_f rfl rfl (by ((rfl))) rfl ?_
  refine s_guard_f rfl rfl (by ((rfl))) rfl ?_
  refine s_guard_u rfl rfl rfl ?_
  refine s_guard_u rfl rfl rfl ?_
  refine s_guard_f rfl rfl (by ((rfl))) rfl ?_
  refine s_pick_f rfl rfl rfl ?_
  refine s_move rfl rfl ?_
  refine s_guard_f rfl rfl (by ((rfl))) rfl ?_
  refine s_guard_f rfl rfl (by ((rfl))) rfl ?_
  refine s_pick_f rfl rfl rfl ?_
  refine s_move rfl rfl ?_
  refine s_guard_f rfl rfl (by ((rfl))) rfl ?_
  refine s_guard_f rfl rfl (by ((rfl))) rfl ?_
  refine s_pick_f rfl rfl rfl ?_
  refine s_assign rfl rfl ?_
  refine SXs_nilK (fr' := [(2, _)]) rfl ?_
  refine KSs_wp ?_
  refine WPs_ret ?_
  refine RLs_start ?_
  refine RLs_tmp rfl ?_
  refine RLs_fin1 ?_
  exact fun w hS => ⟨rfl, hS.sl (by (repeat ((exact Sl.refl _))))⟩

/-- hourbook/folder.May$1 -/
theorem clF1_150_1 {g : World} {F : List HP} : RCs Tryz.prog 150 [(.int .i32 101)] g F (fun u w => u = (.bool false) ∧ St g w F) := by
  refine RCs_of_WPs Tryz.func150 rfl Tryz.ntmps150 rfl Tryz.results150 ?_
  refine WPs_seq ?_
  refine WPs_regionK [0] ?_
  refine s_assign rfl rfl ?_
  refine SXs_nilK (fr' := [(0, _)]) rfl ?_
  refine KSs_wp ?_
  refine WPs_seq ?_
  refine WPs_regionK [2] ?_
  refine s_move rfl rfl ?_
  refine c_lss false rfl rfl rfl (by kernel_rfl) ?_
  refine s_move rfl rfl ?_
  refine s_guard_t2 rfl rfl (by ((rfl))) rfl ?_
  refine s_move rfl rfl ?_
  refine s_guard_t2 rfl rfl (by ((rfl))) rfl ?_
  refine c_gtr false rfl rfl rfl (by kernel_rfl) ?_
  refine s_pick_f rfl rfl rfl ?_
  refine s_move rfl rfl ?_
  refine s_guard_f rfl rfl (by ((rfl))) rfl ?_
  refine s_guard_f rfl rfl (by ((rfl))) rfl ?_
  refine s_guard_f rfl rfl (by ((rfl))) rfl ?_
  refine s_guard_u rfl rfl rfl ?_
  refine s_guard_u rfl rfl rfl ?_
  refine s_guard_f rfl rfl (by ((rfl))) rfl ?_
  refine s_pick_f rfl rfl rfl ?_
  refine s_move rfl rfl ?_
  refine s_guard_f rfl rfl (by ((rfl))) rfl ?_
  refine s_guard_f rfl rfl (by ((rfl))) rfl ?_
  refine s_pick_f rfl rfl rfl ?_
  refine s_move rfl rfl ?_
  refine s_guard_f rfl rfl (by ((rfl))) rfl ?_
  refine s_guard_f rfl rfl (by ((rfl))) rfl ?_
  refine s_pick_f rfl rfl rfl ?_
  refine s_assign rfl rfl ?_
  refine SXs_nilK (fr' := [(2, _)]) rfl ?_
  refine KSs_wp ?_
  refine WPs_ret ?_
  refine RLs_start ?_
  refine RLs_tmp rfl ?_
  refine RLs_fin1 ?_
  exact fun w hS => ⟨rfl, hS.sl (by (repeat ((exact Sl.refl _))))⟩

/-- hourbook/folder.May$1 -/
theorem clF1_150_2 {g : World} {F : List HP} : RCs Tryz.prog 150 [(.int .i32 103)] g F (fun u w => u = (.bool false) ∧ St g w F) := by
  refine RCs_of_WPs Tryz.func150 rfl Tryz.ntmps150 rfl Tryz.results150 ?_
  refine WPs_seq ?_
  refine WPs_regionK [0] ?_
  refine s_assign rfl rfl ?_
  refine SXs_nilK (fr' := [(0, _)]) rfl ?_
  refine KSs_wp ?_
  refine WPs_seq ?_
  refine WPs_regionK [2] ?_
  refine s_move rfl rfl ?_
  refine c_lss false rfl rfl rfl (by kernel_rfl) ?_
  refine s_move rfl rfl ?_
  refine s_guard_t2 rfl rfl (by ((rfl))) rfl ?_
  refine s_move rfl rfl ?_
  refine s_guard_t2 rfl rfl (by ((rfl))) rfl ?_
  refine c_gtr false rfl rfl rfl (by kernel_rfl) ?_
  refine s_pick_f rfl rfl rfl ?_
  refine s_move rfl rfl ?_
  refine s_guard_f rfl rfl (by ((rfl))) rfl ?_
  refine s_guard_f rfl rfl (by ((rfl))) rfl ?_
  refine s_guard_f rfl rfl (by ((rfl))) rfl ?_
  refine s_guard_u rfl rfl rfl ?_
  refine s_guard_u rfl rfl rfl ?_
  refine s_guard_f rfl rfl (by ((rfl))) rfl ?_
  refine s_pick_f rfl rfl rfl ?_
  refine s_move rfl rfl ?_
  refine s_guard_f rfl rfl (by ((rfl))) rfl ?_
  refine s_guard_f rfl rfl (by ((rfl))) rfl ?_
  refine s_pick_f rfl rfl rfl ?_
  refine s_move rfl rfl ?_
  refine s_guard_f rfl rfl (by ((rfl))) rfl ?_
  refine s_guard_f rfl rfl (by ((rfl))) rfl ?_
  refine s_pick_f rfl rfl rfl ?_
  refine s_assign rfl rfl ?_
  refine SXs_nilK (fr' := [(2, _)]) rfl ?_
  refine KSs_wp ?_
  refine WPs_ret ?_
  refine RLs_start ?_
  refine RLs_tmp rfl ?_
  refine RLs_fin1 ?_
  exact fun w hS => ⟨rfl, hS.sl (by (repeat ((exact Sl.refl _))))⟩

/-- hourbook/folder.May$1 -/
theorem clF1_150_3 {g : World} {F : List HP} : RCs Tryz.prog 150 [(.int .i32 45)] g F (fun u w => u = (.bool false) ∧ St g w F) := by
  refine RCs_of_WPs Tryz.func150 rfl Tryz.ntmps150 rfl Tryz.results150 ?_
  refine WPs_seq ?_
  refine WPs_regionK [0] ?_
  refine s_assign rfl rfl ?_
  refine SXs_nilK (fr' := [(0, _)]) rfl ?_
  refine KSs_wp ?_
  refine WPs_seq ?_
  refine WPs_regionK [2] ?_
  refine s_move rfl rfl ?_
  refine c_lss true rfl rfl rfl (by kernel_rfl) ?_
  refine s_move rfl rfl ?_
  refine s_guard_f rfl rfl (by ((rfl))) rfl ?_
  refine s_guard_f rfl rfl (by ((rfl))) rfl ?_
  refine s_pick_t rfl rfl rfl ?_
  refine s_move rfl rfl ?_
  refine s_guard_t2 rfl rfl (by ((rfl))) rfl ?_
  refine s_move rfl rfl ?_
  refine s_guard_t2 rfl rfl (by ((rfl))) rfl ?_
  refine c_lss true rfl rfl rfl (by kernel_rfl) ?_
  refine s_guard_t2 rfl rfl (by ((rfl))) rfl ?_
  refine s_move rfl rfl ?_
  refine s_guard_f rfl rfl (by ((rfl))) rfl ?_
  refine s_guard_f rfl rfl (by ((rfl))) rfl ?_
  refine s_guard_t2 rfl rfl (by ((rfl))) rfl ?_
  refine s_pick_t rfl rfl rfl ?_
  refine s_pick_t rfl rfl rfl ?_
  refine s_move rfl rfl ?_
  refine s_guard_t2 rfl rfl (by ((rfl))) rfl ?_
  refine s_move rfl rfl ?_
  refine s_guard_t2 rfl rfl (by ((rfl))) rfl ?_
  refine c_neq false rfl rfl rfl (by kernel_rfl) ?_
  refine s_pick_t rfl rfl rfl ?_
  refine s_move rfl rfl ?_
  refine s_guard_f rfl rfl (by ((rfl))) rfl ?_
  refine s_guard_f rfl rfl (by ((rfl))) rfl ?_
  refine s_pick_f rfl rfl rfl ?_
  refine s_assign rfl rfl ?_
  refine SXs_nilK (fr' := [(2, _)]) rfl ?_
  refine KSs_wp ?_
  refine WPs_ret ?_
  refine RLs_start ?_
  refine RLs_tmp rfl ?_
  refine RLs_fin1 ?_
  exact fun w hS => ⟨rfl, hS.sl (by (repeat ((exact Sl.refl _))))⟩

/-- hourbook/folder.May$1 -/
theorem clF1_150_4 {g : World} {F : List HP} : RCs Tryz.prog 150 [(.int .i32 48)] g F (fun u w => u = (.bool false) ∧ St g w F) := by
  refine RCs_of_WPs Tryz.func150 rfl Tryz.ntmps150 rfl Tryz.results150 ?_
  refine WPs_seq ?_
  refine WPs_regionK [0] ?_
  refine s_assign rfl rfl ?_
  refine SXs_nilK (fr' := [(0, _)]) rfl ?_
  refine KSs_wp ?_
  refine WPs_seq ?_
  refine WPs_regionK [2] ?_
  refine s_move rfl rfl ?_
  refine c_lss true rfl rfl rfl (by kernel_rfl) ?_
  refine s_move rfl rfl ?_
  refine s_guard_f rfl rfl (by ((rfl))) rfl ?_
  refine s_guard_f rfl rfl (by ((rfl))) rfl ?_
  refine s_pick_t rfl rfl rfl ?_
  refine s_move rfl rfl ?_
  refine s_guard_t2 rfl rfl (by ((rfl))) rfl ?_
  refine s_move rfl rfl ?_
  refine s_guard_t2 rfl rfl (by ((rfl))) rfl ?_
  refine c_lss false rfl rfl rfl (by kernel_rfl) ?_
  refine s_guard_t2 rfl rfl (by ((rfl))) rfl ?_
  refine s_move rfl rfl ?_
  refine s_guard_t2 rfl rfl (by ((rfl))) rfl ?_
  refine s_move rfl rfl ?_
  refine s_guard_t2 rfl rfl (by ((rfl))) rfl ?_
  refine c_gtr false rfl rfl rfl (by kernel_rfl) ?_
  refine s_guard_t2 rfl rfl (by ((rfl))) rfl ?_
  refine s_pick_f rfl rfl rfl ?_
  refine s_pick_t rfl rfl rfl ?_
  refine s_move rfl rfl ?_
  refine s_guard_f rfl rfl (by ((rfl))) rfl ?_
  refine s_guard_f rfl rfl (by ((rfl))) rfl ?_
  refine s_pick_f rfl rfl rfl ?_
  refine s_move rfl rfl ?_
  refine s_guard_f rfl rfl (by ((rfl))) rfl ?_
  refine s_guard_f rfl rfl (by ((rfl))) rfl ?_
  refine s_pick_f rfl rfl rfl ?_
  refine s_assign rfl rfl ?_
  refine SXs_nilK (fr' := [(2, _)]) rfl ?_
  refine KSs_wp ?_
  refine WPs_ret ?_
  refine RLs_start ?_
  refine RLs_tmp rfl ?_
  refine RLs_fin1 ?_
  exact fun w hS => ⟨rfl, hS.sl (by (repeat ((exact Sl.refl _))))⟩

/-- hourbook/folder.May$1 -/
theorem clF1_150_5 {g : World} {F : List HP} : RCs Tryz.prog 150 [(.int .i32 55)] g F (fun u w => u = (.bool false) ∧ St g w F) := by
  refine RCs_of_WPs Tryz.func150 rfl Tryz.ntmps150 rfl Tryz.results150 ?_
  refine WPs_seq ?_
  refine WPs_regionK [0] ?_
  refine s_assign rfl rfl ?_
  refine SXs_nilK (fr' := [(0, _)]) rfl ?_
  refine KSs_wp ?_
  refine WPs_seq ?_
  refine WPs_regionK [2] ?_
  refine s_move rfl rfl ?_
  refine c_lss true rfl rfl rfl (by kernel_rfl) ?_
  refine s_move rfl rfl ?_
  refine s_guard_f rfl rfl (by ((rfl))) rfl ?_
  refine s_guard_f rfl rfl (by ((rfl))) rfl ?_
  refine s_pick_t rfl rfl rfl ?_
  refine s_move rfl rfl ?_
  refine s_guard_t2 rfl rfl (by ((rfl))) rfl ?_
  refine s_move rfl rfl ?_
  refine s_guard_t2 rfl rfl (by ((rfl))) rfl ?_
  refine c_lss false rfl rfl rfl (by kernel_rfl) ?_
  refine s_guard_t2 rfl rfl (by ((rfl))) rfl ?_
  refine s_move rfl rfl ?_
  refine s_guard_t2 rfl rfl (by ((rfl))) rfl ?_
  refine s_move rfl rfl ?_
  refine s_guard_t2 rfl rfl (by ((rfl))) rfl ?_
  refine c_gtr false rfl rfl rfl (by kernel_rfl) ?_
  refine s_guard_t2 rfl rfl (by ((rfl))) rfl ?_
  refine s_pick_f rfl rfl rfl ?_
  refine s_pick_t rfl rfl rfl ?_
  refine s_move rfl rfl ?_
  refine s_guard_f rfl rfl (by ((rfl))) rfl ?_
  refine s_guard_f rfl rfl (by ((rfl))) rfl ?_
  refine s_pick_f rfl rfl rfl ?_
  refine s_move rfl rfl ?_
  refine s_guard_f rfl rfl (by ((rfl))) rfl ?_
  refine s_guard_f rfl rfl (by ((rfl))) rfl ?_
  refine s_pick_f rfl rfl rfl ?_
  refine s_assign rfl rfl ?_
  refine SXs_nilK (fr' := [(2, _)]) rfl ?_
  refine KSs_wp ?_
  refine WPs_ret ?_
  refine RLs_start ?_
  refine RLs_tmp rfl ?_
  refine RLs_fin1 ?_
  exact fun w hS => ⟨rfl, hS.sl (by (repeat ((exact Sl.refl _))))⟩

/-- strings.indexFunc -/
theorem clF1_176_0 {g : World} {F : List HP} : RCs Tryz.prog 176 [(.string ⟨#[115, 101, 103, 45, 48, 48, 48, 48, 48, 55]⟩), (.func (.func 150) #[] #[]), (.bool true)] g F (fun u w => u = (.int .i64 (-1)) ∧ St g w F) := by
  refine RCs_of_WPs Tryz.func176 rfl Tryz.ntmps176 rfl Tryz.results176 ?_
  refine WPs_seq ?_
  refine WPs_regionK [0, 1, 2] ?_
  refine s_assign rfl rfl ?_
  refine SXs_nilK (fr' := [(0, _), (1, _), (2, _)]) rfl ?_
  refine KSs_wp ?_
  refine WPs_seq ?_
  refine WPs_seq ?_
  refine WPs_regionK [1, 2, 10] ?_
  refine s_move rfl rfl ?_
  refine c_rangeStr Tryz.underlying9 rfl rfl (fun b10 => ?_)
  refine SXs_nilK (fr' := [(1, _), (2, _), (10, _)]) rfl ?_
  refine KSs_wp ?_
  refine WPs_block ?_
  refine WPs_unroll 59 ?_
  refine WPs_seq ?_
  refine WPs_regionK [1, 2, 10, 11, 12] ?_
  refine c_nextStr (i := 0) 115 rfl rfl rfl (by kernel_rfl) (by kernel_rfl) ?_
  simp only [List.set_cons_zero]
  refine s_extract rfl rfl rfl ?_
  refine SXs_nilK (fr' := [(1, _), (2, _), (10, _), (11, _), (12, _)]) rfl ?_
  refine KSs_wp ?_
  refine WPs_seq ?_
  refine WPs_condT rfl ?_
  refine WPs_skip ?_
  refine KSs_wp ?_
  refine WPs_block ?_
  refine WPs_seq ?_
  refine WPs_regionK [1, 2, 7, 8, 10] ?_
  refine s_extract rfl rfl rfl ?_
  refine s_extract rfl rfl rfl ?_
  refine s_assign rfl rfl ?_
  refine s_assign rfl rfl ?_
  refine SXs_nilK (fr' := [(1, _), (2, _), (7, _), (8, _), (10, _)]) rfl ?_
  refine KSs_wp ?_
  refine WPs_seq ?_
  refine WPs_regionK [1, 2, 7, 10, 19] ?_
  refine s_move rfl rfl ?_
  refine s_move rfl rfl ?_
  refine s_callV (vs := [_]) Tryz.call150 rfl rfl rfl rfl (RCs.perm (by (repeat ((exact List.Perm.refl _)))) (clF1_150_0)) ?_
  rintro v w ⟨rfl, hS⟩
  refine SXs_go hS ?_
  clear hS; clear w
  simp only [putF]
  refine s_move rfl rfl ?_
  refine c_boolEq false Tryz.underlying4 rfl rfl rfl (by kernel_rfl) ?_
  refine SXs_nilK (fr' := [(1, _), (2, _), (7, _), (10, _), (19, _)]) rfl ?_
  refine KSs_wp ?_
  refine WPs_condF rfl ?_
  refine WPs_skip ?_
  refine KSs_unroll (N := 58) ?_
  refine WPs_seq ?_
  refine WPs_regionK [1, 2, 10, 11, 12] ?_
  refine c_nextStr (i := 0) 101 rfl rfl rfl (by kernel_rfl) (by kernel_rfl) ?_
  simp only [List.set_cons_zero]
  refine s_extract rfl rfl rfl ?_
  refine SXs_nilK (fr' := [(1, _), (2, _), (10, _), (11, _), (12, _)]) rfl ?_
  refine KSs_wp ?_
  refine WPs_seq ?_
  refine WPs_condT rfl ?_
  refine WPs_skip ?_
  refine KSs_wp ?_
  refine WPs_block ?_
  refine WPs_seq ?_
  refine WPs_regionK [1, 2, 7, 8, 10] ?_
  refine s_extract rfl rfl rfl ?_
  refine s_extract rfl rfl rfl ?_
  refine s_assign rfl rfl ?_
  refine s_assign rfl rfl ?_
  refine SXs_nilK (fr' := [(1, _), (2, _), (7, _), (8, _), (10, _)]) rfl ?_
  refine KSs_wp ?_
  refine WPs_seq ?_
  refine WPs_regionK [1, 2, 7, 10, 19] ?_
  refine s_move rfl rfl ?_
  refine s_move rfl rfl ?_
  refine s_callV (vs := [_]) Tryz.call150 rfl rfl rfl rfl (RCs.perm (by (repeat ((exact List.Perm.refl _)))) (clF1_150_1)) ?_
  rintro v w ⟨rfl, hS⟩
  refine SXs_go hS ?_
  clear hS; clear w
  simp only [putF]
  refine s_move rfl rfl ?_
  refine c_boolEq false Tryz.underlying4 rfl rfl rfl (by kernel_rfl) ?_
  refine SXs_nilK (fr' := [(1, _), (2, _), (7, _), (10, _), (19, _)]) rfl ?_
  refine KSs_wp ?_
  refine WPs_condF rfl ?_
  refine WPs_skip ?_
  refine KSs_unroll (N := 57) ?_
  refine WPs_seq ?_
  refine WPs_regionK [1, 2, 10, 11, 12] ?_
  refine c_nextStr (i := 0) 103 rfl rfl rfl (by kernel_rfl) (by kernel_rfl) ?_
  simp only [List.set_cons_zero]
  refine s_extract rfl rfl rfl ?_
  refine SXs_nilK (fr' := [(1, _), (2, _), (10, _), (11, _), (12, _)]) rfl ?_
  refine KSs_wp ?_
  refine WPs_seq ?_
  refine WPs_condT rfl ?_
  refine WPs_skip ?_
  refine KSs_wp ?_
  refine WPs_block ?_
  refine WPs_seq ?_
  refine WPs_regionK [1, 2, 7, 8, 10] ?_
  refine s_extract rfl rfl rfl ?_
  refine s_extract rfl rfl rfl ?_
  refine s_assign rfl rfl ?_
  refine s_assign rfl rfl ?_
  refine SXs_nilK (fr' := [(1, _), (2, _), (7, _), (8, _), (10, _)]) rfl ?_
  refine KSs_wp ?_
  refine WPs_seq ?_
  refine WPs_regionK [1, 2, 7, 10, 19] ?_
  refine s_move rfl rfl ?_
  refine s_move rfl rfl ?_
  refine s_callV (vs := [_]) Tryz.call150 rfl rfl rfl rfl (RCs.perm (by (repeat ((exact List.Perm.refl _)))) (clF1_150_2)) ?_
  rintro v w ⟨rfl, hS⟩
  refine SXs_go hS ?_
  clear hS; clear w
  simp only [putF]
  refine s_move rfl rfl ?_
  refine c_boolEq false Tryz.underlying4 rfl rfl rfl (by kernel_rfl) ?_
  refine SXs_nilK (fr' := [(1, _), (2, _), (7, _), (10, _), (19, _)]) rfl ?_
  refine KSs_wp ?_
  refine WPs_condF rfl ?_
  refine WPs_skip ?_
  refine KSs_unroll (N := 56) ?_
  refine WPs_seq ?_
  refine WPs_regionK [1, 2, 10, 11, 12] ?_
  refine c_nextStr (i := 0) 45 rfl rfl rfl (by kernel_rfl) (by kernel_rfl) ?_
  simp only [List.set_cons_zero]
  refine s_extract rfl rfl rfl ?_
  refine SXs_nilK (fr' := [(1, _), (2, _), (10, _), (11, _), (12, _)]) rfl ?_
  refine KSs_wp ?_
  refine WPs_seq ?_
  refine WPs_condT rfl ?_
  refine WPs_skip ?_
  refine KSs_wp ?_
  refine WPs_block ?_
  refine WPs_seq ?_
  refine WPs_regionK [1, 2, 7, 8, 10] ?_
  refine s_extract rfl rfl rfl ?_
  refine s_extract rfl rfl rfl ?_
  refine s_assign rfl rfl ?_
  refine s_assign rfl rfl ?_
  refine SXs_nilK (fr' := [(1, _), (2, _), (7, _), (8, _), (10, _)]) rfl ?_
  refine KSs_wp ?_
  refine WPs_seq ?_
  refine WPs_regionK [1, 2, 7, 10, 19] ?_
  refine s_move rfl rfl ?_
  refine s_move rfl rfl ?_
  refine s_callV (vs := [_]) Tryz.call150 rfl rfl rfl rfl (RCs.perm (by (repeat ((exact List.Perm.refl _)))) (clF1_150_3)) ?_
  rintro v w ⟨rfl, hS⟩
  refine SXs_go hS ?_
  clear hS; clear w
  simp only [putF]
  refine s_move rfl rfl ?_
  refine c_boolEq false Tryz.underlying4 rfl rfl rfl (by kernel_rfl) ?_
  refine SXs_nilK (fr' := [(1, _), (2, _), (7, _), (10, _), (19, _)]) rfl ?_
  refine KSs_wp ?_
  refine WPs_condF rfl ?_
  refine WPs_skip ?_
  refine KSs_unroll (N := 55) ?_
  refine WPs_seq ?_
  refine WPs_regionK [1, 2, 10, 11, 12] ?_
  refine c_nextStr (i := 0) 48 rfl rfl rfl (by kernel_rfl) (by kernel_rfl) ?_
  simp only [List.set_cons_zero]
  refine s_extract rfl rfl rfl ?_
  refine SXs_nilK (fr' := [(1, _), (2, _), (10, _), (11, _), (12, _)]) rfl ?_
  refine KSs_wp ?_
  refine WPs_seq ?_
  refine WPs_condT rfl ?_
  refine WPs_skip ?_
  refine KSs_wp ?_
  refine WPs_block ?_
  refine WPs_seq ?_
  refine WPs_regionK [1, 2, 7, 8, 10] ?_
  refine s_extract rfl rfl rfl ?_
  refine s_extract rfl rfl rfl ?_
  refine s_assign rfl rfl ?_
  refine s_assign rfl rfl ?_
  refine SXs_nilK (fr' := [(1, _), (2, _), (7, _), (8, _), (10, _)]) rfl ?_
  refine KSs_wp ?_
  refine WPs_seq ?_
  refine WPs_regionK [1, 2, 7, 10, 19] ?_
  refine s_move rfl rfl ?_
  refine s_move rfl rfl ?_
  refine s_callV (vs := [_]) Tryz.call150 rfl rfl rfl rfl (RCs.perm (by (repeat ((exact List.Perm.refl _)))) (clF1_150_4)) ?_
  rintro v w ⟨rfl, hS⟩
  refine SXs_go hS ?_
  clear hS; clear w
  simp only [putF]
  refine s_move rfl rfl ?_
  refine c_boolEq false Tryz.underlying4 rfl rfl rfl (by kernel_rfl) ?_
  refine SXs_nilK (fr' := [(1, _), (2, _), (7, _), (10, _), (19, _)]) rfl ?_
  refine KSs_wp ?_
  refine WPs_condF rfl ?_
  refine WPs_skip ?_
  refine KSs_unroll (N := 54) ?_
  refine WPs_seq ?_
  refine WPs_regionK [1, 2, 10, 11, 12] ?_
  refine c_nextStr (i := 0) 48 rfl rfl rfl (by kernel_rfl) (by kernel_rfl) ?_
  simp only [List.set_cons_zero]
  refine s_extract rfl rfl rfl ?_
  refine SXs_nilK (fr' := [(1, _), (2, _), (10, _), (11, _), (12, _)]) rfl ?_
  refine KSs_wp ?_
  refine WPs_seq ?_
  refine WPs_condT rfl ?_
  refine WPs_skip ?_
  refine KSs_wp ?_
  refine WPs_block ?_
  refine WPs_seq ?_
  refine WPs_regionK [1, 2, 7, 8, 10] ?_
  refine s_extract rfl rfl rfl ?_
  refine s_extract rfl rfl rfl ?_
  refine s_assign rfl rfl ?_
  refine s_assign rfl rfl ?_
  refine SXs_nilK (fr' := [(1, _), (2, _), (7, _), (8, _), (10, _)]) rfl ?_
  refine KSs_wp ?_
  refine WPs_seq ?_
  refine WPs_regionK [1, 2, 7, 10, 19] ?_
  refine s_move rfl rfl ?_
  refine s_move rfl rfl ?_
  refine s_callV (vs := [_]) Tryz.call150 rfl rfl rfl rfl (RCs.perm (by (repeat ((exact List.Perm.refl _)))) (clF1_150_4)) ?_
  rintro v w ⟨rfl, hS⟩
  refine SXs_go hS ?_
  clear hS; clear w
  simp only [putF]
  refine s_move rfl rfl ?_
  refine c_boolEq false Tryz.underlying4 rfl rfl rfl (by kernel_rfl) ?_
  refine SXs_nilK (fr' := [(1, _), (2, _), (7, _), (10, _), (19, _)]) rfl ?_
  refine KSs_wp ?_
  refine WPs_condF rfl ?_
  refine WPs_skip ?_
  refine KSs_unroll (N := 53) ?_
  refine WPs_seq ?_
  refine WPs_regionK [1, 2, 10, 11, 12] ?_
  refine c_nextStr (i := 0) 48 rfl rfl rfl (by kernel_rfl) (by kernel_rfl) ?_
  simp only [List.set_cons_zero]
  refine s_extract rfl rfl rfl ?_
  refine SXs_nilK (fr' := [(1, _), (2, _), (10, _), (11, _), (12, _)]) rfl ?_
  refine KSs_wp ?_
  refine WPs_seq ?_
  refine WPs_condT rfl ?_
  refine WPs_skip ?_
  refine KSs_wp ?_
  refine WPs_block ?_
  refine WPs_seq ?_
  refine WPs_regionK [1, 2, 7, 8, 10] ?_
  refine s_extract rfl rfl rfl ?_
  refine s_extract rfl rfl rfl ?_
  refine s_assign rfl rfl ?_
  refine s_assign rfl rfl ?_
  refine SXs_nilK (fr' := [(1, _), (2, _), (7, _), (8, _), (10, _)]) rfl ?_
  refine KSs_wp ?_
  refine WPs_seq ?_
  refine WPs_regionK [1, 2, 7, 10, 19] ?_
  refine s_move rfl rfl ?_
  refine s_move rfl rfl ?_
  refine s_callV (vs := [_]) Tryz.call150 rfl rfl rfl rfl (RCs.perm (by (repeat ((exact List.Perm.refl _)))) (clF1_150_4)) ?_
  rintro v w ⟨rfl, hS⟩
  refine SXs_go hS ?_
  clear hS; clear w
  simp only [putF]
  refine s_move rfl rfl ?_
  refine c_boolEq false Tryz.underlying4 rfl rfl rfl (by kernel_rfl) ?_
  refine SXs_nilK (fr' := [(1, _), (2, _), (7, _), (10, _), (19, _)]) rfl ?_
  refine KSs_wp ?_
  refine WPs_condF rfl ?_
  refine WPs_skip ?_
  refine KSs_unroll (N := 52) ?_
  refine WPs_seq ?_
  refine WPs_regionK [1, 2, 10, 11, 12] ?_
  refine c_nextStr (i := 0) 48 rfl rfl rfl (by kernel_rfl) (by kernel_rfl) ?_
  simp only [List.set_cons_zero]
  refine s_extract rfl rfl rfl ?_
  refine SXs_nilK (fr' := [(1, _), (2, _), (10, _), (11, _), (12, _)]) rfl ?_
  refine KSs_wp ?_
  refine WPs_seq ?_
  refine WPs_condT rfl ?_
  refine WPs_skip ?_
  refine KSs_wp ?_
  refine WPs_block ?_
  refine WPs_seq ?_
  refine WPs_regionK [1, 2, 7, 8, 10] ?_
  refine s_extract rfl rfl rfl ?_
  refine s_extract rfl rfl rfl ?_
  refine s_assign rfl rfl ?_
  refine s_assign rfl rfl ?_
  refine SXs_nilK (fr' := [(1, _), (2, _), (7, _), (8, _), (10, _)]) rfl ?_
  refine KSs_wp ?_
  refine WPs_seq ?_
  refine WPs_regionK [1, 2, 7, 10, 19] ?_
  refine s_move rfl rfl ?_
  refine s_move rfl rfl ?_
  refine s_callV (vs := [_]) Tryz.call150 rfl rfl rfl rfl (RCs.perm (by (repeat ((exact List.Perm.refl _)))) (clF1_150_4)) ?_
  rintro v w ⟨rfl, hS⟩
  refine SXs_go hS ?_
  clear hS; clear w
  simp only [putF]
  refine s_move rfl rfl ?_
  refine c_boolEq false Tryz.underlying4 rfl rfl rfl (by kernel_rfl) ?_
  refine SXs_nilK (fr' := [(1, _), (2, _), (7, _), (10, _), (19, _)]) rfl ?_
  refine KSs_wp ?_
  refine WPs_condF rfl ?_
  refine WPs_skip ?_
  refine KSs_unroll (N := 51) ?_
  refine WPs_seq ?_
  refine WPs_regionK [1, 2, 10, 11, 12] ?_
  refine c_nextStr (i := 0) 48 rfl rfl rfl (by kernel_rfl) (by kernel_rfl) ?_
  simp only [List.set_cons_zero]
  refine s_extract rfl rfl rfl ?_
  refine SXs_nilK (fr' := [(1, _), (2, _), (10, _), (11, _), (12, _)]) rfl ?_
  refine KSs_wp ?_
  refine WPs_seq ?_
  refine WPs_condT rfl ?_
  refine WPs_skip ?_
  refine KSs_wp ?_
  refine WPs_block ?_
  refine WPs_seq ?_
  refine WPs_regionK [1, 2, 7, 8, 10] ?_
  refine s_extract rfl rfl rfl ?_
  refine s_extract rfl rfl rfl ?_
  refine s_assign rfl rfl ?_
  refine s_assign rfl rfl ?_
  refine SXs_nilK (fr' := [(1, _), (2, _), (7, _), (8, _), (10, _)]) rfl ?_
  refine KSs_wp ?_
  refine WPs_seq ?_
  refine WPs_regionK [1, 2, 7, 10, 19] ?_
  refine s_move rfl rfl ?_
  refine s_move rfl rfl ?_
  refine s_callV (vs := [_]) Tryz.call150 rfl rfl rfl rfl (RCs.perm (by (repeat ((exact List.Perm.refl _)))) (clF1_150_4)) ?_
  rintro v w ⟨rfl, hS⟩
  refine SXs_go hS ?_
  clear hS; clear w
  simp only [putF]
  refine s_move rfl rfl ?_
  refine c_boolEq false Tryz.underlying4 rfl rfl rfl (by kernel_rfl) ?_
  refine SXs_nilK (fr' := [(1, _), (2, _), (7, _), (10, _), (19, _)]) rfl ?_
  refine KSs_wp ?_
  refine WPs_condF rfl ?_
  refine WPs_skip ?_
  refine KSs_unroll (N := 50) ?_
  refine WPs_seq ?_
  refine WPs_regionK [1, 2, 10, 11, 12] ?_
  refine c_nextStr (i := 0) 55 rfl rfl rfl (by kernel_rfl) (by kernel_rfl) ?_
  simp only [List.set_cons_zero]
  refine s_extract rfl rfl rfl ?_
  refine SXs_nilK (fr' := [(1, _), (2, _), (10, _), (11, _), (12, _)]) rfl ?_
  refine KSs_wp ?_
  refine WPs_seq ?_
  refine WPs_condT rfl ?_
  refine WPs_skip ?_
  refine KSs_wp ?_
  refine WPs_block ?_
  refine WPs_seq ?_
  refine WPs_regionK [1, 2, 7, 8, 10] ?_
  refine s_extract rfl rfl rfl ?_
  refine s_extract rfl rfl rfl ?_
  refine s_assign rfl rfl ?_
  refine s_assign rfl rfl ?_
  refine SXs_nilK (fr' := [(1, _), (2, _), (7, _), (8, _), (10, _)]) rfl ?_
  refine KSs_wp ?_
  refine WPs_seq ?_
  refine WPs_regionK [1, 2, 7, 10, 19] ?_
  refine s_move rfl rfl ?_
  refine s_move rfl rfl ?_
  refine s_callV (vs := [_]) Tryz.call150 rfl rfl rfl rfl (RCs.perm (by (repeat ((exact List.Perm.refl _)))) (clF1_150_5)) ?_
  rintro v w ⟨rfl, hS⟩
  refine SXs_go hS ?_
  clear hS; clear w
  simp only [putF]
  refine s_move rfl rfl ?_
  refine c_boolEq false Tryz.underlying4 rfl rfl rfl (by kernel_rfl) ?_
  refine SXs_nilK (fr' := [(1, _), (2, _), (7, _), (10, _), (19, _)]) rfl ?_
  refine KSs_wp ?_
  refine WPs_condF rfl ?_
  refine WPs_skip ?_
  refine KSs_unroll (N := 49) ?_
  refine WPs_seq ?_
  refine WPs_regionK [1, 2, 10, 11, 12] ?_
  refine c_nextStrEnd (i := 0) rfl rfl rfl (by kernel_rfl) ?_
  refine s_extract rfl rfl rfl ?_
  refine SXs_nilK (fr' := [(1, _), (2, _), (10, _), (11, _), (12, _)]) rfl ?_
  refine KSs_wp ?_
  refine WPs_seq ?_
  refine WPs_condF rfl ?_
  refine WPs_exit rfl ?_
  refine KSs_wp ?_
  refine WPs_seq ?_
  refine WPs_regionK [6] ?_
  refine s_assign rfl rfl ?_
  refine SXs_nilK (fr' := [(6, _)]) rfl ?_
  refine KSs_wp ?_
  refine WPs_ret ?_
  refine RLs_start ?_
  refine RLs_tmp rfl ?_
  refine RLs_fin1 ?_
  exact fun w hS => ⟨rfl, hS.sl (by (repeat (first | exact Sl.refl _ | refine Sl.skip ?_)))⟩

/-- strings.IndexFunc -/
theorem clF1_151_0 {g : World} {F : List HP} : RCs Tryz.prog 151 [(.string ⟨#[115, 101, 103, 45, 48, 48, 48, 48, 48, 55]⟩), (.func (.func 150) #[] #[])] g F (fun u w => u = (.int .i64 (-1)) ∧ St g w F) := by
  refine RCs_of_WPs Tryz.func151 rfl Tryz.ntmps151 rfl Tryz.results151 ?_
  refine WPs_seq ?_
  refine WPs_regionK [0, 1] ?_
  refine s_assign rfl rfl ?_
  refine SXs_nilK (fr' := [(0, _), (1, _)]) rfl ?_
  refine KSs_wp ?_
  refine WPs_seq ?_
  refine WPs_regionK [4] ?_
  refine s_move rfl rfl ?_
  refine s_move rfl rfl ?_
  refine s_call Tryz.call176 rfl (vs := [_, _, _]) rfl (RCs.perm (by (repeat ((exact List.Perm.refl _)))) (clF1_176_0)) ?_
  rintro v w ⟨rfl, hS⟩
  refine SXs_go hS ?_
  clear hS; clear w
  simp only [putF]
  refine s_assign rfl rfl ?_
  refine SXs_nilK (fr' := [(4, _)]) rfl ?_
  refine KSs_wp ?_
  refine WPs_ret ?_
  refine RLs_start ?_
  refine RLs_tmp rfl ?_
  refine RLs_fin1 ?_
  exact fun w hS => ⟨rfl, hS.sl (by (repeat ((exact Sl.refl _))))⟩

/-- hourbook/folder.May -/
theorem clF1_118_0 {g : World} {F : List HP} : RCs Tryz.prog 118 [(.string ⟨#[115, 101, 103, 45, 48, 48, 48, 48, 48, 55]⟩)] g F (fun u w => u = (.bool true) ∧ St g w F) := by
  refine RCs_of_WPs Tryz.func118 rfl Tryz.ntmps118 rfl Tryz.results118 ?_
  refine WPs_seq ?_
  refine WPs_regionK [0] ?_
  refine s_assign rfl rfl ?_
  refine SXs_nilK (fr' := [(0, _)]) rfl ?_
  refine KSs_wp ?_
  refine WPs_seq ?_
  refine WPs_regionK [0, 3] ?_
  refine s_assign rfl rfl ?_
  refine SXs_nilK (fr' := [(0, _), (3, _)]) rfl ?_
  refine KSs_wp ?_
  refine WPs_seq ?_
  refine WPs_regionK [2] ?_
  refine s_move rfl rfl ?_
  refine c_lenStr 10 rfl Tryz.underlying9 rfl rfl (by kernel_rfl) ?_
  refine c_geq true rfl rfl rfl (by kernel_rfl) ?_
  refine s_move rfl rfl ?_
  refine s_guard_t2 rfl rfl (by ((rfl))) rfl ?_
  refine s_move rfl rfl ?_
  refine s_guard_t2 rfl rfl (by ((rfl))) rfl ?_
  refine c_lenStr 10 rfl Tryz.underlying9 rfl rfl (by kernel_rfl) ?_
  refine s_guard_t2 rfl rfl (by ((rfl))) rfl ?_
  refine c_leq true rfl rfl rfl (by kernel_rfl) ?_
  refine s_pick_t rfl rfl rfl ?_
  refine s_move rfl rfl ?_
  refine s_guard_t2 rfl rfl (by ((rfl))) rfl ?_
  refine s_move rfl rfl ?_
  refine s_guard_t2 rfl rfl (by ((rfl))) rfl ?_
  refine s_move rfl rfl ?_
  refine s_guard_t2 rfl rfl (by ((rfl))) rfl ?_
  refine s_call Tryz.call151 rfl (vs := [_, _]) rfl (RCs.perm (by (repeat ((exact List.Perm.refl _)))) (clF1_151_0)) ?_
  rintro v w ⟨rfl, hS⟩
  refine SXs_go hS ?_
  clear hS; clear w
  simp only [putF]
  refine s_guard_t2 rfl rfl (by ((rfl))) rfl ?_
  refine c_lss true rfl rfl rfl (by kernel_rfl) ?_
  refine s_pick_t rfl rfl rfl ?_
  refine s_assign rfl rfl ?_
  refine SXs_nilK (fr' := [(2, _)]) rfl ?_
  refine KSs_wp ?_
  refine WPs_ret ?_
  refine RLs_start ?_
  refine RLs_tmp rfl ?_
  refine RLs_fin1 ?_
  exact fun w hS => ⟨rfl, hS.sl (by (repeat ((exact Sl.refl _))))⟩

theorem may7 {g : World} {F : List HP} : RCs Tryz.prog 118 [(.string ⟨#[115, 101, 103, 45, 48, 48, 48, 48, 48, 55]⟩)] g F (fun u w => u = (.bool true) ∧ St g w F) := clF1_118_0

/-- hourbook/folder.May$1 -/
theorem clF1_150_6 {g : World} {F : List HP} : RCs Tryz.prog 150 [(.int .i32 49)] g F (fun u w => u = (.bool false) ∧ St g w F) := by
  refine RCs_of_WPs Tryz.func150 rfl Tryz.ntmps150 rfl Tryz.results150 ?_
  refine WPs_seq ?_
  refine WPs_regionK [0] ?_
  refine s_assign rfl rfl ?_
  refine SXs_nilK (fr' := [(0, _)]) rfl ?_
  refine KSs_wp ?_
  refine WPs_seq ?_
  refine WPs_regionK [2] ?_
  refine s_move rfl rfl ?_
  refine c_lss true rfl rfl rfl (by kernel_rfl) ?_
  refine s_move rfl rfl ?_
  refine s_guard_f rfl rfl (by ((rfl))) rfl ?_
  refine s_guard_f rfl rfl (by ((rfl))) rfl ?_
  refine s_pick_t rfl rfl rfl ?_
  refine s_move rfl rfl ?_
  refine s_guard_t2 rfl rfl (by ((rfl))) rfl ?_
  refine s_move rfl rfl ?_
  refine s_guard_t2 rfl rfl (by ((rfl))) rfl ?_
  refine c_lss false rfl rfl rfl (by kernel_rfl) ?_
  refine s_guard_t2 rfl rfl (by ((rfl))) rfl ?_
  refine s_move rfl rfl ?_
  refine s_guard_t2 rfl rfl (by ((rfl))) rfl ?_
  refine s_move rfl rfl ?_
  refine s_guard_t2 rfl rfl (by ((rfl))) rfl ?_
  refine c_gtr false rfl rfl rfl (by kernel_rfl) ?_
  refine s_guard_t2 rfl rfl (by ((rfl))) rfl ?_
  refine s_pick_f rfl rfl rfl ?_
  refine s_pick_t rfl rfl rfl ?_
  refine s_move rfl rfl ?_
  refine s_guard_f rfl rfl (by ((rfl))) rfl ?_
  refine s_guard_f rfl rfl (by ((rfl))) rfl ?_
  refine s_pick_f rfl rfl rfl ?_
  refine s_move rfl rfl ?_
  refine s_guard_f rfl rfl (by ((rfl))) rfl ?_
  refine s_guard_f rfl rfl (by ((rfl))) rfl ?_
  refine s_pick_f rfl rfl rfl ?_
  refine s_assign rfl rfl ?_
  refine SXs_nilK (fr' := [(2, _)]) rfl ?_
  refine KSs_wp ?_
  refine WPs_ret ?_
  refine RLs_start ?_
  refine RLs_tmp rfl ?_
  refine RLs_fin1 ?_
  exact fun w hS => ⟨rfl, hS.sl (by (repeat ((exact Sl.refl _))))⟩

/-- strings.indexFunc -/
theorem clF1_176_1 {g : World} {F : List HP} : RCs Tryz.prog 176 [(.string ⟨#[115, 101, 103, 45, 48, 48, 48, 48, 48, 49]⟩), (.func (.func 150) #[] #[]), (.bool true)] g F (fun u w => u = (.int .i64 (-1)) ∧ St g w F) := by
  refine RCs_of_WPs Tryz.func176 rfl Tryz.ntmps176 rfl Tryz.results176 ?_
  refine WPs_seq ?_
  refine WPs_regionK [0, 1, 2] ?_
  refine s_assign rfl rfl ?_
  refine SXs_nilK (fr' := [(0, _), (1, _), (2, _)]) rfl ?_
  refine KSs_wp ?_
  refine WPs_seq ?_
  refine WPs_seq ?_
  refine WPs_regionK [1, 2, 10] ?_
  refine s_move rfl rfl ?_
  refine c_rangeStr Tryz.underlying9 rfl rfl (fun b10 => ?_)
  refine SXs_nilK (fr' := [(1, _), (2, _), (10, _)]) rfl ?_
  refine KSs_wp ?_
  refine WPs_block ?_
  refine WPs_unroll 59 ?_
  refine WPs_seq ?_
  refine WPs_regionK [1, 2, 10, 11, 12] ?_
  refine c_nextStr (i := 0) 115 rfl rfl rfl (by kernel_rfl) (by kernel_rfl) ?_
  simp only [List.set_cons_zero]
  refine s_extract rfl rfl rfl ?_
  refine SXs_nilK (fr' := [(1, _), (2, _), (10, _), (11, _), (12, _)]) rfl ?_
  refine KSs_wp ?_
  refine WPs_seq ?_
  refine WPs_condT rfl ?_
  refine WPs_skip ?_
  refine KSs_wp ?_
  refine WPs_block ?_
  refine WPs_seq ?_
  refine WPs_regionK [1, 2, 7, 8, 10] ?_
  refine s_extract rfl rfl rfl ?_
  refine s_extract rfl rfl rfl ?_
  refine s_assign rfl rfl ?_
  refine s_assign rfl rfl ?_
  refine SXs_nilK (fr' := [(1, _), (2, _), (7, _), (8, _), (10, _)]) rfl ?_
  refine KSs_wp ?_
  refine WPs_seq ?_
  refine WPs_regionK [1, 2, 7, 10, 19] ?_
  refine s_move rfl rfl ?_
  refine s_move rfl rfl ?_
  refine s_callV (vs := [_]) Tryz.call150 rfl rfl rfl rfl (RCs.perm (by (repeat ((exact List.Perm.refl _)))) (clF1_150_0)) ?_
  rintro v w ⟨rfl, hS⟩
  refine SXs_go hS ?_
  clear hS; clear w
  simp only [putF]
  refine s_move rfl rfl ?_
  refine c_boolEq false Tryz.underlying4 rfl rfl rfl (by kernel_rfl) ?_
  refine SXs_nilK (fr' := [(1, _), (2, _), (7, _), (10, _), (19, _)]) rfl ?_
  refine KSs_wp ?_
  refine WPs_condF rfl ?_
  refine WPs_skip ?_
  refine KSs_unroll (N := 58) ?_
  refine WPs_seq ?_
  refine WPs_regionK [1, 2, 10, 11, 12] ?_
  refine c_nextStr (i := 0) 101 rfl rfl rfl (by kernel_rfl) (by kernel_rfl) ?_
  simp only [List.set_cons_zero]
  refine s_extract rfl rfl rfl ?_
  refine SXs_nilK (fr' := [(1, _), (2, _), (10, _), (11, _), (12, _)]) rfl ?_
  refine KSs_wp ?_
  refine WPs_seq ?_
  refine WPs_condT rfl ?_
  refine WPs_skip ?_
  refine KSs_wp ?_
  refine WPs_block ?_
  refine WPs_seq ?_
  refine WPs_regionK [1, 2, 7, 8, 10] ?_
  refine s_extract rfl rfl rfl ?_
  refine s_extract rfl rfl rfl ?_
  refine s_assign rfl rfl ?_
  refine s_assign rfl rfl ?_
  refine SXs_nilK (fr' := [(1, _), (2, _), (7, _), (8, _), (10, _)]) rfl ?_
  refine KSs_wp ?_
  refine WPs_seq ?_
  refine WPs_regionK [1, 2, 7, 10, 19] ?_
  refine s_move rfl rfl ?_
  refine s_move rfl rfl ?_
  refine s_callV (vs := [_]) Tryz.call150 rfl rfl rfl rfl (RCs.perm (by (repeat ((exact List.Perm.refl _)))) (clF1_150_1)) ?_
  rintro v w ⟨rfl, hS⟩
  refine SXs_go hS ?_
  clear hS; clear w
  simp only [putF]
  refine s_move rfl rfl ?_
  refine c_boolEq false Tryz.underlying4 rfl rfl rfl (by kernel_rfl) ?_
  refine SXs_nilK (fr' := [(1, _), (2, _), (7, _), (10, _), (19, _)]) rfl ?_
  refine KSs_wp ?_
  refine WPs_condF rfl ?_
  refine WPs_skip ?_
  refine KSs_unroll (N := 57) ?_
  refine WPs_seq ?_
  refine WPs_regionK [1, 2, 10, 11, 12] ?_
  refine c_nextStr (i := 0) 103 rfl rfl rfl (by kernel_rfl) (by kernel_rfl) ?_
  simp only [List.set_cons_zero]
  refine s_extract rfl rfl rfl ?_
  refine SXs_nilK (fr' := [(1, _), (2, _), (10, _), (11, _), (12, _)]) rfl ?_
  refine KSs_wp ?_
  refine WPs_seq ?_
  refine WPs_condT rfl ?_
  refine WPs_skip ?_
  refine KSs_wp ?_
  refine WPs_block ?_
  refine WPs_seq ?_
  refine WPs_regionK [1, 2, 7, 8, 10] ?_
  refine s_extract rfl rfl rfl ?_
  refine s_extract rfl rfl rfl ?_
  refine s_assign rfl rfl ?_
  refine s_assign rfl rfl ?_
  refine SXs_nilK (fr' := [(1, _), (2, _), (7, _), (8, _), (10, _)]) rfl ?_
  refine KSs_wp ?_
  refine WPs_seq ?_
  refine WPs_regionK [1, 2, 7, 10, 19] ?_
  refine s_move rfl rfl ?_
  refine s_move rfl rfl ?_
  refine s_callV (vs := [_]) Tryz.call150 rfl rfl rfl rfl (RCs.perm (by (repeat ((exact List.Perm.refl _)))) (clF1_150_2)) ?_
  rintro v w ⟨rfl, hS⟩
  refine SXs_go hS ?_
  clear hS; clear w
  simp only [putF]
  refine s_move rfl rfl ?_
  refine c_boolEq false Tryz.underlying4 rfl rfl rfl (by kernel_rfl) ?_
  refine SXs_nilK (fr' := [(1, _), (2, _), (7, _), (10, _), (19, _)]) rfl ?_
  refine KSs_wp ?_
  refine WPs_condF rfl ?_
  refine WPs_skip ?_
  refine KSs_unroll (N := 56) ?_
  refine WPs_seq ?_
  refine WPs_regionK [1, 2, 10, 11, 12] ?_
  refine c_nextStr (i := 0) 45 rfl rfl rfl (by kernel_rfl) (by kernel_rfl) ?_
  simp only [List.set_cons_zero]
  refine s_extract rfl rfl rfl ?_
  refine SXs_nilK (fr' := [(1, _), (2, _), (10, _), (11, _), (12, _)]) rfl ?_
  refine KSs_wp ?_
  refine WPs_seq ?_
  refine WPs_condT rfl ?_
  refine WPs_skip ?_
  refine KSs_wp ?_
  refine WPs_block ?_
  refine WPs_seq ?_
  refine WPs_regionK [1, 2, 7, 8, 10] ?_
  refine s_extract rfl rfl rfl ?_
  refine s_extract rfl rfl rfl ?_
  refine s_assign rfl rfl ?_
  refine s_assign rfl rfl ?_
  refine SXs_nilK (fr' := [(1, _), (2, _), (7, _), (8, _), (10, _)]) rfl ?_
  refine KSs_wp ?_
  refine WPs_seq ?_
  refine WPs_regionK [1, 2, 7, 10, 19] ?_
  refine s_move rfl rfl ?_
  refine s_move rfl rfl ?_
  refine s_callV (vs := [_]) Tryz.call150 rfl rfl rfl rfl (RCs.perm (by (repeat ((exact List.Perm.refl _)))) (clF1_150_3)) ?_
  rintro v w ⟨rfl, hS⟩
  refine SXs_go hS ?_
  clear hS; clear w
  simp only [putF]
  refine s_move rfl rfl ?_
  refine c_boolEq false Tryz.underlying4 rfl rfl rfl (by kernel_rfl) ?_
  refine SXs_nilK (fr' := [(1, _), (2, _), (7, _), (10, _), (19, _)]) rfl ?_
  refine KSs_wp ?_
  refine WPs_condF rfl ?_
  refine WPs_skip ?_
  refine KSs_unroll (N := 55) ?_
  refine WPs_seq ?_
  refine WPs_regionK [1, 2, 10, 11, 12] ?_
  refine c_nextStr (i := 0) 48 rfl rfl rfl (by kernel_rfl) (by kernel_rfl) ?_
  simp only [List.set_cons_zero]
  refine s_extract rfl rfl rfl ?_
  refine SXs_nilK (fr' := [(1, _), (2, _), (10, _), (11, _), (12, _)]) rfl ?_
  refine KSs_wp ?_
  refine WPs_seq ?_
  refine WPs_condT rfl ?_
  refine WPs_skip ?_
  refine KSs_wp ?_
  refine WPs_block ?_
  refine WPs_seq ?_
  refine WPs_regionK [1, 2, 7, 8, 10] ?_
  refine s_extract rfl rfl rfl ?_
  refine s_extract rfl rfl rfl ?_
  refine s_assign rfl rfl ?_
  refine s_assign rfl rfl ?_
  refine SXs_nilK (fr' := [(1, _), (2, _), (7, _), (8, _), (10, _)]) rfl ?_
  refine KSs_wp ?_
  refine WPs_seq ?_
  refine WPs_regionK [1, 2, 7, 10, 19] ?_
  refine s_move rfl rfl ?_
  refine s_move rfl rfl ?_
  refine s_callV (vs := [_]) Tryz.call150 rfl rfl rfl rfl (RCs.perm (by (repeat ((exact List.Perm.refl _)))) (clF1_150_4)) ?_
  rintro v w ⟨rfl, hS⟩
  refine SXs_go hS ?_
  clear hS; clear w
  simp only [putF]
  refine s_move rfl rfl ?_
  refine c_boolEq false Tryz.underlying4 rfl rfl rfl (by kernel_rfl) ?_
  refine SXs_nilK (fr' := [(1, _), (2, _), (7, _), (10, _), (19, _)]) rfl ?_
  refine KSs_wp ?_
  refine WPs_condF rfl ?_
  refine WPs_skip ?_
  refine KSs_unroll (N := 54) ?_
  refine WPs_seq ?_
  refine WPs_regionK [1, 2, 10, 11, 12] ?_
  refine c_nextStr (i := 0) 48 rfl rfl rfl (by kernel_rfl) (by kernel_rfl) ?_
  simp only [List.set_cons_zero]
  refine s_extract rfl rfl rfl ?_
  refine SXs_nilK (fr' := [(1, _), (2, _), (10, _), (11, _), (12, _)]) rfl ?_
  refine KSs_wp ?_
  refine WPs_seq ?_
  refine WPs_condT rfl ?_
  refine WPs_skip ?_
  refine KSs_wp ?_
  refine WPs_block ?_
  refine WPs_seq ?_
  refine WPs_regionK [1, 2, 7, 8, 10] ?_
  refine s_extract rfl rfl rfl ?_
  refine s_extract rfl rfl rfl ?_
  refine s_assign rfl rfl ?_
  refine s_assign rfl rfl ?_
  refine SXs_nilK (fr' := [(1, _), (2, _), (7, _), (8, _), (10, _)]) rfl ?_
  refine KSs_wp ?_
  refine WPs_seq ?_
  refine WPs_regionK [1, 2, 7, 10, 19] ?_
  refine s_move rfl rfl ?_
  refine s_move rfl rfl ?_
  refine s_callV (vs := [_]) Tryz.call150 rfl rfl rfl rfl (RCs.perm (by (repeat ((exact List.Perm.refl _)))) (clF1_150_4)) ?_
  rintro v w ⟨rfl, hS⟩
  refine SXs_go hS ?_
  clear hS; clear w
  simp only [putF]
  refine s_move rfl rfl ?_
  refine c_boolEq false Tryz.underlying4 rfl rfl rfl (by kernel_rfl) ?_
  refine SXs_nilK (fr' := [(1, _), (2, _), (7, _), (10, _), (19, _)]) rfl ?_
  refine KSs_wp ?_
  refine WPs_condF rfl ?_
  refine WPs_skip ?_
  refine KSs_unroll (N := 53) ?_
  refine WPs_seq ?_
  refine WPs_regionK [1, 2, 10, 11, 12] ?_
  refine c_nextStr (i := 0) 48 rfl rfl rfl (by kernel_rfl) (by kernel_rfl) ?_
  simp only [List.set_cons_zero]
  refine s_extract rfl rfl rfl ?_
  refine SXs_nilK (fr' := [(1, _), (2, _), (10, _), (11, _), (12, _)]) rfl ?_
  refine KSs_wp ?_
  refine WPs_seq ?_
  refine WPs_condT rfl ?_
  refine WPs_skip ?_
  refine KSs_wp ?_
  refine WPs_block ?_
  refine WPs_seq ?_
  refine WPs_regionK [1, 2, 7, 8, 10] ?_
  refine s_extract rfl rfl rfl ?_
  refine s_extract rfl rfl rfl ?_
  refine s_assign rfl rfl ?_
  refine s_assign rfl rfl ?_
  refine SXs_nilK (fr' := [(1, _), (2, _), (7, _), (8, _), (10, _)]) rfl ?_
  refine KSs_wp ?_
  refine WPs_seq ?_
  refine WPs_regionK [1, 2, 7, 10, 19] ?_
  refine s_move rfl rfl ?_
  refine s_move rfl rfl ?_
  refine s_callV (vs := [_]) Tryz.call150 rfl rfl rfl rfl (RCs.perm (by (repeat ((exact List.Perm.refl _)))) (clF1_150_4)) ?_
  rintro v w ⟨rfl, hS⟩
  refine SXs_go hS ?_
  clear hS; clear w
  simp only [putF]
  refine s_move rfl rfl ?_
  refine c_boolEq false Tryz.underlying4 rfl rfl rfl (by kernel_rfl) ?_
  refine SXs_nilK (fr' := [(1, _), (2, _), (7, _), (10, _), (19, _)]) rfl ?_
  refine KSs_wp ?_
  refine WPs_condF rfl ?_
  refine WPs_skip ?_
  refine KSs_unroll (N := 52) ?_
  refine WPs_seq ?_
  refine WPs_regionK [1, 2, 10, 11, 12] ?_
  refine c_nextStr (i := 0) 48 rfl rfl rfl (by kernel_rfl) (by kernel_rfl) ?_
  simp only [List.set_cons_zero]
  refine s_extract rfl rfl rfl ?_
  refine SXs_nilK (fr' := [(1, _), (2, _), (10, _), (11, _), (12, _)]) rfl ?_
  refine KSs_wp ?_
  refine WPs_seq ?_
  refine WPs_condT rfl ?_
  refine WPs_skip ?_
  refine KSs_wp ?_
  refine WPs_block ?_
  refine WPs_seq ?_
  refine WPs_regionK [1, 2, 7, 8, 10] ?_
  refine s_extract rfl rfl rfl ?_
  refine s_extract rfl rfl rfl ?_
  refine s_assign rfl rfl ?_
  refine s_assign rfl rfl ?_
  refine SXs_nilK (fr' := [(1, _), (2, _), (7, _), (8, _), (10, _)]) rfl ?_
  refine KSs_wp ?_
  refine WPs_seq ?_
  refine WPs_regionK [1, 2, 7, 10, 19] ?_
  refine s_move rfl rfl ?_
  refine s_move rfl rfl ?_
  refine s_callV (vs := [_]) Tryz.call150 rfl rfl rfl rfl (RCs.perm (by (repeat ((exact List.Perm.refl _)))) (clF1_150_4)) ?_
  rintro v w ⟨rfl, hS⟩
  refine SXs_go hS ?_
  clear hS; clear w
  simp only [putF]
  refine s_move rfl rfl ?_
  refine c_boolEq false Tryz.underlying4 rfl rfl rfl (by kernel_rfl) ?_
  refine SXs_nilK (fr' := [(1, _), (2, _), (7, _), (10, _), (19, _)]) rfl ?_
  refine KSs_wp ?_
  refine WPs_condF rfl ?_
  refine WPs_skip ?_
  refine KSs_unroll (N := 51) ?_
  refine WPs_seq ?_
  refine WPs_regionK [1, 2, 10, 11, 12] ?_
  refine c_nextStr (i := 0) 48 rfl rfl rfl (by kernel_rfl) (by kernel_rfl) ?_
  simp only [List.set_cons_zero]
  refine s_extract rfl rfl rfl ?_
  refine SXs_nilK (fr' := [(1, _), (2, _), (10, _), (11, _), (12, _)]) rfl ?_
  refine KSs_wp ?_
  refine WPs_seq ?_
  refine WPs_condT rfl ?_
  refine WPs_skip ?_
  refine KSs_wp ?_
  refine WPs_block ?_
  refine WPs_seq ?_
  refine WPs_regionK [1, 2, 7, 8, 10] ?_
  refine s_extract rfl rfl rfl ?_
  refine s_extract rfl rfl rfl ?_
  refine s_assign rfl rfl ?_
  refine s_assign rfl rfl ?_
  refine SXs_nilK (fr' := [(1, _), (2, _), (7, _), (8, _), (10, _)]) rfl ?_
  refine KSs_wp ?_
  refine WPs_seq ?_
  refine WPs_regionK [1, 2, 7, 10, 19] ?_
  refine s_move rfl rfl ?_
  refine s_move rfl rfl ?_
  refine s_callV (vs := [_]) Tryz.call150 rfl rfl rfl rfl (RCs.perm (by (repeat ((exact List.Perm.refl _)))) (clF1_150_4)) ?_
  rintro v w ⟨rfl, hS⟩
  refine SXs_go hS ?_
  clear hS; clear w
  simp only [putF]
  refine s_move rfl rfl ?_
  refine c_boolEq false Tryz.underlying4 rfl rfl rfl (by kernel_rfl) ?_
  refine SXs_nilK (fr' := [(1, _), (2, _), (7, _), (10, _), (19, _)]) rfl ?_
  refine KSs_wp ?_
  refine WPs_condF rfl ?_
  refine WPs_skip ?_
  refine KSs_unroll (N := 50) ?_
  refine WPs_seq ?_
  refine WPs_regionK [1, 2, 10, 11, 12] ?_
  refine c_nextStr (i := 0) 49 rfl rfl rfl (by kernel_rfl) (by kernel_rfl) ?_
  simp only [List.set_cons_zero]
  refine s_extract rfl rfl rfl ?_
  refine SXs_nilK (fr' := [(1, _), (2, _), (10, _), (11, _), (12, _)]) rfl ?_
  refine KSs_wp ?_
  refine WPs_seq ?_
  refine WPs_condT rfl ?_
  refine WPs_skip ?_
  refine KSs_wp ?_
  refine WPs_block ?_
  refine WPs_seq ?_
  refine WPs_regionK [1, 2, 7, 8, 10] ?_
  refine s_extract rfl rfl rfl ?_
  refine s_extract rfl rfl rfl ?_
  refine s_assign rfl rfl ?_
  refine s_assign rfl rfl ?_
  refine SXs_nilK (fr' := [(1, _), (2, _), (7, _), (8, _), (10, _)]) rfl ?_
  refine KSs_wp ?_
  refine WPs_seq ?_
  refine WPs_regionK [1, 2, 7, 10, 19] ?_
  refine s_move rfl rfl ?_
  refine s_move rfl rfl ?_
  refine s_callV (vs := [_]) Tryz.call150 rfl rfl rfl rfl (RCs.perm (by (repeat ((exact List.Perm.refl _)))) (clF1_150_6)) ?_
  rintro v w ⟨rfl, hS⟩
  refine SXs_go hS ?_
  clear hS; clear w
  simp only [putF]
  refine s_move rfl rfl ?_
  refine c_boolEq false Tryz.underlying4 rfl rfl rfl (by kernel_rfl) ?_
  refine SXs_nilK (fr' := [(1, _), (2, _), (7, _), (10, _), (19, _)]) rfl ?_
  refine KSs_wp ?_
  refine WPs_condF rfl ?_
  refine WPs_skip ?_
  refine KSs_unroll (N := 49) ?_
  refine WPs_seq ?_
  refine WPs_regionK [1, 2, 10, 11, 12] ?_
  refine c_nextStrEnd (i := 0) rfl rfl rfl (by kernel_rfl) ?_
  refine s_extract rfl rfl rfl ?_
  refine SXs_nilK (fr' := [(1, _), (2, _), (10, _), (11, _), (12, _)]) rfl ?_
  refine KSs_wp ?_
  refine WPs_seq ?_
  refine WPs_condF rfl ?_
  refine WPs_exit rfl ?_
  refine KSs_wp ?_
  refine WPs_seq ?_
  refine WPs_regionK [6] ?_
  refine s_assign rfl rfl ?_
  refine SXs_nilK (fr' := [(6, _)]) rfl ?_
  refine KSs_wp ?_
  refine WPs_ret ?_
  refine RLs_start ?_
  refine RLs_tmp rfl ?_
  refine RLs_fin1 ?_
  exact fun w hS => ⟨rfl, hS.sl (by (repeat (first | exact Sl.refl _ | refine Sl.skip ?_)))⟩

/-- strings.IndexFunc -/
theorem clF1_151_1 {g : World} {F : List HP} : RCs Tryz.prog 151 [(.string ⟨#[115, 101, 103, 45, 48, 48, 48, 48, 48, 49]⟩), (.func (.func 150) #[] #[])] g F (fun u w => u = (.int .i64 (-1)) ∧ St g w F) := by
  refine RCs_of_WPs Tryz.func151 rfl Tryz.ntmps151 rfl Tryz.results151 ?_
  refine WPs_seq ?_
  refine WPs_regionK [0, 1] ?_
  refine s_assign rfl rfl ?_
  refine SXs_nilK (fr' := [(0, _), (1, _)]) rfl ?_
  refine KSs_wp ?_
  refine WPs_seq ?_
  refine WPs_regionK [4] ?_
  refine s_move rfl rfl ?_
  refine s_move rfl rfl ?_
  refine s_call Tryz.call176 rfl (vs := [_, _, _]) rfl (RCs.perm (by (repeat ((exact List.Perm.refl _)))) (clF1_176_1)) ?_
  rintro v w ⟨rfl, hS⟩
  refine SXs_go hS ?_
  clear hS; clear w
  simp only [putF]
  refine s_assign rfl rfl ?_
  refine SXs_nilK (fr' := [(4, _)]) rfl ?_
  refine KSs_wp ?_
  refine WPs_ret ?_
  refine RLs_start ?_
  refine RLs_tmp rfl ?_
  refine RLs_fin1 ?_
  exact fun w hS => ⟨rfl, hS.sl (by (repeat ((exact Sl.refl _))))⟩

/-- hourbook/folder.May -/
theorem clF1_118_1 {g : World} {F : List HP} : RCs Tryz.prog 118 [(.string ⟨#[115, 101, 103, 45, 48, 48, 48, 48, 48, 49]⟩)] g F (fun u w => u = (.bool true) ∧ St g w F) := by
  refine RCs_of_WPs Tryz.func118 rfl Tryz.ntmps118 rfl Tryz.results118 ?_
  refine WPs_seq ?_
  refine WPs_regionK [0] ?_
  refine s_assign rfl rfl ?_
  refine SXs_nilK (fr' := [(0, _)]) rfl ?_
  refine KSs_wp ?_
  refine WPs_seq ?_
  refine WPs_regionK [0, 3] ?_
  refine s_assign rfl rfl ?_
  refine SXs_nilK (fr' := [(0, _), (3, _)]) rfl ?_
  refine KSs_wp ?_
  refine WPs_seq ?_
  refine WPs_regionK [2] ?_
  refine s_move rfl rfl ?_
  refine c_lenStr 10 rfl Tryz.underlying9 rfl rfl (by kernel_rfl) ?_
  refine c_geq true rfl rfl rfl (by kernel_rfl) ?_
  refine s_move rfl rfl ?_
  refine s_guard_t2 rfl rfl (by ((rfl))) rfl ?_
  refine s_move rfl rfl ?_
  refine s_guard_t2 rfl rfl (by ((rfl))) rfl ?_
  refine c_lenStr 10 rfl Tryz.underlying9 rfl rfl (by kernel_rfl) ?_
  refine s_guard_t2 rfl rfl (by ((rfl))) rfl ?_
  refine c_leq true rfl rfl rfl (by kernel_rfl) ?_
  refine s_pick_t rfl rfl rfl ?_
  refine s_move rfl rfl ?_
  refine s_guard_t2 rfl rfl (by ((rfl))) rfl ?_
  refine s_move rfl rfl ?_
  refine s_guard_t2 rfl rfl (by ((rfl))) rfl ?_
  refine s_move rfl rfl ?_
  refine s_guard_t2 rfl rfl (by ((rfl))) rfl ?_
  refine s_call Tryz.call151 rfl (vs := [_, _]) rfl (RCs.perm (by (repeat ((exact List.Perm.refl _)))) (clF1_151_1)) ?_
  rintro v w ⟨rfl, hS⟩
  refine SXs_go hS ?_
  clear hS; clear w
  simp only [putF]
  refine s_guard_t2 rfl rfl (by ((rfl))) rfl ?_
  refine c_lss true rfl rfl rfl (by kernel_rfl) ?_
  refine s_pick_t rfl rfl rfl ?_
  refine s_assign rfl rfl ?_
  refine SXs_nilK (fr' := [(2, _)]) rfl ?_
  refine KSs_wp ?_
  refine WPs_ret ?_
  refine RLs_start ?_
  refine RLs_tmp rfl ?_
  refine RLs_fin1 ?_
  exact fun w hS => ⟨rfl, hS.sl (by (repeat ((exact Sl.refl _))))⟩

theorem may1 {g : World} {F : List HP} : RCs Tryz.prog 118 [(.string ⟨#[115, 101, 103, 45, 48, 48, 48, 48, 48, 49]⟩)] g F (fun u w => u = (.bool true) ∧ St g w F) := clF1_118_1

end Go.Proofs.YthodbnmeggkkoaaGreatDoor
