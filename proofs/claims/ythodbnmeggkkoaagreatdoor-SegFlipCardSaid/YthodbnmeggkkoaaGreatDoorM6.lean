/-
  Part 6 of the texts that the claim leans on: E10 E11 E12 E13 E14 E15 E16 E17.
-/
import Derived.Test.YthodbnmeggkkoaaGreatDoorM5
import Derived.ChangeSame
import Derived.ChangeVars
import Derived.ChangeSlices
import Derived.OpenShut
import Derived.Deep.Slices
import Derived.ChangeStays
import Derived.ChangeBears
import Derived.ReadAgain
import Derived.FnData
import Derived.Test.YthodbnmeggkkoaaGreatDoorRows
import Derived.ProofKit
import Derived.LaidMore
import Derived.Carry
import Derived.MakeChecks
import Derived.Stop.Joined
/-
  The law's own: wakes, cut.
-/
namespace Go.Hb
open Go Go.RowKit
section
variable {P : Program} {n : Nat} {fr : Fr} {g : World} {L : List HP} {K : Fr → World → Prop} {X : Ks} {ops : Array Oper}
variable {d : Nat} {ty : TypeId} {ps : String} {af : Array Edge} {rest : List Oper}
variable {T' : Nat → Bool} {L0 : List HP} {fuel : Nat} {listed : Array Bool}
theorem ex_sliceRdF (i : Nat) {x : Operand} {lo hi : Option Operand} {T E k bytes : Nat} {z : Value} {gd : Option (Nat × Bool)} (hop : ops[i]? = some ⟨some d, .slice T x lo hi none, ty, ps, af, gd⟩) (L1 : List HP) (hT : SlT P T E k bytes z) {vlo vhi : Option Value} {v : Value} {m l h' : Nat} {xs : List Value} (hd : Nat.blt d n = true) (hx : evO fr x = some v) (hR : RdIn g L1 v k m xs)
    (hlo : evOpt fr lo vlo) (hhi : evOpt fr hi vhi) (hl : vlo = some (.int .i64 (l : Int)) ∨ (vlo = none ∧ l = 0)) (hh : vhi = some (.int .i64 (h' : Int)) ∨ (vhi = none ∧ h' = m)) (h1 : l ≤ h') (h2 : h' ≤ m)
    (h : ∀ va vc, RdIn g L1 (.slice va (h' - l) vc) k (h' - l) ((xs.drop (l * k)).take ((h' - l) * k)) → GV P n fr g L0 d (.slice T x lo hi none) ty ps af (.slice va (h' - l) vc) → SXT P n ops T' L0 fuel listed fr g L K X) : SXT P n ops T' L0 fuel listed fr g L K X := by
  obtain ⟨hlen, hmx, hv⟩ := hR
  have hlen' : ((xs.drop (l * k)).take ((h' - l) * k)).length = (h' - l) * k := by
    rw [List.length_take, List.length_drop, hlen, Nat.sub_mul]
    have := Nat.mul_le_mul_right k h2
    omega
  rcases hv with ⟨az, rfl, rfl⟩ | ⟨b, o, cap, rfl, hc, hcs⟩
  · have hl0 : l = 0 := by omega
    have hh0 : h' = 0 := by omega
    have hlz : h' - l = 0 := by omega
    have hX := h az 0 (by rw [hlz] at hlen' ⊢; exact ⟨hlen', by omega, .inl ⟨_, rfl, rfl⟩⟩)
    rw [hlz] at hX
    refine hX ⟨hd, fun a' w hag _ => ?_⟩
    have hr := run_slice hT (a := az) (m := 0) (cap := 0) hl hh h1 h2 w
    simp only [execOp, hag.evO hx, hag.evOpt hlo, hag.evOpt hhi, Option.map_none, Sem.run_bind, hr, Result.andThen_ok, Sem.run_pure]
    simp [hl0, hh0]
  · refine h (if cap = l then some ⟨b, o, none⟩ else some ⟨b, o + l * k, none⟩) (cap - l) ⟨hlen', by omega, .inr ?_⟩ ⟨hd, fun a' w hag _ => ?_⟩
    rotate_left
    · have hr := run_slice hT (a := some ⟨b, o, none⟩) (m := m) (cap := cap) hl hh h1 (by omega) w
      simp only [execOp, hag.evO hx, hag.evOpt hlo, hag.evOpt hhi, Option.map_none, Sem.run_bind, hr, Result.andThen_ok, Sem.run_pure, Option.map_some, add_none]
    · by_cases e : cap = l
      · refine ⟨b, o, cap - l, by simp [e], by omega, fun w hw j u hj => ?_⟩
        have : h' - l = 0 := by omega
        rw [this] at hj
        simp at hj
      · refine ⟨b, o + l * k, cap - l, by simp [e], by omega, fun w hw j u hj => ?_⟩
        rw [List.getElem?_take] at hj
        split at hj
        · rw [List.getElem?_drop] at hj
          have := hcs w hw _ u hj
          rwa [Nat.add_assoc]
        · cases hj
end
end Go.Hb
namespace Go.Proofs.YthodbnmeggkkoaaGreatDoor
open Go Go.RowKit Go.Hb Go.Proofs

/-- What the listed variables hold. -/
structure TabsG (g : World) : Prop where
  half : HalfG g
  sizes : SizesG g
  de : DeG g

def nm7 : ByteArray := ⟨#[115, 101, 103, 45, 48, 48, 48, 48, 48, 55]⟩
def nm1 : ByteArray := ⟨#[115, 101, 103, 45, 48, 48, 48, 48, 48, 49]⟩
theorem nameOk7 {g : World} (h : TabsG g) : NameOk g 7 nm7 := fun _ => name7 h.de
theorem nameOk1 {g : World} (h : TabsG g) : NameOk g 1 nm1 := fun _ => name1 h.de
theorem mayOk7 : MayOk nm7 := fun _ _ => may7
theorem mayOk1 : MayOk nm1 := fun _ _ => may1

def wR : RecM := ⟨1, 1, [97, 98, 99], [], 0, 0⟩
theorem wR_ok : recOk wR := by unfold recOk locOk wR; simp

set_option maxHeartbeats 2000000 in
theorem wakes_spec {g : World} {F : List HP} (hT : TabsG g) : RCs Tryz.prog 7 [] g F (fun u w => u = .bool true ∧ St g w F) := by
  have hhl := headOf_length 1 1
  refine RCs_of_WPs Tryz.func7 rfl Tryz.ntmps7 rfl Tryz.results7 ?_
  refine WPs_seq ?_
  refine WPs_regionK [] ?_
  refine s_assign rfl rfl ?_
  refine SXs_nilK (fr' := []) rfl ?_
  refine KSs_wp ?_
  refine WPs_seq ?_
  refine WPs_regionK [1, 2] ?_
  refine s_call Tryz.call26 rfl (vs := [_]) rfl (RCs.perm (by (repeat ((exact List.Perm.refl _)))) (id255 hT.de)) ?_
  rintro v w ⟨rfl, hS⟩
  refine SXs_go hS ?_
  clear hS; clear w
  simp only [putF]
  refine s_move rfl rfl ?_
  refine s_extract rfl rfl rfl ?_
  refine s_extract rfl rfl rfl ?_
  refine s_assign rfl rfl ?_
  refine s_assign rfl rfl ?_
  refine SXs_nilK (fr' := [(1, _), (2, _)]) rfl ?_
  refine KSs_wp ?_
  refine WPs_seq ?_
  refine WPs_regionK [1, 2, 4] ?_
  refine s_call Tryz.call26 rfl (vs := [_]) rfl (RCs.perm (by (repeat ((exact List.Perm.refl _)))) (idFF hT.de)) ?_
  rintro v w ⟨rfl, hS⟩
  refine SXs_go hS ?_
  clear hS; clear w
  simp only [putF]
  refine s_move rfl rfl ?_
  refine s_extract rfl rfl rfl ?_
  refine s_extract rfl rfl rfl ?_
  refine s_assign rfl rfl ?_
  refine s_assign rfl rfl ?_
  refine SXs_nilK (fr' := [(1, _), (2, _), (4, _)]) rfl ?_
  refine KSs_wp ?_
  refine WPs_seq ?_
  refine WPs_regionK [1, 2, 4, 5] ?_
  refine s_call Tryz.call6 rfl (vs := [_]) rfl (RCs.perm (by (repeat ((exact List.Perm.refl _)))) (fs_new (q := 1000) (by omega) (by omega))) ?_
  rintro v w ⟨f, rfl, hS⟩
  refine SXs_go hS ?_
  clear hS; clear w
  simp only [putF]
  refine s_move rfl rfl ?_
  refine s_extract rfl rfl rfl ?_
  refine s_extract rfl rfl rfl ?_
  refine s_assign rfl rfl ?_
  refine s_assign rfl rfl ?_
  refine SXs_nilK (fr' := [(1, _), (2, _), (4, _), (5, _)]) rfl ?_
  refine KSs_wp ?_
  refine WPs_seq ?_
  refine WPs_regionK [1, 2, 4, 7, 8] ?_
  refine s_move rfl rfl ?_
  refine s_call Tryz.call27 rfl (vs := [_, _]) rfl (RCs.perm (by (repeat ((exact List.Perm.refl _)))) (seg_create (id := 1) hT.half (nameOk1 hT) mayOk1 (by omega) (by omega) (by omega) (by omega))) ?_
  rintro v w ⟨x, rfl, hS⟩
  refine SXs_go hS ?_
  clear hS; clear w
  simp only [putF]
  refine s_move rfl rfl ?_
  refine s_extract rfl rfl rfl ?_
  refine s_extract rfl rfl rfl ?_
  refine s_assign rfl rfl ?_
  refine s_assign rfl rfl ?_
  refine SXs_nilK (fr' := [(1, _), (2, _), (4, _), (7, _), (8, _)]) rfl ?_
  refine KSs_wp ?_
  refine WPs_seq ?_
  refine WPs_regionK [1, 2, 4, 7, 8, 9, 10] ?_
  refine s_move rfl rfl ?_
  refine s_buildSlice (vs := [(0, .int .u8 97), (1, .int .u8 98), (2, .int .u8 99)]) (cs := [.int .u8 97, .int .u8 98, .int .u8 99]) rfl rfl (buildSlice_lits (vs := [.int .u8 97, .int .u8 98, .int .u8 99]) slt_42 rfl (by simp [Value.cells]) (by decide) (by decide)) (fun b30 => ?_)
  refine s_convMark (i := 0) Tryz.underlying42 Tryz.underlying5 rfl rfl rfl ?_
  simp only [List.set_cons_zero]
  have hKw : ∀ G : List HP, RdB g (pt b30 (.cells [.int .u8 97, .int .u8 98, .int .u8 99].toArray 5 (3, 4)) :: G) (.slice (some ⟨b30, 0, none⟩) wR.key.length 3) wR.key := fun G => pt_RdIn (i := 0) (fz := (3, 4)) rfl rfl rfl (by decide) (by decide)
  refine s_build (vs := [(0, _), (1, _), (2, _)]) (cs := [_, _, _, _, _, _]) rfl rfl (build_46_0_1_2 rfl rfl rfl) ?_
  refine s_call Tryz.call17 rfl (vs := [_, _]) rfl (RCs.perm (by (repeat (first | exact List.Perm.refl _ | (apply pick 1; exact rfl)))) (seg_append (F := pt b30 (.cells [.int .u8 97, .int .u8 98, .int .u8 99].toArray 5 (3, 4)) :: F) (r := wR) (kind := 1) (vc := 0) (va := none) (m := ⟨headOf 1 1, headOf 1 1, []⟩) hT.half hT.sizes (nameOk1 hT) mayOk1 (hKw _) RdIn.nil wR_ok rfl (by decide) (by decide) (by decide) (by rw [hhl]; decide) (by decide) (by decide))) ?_
  rintro v w ⟨rfl, hS⟩
  refine SXs_go hS ?_
  clear hS; clear w
  simp only [putF, List.nil_append]
  refine s_move rfl rfl ?_
  refine s_extract rfl rfl rfl ?_
  refine s_extract rfl rfl rfl ?_
  refine s_alloc Tryz.zeroValue44 (cl := [_, _]) rfl rfl (fun b9 => ?_)
  refine s_store (i := 0) Tryz.sizeOf44 rfl rfl rfl (vs := [_, _]) rfl rfl rfl rfl ?_
  simp only [List.set_cons_zero, List.set_cons_succ, spl]
  refine s_assign rfl rfl ?_
  refine SXs_nilK (fr' := [(1, _), (2, _), (4, _), (7, _), (8, _), (9, _), (10, _)]) rfl ?_
  refine KSs_wp ?_
  refine WPs_seq ?_
  refine WPs_regionK [0] ?_
  refine s_call Tryz.call12 rfl (vs := [_]) rfl (RCs.perm (by (repeat ((exact List.Perm.refl _)))) (name1 hT.de)) ?_
  rintro v w ⟨rfl, hS⟩
  refine SXs_go hS ?_
  clear hS; clear w
  simp only [putF]
  refine c_strEq true rfl rfl rfl (by kernel_rfl) ?_
  refine s_move rfl rfl ?_
  refine s_guard_t2 rfl rfl (by ((rfl))) rfl ?_
  refine s_call Tryz.call12 rfl (vs := [_]) rfl (RCs.perm (by (repeat ((exact List.Perm.refl _)))) (name255 hT.de)) ?_
  rintro v w ⟨rfl, hS⟩
  refine SXs_go hS ?_
  clear hS; clear w
  simp only [putF]
  refine s_guard_t2 rfl rfl (by ((rfl))) rfl ?_
  refine c_strEq true rfl rfl rfl (by kernel_rfl) ?_
  refine s_pick_t rfl rfl rfl ?_
  refine s_move rfl rfl ?_
  refine s_guard_t2 rfl rfl (by ((rfl))) rfl ?_
  refine s_move rfl rfl ?_
  refine s_pick_t rfl rfl rfl ?_
  refine s_move rfl rfl ?_
  refine s_guard_t2 rfl rfl (by ((rfl))) rfl ?_
  refine s_move rfl rfl ?_
  refine s_guard_t2 rfl rfl (by ((rfl))) rfl ?_
  refine c_eql true rfl rfl rfl (by kernel_rfl) ?_
  refine s_pick_t rfl rfl rfl ?_
  refine s_move rfl rfl ?_
  refine s_guard_t2 rfl rfl (by ((rfl))) rfl ?_
  refine s_move rfl rfl ?_
  refine s_guard_t2 rfl rfl (by ((rfl))) rfl ?_
  refine c_not true rfl rfl (by kernel_rfl) ?_
  refine s_pick_t rfl rfl rfl ?_
  refine s_move rfl rfl ?_
  refine s_guard_t2 rfl rfl (by ((rfl))) rfl ?_
  refine s_move rfl rfl ?_
  refine s_guard_t2 rfl rfl (by ((rfl))) rfl ?_
  refine c_eql true rfl rfl rfl (by kernel_rfl) ?_
  refine s_pick_t rfl rfl rfl ?_
  refine s_move rfl rfl ?_
  refine s_guard_t2 rfl rfl (by ((rfl))) rfl ?_
  refine s_move rfl rfl ?_
  refine s_guard_t2 rfl rfl (by ((rfl))) rfl ?_
  refine c_eql true rfl rfl rfl (by kernel_rfl) ?_
  refine s_pick_t rfl rfl rfl ?_
  refine s_move rfl rfl ?_
  refine s_guard_t2 rfl rfl (by ((rfl))) rfl ?_
  refine s_loadN Tryz.isAgg44 Tryz.sizeOf44 (vs := [_, _]) rfl rfl (by exact csin (i := 0) (k := 2) rfl rfl) rfl ?_
  refine s_guard_t2 rfl rfl (by ((rfl))) rfl ?_
  refine s_build (vs := [(0, _), (1, _)]) (cs := [_, _]) rfl rfl (build_44_0_1 rfl rfl) ?_
  refine s_guard_t2 rfl rfl (by ((rfl))) rfl ?_
  refine s_eqlV rfl rfl rfl (eq_loc _ _ _ _) ?_
  refine s_pick_t rfl rfl rfl ?_
  refine s_move rfl rfl ?_
  refine s_guard rfl rfl rfl (fun hc1 => ?_) (fun hc1 => ?_)
  · simp only [decide_eq_true_eq] at hc1
    refine s_move rfl rfl ?_
    refine s_guard_t2 rfl rfl (by ((rfl))) rfl ?_
    refine s_call Tryz.call10 rfl (vs := [_]) rfl (RCs.perm (by (repeat (first | exact List.Perm.refl _ | (apply pick 1; exact rfl)))) (seg_seal)) ?_
    rintro v w ⟨rfl, hS⟩
    refine SXs_go hS ?_
    clear hS; clear w
    simp only [List.eraseIdx_cons_zero, List.eraseIdx_cons_succ, putF]
    refine s_guard_t2 rfl rfl (by ((rfl))) rfl ?_
    refine s_field rfl rfl ((fv_38_1).v rfl) ?_
    refine s_guard_t2 rfl rfl (by ((rfl))) rfl ?_
    refine s_eql rfl rfl rfl ?_
    refine s_pick_t rfl rfl rfl ?_
    refine s_assign rfl rfl ?_
    refine SXs_nilK (fr' := [(0, _)]) rfl ?_
    refine KSs_wp ?_
    refine WPs_ret ?_
    refine RLs_start ?_
    refine RLs_tmp rfl ?_
    refine RLs_fin1 ?_
    exact fun w hS => ⟨by (rfl), hS.sl (by (repeat (first | exact Sl.refl _ | refine Sl.skip ?_)))⟩
  · (exfalso; (cases hc1; done))
def cutR (r : RecM) : RecM := { r with key := r.key.take 70, value := r.value.take 1030 }

set_option maxHeartbeats 1000000 in
theorem cut_spec {g : World} {F : List HP} {r : RecM} {ka va : Option Addr} {kc vc : Nat} (hK : RdB g [] (.slice ka r.key.length kc) r.key) (hV : RdB g [] (.slice va r.value.length vc) r.value) :
    RCs Tryz.prog 22 [.agg (recCs r ka va kc vc).toArray] g F
      (fun u w => ∃ ka' kc' va' vc', u = .agg (recCs (cutR r) ka' va' kc' vc').toArray ∧
        RdB g [] (.slice ka' (cutR r).key.length kc') (cutR r).key ∧ RdB g [] (.slice va' (cutR r).value.length vc') (cutR r).value ∧ St g w F) := by
  have hm1 := hK.2.1
  have hm2 := hV.2.1
  simp only [maxLen] at hm1 hm2
  have l1 : (cutR r).key.length = min r.key.length 70 - 0 := by show (r.key.take 70).length = _; rw [List.length_take]; omega
  have l2 : (cutR r).value.length = min r.value.length 1030 - 0 := by show (r.value.take 1030).length = _; rw [List.length_take]; omega
  have t1 : r.key.take (min r.key.length 70) = (cutR r).key := by show _ = r.key.take 70; rw [List.take_eq_take_iff]; omega
  have t2 : r.value.take (min r.value.length 1030) = (cutR r).value := by show _ = r.value.take 1030; rw [List.take_eq_take_iff]; omega
  refine RCs_of_WPs Tryz.func22 rfl Tryz.ntmps22 rfl Tryz.results22 ?_
  refine WPs_seq ?_
  refine WPs_regionK [1, 2] ?_
  refine s_box (cl := [_, _, _, _, _, _]) rfl rfl rfl (fun b1 => ?_)
  refine s_alloc Tryz.zeroValue46 (cl := [_, _, _, _, _, _]) rfl rfl (fun b2 => ?_)
  refine SXs_nilK (fr' := [(1, _), (2, _)]) rfl ?_
  refine KSs_wp ?_
  refine WPs_seq ?_
  refine WPs_drawL [1, 2] [15, 17] Tryz.mixed rfl (listed := #[false, false, false, false, false, false, false, false, false, false, false, false, false, false, false, false, false, false]) rfl ?_
  refine st_take 0 rfl (by decide +kernel) (listed' := #[true, false, false, false, false, false, false, false, false, false, false, false, false, false, false, false, false, false]) rfl (by (intro _ h; (exact h))) (gv_fieldAddr fo_46_2 rfl rfl) ?_
  refine st_take 1 rfl (by decide +kernel) (listed' := #[true, true, false, false, false, false, false, false, false, false, false, false, false, false, false, false, false, false]) rfl (by (intro _ h; (exact h))) (gv_load1 Tryz.isAgg42 rfl rfl (by exact cin (i := 1) rfl rfl)) ?_
  refine st_take 2 rfl (by decide +kernel) (listed' := #[true, true, true, false, false, false, false, false, false, false, false, false, false, false, false, false, false, false]) rfl (by (intro _ h; (exact h))) (gv_fieldAddr fo_46_2 rfl rfl) ?_
  refine st_take 3 rfl (by decide +kernel) (listed' := #[true, true, true, true, false, false, false, false, false, false, false, false, false, false, false, false, false, false]) rfl (by (intro _ h; (exact h))) (gv_load1 Tryz.isAgg42 rfl rfl (by exact cin (i := 1) rfl rfl)) ?_
  refine st_take 4 rfl (by decide +kernel) (listed' := #[true, true, true, true, true, false, false, false, false, false, false, false, false, false, false, false, false, false]) rfl (by (intro _ h; (exact h))) (gv_len rfl Tryz.underlying42 rfl rfl) ?_
  refine st_take 5 rfl (by decide +kernel) (listed' := #[true, true, true, true, true, true, false, false, false, false, false, false, false, false, false, false, false, false]) rfl (by (intro _ h; (exact h))) (gv_minC (c := ((min r.key.length 70 : Nat) : Int)) rfl rfl rfl (by omega)) ?_
  refine ex_sliceRdF 6 rfl [] slt_42 (l := 0) (h' := min r.key.length 70) (vlo := none) (vhi := some _) rfl rfl hK trivial rfl (.inr ⟨rfl, rfl⟩) (.inl rfl) (by omega) (by omega) (fun va9 vc9 hR9 hG1_6 => ?_)
  refine st_take 6 rfl (by decide +kernel) (listed' := #[true, true, true, true, true, true, true, false, false, false, false, false, false, false, false, false, false, false]) rfl (by (intro _ h; (exact h))) hG1_6 ?_
  refine st_take 7 rfl (by decide +kernel) (listed' := #[true, true, true, true, true, true, true, true, false, false, false, false, false, false, false, false, false, false]) rfl (by (intro _ h; (exact h))) (gv_fieldAddr fo_46_3 rfl rfl) ?_
  refine st_take 8 rfl (by decide +kernel) (listed' := #[true, true, true, true, true, true, true, true, true, false, false, false, false, false, false, false, false, false]) rfl (by (intro _ h; (exact h))) (gv_load1 Tryz.isAgg42 rfl rfl (by exact cin (i := 1) rfl rfl)) ?_
  refine st_take 9 rfl (by decide +kernel) (listed' := #[true, true, true, true, true, true, true, true, true, true, false, false, false, false, false, false, false, false]) rfl (by (intro _ h; (exact h))) (gv_fieldAddr fo_46_3 rfl rfl) ?_
  refine st_take 10 rfl (by decide +kernel) (listed' := #[true, true, true, true, true, true, true, true, true, true, true, false, false, false, false, false, false, false]) rfl (by (intro _ h; (exact h))) (gv_load1 Tryz.isAgg42 rfl rfl (by exact cin (i := 1) rfl rfl)) ?_
  refine st_take 14 rfl (by decide +kernel) (listed' := #[true, true, true, true, true, true, true, true, true, true, true, false, false, false, true, false, false, false]) rfl (by (intro _ h; (exact h))) (gv_fieldAddr fo_46_2 rfl rfl) ?_
  refine st_two 11 15 rfl rfl (by decide +kernel) ?_ ?_
  ·
    refine s_len rfl Tryz.underlying42 rfl rfl ?_
    refine st_next (listed' := #[true, true, true, true, true, true, true, true, true, true, true, true, false, false, true, false, false, false]) rfl (by intro _ _; (intro _ h; (exact h))) ?_
    refine st_two 12 15 rfl rfl (by decide +kernel) ?_ ?_
    ·
      refine s_minC (c := ((min r.value.length 1030 : Nat) : Int)) rfl rfl rfl (by omega) ?_
      refine st_next (listed' := #[true, true, true, true, true, true, true, true, true, true, true, true, true, false, true, false, false, false]) rfl (by intro _ _; (intro _ h; (exact h))) ?_
      refine st_two 13 15 rfl rfl (by decide +kernel) ?_ ?_
      ·
        refine s_sliceRdF [] slt_42 (l := 0) (h' := min r.value.length 1030) (vlo := none) (vhi := some _) rfl rfl hV trivial rfl (.inr ⟨rfl, rfl⟩) (.inl rfl) (by omega) (by omega) (fun va16 vc16 hR16 => ?_)
        refine st_next (listed' := #[true, true, true, true, true, true, true, true, true, true, true, true, true, true, true, false, false, false]) rfl (by intro _ _; (intro _ h; (exact h))) ?_
        refine st_one 15 rfl (by decide +kernel) ?_
        refine s_store (i := 1) Tryz.sizeOf42 rfl rfl rfl (vs := [_]) rfl rfl rfl rfl ?_
        simp only [List.set_cons_zero, List.set_cons_succ, spl]
        refine st_next (listed' := #[true, true, true, true, true, true, true, true, true, true, true, true, true, true, true, true, false, false]) rfl (by intro e; cases e) ?_
        refine st_one 16 rfl (by decide +kernel) ?_
        refine s_fieldAddr fo_46_3 rfl rfl ?_
        refine st_next (listed' := #[true, true, true, true, true, true, true, true, true, true, true, true, true, true, true, true, true, false]) rfl (by intro _ hh; exact absurd (hh 15 rfl) (by decide)) ?_
        refine st_one 17 rfl (by decide +kernel) ?_
        refine s_store (i := 1) Tryz.sizeOf42 rfl rfl rfl (vs := [_]) rfl rfl rfl rfl ?_
        simp only [List.set_cons_zero, List.set_cons_succ, spl]
        refine st_next (listed' := #[true, true, true, true, true, true, true, true, true, true, true, true, true, true, true, true, true, true]) rfl (by intro e; cases e) ?_
        refine st_doneK (fr' := [(1, _), (2, _)]) (by decide +kernel) rfl ?_
        refine KSs_wp ?_
        refine WPs_seq ?_
        refine WPs_regionK [2] ?_
        refine s_loadN Tryz.isAgg46 Tryz.sizeOf46 (vs := [_, _, _, _, _, _]) rfl rfl (by exact csin (i := 1) (k := 6) rfl rfl) rfl ?_
        refine s_store (i := 0) Tryz.sizeOf46 rfl rfl rfl (vs := [_, _, _, _, _, _]) rfl rfl rfl rfl ?_
        simp only [List.set_cons_zero, List.set_cons_succ, spl]
        refine SXs_nilK (fr' := [(2, _)]) rfl ?_
        refine KSs_wp ?_
        refine WPs_ret ?_
        refine RLs_start ?_
        refine RLs_cellN Tryz.isAgg46 Tryz.sizeOf46 (cs := [_, _, _, _, _, _]) rfl (by exact csin (i := 0) (k := 6) rfl rfl) rfl ?_
        refine RLs_fin1 ?_
        exact fun w hS => ⟨va9, vc9, va16, vc16, by rw [recCs, l1, l2]; rfl, by have h := rd_take (n := 0) (by omega) hR9; rw [t1] at h; rw [l1]; exact h, by have h := rd_take (n := 0) (by omega) hR16; rw [t2] at h; rw [l2]; exact h, hS.sl (by (repeat (first | exact Sl.refl _ | refine Sl.skip ?_)))⟩
      ·
        refine s_store (i := 1) Tryz.sizeOf42 rfl rfl rfl (vs := [_]) rfl rfl rfl rfl ?_
        simp only [List.set_cons_zero, List.set_cons_succ, spl]
        refine st_next (listed' := #[true, true, true, true, true, true, true, true, true, true, true, true, true, false, true, true, false, false]) rfl (by intro e; cases e) ?_
        refine st_one 13 rfl (by decide +kernel) ?_
        refine s_sliceRdF [] slt_42 (l := 0) (h' := min r.value.length 1030) (vlo := none) (vhi := some _) rfl rfl hV trivial rfl (.inr ⟨rfl, rfl⟩) (.inl rfl) (by omega) (by omega) (fun va16 vc16 hR16 => ?_)
        refine st_next (listed' := #[true, true, true, true, true, true, true, true, true, true, true, true, true, true, true, true, false, false]) rfl (by intro _ hh; exact absurd (hh 15 rfl) (by decide)) ?_
        refine st_one 16 rfl (by decide +kernel) ?_
        refine s_fieldAddr fo_46_3 rfl rfl ?_
        refine st_next (listed' := #[true, true, true, true, true, true, true, true, true, true, true, true, true, true, true, true, true, false]) rfl (by intro _ hh; exact absurd (hh 15 rfl) (by decide)) ?_
        refine st_one 17 rfl (by decide +kernel) ?_
        refine s_store (i := 1) Tryz.sizeOf42 rfl rfl rfl (vs := [_]) rfl rfl rfl rfl ?_
        simp only [List.set_cons_zero, List.set_cons_succ, spl]
        refine st_next (listed' := #[true, true, true, true, true, true, true, true, true, true, true, true, true, true, true, true, true, true]) rfl (by intro e; cases e) ?_
        refine st_doneK (fr' := [(1, _), (2, _)]) (by decide +kernel) rfl ?_
        refine KSs_wp ?_
        refine WPs_seq ?_
        refine WPs_regionK [2] ?_
        refine s_loadN Tryz.isAgg46 Tryz.sizeOf46 (vs := [_, _, _, _, _, _]) rfl rfl (by exact csin (i := 1) (k := 6) rfl rfl) rfl ?_
        refine s_store (i := 0) Tryz.sizeOf46 rfl rfl rfl (vs := [_, _, _, _, _, _]) rfl rfl rfl rfl ?_
        simp only [List.set_cons_zero, List.set_cons_succ, spl]
        refine SXs_nilK (fr' := [(2, _)]) rfl ?_
        refine KSs_wp ?_
        refine WPs_ret ?_
        refine RLs_start ?_
        refine RLs_cellN Tryz.isAgg46 Tryz.sizeOf46 (cs := [_, _, _, _, _, _]) rfl (by exact csin (i := 0) (k := 6) rfl rfl) rfl ?_
        refine RLs_fin1 ?_
        exact fun w hS => ⟨va9, vc9, va16, vc16, by rw [recCs, l1, l2]; rfl, by have h := rd_take (n := 0) (by omega) hR9; rw [t1] at h; rw [l1]; exact h, by have h := rd_take (n := 0) (by omega) hR16; rw [t2] at h; rw [l2]; exact h, hS.sl (by (repeat (first | exact Sl.refl _ | refine Sl.skip ?_)))⟩
    ·
      refine s_store (i := 1) Tryz.sizeOf42 rfl rfl rfl (vs := [_]) rfl rfl rfl rfl ?_
      simp only [List.set_cons_zero, List.set_cons_succ, spl]
      refine st_next (listed' := #[true, true, true, true, true, true, true, true, true, true, true, true, false, false, true, true, false, false]) rfl (by intro e; cases e) ?_
      refine st_one 12 rfl (by decide +kernel) ?_
      refine s_minC (c := ((min r.value.length 1030 : Nat) : Int)) rfl rfl rfl (by omega) ?_
      refine st_next (listed' := #[true, true, true, true, true, true, true, true, true, true, true, true, true, false, true, true, false, false]) rfl (by intro _ hh; exact absurd (hh 15 rfl) (by decide)) ?_
      refine st_one 13 rfl (by decide +kernel) ?_
      refine s_sliceRdF [] slt_42 (l := 0) (h' := min r.value.length 1030) (vlo := none) (vhi := some _) rfl rfl hV trivial rfl (.inr ⟨rfl, rfl⟩) (.inl rfl) (by omega) (by omega) (fun va16 vc16 hR16 => ?_)
      refine st_next (listed' := #[true, true, true, true, true, true, true, true, true, true, true, true, true, true, true, true, false, false]) rfl (by intro _ hh; exact absurd (hh 15 rfl) (by decide)) ?_
      refine st_one 16 rfl (by decide +kernel) ?_
      refine s_fieldAddr fo_46_3 rfl rfl ?_
      refine st_next (listed' := #[true, true, true, true, true, true, true, true, true, true, true, true, true, true, true, true, true, false]) rfl (by intro _ hh; exact absurd (hh 15 rfl) (by decide)) ?_
      refine st_one 17 rfl (by decide +kernel) ?_
      refine s_store (i := 1) Tryz.sizeOf42 rfl rfl rfl (vs := [_]) rfl rfl rfl rfl ?_
      simp only [List.set_cons_zero, List.set_cons_succ, spl]
      refine st_next (listed' := #[true, true, true, true, true, true, true, true, true, true, true, true, true, true, true, true, true, true]) rfl (by intro e; cases e) ?_
      refine st_doneK (fr' := [(1, _), (2, _)]) (by decide +kernel) rfl ?_
      refine KSs_wp ?_
      refine WPs_seq ?_
      refine WPs_regionK [2] ?_
      refine s_loadN Tryz.isAgg46 Tryz.sizeOf46 (vs := [_, _, _, _, _, _]) rfl rfl (by exact csin (i := 1) (k := 6) rfl rfl) rfl ?_
      refine s_store (i := 0) Tryz.sizeOf46 rfl rfl rfl (vs := [_, _, _, _, _, _]) rfl rfl rfl rfl ?_
      simp only [List.set_cons_zero, List.set_cons_succ, spl]
      refine SXs_nilK (fr' := [(2, _)]) rfl ?_
      refine KSs_wp ?_
      refine WPs_ret ?_
      refine RLs_start ?_
      refine RLs_cellN Tryz.isAgg46 Tryz.sizeOf46 (cs := [_, _, _, _, _, _]) rfl (by exact csin (i := 0) (k := 6) rfl rfl) rfl ?_
      refine RLs_fin1 ?_
      exact fun w hS => ⟨va9, vc9, va16, vc16, by rw [recCs, l1, l2]; rfl, by have h := rd_take (n := 0) (by omega) hR9; rw [t1] at h; rw [l1]; exact h, by have h := rd_take (n := 0) (by omega) hR16; rw [t2] at h; rw [l2]; exact h, hS.sl (by (repeat (first | exact Sl.refl _ | refine Sl.skip ?_)))⟩
  ·
    refine s_store (i := 1) Tryz.sizeOf42 rfl rfl rfl (vs := [_]) rfl rfl rfl rfl ?_
    simp only [List.set_cons_zero, List.set_cons_succ, spl]
    refine st_next (listed' := #[true, true, true, true, true, true, true, true, true, true, true, false, false, false, true, true, false, false]) rfl (by intro e; cases e) ?_
    refine st_one 11 rfl (by decide +kernel) ?_
    refine s_len rfl Tryz.underlying42 rfl rfl ?_
    refine st_next (listed' := #[true, true, true, true, true, true, true, true, true, true, true, true, false, false, true, true, false, false]) rfl (by intro _ hh; exact absurd (hh 15 rfl) (by decide)) ?_
    refine st_one 12 rfl (by decide +kernel) ?_
    refine s_minC (c := ((min r.value.length 1030 : Nat) : Int)) rfl rfl rfl (by omega) ?_
    refine st_next (listed' := #[true, true, true, true, true, true, true, true, true, true, true, true, true, false, true, true, false, false]) rfl (by intro _ hh; exact absurd (hh 15 rfl) (by decide)) ?_
    refine st_one 13 rfl (by decide +kernel) ?_
    refine s_sliceRdF [] slt_42 (l := 0) (h' := min r.value.length 1030) (vlo := none) (vhi := some _) rfl rfl hV trivial rfl (.inr ⟨rfl, rfl⟩) (.inl rfl) (by omega) (by omega) (fun va16 vc16 hR16 => ?_)
    refine st_next (listed' := #[true, true, true, true, true, true, true, true, true, true, true, true, true, true, true, true, false, false]) rfl (by intro _ hh; exact absurd (hh 15 rfl) (by decide)) ?_
    refine st_one 16 rfl (by decide +kernel) ?_
    refine s_fieldAddr fo_46_3 rfl rfl ?_
    refine st_next (listed' := #[true, true, true, true, true, true, true, true, true, true, true, true, true, true, true, true, true, false]) rfl (by intro _ hh; exact absurd (hh 15 rfl) (by decide)) ?_
    refine st_one 17 rfl (by decide +kernel) ?_
    refine s_store (i := 1) Tryz.sizeOf42 rfl rfl rfl (vs := [_]) rfl rfl rfl rfl ?_
    simp only [List.set_cons_zero, List.set_cons_succ, spl]
    refine st_next (listed' := #[true, true, true, true, true, true, true, true, true, true, true, true, true, true, true, true, true, true]) rfl (by intro e; cases e) ?_
    refine st_doneK (fr' := [(1, _), (2, _)]) (by decide +kernel) rfl ?_
    refine KSs_wp ?_
    refine WPs_seq ?_
    refine WPs_regionK [2] ?_
    refine s_loadN Tryz.isAgg46 Tryz.sizeOf46 (vs := [_, _, _, _, _, _]) rfl rfl (by exact csin (i := 1) (k := 6) rfl rfl) rfl ?_
    refine s_store (i := 0) Tryz.sizeOf46 rfl rfl rfl (vs := [_, _, _, _, _, _]) rfl rfl rfl rfl ?_
    simp only [List.set_cons_zero, List.set_cons_succ, spl]
    refine SXs_nilK (fr' := [(2, _)]) rfl ?_
    refine KSs_wp ?_
    refine WPs_ret ?_
    refine RLs_start ?_
    refine RLs_cellN Tryz.isAgg46 Tryz.sizeOf46 (cs := [_, _, _, _, _, _]) rfl (by exact csin (i := 0) (k := 6) rfl rfl) rfl ?_
    refine RLs_fin1 ?_
    exact fun w hS => ⟨va9, vc9, va16, vc16, by rw [recCs, l1, l2]; rfl, by have h := rd_take (n := 0) (by omega) hR9; rw [t1] at h; rw [l1]; exact h, by have h := rd_take (n := 0) (by omega) hR16; rw [t2] at h; rw [l2]; exact h, hS.sl (by (repeat (first | exact Sl.refl _ | refine Sl.skip ?_)))⟩
end Go.Proofs.YthodbnmeggkkoaaGreatDoor
/-
  The law's own: numbered, laid.
-/
namespace Go.Proofs.YthodbnmeggkkoaaGreatDoor
open Go Go.RowKit Go.Hb Go.Proofs

/-- A record, and where its key and its value lie (old memory). -/
structure RE where
  r : RecM
  ka : Option Addr
  va : Option Addr
  kc : Nat
  vc : Nat

def reCs (e : RE) : List Value := recCs e.r e.ka e.va e.kc e.vc
def rflat (E : List RE) : List Value := E.flatMap reCs
theorem rflat_snoc (E : List RE) (e : RE) : rflat (E ++ [e]) = rflat E ++ reCs e := by simp [rflat]
theorem rflat_length (E : List RE) : (rflat E).length = E.length * 6 := by
  induction E with
  | nil => rfl
  | cons e E ih => simp only [rflat, List.flatMap_cons, List.length_append] at *; rw [ih]; simp [reCs, recCs]; omega
theorem rflat_drop : ∀ (E : List RE) (i : Nat), (rflat E).drop (i * 6) = rflat (E.drop i) := by
  intro E
  induction E with
  | nil => intro i; simp [rflat]
  | cons e E ih =>
    intro i
    cases i with
    | zero => simp
    | succ i =>
      have : rflat (e :: E) = reCs e ++ rflat E := rfl
      rw [this, List.drop_succ_cons, ← ih, show (i + 1) * 6 = (reCs e).length + i * 6 from by simp [reCs, recCs]; omega, List.drop_append]
      simp
theorem rflat_at {E : List RE} {i : Nat} {e : RE} (h : E[i]? = some e) : ((rflat E).drop (i * 6)).take 6 = reCs e := by
  rw [rflat_drop]
  obtain ⟨hlt, he⟩ := List.getElem?_eq_some_iff.1 h
  rw [List.drop_eq_getElem_cons hlt, he]
  have : rflat (e :: E.drop (i + 1)) = reCs e ++ rflat (E.drop (i + 1)) := rfl
  rw [this]
  exact List.take_left' (by simp [reCs, recCs])

/-- The key and the value of e lie in old memory. -/
def ReOk (g : World) (e : RE) : Prop := RdB g [] (.slice e.ka e.r.key.length e.kc) e.r.key ∧ RdB g [] (.slice e.va e.r.value.length e.vc) e.r.value
theorem RdIn.old {g : World} {F : List HP} {v : Value} {k m : Nat} {xs : List Value} (h : RdIn g [] v k m xs) : RdIn g F v k m xs := RdIn.mono h (fun _ s => by
  induction F with
  | nil => exact s
  | cons Q F ih => exact ih s.tail)
theorem RdB.old {g : World} {F : List HP} {v : Value} {xs : List UInt8} (h : RdB g [] v xs) : RdB g F v xs := RdIn.old h

/-- Records that may be, numbered from 1 on; at most 30. -/
def Numb (g : World) (E : List RE) : Prop := E.length ≤ 30 ∧ ∀ (i : Nat) (e : RE), E[i]? = some e → recOk e.r ∧ e.r.seq = i + 1 ∧ ReOk g e
theorem Numb.snoc {g : World} {E : List RE} {e : RE} (h : Numb g E) (hl : E.length < 30) (h1 : recOk e.r) (h2 : e.r.seq = E.length + 1) (h3 : ReOk g e) : Numb g (E ++ [e]) := by
  refine ⟨by simp; omega, fun i e' he => ?_⟩
  rw [List.getElem?_append] at he
  split at he
  · exact h.2 i e' he
  · obtain ⟨hlt, rfl⟩ := List.getElem?_eq_some_iff.1 he
    simp only [List.length_singleton] at hlt
    have : i = E.length := by omega
    subst this
    simp only [Nat.sub_self, List.getElem_cons_zero]
    exact ⟨h1, h2, h3⟩

set_option maxHeartbeats 1000000 in
theorem numbered_spec {g : World} {F : List HP} {I : List RE} {a : Option Addr} {cap : Nat} (hI : RdIn g [] (.slice a I.length cap) 6 I.length (rflat I)) (hk : ∀ e ∈ I, ReOk g e) :
    RCs Tryz.prog 5 [.slice a I.length cap] g F
      (fun u w => ∃ (E : List RE) (a' : Option Addr) (c' : Nat), u = .slice a' E.length c' ∧ Numb g E ∧ St g w (own 46 6 (.slice a' E.length c') E.length (rflat E) :: F)) := by
  have hmx := hI.2.1
  simp only [maxLen] at hmx
  refine RCs_of_WPs Tryz.func5 rfl Tryz.ntmps5 rfl Tryz.results5 ?_
  refine WPs_seq ?_
  refine WPs_regionK [0] ?_
  refine s_assign rfl rfl ?_
  refine SXs_nilK (fr' := [(0, _)]) rfl ?_
  refine KSs_wp ?_
  refine WPs_seq ?_
  refine WPs_regionK [0, 3] ?_
  refine s_assign rfl rfl ?_
  refine SXs_nilK (fr' := [(0, _), (3, _)]) rfl ?_
  refine KSs_wp ?_
  refine WPs_seq ?_
  refine WPs_seq ?_
  refine WPs_regionK [3, 6, 7, 8] ?_
  refine s_move rfl rfl ?_
  refine s_len rfl Tryz.underlying22 rfl rfl ?_
  refine s_move rfl rfl ?_
  refine SXs_nilK (fr' := [(3, _), (6, _), (7, _), (8, _)]) rfl ?_
  refine KSs_wp ?_
  refine WPs_block ?_
  refine WPs_loopS (ks := [8, 3, 6, 7]) (fun ((i, E, n, oa, oc) : (Nat) × (List RE) × (Nat) × (Option Addr) × (Nat)) => [(8, .int .i64 (i : Int)), (3, .slice oa n oc)]) (fun ((i, E, n, oa, oc) : (Nat) × (List RE) × (Nat) × (Option Addr) × (Nat)) => own 46 6 (.slice oa n oc) n (rflat E) :: F) (fun ((i, E, n, oa, oc) : (Nat) × (List RE) × (Nat) × (Option Addr) × (Nat)) => i ≤ I.length ∧ Numb g E ∧ n = E.length) (fun ((i, E, n, oa, oc) : (Nat) × (List RE) × (Nat) × (Option Addr) × (Nat)) => I.length - i) ((0, [], 0, none, 0)) rfl (fun w hS => own_nil_in (T := 46) (k := 6) hS) (⟨Nat.zero_le _, ⟨by simp, fun i e h => by simp at h⟩, rfl⟩) ?_
  rintro ⟨i, E, n, oa, oc⟩ hok
  dsimp only [List.cons_append, List.nil_append] at hok ⊢
  refine WPs_seq ?_
  refine WPs_regionK [3, 6, 7, 8, 9] ?_
  refine s_lss rfl rfl rfl ?_
  refine SXs_nilK (fr' := [(3, _), (6, _), (7, _), (8, _), (9, _)]) rfl ?_
  refine KSs_wp ?_
  refine WPs_seq ?_
  refine WPs_cond rfl (fun hc1 => ?_) (fun hc1 => ?_)
  · simp only [decide_eq_true_eq] at hc1
    refine WPs_skip ?_
    refine KSs_wp ?_
    refine WPs_seq ?_
    refine WPs_block ?_
    refine WPs_seq ?_
    refine WPs_regionK [3, 5, 6, 7, 8] ?_
    obtain ⟨hok, hE, rfl⟩ := hok
    have hi : i < I.length := by omega
    obtain ⟨e, he⟩ : ∃ e, I[i]? = some e := ⟨_, List.getElem?_eq_getElem hi⟩
    have hre := hk e (List.mem_of_getElem? he)
    refine s_idxRd slt_22 rfl rfl (RdIn.old hI) rfl (by omega) (by omega) (fun b10 o10 hc10 => ?_)
    refine s_loadN Tryz.isAgg46 Tryz.sizeOf46 (vs := reCs e) rfl rfl (by rw [Int.toNat_natCast, rflat_at he] at hc10; exact hc10) rfl ?_
    refine s_alloc Tryz.zeroValue46 (cl := [_, _, _, _, _, _]) rfl rfl (fun b5 => ?_)
    refine s_store (i := 0) Tryz.sizeOf46 rfl rfl rfl (vs := [_, _, _, _, _, _]) rfl rfl rfl rfl ?_
    simp only [List.set_cons_zero, List.set_cons_succ, spl]
    refine SXs_nilK (fr' := [(3, _), (5, _), (6, _), (7, _), (8, _)]) rfl ?_
    refine KSs_wp ?_
    refine WPs_seq ?_
    refine WPs_regionK [3, 5, 6, 7, 8] ?_
    refine s_loadN Tryz.isAgg46 Tryz.sizeOf46 (vs := [_, _, _, _, _, _]) rfl rfl (by exact csin (i := 0) (k := 6) rfl rfl) rfl ?_
    refine s_call Tryz.call22 rfl (vs := [_]) rfl (RCs.perm (by (repeat ((exact List.Perm.refl _)))) (cut_spec (r := e.r) hre.1 hre.2)) ?_
    rintro v w ⟨ka, kc, va, vc, rfl, hK, hV, hS⟩
    refine SXs_go hS ?_
    clear hS; clear w
    simp only [putF]
    refine s_store (i := 0) Tryz.sizeOf46 rfl rfl rfl (vs := [_, _, _, _, _, _]) rfl rfl rfl rfl ?_
    simp only [List.set_cons_zero, List.set_cons_succ, spl]
    refine SXs_nilK (fr' := [(3, _), (5, _), (6, _), (7, _), (8, _)]) rfl ?_
    refine KSs_wp ?_
    refine WPs_seq ?_
    refine WPs_regionK [3, 5, 6, 7, 8] ?_
    have hE30 := hE.1
    have eS : ((E.length : Int) + 1) = ((E.length + 1 : Nat) : Int) := by omega
    refine s_move rfl rfl ?_
    refine s_len rfl Tryz.underlying22 rfl rfl ?_
    refine s_addC (c := ((E.length + 1 : Nat) : Int)) rfl rfl rfl (by rw [eS]; exact inR_i64 (by omega) (by omega)) ?_
    refine s_conv_ok Tryz.underlying3 Tryz.underlying36 rfl rfl (inR_u64 (by omega) (by omega)) ?_
    refine s_fieldAddr fo_46_0 rfl rfl ?_
    refine s_store (i := 0) Tryz.sizeOf36 rfl rfl rfl (vs := [_]) rfl rfl rfl rfl ?_
    simp only [List.set_cons_zero, spl]
    refine SXs_nilK (fr' := [(3, _), (5, _), (6, _), (7, _), (8, _)]) rfl ?_
    refine KSs_wp ?_
    refine WPs_seq ?_
    refine WPs_regionK [3, 5, 6, 7, 8, 25] ?_
    refine s_loadN Tryz.isAgg46 Tryz.sizeOf46 (vs := [_, _, _, _, _, _]) rfl rfl (by exact csin (i := 0) (k := 6) rfl rfl) rfl ?_
    refine s_call Tryz.call23 rfl (vs := [_]) rfl (RCs.perm (by (repeat ((exact List.Perm.refl _)))) (recMay_spec (r := { cutR e.r with seq := E.length + 1 }) (RdB.old hK) (RdB.old hV))) ?_
    rintro v w ⟨rfl, hS⟩
    refine SXs_go hS ?_
    clear hS; clear w
    simp only [putF]
    refine s_move rfl rfl ?_
    refine s_guard rfl rfl rfl (fun hc2 => ?_) (fun hc2 => ?_)
    · simp only [decide_eq_true_eq] at hc2
      refine s_move rfl rfl ?_
      refine s_guard_t2 rfl rfl (by ((simp; assumption))) rfl ?_
      refine s_len rfl Tryz.underlying22 rfl rfl ?_
      refine s_guard_t2 rfl rfl (by ((simp; assumption))) rfl ?_
      refine s_lss rfl rfl rfl ?_
      refine s_pickB rfl rfl rfl rfl ?_
      refine SXs_nilK (fr' := [(3, _), (5, _), (6, _), (7, _), (8, _), (25, _)]) rfl ?_
      refine KSs_wp ?_
      refine WPs_cond rfl (fun hc3 => ?_) (fun hc3 => ?_)
      · refine WPs_regionK [3, 6, 7, 8] ?_
        refine s_move rfl rfl ?_
        refine s_loadN Tryz.isAgg46 Tryz.sizeOf46 (vs := [_, _, _, _, _, _]) rfl rfl (by exact csin (i := 0) (k := 6) rfl rfl) rfl ?_
        refine s_buildSlice (vs := [(0, _)]) (cs := [_, _, _, _, _, _]) rfl rfl (buildSlice_one slt_22 rfl rfl (by decide)) (fun b28 => ?_)
        refine s_append (i := 2) slt_22 rfl rfl rfl rfl (by exact pt_RdIn (i := 0) rfl rfl rfl (by omega) (by simp only [maxLen]; omega)) (by ((rfl))) (by ((simp only [maxLen]; omega))) (by ((omega))) (fun va29 vc29 => ?_)
        simp only [List.set_cons_zero, List.set_cons_succ]
        refine s_assign rfl rfl ?_
        refine SXs_nilK (fr' := [(3, _), (6, _), (7, _), (8, _)]) rfl ?_
        refine KSs_wp ?_
        refine WPs_regionK [3, 6, 7, 8] ?_
        refine s_add_ok rfl rfl rfl (inR_i64 (by omega) (by omega)) ?_
        refine s_move rfl rfl ?_
        refine SXs_nilK (fr' := [(3, _), (6, _), (7, _), (8, _)]) rfl ?_
        have hmay : recOk { cutR e.r with seq := E.length + 1 } := by (assumption)
        have hlt : E.length < 30 := by (simp_all; omega)
        exact fun w hS => ⟨(i + 1, E ++ [⟨{ cutR e.r with seq := E.length + 1 }, ka, va, kc, vc⟩], E.length + 1, _, _), rfl, by
          dsimp only
          rw [rflat_snoc]
          exact hS.sl (by (repeat (first | exact Sl.refl _ | (apply Sl.pick 2; exact rfl) | refine Sl.skip ?_))), ⟨by dsimp only; omega, hE.snoc hlt hmay rfl ⟨hK, hV⟩, by simp⟩, by dsimp only; omega⟩
      · refine WPs_skip ?_
        refine KSs_wp ?_
        refine WPs_regionK [3, 6, 7, 8] ?_
        refine s_add_ok rfl rfl rfl (inR_i64 (by omega) (by omega)) ?_
        refine s_move rfl rfl ?_
        refine SXs_nilK (fr' := [(3, _), (6, _), (7, _), (8, _)]) rfl ?_
        exact fun w hS => ⟨(i + 1, E, E.length, oa, oc), rfl, hS.sl (by (repeat (first | exact Sl.refl _ | (apply Sl.pick 1; exact rfl) | refine Sl.skip ?_))), ⟨by dsimp only; omega, hE, rfl⟩, by dsimp only; omega⟩
    · simp only [decide_eq_false_iff_not, Bool.not_true] at hc2
      refine s_guard_f rfl rfl (by ((simp; assumption))) rfl ?_
      refine s_guard_f rfl rfl (by ((simp; assumption))) rfl ?_
      refine s_pickH_f rfl rfl (by ((simp; assumption))) rfl ?_
      refine SXs_nilK (fr' := [(3, _), (5, _), (6, _), (7, _), (8, _), (25, _)]) rfl ?_
      refine KSs_wp ?_
      refine WPs_cond rfl (fun hc4 => ?_) (fun hc4 => ?_)
      · (exfalso; (cases hc4; done))
      · simp only [decide_eq_true_eq] at hc4
        refine WPs_skip ?_
        refine KSs_wp ?_
        refine WPs_regionK [3, 6, 7, 8] ?_
        refine s_add_ok rfl rfl rfl (inR_i64 (by omega) (by omega)) ?_
        refine s_move rfl rfl ?_
        refine SXs_nilK (fr' := [(3, _), (6, _), (7, _), (8, _)]) rfl ?_
        exact fun w hS => ⟨(i + 1, E, E.length, oa, oc), rfl, hS.sl (by (repeat (first | exact Sl.refl _ | (apply Sl.pick 1; exact rfl) | refine Sl.skip ?_))), ⟨by dsimp only; omega, hE, rfl⟩, by dsimp only; omega⟩
  · simp only [decide_eq_false_iff_not] at hc1
    refine WPs_exit rfl ?_
    refine KSs_wp ?_
    refine WPs_seq ?_
    refine WPs_regionK [2] ?_
    refine s_move rfl rfl ?_
    refine s_assign rfl rfl ?_
    refine SXs_nilK (fr' := [(2, _)]) rfl ?_
    refine KSs_wp ?_
    refine WPs_ret ?_
    refine RLs_start ?_
    refine RLs_tmp rfl ?_
    refine RLs_fin1 ?_
    exact fun w hS => by obtain ⟨_, hE, rfl⟩ := hok; exact ⟨E, oa, oc, rfl, hE, hS.sl (by (repeat ((exact Sl.refl _))))⟩
end Go.Proofs.YthodbnmeggkkoaaGreatDoor
/-
  The law's own: laid.
-/
namespace Go.Proofs.YthodbnmeggkkoaaGreatDoor
open Go Go.RowKit Go.Hb Go.Proofs

def kN (r : RecM) : Nat := r.kind.toNat
theorem kN_eq {r : RecM} (h : recOk r) : r.kind = (kN r : Int) := by
  unfold recOk at h
  unfold kN
  rcases h.1 with h1 | ⟨h1, _⟩ <;> rw [h1] <;> rfl
def encE (e : RE) : List UInt8 := encOf (kN e.r) e.r
def encs (E : List RE) : List UInt8 := E.flatMap encE
theorem encE_length (e : RE) : (encE e).length = rsz e.r := enc_length _ _
theorem take_succ' {α : Type} {E : List α} {i : Nat} {e : α} (h : E[i]? = some e) : E.take (i + 1) = E.take i ++ [e] := by
  rw [List.take_add_one, h]; rfl
theorem encs_snoc (E : List RE) (e : RE) : encs (E ++ [e]) = encs E ++ encE e := by simp [encs]
theorem encs_take {E : List RE} {i : Nat} {e : RE} (h : E[i]? = some e) : encs (E.take (i + 1)) = encs (E.take i) ++ encE e := by rw [take_succ' h, encs_snoc]
theorem encs_le {g : World} {E : List RE} (h : Numb g E) : ∀ i, i ≤ E.length → (encs (E.take i)).length ≤ 1113 * i := by
  intro i
  induction i with
  | zero => intro _; simp [encs]
  | succ i ih =>
    intro hi
    obtain ⟨e, he⟩ : ∃ e, E[i]? = some e := ⟨_, List.getElem?_eq_getElem (by omega)⟩
    rw [encs_take he, List.length_append, encE_length]
    have := ih (by omega)
    have := rsz_le (h.2 i e he).1
    omega
/-- Where record i lies. -/
def offA (E : List RE) (i : Nat) : Nat := 16 + (encs (E.take i)).length
theorem offA_succ {E : List RE} {i : Nat} {e : RE} (h : E[i]? = some e) : offA E (i + 1) = offA E i + rsz e.r := by
  unfold offA; rw [encs_take h, List.length_append, encE_length]; omega
theorem offA_le {g : World} {E : List RE} (h : Numb g E) {i : Nat} (hi : i ≤ E.length) : offA E i ≤ 33406 := by
  have := encs_le h i hi
  have := h.1
  unfold offA; omega
def fileM (id : Nat) (E : List RE) (i : Nat) : FileM := ⟨headOf 1 id, headOf 1 id ++ encs (E.take i), (E.take i).map fun e => .add (encE e)⟩
theorem fileM_succ {id : Nat} {E : List RE} {i : Nat} {e : RE} (h : E[i]? = some e) :
    fileM id E (i + 1) = { fileM id E i with now := (fileM id E i).now ++ encE e, deeds := (fileM id E i).deeds ++ [.add (encE e)] } := by
  unfold fileM; rw [encs_take h, take_succ' h]; simp
theorem fileM_length (id : Nat) (E : List RE) (i : Nat) : (fileM id E i).now.length = offA E i := by
  show (headOf 1 id ++ _).length = _
  rw [List.length_append, headOf_length]; rfl
def locCs (id : Nat) (E : List RE) (i : Nat) : List Value := (List.range i).flatMap fun j => [.int .u32 (id : Int), .int .u32 (offA E j : Int)]
theorem locCs_succ (id : Nat) (E : List RE) (i : Nat) : locCs id E (i + 1) = locCs id E i ++ [.int .u32 (id : Int), .int .u32 (offA E i : Int)] := by simp [locCs, List.range_succ]
theorem locCs_length (id : Nat) (E : List RE) (i : Nat) : (locCs id E i).length = i * 2 := by
  induction i with
  | zero => rfl
  | succ i ih => rw [locCs_succ, List.length_append, ih]; simp; omega
abbrev segI (x f id : Nat) (E : List RE) (i safe : Nat) : HP := segP x f id (offA E i) i (if i = 0 then 0 else 1) i safe

theorem segI_succ {x f id safe i : Nat} {E : List RE} {e : RE} (h : E[i]? = some e) (hs : e.r.seq = i + 1) :
    segP x f id (offA E i + (25 + e.r.key.length + e.r.value.length)) (i + 1) (if i = 0 then e.r.seq else (if i = 0 then 0 else 1)) e.r.seq safe = segI x f id E (i + 1) safe := by
  unfold segI
  rw [offA_succ h, hs]
  have : (if i = 0 then i + 1 else if i = 0 then 0 else 1) = 1 := by split <;> simp_all
  rw [this]
  simp [rsz]

set_option maxHeartbeats 1000000 in
theorem lawLaid_spec {g : World} {F : List HP} {E : List RE} {f id : Nat} {q : Int} {nm : ByteArray} {a : Option Addr} {cap : Nat} (hH : HalfG g) (hSz : SizesG g) (hn : NameOk g id nm) (hm : MayOk nm) (h1 : 1 ≤ id) (h2 : id ≤ 16777215) (hq : 65536 ≤ q) (hq2 : q ≤ 1073741824)
    (hE : Numb g E) (hI : RdIn g F (.slice a E.length cap) 6 E.length (rflat E)) :
    RCs Tryz.prog 8 [.pointer (some ⟨f, 0, none⟩), .int .u32 (id : Int), .slice a E.length cap] g (Fs0 f q :: F)
      (fun u w => ∃ x la lc, u = .tuple #[.pointer (some ⟨x, 0, none⟩), .slice la E.length lc] ∧
        St g w (segI x f id E E.length 0 :: FsR true f nm q (fileM id E E.length) :: own 44 2 (.slice la E.length lc) E.length (locCs id E E.length) :: F)) := by
  have hmx := hE.1
  refine RCs_of_WPs Tryz.func8 rfl Tryz.ntmps8 rfl Tryz.results8 ?_
  refine WPs_seq ?_
  refine WPs_regionK [0, 1, 2] ?_
  refine s_assign rfl rfl ?_
  refine s_assign rfl rfl ?_
  refine SXs_nilK (fr' := [(0, _), (1, _), (2, _)]) rfl ?_
  refine KSs_wp ?_
  refine WPs_seq ?_
  refine WPs_regionK [2, 8, 9] ?_
  refine s_move rfl rfl ?_
  refine s_move rfl rfl ?_
  refine s_call Tryz.call27 rfl (vs := [_, _]) rfl (RCs.perm (by (repeat ((exact List.Perm.refl _)))) (seg_create (id := id) hH hn hm h1 h2 (by omega) hq2)) ?_
  rintro v w ⟨x, rfl, hS⟩
  refine SXs_go hS ?_
  clear hS; clear w
  simp only [putF]
  refine s_move rfl rfl ?_
  refine s_extract rfl rfl rfl ?_
  refine s_extract rfl rfl rfl ?_
  refine s_assign rfl rfl ?_
  refine s_assign rfl rfl ?_
  refine SXs_nilK (fr' := [(2, _), (8, _), (9, _)]) rfl ?_
  refine KSs_wp ?_
  refine WPs_seq ?_
  refine WPs_seq ?_
  refine WPs_regionK [2, 8, 22] ?_
  refine s_move rfl rfl ?_
  refine s_neq rfl rfl rfl ?_
  refine SXs_nilK (fr' := [(2, _), (8, _), (22, _)]) rfl ?_
  refine KSs_wp ?_
  refine WPs_cond rfl (fun hc1 => ?_) (fun hc1 => ?_)
  · (exfalso; (cases hc1; done))
  · simp only [decide_eq_true_eq, Bool.not_eq_false'] at hc1
    refine WPs_skip ?_
    refine KSs_wp ?_
    refine WPs_seq ?_
    refine WPs_regionK [2, 8, 10] ?_
    refine s_assign rfl rfl ?_
    refine SXs_nilK (fr' := [(2, _), (8, _), (10, _)]) rfl ?_
    refine KSs_wp ?_
    refine WPs_seq ?_
    refine WPs_seq ?_
    refine WPs_regionK [8, 10, 23, 24, 25] ?_
    refine s_move rfl rfl ?_
    refine s_len rfl Tryz.underlying22 rfl rfl ?_
    refine s_move rfl rfl ?_
    refine SXs_nilK (fr' := [(8, _), (10, _), (23, _), (24, _), (25, _)]) rfl ?_
    refine KSs_wp ?_
    refine WPs_block ?_
    refine WPs_loopS (ks := [25, 10, 8, 23, 24]) (fun ((i, la, lc) : (Nat) × (Option Addr) × (Nat)) => [(25, .int .i64 (i : Int)), (10, .slice la i lc)]) (fun ((i, la, lc) : (Nat) × (Option Addr) × (Nat)) => segI x f id E i 0 :: FsR true f nm q (fileM id E i) :: own 44 2 (.slice la i lc) i (locCs id E i) :: F) (fun ((i, la, lc) : (Nat) × (Option Addr) × (Nat)) => i ≤ E.length) (fun ((i, la, lc) : (Nat) × (Option Addr) × (Nat)) => E.length - i) ((0, none, 0)) rfl (fun w hS => by
        have h3 := own_nil_in (T := 44) (k := 2) hS
        have e1 : fileM id E 0 = ⟨headOf 1 id, headOf 1 id, []⟩ := by simp [fileM, encs]
        have e2 : segI x f id E 0 0 = segP x f id 16 0 0 0 0 := by simp [segI, offA, encs]
        dsimp only
        rw [e1, e2]
        exact h3.perm (by (repeat (first | exact List.Perm.refl _ | (apply pick 1; exact rfl))))) (Nat.zero_le _) ?_
    rintro ⟨i, la, lc⟩ hok
    dsimp only [List.cons_append, List.nil_append] at hok ⊢
    refine WPs_seq ?_
    refine WPs_regionK [8, 10, 23, 24, 25, 26] ?_
    refine s_lss rfl rfl rfl ?_
    refine SXs_nilK (fr' := [(8, _), (10, _), (23, _), (24, _), (25, _), (26, _)]) rfl ?_
    refine KSs_wp ?_
    refine WPs_seq ?_
    refine WPs_cond rfl (fun hc2 => ?_) (fun hc2 => ?_)
    · simp only [decide_eq_true_eq] at hc2
      refine WPs_skip ?_
      refine KSs_wp ?_
      refine WPs_seq ?_
      refine WPs_block ?_
      refine WPs_seq ?_
      refine WPs_regionK [8, 10, 12, 23, 24, 25] ?_
      have hi : i < E.length := by omega
      obtain ⟨e, he⟩ : ∃ e, E[i]? = some e := ⟨_, List.getElem?_eq_getElem hi⟩
      obtain ⟨hok1, hseq, hre⟩ := hE.2 i e he
      have hoff := offA_le hE (i := i) (by omega)
      have hfl := fileM_length id E i
      have hrz := rsz_le hok1
      unfold rsz at hrz
      have hdl : (fileM id E i).deeds.length = i := by simp [fileM]; omega
      refine s_idxRd slt_22 rfl rfl hI.cons.cons.cons rfl (by omega) (by omega) (fun b27 o27 hc27 => ?_)
      refine s_loadN Tryz.isAgg46 Tryz.sizeOf46 (vs := reCs e) rfl rfl (by rw [Int.toNat_natCast, rflat_at he] at hc27; exact hc27) rfl ?_
      refine s_alloc Tryz.zeroValue46 (cl := [_, _, _, _, _, _]) rfl rfl (fun b12 => ?_)
      refine s_store (i := 0) Tryz.sizeOf46 rfl rfl rfl (vs := [_, _, _, _, _, _]) rfl rfl rfl rfl ?_
      simp only [List.set_cons_zero, List.set_cons_succ, spl]
      refine SXs_nilK (fr' := [(8, _), (10, _), (12, _), (23, _), (24, _), (25, _)]) rfl ?_
      refine KSs_wp ?_
      refine WPs_seq ?_
      refine WPs_regionK [8, 10, 13, 14, 23, 24, 25] ?_
      refine s_move rfl rfl ?_
      refine s_loadN Tryz.isAgg46 Tryz.sizeOf46 (vs := [_, _, _, _, _, _]) rfl rfl (by exact csin (i := 0) (k := 6) rfl rfl) rfl ?_
      refine s_call Tryz.call17 rfl (vs := [_, _]) rfl (RCs.perm (by (repeat (first | exact List.Perm.refl _ | (apply pick 1; exact rfl)))) (seg_append (r := e.r) (kind := kN e.r) (q := q) (nm := nm) (m := fileM id E i) hH hSz hn hm (RdB.old hre.1) (RdB.old hre.2) hok1 (kN_eq hok1) (by omega) (by omega) (by omega) (by omega) hq2 (by omega))) ?_
      rintro v w ⟨rfl, hS⟩
      refine SXs_go hS ?_
      clear hS; clear w
      simp only [List.eraseIdx_cons_zero, List.eraseIdx_cons_succ, putF]
      refine s_move rfl rfl ?_
      refine s_extract rfl rfl rfl ?_
      refine s_extract rfl rfl rfl ?_
      refine s_alloc Tryz.zeroValue44 (cl := [_, _]) rfl rfl (fun b13 => ?_)
      refine s_store (i := 0) Tryz.sizeOf44 rfl rfl rfl (vs := [_, _]) rfl rfl rfl rfl ?_
      simp only [List.set_cons_zero, List.set_cons_succ, spl]
      refine s_assign rfl rfl ?_
      refine SXs_nilK (fr' := [(8, _), (10, _), (13, _), (14, _), (23, _), (24, _), (25, _)]) rfl ?_
      refine KSs_wp ?_
      refine WPs_seq ?_
      refine WPs_seq ?_
      refine WPs_regionK [8, 10, 13, 23, 24, 25, 36] ?_
      refine s_move rfl rfl ?_
      refine s_neq rfl rfl rfl ?_
      refine SXs_nilK (fr' := [(8, _), (10, _), (13, _), (23, _), (24, _), (25, _), (36, _)]) rfl ?_
      refine KSs_wp ?_
      refine WPs_cond rfl (fun hc3 => ?_) (fun hc3 => ?_)
      · (exfalso; (cases hc3; done))
      · simp only [decide_eq_true_eq, Bool.not_eq_false'] at hc3
        refine WPs_skip ?_
        refine KSs_wp ?_
        refine WPs_regionK [8, 10, 23, 24, 25] ?_
        refine s_move rfl rfl ?_
        refine s_loadN Tryz.isAgg44 Tryz.sizeOf44 (vs := [_, _]) rfl rfl (by exact csin (i := 0) (k := 2) rfl rfl) rfl ?_
        refine s_buildSlice (vs := [(0, _)]) (cs := [_, _]) rfl rfl (buildSlice_one slt_31 rfl rfl (by decide)) (fun b39 => ?_)
        refine s_append (i := 5) slt_31 rfl rfl rfl rfl (by exact pt_RdIn (i := 0) rfl rfl rfl (by omega) (by simp only [maxLen]; omega)) (by ((rfl))) (by ((simp only [maxLen]; omega))) (by ((omega))) (fun va40 vc40 => ?_)
        simp only [List.set_cons_zero, List.set_cons_succ]
        refine s_assign rfl rfl ?_
        refine SXs_nilK (fr' := [(8, _), (10, _), (23, _), (24, _), (25, _)]) rfl ?_
        refine KSs_wp ?_
        refine WPs_regionK [8, 10, 23, 24, 25] ?_
        refine s_add_ok rfl rfl rfl (inR_i64 (by omega) (by omega)) ?_
        refine s_move rfl rfl ?_
        refine SXs_nilK (fr' := [(8, _), (10, _), (23, _), (24, _), (25, _)]) rfl ?_
        exact fun w hS => ⟨(i + 1, _, _), rfl, by
          dsimp only
          rw [← segI_succ he hseq, fileM_succ he, locCs_succ]
          exact hS.sl (by (repeat (first | exact Sl.refl _ | (apply Sl.pick 2; exact rfl) | (apply Sl.pick 3; exact rfl) | refine Sl.skip ?_))), by dsimp only; omega, by dsimp only; omega⟩
    · simp only [decide_eq_false_iff_not] at hc2
      refine WPs_exit rfl ?_
      refine KSs_wp ?_
      refine WPs_seq ?_
      refine WPs_regionK [6, 7] ?_
      refine s_move rfl rfl ?_
      refine s_move rfl rfl ?_
      refine s_assign rfl rfl ?_
      refine s_assign rfl rfl ?_
      refine SXs_nilK (fr' := [(6, _), (7, _)]) rfl ?_
      refine KSs_wp ?_
      refine WPs_ret ?_
      refine RLs_start ?_
      refine RLs_tmp rfl ?_
      refine RLs_tmp rfl ?_
      refine RLs_fin2 ?_
      exact fun w hS => by obtain rfl : i = E.length := (by omega); exact ⟨x, la, lc, rfl, hS.sl (by (repeat ((exact Sl.refl _))))⟩
end Go.Proofs.YthodbnmeggkkoaaGreatDoor
/-
  THE PLAIN LAW OF SegFlip: a segment's bytes with one byte turned.
-/
namespace Go.Proofs.YthodbnmeggkkoaaGreatDoor
open Go Go.RowKit Go.Hb Go.Proofs

theorem encOf_eq (kind : Nat) (r : RecM) : encOf kind r = cov ((cov (hdOf kind r) ++ r.key) ++ r.value) := rfl
theorem hd_length (kind : Nat) (r : RecM) : (cov (hdOf kind r)).length = 21 := by simp [cov_length, hdOf, le_length]

theorem take_split {α : Type} {ys a : List α} {n : Nat} (h : ys.take n = a) : ys = a ++ ys.drop n := by rw [← h, List.take_append_drop]

theorem good_of_take {ys : List UInt8} {r : RecM} {kind : Nat} (hok : recOk r) (hk : r.kind = (kind : Int)) (h : ys.take (rsz r) = encOf kind r) : GoodAt ys r kind := by
  have hsp := take_split h
  have hle : (encOf kind r).length = rsz r := enc_length _ _
  have e1 : ys = cov (hdOf kind r) ++ (r.key ++ (r.value ++ (le (crc ((cov (hdOf kind r) ++ r.key) ++ r.value)) 4 ++ ys.drop (rsz r)))) := by
    conv => lhs; rw [hsp]
    rw [encOf_eq]; simp [cov, List.append_assoc]
  have e21 := hd_length kind r
  refine ⟨⟨_, e1⟩, hok, hk, ?_, ?_, ?_, ?_⟩
  · have := congrArg List.length h
    rw [List.length_take, hle] at this
    omega
  · rw [h, encOf_eq]; exact cov_right _
  · rw [e1, List.drop_left' e21, List.take_left' rfl]
  · rw [e1, ← List.drop_drop, List.drop_left' e21, List.drop_left' rfl, List.take_left' rfl]

theorem half_of_take {ys : List UInt8} {r : RecM} {kind p : Nat} {c : UInt8} (hok : recOk r) (hk : r.kind = (kind : Int)) (hp : p < (encOf kind r).length) (hc : (encOf kind r)[p] ≠ c) (h21 : 21 ≤ p)
    (h : ys.take (rsz r) = (encOf kind r).set p c) : HalfAt ys r kind := by
  have hsp := take_split h
  have e21 := hd_length kind r
  refine ⟨?_, hok, hk, fun _ => ?_⟩
  · have e1 : encOf kind r = cov (hdOf kind r) ++ (r.key ++ (r.value ++ le (crc ((cov (hdOf kind r) ++ r.key) ++ r.value)) 4)) := by rw [encOf_eq]; simp [cov, List.append_assoc]
    rw [hsp, e1, List.set_append, if_neg (by omega), List.append_assoc]
    exact ⟨_, rfl⟩
  · rw [h]; exact flip_seen hp hc

theorem bad_of_take {ys : List UInt8} {r : RecM} {kind p : Nat} {c : UInt8} (hp : p < (encOf kind r).length) (hc : (encOf kind r)[p] ≠ c) (h21 : p < 21)
    (h : ys.take (rsz r) = (encOf kind r).set p c) : ¬ rightP (ys.take 21) := by
  have e21 := hd_length kind r
  have e1 : encOf kind r = cov (hdOf kind r) ++ (r.key ++ (r.value ++ le (crc ((cov (hdOf kind r) ++ r.key) ++ r.value)) 4)) := by rw [encOf_eq]; simp [cov, List.append_assoc]
  have e2 : ys.take 21 = (ys.take (rsz r)).take 21 := by rw [List.take_take, Nat.min_eq_left (by unfold rsz; omega)]
  have e3 : (cov (hdOf kind r))[p]'(by omega) ≠ c := by
    intro hh
    apply hc
    rw [← hh]
    simp only [e1]
    rw [List.getElem_append_left (by omega)]
  rw [e2, h, List.take_set, e1, List.take_left' e21]
  exact flip_seen (by omega) e3

/-- A segment's bytes. -/
def segB (id : Nat) (E : List RE) : List UInt8 := headOf 1 id ++ encs E

theorem encs_append (A B : List RE) : encs (A ++ B) = encs A ++ encs B := by unfold encs; rw [List.flatMap_append]
theorem encs_drop {E : List RE} (i : Nat) : (encs E).drop (encs (E.take i)).length = encs (E.drop i) := by
  conv => lhs; rw [← List.take_append_drop i E]
  rw [encs_append]
  by_cases h : i ≤ E.length
  · rw [List.take_append_of_le_length (by rw [List.length_take]; omega), List.take_take, Nat.min_self, List.drop_left' rfl]
  · rw [List.take_of_length_le (l := E) (by omega), List.drop_of_length_le (by omega : E.length ≤ i), List.append_nil, List.take_of_length_le (l := E) (by omega)]
    simp [encs]
theorem segB_drop {id : Nat} {E : List RE} (i : Nat) : (segB id E).drop (offA E i) = encs (E.drop i) := by
  unfold segB offA
  rw [← List.drop_drop, List.drop_left' (headOf_length 1 id), encs_drop]
theorem segB_length (id : Nat) (E : List RE) : (segB id E).length = offA E E.length := by
  unfold segB offA; rw [List.length_append, headOf_length, List.take_length]
theorem segB_at {id : Nat} {E : List RE} {i : Nat} {e : RE} (h : E[i]? = some e) : ((segB id E).drop (offA E i)).take (rsz e.r) = encE e := by
  obtain ⟨hlt, he⟩ := List.getElem?_eq_some_iff.1 h
  rw [segB_drop, List.drop_eq_getElem_cons hlt, he]
  have : encs (e :: E.drop (i + 1)) = encE e ++ encs (E.drop (i + 1)) := rfl
  rw [this, List.take_left' (encE_length e)]
theorem offA_mono {E : List RE} {i j : Nat} (h : i ≤ j) : offA E i ≤ offA E j := by
  unfold offA
  have e : E.take i = (E.take j).take i := by rw [List.take_take, Nat.min_eq_left h]
  have : encs (E.take j) = encs (E.take i) ++ encs ((E.take j).drop i) := by
    conv => lhs; rw [← List.take_append_drop i (E.take j), ← e, encs_append]
  rw [this, List.length_append]; omega

/-- Byte k lies in record i. -/
def hit (E : List RE) (k i : Nat) : Prop := offA E i ≤ k ∧ k < offA E (i + 1)
instance (E : List RE) (k i : Nat) : Decidable (hit E k i) := by unfold hit; infer_instance

section
variable {id k : Nat} {E : List RE} {c : UInt8}
theorem at_hit {i : Nat} {e : RE} (h : E[i]? = some e) (hh : hit E k i) : (((segB id E).set k c).drop (offA E i)).take (rsz e.r) = (encE e).set (k - offA E i) c := by
  rw [List.drop_set, if_neg (by have := hh.1; omega), List.take_set, segB_at h]
theorem at_miss {i : Nat} {e : RE} (h : E[i]? = some e) (hh : ¬ hit E k i) : (((segB id E).set k c).drop (offA E i)).take (rsz e.r) = encE e := by
  rw [List.drop_set]
  split
  · exact segB_at h
  · rw [List.take_set, segB_at h, List.set_eq_of_length_le]
    rw [encE_length]
    have := offA_succ h
    unfold hit at hh
    omega

theorem byte_hit {i : Nat} {e : RE} (h : E[i]? = some e) (hh : hit E k i) {b : UInt8} (hb : (segB id E)[k]? = some b) (hc : b ≠ c) : ∃ hp : k - offA E i < (encE e).length, (encE e)[k - offA E i] ≠ c := by
  have hs := offA_succ h
  obtain ⟨h1, h2⟩ := hh
  have hp : k - offA E i < (encE e).length := by rw [encE_length]; omega
  refine ⟨hp, ?_⟩
  have e1 : (encE e)[k - offA E i]? = some b := by
    rw [← segB_at (id := id) h, List.getElem?_take, if_pos (by omega), List.getElem?_drop, show offA E i + (k - offA E i) = k by omega]
    exact hb
  rw [List.getElem?_eq_getElem hp] at e1
  rw [Option.some.inj e1]
  exact hc

theorem miss_head (hk : 16 ≤ k) : ((segB id E).set k c).take 16 = headOf 1 id := by
  rw [List.take_set]
  unfold segB
  rw [List.take_left' (headOf_length 1 id), List.set_eq_of_length_le (by rw [headOf_length]; omega)]
theorem hit_head (hk : k < 16) {b : UInt8} (hb : (segB id E)[k]? = some b) (hc : b ≠ c) : ¬ rightP (((segB id E).set k c).take 16) := by
  have hl := headOf_length 1 id
  rw [List.take_set]
  unfold segB at hb ⊢
  rw [List.take_left' hl]
  rw [List.getElem?_append_left (by omega), List.getElem?_eq_getElem (by omega)] at hb
  exact flip_seen (by unfold headOf at hl; omega) (by rw [show (cov _)[k] = b from Option.some.inj hb]; exact hc)

theorem read_take {xs : List UInt8} {i : Nat} {e : RE} (h : E[i]? = some e) (hok : recOk e.r) (hl : xs.length = offA E E.length) : (readB xs xs.length (offA E i)).take (rsz e.r) = (xs.drop (offA E i)).take (rsz e.r) := by
  have h1 := rsz_le hok
  have h2 := offA_succ h
  have h3 := offA_mono (E := E) (i := i + 1) (j := E.length) (List.getElem?_eq_some_iff.1 h).1
  unfold readB readN
  rw [List.take_take, Nat.min_eq_left (by omega)]

/-- What a scan may find: records of E, each at its place. -/
def Of (E : List RE) (fs : List (RecM × Nat)) : Prop := ∀ p ∈ fs, ∃ j e, E[j]? = some e ∧ p = (e.r, offA E j)

theorem scan_law {g : World} (hE : Numb g E) {b : UInt8} (hb : (segB id E)[k]? = some b) (hc : b ≠ c) :
    ∀ d i, i + d = E.length → ∀ last, last ≤ i → ∃ fs e y, SC ((segB id E).set k c) (offA E i) last fs e y ∧ Of E fs := by
  have hlen : ((segB id E).set k c).length = offA E E.length := by rw [List.length_set, segB_length]
  intro d
  induction d with
  | zero =>
    intro i hi last _
    obtain rfl : i = E.length := by omega
    exact ⟨[], _, _, .done hlen.symm, fun p h => by cases h⟩
  | succ d ih =>
    intro i hi last hlast
    obtain ⟨e, he⟩ : ∃ e, E[i]? = some e := ⟨_, List.getElem?_eq_getElem (by omega)⟩
    obtain ⟨hok, hseq, _⟩ := hE.2 i e he
    have hs := offA_succ he
    have hm := offA_mono (E := E) (i := i + 1) (j := E.length) (by omega)
    have hrz := rsz_ge hok
    have hle := offA_le hE (i := i) (by omega)
    have hpos : offA E i < ((segB id E).set k c).length := by omega
    have hdl : (((segB id E).set k c).drop (offA E i)).length = offA E E.length - offA E i := by rw [List.length_drop, hlen]
    by_cases hh : hit E k i
    · have ht := at_hit (id := id) (c := c) he hh
      obtain ⟨hp, hne⟩ := byte_hit he hh hb hc
      by_cases h21 : k - offA E i < 21
      · exact ⟨[], _, _, .bad hpos (by omega) (by omega) (bad_of_take hp hne h21 ht), fun p h => by cases h⟩
      · obtain ⟨fs, e', y, h1, h2⟩ := ih (i + 1) (by omega) last (by omega)
        rw [hs] at h1
        exact ⟨fs, e', y, .passed hpos (by omega) (half_of_take hok (kN_eq hok) hp hne (by omega) ht) (by omega) h1, h2⟩
    · obtain ⟨fs, e', y, h1, h2⟩ := ih (i + 1) (by omega) e.r.seq (by omega)
      rw [hs] at h1
      refine ⟨(e.r, offA E i) :: fs, e', y, .found hpos (by omega) (good_of_take hok (kN_eq hok) (at_miss he hh)) (by omega) h1, fun p hp => ?_⟩
      rcases List.mem_cons.1 hp with rfl | hp
      · exact ⟨i, e, he, rfl⟩
      · exact h2 p hp

theorem read_good {g : World} (hE : Numb g E) {i : Nat} {e : RE} (he : E[i]? = some e) (hh : ¬ hit E k i) : GoodAt (readB ((segB id E).set k c) ((segB id E).set k c).length (offA E i)) e.r (kN e.r) := by
  obtain ⟨hok, _, _⟩ := hE.2 i e he
  exact good_of_take hok (kN_eq hok) (by rw [read_take he hok (by rw [List.length_set, segB_length]), at_miss he hh]; rfl)

theorem read_bad {g : World} (hH : HalfG g) (hSz : SizesG g) (hE : Numb g E) {i : Nat} {e : RE} (he : E[i]? = some e) (hh : hit E k i) {b : UInt8} (hb : (segB id E)[k]? = some b) (hc : b ≠ c) (G : List HP) (v : Value)
    (hR : RdB g G v (readB ((segB id E).set k c) ((segB id E).set k c).length (offA E i))) :
    RCs Tryz.prog 36 [v] g G (fun u w => ∃ sz e : Int, u = .tuple #[.agg [.int .u64 0, .int .i64 0, .slice none 0 0, .slice none 0 0, .int .u32 0, .int .u32 0].toArray, .int .i64 sz, .int .i64 e] ∧ e ≠ 0 ∧ St g w G) := by
  obtain ⟨hok, _, _⟩ := hE.2 i e he
  have hlen : ((segB id E).set k c).length = offA E E.length := by rw [List.length_set, segB_length]
  have ht : (readB ((segB id E).set k c) ((segB id E).set k c).length (offA E i)).take (rsz e.r) = (encE e).set (k - offA E i) c := by rw [read_take he hok hlen, at_hit he hh]
  obtain ⟨hp, hne⟩ := byte_hit he hh hb hc
  have hl : rsz e.r ≤ (readB ((segB id E).set k c) ((segB id E).set k c).length (offA E i)).length := by
    have := congrArg List.length ht
    simp only [List.length_take, List.length_set, encE_length] at this ⊢
    omega
  by_cases h21 : k - offA E i < 21
  · exact (get_bad hH hR (.inr (bad_of_take hp hne h21 ht))).mono fun u w ⟨e, h1, h2, _, h3⟩ => ⟨0, e, h1, by omega, h3⟩
  · have hh := half_of_take hok (kN_eq hok) hp hne (by omega) ht
    obtain ⟨t, ht⟩ := hh.t
    exact (get_half hH hSz hR ht hok (kN_eq hok) (fun h => hh.hr h)).mono fun u w ⟨sz, e, h1, h2, _, h3⟩ => ⟨sz, e, h1, by have := (h2 hl).2; omega, h3⟩
end
end Go.Proofs.YthodbnmeggkkoaaGreatDoor
/-
  What the walk of SegFlip leans on.
-/
namespace Go.Proofs.YthodbnmeggkkoaaGreatDoor
open Go Go.RowKit Go.Hb Go.Proofs

theorem shl8 (b : Nat) (h : b < 8) : ∃ bits : UInt8, bits ≠ 0 ∧ IntKind.u8.wrap (1 * 2 ^ min ((b : Int)).toNat IntKind.u8.bits) = (bits.toNat : Int) := by
  match b, h with
  | 0, _ => exact ⟨1, by decide, by rfl⟩
  | 1, _ => exact ⟨2, by decide, by rfl⟩
  | 2, _ => exact ⟨4, by decide, by rfl⟩
  | 3, _ => exact ⟨8, by decide, by rfl⟩
  | 4, _ => exact ⟨16, by decide, by rfl⟩
  | 5, _ => exact ⟨32, by decide, by rfl⟩
  | 6, _ => exact ⟨64, by decide, by rfl⟩
  | 7, _ => exact ⟨128, by decide, by rfl⟩
theorem xor_ne (c bits : UInt8) (h : bits ≠ 0) : c ≠ c ^^^ bits := fun e => h (by
  have h2 : c ^^^ (c ^^^ bits) = c ^^^ c := by rw [← e]
  rw [← UInt8.xor_assoc, UInt8.xor_self, UInt8.zero_xor] at h2
  exact h2)
theorem fileM_now (id : Nat) (E : List RE) : (fileM id E E.length).now = segB id E := by
  show headOf 1 id ++ encs (E.take E.length) = _
  rw [List.take_length]; rfl
theorem locCs_drop (id : Nat) (E : List RE) (n i : Nat) (h : i < n) : ((locCs id E n).drop (i * 2)).take 2 = [.int .u32 (id : Int), .int .u32 (offA E i : Int)] := by
  induction n with
  | zero => omega
  | succ n ih =>
    rw [locCs_succ]
    have hl := locCs_length id E n
    rcases Nat.lt_or_ge i n with h1 | h1
    · rw [List.drop_append_of_le_length (by omega), List.take_append_of_le_length (by rw [List.length_drop]; omega)]
      exact ih h1
    · obtain rfl : i = n := by omega
      rw [List.drop_left' hl]
      rfl

/-- How many of the first i records byte k lies in. -/
def goneN (E : List RE) (k i : Nat) : Nat := if 16 ≤ k ∧ k < offA E i then 1 else 0
theorem offA_16 (E : List RE) (i : Nat) : 16 ≤ offA E i := by unfold offA; omega
theorem gone_hit {E : List RE} {k i : Nat} (h : hit E k i) : goneN E k (i + 1) = goneN E k i + 1 := by
  have := offA_16 E i
  unfold hit at h
  unfold goneN
  rw [if_pos (by omega), if_neg (by omega)]
theorem gone_miss {E : List RE} {k i : Nat} (h : ¬ hit E k i) : goneN E k (i + 1) = goneN E k i := by
  have := offA_mono (E := E) (i := i) (j := i + 1) (by omega)
  unfold hit at h
  unfold goneN
  by_cases h1 : 16 ≤ k ∧ k < offA E i
  · rw [if_pos (by omega), if_pos h1]
  · rw [if_neg (by omega), if_neg h1]
theorem gone_le (E : List RE) (k i : Nat) : goneN E k i ≤ 1 := by unfold goneN; split <;> omega
theorem gone_zero {E : List RE} {k : Nat} : goneN E k 0 = 0 := by
  unfold goneN offA encs
  rw [if_neg]
  simp
theorem gone_end {E : List RE} {k : Nat} (h : k < offA E E.length) : goneN E k E.length = if 16 ≤ k then 1 else 0 := by
  unfold goneN
  by_cases h1 : 16 ≤ k
  · rw [if_pos ⟨h1, h⟩, if_pos h1]
  · rw [if_neg (by omega), if_neg h1]

section
variable {g : World} {k : Nat} {E : List RE} {b c : UInt8}

/-- Read at the place of record i. -/
theorem read_any {F : List HP} {x f id many first last safe : Nat} {q : Int} {ph : Bool} {nm : ByteArray} {s0 : List UInt8} {ds : List FDeed} (hH : HalfG g) (hSz : SizesG g) (hn : NameOk g id nm) (hm : MayOk nm) (hE : Numb g E)
    (hb : (segB id E)[k]? = some b) (hc : b ≠ c) {i : Nat} {e : RE} (he : E[i]? = some e) :
    RCs Tryz.prog 13 [.pointer (some ⟨x, 0, none⟩), .agg [.int .u32 (id : Int), .int .u32 (offA E i : Int)].toArray] g (segP x f id (offA E E.length) many first last safe :: FsR ph f nm q ⟨s0, (segB id E).set k c, ds⟩ :: F)
      (fun u w => ∃ (r : RecM) (ka : Option Addr) (kc : Nat) (va : Option Addr) (vc : Nat) (z : Int), u = .tuple #[.agg [.int .u64 (r.seq : Int), .int .i64 r.kind, .slice ka r.key.length kc, .slice va r.value.length vc, .int .u32 (r.ps : Int), .int .u32 (r.po : Int)].toArray, .int .i64 z] ∧
        (hit E k i → z = 36) ∧ (¬ hit E k i → z = 0 ∧ r = e.r) ∧
        St g w (ownB (.slice ka r.key.length kc) r.key :: ownB (.slice va r.value.length vc) r.value :: segP x f id (offA E E.length) many first last safe :: FsR ph f nm q ⟨s0, (segB id E).set k c, ds⟩ :: F)) := by
  have hlen : ((segB id E).set k c).length = offA E E.length := by rw [List.length_set, segB_length]
  obtain ⟨hok, _, _⟩ := hE.2 i e he
  have hi := (List.getElem?_eq_some_iff.1 he).1
  have h1 := offA_succ he
  have h2 := offA_mono (E := E) (i := i + 1) (j := E.length) hi
  have h3 := offA_le hE (i := E.length) (Nat.le_refl _)
  have h4 := rsz_ge hok
  have h5 := offA_16 E i
  by_cases hh : hit E k i
  · have h := seg_read_bad (F := F) (x := x) (f := f) (id := id) (size := offA E E.length) (many := many) (first := first) (last := last) (safe := safe) (off := offA E i) (q := q) (ph := ph) (nm := nm) (m := ⟨s0, (segB id E).set k c, ds⟩) hH hSz hn hm (by show ((segB id E).set k c).length ≤ _; omega) hlen.symm (by omega) h5 (by omega)
      (fun G v hR => read_bad hH hSz hE he hh hb hc G v (by rw [hlen]; exact hR))
    exact h.mono fun u w ⟨h1, h2⟩ => ⟨⟨0, 0, [], [], 0, 0⟩, none, 0, none, 0, 36, h1, fun _ => rfl, fun h => absurd hh h, own_nil_in (T := 5) (k := 1) (own_nil_in (T := 5) (k := 1) h2)⟩
  · have h := seg_read_ok (F := F) (x := x) (f := f) (id := id) (size := offA E E.length) (many := many) (first := first) (last := last) (safe := safe) (off := offA E i) (q := q) (ph := ph) (nm := nm) (m := ⟨s0, (segB id E).set k c, ds⟩) (r := e.r) (kind := kN e.r) hH hSz hn hm (by show ((segB id E).set k c).length ≤ _; omega) hlen.symm (by omega) h5 (by omega)
      (by have := read_good (id := id) (c := c) hE he hh; rw [hlen] at this; exact this)
    exact h.mono fun u w ⟨ka, kc, va, vc, h1, h2⟩ => ⟨e.r, ka, kc, va, vc, 0, h1, fun h => absurd h hh, fun _ => ⟨rfl, rfl⟩, h2⟩

/-- The scan. -/
theorem of_any {id : Nat} (hH : HalfG g) (hSz : SizesG g) (hE : Numb g E) (h1 : 1 ≤ id) (h2 : id ≤ 16777215) (hb : (segB id E)[k]? = some b) (hc : b ≠ c) :
    ∃ fs e' y', (∀ (G : List HP) (v : Value), RdB g G v ((segB id E).set k c) → RCs Tryz.prog 40 [.int .u32 (id : Int), v] g G (OfPost g id fs e' y' G)) ∧ Of E fs ∧ (k < 16 → y' = 23) := by
  have hlen : ((segB id E).set k c).length = offA E E.length := by rw [List.length_set, segB_length]
  have h5 := offA_16 E E.length
  by_cases h16 : k < 16
  · exact ⟨[], 0, 23, fun G v hR => of_bad hH hR (by omega) (hit_head h16 hb hc), (fun p h => by cases h), fun _ => rfl⟩
  · obtain ⟨fs, e', y', hsc, hof⟩ := scan_law (id := id) hE hb hc E.length 0 (by omega) 0 (Nat.le_refl _)
    have h0 : offA E 0 = 16 := by simp [offA, encs]
    rw [h0] at hsc
    exact ⟨fs, e', y', fun G v hR => of_spec hH hSz hR (by omega) (.inr ⟨rfl, h1, h2⟩) (miss_head (by omega)) hsc, hof, fun h => absurd h h16⟩
end

/-- The key and the value of an entry that was found. -/
theorem kv_rd {g : World} {L : List HP} {G : List FE} {i : Nat} {e : FE} (he : G[i]? = some e) (hne : ∃ w, St g w (grp (kvL G) :: L)) :
    RdB g (grp (kvL G) :: L) (.slice e.ka e.r.key.length e.kc) e.r.key ∧ RdB g (grp (kvL G) :: L) (.slice e.va e.r.value.length e.vc) e.r.value := by
  obtain ⟨w, hw⟩ := hne
  have h0 : ∃ w, St g w (kvL G ++ L) := ⟨w, hw.ungrp⟩
  have hk : ∀ (G : List FE) (i : Nat), G[i]? = some e → (kvL G)[2 * i]? = some (ownB (.slice e.ka e.r.key.length e.kc) e.r.key) ∧ (kvL G)[2 * i + 1]? = some (ownB (.slice e.va e.r.value.length e.vc) e.r.value) := by
    intro G
    induction G with
    | nil => intro i h; simp at h
    | cons e' G ih =>
      intro i h
      cases i with
      | zero => simp at h; subst h; exact ⟨rfl, rfl⟩
      | succ i =>
        have h' : G[i]? = some e := by simpa using h
        have := ih i h'
        have e1 : kvL (e' :: G) = ownB (.slice e'.ka e'.r.key.length e'.kc) e'.r.key :: ownB (.slice e'.va e'.r.value.length e'.vc) e'.r.value :: kvL G := rfl
        rw [e1]
        exact ⟨by rw [show 2 * (i + 1) = 2 * i + 1 + 1 by omega]; simpa using this.1, by rw [show 2 * (i + 1) + 1 = (2 * i + 1) + 1 + 1 by omega]; simpa using this.2⟩
  obtain ⟨h1, h2⟩ := hk G i he
  have lt : ∀ {q p : Nat} {X : HP}, (kvL G)[p]? = some X → (kvL G ++ L)[p]? = some X := fun {q p X} h => by
    rw [List.getElem?_append_left (List.getElem?_eq_some_iff.1 h).1]; exact h
  exact ⟨RdIn.mono (own_RdIn (lt (q := 0) h1) h0) (fun w s => s.ungrp), RdIn.mono (own_RdIn (lt (q := 0) h2) h0) (fun w s => s.ungrp)⟩
theorem SXs_kv {P : Program} {n : Nat} {fr : Fr} {g : World} {L : List HP} {K : Fr → World → Prop} {X : Ks} {ops : Array Oper} {l : List Oper} {G : List FE} {i : Nat} {e : FE} (he : G[i]? = some e)
    (h : RdB g (grp (kvL G) :: L) (.slice e.ka e.r.key.length e.kc) e.r.key → RdB g (grp (kvL G) :: L) (.slice e.va e.r.value.length e.vc) e.r.value → SXs P n ops l fr g (grp (kvL G) :: L) K X) : SXs P n ops l fr g (grp (kvL G) :: L) K X :=
  fun w hw => let ⟨h1, h2⟩ := kv_rd he ⟨w, hw⟩; h h1 h2 w hw
end Go.Proofs.YthodbnmeggkkoaaGreatDoor
/-
  SegFlip: the walk.
-/
namespace Go.Proofs.YthodbnmeggkkoaaGreatDoor
open Go Go.RowKit Go.Hb Go.Proofs

set_option maxHeartbeats 8000000 in
theorem segFlip_spec {g : World} {I : List RE} {a : Option Addr} {cap pos bit : Nat} (hT : TabsG g) (hI : RdIn g [] (.slice a I.length cap) 6 I.length (rflat I)) (hk : ∀ e ∈ I, ReOk g e) (hpos : pos < 65536) (hbit : bit < 256) :
    RCs Tryz.prog 3 [.slice a I.length cap, .int .u16 (pos : Int), .int .u8 (bit : Int)] g [] (fun u w => u = .bool true ∧ St g w []) := by
  refine RCs_of_WPs Tryz.func3 rfl Tryz.ntmps3 rfl Tryz.results3 ?_
  refine WPs_seq ?_
  refine WPs_regionK [0, 1, 2] ?_
  refine s_assign rfl rfl ?_
  refine SXs_nilK (fr' := [(0, _), (1, _), (2, _)]) rfl ?_
  refine KSs_wp ?_
  refine WPs_seq ?_
  refine WPs_regionK [0, 1, 2] ?_
  refine s_move rfl rfl ?_
  refine s_call Tryz.call5 rfl (vs := [_]) rfl (RCs.perm (by (repeat ((exact List.Perm.refl _)))) (numbered_spec hI hk)) ?_
  rintro v w ⟨E, ea, ec, rfl, hE, hS⟩
  refine SXs_go hS ?_
  clear hS; clear w
  simp only [putF]
  refine s_assign rfl rfl ?_
  refine SXs_nilK (fr' := [(0, _), (1, _), (2, _)]) rfl ?_
  refine KSs_wp ?_
  refine WPs_seq ?_
  refine WPs_regionK [0, 1, 2, 7, 8] ?_
  refine SXs_rd (T := 46) 0 rfl (fun hRec => ?_)
  have hmx := hE.1
  refine s_call Tryz.call6 rfl (vs := [_]) rfl (RCs.perm (by (repeat ((exact List.Perm.refl _)))) (fs_new (q := 1073741824) (by omega) (by omega))) ?_
  rintro v w ⟨f, rfl, hS⟩
  refine SXs_go hS ?_
  clear hS; clear w
  simp only [putF]
  refine s_move rfl rfl ?_
  refine s_extract rfl rfl rfl ?_
  refine s_extract rfl rfl rfl ?_
  refine s_assign rfl rfl ?_
  refine s_assign rfl rfl ?_
  refine SXs_nilK (fr' := [(0, _), (1, _), (2, _), (7, _), (8, _)]) rfl ?_
  refine KSs_wp ?_
  refine WPs_seq ?_
  refine WPs_seq ?_
  refine WPs_regionK [0, 1, 2, 7, 32] ?_
  refine s_call Tryz.call7 rfl (vs := []) rfl (RCs.perm (by (repeat ((exact List.Perm.refl _)))) (wakes_spec hT)) ?_
  rintro v w ⟨rfl, hS⟩
  refine SXs_go hS ?_
  clear hS; clear w
  simp only [putF]
  refine s_not rfl rfl ?_
  refine s_move rfl rfl ?_
  refine s_guard rfl rfl rfl (fun hc1 => ?_) (fun hc1 => ?_)
  · simp only [Bool.not_true] at hc1
    refine s_move rfl rfl ?_
    refine s_guard_t2 rfl rfl (by ((rfl))) rfl ?_
    refine s_neq rfl rfl rfl ?_
    refine s_pick_f rfl rfl rfl ?_
    refine SXs_nilK (fr' := [(0, _), (1, _), (2, _), (7, _), (32, _)]) rfl ?_
    refine KSs_wp ?_
    refine WPs_cond rfl (fun hc2 => ?_) (fun hc2 => ?_)
    · (exfalso; (cases hc2; done))
    · simp only [decide_eq_true_eq, Bool.not_eq_false'] at hc2
      refine WPs_skip ?_
      refine KSs_wp ?_
      refine WPs_seq ?_
      refine WPs_regionK [0, 1, 2, 7, 9, 10] ?_
      refine s_move rfl rfl ?_
      refine s_move rfl rfl ?_
      refine s_call Tryz.call8 rfl (vs := [_, _, _]) rfl (RCs.perm (by (repeat ((exact List.Perm.refl _)))) (lawLaid_spec (id := 7) (q := 1073741824) hT.half hT.sizes (nameOk7 hT) mayOk7 (by omega) (by omega) (by omega) (by omega) hE hRec)) ?_
      rintro v w ⟨x, la, lc, rfl, hS⟩
      refine SXs_go hS ?_
      clear hS; clear w
      simp only [putF]
      refine s_move rfl rfl ?_
      refine s_extract rfl rfl rfl ?_
      refine s_extract rfl rfl rfl ?_
      refine s_assign rfl rfl ?_
      refine s_assign rfl rfl ?_
      refine SXs_nilK (fr' := [(0, _), (1, _), (2, _), (7, _), (9, _), (10, _)]) rfl ?_
      refine KSs_wp ?_
      refine WPs_seq ?_
      refine WPs_seq ?_
      refine WPs_regionK [0, 1, 2, 7, 9, 10, 45] ?_
      have hoA := offA_le hE (i := E.length) (Nat.le_refl _)
      have hoB := offA_16 E E.length
      have hfl := fileM_length 7 E E.length
      refine s_move rfl rfl ?_
      refine s_eqlV rfl rfl rfl (eq_ptr_nil_some Tryz.underlying30) ?_
      refine s_move rfl rfl ?_
      refine s_guard rfl rfl rfl (fun hc3 => ?_) (fun hc3 => ?_)
      · simp only [decide_eq_true_eq] at hc3
        refine s_move rfl rfl ?_
        refine s_guard_t2 rfl rfl (by ((rfl))) rfl ?_
        refine s_call Tryz.call9 rfl (vs := [_]) rfl (RCs.perm (by (repeat ((exact List.Perm.refl _)))) (seg_sync (nm := nm7) (nameOk7 hT) mayOk7 (by omega))) ?_
        rintro v w ⟨rfl, hS⟩
        refine SXs_go hS ?_
        clear hS; clear w
        simp only [putF]
        refine s_guard_t2 rfl rfl (by ((rfl))) rfl ?_
        refine s_neq rfl rfl rfl ?_
        refine s_pick_f rfl rfl rfl ?_
        refine SXs_nilK (fr' := [(0, _), (1, _), (2, _), (7, _), (9, _), (10, _), (45, _)]) rfl ?_
        refine KSs_wp ?_
        refine WPs_cond rfl (fun hc4 => ?_) (fun hc4 => ?_)
        · (exfalso; (cases hc4; done))
        · simp only [decide_eq_true_eq, Bool.not_eq_false'] at hc4
          refine WPs_skip ?_
          refine KSs_wp ?_
          refine WPs_seq ?_
          refine WPs_regionK [0, 2, 7, 9, 10, 11] ?_
          rw [fileM_now]
          refine SXs_rd (T := 44) 2 rfl (fun hLoc => ?_)
          refine s_move rfl rfl ?_
          refine s_conv_ok Tryz.underlying23 Tryz.underlying3 rfl rfl (inR_i64 (by omega) (by omega)) ?_
          refine s_move rfl rfl ?_
          refine s_call Tryz.call10 rfl (vs := [_]) rfl (RCs.perm (by (repeat ((exact List.Perm.refl _)))) (seg_seal)) ?_
          rintro v w ⟨rfl, hS⟩
          refine SXs_go hS ?_
          clear hS; clear w
          simp only [putF]
          refine s_field rfl rfl ((fv_38_1).v rfl) ?_
          refine s_conv_ok Tryz.underlying34 Tryz.underlying3 rfl rfl (inR_i64 (by omega) (by omega)) ?_
          refine s_rem (c := ((pos % offA E E.length : Nat) : Int)) rfl rfl rfl (by omega) (Int.ofNat_tmod _ _).symm ?_
          have hklt : pos % offA E E.length < offA E E.length := Nat.mod_lt _ (by omega)
          generalize pos % offA E E.length = k at hklt ⊢
          obtain ⟨b, hb⟩ : ∃ b, (segB 7 E)[k]? = some b := ⟨_, List.getElem?_eq_getElem (by rw [segB_length]; exact hklt)⟩
          obtain ⟨bits, hbits, hshl⟩ := shl8 (bit % 8) (Nat.mod_lt _ (by omega))
          have hne := xor_ne b bits hbits
          obtain ⟨fs, e', y', hOf, hFs, hy⟩ := of_any (id := 7) hT.half hT.sizes hE (by omega) (by omega) hb hne
          refine s_assign rfl rfl ?_
          refine SXs_nilK (fr' := [(0, _), (2, _), (7, _), (9, _), (10, _), (11, _)]) rfl ?_
          refine KSs_wp ?_
          refine WPs_seq ?_
          refine WPs_seq ?_
          refine WPs_regionK [0, 7, 9, 10, 11, 60] ?_
          refine s_move rfl rfl ?_
          refine s_call Tryz.call12 rfl (vs := [_]) rfl (RCs.perm (by (repeat ((exact List.Perm.refl _)))) (nameOk7 hT _)) ?_
          rintro v w ⟨rfl, hS⟩
          refine SXs_go hS ?_
          clear hS; clear w
          simp only [putF]
          refine s_move rfl rfl ?_
          refine s_move rfl rfl ?_
          refine s_rem (c := ((bit % 8 : Nat) : Int)) rfl rfl rfl (by omega) (Int.ofNat_tmod _ _).symm ?_
          refine s_shl (c := (bits.toNat : Int)) rfl rfl rfl (by omega) hshl ?_
          refine s_call Tryz.call11 rfl (vs := [_, _, _, _]) rfl (RCs.perm (by (repeat (first | exact List.Perm.refl _ | (apply pick 1; exact rfl)))) (fs_flip (at_ := k) (bits := bits) (c := b) (m := ⟨segB 7 E, segB 7 E, []⟩) mayOk7 (by show (segB 7 E).length ≤ _; rw [segB_length]; omega) (by show k < (segB 7 E).length; rw [segB_length]; exact hklt) hb rfl)) ?_
          rintro v w ⟨rfl, hS⟩
          refine SXs_go hS ?_
          clear hS; clear w
          simp only [List.eraseIdx_cons_zero, List.eraseIdx_cons_succ, putF]
          refine s_neq rfl rfl rfl ?_
          refine SXs_nilK (fr' := [(0, _), (7, _), (9, _), (10, _), (11, _), (60, _)]) rfl ?_
          refine KSs_wp ?_
          refine WPs_cond rfl (fun hc5 => ?_) (fun hc5 => ?_)
          · (exfalso; (cases hc5; done))
          · simp only [decide_eq_true_eq, Bool.not_eq_false'] at hc5
            refine WPs_skip ?_
            refine KSs_wp ?_
            refine WPs_seq ?_
            refine WPs_regionK [0, 7, 9, 10, 11, 12] ?_
            refine s_assign rfl rfl ?_
            refine SXs_nilK (fr' := [(0, _), (7, _), (9, _), (10, _), (11, _), (12, _)]) rfl ?_
            refine KSs_wp ?_
            refine WPs_seq ?_
            refine WPs_seq ?_
            refine WPs_regionK [0, 7, 9, 10, 11, 12, 61, 62, 63] ?_
            refine s_move rfl rfl ?_
            refine s_len rfl Tryz.underlying22 rfl rfl ?_
            refine s_move rfl rfl ?_
            refine SXs_nilK (fr' := [(0, _), (7, _), (9, _), (10, _), (11, _), (12, _), (61, _), (62, _), (63, _)]) rfl ?_
            refine KSs_wp ?_
            refine WPs_block ?_
            refine WPs_loopS (ks := [63, 12, 0, 7, 9, 10, 11, 61, 62]) (fun ((i, gn) : (Nat) × (Nat)) => [(63, .int .i64 (i : Int)), (12, .int .i64 (gn : Int))]) (fun ((i, gn) : (Nat) × (Nat)) => segI x f 7 E E.length E.length :: FsR true f nm7 1073741824 ⟨(segB 7 E).set k (b ^^^ bits), (segB 7 E).set k (b ^^^ bits), []⟩ :: own 44 2 (.slice la E.length lc) E.length (locCs 7 E E.length) :: own 46 6 (.slice ea E.length ec) E.length (rflat E) :: []) (fun ((i, gn) : (Nat) × (Nat)) => i ≤ E.length ∧ gn = goneN E k i) (fun ((i, gn) : (Nat) × (Nat)) => E.length - i) ((0, 0)) rfl (fun w hS => hS.perm (by (repeat (first | exact List.Perm.refl _ | (apply pick 1; exact rfl))))) (⟨Nat.zero_le _, gone_zero.symm⟩) ?_
            rintro ⟨i, gn⟩ hok
            dsimp only [List.cons_append, List.nil_append] at hok ⊢
            refine WPs_seq ?_
            refine WPs_regionK [0, 7, 9, 10, 11, 12, 61, 62, 63, 64] ?_
            refine s_lss rfl rfl rfl ?_
            refine SXs_nilK (fr' := [(0, _), (7, _), (9, _), (10, _), (11, _), (12, _), (61, _), (62, _), (63, _), (64, _)]) rfl ?_
            refine KSs_wp ?_
            refine WPs_seq ?_
            refine WPs_cond rfl (fun hc6 => ?_) (fun hc6 => ?_)
            · simp only [decide_eq_true_eq] at hc6
              refine WPs_skip ?_
              refine KSs_wp ?_
              refine WPs_seq ?_
              refine WPs_block ?_
              refine WPs_seq ?_
              refine WPs_regionK [0, 7, 9, 10, 11, 12, 13, 14, 61, 62, 63] ?_
              have hi : i < E.length := by omega
              obtain ⟨e, he⟩ : ∃ e, E[i]? = some e := ⟨_, List.getElem?_eq_getElem hi⟩
              have hre := (hE.2 i e he).2.2
              refine SXs_rd (T := 44) 2 rfl (fun hLoc => ?_)
              refine SXs_rd (T := 46) 3 rfl (fun hRec => ?_)
              refine s_move rfl rfl ?_
              refine s_idxRd slt_22 rfl rfl hRec rfl (by omega) (by omega) (fun b66 o66 hc66 => ?_)
              refine s_loadN Tryz.isAgg46 Tryz.sizeOf46 (vs := reCs e) rfl rfl (by rw [Int.toNat_natCast, rflat_at he] at hc66; exact hc66) rfl ?_
              refine s_alloc Tryz.zeroValue46 (cl := [_, _, _, _, _, _]) rfl rfl (fun b14 => ?_)
              refine s_assign rfl rfl ?_
              refine s_store (i := 0) Tryz.sizeOf46 rfl rfl rfl (vs := [_, _, _, _, _, _]) rfl rfl rfl rfl ?_
              simp only [List.set_cons_zero, List.set_cons_succ, spl]
              refine SXs_nilK (fr' := [(0, _), (7, _), (9, _), (10, _), (11, _), (12, _), (13, _), (14, _), (61, _), (62, _), (63, _)]) rfl ?_
              refine KSs_wp ?_
              refine WPs_seq ?_
              refine WPs_regionK [0, 7, 9, 10, 11, 12, 14, 15, 16, 61, 62, 63] ?_
              refine s_move rfl rfl ?_
              refine s_move rfl rfl ?_
              refine s_move rfl rfl ?_
              refine s_idxRd slt_31 rfl rfl hLoc.cons rfl (by omega) (by omega) (fun b72 o72 hc72 => ?_)
              refine s_loadN Tryz.isAgg44 Tryz.sizeOf44 (vs := [.int .u32 7, .int .u32 (offA E i : Int)]) rfl rfl (by rw [Int.toNat_natCast, locCs_drop 7 E _ _ hi] at hc72; exact hc72) rfl ?_
              refine s_call Tryz.call13 rfl (vs := [_, _]) rfl (RCs.perm (by (repeat (first | exact List.Perm.refl _ | (apply pick 1; exact rfl)))) (read_any (nm := nm7) hT.half hT.sizes (nameOk7 hT) mayOk7 hE hb hne he)) ?_
              rintro v w ⟨r', ka, kc, va, vc, z, rfl, hZ, hM, hS⟩
              refine SXs_go hS ?_
              clear hS; clear w
              simp only [List.eraseIdx_cons_zero, List.eraseIdx_cons_succ, putF]
              refine s_move rfl rfl ?_
              refine s_extract rfl rfl rfl ?_
              refine s_extract rfl rfl rfl ?_
              refine s_alloc Tryz.zeroValue46 (cl := [_, _, _, _, _, _]) rfl rfl (fun b15 => ?_)
              refine s_store (i := 0) Tryz.sizeOf46 rfl rfl rfl (vs := [_, _, _, _, _, _]) rfl rfl rfl rfl ?_
              simp only [List.set_cons_zero, List.set_cons_succ, spl]
              refine s_assign rfl rfl ?_
              refine SXs_nilK (fr' := [(0, _), (7, _), (9, _), (10, _), (11, _), (12, _), (14, _), (15, _), (16, _), (61, _), (62, _), (63, _)]) rfl ?_
              refine KSs_wp ?_
              refine WPs_block ?_
              refine WPs_seq ?_
              refine WPs_regionK [0, 7, 9, 10, 11, 12, 14, 15, 16, 61, 62, 63, 77] ?_
              refine s_move rfl rfl ?_
              refine s_eql rfl rfl rfl ?_
              refine s_assign rfl rfl ?_
              refine SXs_nilK (fr' := [(0, _), (7, _), (9, _), (10, _), (11, _), (12, _), (14, _), (15, _), (16, _), (61, _), (62, _), (63, _), (77, _)]) rfl ?_
              refine KSs_wp ?_
              refine WPs_cond rfl (fun hc7 => ?_) (fun hc7 => ?_)
              · simp only [decide_eq_true_eq] at hc7
                refine WPs_regionK [0, 7, 9, 10, 11, 12, 61, 62, 63] ?_
                have hg1 := gone_le E k i
                have hh : hit E k i := Decidable.byContradiction fun h => by have := (hM h).1; omega
                refine s_move rfl rfl ?_
                refine s_addC (c := ((gn + 1 : Nat) : Int)) rfl rfl rfl (by rw [show ((gn : Int) + 1) = ((gn + 1 : Nat) : Int) by omega]; exact inR_i64 (by omega) (by omega)) ?_
                refine s_assign rfl rfl ?_
                refine SXs_nilK (fr' := [(0, _), (7, _), (9, _), (10, _), (11, _), (12, _), (61, _), (62, _), (63, _)]) rfl ?_
                refine KSs_wp ?_
                refine WPs_regionK [0, 7, 9, 10, 11, 12, 61, 62, 63] ?_
                refine s_add_ok rfl rfl rfl (inR_i64 (by omega) (by omega)) ?_
                refine s_move rfl rfl ?_
                refine SXs_nilK (fr' := [(0, _), (7, _), (9, _), (10, _), (11, _), (12, _), (61, _), (62, _), (63, _)]) rfl ?_
                exact fun w hS => ⟨(i + 1, gn + 1), rfl, hS.sl (by (repeat (first | exact Sl.refl _ | (apply Sl.pick 3; exact rfl) | (apply Sl.pick 4; exact rfl) | refine Sl.skip ?_))), ⟨by dsimp only; omega, by dsimp only; rw [hok.2, gone_hit hh]⟩, by dsimp only; omega⟩
              · simp only [decide_eq_false_iff_not] at hc7
                refine WPs_seq ?_
                refine WPs_regionK [0, 7, 9, 10, 11, 12, 61, 62, 63, 82] ?_
                have hmiss : ¬ hit E k i := fun hh => absurd (hZ hh) (by omega)
                obtain ⟨rfl, rfl⟩ := hM hmiss
                refine SXs_rd (T := 5) 1 rfl (fun hKr => ?_)
                refine SXs_rd (T := 5) 2 rfl (fun hVr => ?_)
                refine s_move rfl rfl ?_
                refine s_neq rfl rfl rfl ?_
                refine s_move rfl rfl ?_
                refine s_guard rfl rfl rfl (fun hc8 => ?_) (fun hc8 => ?_)
                · simp only [decide_eq_true_eq, Bool.not_eq_false'] at hc8
                  refine s_loadN Tryz.isAgg46 Tryz.sizeOf46 (vs := [_, _, _, _, _, _]) rfl rfl (by exact csin (i := 0) (k := 6) rfl rfl) rfl ?_
                  refine s_guard_t2 rfl rfl (by ((rfl))) rfl ?_
                  refine s_loadN Tryz.isAgg46 Tryz.sizeOf46 (vs := [_, _, _, _, _, _]) rfl rfl (by exact csin (i := 5) (k := 6) rfl rfl) rfl ?_
                  refine s_guard_t2 rfl rfl (by ((rfl))) rfl ?_
                  refine s_call Tryz.call14 rfl (vs := [_, _]) rfl (RCs.perm (by (repeat ((exact List.Perm.refl _)))) (same_yes (r := e.r) hKr hVr (RdB.old hre.1) (RdB.old hre.2))) ?_
                  rintro v w ⟨rfl, hS⟩
                  refine SXs_go hS ?_
                  clear hS; clear w
                  simp only [putF]
                  refine s_guard_t2 rfl rfl (by ((rfl))) rfl ?_
                  refine s_not rfl rfl ?_
                  refine s_pick_f rfl rfl rfl ?_
                  refine s_assign rfl rfl ?_
                  refine SXs_nilK (fr' := [(0, _), (7, _), (9, _), (10, _), (11, _), (12, _), (61, _), (62, _), (63, _), (82, _)]) rfl ?_
                  refine KSs_wp ?_
                  refine WPs_cond rfl (fun hc9 => ?_) (fun hc9 => ?_)
                  · (exfalso; (cases hc9; done))
                  · simp only [Bool.not_true] at hc9
                    refine WPs_skip ?_
                    refine KSs_wp ?_
                    refine WPs_regionK [0, 7, 9, 10, 11, 12, 61, 62, 63] ?_
                    refine s_add_ok rfl rfl rfl (inR_i64 (by omega) (by omega)) ?_
                    refine s_move rfl rfl ?_
                    refine SXs_nilK (fr' := [(0, _), (7, _), (9, _), (10, _), (11, _), (12, _), (61, _), (62, _), (63, _)]) rfl ?_
                    exact fun w hS => ⟨(i + 1, gn), rfl, hS.sl (by (repeat (first | exact Sl.refl _ | (apply Sl.pick 3; exact rfl) | (apply Sl.pick 4; exact rfl) | refine Sl.skip ?_))), ⟨by dsimp only; omega, by dsimp only; rw [hok.2, gone_miss hmiss]⟩, by dsimp only; omega⟩
                · (exfalso; (cases hc8; done))
            · simp only [decide_eq_false_iff_not] at hc6
              refine WPs_exit rfl ?_
              refine KSs_wp ?_
              refine WPs_seq ?_
              refine WPs_regionK [0, 10, 11, 12, 17, 18] ?_
              refine s_move rfl rfl ?_
              refine s_call Tryz.call15 rfl (vs := [_, _]) rfl (RCs.perm (by (repeat (first | exact List.Perm.refl _ | (apply pick 1; exact rfl)))) (seg_load (id := 7) (nm := nm7) (m := ⟨(segB 7 E).set k (b ^^^ bits), (segB 7 E).set k (b ^^^ bits), []⟩) (nameOk7 hT) mayOk7 (by omega) (by omega) (by show ((segB 7 E).set k (b ^^^ bits)).length ≤ _; rw [List.length_set, segB_length]; omega) hOf)) ?_
              rintro v w ⟨G, fa, pa, fc, pm, pc, rfl, hG, hS⟩
              refine SXs_go hS ?_
              clear hS; clear w
              simp only [List.eraseIdx_cons_zero, List.eraseIdx_cons_succ, putF]
              refine s_move rfl rfl ?_
              refine s_extract rfl rfl rfl ?_
              refine s_extract rfl rfl rfl ?_
              refine s_alloc Tryz.zeroValue53 (cl := [_, _, _, _, _]) rfl rfl (fun b17 => ?_)
              refine s_store (i := 0) Tryz.sizeOf53 rfl rfl rfl (vs := [_, _, _, _, _]) rfl rfl rfl rfl ?_
              simp only [List.set_cons_zero, List.set_cons_succ, spl]
              refine s_assign rfl rfl ?_
              refine SXs_nilK (fr' := [(0, _), (10, _), (11, _), (12, _), (17, _), (18, _)]) rfl ?_
              refine KSs_wp ?_
              refine WPs_seq ?_
              refine WPs_seq ?_
              refine WPs_regionK [0, 10, 17, 118] ?_
              obtain rfl : i = E.length := by omega
              have hgn := hok.2.trans (gone_end (E := E) hklt)
              have hgA : 16 ≤ k → gn = 1 := fun h => by rw [hgn, if_pos h]
              have hgB : k < 16 → gn = 0 := fun h => by rw [hgn, if_neg (by omega)]
              refine s_move rfl rfl ?_
              refine s_neq rfl rfl rfl ?_
              refine s_move rfl rfl ?_
              refine s_guard rfl rfl rfl (fun hc11 => ?_) (fun hc11 => ?_)
              · simp only [decide_eq_true_eq, Bool.not_eq_false'] at hc11
                refine s_move rfl rfl ?_
                refine s_guard_t2 rfl rfl (by ((rfl))) rfl ?_
                refine s_gtr rfl rfl rfl ?_
                refine s_pick_f rfl rfl rfl ?_
                refine s_move rfl rfl ?_
                refine s_guard rfl rfl rfl (fun hc12 => ?_) (fun hc12 => ?_)
                · simp only [decide_eq_false_iff_not] at hc12
                  refine s_move rfl rfl ?_
                  refine s_guard_t2 rfl rfl (by ((simp_all; done))) rfl ?_
                  refine s_eql rfl rfl rfl ?_
                  refine s_guard_t2 rfl rfl (by ((simp_all; done))) rfl ?_
                  refine s_move rfl rfl ?_
                  refine s_guard_t2 rfl rfl (by ((simp_all; done))) rfl ?_
                  refine s_geq rfl rfl rfl ?_
                  refine s_guard_t2 rfl rfl (by ((simp_all; done))) rfl ?_
                  refine s_neqV rfl rfl rfl (eq_bool Tryz.underlying4) ?_
                  refine s_pickB rfl rfl rfl rfl ?_
                  refine s_move rfl rfl ?_
                  refine s_guard rfl rfl rfl (fun hc13 => ?_) (fun hc13 => ?_)
                  · refine s_move rfl rfl ?_
                    refine s_guard_t2 rfl rfl (by ((assumption))) rfl ?_
                    refine s_lss rfl rfl rfl ?_
                    refine s_guard_t2 rfl rfl (by ((assumption))) rfl ?_
                    refine s_move rfl rfl ?_
                    refine s_guard rfl rfl rfl (fun hc14 => ?_) (fun hc14 => ?_)
                    · simp only [decide_eq_true_eq] at hc14
                      refine s_fieldAddr fo_53_4 rfl rfl ?_
                      refine s_guard_t2 rfl rfl (by ((simp; assumption))) rfl ?_
                      refine s_load1 Tryz.isAgg26 rfl rfl (by exact cin (i := 0) rfl rfl) ?_
                      refine s_guard_t2 rfl rfl (by ((simp; assumption))) rfl ?_
                      refine s_neq rfl rfl rfl ?_
                      refine s_guard_t2 rfl rfl (by ((assumption))) rfl ?_
                      refine s_pickB rfl rfl rfl rfl ?_
                      refine s_pickB rfl rfl rfl rfl ?_
                      refine SXs_nilK (fr' := [(0, _), (10, _), (17, _), (118, _)]) rfl ?_
                      refine KSs_wp ?_
                      refine WPs_cond rfl (fun hc15 => ?_) (fun hc15 => ?_)
                      · (exfalso; (simp at hc15; omega))
                      · refine WPs_skip ?_
                        refine KSs_wp ?_
                        refine WPs_seq ?_
                        refine WPs_seq ?_
                        refine WPs_regionK [0, 10, 120, 121, 122] ?_
                        refine s_fieldAddr fo_53_1 rfl rfl ?_
                        refine s_load1 Tryz.isAgg50 rfl rfl (by exact cin (i := 0) rfl rfl) ?_
                        refine s_len rfl Tryz.underlying50 rfl rfl ?_
                        refine s_move rfl rfl ?_
                        refine SXs_nilK (fr' := [(0, _), (10, _), (120, _), (121, _), (122, _)]) rfl ?_
                        refine KSs_wp ?_
                        refine WPs_block ?_
                        refine WPs_loopS (ks := [122, 0, 10, 120, 121]) (fun (i : Nat) => [(122, .int .i64 (i : Int))]) (fun (i : Nat) => grp (kvL G) :: own 57 9 (.slice fa G.length fc) G.length (flat 7 G) :: own 44 2 (.slice la E.length lc) E.length (locCs 7 E E.length) :: own 46 6 (.slice ea E.length ec) E.length (rflat E) :: []) (fun (i : Nat) => i ≤ G.length) (fun (i : Nat) => G.length - i) (0) rfl (fun w hS => hS.sl (by (repeat (first | exact Sl.refl _ | (apply Sl.pick 1; exact rfl) | (apply Sl.pick 2; exact rfl) | (apply Sl.pick 3; exact rfl) | refine Sl.skip ?_)))) (Nat.zero_le _) ?_
                        rintro i hok
                        dsimp only [List.cons_append, List.nil_append] at hok ⊢
                        refine WPs_seq ?_
                        refine WPs_regionK [0, 10, 120, 121, 122, 123] ?_
                        refine s_lss rfl rfl rfl ?_
                        refine SXs_nilK (fr' := [(0, _), (10, _), (120, _), (121, _), (122, _), (123, _)]) rfl ?_
                        refine KSs_wp ?_
                        refine WPs_seq ?_
                        refine WPs_cond rfl (fun hc16 => ?_) (fun hc16 => ?_)
                        · simp only [decide_eq_true_eq] at hc16
                          refine WPs_skip ?_
                          refine KSs_wp ?_
                          refine WPs_seq ?_
                          refine WPs_block ?_
                          refine WPs_seq ?_
                          refine WPs_regionK [0, 10, 20, 120, 121, 122] ?_
                          have hi : i < G.length := by omega
                          obtain ⟨ef, hef⟩ : ∃ e, G[i]? = some e := ⟨_, List.getElem?_eq_getElem hi⟩
                          obtain ⟨j, e, he, hpe⟩ := hFs (ef.r, ef.off) (by rw [← hG]; exact List.mem_map.2 ⟨ef, List.mem_of_getElem? hef, rfl⟩)
                          obtain ⟨r0, off, ka, va, kc, vc⟩ := ef
                          obtain ⟨h1, h2⟩ := Prod.mk.inj hpe
                          dsimp only at h1 h2
                          subst h1
                          subst h2
                          obtain ⟨hokr, hseq, hre⟩ := hE.2 j e he
                          have hj := (List.getElem?_eq_some_iff.1 he).1
                          refine SXs_kv hef (fun hKf hVf => ?_)
                          refine SXs_rd (T := 57) 1 rfl (fun hFnd => ?_)
                          have hGl := hFnd.2.1
                          simp only [maxLen] at hGl
                          refine SXs_rd (T := 44) 2 rfl (fun hLoc => ?_)
                          refine SXs_rd (T := 46) 3 rfl (fun hRec => ?_)
                          refine s_idxRd slt_50 rfl rfl hFnd rfl (by omega) (by omega) (fun b124 o124 hc124 => ?_)
                          refine s_loadN Tryz.isAgg57 Tryz.sizeOf57 (vs := feCs 7 ⟨e.r, offA E j, ka, va, kc, vc⟩) rfl rfl (by rw [Int.toNat_natCast, flat_at 7 hef] at hc124; exact hc124) rfl ?_
                          refine s_alloc Tryz.zeroValue57 (cl := [_, _, _, _, _, _, _, _, _]) rfl rfl (fun b20 => ?_)
                          refine s_store (i := 0) Tryz.sizeOf57 rfl rfl rfl (vs := [_, _, _, _, _, _, _, _, _]) rfl rfl rfl rfl ?_
                          simp only [List.set_cons_zero, List.set_cons_succ, spl]
                          refine SXs_nilK (fr' := [(0, _), (10, _), (20, _), (120, _), (121, _), (122, _)]) rfl ?_
                          refine KSs_wp ?_
                          refine WPs_seq ?_
                          refine WPs_drawL [0, 10, 120, 121, 122, 163] [] Tryz.mixed rfl (listed := #[false, false, false, false, false, false, false, false, false, false, false, false, false, false, false, false, false, false, false, false, false, false, false, false, false, false, false, false, false, false, false, false, false, false, false, false, false, false]) rfl ?_
                          refine st_take 0 rfl (by decide +kernel) (listed' := #[true, false, false, false, false, false, false, false, false, false, false, false, false, false, false, false, false, false, false, false, false, false, false, false, false, false, false, false, false, false, false, false, false, false, false, false, false, false]) rfl (by (intro _ h; (exact h))) (gv_fieldAddr fo_57_2 rfl rfl) ?_
                          refine st_take 1 rfl (by decide +kernel) (listed' := #[true, true, false, false, false, false, false, false, false, false, false, false, false, false, false, false, false, false, false, false, false, false, false, false, false, false, false, false, false, false, false, false, false, false, false, false, false, false]) rfl (by (intro _ h; (exact h))) (gv_fieldAddr fo_46_0 rfl rfl) ?_
                          refine st_take 2 rfl (by decide +kernel) (listed' := #[true, true, true, false, false, false, false, false, false, false, false, false, false, false, false, false, false, false, false, false, false, false, false, false, false, false, false, false, false, false, false, false, false, false, false, false, false, false]) rfl (by (intro _ h; (exact h))) (gv_load1 Tryz.isAgg36 rfl rfl (by exact cin (i := 0) rfl rfl)) ?_
                          refine st_take 3 rfl (by decide +kernel) (listed' := #[true, true, true, true, false, false, false, false, false, false, false, false, false, false, false, false, false, false, false, false, false, false, false, false, false, false, false, false, false, false, false, false, false, false, false, false, false, false]) rfl (by (intro _ h; (exact h))) (gv_lss rfl rfl rfl) ?_
                          refine st_take 4 rfl (by decide +kernel) (listed' := #[true, true, true, true, true, false, false, false, false, false, false, false, false, false, false, false, false, false, false, false, false, false, false, false, false, false, false, false, false, false, false, false, false, false, false, false, false, false]) rfl (by (intro _ h; (exact h))) (gv_move rfl rfl) ?_
                          refine st_split (dj := 130) rfl (fun hc17 => ?_) (fun hc17 => ?_)
                          · (exfalso; (simp only [decide_eq_true_eq] at hc17; omega))
                          · simp only [decide_eq_false_iff_not] at hc17
                            refine st_take_t 5 rfl (by decide +kernel) (listed' := #[true, true, true, true, true, true, false, false, false, false, false, false, false, false, false, false, false, false, false, false, false, false, false, false, false, false, false, false, false, false, false, false, false, false, false, false, false, false]) rfl (by (intro _ h; (exact h))) rfl rfl (by ((simp_all; done))) (gv_fieldAddr fo_57_2 rfl rfl) ?_
                            refine st_take_t 6 rfl (by decide +kernel) (listed' := #[true, true, true, true, true, true, true, false, false, false, false, false, false, false, false, false, false, false, false, false, false, false, false, false, false, false, false, false, false, false, false, false, false, false, false, false, false, false]) rfl (by (intro _ h; (exact h))) rfl rfl (by ((simp_all; done))) (gv_fieldAddr fo_46_0 rfl rfl) ?_
                            refine st_take_t 7 rfl (by decide +kernel) (listed' := #[true, true, true, true, true, true, true, true, false, false, false, false, false, false, false, false, false, false, false, false, false, false, false, false, false, false, false, false, false, false, false, false, false, false, false, false, false, false]) rfl (by (intro _ h; (exact h))) rfl rfl (by ((simp_all; done))) (gv_load1 Tryz.isAgg36 rfl rfl (by exact cin (i := 0) rfl rfl)) ?_
                            refine st_take_t 8 rfl (by decide +kernel) (listed' := #[true, true, true, true, true, true, true, true, true, false, false, false, false, false, false, false, false, false, false, false, false, false, false, false, false, false, false, false, false, false, false, false, false, false, false, false, false, false]) rfl (by (intro _ h; (exact h))) rfl rfl (by ((simp_all; done))) (gv_move rfl rfl) ?_
                            refine st_take_t 9 rfl (by decide +kernel) (listed' := #[true, true, true, true, true, true, true, true, true, true, false, false, false, false, false, false, false, false, false, false, false, false, false, false, false, false, false, false, false, false, false, false, false, false, false, false, false, false]) rfl (by (intro _ h; (exact h))) rfl rfl (by ((simp_all; done))) (gv_len rfl Tryz.underlying22 rfl rfl) ?_
                            refine st_take_t 10 rfl (by decide +kernel) (listed' := #[true, true, true, true, true, true, true, true, true, true, true, false, false, false, false, false, false, false, false, false, false, false, false, false, false, false, false, false, false, false, false, false, false, false, false, false, false, false]) rfl (by (intro _ h; (exact h))) rfl rfl (by ((simp_all; done))) (gv_conv_ok Tryz.underlying3 Tryz.underlying36 rfl rfl (inR_u64 (by omega) (by omega))) ?_
                            refine st_take_t 11 rfl (by decide +kernel) (listed' := #[true, true, true, true, true, true, true, true, true, true, true, true, false, false, false, false, false, false, false, false, false, false, false, false, false, false, false, false, false, false, false, false, false, false, false, false, false, false]) rfl (by (intro _ h; (exact h))) rfl rfl (by ((simp_all; done))) (gv_gtr rfl rfl rfl) ?_
                            refine st_take 12 rfl (by decide +kernel) (listed' := #[true, true, true, true, true, true, true, true, true, true, true, true, true, false, false, false, false, false, false, false, false, false, false, false, false, false, false, false, false, false, false, false, false, false, false, false, false, false]) rfl (by (intro _ h; (exact h))) (gv_pickB rfl rfl rfl rfl) ?_
                            refine st_take 13 rfl (by decide +kernel) (listed' := #[true, true, true, true, true, true, true, true, true, true, true, true, true, true, false, false, false, false, false, false, false, false, false, false, false, false, false, false, false, false, false, false, false, false, false, false, false, false]) rfl (by (intro _ h; (exact h))) (gv_move rfl rfl) ?_
                            refine st_split (dj := 139) rfl (fun hc25 => ?_) (fun hc25 => ?_)
                            · (exfalso; (simp at hc25; omega))
                            · refine st_take_t 14 rfl (by decide +kernel) (listed' := #[true, true, true, true, true, true, true, true, true, true, true, true, true, true, true, false, false, false, false, false, false, false, false, false, false, false, false, false, false, false, false, false, false, false, false, false, false, false]) rfl (by (intro _ h; (exact h))) rfl rfl (by ((assumption))) (gv_fieldAddr fo_57_0 rfl rfl) ?_
                              refine st_take_t 15 rfl (by decide +kernel) (listed' := #[true, true, true, true, true, true, true, true, true, true, true, true, true, true, true, true, false, false, false, false, false, false, false, false, false, false, false, false, false, false, false, false, false, false, false, false, false, false]) rfl (by (intro _ h; (exact h))) rfl rfl (by ((assumption))) (gv_loadN Tryz.isAgg44 Tryz.sizeOf44 (vs := [_, _]) rfl rfl (by exact csin (i := 0) (k := 2) rfl rfl) rfl) ?_
                              refine st_take_t 16 rfl (by decide +kernel) (listed' := #[true, true, true, true, true, true, true, true, true, true, true, true, true, true, true, true, true, false, false, false, false, false, false, false, false, false, false, false, false, false, false, false, false, false, false, false, false, false]) rfl (by (intro _ h; (exact h))) rfl rfl (by ((assumption))) (gv_move rfl rfl) ?_
                              refine st_take_t 17 rfl (by decide +kernel) (listed' := #[true, true, true, true, true, true, true, true, true, true, true, true, true, true, true, true, true, true, false, false, false, false, false, false, false, false, false, false, false, false, false, false, false, false, false, false, false, false]) rfl (by (intro _ h; (exact h))) rfl rfl (by ((assumption))) (gv_fieldAddr fo_57_2 rfl rfl) ?_
                              refine st_take_t 18 rfl (by decide +kernel) (listed' := #[true, true, true, true, true, true, true, true, true, true, true, true, true, true, true, true, true, true, true, false, false, false, false, false, false, false, false, false, false, false, false, false, false, false, false, false, false, false]) rfl (by (intro _ h; (exact h))) rfl rfl (by ((assumption))) (gv_fieldAddr fo_46_0 rfl rfl) ?_
                              refine st_take_t 19 rfl (by decide +kernel) (listed' := #[true, true, true, true, true, true, true, true, true, true, true, true, true, true, true, true, true, true, true, true, false, false, false, false, false, false, false, false, false, false, false, false, false, false, false, false, false, false]) rfl (by (intro _ h; (exact h))) rfl rfl (by ((assumption))) (gv_load1 Tryz.isAgg36 rfl rfl (by exact cin (i := 0) rfl rfl)) ?_
                              refine st_take_t 20 rfl (by decide +kernel) (listed' := #[true, true, true, true, true, true, true, true, true, true, true, true, true, true, true, true, true, true, true, true, true, false, false, false, false, false, false, false, false, false, false, false, false, false, false, false, false, false]) rfl (by (intro _ h; (exact h))) rfl rfl (by ((assumption))) (gv_subC (c := (j : Int)) rfl rfl rfl (by rw [hseq, show (((j + 1 : Nat) : Int) - 1) = (j : Int) by omega]; exact inR_u64 (by omega) (by omega))) ?_
                              refine ex_idxRd 21 rfl slt_31 rfl rfl hLoc.cons rfl (by omega) (by omega) (fun b147 o147 hc147 hG27_21 => ?_)
                              refine st_take_t 21 rfl (by decide +kernel) (listed' := #[true, true, true, true, true, true, true, true, true, true, true, true, true, true, true, true, true, true, true, true, true, true, false, false, false, false, false, false, false, false, false, false, false, false, false, false, false, false]) rfl (by (intro _ h; (exact h))) rfl rfl (by ((assumption))) hG27_21 ?_
                              refine st_take_t 22 rfl (by decide +kernel) (listed' := #[true, true, true, true, true, true, true, true, true, true, true, true, true, true, true, true, true, true, true, true, true, true, true, false, false, false, false, false, false, false, false, false, false, false, false, false, false, false]) rfl (by (intro _ h; (exact h))) rfl rfl (by ((assumption))) (gv_loadN Tryz.isAgg44 Tryz.sizeOf44 (vs := [.int .u32 7, .int .u32 (offA E j : Int)]) rfl rfl (by rw [Int.toNat_natCast, locCs_drop 7 E _ _ hj] at hc147; exact hc147) rfl) ?_
                              refine st_take_t 23 rfl (by decide +kernel) (listed' := #[true, true, true, true, true, true, true, true, true, true, true, true, true, true, true, true, true, true, true, true, true, true, true, true, false, false, false, false, false, false, false, false, false, false, false, false, false, false]) rfl (by (intro _ h; (exact h))) rfl rfl (by ((assumption))) (gv_neqV rfl rfl rfl (eq_loc _ _ _ _)) ?_
                              refine st_take 24 rfl (by decide +kernel) (listed' := #[true, true, true, true, true, true, true, true, true, true, true, true, true, true, true, true, true, true, true, true, true, true, true, true, true, false, false, false, false, false, false, false, false, false, false, false, false, false]) rfl (by (intro _ h; (exact h))) (gv_pickB rfl rfl rfl rfl) ?_
                              refine st_take 25 rfl (by decide +kernel) (listed' := #[true, true, true, true, true, true, true, true, true, true, true, true, true, true, true, true, true, true, true, true, true, true, true, true, true, true, false, false, false, false, false, false, false, false, false, false, false, false]) rfl (by (intro _ h; (exact h))) (gv_move rfl rfl) ?_
                              refine st_split (dj := 151) rfl (fun hc29 => ?_) (fun hc29 => ?_)
                              · (exfalso; (simp at hc29; omega))
                              · simp only [decide_eq_true_eq] at hc29
                                refine st_take_t 26 rfl (by decide +kernel) (listed' := #[true, true, true, true, true, true, true, true, true, true, true, true, true, true, true, true, true, true, true, true, true, true, true, true, true, true, true, false, false, false, false, false, false, false, false, false, false, false]) rfl (by (intro _ h; (exact h))) rfl rfl (by ((simp_all; done))) (gv_fieldAddr fo_57_2 rfl rfl) ?_
                                refine st_take_t 27 rfl (by decide +kernel) (listed' := #[true, true, true, true, true, true, true, true, true, true, true, true, true, true, true, true, true, true, true, true, true, true, true, true, true, true, true, true, false, false, false, false, false, false, false, false, false, false]) rfl (by (intro _ h; (exact h))) rfl rfl (by ((simp_all; done))) (gv_loadN Tryz.isAgg46 Tryz.sizeOf46 (vs := [_, _, _, _, _, _]) rfl rfl (by exact csin (i := 0) (k := 6) rfl rfl) rfl) ?_
                                refine st_take_t 28 rfl (by decide +kernel) (listed' := #[true, true, true, true, true, true, true, true, true, true, true, true, true, true, true, true, true, true, true, true, true, true, true, true, true, true, true, true, true, false, false, false, false, false, false, false, false, false]) rfl (by (intro _ h; (exact h))) rfl rfl (by ((simp_all; done))) (gv_move rfl rfl) ?_
                                refine st_take_t 29 rfl (by decide +kernel) (listed' := #[true, true, true, true, true, true, true, true, true, true, true, true, true, true, true, true, true, true, true, true, true, true, true, true, true, true, true, true, true, true, false, false, false, false, false, false, false, false]) rfl (by (intro _ h; (exact h))) rfl rfl (by ((simp_all; done))) (gv_fieldAddr fo_57_2 rfl rfl) ?_
                                refine st_take_t 30 rfl (by decide +kernel) (listed' := #[true, true, true, true, true, true, true, true, true, true, true, true, true, true, true, true, true, true, true, true, true, true, true, true, true, true, true, true, true, true, true, false, false, false, false, false, false, false]) rfl (by (intro _ h; (exact h))) rfl rfl (by ((simp_all; done))) (gv_fieldAddr fo_46_0 rfl rfl) ?_
                                refine st_take_t 31 rfl (by decide +kernel) (listed' := #[true, true, true, true, true, true, true, true, true, true, true, true, true, true, true, true, true, true, true, true, true, true, true, true, true, true, true, true, true, true, true, true, false, false, false, false, false, false]) rfl (by (intro _ h; (exact h))) rfl rfl (by ((simp_all; done))) (gv_load1 Tryz.isAgg36 rfl rfl (by exact cin (i := 0) rfl rfl)) ?_
                                refine st_take_t 32 rfl (by decide +kernel) (listed' := #[true, true, true, true, true, true, true, true, true, true, true, true, true, true, true, true, true, true, true, true, true, true, true, true, true, true, true, true, true, true, true, true, true, false, false, false, false, false]) rfl (by (intro _ h; (exact h))) rfl rfl (by ((simp_all; done))) (gv_subC (c := (j : Int)) rfl rfl rfl (by rw [hseq, show (((j + 1 : Nat) : Int) - 1) = (j : Int) by omega]; exact inR_u64 (by omega) (by omega))) ?_
                                refine ex_idxRd 33 rfl slt_22 rfl rfl hRec.cons rfl (by omega) (by omega) (fun b159 o159 hc159 hG27_33 => ?_)
                                refine st_take_t 33 rfl (by decide +kernel) (listed' := #[true, true, true, true, true, true, true, true, true, true, true, true, true, true, true, true, true, true, true, true, true, true, true, true, true, true, true, true, true, true, true, true, true, true, false, false, false, false]) rfl (by (intro _ h; (exact h))) rfl rfl (by ((simp_all; done))) hG27_33 ?_
                                refine st_take_t 34 rfl (by decide +kernel) (listed' := #[true, true, true, true, true, true, true, true, true, true, true, true, true, true, true, true, true, true, true, true, true, true, true, true, true, true, true, true, true, true, true, true, true, true, true, false, false, false]) rfl (by (intro _ h; (exact h))) rfl rfl (by ((simp_all; done))) (gv_loadN Tryz.isAgg46 Tryz.sizeOf46 (vs := reCs e) rfl rfl (by rw [Int.toNat_natCast, rflat_at he] at hc159; exact hc159) rfl) ?_
                                refine st_one 35 rfl (by decide +kernel) ?_
                                refine s_guard_t2 rfl rfl (by ((simp_all; done))) rfl ?_
                                refine s_call Tryz.call14 rfl (vs := [_, _]) rfl (RCs.perm (by (repeat ((exact List.Perm.refl _)))) (same_yes (r := e.r) hKf.cons hVf.cons (RdB.old hre.1) (RdB.old hre.2))) ?_
                                rintro v w ⟨rfl, hS⟩
                                refine SXs_go hS ?_
                                clear hS; clear w
                                simp only [putF]
                                refine st_next (listed' := #[true, true, true, true, true, true, true, true, true, true, true, true, true, true, true, true, true, true, true, true, true, true, true, true, true, true, true, true, true, true, true, true, true, true, true, true, false, false]) rfl (by intro _ _; (intro _ h; (exact h))) ?_
                                refine st_take_t 36 rfl (by decide +kernel) (listed' := #[true, true, true, true, true, true, true, true, true, true, true, true, true, true, true, true, true, true, true, true, true, true, true, true, true, true, true, true, true, true, true, true, true, true, true, true, true, false]) rfl (by (intro _ h; (exact h))) rfl rfl (by ((assumption))) (gv_not rfl rfl) ?_
                                refine st_take 37 rfl (by decide +kernel) (listed' := #[true, true, true, true, true, true, true, true, true, true, true, true, true, true, true, true, true, true, true, true, true, true, true, true, true, true, true, true, true, true, true, true, true, true, true, true, true, true]) rfl (by (intro _ h; (exact h))) (gv_pickB rfl rfl rfl rfl) ?_
                                refine st_doneK (fr' := [(0, _), (10, _), (120, _), (121, _), (122, _), (163, _)]) (by decide +kernel) rfl ?_
                                refine KSs_wp ?_
                                refine WPs_cond rfl (fun hc31 => ?_) (fun hc31 => ?_)
                                · (exfalso; (simp at hc31; omega))
                                · simp only [Bool.not_true] at hc31
                                  refine WPs_skip ?_
                                  refine KSs_wp ?_
                                  refine WPs_regionK [0, 10, 120, 121, 122] ?_
                                  refine s_add_ok rfl rfl rfl (inR_i64 (by omega) (by omega)) ?_
                                  refine s_move rfl rfl ?_
                                  refine SXs_nilK (fr' := [(0, _), (10, _), (120, _), (121, _), (122, _)]) rfl ?_
                                  exact fun w hS => ⟨i + 1, rfl, hS.sl (by (repeat (first | exact Sl.refl _ | (apply Sl.pick 1; exact rfl) | refine Sl.skip ?_))), by (omega), by (omega)⟩
                        · simp only [decide_eq_false_iff_not] at hc16
                          refine WPs_exit rfl ?_
                          refine KSs_wp ?_
                          refine WPs_seq ?_
                          refine WPs_regionK [6] ?_
                          refine s_assign rfl rfl ?_
                          refine SXs_nilK (fr' := [(6, _)]) rfl ?_
                          refine KSs_wp ?_
                          refine WPs_ret ?_
                          refine RLs_start ?_
                          refine RLs_tmp rfl ?_
                          refine RLs_fin1 ?_
                          exact fun w hS => ⟨rfl, hS.sl (by (repeat (first | exact Sl.refl _ | refine Sl.skip ?_)))⟩
                    · simp only [decide_eq_false_iff_not, Bool.not_true] at hc14
                      refine s_guard_f rfl rfl (by ((simp_all; done))) rfl ?_
                      refine s_guard_f rfl rfl (by ((simp_all; done))) rfl ?_
                      refine s_guard_t2 rfl rfl (by ((assumption))) rfl ?_
                      refine s_pickH_f rfl rfl (by ((simp_all; done))) rfl ?_
                      refine s_pickB rfl rfl rfl rfl ?_
                      refine SXs_nilK (fr' := [(0, _), (10, _), (17, _), (118, _)]) rfl ?_
                      refine KSs_wp ?_
                      refine WPs_cond rfl (fun hc32 => ?_) (fun hc32 => ?_)
                      · (exfalso; (simp at hc32; omega))
                      · refine WPs_skip ?_
                        refine KSs_wp ?_
                        refine WPs_seq ?_
                        refine WPs_seq ?_
                        refine WPs_regionK [0, 10, 120, 121, 122] ?_
                        refine s_fieldAddr fo_53_1 rfl rfl ?_
                        refine s_load1 Tryz.isAgg50 rfl rfl (by exact cin (i := 0) rfl rfl) ?_
                        refine s_len rfl Tryz.underlying50 rfl rfl ?_
                        refine s_move rfl rfl ?_
                        refine SXs_nilK (fr' := [(0, _), (10, _), (120, _), (121, _), (122, _)]) rfl ?_
                        refine KSs_wp ?_
                        refine WPs_block ?_
                        refine WPs_loopS (ks := [122, 0, 10, 120, 121]) (fun (i : Nat) => [(122, .int .i64 (i : Int))]) (fun (i : Nat) => grp (kvL G) :: own 57 9 (.slice fa G.length fc) G.length (flat 7 G) :: own 44 2 (.slice la E.length lc) E.length (locCs 7 E E.length) :: own 46 6 (.slice ea E.length ec) E.length (rflat E) :: []) (fun (i : Nat) => i ≤ G.length) (fun (i : Nat) => G.length - i) (0) rfl (fun w hS => hS.sl (by (repeat (first | exact Sl.refl _ | (apply Sl.pick 1; exact rfl) | (apply Sl.pick 2; exact rfl) | (apply Sl.pick 3; exact rfl) | refine Sl.skip ?_)))) (Nat.zero_le _) ?_
                        rintro i hok
                        dsimp only [List.cons_append, List.nil_append] at hok ⊢
                        refine WPs_seq ?_
                        refine WPs_regionK [0, 10, 120, 121, 122, 123] ?_
                        refine s_lss rfl rfl rfl ?_
                        refine SXs_nilK (fr' := [(0, _), (10, _), (120, _), (121, _), (122, _), (123, _)]) rfl ?_
                        refine KSs_wp ?_
                        refine WPs_seq ?_
                        refine WPs_cond rfl (fun hc33 => ?_) (fun hc33 => ?_)
                        · simp only [decide_eq_true_eq] at hc33
                          refine WPs_skip ?_
                          refine KSs_wp ?_
                          refine WPs_seq ?_
                          refine WPs_block ?_
                          refine WPs_seq ?_
                          refine WPs_regionK [0, 10, 20, 120, 121, 122] ?_
                          have hi : i < G.length := by omega
                          obtain ⟨ef, hef⟩ : ∃ e, G[i]? = some e := ⟨_, List.getElem?_eq_getElem hi⟩
                          obtain ⟨j, e, he, hpe⟩ := hFs (ef.r, ef.off) (by rw [← hG]; exact List.mem_map.2 ⟨ef, List.mem_of_getElem? hef, rfl⟩)
                          obtain ⟨r0, off, ka, va, kc, vc⟩ := ef
                          obtain ⟨h1, h2⟩ := Prod.mk.inj hpe
                          dsimp only at h1 h2
                          subst h1
                          subst h2
                          obtain ⟨hokr, hseq, hre⟩ := hE.2 j e he
                          have hj := (List.getElem?_eq_some_iff.1 he).1
                          refine SXs_kv hef (fun hKf hVf => ?_)
                          refine SXs_rd (T := 57) 1 rfl (fun hFnd => ?_)
                          have hGl := hFnd.2.1
                          simp only [maxLen] at hGl
                          refine SXs_rd (T := 44) 2 rfl (fun hLoc => ?_)
                          refine SXs_rd (T := 46) 3 rfl (fun hRec => ?_)
                          refine s_idxRd slt_50 rfl rfl hFnd rfl (by omega) (by omega) (fun b124 o124 hc124 => ?_)
                          refine s_loadN Tryz.isAgg57 Tryz.sizeOf57 (vs := feCs 7 ⟨e.r, offA E j, ka, va, kc, vc⟩) rfl rfl (by rw [Int.toNat_natCast, flat_at 7 hef] at hc124; exact hc124) rfl ?_
                          refine s_alloc Tryz.zeroValue57 (cl := [_, _, _, _, _, _, _, _, _]) rfl rfl (fun b20 => ?_)
                          refine s_store (i := 0) Tryz.sizeOf57 rfl rfl rfl (vs := [_, _, _, _, _, _, _, _, _]) rfl rfl rfl rfl ?_
                          simp only [List.set_cons_zero, List.set_cons_succ, spl]
                          refine SXs_nilK (fr' := [(0, _), (10, _), (20, _), (120, _), (121, _), (122, _)]) rfl ?_
                          refine KSs_wp ?_
                          refine WPs_seq ?_
                          refine WPs_drawL [0, 10, 120, 121, 122, 163] [] Tryz.mixed rfl (listed := #[false, false, false, false, false, false, false, false, false, false, false, false, false, false, false, false, false, false, false, false, false, false, false, false, false, false, false, false, false, false, false, false, false, false, false, false, false, false]) rfl ?_
                          refine st_take 0 rfl (by decide +kernel) (listed' := #[true, false, false, false, false, false, false, false, false, false, false, false, false, false, false, false, false, false, false, false, false, false, false, false, false, false, false, false, false, false, false, false, false, false, false, false, false, false]) rfl (by (intro _ h; (exact h))) (gv_fieldAddr fo_57_2 rfl rfl) ?_
                          refine st_take 1 rfl (by decide +kernel) (listed' := #[true, true, false, false, false, false, false, false, false, false, false, false, false, false, false, false, false, false, false, false, false, false, false, false, false, false, false, false, false, false, false, false, false, false, false, false, false, false]) rfl (by (intro _ h; (exact h))) (gv_fieldAddr fo_46_0 rfl rfl) ?_
                          refine st_take 2 rfl (by decide +kernel) (listed' := #[true, true, true, false, false, false, false, false, false, false, false, false, false, false, false, false, false, false, false, false, false, false, false, false, false, false, false, false, false, false, false, false, false, false, false, false, false, false]) rfl (by (intro _ h; (exact h))) (gv_load1 Tryz.isAgg36 rfl rfl (by exact cin (i := 0) rfl rfl)) ?_
                          refine st_take 3 rfl (by decide +kernel) (listed' := #[true, true, true, true, false, false, false, false, false, false, false, false, false, false, false, false, false, false, false, false, false, false, false, false, false, false, false, false, false, false, false, false, false, false, false, false, false, false]) rfl (by (intro _ h; (exact h))) (gv_lss rfl rfl rfl) ?_
                          refine st_take 4 rfl (by decide +kernel) (listed' := #[true, true, true, true, true, false, false, false, false, false, false, false, false, false, false, false, false, false, false, false, false, false, false, false, false, false, false, false, false, false, false, false, false, false, false, false, false, false]) rfl (by (intro _ h; (exact h))) (gv_move rfl rfl) ?_
                          refine st_split (dj := 130) rfl (fun hc34 => ?_) (fun hc34 => ?_)
                          · (exfalso; (simp only [decide_eq_true_eq] at hc34; omega))
                          · simp only [decide_eq_false_iff_not] at hc34
                            refine st_take_t 5 rfl (by decide +kernel) (listed' := #[true, true, true, true, true, true, false, false, false, false, false, false, false, false, false, false, false, false, false, false, false, false, false, false, false, false, false, false, false, false, false, false, false, false, false, false, false, false]) rfl (by (intro _ h; (exact h))) rfl rfl (by ((simp_all; done))) (gv_fieldAddr fo_57_2 rfl rfl) ?_
                            refine st_take_t 6 rfl (by decide +kernel) (listed' := #[true, true, true, true, true, true, true, false, false, false, false, false, false, false, false, false, false, false, false, false, false, false, false, false, false, false, false, false, false, false, false, false, false, false, false, false, false, false]) rfl (by (intro _ h; (exact h))) rfl rfl (by ((simp_all; done))) (gv_fieldAddr fo_46_0 rfl rfl) ?_
                            refine st_take_t 7 rfl (by decide +kernel) (listed' := #[true, true, true, true, true, true, true, true, false, false, false, false, false, false, false, false, false, false, false, false, false, false, false, false, false, false, false, false, false, false, false, false, false, false, false, false, false, false]) rfl (by (intro _ h; (exact h))) rfl rfl (by ((simp_all; done))) (gv_load1 Tryz.isAgg36 rfl rfl (by exact cin (i := 0) rfl rfl)) ?_
                            refine st_take_t 8 rfl (by decide +kernel) (listed' := #[true, true, true, true, true, true, true, true, true, false, false, false, false, false, false, false, false, false, false, false, false, false, false, false, false, false, false, false, false, false, false, false, false, false, false, false, false, false]) rfl (by (intro _ h; (exact h))) rfl rfl (by ((simp_all; done))) (gv_move rfl rfl) ?_
                            refine st_take_t 9 rfl (by decide +kernel) (listed' := #[true, true, true, true, true, true, true, true, true, true, false, false, false, false, false, false, false, false, false, false, false, false, false, false, false, false, false, false, false, false, false, false, false, false, false, false, false, false]) rfl (by (intro _ h; (exact h))) rfl rfl (by ((simp_all; done))) (gv_len rfl Tryz.underlying22 rfl rfl) ?_
                            refine st_take_t 10 rfl (by decide +kernel) (listed' := #[true, true, true, true, true, true, true, true, true, true, true, false, false, false, false, false, false, false, false, false, false, false, false, false, false, false, false, false, false, false, false, false, false, false, false, false, false, false]) rfl (by (intro _ h; (exact h))) rfl rfl (by ((simp_all; done))) (gv_conv_ok Tryz.underlying3 Tryz.underlying36 rfl rfl (inR_u64 (by omega) (by omega))) ?_
                            refine st_take_t 11 rfl (by decide +kernel) (listed' := #[true, true, true, true, true, true, true, true, true, true, true, true, false, false, false, false, false, false, false, false, false, false, false, false, false, false, false, false, false, false, false, false, false, false, false, false, false, false]) rfl (by (intro _ h; (exact h))) rfl rfl (by ((simp_all; done))) (gv_gtr rfl rfl rfl) ?_
                            refine st_take 12 rfl (by decide +kernel) (listed' := #[true, true, true, true, true, true, true, true, true, true, true, true, true, false, false, false, false, false, false, false, false, false, false, false, false, false, false, false, false, false, false, false, false, false, false, false, false, false]) rfl (by (intro _ h; (exact h))) (gv_pickB rfl rfl rfl rfl) ?_
                            refine st_take 13 rfl (by decide +kernel) (listed' := #[true, true, true, true, true, true, true, true, true, true, true, true, true, true, false, false, false, false, false, false, false, false, false, false, false, false, false, false, false, false, false, false, false, false, false, false, false, false]) rfl (by (intro _ h; (exact h))) (gv_move rfl rfl) ?_
                            refine st_split (dj := 139) rfl (fun hc42 => ?_) (fun hc42 => ?_)
                            · (exfalso; (simp at hc42; omega))
                            · refine st_take_t 14 rfl (by decide +kernel) (listed' := #[true, true, true, true, true, true, true, true, true, true, true, true, true, true, true, false, false, false, false, false, false, false, false, false, false, false, false, false, false, false, false, false, false, false, false, false, false, false]) rfl (by (intro _ h; (exact h))) rfl rfl (by ((assumption))) (gv_fieldAddr fo_57_0 rfl rfl) ?_
                              refine st_take_t 15 rfl (by decide +kernel) (listed' := #[true, true, true, true, true, true, true, true, true, true, true, true, true, true, true, true, false, false, false, false, false, false, false, false, false, false, false, false, false, false, false, false, false, false, false, false, false, false]) rfl (by (intro _ h; (exact h))) rfl rfl (by ((assumption))) (gv_loadN Tryz.isAgg44 Tryz.sizeOf44 (vs := [_, _]) rfl rfl (by exact csin (i := 0) (k := 2) rfl rfl) rfl) ?_
                              refine st_take_t 16 rfl (by decide +kernel) (listed' := #[true, true, true, true, true, true, true, true, true, true, true, true, true, true, true, true, true, false, false, false, false, false, false, false, false, false, false, false, false, false, false, false, false, false, false, false, false, false]) rfl (by (intro _ h; (exact h))) rfl rfl (by ((assumption))) (gv_move rfl rfl) ?_
                              refine st_take_t 17 rfl (by decide +kernel) (listed' := #[true, true, true, true, true, true, true, true, true, true, true, true, true, true, true, true, true, true, false, false, false, false, false, false, false, false, false, false, false, false, false, false, false, false, false, false, false, false]) rfl (by (intro _ h; (exact h))) rfl rfl (by ((assumption))) (gv_fieldAddr fo_57_2 rfl rfl) ?_
                              refine st_take_t 18 rfl (by decide +kernel) (listed' := #[true, true, true, true, true, true, true, true, true, true, true, true, true, true, true, true, true, true, true, false, false, false, false, false, false, false, false, false, false, false, false, false, false, false, false, false, false, false]) rfl (by (intro _ h; (exact h))) rfl rfl (by ((assumption))) (gv_fieldAddr fo_46_0 rfl rfl) ?_
                              refine st_take_t 19 rfl (by decide +kernel) (listed' := #[true, true, true, true, true, true, true, true, true, true, true, true, true, true, true, true, true, true, true, true, false, false, false, false, false, false, false, false, false, false, false, false, false, false, false, false, false, false]) rfl (by (intro _ h; (exact h))) rfl rfl (by ((assumption))) (gv_load1 Tryz.isAgg36 rfl rfl (by exact cin (i := 0) rfl rfl)) ?_
                              refine st_take_t 20 rfl (by decide +kernel) (listed' := #[true, true, true, true, true, true, true, true, true, true, true, true, true, true, true, true, true, true, true, true, true, false, false, false, false, false, false, false, false, false, false, false, false, false, false, false, false, false]) rfl (by (intro _ h; (exact h))) rfl rfl (by ((assumption))) (gv_subC (c := (j : Int)) rfl rfl rfl (by rw [hseq, show (((j + 1 : Nat) : Int) - 1) = (j : Int) by omega]; exact inR_u64 (by omega) (by omega))) ?_
                              refine ex_idxRd 21 rfl slt_31 rfl rfl hLoc.cons rfl (by omega) (by omega) (fun b147 o147 hc147 hG27_21 => ?_)
                              refine st_take_t 21 rfl (by decide +kernel) (listed' := #[true, true, true, true, true, true, true, true, true, true, true, true, true, true, true, true, true, true, true, true, true, true, false, false, false, false, false, false, false, false, false, false, false, false, false, false, false, false]) rfl (by (intro _ h; (exact h))) rfl rfl (by ((assumption))) hG27_21 ?_
                              refine st_take_t 22 rfl (by decide +kernel) (listed' := #[true, true, true, true, true, true, true, true, true, true, true, true, true, true, true, true, true, true, true, true, true, true, true, false, false, false, false, false, false, false, false, false, false, false, false, false, false, false]) rfl (by (intro _ h; (exact h))) rfl rfl (by ((assumption))) (gv_loadN Tryz.isAgg44 Tryz.sizeOf44 (vs := [.int .u32 7, .int .u32 (offA E j : Int)]) rfl rfl (by rw [Int.toNat_natCast, locCs_drop 7 E _ _ hj] at hc147; exact hc147) rfl) ?_
                              refine st_take_t 23 rfl (by decide +kernel) (listed' := #[true, true, true, true, true, true, true, true, true, true, true, true, true, true, true, true, true, true, true, true, true, true, true, true, false, false, false, false, false, false, false, false, false, false, false, false, false, false]) rfl (by (intro _ h; (exact h))) rfl rfl (by ((assumption))) (gv_neqV rfl rfl rfl (eq_loc _ _ _ _)) ?_
                              refine st_take 24 rfl (by decide +kernel) (listed' := #[true, true, true, true, true, true, true, true, true, true, true, true, true, true, true, true, true, true, true, true, true, true, true, true, true, false, false, false, false, false, false, false, false, false, false, false, false, false]) rfl (by (intro _ h; (exact h))) (gv_pickB rfl rfl rfl rfl) ?_
                              refine st_take 25 rfl (by decide +kernel) (listed' := #[true, true, true, true, true, true, true, true, true, true, true, true, true, true, true, true, true, true, true, true, true, true, true, true, true, true, false, false, false, false, false, false, false, false, false, false, false, false]) rfl (by (intro _ h; (exact h))) (gv_move rfl rfl) ?_
                              refine st_split (dj := 151) rfl (fun hc46 => ?_) (fun hc46 => ?_)
                              · (exfalso; (simp at hc46; omega))
                              · simp only [decide_eq_true_eq] at hc46
                                refine st_take_t 26 rfl (by decide +kernel) (listed' := #[true, true, true, true, true, true, true, true, true, true, true, true, true, true, true, true, true, true, true, true, true, true, true, true, true, true, true, false, false, false, false, false, false, false, false, false, false, false]) rfl (by (intro _ h; (exact h))) rfl rfl (by ((simp_all; done))) (gv_fieldAddr fo_57_2 rfl rfl) ?_
                                refine st_take_t 27 rfl (by decide +kernel) (listed' := #[true, true, true, true, true, true, true, true, true, true, true, true, true, true, true, true, true, true, true, true, true, true, true, true, true, true, true, true, false, false, false, false, false, false, false, false, false, false]) rfl (by (intro _ h; (exact h))) rfl rfl (by ((simp_all; done))) (gv_loadN Tryz.isAgg46 Tryz.sizeOf46 (vs := [_, _, _, _, _, _]) rfl rfl (by exact csin (i := 0) (k := 6) rfl rfl) rfl) ?_
                                refine st_take_t 28 rfl (by decide +kernel) (listed' := #[true, true, true, true, true, true, true, true, true, true, true, true, true, true, true, true, true, true, true, true, true, true, true, true, true, true, true, true, true, false, false, false, false, false, false, false, false, false]) rfl (by (intro _ h; (exact h))) rfl rfl (by ((simp_all; done))) (gv_move rfl rfl) ?_
                                refine st_take_t 29 rfl (by decide +kernel) (listed' := #[true, true, true, true, true, true, true, true, true, true, true, true, true, true, true, true, true, true, true, true, true, true, true, true, true, true, true, true, true, true, false, false, false, false, false, false, false, false]) rfl (by (intro _ h; (exact h))) rfl rfl (by ((simp_all; done))) (gv_fieldAddr fo_57_2 rfl rfl) ?_
                                refine st_take_t 30 rfl (by decide +kernel) (listed' := #[true, true, true, true, true, true, true, true, true, true, true, true, true, true, true, true, true, true, true, true, true, true, true, true, true, true, true, true, true, true, true, false, false, false, false, false, false, false]) rfl (by (intro _ h; (exact h))) rfl rfl (by ((simp_all; done))) (gv_fieldAddr fo_46_0 rfl rfl) ?_
                                refine st_take_t 31 rfl (by decide +kernel) (listed' := #[true, true, true, true, true, true, true, true, true, true, true, true, true, true, true, true, true, true, true, true, true, true, true, true, true, true, true, true, true, true, true, true, false, false, false, false, false, false]) rfl (by (intro _ h; (exact h))) rfl rfl (by ((simp_all; done))) (gv_load1 Tryz.isAgg36 rfl rfl (by exact cin (i := 0) rfl rfl)) ?_
                                refine st_take_t 32 rfl (by decide +kernel) (listed' := #[true, true, true, true, true, true, true, true, true, true, true, true, true, true, true, true, true, true, true, true, true, true, true, true, true, true, true, true, true, true, true, true, true, false, false, false, false, false]) rfl (by (intro _ h; (exact h))) rfl rfl (by ((simp_all; done))) (gv_subC (c := (j : Int)) rfl rfl rfl (by rw [hseq, show (((j + 1 : Nat) : Int) - 1) = (j : Int) by omega]; exact inR_u64 (by omega) (by omega))) ?_
                                refine ex_idxRd 33 rfl slt_22 rfl rfl hRec.cons rfl (by omega) (by omega) (fun b159 o159 hc159 hG27_33 => ?_)
                                refine st_take_t 33 rfl (by decide +kernel) (listed' := #[true, true, true, true, true, true, true, true, true, true, true, true, true, true, true, true, true, true, true, true, true, true, true, true, true, true, true, true, true, true, true, true, true, true, false, false, false, false]) rfl (by (intro _ h; (exact h))) rfl rfl (by ((simp_all; done))) hG27_33 ?_
                                refine st_take_t 34 rfl (by decide +kernel) (listed' := #[true, true, true, true, true, true, true, true, true, true, true, true, true, true, true, true, true, true, true, true, true, true, true, true, true, true, true, true, true, true, true, true, true, true, true, false, false, false]) rfl (by (intro _ h; (exact h))) rfl rfl (by ((simp_all; done))) (gv_loadN Tryz.isAgg46 Tryz.sizeOf46 (vs := reCs e) rfl rfl (by rw [Int.toNat_natCast, rflat_at he] at hc159; exact hc159) rfl) ?_
                                refine st_one 35 rfl (by decide +kernel) ?_
                                refine s_guard_t2 rfl rfl (by ((simp_all; done))) rfl ?_
                                refine s_call Tryz.call14 rfl (vs := [_, _]) rfl (RCs.perm (by (repeat ((exact List.Perm.refl _)))) (same_yes (r := e.r) hKf.cons hVf.cons (RdB.old hre.1) (RdB.old hre.2))) ?_
                                rintro v w ⟨rfl, hS⟩
                                refine SXs_go hS ?_
                                clear hS; clear w
                                simp only [putF]
                                refine st_next (listed' := #[true, true, true, true, true, true, true, true, true, true, true, true, true, true, true, true, true, true, true, true, true, true, true, true, true, true, true, true, true, true, true, true, true, true, true, true, false, false]) rfl (by intro _ _; (intro _ h; (exact h))) ?_
                                refine st_take_t 36 rfl (by decide +kernel) (listed' := #[true, true, true, true, true, true, true, true, true, true, true, true, true, true, true, true, true, true, true, true, true, true, true, true, true, true, true, true, true, true, true, true, true, true, true, true, true, false]) rfl (by (intro _ h; (exact h))) rfl rfl (by ((assumption))) (gv_not rfl rfl) ?_
                                refine st_take 37 rfl (by decide +kernel) (listed' := #[true, true, true, true, true, true, true, true, true, true, true, true, true, true, true, true, true, true, true, true, true, true, true, true, true, true, true, true, true, true, true, true, true, true, true, true, true, true]) rfl (by (intro _ h; (exact h))) (gv_pickB rfl rfl rfl rfl) ?_
                                refine st_doneK (fr' := [(0, _), (10, _), (120, _), (121, _), (122, _), (163, _)]) (by decide +kernel) rfl ?_
                                refine KSs_wp ?_
                                refine WPs_cond rfl (fun hc48 => ?_) (fun hc48 => ?_)
                                · (exfalso; (simp at hc48; omega))
                                · simp only [Bool.not_true] at hc48
                                  refine WPs_skip ?_
                                  refine KSs_wp ?_
                                  refine WPs_regionK [0, 10, 120, 121, 122] ?_
                                  refine s_add_ok rfl rfl rfl (inR_i64 (by omega) (by omega)) ?_
                                  refine s_move rfl rfl ?_
                                  refine SXs_nilK (fr' := [(0, _), (10, _), (120, _), (121, _), (122, _)]) rfl ?_
                                  exact fun w hS => ⟨i + 1, rfl, hS.sl (by (repeat (first | exact Sl.refl _ | (apply Sl.pick 1; exact rfl) | refine Sl.skip ?_))), by (omega), by (omega)⟩
                        · simp only [decide_eq_false_iff_not] at hc33
                          refine WPs_exit rfl ?_
                          refine KSs_wp ?_
                          refine WPs_seq ?_
                          refine WPs_regionK [6] ?_
                          refine s_assign rfl rfl ?_
                          refine SXs_nilK (fr' := [(6, _)]) rfl ?_
                          refine KSs_wp ?_
                          refine WPs_ret ?_
                          refine RLs_start ?_
                          refine RLs_tmp rfl ?_
                          refine RLs_fin1 ?_
                          exact fun w hS => ⟨rfl, hS.sl (by (repeat (first | exact Sl.refl _ | refine Sl.skip ?_)))⟩
                  · (exfalso; (simp at hc13; omega))
                · (exfalso; (simp only [decide_eq_true_eq, Bool.not_false] at hc12; omega))
              · (exfalso; (cases hc11; done))
      · (exfalso; (cases hc3; done))
  · (exfalso; (cases hc1; done))
end Go.Proofs.YthodbnmeggkkoaaGreatDoor
/-
  What a call's arguments and the listed variables hold: off the row's own readings.
-/
namespace Go.Proofs.YthodbnmeggkkoaaGreatDoor
open Go Go.RowKit Go.Hb Go.Proofs Go.ChangeShapes Go.WideShapes Go.Deep

theorem laid_mem {P : Program} {w : World} : ∀ {l : List (String × DataW Unit)} {ps : List MemPlace}, DataW.LaidVars P w l ps → ∀ n d, (n, d) ∈ l →
    ∃ g t cs fuel p, P.globalNamed n = some g ∧ (P.globals[g]?).map (·.type) = some t ∧ w.var? P n = some cs ∧ DataW.trod (fun _ => ()) P w 0 (fun _ => true) false fuel t cs.toList = some (d, p)
  | [], _, _, _, _, h => by cases h
  | (n, d) :: r, ps, hL, n', d', h => by
    obtain ⟨g, t, cs, fuel, p, q, h1, h2, h3, h4, h5, _⟩ := hL
    rcases List.mem_cons.1 h with e | h
    · cases e; exact ⟨g, t, cs, fuel, p, h1, h2, h3, h4⟩
    · exact laid_mem h5 n' d' h

section
variable {H : Type} {enc : TypeId × Value → H} {P : Program} {w : World} {base : Nat} {sp : Nat → Bool} {held : Bool}

theorem arr_ints {n t e : Nat} {k : IntKind} {fuel : Nat} {cs : List Value} {p : List MemPlace} {L : List Int} (hu : P.underlying t = some (.array n e)) (he : P.underlying e = some (.int k)) (hc : P.cellsOf e = 1)
    (hd : DataW.trod enc P w base sp held fuel t cs = some (.agg (L.map fun z => .lit (.int k z)), p)) : ∀ (j : Nat) z, L[j]? = some z → cs[j]? = some (.int k z) := by
  obtain ⟨xs, m, rfl, hx, hlen, hn, hel⟩ := DataW.trod_array hu hd
  simp only [Prod.mk.injEq, DataW.agg.injEq] at hx
  intro j z hj
  have hl : L.length = xs.length := by have := congrArg List.length hx.1; simpa using this
  have hjl : j < L.length := (List.getElem?_eq_some_iff.1 hj).1
  have h1 := hel j (by omega)
  rw [hc] at h1
  obtain ⟨x, hxj⟩ : ∃ x, xs[j]? = some x := ⟨_, List.getElem?_eq_getElem (by omega)⟩
  rw [hxj] at h1
  obtain ⟨n', e1, e2, _⟩ := DataW.trod_int he h1
  have e3 := congrArg (fun l => l[j]?) hx.1
  simp only [List.getElem?_map, hj, hxj, Option.map_some, e2, Option.some.injEq, DataW.lit.injEq, Lit.int.injEq] at e3
  have e4 := congrArg (fun l => l[0]?) e1
  simp only [List.getElem?_take, List.getElem?_drop] at e4
  simpa [e3.2] using e4
end

section
variable {H : Type} {enc : TypeId × Value → H} {W : World} {held : Bool}

theorem list_of {α : Type} {p : Nat → α → Prop} : ∀ n, (∀ i, i < n → ∃ e, p i e) → ∃ I : List α, I.length = n ∧ ∀ (i : Nat) e, I[i]? = some e → p i e := by
  intro n
  induction n with
  | zero => exact fun _ => ⟨[], rfl, fun i e h => by simp at h⟩
  | succ n ih =>
    intro h
    obtain ⟨I, h1, h2⟩ := ih (fun i hi => h i (by omega))
    obtain ⟨e, he⟩ := h n (by omega)
    refine ⟨I ++ [e], by simp [h1], fun i e' h' => ?_⟩
    rw [List.getElem?_append] at h'
    split at h'
    · exact h2 i e' h'
    · obtain ⟨hlt, rfl⟩ := List.getElem?_eq_some_iff.1 h'
      simp only [List.length_singleton] at hlt
      have : i = n := by omega
      subst this
      simpa using he

theorem nat_of_u64 {n : Int} (h : (Lit.int .u64 n).wf = true) : n = (n.toNat : Int) := by
  simp [Lit.wf, IntKind.min, IntKind.max, IntKind.signed, IntKind.bits] at h; omega
theorem nat_of_u32 {n : Int} (h : (Lit.int .u32 n).wf = true) : n = (n.toNat : Int) := by
  simp [Lit.wf, IntKind.min, IntKind.max, IntKind.signed, IntKind.bits] at h; omega
theorem nat_of_u16 {n : Int} (h : (Lit.int .u16 n).wf = true) : n = (n.toNat : Int) ∧ n.toNat < 65536 := by
  simp [Lit.wf, IntKind.min, IntKind.max, IntKind.signed, IntKind.bits] at h; omega
theorem nat_of_u8 {n : Int} (h : (Lit.int .u8 n).wf = true) : n = (n.toNat : Int) ∧ n.toNat < 256 := by
  simp [Lit.wf, IntKind.min, IntKind.max, IntKind.signed, IntKind.bits] at h; omega

theorem open_bytes {fuel : Nat} {cs : List Value} {x : DataW H × List MemPlace} (h : DataW.trod enc Tryz.prog W 0 (fun _ => true) held fuel 42 cs = some x) :
    ∃ a c xs, cs = [.slice a (List.length xs) c] ∧ RdB W [] (.slice a xs.length c) xs := by
  rcases open_ints Tryz.underlying42 Tryz.underlying5 (by kernel_rfl) h with ⟨rfl, rfl⟩ | ⟨a, len, cap, zs, rfl, _, hl, hm, hzl, _, hcell, hwf⟩
  · exact ⟨none, 0, [], rfl, RdIn.nil⟩
  · simp only [if_true] at hzl
    have hxl : ((zs.take len).map fun z => UInt8.ofNat z.toNat).length = len := by rw [List.length_map, List.length_take]; omega
    refine ⟨some a, cap, (zs.take len).map fun z => UInt8.ofNat z.toNat, by rw [hxl], ?_⟩
    rw [RdB, hxl]
    refine ⟨by rw [bv_length, hxl, Nat.mul_one], by omega, ?_⟩
    by_cases hc : cap = 0
    · subst hc
      obtain rfl : len = 0 := by omega
      exact .inl ⟨some a, rfl, rfl⟩
    · have h0 := World.cell?_spot (hcell 0 (by omega))
      obtain ⟨b, o, spot⟩ := a
      have hsp : spot = none := by simpa [Addr.add] using h0
      subst hsp
      refine .inr ⟨b, o, cap, rfl, hl, cells_old fun j u hj => ?_⟩
      rw [bv_get, List.getElem?_map, List.getElem?_take] at hj
      split at hj
      · rename_i hjl
        have hjz : j < zs.length := by omega
        rw [List.getElem?_eq_getElem hjz] at hj
        simp only [Option.map_some, Option.some.injEq] at hj
        have h1 := hcell j hjz
        rw [add_none] at h1
        rw [h1, ← hj]
        have h2 := nat_of_u8 (hwf _ (List.getElem_mem hjz))
        have h3 : zs.getD j 0 = zs[j] := by simp [List.getD, List.getElem?_eq_getElem hjz]
        rw [h3, UInt8.toNat_ofNat', Nat.mod_eq_of_lt h2.2, ← h2.1]
      · simp at hj

set_option maxRecDepth 4000 in
theorem open_rec {fuel : Nat} {cs : List Value} {x : DataW H × List MemPlace} (h : DataW.trod enc Tryz.prog W 0 (fun _ => true) held fuel 46 cs = some x) : ∃ e : RE, cs = reCs e ∧ ReOk W e := by
  obtain ⟨xs, n, _, rfl, hl, hlen, hf⟩ := DataW.trod_struct Tryz.underlying46 h
  have hl : cs.length = 6 := hl.trans (by kernel_rfl)
  match cs, hl, xs, hlen with
  | [c0, c1, c2, c3, c4, c5], _, [y0, y1, y2, y3, y4], _ =>
    have f0 : DataW.trod enc Tryz.prog W 0 (fun _ => true) held n 36 [c0] = some y0 := hf 0 _ rfl
    have f1 : DataW.trod enc Tryz.prog W 0 (fun _ => true) held n 3 [c1] = some y1 := hf 1 _ rfl
    have f2 : DataW.trod enc Tryz.prog W 0 (fun _ => true) held n 42 [c2] = some y2 := hf 2 _ rfl
    have f3 : DataW.trod enc Tryz.prog W 0 (fun _ => true) held n 42 [c3] = some y3 := hf 3 _ rfl
    have f4 : DataW.trod enc Tryz.prog W 0 (fun _ => true) held n 44 [c4, c5] = some y4 := hf 4 _ rfl
    obtain ⟨z0, e0, _, w0⟩ := DataW.trod_int Tryz.underlying36 f0
    obtain ⟨z1, e1, _, w1⟩ := DataW.trod_int Tryz.underlying3 f1
    obtain ⟨ka, kc, key, e2, hK⟩ := open_bytes f2
    obtain ⟨va, vc, val, e3, hV⟩ := open_bytes f3
    obtain ⟨us, m, _, _, _, hul, hg⟩ := DataW.trod_struct Tryz.underlying44 f4
    match us, hul with
    | [u0, u1], _ =>
      have g0 : DataW.trod enc Tryz.prog W 0 (fun _ => true) held m 34 [c4] = some u0 := hg 0 _ rfl
      have g1 : DataW.trod enc Tryz.prog W 0 (fun _ => true) held m 34 [c5] = some u1 := hg 1 _ rfl
      obtain ⟨z4, e4, _, w4⟩ := DataW.trod_int Tryz.underlying34 g0
      obtain ⟨z5, e5, _, w5⟩ := DataW.trod_int Tryz.underlying34 g1
      refine ⟨⟨⟨z0.toNat, z1, key, val, z4.toNat, z5.toNat⟩, ka, va, kc, vc⟩, ?_, hK, hV⟩
      simp only [List.cons.injEq, and_true] at e0 e1 e2 e3 e4 e5
      subst e0 e1 e2 e3 e4 e5
      unfold reCs recCs
      dsimp only
      rw [← nat_of_u64 w0, ← nat_of_u32 w4, ← nat_of_u32 w5]

theorem open_recs {fuel : Nat} {cs : List Value} {x : DataW H × List MemPlace} (h : DataW.trod enc Tryz.prog W 0 (fun _ => true) held fuel 22 cs = some x) :
    ∃ (I : List RE) (a : Option Addr) (cap : Nat), cs = [.slice a I.length cap] ∧ RdIn W [] (.slice a I.length cap) 6 I.length (rflat I) ∧ ∀ e ∈ I, ReOk W e := by
  have c6 : Tryz.prog.cellsOf 46 = 6 := by kernel_rfl
  rcases open_slice Tryz.underlying22 h with ⟨rfl, rfl⟩ | ⟨a, len, cap, m, n, D, Pl, rfl, hb, hl, hm, hmm, rfl, hx⟩
  · exact ⟨[], none, 0, rfl, RdIn.nil, fun e he => by cases he⟩
  · simp only [if_true] at hmm
    subst hmm
    rw [c6] at hx
    have hxe : ∀ i, i < len → ∃ e : RE, W.cells? 0 (a.add (i * 6)) 6 = some (reCs e) ∧ ReOk W e := fun i hi => by
      obtain ⟨cs', h1, h2⟩ := hx i (by omega)
      obtain ⟨e, rfl, he⟩ := open_rec h2
      exact ⟨e, h1, he⟩
    obtain ⟨I, hI, hIe⟩ := list_of len hxe
    refine ⟨I, some a, m, by rw [hI], ⟨rflat_length I, by omega, ?_⟩, fun e he => ?_⟩
    · by_cases hc : m = 0
      · subst hc
        have : I.length = 0 := by omega
        rw [this]
        exact .inl ⟨some a, rfl, rfl⟩
      · have hcell : ∀ i cs', W.cells? 0 (a.add (i * 6)) 6 = some cs' → ∀ r, r < 6 → W.cell? ((a.add (i * 6)).add r) = cs'[r]? := fun i cs' h r hr => by
          unfold World.cells? at h
          rw [if_pos (Nat.zero_le _)] at h
          exact mapM_some_get h r r (by simp [hr])
        obtain ⟨cs0, h1, h2⟩ := hx 0 (by omega)
        obtain ⟨e0, rfl, _⟩ := open_rec h2
        have h0 := World.cell?_spot (hcell 0 _ h1 0 (by omega))
        obtain ⟨b, o, spot⟩ := a
        have hsp : spot = none := by simpa [Addr.add] using h0
        subst hsp
        refine .inr ⟨b, o, m, rfl, by omega, cells_old fun j u hj => ?_⟩
        have hjl : j < I.length * 6 := by
          have := (List.getElem?_eq_some_iff.1 hj).1
          rwa [rflat_length] at this
        obtain ⟨e, he⟩ : ∃ e, I[j / 6]? = some e := ⟨_, List.getElem?_eq_getElem (by omega)⟩
        have h3 := hcell (j / 6) _ (hIe _ e he).1 (j % 6) (Nat.mod_lt _ (by omega))
        rw [add_none, add_none, Nat.add_assoc, show j / 6 * 6 + j % 6 = j by omega] at h3
        rw [h3, ← rflat_at he, List.getElem?_take, if_pos (Nat.mod_lt _ (by omega)), List.getElem?_drop, show j / 6 * 6 + j % 6 = j by omega]
        exact hj
    · obtain ⟨i, hi⟩ := List.mem_iff_getElem?.1 he
      exact (hIe i e hi).2
end
end Go.Proofs.YthodbnmeggkkoaaGreatDoor
/-
  hourbooklaw11.SegFlip: the row.
-/
namespace Go.Proofs.YthodbnmeggkkoaaGreatDoor
open Go Go.RowKit Go.Hb Go.Proofs Go.ChangeShapes Go.WideShapes Go.ChangeAt

theorem own1 : ownKnob Tryz.prog.godebug = none := by kernel_rfl
theorem laidOut1 : laidOutB Tryz.prog = true := by kernel_rfl
def laid7 : List (String × DataW Unit) := [("hourbook/crc.half", Rows.laid_hourbook_crc_half), ("math/bits.deBruijn32tab", Rows.laid_math_bits_deBruijn32tab), ("math/bits.deBruijn64tab", Rows.laid_math_bits_deBruijn64tab), ("internal/strconv.uint64pow10", Rows.laid_internal_strconv_uint64pow10), ("strconv.ErrRange", Rows.laid_strconv_ErrRange), ("strconv.ErrSyntax", Rows.laid_strconv_ErrSyntax), ("hourbook/record.sizes", Rows.laid_hourbook_record_sizes)]

theorem cell_of_laid {W : World} {ps : List MemPlace} (hL : DataW.LaidVars Tryz.prog W laid7 ps) {n : String} {d : DataW Unit} {gi t e N : Nat} {k : IntKind} {L : List Int} (hm : (n, d) ∈ laid7) (hg : Tryz.prog.globalNamed n = some gi) (ht : (Tryz.prog.globals[gi]?).map (·.type) = some t)
    (hu : Tryz.prog.underlying t = some (.array N e)) (he : Tryz.prog.underlying e = some (.int k)) (hc : Tryz.prog.cellsOf e = 1) (hd : d = .agg (L.map fun z => .lit (.int k z))) : ∀ (j : Nat) z, L[j]? = some z → W.cell? ⟨gi, j, none⟩ = some (.int k z) := by
  obtain ⟨g, t', cs, fuel, p, h1, h2, h3, h4⟩ := laid_mem hL n d hm
  obtain rfl := Option.some.inj (hg.symm.trans h1)
  obtain rfl := Option.some.inj (ht.symm.trans h2)
  subst hd
  intro j z hj
  have h5 := arr_ints hu he hc h4 j z hj
  rw [World.var?_cell hg h3 j]
  simpa using h5

theorem of_laid {W : World} (h : laidMetH Tryz.prog laid7 W) : TabsG W := by
  rw [MakeChecks.laidMetH_plain _ _ _ (by kernel_rfl)] at h
  obtain ⟨ps, hL, _, _⟩ := h
  have hh := cell_of_laid hL (L := half.map fun (n : Nat) => (n : Int)) (.head _) (gi := 5) (by kernel_rfl) (t := 238) (by kernel_rfl) Tryz.underlying238 Tryz.underlying34 (by kernel_rfl) rfl
  have hd := cell_of_laid hL (L := de64.map fun (n : Nat) => (n : Int)) (.tail _ (.tail _ (.head _))) (gi := 7) (by kernel_rfl) (t := 249) (by kernel_rfl) Tryz.underlying249 Tryz.underlying5 (by kernel_rfl) rfl
  have hs := cell_of_laid hL (L := [1, 1, 2, 6, 3, 4]) (.tail _ (.tail _ (.tail _ (.tail _ (.tail _ (.tail _ (.head _))))))) (gi := 0) (by kernel_rfl) (t := 145) (by kernel_rfl) Tryz.underlying145 Tryz.underlying3 (by kernel_rfl) rfl
  refine ⟨fun i hi => hh i _ ?_, ⟨hs 0 _ rfl, hs 1 _ rfl, hs 2 _ rfl, hs 3 _ rfl, hs 4 _ rfl, hs 5 _ rfl⟩, fun j v hv => ?_⟩
  · have hl : i < half.length := hi
    rw [List.getElem?_map, List.getD_eq_getElem?_getD, List.getElem?_eq_getElem hl]; rfl
  · rw [List.getElem?_map] at hv
    cases hx : de64[j]? with
    | none => rw [hx] at hv; cases hv
    | some z =>
      rw [hx] at hv
      cases hv
      exact hd j _ (by rw [List.getElem?_map, hx]; rfl)

theorem door_met (os : Os) (args : Array Value) : laidMetH Tryz.prog laid7 ((World.doorLaid Tryz.prog 400 os).forCall (fun _ _ => 0) ⟨#[], args, []⟩).memory :=
  laidMetH_of_parts3 (fuel := 8) (laidMet_of_run' 8 (by kernel_rfl) (by kernel_rfl)) (by kernel_rfl) (by kernel_rfl)

set_option maxRecDepth 100000 in
theorem segFlip_lifted (os : Os) (started : os.Started) (H : Type) (enc : TypeId × Value → H) :
    ReturnsInHanded {} Tryz.checked os 3 .any (fun w args => (Rows.segFlipSpec.pre enc Tryz.prog Tryz.f3 [] false w args ∧ laidMetH Tryz.prog laid7 w) ∧ sizedMet enc Tryz.prog Tryz.f3 (OpenSpec.ofChange Rows.segFlipSpec) false w args)
      (Rows.segFlipSpec.post enc Tryz.prog Tryz.f3 false true false false) := by
  refine returnsInHanded_of_change_and (C := Tryz.checked) (X := fun w _ => laidMetH Tryz.prog laid7 w) (fun _ _ _ hh h => h.of_heap hh) own1 started (by kernel_rfl) Tryz.func3
    (ChangeSpec.witness_shaped (enc := enc) (C := Tryz.checked) (os := os) (X := fun w _ => laidMetH Tryz.prog laid7 w) false (World.doorLaid Tryz.prog 400 os) #[.slice none 0 0, .int .u16 0, .int .u8 0] 8 rfl (World.shaped_of_RefB (by kernel_rfl) (by kernel_rfl)) (by kernel_rfl) (by kernel_rfl) (by kernel_rfl) (door_met os _)) ?_
  intro W base args ds gs before hval0 hW _ _ hL _
  have hval : ∀ (j : Nat) t v, Tryz.f3.params[j]? = some t → args[j]? = some v → Value.okWide Tryz.prog W .any base t v := hval0
  have hW' := hW
  obtain ⟨p, q, hA0, hV, rfl, hfz, hnd⟩ := hW
  have hA : DataW.TrodAll enc Tryz.prog W 0 (fun _ => true) true Tryz.f3.params.toList args.toList ds p := hA0
  rw [Tryz.params3] at hA hval
  obtain ⟨v0, v1, v2, d0, d1, d2, p0, p1, p2, rfl, rfl, rfl, h0, h1, h2⟩ := trodAll_three hA
  obtain ⟨rfl, rfl⟩ := trodVars_none hV
  obtain ⟨n1, rfl, rfl, rfl, w1⟩ := open_int Tryz.underlying23 (hval 1 _ v1 rfl rfl) h1
  obtain ⟨n2, rfl, rfl, rfl, w2⟩ := open_int Tryz.underlying5 (hval 2 _ v2 rfl rfl) h2
  have h0' := h0
  obtain ⟨fuel, h0'⟩ := h0'
  obtain ⟨I, a, cap, hv0, hI, hk⟩ := open_recs h0'
  obtain ⟨a', len', cap', rfl⟩ := okWide_slice Tryz.underlying22 (hval 0 _ v0 rfl rfl)
  have ev : Value.slice a' len' cap' = .slice a I.length cap := by simpa [Value.cells] using hv0
  rw [ev] at h0 hW' ⊢
  obtain ⟨hm1, hm1'⟩ := nat_of_u16 w1
  obtain ⟨hm2, hm2'⟩ := nat_of_u8 w2
  generalize hq1 : n1.toNat = m1 at hm1 hm1'
  generalize hq2 : n2.toNat = m2 at hm2 hm2'
  subst hm1
  subst hm2
  refine Calls.mono (segFlip_spec (of_laid hL) hI hk hm1' hm2' W ⟨Below.refl _ _, trivial⟩) fun e W' ⟨u, he, hu, hS⟩ => ?_
  subst hu
  refine ⟨_, he, _, _, _, [], p0 ++ ([] ++ []), [], hW', ?_, ?_, rfl, hS.below.frame _, fun h => by cases h⟩
  · exact trodAll_mk1 (shut_bool Tryz.underlying4 true)
  · have hb := hS.below
    exact trodAll_mk3 (Below.trod laidOut1 (by kernel_rfl) (of_decide_eq_true (by kernel_rfl)) h0 hb (fun x hx => by obtain ⟨n, hn⟩ := h0; exact DataW.trod_lt n _ _ _ hn x hx))
      (shut_int Tryz.underlying23 w1) (shut_int Tryz.underlying5 w2)

theorem segFlip_holds : Rows.SegFlipSaid :=
  OpenClaim.holds_of_wide 3 Tryz.f3 rfl rfl rfl rfl rfl rfl rfl ⟨rfl, rfl, rfl, rfl, rfl⟩ rfl rfl rfl rfl rfl (by kernel_rfl) Tryz.func3 (by kernel_rfl)
    (of_decide_eq_true (by kernel_rfl)) (by unfold Func.isWrapper; (rw [if_neg (by decide +kernel)]; exact ⟨rfl, rfl⟩))
    (fun os started H enc _ => segFlip_lifted os started H enc)
end Go.Proofs.YthodbnmeggkkoaaGreatDoor
