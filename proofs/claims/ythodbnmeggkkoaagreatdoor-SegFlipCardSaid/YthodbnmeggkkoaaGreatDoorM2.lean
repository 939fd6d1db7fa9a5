/-
  Part 2 of the texts that the claim leans on: A13 B1 B2 C1 C2 C3 C4 C5 C6 C7 C8 C9 D1.
-/
import Derived.Test.YthodbnmeggkkoaaGreatDoorM1
import Derived.Laws.BytesString
import Derived.Laws.IdiomStrings
/-
  More rules (generic in the program): a slice literal of constants; []byte of a []byte; strings put together, taken out of bytes.
-/
namespace Go.Hb
open Go Go.RowKit

section
variable {P : Program} {n : Nat} {fr : Fr} {g : World} {L : List HP} {K : Fr → World → Prop} {X : Ks} {ops : Array Oper}
variable {d : Nat} {ty : TypeId} {ps : String} {af : Array Edge} {rest : List Oper}

theorem fill_lits : ∀ (l pre : List Value) (B : Array Value), (∀ v ∈ l, v.cells = #[v]) → B.size = pre.length + l.length → B.toList.take pre.length = pre →
    Instr.fill (fun i => some (i * 1, 1)) B ((l.zipIdx pre.length).map fun p => (p.2, p.1)) = some (pre ++ l).toArray := by
  intro l
  induction l with
  | nil =>
    intro pre B _ hs ht
    simp only [List.zipIdx_nil, List.map_nil, Instr.fill, List.append_nil, Option.some.injEq]
    apply Array.ext'
    simp only [List.length_nil, Nat.add_zero] at hs
    rw [← ht, ← hs]; exact (List.take_of_length_le (by simp)).symm
  | cons x l ih =>
    intro pre B hv hs ht
    have hx := hv x List.mem_cons_self
    simp only [List.length_cons] at hs
    simp only [List.zipIdx_cons, List.map_cons, Instr.fill, Nat.mul_one, hx]
    have hlt : ¬ (pre.length + 1 > B.size) := by omega
    simp only [List.size_toArray, List.length_singleton, ne_eq, not_true_eq_false, decide_false, Bool.false_or]
    rw [if_neg (by simpa using hlt)]
    have := ih (pre ++ [x]) (B.setIfInBounds pre.length x) (fun v hv' => hv v (List.mem_cons_of_mem _ hv')) (by simp; omega) (by
      rw [Array.toList_setIfInBounds, List.length_append, List.length_singleton]
      rw [List.take_add_one, List.take_set, List.set_eq_of_length_le (by simp; exact Nat.min_le_left _ _), ht]
      congr 1
      rw [List.getElem?_set_self (by simp; omega)]; rfl)
    simp only [List.length_append, List.length_singleton, List.append_assoc, List.singleton_append, Nat.mul_one] at this
    simpa using this

theorem buildSlice_lits {T E bytes : Nat} {z : Value} {vs : List Value} (hT : SlT P T E 1 bytes z) (hz1 : z.cells = #[z]) (hv : ∀ v ∈ vs, v.cells = #[v]) (hk1 : 0 < vs.length) (hk2 : vs.length ≤ 16777216) :
    BuildSliceV P T E vs.length (vs.zipIdx.map fun p => (p.2, p.1)) vs := by
  intro w
  obtain ⟨inf, hinf, hz, hsize, hbytes⟩ := hT.info
  have hz0 : (zeroValue E).run P w = .ok z w := by simp [zeroValue, typeInfo, hinf, hz]
  have hf : Instr.fill (fun i => some (i * 1, 1)) ((Array.range (vs.length * 1)).map (z.cells[· % z.cells.size]!)) (vs.zipIdx.map fun p => (p.2, p.1)) = some vs.toArray := fill_lits vs [] _ hv (by simp) (by simp)
  have hne : ¬ (vs.length * 1 = 0) := by omega
  have hbig : ¬ (vs.length * 1 > 2 ^ 24) := by omega
  simp only [Instr.buildSlice, underlying, Sem.run_bind, run_program, Result.andThen_ok, hT.und, Sem.run_pure, hT.size w, hbig, if_false, hne, hz0, hf, newRow, run_newObj]
  rfl

theorem run_mark {w : World} {b o : Nat} {cl : List Value} {T : TypeId} (h : w.heap[b]? = some (.cells cl.toArray T (0, 0))) : (markStringish ⟨b, o, none⟩).run P w = .ok () (setBlk w b (.cells cl.toArray T (cl.length, cl.length + 1))) := by
  have hlt : b < w.heap.size := by
    rcases Nat.lt_or_ge b w.heap.size with h' | h'
    · exact h'
    · rw [Array.getElem?_eq_none h'] at h; cases h
  have hb : w.heap[b] = .cells cl.toArray T (0, 0) := by rw [Array.getElem?_eq_getElem hlt] at h; exact Option.some.inj h
  simp only [markStringish, shape, Sem.run_bind, Sem.run, World.shape?, h, Result.andThen_ok, freeze]
  simp only [World.freeze, Nat.add_eq, List.size_toArray]
  rw [if_neg (by omega)]
  simp only [setBlk]
  congr 2
  apply Array.ext_getElem?
  intro i
  rw [Array.getElem?_modify, Array.getElem?_setIfInBounds]
  by_cases e : b = i
  · subst e; simp [hlt, hb]
  · simp [e]

/-- []byte of a []byte: the same slice; its block is marked. -/
theorem s_convMark {T E i b o m c : Nat} {x : Operand} {cl : List Value} {T' : TypeId} (hu : P.underlying T = some (.slice E)) (he : P.underlying E = some (.int .u8)) (hd : Nat.blt d n = true) (hx : evO fr x = some (.slice (some ⟨b, o, none⟩) m c))
    (hi : L[i]? = some (pt b (.cells cl.toArray T' (0, 0)))) (h : SXs P n ops rest ((d, .slice (some ⟨b, o, none⟩) m c) :: fr) g (L.set i (pt b (.cells cl.toArray T' (cl.length, cl.length + 1)))) K X) :
    SXs P n ops (⟨some d, .convert T T x, ty, ps, af, none⟩ :: rest) fr g L K X :=
  s_genW (Q := fun v' w' => v' = .slice (some ⟨b, o, none⟩) m c ∧ St g w' (L.set i (pt b (.cells cl.toArray T' (cl.length, cl.length + 1))))) (by simpa [dstOk] using hd) (fun a w ha hw => by
    refine ⟨_, _, .inl ?_, rfl, hw.set (o' := .cells cl.toArray T' (cl.length, cl.length + 1)) hi⟩
    simp [execOp, ha.evO hx, convert, underlying, hu, he, run_mark (hw.get hi).2]) (fun v w ⟨e, hS⟩ => by subst e; exact h w hS)

theorem s_addStr {x y : Operand} {t yt : TypeId} {a b : ByteArray} (hd : Nat.blt d n = true) (hx : evO fr x = some (.string a)) (hy : evO fr y = some (.string b)) (hs : a.size + b.size ≤ 9223372036854775807)
    (h : SXs P n ops rest ((d, .string (a ++ b)) :: fr) g L K X) : SXs P n ops (⟨some d, .binOp .add t x y yt, ty, ps, af, none⟩ :: rest) fr g L K X :=
  s_gen hd (fun a' w hag _ => by
    have h1 : ¬ (((a.size + b.size : Nat) : Int) > IntKind.i64.max) := by simp [IntKind.max, IntKind.signed, IntKind.bits]; omega
    simp only [execOp, hag.evO hx, hag.evO hy, eqGuard, binOp, Op.stringOp, Sem.run_bind]
    simp [h1]; omega) h

end
end Go.Hb
namespace Go.Hb
open Go Go.RowKit
/-! ### Where all is known: each operation with its outcome written out -/
section
variable {P : Program} {n : Nat} {fr : Fr} {g : World} {L : List HP} {K : Fr → World → Prop} {X : Ks} {ops : Array Oper}
variable {d : Nat} {ty : TypeId} {ps : String} {af : Array Edge} {rest : List Oper}

theorem WPs_condT {c : Operand} {x y : Code} (hc : evO fr c = some (.bool true)) (h : WPs P n x fr g L K X) : WPs P n (.cond c x y) fr g L K X := WPs_cond hc (fun _ => h) (fun e => by cases e)
theorem WPs_condF {c : Operand} {x y : Code} (hc : evO fr c = some (.bool false)) (h : WPs P n y fr g L K X) : WPs P n (.cond c x y) fr g L K X := WPs_cond hc (fun e => by cases e) (fun _ => h)

variable {x y : Operand} {t yt : TypeId} {k : IntKind} {a b : Int} {r : Bool}
theorem c_lss (r : Bool) (hd : Nat.blt d n = true) (hx : evO fr x = some (.int k a)) (hy : evO fr y = some (.int k b)) (hr : decide (a < b) = r) (h : SXs P n ops rest ((d, .bool r) :: fr) g L K X) : SXs P n ops (⟨some d, .binOp .lss t x y yt, ty, ps, af, none⟩ :: rest) fr g L K X := s_lss hd hx hy (hr ▸ h)
theorem c_leq (r : Bool) (hd : Nat.blt d n = true) (hx : evO fr x = some (.int k a)) (hy : evO fr y = some (.int k b)) (hr : decide (a ≤ b) = r) (h : SXs P n ops rest ((d, .bool r) :: fr) g L K X) : SXs P n ops (⟨some d, .binOp .leq t x y yt, ty, ps, af, none⟩ :: rest) fr g L K X := s_leq hd hx hy (hr ▸ h)
theorem c_gtr (r : Bool) (hd : Nat.blt d n = true) (hx : evO fr x = some (.int k a)) (hy : evO fr y = some (.int k b)) (hr : decide (b < a) = r) (h : SXs P n ops rest ((d, .bool r) :: fr) g L K X) : SXs P n ops (⟨some d, .binOp .gtr t x y yt, ty, ps, af, none⟩ :: rest) fr g L K X := s_gtr hd hx hy (hr ▸ h)
theorem c_geq (r : Bool) (hd : Nat.blt d n = true) (hx : evO fr x = some (.int k a)) (hy : evO fr y = some (.int k b)) (hr : decide (b ≤ a) = r) (h : SXs P n ops rest ((d, .bool r) :: fr) g L K X) : SXs P n ops (⟨some d, .binOp .geq t x y yt, ty, ps, af, none⟩ :: rest) fr g L K X := s_geq hd hx hy (hr ▸ h)
theorem c_eql (r : Bool) (hd : Nat.blt d n = true) (hx : evO fr x = some (.int k a)) (hy : evO fr y = some (.int k b)) (hr : decide (a = b) = r) (h : SXs P n ops rest ((d, .bool r) :: fr) g L K X) : SXs P n ops (⟨some d, .binOp .eql t x y yt, ty, ps, af, none⟩ :: rest) fr g L K X := s_eql hd hx hy (hr ▸ h)
theorem c_neq (r : Bool) (hd : Nat.blt d n = true) (hx : evO fr x = some (.int k a)) (hy : evO fr y = some (.int k b)) (hr : (!decide (a = b)) = r) (h : SXs P n ops rest ((d, .bool r) :: fr) g L K X) : SXs P n ops (⟨some d, .binOp .neq t x y yt, ty, ps, af, none⟩ :: rest) fr g L K X := s_neq hd hx hy (hr ▸ h)
theorem c_bin (op : BinOp) (c : Int) (hop : op = .and ∨ op = .or ∨ op = .xor ∨ op = .andNot ∨ op = .quo ∨ op = .rem) (hd : Nat.blt d n = true) (hx : evO fr x = some (.int k a)) (hy : evO fr y = some (.int k b)) (hr : ∀ w, (binOp op t (.int k a) (.int k b)).run P w = .ok (.int k c) w) (h : SXs P n ops rest ((d, .int k c) :: fr) g L K X) :
    SXs P n ops (⟨some d, .binOp op t x y yt, ty, ps, af, none⟩ :: rest) fr g L K X :=
  s_gen hd (fun a' w hag _ => by
    have e : (eqGuard op t x y (.int k a) (.int k b)).run P w = .ok () w := run_eqGuard_int op t x y k k a b w
    simp only [execOp, hag.evO hx, hag.evO hy, Sem.run_bind, e, Result.andThen_ok, hr w, Sem.run_pure]) h
theorem c_strEq (r : Bool) {p q : ByteArray} (hd : Nat.blt d n = true) (hx : evO fr x = some (.string p)) (hy : evO fr y = some (.string q)) (hr : decide (p = q) = r) (h : SXs P n ops rest ((d, .bool r) :: fr) g L K X) : SXs P n ops (⟨some d, .binOp .eql t x y yt, ty, ps, af, none⟩ :: rest) fr g L K X := s_eql_str hd hx hy (hr ▸ h)
theorem c_strNeq (r : Bool) {p q : ByteArray} (hd : Nat.blt d n = true) (hx : evO fr x = some (.string p)) (hy : evO fr y = some (.string q)) (hr : (!decide (p = q)) = r) (h : SXs P n ops rest ((d, .bool r) :: fr) g L K X) : SXs P n ops (⟨some d, .binOp .neq t x y yt, ty, ps, af, none⟩ :: rest) fr g L K X := s_neq_str hd hx hy (hr ▸ h)
theorem c_strAdd (c : ByteArray) {p q : ByteArray} (hd : Nat.blt d n = true) (hx : evO fr x = some (.string p)) (hy : evO fr y = some (.string q)) (hs : Nat.ble (p.size + q.size) 9223372036854775807 = true) (hr : p ++ q = c) (h : SXs P n ops rest ((d, .string c) :: fr) g L K X) : SXs P n ops (⟨some d, .binOp .add t x y yt, ty, ps, af, none⟩ :: rest) fr g L K X := s_addStr hd hx hy (Nat.le_of_ble_eq_true hs) (hr ▸ h)
theorem c_boolEq (r : Bool) {p q : Bool} (hu : P.underlying t = some .bool) (hd : Nat.blt d n = true) (hx : evO fr x = some (.bool p)) (hy : evO fr y = some (.bool q)) (hr : (p == q) = r) (h : SXs P n ops rest ((d, .bool r) :: fr) g L K X) : SXs P n ops (⟨some d, .binOp .eql t x y yt, ty, ps, af, none⟩ :: rest) fr g L K X := s_eqlV hd hx hy (eq_bool hu) (hr ▸ h)
theorem c_not (r : Bool) {p : Bool} (hd : Nat.blt d n = true) (hx : evO fr x = some (.bool p)) (hr : (!p) = r) (h : SXs P n ops rest ((d, .bool r) :: fr) g L K X) : SXs P n ops (⟨some d, .unOp .not t x, ty, ps, af, none⟩ :: rest) fr g L K X := s_not hd hx (hr ▸ h)
theorem eq_nilIface_in {ms : Array (String × TypeId)} (hu : P.underlying t = some (.interface ms)) (m : Nat) (w : World) : (Op.equalIn (m + 1) t .nilIface .nilIface).run P w = .ok true w := by
  simp [Op.equalIn, underlying, hu]
theorem eq_nilIface {ms : Array (String × TypeId)} (hu : P.underlying t = some (.interface ms)) (w : World) : (Op.equal t .nilIface .nilIface).run P w = .ok true w := eq_nilIface_in hu 9999 w
/-- x != nil, x an interface value that is nil. -/
theorem c_ifcNeq {ms : Array (String × TypeId)} (hu : P.underlying t = some (.interface ms)) (hd : Nat.blt d n = true) (hx : evO fr x = some .nilIface) (h : SXs P n ops rest ((d, .bool false) :: fr) g L K X) : SXs P n ops (⟨some d, .binOp .neq t x (.const .nilIface) yt, ty, ps, af, none⟩ :: rest) fr g L K X :=
  s_gen hd (fun a' w hag _ => by
    have e : a'.eval (.const .nilIface) = .nilIface := rfl
    have hg : (eqGuard .neq t x (.const .nilIface) .nilIface .nilIface).run P w = .ok () w := by simp [eqGuard]
    have hb : binOp .neq t .nilIface .nilIface = (do pure (.bool (!(← Op.equal t .nilIface .nilIface)))) := rfl
    simp only [execOp, hag.evO hx, e, Sem.run_bind, hg, Result.andThen_ok, hb, eq_nilIface hu, Sem.run_pure, Bool.not_true]) h
theorem c_lenStr (c : Int) {ats : Array TypeId} {T : TypeId} {s : ByteArray} (hat : ats[0]? = some T) (hu : P.underlying T = some .string) (hd : Nat.blt d n = true) (hx : evO fr x = some (.string s)) (hc : (s.size : Int) = c)
    (h : SXs P n ops rest ((d, .int .i64 c) :: fr) g L K X) : SXs P n ops (⟨some d, .call ⟨.builtin .len, #[x], ats⟩, ty, ps, af, none⟩ :: rest) fr g L K X := s_lenStr hat hu hd hx (hc ▸ h)
theorem c_idxStr (c : Int) {T : TypeId} {s : ByteArray} {j : Nat} {kd : IntKind} {i : Int} (hu : P.underlying T = some .string) (hd : Nat.blt d n = true) (hx : evO fr x = some (.string s)) (hy : evO fr y = some (.int kd i)) (hj : i = (j : Int)) (hr : (s[j]?).map (fun b => (b.toNat : Int)) = some c)
    (h : SXs P n ops rest ((d, .int .u8 c) :: fr) g L K X) : SXs P n ops (⟨some d, .index T x y, ty, ps, af, none⟩ :: rest) fr g L K X :=
  s_gen hd (fun a' w hag _ => by
    subst hj
    cases hs : s[j]? with
    | none => rw [hs] at hr; cases hr
    | some bb =>
      rw [hs] at hr
      have hr' : (bb.toNat : Int) = c := by simpa using hr
      simp [execOp, hag.evO hx, hag.evO hy, Instr.index, asIntOf, underlying, hu, hs, hr']) h
theorem c_sliceStr (c : ByteArray) {T : TypeId} {s : ByteArray} {lo hi : Option Operand} {vlo vhi : Option Value} {l m : Nat} (hu : P.underlying T = some .string) (hd : Nat.blt d n = true) (hx : evO fr x = some (.string s))
    (hlo : evOpt fr lo vlo) (hhi : evOpt fr hi vhi) (hl : vlo = some (.int .i64 (l : Int)) ∨ (vlo = none ∧ l = 0)) (hh : vhi = some (.int .i64 (m : Int)) ∨ (vhi = none ∧ m = s.size)) (h1 : Nat.ble l m = true) (h2 : Nat.ble m s.size = true) (hr : s.extract l m = c)
    (h : SXs P n ops rest ((d, .string c) :: fr) g L K X) : SXs P n ops (⟨some d, .slice T x lo hi none, ty, ps, af, none⟩ :: rest) fr g L K X :=
  s_gen hd (fun a' w hag _ => by
    have h1' := Nat.le_of_ble_eq_true h1
    have h2' := Nat.le_of_ble_eq_true h2
    subst hr
    rcases hl with rfl | ⟨rfl, rfl⟩ <;> rcases hh with rfl | ⟨rfl, rfl⟩ <;>
    simp [execOp, hag.evO hx, hag.evOpt hlo, hag.evOpt hhi, Instr.sliceAt, Instr.slice, underlying, hu, Instr.sliceBounds, Instr.sliceBound, asIntOf, h1', h2']) h
/-- An array's element, its place written out. -/
theorem c_idxArr (o' : Nat) {T E k m : Nat} {b o : Nat} {kd : IntKind} {i : Int} (hu : P.underlying T = some (.array m E)) (hs : ∀ w, (sizeOf E).run P w = .ok k w) (hd : Nat.blt d n = true) (hx : evO fr x = some (.pointer (some ⟨b, o, none⟩))) (hy : evO fr y = some (.int kd i))
    (h0 : 0 ≤ i) (h1 : i < m) (ho : o + i.toNat * k = o') (h : SXs P n ops rest ((d, .pointer (some ⟨b, o', none⟩)) :: fr) g L K X) : SXs P n ops (⟨some d, .indexAddr T x y, ty, ps, af, none⟩ :: rest) fr g L K X := s_idxArr hu hs hd hx hy h0 h1 (ho ▸ h)
/-- A part of an array of bytes. -/
theorem c_sliceArr (l m : Nat) {T E N b o : Nat} {lo hi : Option Operand} {vlo vhi : Option Value} (hu : P.underlying T = some (.array N E)) (hs : ∀ w, (sizeOf E).run P w = .ok 1 w) (hd : Nat.blt d n = true) (hx : evO fr x = some (.pointer (some ⟨b, o, none⟩)))
    (hlo : evOpt fr lo vlo) (hhi : evOpt fr hi vhi) (hl : vlo = some (.int .i64 (l : Int)) ∨ (vlo = none ∧ l = 0)) (hh : vhi = some (.int .i64 (m : Int)) ∨ (vhi = none ∧ m = N)) (h1 : Nat.blt l m = true) (h2 : Nat.ble m N = true)
    (h : SXs P n ops rest ((d, .slice (some ⟨b, o + l, none⟩) (m - l) (N - l)) :: fr) g L K X) : SXs P n ops (⟨some d, .slice T x lo hi none, ty, ps, af, none⟩ :: rest) fr g L K X :=
  s_gen hd (fun a' w hag _ => by
    have h1' : l < m := Nat.le_of_ble_eq_true h1
    have h2' := Nat.le_of_ble_eq_true h2
    have hne : ¬ N = l := by omega
    have hle : l ≤ m := by omega
    rcases hl with rfl | ⟨rfl, rfl⟩ <;> rcases hh with rfl | ⟨rfl, rfl⟩ <;>
    simp [execOp, hag.evO hx, hag.evOpt hlo, hag.evOpt hhi, Instr.sliceAt, underlying, hu, Instr.sliceBounds, Instr.sliceBound, asIntOf, Instr.sureAddr, hle, h2', hs, hne, add_none]) h

theorem foldl_push (bs : List UInt8) : ∀ s : ByteArray, (bs.map fun c => (c.toNat : Int)).foldl (fun r n => r.push (UInt8.ofNat n.toNat)) s = ⟨(s.data.toList ++ bs).toArray⟩ := by
  induction bs with
  | nil => intro s; simp
  | cons c bs ih =>
    intro s
    simp only [List.map_cons, List.foldl_cons]
    rw [ih]
    simp [ByteArray.push]
/-- The bytes of a slice, as a string. -/
theorem c_b2s {src dst E : TypeId} {v : Value} {m : Nat} {bs : List UInt8} (hs : P.underlying src = some (.slice E)) (he : P.underlying E = some (.int .u8)) (hdt : P.underlying dst = some .string) (hd : Nat.blt d n = true) (hx : evO fr x = some v)
    (hR : RdIn g L v 1 m (bs.map fun c => .int .u8 (c.toNat : Int))) (h : SXs P n ops rest ((d, .string ⟨bs.toArray⟩) :: fr) g L K X) : SXs P n ops (⟨some d, .convert src dst x, ty, ps, af, none⟩ :: rest) fr g L K X :=
  s_gen hd (fun a' w hag hw => by
    obtain ⟨hl, _, hv⟩ := hR
    have hlen : m = bs.length := by simpa using hl.symm
    rcases hv with ⟨az, rfl, rfl⟩ | ⟨b, o, cap, rfl, hc, hcs⟩
    · have hb : bs = [] := List.eq_nil_of_length_eq_zero hlen.symm
      subst hb
      cases az <;> simp [execOp, hag.evO hx, run_convert_bytes_string w src dst E _ 0 0 hs he hdt, Conv.bytesToString, loadCells, loadCellsFrom, ByteArray.empty, ByteArray.emptyWithCapacity]
      all_goals first | rfl | exact Array.ext' rfl | (simp [Array.emptyWithCapacity]; done) | decide
    · have h1 : (loadCells ⟨b, o, none⟩ m).run P w = .ok ((bs.map fun c => (c.toNat : Int)).map (Value.int .u8)).toArray w := by
        have := run_loadCellsFrom (P := P) (w := w) (a := ⟨b, o, none⟩) (bs.map fun c => .int .u8 (c.toNat : Int)) 0 #[] (fun j v hj => by rw [add_none, Nat.zero_add]; exact hcs w hw j v hj)
        rw [List.length_map, ← hlen] at this
        unfold loadCells
        rw [this]; simp
      have h2 := run_bytesToString (P := P) w ⟨b, o, none⟩ m cap _ h1
      rw [foldl_push] at h2
      simp only [execOp, hag.evO hx, Sem.run_bind, run_convert_bytes_string w src dst E (some ⟨b, o, none⟩) m cap hs he hdt, h2, Result.andThen_ok, Sem.run_pure]
      simp [ByteArray.empty, ByteArray.emptyWithCapacity]
      try rfl) h

/-- []byte of a string: a new block, of which only what it reads is known. -/
theorem c_s2b {src dst E : TypeId} {bs : List UInt8} (hs : P.underlying src = some .string) (hdt : P.underlying dst = some (.slice E)) (he : P.underlying E = some (.int .u8)) (hd : Nat.blt d n = true) (hx : evO fr x = some (.string ⟨bs.toArray⟩)) (hl : bs.length ≤ maxLen)
    (h : ∀ va vc (Q : HP), RdIn g (Q :: L) (.slice va bs.length vc) 1 bs.length (bs.map fun c => .int .u8 (c.toNat : Int)) → SXs P n ops rest ((d, .slice va bs.length vc) :: fr) g (Q :: L) K X) : SXs P n ops (⟨some d, .convert src dst x, ty, ps, af, none⟩ :: rest) fr g L K X :=
  s_genW (Q := fun v w' => ∃ (b c : Nat) (cl : List Value) (fz : Nat × Nat), v = .slice (some ⟨b, 0, none⟩) bs.length c ∧ bs.length ≤ c ∧ (∀ (j : Nat) (u : Value), (bs.map fun c => Value.int .u8 (c.toNat : Int))[j]? = some u → cl[j]? = some u) ∧ St g w' (pt b (.cells cl.toArray E fz) :: L)) (by simpa [dstOk] using hd) (fun a' w hag hw => by
    have hr := run_bytes_of_string (P := P) w src dst E ⟨bs.toArray⟩ hs hdt he
    have hsz : (ByteArray.mk bs.toArray).size = bs.length := by simp [ByteArray.size]
    rw [hsz] at hr
    have hge := grownCap_ge w bs.length 0 E
    refine ⟨_, _, .inl (by simp only [execOp, hag.evO hx, Sem.run_bind, hr, Result.andThen_ok, Sem.run_pure]; rfl), w.heap.size, _, (bytesRow ⟨bs.toArray⟩ (grownCap w bs.length 0 E)).toList, _, rfl, hge, ?_, by rw [Array.toArray_toList]; exact hw.drew.alloc _⟩
    intro j u hj
    have hj' : j < bs.length := by have := (List.getElem?_eq_some_iff.1 hj).1; simpa using this
    simp only [bytesRow, Array.toList_append, Array.toList_map]
    rw [List.getElem?_append_left (by simpa using hj')]
    exact hj) (fun v w ⟨b, c, cl, fz, e, hc, hcl, hS⟩ => by
    subst e
    refine h (some ⟨b, 0, none⟩) c (pt b (.cells cl.toArray E fz)) ⟨by simp, hl, .inr ⟨b, 0, c, rfl, hc, fun w' hw' j u hj => ?_⟩⟩ w hS
    rw [cell_of (hw'.get (i := 0) rfl).2, Nat.zero_add]
    exact hcl j u hj)

/-! ### Strings ranged over -/

theorem run_getSit {w : World} {b : Nat} {s : ByteArray} {p : Nat} (h : w.heap[b]? = some (.stringIter s p)) : (getObj b).run P w = .ok (.stringIter s p) w := by
  simp only [getObj, Sem.run, h]
theorem run_setSit {w : World} {b : Nat} {s : ByteArray} {p : Nat} {o : Obj} (h : w.heap[b]? = some (.stringIter s p)) : (setObj b o).run P w = .ok () (setBlk w b o) := by
  simp only [setObj, Sem.run, h]; rfl
theorem c_rangeStr {T : TypeId} {s : ByteArray} (hu : P.underlying T = some .string) (hd : Nat.blt d n = true) (hx : evO fr x = some (.string s))
    (h : ∀ b, SXs P n ops rest ((d, .pointer (some ⟨b, 0, none⟩)) :: fr) g (pt b (.stringIter s 0) :: L) K X) : SXs P n ops (⟨some d, .range T x, ty, ps, af, none⟩ :: rest) fr g L K X :=
  s_genW (Q := fun v w' => ∃ b, v = .pointer (some ⟨b, 0, none⟩) ∧ St g w' (pt b (.stringIter s 0) :: L)) (by simpa [dstOk] using hd) (fun a' w hag hw => by
    refine ⟨_, _, .inl ?_, w.heap.size, rfl, hw.alloc (.stringIter s 0)⟩
    simp only [execOp, hag.evO hx, Instr.range, underlying, Sem.run_bind, run_program, Result.andThen_ok, hu, Sem.run_pure, run_newObj_alloc]) (fun v w ⟨b, e, hS⟩ => by subst e; exact h b w hS)
theorem c_nextStr {i b pos : Nat} {s : ByteArray} (c : Nat) (hd : Nat.blt d n = true) (hx : evO fr x = some (.pointer (some ⟨b, 0, none⟩))) (hi : L[i]? = some (pt b (.stringIter s pos))) (hp : Nat.blt pos s.size = true) (hdec : Utf8.decode s pos = (c, 1))
    (h : SXs P n ops rest ((d, .tuple [.bool true, .int .i64 (pos : Int), .int .i32 (c : Int)].toArray) :: fr) g (L.set i (pt b (.stringIter s (pos + 1)))) K X) : SXs P n ops (⟨some d, .next x true, ty, ps, af, none⟩ :: rest) fr g L K X :=
  s_genW (Q := fun v w' => v = .tuple [.bool true, .int .i64 (pos : Int), .int .i32 (c : Int)].toArray ∧ St g w' (L.set i (pt b (.stringIter s (pos + 1))))) (by simpa [dstOk] using hd) (fun a' w hag hw => by
    have hp' : pos < s.size := Nat.le_of_ble_eq_true hp
    refine ⟨_, _, .inl ?_, rfl, hw.set (o' := .stringIter s (pos + 1)) hi⟩
    simp only [execOp, hag.evO hx, Instr.next, Sem.run_bind, run_getSit (hw.get hi).2, Result.andThen_ok, if_pos hp', hdec, run_setSit (hw.get hi).2, Sem.run_pure, goInt]) (fun v w ⟨e, hS⟩ => by subst e; exact h w hS)
theorem c_nextStrEnd {i b pos : Nat} {s : ByteArray} (hd : Nat.blt d n = true) (hx : evO fr x = some (.pointer (some ⟨b, 0, none⟩))) (hi : L[i]? = some (pt b (.stringIter s pos))) (hp : Nat.ble s.size pos = true)
    (h : SXs P n ops rest ((d, .tuple [.bool false].toArray) :: fr) g L K X) : SXs P n ops (⟨some d, .next x true, ty, ps, af, none⟩ :: rest) fr g L K X :=
  s_genW (Q := fun v w' => v = .tuple [.bool false].toArray ∧ St g w' L) (by simpa [dstOk] using hd) (fun a' w hag hw => by
    have hp' : ¬ pos < s.size := by have := Nat.le_of_ble_eq_true hp; omega
    refine ⟨_, w, .inl ?_, rfl, hw⟩
    simp only [execOp, hag.evO hx, Instr.next, Sem.run_bind, run_getSit (hw.get hi).2, Result.andThen_ok, if_neg hp', Sem.run_pure]) (fun v w ⟨e, hS⟩ => by subst e; exact h w hS)
theorem s_subC {c : Int} (hd : Nat.blt d n = true) (hx : evO fr x = some (.int k a)) (hy : evO fr y = some (.int k b)) (hw : k.wrap (a - b) = c)
    (h : SXs P n ops rest ((d, .int k c) :: fr) g L K X) : SXs P n ops (⟨some d, .binOp .sub t x y yt, ty, ps, af, none⟩ :: rest) fr g L K X := s_sub' hd hx hy hw h
theorem gv_subC {c : Int} (hd : Nat.blt d n = true) (hx : evO fr x = some (.int k a)) (hy : evO fr y = some (.int k b)) (hw : k.wrap (a - b) = c) : GV P n fr g L d (.binOp .sub t x y yt) ty ps af (.int k c) := by
  have h := gv_sub (P := P) (g := g) (L := L) (t := t) (yt := yt) (ty := ty) (ps := ps) (af := af) hd hx hy
  rwa [hw] at h
theorem s_addC {c : Int} (hd : Nat.blt d n = true) (hx : evO fr x = some (.int k a)) (hy : evO fr y = some (.int k b)) (hw : k.wrap (a + b) = c)
    (h : SXs P n ops rest ((d, .int k c) :: fr) g L K X) : SXs P n ops (⟨some d, .binOp .add t x y yt, ty, ps, af, none⟩ :: rest) fr g L K X := s_add' hd hx hy hw h
theorem gv_addC {c : Int} (hd : Nat.blt d n = true) (hx : evO fr x = some (.int k a)) (hy : evO fr y = some (.int k b)) (hw : k.wrap (a + b) = c) : GV P n fr g L d (.binOp .add t x y yt) ty ps af (.int k c) := by
  have h := gv_add (P := P) (g := g) (L := L) (t := t) (yt := yt) (ty := ty) (ps := ps) (af := af) hd hx hy
  rwa [hw] at h
theorem s_minC {ats : Array TypeId} {c : Int} (hd : Nat.blt d n = true) (hx : evO fr x = some (.int k a)) (hy : evO fr y = some (.int k b)) (hw : min a b = c)
    (h : SXs P n ops rest ((d, .int k c) :: fr) g L K X) : SXs P n ops (⟨some d, .call ⟨.builtin .min, #[x, y], ats⟩, ty, ps, af, none⟩ :: rest) fr g L K X := s_min hd hx hy (hw ▸ h)
theorem gv_minC {ats : Array TypeId} {c : Int} (hd : Nat.blt d n = true) (hx : evO fr x = some (.int k a)) (hy : evO fr y = some (.int k b)) (hw : min a b = c) : GV P n fr g L d (.call ⟨.builtin .min, #[x, y], ats⟩) ty ps af (.int k c) := by
  have h := gv_min (P := P) (g := g) (L := L) (ats := ats) (ty := ty) (ps := ps) (af := af) hd hx hy
  rwa [hw] at h
end
end Go.Hb
/-
  Bytes, and bytes.Clone; package file: what a file is in memory, and what its functions do.
-/
namespace Go.Proofs.YthodbnmeggkkoaaGreatDoor
open Go Go.RowKit Go.Hb Go.Proofs

/-! ### Bytes -/

def bv (xs : List UInt8) : List Value := xs.map fun c => .int .u8 (c.toNat : Int)
theorem bv_length (xs : List UInt8) : (bv xs).length = xs.length := by simp [bv]
theorem bv_one (xs : List UInt8) : (bv xs).all (·.oneCell') = true := by simp [bv, Value.oneCell']
theorem all_td {l : List Value} {a b : Nat} (h : l.all (·.oneCell') = true) : ((l.drop a).take b).all (·.oneCell') = true := by
  rw [List.all_eq_true] at *
  exact fun x hx => h x (List.mem_of_mem_drop (List.mem_of_mem_take hx))
theorem bv_append (xs ys : List UInt8) : bv (xs ++ ys) = bv xs ++ bv ys := by simp [bv]
theorem bv_take (xs : List UInt8) (k : Nat) : (bv xs).take k = bv (xs.take k) := by simp [bv]
theorem bv_drop (xs : List UInt8) (k : Nat) : (bv xs).drop k = bv (xs.drop k) := by simp [bv]
theorem bv_get (xs : List UInt8) (k : Nat) : (bv xs)[k]? = (xs[k]?).map fun c => .int .u8 (c.toNat : Int) := by simp [bv]

abbrev ownB (v : Value) (xs : List UInt8) : HP := own 5 1 v xs.length (bv xs)
/-- a slice of bytes, owned, is handed back -/
abbrev SlB (g : World) (xs : List UInt8) (F : List HP) : Value → World → Prop := SlQ g 5 1 xs.length (bv xs) F
abbrev RdB (g : World) (L : List HP) (v : Value) (xs : List UInt8) : Prop := RdIn g L v 1 xs.length (bv xs)

theorem own_len {g w : World} {L : List HP} {T k n : Nat} {v : Value} {ys : List Value} (h : St g w (own T k v n ys :: L)) : ys.length = n * k := by
  obtain ⟨_, _, _, hh, _⟩ := h.sat
  exact hh.1
theorem ownB_of {g w : World} {L : List HP} {n : Nat} {v : Value} {ys : List Value} {xs : List UInt8} (h : St g w (own 5 1 v n ys :: L)) (e : ys = bv xs) : St g w (ownB v xs :: L) := by
  have := own_len h
  subst e
  rw [bv_length, Nat.mul_one] at this
  subst this
  exact h
theorem slb_of {g w : World} {L : List HP} {n : Nat} {v : Value} {ys : List Value} {xs : List UInt8} (h : St g w (own 5 1 v n ys :: L)) (e : ys = bv xs) : SlB g xs L v w := SlQ.of (ownB_of h e)

theorem rdb_of {g : World} {L : List HP} {n : Nat} {v : Value} {ys : List Value} {xs : List UInt8} (h : RdIn g L v 1 n ys) (e : ys = bv xs) : RdB g L v xs := by
  subst e
  have h1 := h.1
  rw [bv_length, Nat.mul_one] at h1
  subst h1
  exact h
theorem clone_spec {g : World} {F : List HP} {v : Value} {xs : List UInt8} (hR : RdB g F v xs) (hsz : xs.length ≤ 70368744177664) :
    RCs Tryz.prog 73 [v] g F (SlB g xs F) := by
  have hb := bv_length xs
  rcases hR.2.2 with ⟨az, rfl, h0⟩ | ⟨b, off, cap, rfl, hcap, hcs⟩
  · have hx : xs = [] := List.eq_nil_of_length_eq_zero h0
    subst hx
    cases az with
    | none =>
      refine RCs_of_WPs Tryz.func73 rfl Tryz.ntmps73 rfl Tryz.results73 ?_
      refine WPs_seq ?_
      refine WPs_regionK [0] ?_
      refine s_assign rfl rfl ?_
      refine SXs_nilK (fr' := [(0, _)]) rfl ?_
      refine KSs_wp ?_
      refine WPs_seq ?_
      refine WPs_seq ?_
      refine WPs_regionK [0, 4] ?_
      refine s_move rfl rfl ?_
      refine s_eqlV rfl rfl rfl (eq_slice_nil Tryz.underlying42) ?_
      refine SXs_nilK (fr' := [(0, _), (4, _)]) rfl ?_
      refine KSs_wp ?_
      refine WPs_cond rfl (fun hc1 => ?_) (fun hc1 => ?_)
      · refine WPs_seq ?_
        refine WPs_regionK [2] ?_
        refine s_assign rfl rfl ?_
        refine SXs_nilK (fr' := [(2, _)]) rfl ?_
        refine KSs_wp ?_
        refine WPs_ret ?_
        refine RLs_start ?_
        refine RLs_tmp rfl ?_
        refine RLs_fin1 ?_
        exact fun w hS => SlQ.of (own_nil_in hS)
      · (exfalso; (cases hc1; done))
    | some az =>
      refine RCs_of_WPs Tryz.func73 rfl Tryz.ntmps73 rfl Tryz.results73 ?_
      refine WPs_seq ?_
      refine WPs_regionK [0] ?_
      refine s_assign rfl rfl ?_
      refine SXs_nilK (fr' := [(0, _)]) rfl ?_
      refine KSs_wp ?_
      refine WPs_seq ?_
      refine WPs_seq ?_
      refine WPs_regionK [0, 4] ?_
      refine s_move rfl rfl ?_
      refine s_eqlV rfl rfl rfl (eq_slice_nil Tryz.underlying42) ?_
      refine SXs_nilK (fr' := [(0, _), (4, _)]) rfl ?_
      refine KSs_wp ?_
      refine WPs_cond rfl (fun hc1 => ?_) (fun hc1 => ?_)
      · (exfalso; (cases hc1; done))
      · refine WPs_skip ?_
        refine KSs_wp ?_
        refine WPs_seq ?_
        refine WPs_regionK [2] ?_
        refine s_buildSlice (vs := []) (cs := []) rfl rfl (buildSlice_zero slt_42) (fun b5 => ?_)
        refine s_move rfl rfl ?_
        refine s_append0 slt_42 rfl rfl (Nat.le_refl _) rfl hR.cons ?_
        refine s_assign rfl rfl ?_
        refine SXs_nilK (fr' := [(2, _)]) rfl ?_
        refine KSs_wp ?_
        refine WPs_ret ?_
        refine RLs_start ?_
        refine RLs_tmp rfl ?_
        refine RLs_fin1 ?_
        exact fun w hS => SlQ.of (own_of_pt hS (Nat.le_refl _) (by simp [maxLen]) rfl rfl)
  · by_cases h0 : xs.length = 0
    · have hx : xs = [] := List.eq_nil_of_length_eq_zero h0
      subst hx
      refine RCs_of_WPs Tryz.func73 rfl Tryz.ntmps73 rfl Tryz.results73 ?_
      refine WPs_seq ?_
      refine WPs_regionK [0] ?_
      refine s_assign rfl rfl ?_
      refine SXs_nilK (fr' := [(0, _)]) rfl ?_
      refine KSs_wp ?_
      refine WPs_seq ?_
      refine WPs_seq ?_
      refine WPs_regionK [0, 4] ?_
      refine s_move rfl rfl ?_
      refine s_eqlV rfl rfl rfl (eq_slice_nil Tryz.underlying42) ?_
      refine SXs_nilK (fr' := [(0, _), (4, _)]) rfl ?_
      refine KSs_wp ?_
      refine WPs_cond rfl (fun hc1 => ?_) (fun hc1 => ?_)
      · (exfalso; (cases hc1; done))
      · refine WPs_skip ?_
        refine KSs_wp ?_
        refine WPs_seq ?_
        refine WPs_regionK [2] ?_
        refine s_buildSlice (vs := []) (cs := []) rfl rfl (buildSlice_zero slt_42) (fun b5 => ?_)
        refine s_move rfl rfl ?_
        refine s_append0 slt_42 rfl rfl (Nat.le_refl _) rfl hR.cons ?_
        refine s_assign rfl rfl ?_
        refine SXs_nilK (fr' := [(2, _)]) rfl ?_
        refine KSs_wp ?_
        refine WPs_ret ?_
        refine RLs_start ?_
        refine RLs_tmp rfl ?_
        refine RLs_fin1 ?_
        exact fun w hS => SlQ.of (own_of_pt hS (Nat.le_refl _) (by simp [maxLen]) rfl rfl)
    ·
      refine RCs_of_WPs Tryz.func73 rfl Tryz.ntmps73 rfl Tryz.results73 ?_
      refine WPs_seq ?_
      refine WPs_regionK [0] ?_
      refine s_assign rfl rfl ?_
      refine SXs_nilK (fr' := [(0, _)]) rfl ?_
      refine KSs_wp ?_
      refine WPs_seq ?_
      refine WPs_seq ?_
      refine WPs_regionK [0, 4] ?_
      refine s_move rfl rfl ?_
      refine s_eqlV rfl rfl rfl (eq_slice_nil Tryz.underlying42) ?_
      refine SXs_nilK (fr' := [(0, _), (4, _)]) rfl ?_
      refine KSs_wp ?_
      refine WPs_cond rfl (fun hc1 => ?_) (fun hc1 => ?_)
      · (exfalso; (cases hc1; done))
      · refine WPs_skip ?_
        refine KSs_wp ?_
        refine WPs_seq ?_
        refine WPs_regionK [2] ?_
        refine s_buildSlice (vs := []) (cs := []) rfl rfl (buildSlice_zero slt_42) (fun b5 => ?_)
        refine s_move rfl rfl ?_
        refine s_appendFull (xs := []) slt_42 rfl rfl rfl (fun _ _ j v h => by simp at h) rfl hR.cons (by omega) (by simp only [maxLen]; omega) (by omega) (fun va vc => ?_)
        refine s_assign rfl rfl ?_
        refine SXs_nilK (fr' := [(2, _)]) rfl ?_
        refine KSs_wp ?_
        refine WPs_ret ?_
        refine RLs_start ?_
        refine RLs_tmp rfl ?_
        refine RLs_fin1 ?_
        exact fun w hS => by have := (hS.perm (List.Perm.swap _ _ _)).tail; exact SlQ.of (by simpa using this)
end Go.Proofs.YthodbnmeggkkoaaGreatDoor
/-
  Package file: a file in memory, and the contracts of its functions.
-/
namespace Go.Proofs.YthodbnmeggkkoaaGreatDoor
open Go Go.RowKit Go.Hb Go.Proofs

/-! ### The plain file -/

inductive FDeed where
  | add (bs : List UInt8)
  | cut (k : Nat)

def FDeed.units : FDeed → Nat
  | .add bs => bs.length
  | .cut _ => 1
def FDeed.does : FDeed → List UInt8 → Nat → List UInt8
  | .add bs, b, u => b ++ bs.take u
  | .cut k, b, u => if u = 0 then b else b.take k

structure FileM where
  safe : List UInt8
  now : List UInt8
  deeds : List FDeed

/-! ### In memory -/

def deedHP (v : Value) : FDeed → HP
  | .add bs => fun h => ∃ s, v = .iface 196 s ∧ ownB s bs h
  | .cut k => fun _ => v = .iface 164 (.int .i64 (k : Int))

def deedsHP : List Value → List FDeed → HP
  | [], [] => fun _ => True
  | v :: vs, d :: ds => grp [deedHP v d, deedsHP vs ds]
  | _, _ => fun _ => False

def fileCells (p : Nat) (sv nv dv : Value) : HP := pt p (.cells [sv, nv, dv].toArray 124 (0, 0))

def FileR (p : Nat) (m : FileM) : HP := fun h => ∃ sv nv dv dvs, grp [pt p (.cells [sv, nv, dv].toArray 124 (0, 0)), ownB sv m.safe, ownB nv m.now, own 160 1 dv dvs.length dvs, deedsHP dvs m.deeds] h

theorem FileR_open {g w : World} {p : Nat} {m : FileM} {F : List HP} (h : St g w (FileR p m :: F)) :
    ∃ sv nv dv dvs, St g w (pt p (.cells [sv, nv, dv].toArray 124 (0, 0)) :: ownB sv m.safe :: ownB nv m.now :: own 160 1 dv dvs.length dvs :: deedsHP dvs m.deeds :: F) := by
  obtain ⟨sv, h⟩ := St.ex h
  obtain ⟨nv, h⟩ := St.ex h
  obtain ⟨dv, h⟩ := St.ex h
  obtain ⟨dvs, h⟩ := St.ex h
  exact ⟨sv, nv, dv, dvs, h.ungrp⟩
theorem FileR_mk {g w : World} {p : Nat} {m : FileM} {F : List HP} {sv nv dv : Value} {n1 n2 n3 : Nat} {y1 y2 dvs : List Value}
    (h : St g w (pt p (.cells [sv, nv, dv].toArray 124 (0, 0)) :: own 5 1 sv n1 y1 :: own 5 1 nv n2 y2 :: own 160 1 dv n3 dvs :: deedsHP dvs m.deeds :: F)) (e1 : y1 = bv m.safe) (e2 : y2 = bv m.now) : St g w (FileR p m :: F) := by
  have h := h.perm (L' := own 5 1 sv n1 y1 :: pt p (.cells [sv, nv, dv].toArray 124 (0, 0)) :: own 5 1 nv n2 y2 :: own 160 1 dv n3 dvs :: deedsHP dvs m.deeds :: F) (by (repeat (first | exact List.Perm.refl _ | (apply pick 1; exact rfl))))
  have h := ownB_of h e1
  have h := h.perm (L' := own 5 1 nv n2 y2 :: ownB sv m.safe :: pt p (.cells [sv, nv, dv].toArray 124 (0, 0)) :: own 160 1 dv n3 dvs :: deedsHP dvs m.deeds :: F) (by (repeat (first | exact List.Perm.refl _ | (apply pick 2; exact rfl))))
  have h := ownB_of h e2
  have h := h.perm (L' := own 160 1 dv n3 dvs :: ownB nv m.now :: ownB sv m.safe :: pt p (.cells [sv, nv, dv].toArray 124 (0, 0)) :: deedsHP dvs m.deeds :: F) (by (repeat (first | exact List.Perm.refl _ | (apply pick 3; exact rfl))))
  have hl := own_len h
  rw [Nat.mul_one] at hl
  subst hl
  have h := h.perm (L' := pt p (.cells [sv, nv, dv].toArray 124 (0, 0)) :: ownB sv m.safe :: ownB nv m.now :: own 160 1 dv dvs.length dvs :: deedsHP dvs m.deeds :: F) (by (repeat (first | exact List.Perm.refl _ | (apply pick 1; exact rfl) | (apply pick 2; exact rfl) | (apply pick 3; exact rfl))))
  have h1 : St g w (grp [pt p (.cells [sv, nv, dv].toArray 124 (0, 0)), ownB sv m.safe, ownB nv m.now, own 160 1 dv dvs.length dvs, deedsHP dvs m.deeds] :: F) := St.grp (A := [_, _, _, _, _]) h
  exact h1.imp fun h hh => ⟨sv, nv, dv, dvs, hh⟩

theorem deedsHP_length : ∀ {vs : List Value} {ds : List FDeed} {h : Heap}, deedsHP vs ds h → vs.length = ds.length := by
  intro vs
  induction vs with
  | nil => intro ds h hh; cases ds with | nil => rfl | cons d ds => exact hh.elim
  | cons v vs ih =>
    intro ds h hh
    cases ds with
    | nil => exact hh.elim
    | cons d ds =>
      obtain ⟨_, _, _, _, _, _, _, h2, _⟩ := hh
      simp [ih h2]

theorem own_form1 {g w : World} {L : List HP} (i : Nat) {T k m : Nat} {v : Value} {xs : List Value} (hw : St g w L) (hi : L[i]? = some (own T k v m xs)) : ∃ a c, v = .slice a m c := by
  obtain ⟨a, c, h, _⟩ := own_form hw hi
  exact ⟨a, c, h⟩

theorem RCs_file {P : Program} {f : FuncId} {vs : List Value} {g : World} {p : Nat} {m : FileM} {F : List HP} {q : Value → World → Prop}
    (h : ∀ sa sc na nc da dc dvs, dvs.length = m.deeds.length → RCs P f vs g (pt p (.cells [.slice sa m.safe.length sc, .slice na m.now.length nc, .slice da dvs.length dc].toArray 124 (0, 0)) :: ownB (.slice sa m.safe.length sc) m.safe :: ownB (.slice na m.now.length nc) m.now :: own 160 1 (.slice da dvs.length dc) dvs.length dvs :: deedsHP dvs m.deeds :: F) q) : RCs P f vs g (FileR p m :: F) q := fun w hw => by
  obtain ⟨sv, nv, dv, dvs, hS⟩ := FileR_open hw
  obtain ⟨sa, sc, rfl⟩ := own_form1 1 hS rfl
  obtain ⟨na, nc, rfl⟩ := own_form1 2 hS rfl
  obtain ⟨da, dc, rfl⟩ := own_form1 3 hS rfl
  have hl : dvs.length = m.deeds.length := by
    obtain ⟨_, _, _, hh, _⟩ := (hS.perm (perm_at (i := 4) rfl)).sat
    exact deedsHP_length hh
  exact h sa sc na nc da dc dvs hl w hS

theorem deedsHP_snoc : ∀ {vs : List Value} {ds : List FDeed} {v : Value} {d : FDeed} {h : Heap}, Sat h [deedsHP vs ds, deedHP v d] → deedsHP (vs ++ [v]) (ds ++ [d]) h := by
  intro vs
  induction vs with
  | nil =>
    intro ds v d h hs
    cases ds with
    | nil =>
      obtain ⟨h1, h2, hd, _, h3⟩ := hs
      have := Sat.sub h3 hd.sub_r
      obtain ⟨a, b, c, e, _⟩ := this
      exact ⟨a, b, c, e, fun _ => none, b, fun _ => .inr ⟨rfl, rfl⟩, trivial, trivial⟩
    | cons d' ds => obtain ⟨h1, h2, hd, hf, _⟩ := hs; exact hf.elim
  | cons v' vs ih =>
    intro ds v d h hs
    cases ds with
    | nil => obtain ⟨h1, h2, hd, hf, _⟩ := hs; exact hf.elim
    | cons d' ds =>
      have h1 : Sat h ([deedHP v' d', deedsHP vs ds] ++ [deedHP v d]) := Sat.ungrp hs
      obtain ⟨a, b, c, e, hrest⟩ := h1
      exact ⟨a, b, c, e, b, fun _ => none, fun _ => .inl ⟨rfl, rfl⟩, ih hrest, trivial⟩

theorem deeds_add {g w : World} {L : List HP} {dvs : List Value} {ds : List FDeed} {s : Value} {bs : List UInt8} (h : St g w (deedsHP dvs ds :: ownB s bs :: L)) :
    St g w (deedsHP (dvs ++ [.iface 196 s]) (ds ++ [.add bs]) :: L) := by
  have h1 := (h.perm (List.Perm.swap _ _ _)).imp (Q := deedHP (.iface 196 s) (.add bs)) fun h hh => ⟨s, rfl, hh⟩
  have h2 := St.grp (A := [deedsHP dvs ds, deedHP (.iface 196 s) (.add bs)]) (h1.perm (List.Perm.swap _ _ _))
  exact h2.imp fun h hh => deedsHP_snoc hh
theorem deeds_cut {g w : World} {L : List HP} {dvs : List Value} {ds : List FDeed} {k : Nat} (h : St g w (deedsHP dvs ds :: L)) :
    St g w (deedsHP (dvs ++ [.iface 164 (.int .i64 (k : Int))]) (ds ++ [.cut k]) :: L) := by
  have h1 : St g w (deedHP (.iface 164 (.int .i64 (k : Int))) (.cut k) :: deedsHP dvs ds :: L) := St.fact_in rfl h
  have h2 := St.grp (A := [deedsHP dvs ds, deedHP (.iface 164 (.int .i64 (k : Int))) (.cut k)]) (h1.perm (List.Perm.swap _ _ _))
  exact h2.imp fun h hh => deedsHP_snoc hh

/-! ### units, does -/

theorem mv_added_does (v : Value) : MethodV Tryz.prog 196 "hourbook/file.does" 225 v v := fun w => by kernel_rfl
theorem mv_added_units (v : Value) : MethodV Tryz.prog 196 "hourbook/file.units" 226 v v := fun w => by kernel_rfl
theorem mv_cut_does (v : Value) : MethodV Tryz.prog 164 "hourbook/file.does" 223 v v := fun w => by kernel_rfl
theorem mv_cut_units (v : Value) : MethodV Tryz.prog 164 "hourbook/file.units" 224 v v := fun w => by kernel_rfl

theorem added_units {g : World} {F : List HP} {s : Value} {bs : List UInt8} (hR : RdB g F s bs) :
    RCs Tryz.prog 226 [s] g F (fun v w => v = .int .i64 (bs.length : Int) ∧ St g w F) := by
  refine RCs_of_WPs Tryz.func226 rfl Tryz.ntmps226 rfl Tryz.results226 ?_
  refine WPs_seq ?_
  refine WPs_regionK [0] ?_
  refine s_assign rfl rfl ?_
  refine SXs_nilK (fr' := [(0, _)]) rfl ?_
  refine KSs_wp ?_
  refine WPs_seq ?_
  refine WPs_regionK [2] ?_
  refine s_move rfl rfl ?_
  refine s_lenRd rfl Tryz.underlying196 rfl rfl (by ((assumption))) ?_
  refine s_assign rfl rfl ?_
  refine SXs_nilK (fr' := [(2, _)]) rfl ?_
  refine KSs_wp ?_
  refine WPs_ret ?_
  refine RLs_start ?_
  refine RLs_tmp rfl ?_
  refine RLs_fin1 ?_
  exact fun w hS => ⟨rfl, hS⟩
theorem cut_units {g : World} {F : List HP} {s : Value} :
    RCs Tryz.prog 224 [s] g F (fun v w => v = .int .i64 1 ∧ St g w F) := by
  refine RCs_of_WPs Tryz.func224 rfl Tryz.ntmps224 rfl Tryz.results224 ?_
  refine WPs_seq ?_
  refine WPs_regionK [] ?_
  refine s_assign rfl rfl ?_
  refine SXs_nilK (fr' := []) rfl ?_
  refine KSs_wp ?_
  refine WPs_seq ?_
  refine WPs_regionK [2] ?_
  refine s_assign rfl rfl ?_
  refine SXs_nilK (fr' := [(2, _)]) rfl ?_
  refine KSs_wp ?_
  refine WPs_ret ?_
  refine RLs_start ?_
  refine RLs_tmp rfl ?_
  refine RLs_fin1 ?_
  exact fun w hS => ⟨rfl, hS⟩

theorem added_does {g : World} {F : List HP} {s b : Value} {bs xs : List UInt8} {u : Nat} (hR : RdB g F s bs) (hu : u ≤ bs.length) (hsz : xs.length + bs.length ≤ 70368744177664) :
    RCs Tryz.prog 225 [s, b, .int .i64 (u : Int)] g (ownB b xs :: F) (SlB g (xs ++ bs.take u) F) := by
  have hR' : RdB g (ownB b xs :: F) s bs := hR.cons
  refine RCs_of_WPs Tryz.func225 rfl Tryz.ntmps225 rfl Tryz.results225 ?_
  refine WPs_seq ?_
  refine WPs_regionK [0, 1, 2] ?_
  refine s_assign rfl rfl ?_
  refine SXs_nilK (fr' := [(0, _), (1, _), (2, _)]) rfl ?_
  refine KSs_wp ?_
  refine WPs_seq ?_
  refine WPs_regionK [6] ?_
  refine s_move rfl rfl ?_
  refine s_move rfl rfl ?_
  refine s_move rfl rfl ?_
  refine s_sliceRd slt_196 (vlo := none) (vhi := some _) rfl rfl (by ((assumption))) (trivial) (rfl) (.inr ⟨rfl, rfl⟩) (.inl rfl) (by omega) (by omega) (fun va10 vc10 hR10 => ?_)
  refine s_append' (i := 0) slt_42 Tryz.underlying196 rfl rfl rfl rfl (by ((assumption))) (by exact all_td (bv_one _)) (by ((simp only [maxLen]; omega))) (by ((omega))) (fun va11 vc11 => ?_)
  simp only [List.set_cons_zero]
  refine s_assign rfl rfl ?_
  refine SXs_nilK (fr' := [(6, _)]) rfl ?_
  refine KSs_wp ?_
  refine WPs_ret ?_
  refine RLs_start ?_
  refine RLs_tmp rfl ?_
  refine RLs_fin1 ?_
  exact fun w hS => by
    have e : ((bv bs).drop (0 * 1)).take ((u - 0) * 1) = bv (bs.take u) := by simp [bv_take]
    rw [e, ← bv_append] at hS
    exact slb_of hS rfl

theorem cut_does {g : World} {F : List HP} {b : Value} {xs : List UInt8} {k u : Nat} (hk : k ≤ xs.length) :
    RCs Tryz.prog 223 [.int .i64 (k : Int), b, .int .i64 (u : Int)] g (ownB b xs :: F) (SlB g (if u = 0 then xs else xs.take k) F) := by
  refine RCs_of_WPs Tryz.func223 rfl Tryz.ntmps223 rfl Tryz.results223 ?_
  refine WPs_seq ?_
  refine WPs_regionK [0, 1, 2] ?_
  refine s_assign rfl rfl ?_
  refine SXs_nilK (fr' := [(0, _), (1, _), (2, _)]) rfl ?_
  refine KSs_wp ?_
  refine WPs_seq ?_
  refine WPs_seq ?_
  refine WPs_regionK [0, 1, 8] ?_
  refine s_move rfl rfl ?_
  refine s_eql rfl rfl rfl ?_
  refine SXs_nilK (fr' := [(0, _), (1, _), (8, _)]) rfl ?_
  refine KSs_wp ?_
  refine WPs_cond rfl (fun hc1 => ?_) (fun hc1 => ?_)
  · simp only [decide_eq_true_eq] at hc1
    refine WPs_seq ?_
    refine WPs_regionK [6] ?_
    refine s_move rfl rfl ?_
    refine s_assign rfl rfl ?_
    refine SXs_nilK (fr' := [(6, _)]) rfl ?_
    refine KSs_wp ?_
    refine WPs_ret ?_
    refine RLs_start ?_
    refine RLs_tmp rfl ?_
    refine RLs_fin1 ?_
    exact fun w hS => by rw [if_pos (by omega)]; exact SlQ.of hS
  · simp only [decide_eq_false_iff_not] at hc1
    refine WPs_skip ?_
    refine KSs_wp ?_
    refine WPs_seq ?_
    refine WPs_regionK [6] ?_
    refine s_move rfl rfl ?_
    refine s_move rfl rfl ?_
    refine s_sliceOwn (i := 0) slt_42 rfl rfl rfl rfl hk (fun va12 vc12 => ?_)
    refine s_assign rfl rfl ?_
    refine SXs_nilK (fr' := [(6, _)]) rfl ?_
    refine KSs_wp ?_
    refine WPs_ret ?_
    refine RLs_start ?_
    refine RLs_tmp rfl ?_
    refine RLs_fin1 ?_
    exact fun w hS => by
      rw [if_neg (by omega)]
      rw [Nat.mul_one, bv_take] at hS
      exact slb_of hS rfl

/-! ### done -/

theorem nil_does_added (v : Value) (w : World) : (nilAhead (Tryz.prog.types.size + Made.depth) 196 v "hourbook/file.does").run Tryz.prog w = .ok (some false) w := by kernel_rfl
theorem nil_does_cut (v : Value) (w : World) : (nilAhead (Tryz.prog.types.size + Made.depth) 164 v "hourbook/file.does").run Tryz.prog w = .ok (some false) w := by kernel_rfl

/-- what a deed appended to the deeds leaves -/
theorem done_add {g : World} {F : List HP} {p : Nat} {m : FileM} {s : Value} {bs : List UInt8} (hsz : m.now.length + bs.length ≤ 70368744177664) (hds : m.deeds.length ≤ 1099511627776) :
    RCs Tryz.prog 106 [.pointer (some ⟨p, 0, none⟩), .iface 196 s] g (FileR p m :: ownB s bs :: F)
      (fun v w => v = .tuple #[] ∧ St g w (FileR p { m with now := m.now ++ bs, deeds := m.deeds ++ [.add bs] } :: F)) := by
  refine RCs_file fun sa sc na nc da dc dvs hdl => ?_
  refine RCs_rd 2 rfl fun hRn => RCs_rd 5 rfl fun hRs => ?_
  refine RCs_of_WPs Tryz.func106 rfl Tryz.ntmps106 rfl Tryz.results106 ?_
  refine WPs_seq ?_
  refine WPs_drawL [0, 1] [15] Tryz.mixed rfl (listed := #[false, false, false, false, false, false, false, false, false, false, false, false, false, false, false, false]) rfl ?_
  refine st_take 0 rfl (by decide +kernel) (listed' := #[true, false, false, false, false, false, false, false, false, false, false, false, false, false, false, false]) rfl (by (intro _ h; (exact h))) (gv_move rfl rfl) ?_
  refine st_take 1 rfl (by decide +kernel) (listed' := #[true, true, false, false, false, false, false, false, false, false, false, false, false, false, false, false]) rfl (by (intro _ h; (exact h))) (gv_move rfl rfl) ?_
  refine st_take 2 rfl (by decide +kernel) (listed' := #[true, true, true, false, false, false, false, false, false, false, false, false, false, false, false, false]) rfl (by (intro _ h; (exact h))) (gv_move rfl rfl) ?_
  refine st_take 3 rfl (by decide +kernel) (listed' := #[true, true, true, true, false, false, false, false, false, false, false, false, false, false, false, false]) rfl (by (intro _ h; (exact h))) (gv_nilCheck rfl rfl) ?_
  refine st_take 4 rfl (by decide +kernel) (listed' := #[true, true, true, true, true, false, false, false, false, false, false, false, false, false, false, false]) rfl (by (intro _ h; (exact h))) (gv_fieldAddr fo_124_1 rfl rfl) ?_
  refine st_take 5 rfl (by decide +kernel) (listed' := #[true, true, true, true, true, true, false, false, false, false, false, false, false, false, false, false]) rfl (by (intro _ h; (exact h))) (gv_load1 Tryz.isAgg42 rfl rfl (by exact cin (i := 0) rfl rfl)) ?_
  refine st_take 7 rfl (by decide +kernel) (listed' := #[true, true, true, true, true, true, false, true, false, false, false, false, false, false, false, false]) rfl (by (intro _ h; (exact h))) (gv_move rfl rfl) ?_
  refine st_take 9 rfl (by decide +kernel) (listed' := #[true, true, true, true, true, true, false, true, false, true, false, false, false, false, false, false]) rfl (by (intro _ h; (exact h))) (gv_makeFunc (fs := [_]) (cs := []) rfl rfl rfl) ?_
  refine st_take 10 rfl (by decide +kernel) (listed' := #[true, true, true, true, true, true, false, true, false, true, true, false, false, false, false, false]) rfl (by (intro _ h; (exact h))) (gv_nilCheckM rfl rfl (nil_does_added _)) ?_
  refine st_take 11 rfl (by decide +kernel) (listed' := #[true, true, true, true, true, true, false, true, false, true, true, true, false, false, false, false]) rfl (by (intro _ h; (exact h))) (gv_move rfl rfl) ?_
  refine st_one 6 rfl (by decide +kernel) ?_
  refine s_call Tryz.call73 rfl (vs := [_]) rfl (RCs.perm (by (repeat ((exact List.Perm.refl _)))) (clone_spec (xs := m.now) hRn (by omega))) ?_
  rintro v w ⟨va10, vc10, rfl, hS⟩
  refine SXs_go hS ?_
  clear hS; clear w
  simp only [putF]
  refine st_next (listed' := #[true, true, true, true, true, true, true, true, false, true, true, true, false, false, false, false]) rfl (by intro _ _; (intro _ h; (exact h.tail))) ?_
  refine st_one 8 rfl (by decide +kernel) ?_
  refine s_invoke Tryz.call226 rfl rfl (mv_added_units _) (vs := []) rfl (RCs.perm (by (repeat ((exact List.Perm.refl _)))) (added_units (bs := bs) hRs.cons)) ?_
  rintro v w ⟨rfl, hS⟩
  refine SXs_go hS ?_
  clear hS; clear w
  simp only [putF]
  refine st_next (listed' := #[true, true, true, true, true, true, true, true, true, true, true, true, false, false, false, false]) rfl (by intro _ _; (intro _ h; (exact h.tail))) ?_
  refine st_one 12 rfl (by decide +kernel) ?_
  refine s_invoke Tryz.call225 rfl rfl (mv_added_does _) (vs := [_, _]) rfl (RCs.perm (by (repeat ((exact List.Perm.refl _)))) (added_does (bs := bs) (u := bs.length) hRs (Nat.le_refl _) (by omega))) ?_
  rintro v w ⟨va16, vc16, rfl, hS⟩
  refine SXs_go hS ?_
  clear hS; clear w
  simp only [putF]
  refine st_next (listed' := #[true, true, true, true, true, true, true, true, true, true, true, true, true, false, false, false]) rfl (by intro _ _; (intro _ h; (exact h.tail))) ?_
  refine st_take 13 rfl (by decide +kernel) (listed' := #[true, true, true, true, true, true, true, true, true, true, true, true, true, true, false, false]) rfl (by (intro _ h; (exact h.tail))) (gv_nilCheck rfl rfl) ?_
  refine st_take 14 rfl (by decide +kernel) (listed' := #[true, true, true, true, true, true, true, true, true, true, true, true, true, true, true, false]) rfl (by (intro _ h; (exact h.tail))) (gv_fieldAddr fo_124_1 rfl rfl) ?_
  refine st_one 15 rfl (by decide +kernel) ?_
  refine s_store (i := 1) Tryz.sizeOf42 rfl rfl rfl (vs := [_]) rfl rfl rfl rfl ?_
  simp only [List.set_cons_zero, List.set_cons_succ, spl]
  refine st_next (listed' := #[true, true, true, true, true, true, true, true, true, true, true, true, true, true, true, true]) rfl (by intro e; cases e) ?_
  refine st_doneK (fr' := [(0, _), (1, _)]) (by decide +kernel) rfl ?_
  refine KSs_wp ?_
  refine WPs_regionK [] ?_
  refine s_move rfl rfl ?_
  refine s_move rfl rfl ?_
  refine s_nilCheck rfl rfl ?_
  refine s_fieldAddr fo_124_2 rfl rfl ?_
  refine s_load1 Tryz.isAgg122 rfl rfl (by exact cin (i := 1) rfl rfl) ?_
  refine s_move rfl rfl ?_
  refine s_buildSlice (vs := [(0, _)]) (cs := [_]) rfl rfl (buildSlice_one slt_122 rfl rfl (by decide)) (fun b25 => ?_)
  refine s_append (i := 5) slt_122 rfl rfl rfl rfl (by exact pt_RdIn (i := 0) rfl rfl rfl (by omega) (by simp only [maxLen]; omega)) (by ((rfl))) (by ((simp only [maxLen]; omega))) (by ((omega))) (fun va26 vc26 => ?_)
  simp only [List.set_cons_zero, List.set_cons_succ]
  refine s_nilCheck rfl rfl ?_
  refine s_fieldAddr fo_124_2 rfl rfl ?_
  refine s_store (i := 2) Tryz.sizeOf122 rfl rfl rfl (vs := [_]) rfl rfl rfl rfl ?_
  simp only [List.set_cons_zero, List.set_cons_succ, spl]
  refine SXs_nilK (fr' := []) rfl ?_
  refine RLs_start ?_
  refine RLs_fin0 ?_
  exact fun w hS => ⟨rfl, by
    rw [show (dvs ++ List.take (1 * 1) (List.drop 0 [Value.iface 196 s])) = dvs ++ [.iface 196 s] from rfl, List.take_length] at hS
    have h0 := (hS.bring 7 rfl).bring 7 rfl
    have h1 := deeds_add h0
    have h2 := h1.without [pt b25 (.cells [Value.iface 196 s].toArray 160 (0, 0)), ownB (.slice na m.now.length nc) m.now] (A := pt p (.cells [.slice sa m.safe.length sc, .slice va16 (m.now ++ bs).length vc16, .slice va26 (dvs.length + 1) vc26].toArray 124 (0, 0)) :: ownB _ m.safe :: ownB _ (m.now ++ bs) :: own 160 1 _ (dvs.length + 1) _ :: deedsHP _ (m.deeds ++ [.add bs]) :: F) (by (repeat (first | exact List.Perm.refl _ | (apply pick 1; exact rfl) | (apply pick 2; exact rfl) | (apply pick 4; exact rfl))))
    exact FileR_mk (m := ⟨m.safe, m.now ++ bs, m.deeds ++ [.add bs]⟩) h2 rfl rfl⟩

/-! ### rest, New, Append, Sync, Size, Read, Flip -/

theorem deedsHP_nil {g w : World} {L : List HP} (h : St g w L) : St g w (deedsHP [] [] :: L) := St.fact_in (p := True) trivial h
theorem own_nil' {g w : World} {L : List HP} (T k : Nat) (h : St g w L) : St g w (own T k (.slice none 0 0) 0 [] :: L) := own_nil_in h

theorem FileR_safe {g w : World} {L : List HP} {p : Nat} {xs : List UInt8} {sv nv : Value} {n1 n2 : Nat} {y1 y2 : List Value}
    (h : St g w (pt p (.cells [sv, nv, .slice none 0 0].toArray 124 (0, 0)) :: own 5 1 sv n1 y1 :: own 5 1 nv n2 y2 :: L)) (e1 : y1 = bv xs) (e2 : y2 = bv xs) : St g w (FileR p ⟨xs, xs, []⟩ :: L) := by
  have h1 := own_nil' 160 1 (deedsHP_nil h)
  exact FileR_mk (m := ⟨xs, xs, []⟩) (sv := sv) (nv := nv) (dv := .slice none 0 0) (n1 := n1) (n2 := n2) (n3 := 0) (dvs := []) (h1.perm (by (repeat (first | exact List.Perm.refl _ | (apply pick 2; exact rfl))))) e1 e2

theorem file_rest {g : World} {F : List HP} {p : Nat} {s0 n0 d0 : Value} {v : Value} {xs : List UInt8} (hsz : xs.length ≤ 70368744177664) :
    RCs Tryz.prog 74 [.pointer (some ⟨p, 0, none⟩), v] g (pt p (.cells [s0, n0, d0].toArray 124 (0, 0)) :: ownB v xs :: F)
      (fun u w => u = .tuple #[] ∧ St g w (FileR p ⟨xs, xs, []⟩ :: F)) := by
  refine RCs_form 1 rfl fun va vc e => ?_
  subst e
  refine RCs_rd 1 rfl fun hR => ?_
  refine RCs_of_WPs Tryz.func74 rfl Tryz.ntmps74 rfl Tryz.results74 ?_
  refine WPs_regionK [] ?_
  refine s_move rfl rfl ?_
  refine s_move rfl rfl ?_
  refine s_move rfl rfl ?_
  refine s_move rfl rfl ?_
  refine s_call Tryz.call73 rfl (vs := [_]) rfl (RCs.perm (by (repeat ((exact List.Perm.refl _)))) (clone_spec (xs := xs) hR hsz)) ?_
  rintro v w ⟨va8, vc8, rfl, hS⟩
  refine SXs_go hS ?_
  clear hS; clear w
  simp only [putF]
  refine s_move rfl rfl ?_
  refine s_nilCheck rfl rfl ?_
  refine s_fieldAddr fo_124_0 rfl rfl ?_
  refine s_store (i := 1) Tryz.sizeOf42 rfl rfl rfl (vs := [_]) rfl rfl rfl rfl ?_
  simp only [List.set_cons_zero, List.set_cons_succ, spl]
  refine s_nilCheck rfl rfl ?_
  refine s_fieldAddr fo_124_1 rfl rfl ?_
  refine s_store (i := 1) Tryz.sizeOf42 rfl rfl rfl (vs := [_]) rfl rfl rfl rfl ?_
  simp only [List.set_cons_zero, List.set_cons_succ, spl]
  refine s_nilCheck rfl rfl ?_
  refine s_fieldAddr fo_124_2 rfl rfl ?_
  refine s_store (i := 1) Tryz.sizeOf122 rfl rfl rfl (vs := [_]) rfl rfl rfl rfl ?_
  simp only [List.set_cons_zero, List.set_cons_succ, spl]
  refine SXs_nilK (fr' := []) rfl ?_
  refine RLs_start ?_
  refine RLs_fin0 ?_
  exact fun w hS => ⟨rfl, FileR_safe (hS.sl (by (repeat (first | exact Sl.refl _ | (apply Sl.pick 1; exact rfl))))) rfl rfl⟩

theorem file_new {g : World} {F : List HP} {v : Value} {xs : List UInt8} (hR : RdB g F v xs) (hsz : xs.length ≤ 70368744177664) :
    RCs Tryz.prog 114 [v] g F
      (fun u w => ∃ p, u = .pointer (some ⟨p, 0, none⟩) ∧ St g w (FileR p ⟨xs, xs, []⟩ :: F)) := by
  refine RCs_of_WPs Tryz.func114 rfl Tryz.ntmps114 rfl Tryz.results114 ?_
  refine WPs_seq ?_
  refine WPs_regionK [0] ?_
  refine s_assign rfl rfl ?_
  refine SXs_nilK (fr' := [(0, _)]) rfl ?_
  refine KSs_wp ?_
  refine WPs_seq ?_
  refine WPs_regionK [2] ?_
  refine s_move rfl rfl ?_
  refine s_call Tryz.call73 rfl (vs := [_]) rfl (RCs.perm (by (repeat ((exact List.Perm.refl _)))) (clone_spec (xs := xs) hR hsz)) ?_
  rintro v w ⟨va4, vc4, rfl, hS⟩
  refine SXs_go hS ?_
  clear hS; clear w
  simp only [putF]
  refine s_move rfl rfl ?_
  refine s_call Tryz.call73 rfl (vs := [_]) rfl (RCs.perm (by (repeat ((exact List.Perm.refl _)))) (clone_spec (xs := xs) hR.cons hsz)) ?_
  rintro v w ⟨va6, vc6, rfl, hS⟩
  refine SXs_go hS ?_
  clear hS; clear w
  simp only [putF]
  refine s_build (vs := [(0, _), (1, _)]) (cs := [_, _, _]) rfl rfl (build_124_0_1 rfl rfl) ?_
  refine s_box (cl := [_, _, _]) rfl rfl rfl (fun b8 => ?_)
  refine s_assign rfl rfl ?_
  refine SXs_nilK (fr' := [(2, _)]) rfl ?_
  refine KSs_wp ?_
  refine WPs_ret ?_
  refine RLs_start ?_
  refine RLs_tmp rfl ?_
  refine RLs_fin1 ?_
  exact fun w hS => ⟨_, rfl, FileR_safe (hS.sl (by (repeat (first | exact Sl.refl _ | (apply Sl.pick 0; exact rfl) | (apply Sl.pick 1; exact rfl))))) rfl rfl⟩

theorem file_append {g : World} {F : List HP} {p : Nat} {m : FileM} {v : Value} {bs : List UInt8} (hR : RdB g F v bs) (h0 : 0 < bs.length) (hsz : m.now.length + bs.length ≤ 70368744177664) (hds : m.deeds.length ≤ 1099511627776) :
    RCs Tryz.prog 93 [.pointer (some ⟨p, 0, none⟩), v] g (FileR p m :: F)
      (fun u w => u = .int .i64 0 ∧ St g w (FileR p { m with now := m.now ++ bs, deeds := m.deeds ++ [.add bs] } :: F)) := by
  have hR' : RdB g (FileR p m :: F) v bs := hR.cons
  refine RCs_of_WPs Tryz.func93 rfl Tryz.ntmps93 rfl Tryz.results93 ?_
  refine WPs_seq ?_
  refine WPs_regionK [0, 1] ?_
  refine s_assign rfl rfl ?_
  refine SXs_nilK (fr' := [(0, _), (1, _)]) rfl ?_
  refine KSs_wp ?_
  refine WPs_seq ?_
  refine WPs_seq ?_
  refine WPs_regionK [0, 1, 6] ?_
  refine s_move rfl rfl ?_
  refine s_eqlV rfl rfl rfl (eq_ptr_nil_some Tryz.underlying81) ?_
  refine SXs_nilK (fr' := [(0, _), (1, _), (6, _)]) rfl ?_
  refine KSs_wp ?_
  refine WPs_cond rfl (fun hc1 => ?_) (fun hc1 => ?_)
  · (exfalso; (cases hc1; done))
  · simp only [decide_eq_true_eq] at hc1
    refine WPs_skip ?_
    refine KSs_wp ?_
    refine WPs_seq ?_
    refine WPs_seq ?_
    refine WPs_regionK [0, 1, 9] ?_
    refine s_move rfl rfl ?_
    refine s_lenRd rfl Tryz.underlying42 rfl rfl (by ((assumption))) ?_
    refine s_gtr rfl rfl rfl ?_
    refine SXs_nilK (fr' := [(0, _), (1, _), (9, _)]) rfl ?_
    refine KSs_wp ?_
    refine WPs_cond rfl (fun hc2 => ?_) (fun hc2 => ?_)
    · simp only [decide_eq_true_eq] at hc2
      refine WPs_regionK [] ?_
      refine s_move rfl rfl ?_
      refine s_move rfl rfl ?_
      refine s_call Tryz.call73 rfl (vs := [_]) rfl (RCs.perm (by (repeat ((exact List.Perm.refl _)))) (clone_spec (xs := bs) hR' (by omega))) ?_
      rintro v w ⟨va12, vc12, rfl, hS⟩
      refine SXs_go hS ?_
      clear hS; clear w
      simp only [putF]
      refine s_makeInterface rfl Tryz.underlying196 (by intro _ e; cases e) rfl ?_
      refine s_call Tryz.call106 rfl (vs := [_, _]) rfl (RCs.perm (by (repeat (first | exact List.Perm.refl _ | (apply pick 1; exact rfl)))) (done_add (m := m) (bs := bs) hsz hds)) ?_
      rintro v w ⟨rfl, hS⟩
      refine SXs_go hS ?_
      clear hS; clear w
      simp only [List.eraseIdx_cons_zero, putF]
      refine SXs_nilK (fr' := []) rfl ?_
      refine KSs_wp ?_
      refine WPs_seq ?_
      refine WPs_regionK [4] ?_
      refine s_assign rfl rfl ?_
      refine SXs_nilK (fr' := [(4, _)]) rfl ?_
      refine KSs_wp ?_
      refine WPs_ret ?_
      refine RLs_start ?_
      refine RLs_tmp rfl ?_
      refine RLs_fin1 ?_
      exact fun w hS => ⟨rfl, hS⟩
    · (exfalso; (simp only [decide_eq_false_iff_not] at hc2; omega))
theorem file_sync {g : World} {F : List HP} {p : Nat} {m : FileM} (hsz : m.now.length ≤ 70368744177664) :
    RCs Tryz.prog 70 [.pointer (some ⟨p, 0, none⟩)] g (FileR p m :: F)
      (fun u w => u = .int .i64 0 ∧ St g w (FileR p ⟨m.now, m.now, []⟩ :: F)) := by
  refine RCs_file fun sa sc na nc da dc dvs hdl => ?_
  refine RCs_rd 2 rfl fun hRn => ?_
  refine RCs_of_WPs Tryz.func70 rfl Tryz.ntmps70 rfl Tryz.results70 ?_
  refine WPs_seq ?_
  refine WPs_regionK [0] ?_
  refine s_assign rfl rfl ?_
  refine SXs_nilK (fr' := [(0, _)]) rfl ?_
  refine KSs_wp ?_
  refine WPs_seq ?_
  refine WPs_seq ?_
  refine WPs_regionK [0, 4] ?_
  refine s_move rfl rfl ?_
  refine s_eqlV rfl rfl rfl (eq_ptr_nil_some Tryz.underlying81) ?_
  refine SXs_nilK (fr' := [(0, _), (4, _)]) rfl ?_
  refine KSs_wp ?_
  refine WPs_cond rfl (fun hc1 => ?_) (fun hc1 => ?_)
  · (exfalso; (cases hc1; done))
  · simp only [decide_eq_true_eq] at hc1
    refine WPs_skip ?_
    refine KSs_wp ?_
    refine WPs_seq ?_
    refine WPs_regionK [] ?_
    refine s_move rfl rfl ?_
    refine s_move rfl rfl ?_
    refine s_nilCheck rfl rfl ?_
    refine s_fieldAddr fo_124_1 rfl rfl ?_
    refine s_load1 Tryz.isAgg42 rfl rfl (by exact cin (i := 0) rfl rfl) ?_
    refine s_call Tryz.call74 rfl (vs := [_, _]) rfl (RCs.perm (by (repeat ((exact List.Perm.refl _)))) (RCs.sl (by (repeat (first | exact Sl.refl _ | (apply Sl.pick 0; exact rfl) | (apply Sl.pick 1; exact rfl) | refine Sl.skip ?_))) (file_rest (F := F) (xs := m.now) hsz))) ?_
    rintro v w ⟨rfl, hS⟩
    refine SXs_go hS ?_
    clear hS; clear w
    simp only [putF]
    refine SXs_nilK (fr' := []) rfl ?_
    refine KSs_wp ?_
    refine WPs_seq ?_
    refine WPs_regionK [2] ?_
    refine s_assign rfl rfl ?_
    refine SXs_nilK (fr' := [(2, _)]) rfl ?_
    refine KSs_wp ?_
    refine WPs_ret ?_
    refine RLs_start ?_
    refine RLs_tmp rfl ?_
    refine RLs_fin1 ?_
    exact fun w hS => ⟨rfl, hS⟩

theorem file_size {g : World} {F : List HP} {p : Nat} {m : FileM} :
    RCs Tryz.prog 86 [.pointer (some ⟨p, 0, none⟩)] g (FileR p m :: F)
      (fun u w => u = .int .i64 (m.now.length : Int) ∧ St g w (FileR p m :: F)) := by
  refine RCs_file fun sa sc na nc da dc dvs hdl => ?_
  refine RCs_of_WPs Tryz.func86 rfl Tryz.ntmps86 rfl Tryz.results86 ?_
  refine WPs_seq ?_
  refine WPs_regionK [0] ?_
  refine s_assign rfl rfl ?_
  refine SXs_nilK (fr' := [(0, _)]) rfl ?_
  refine KSs_wp ?_
  refine WPs_seq ?_
  refine WPs_seq ?_
  refine WPs_regionK [0, 4] ?_
  refine s_move rfl rfl ?_
  refine s_eqlV rfl rfl rfl (eq_ptr_nil_some Tryz.underlying81) ?_
  refine SXs_nilK (fr' := [(0, _), (4, _)]) rfl ?_
  refine KSs_wp ?_
  refine WPs_cond rfl (fun hc1 => ?_) (fun hc1 => ?_)
  · (exfalso; (cases hc1; done))
  · simp only [decide_eq_true_eq] at hc1
    refine WPs_skip ?_
    refine KSs_wp ?_
    refine WPs_seq ?_
    refine WPs_regionK [2] ?_
    refine s_move rfl rfl ?_
    refine s_nilCheck rfl rfl ?_
    refine s_fieldAddr fo_124_1 rfl rfl ?_
    refine s_load1 Tryz.isAgg42 rfl rfl (by exact cin (i := 0) rfl rfl) ?_
    refine s_len rfl Tryz.underlying42 rfl rfl ?_
    refine s_assign rfl rfl ?_
    refine SXs_nilK (fr' := [(2, _)]) rfl ?_
    refine KSs_wp ?_
    refine WPs_ret ?_
    refine RLs_start ?_
    refine RLs_tmp rfl ?_
    refine RLs_fin1 ?_
    exact fun w hS => ⟨rfl, FileR_mk hS rfl rfl⟩

theorem file_read {g : World} {F : List HP} {p : Nat} {m : FileM} {at_ k : Nat} (hsz : m.now.length ≤ 70368744177664) (hk : at_ + k ≤ m.now.length) :
    RCs Tryz.prog 82 [.pointer (some ⟨p, 0, none⟩), .int .i64 (at_ : Int), .int .i64 (k : Int)] g (FileR p m :: F)
      (fun u w => ∃ v, u = .tuple #[v, .int .i64 0] ∧ SlB g ((m.now.drop at_).take k) (FileR p m :: F) v w) := by
  refine RCs_file fun sa sc na nc da dc dvs hdl => ?_
  refine RCs_rd 2 rfl fun hRn => ?_
  refine RCs_of_WPs Tryz.func82 rfl Tryz.ntmps82 rfl Tryz.results82 ?_
  refine WPs_seq ?_
  refine WPs_regionK [0, 1, 2] ?_
  refine s_assign rfl rfl ?_
  refine s_assign rfl rfl ?_
  refine SXs_nilK (fr' := [(0, _), (1, _), (2, _)]) rfl ?_
  refine KSs_wp ?_
  refine WPs_seq ?_
  refine WPs_block ?_
  refine WPs_seq ?_
  refine WPs_regionK [0, 1, 2, 8] ?_
  refine s_move rfl rfl ?_
  refine s_eqlV rfl rfl rfl (eq_ptr_nil_some Tryz.underlying81) ?_
  refine s_assign rfl rfl ?_
  refine SXs_nilK (fr' := [(0, _), (1, _), (2, _), (8, _)]) rfl ?_
  refine KSs_wp ?_
  refine WPs_cond rfl (fun hc1 => ?_) (fun hc1 => ?_)
  · (exfalso; (cases hc1; done))
  · simp only [decide_eq_true_eq] at hc1
    refine WPs_seq ?_
    refine WPs_regionK [0, 1, 2, 11] ?_
    refine s_move rfl rfl ?_
    refine s_lss rfl rfl rfl ?_
    refine s_move rfl rfl ?_
    refine s_guard rfl rfl rfl (fun hc2 => ?_) (fun hc2 => ?_)
    · simp only [decide_eq_false_iff_not] at hc2
      refine s_move rfl rfl ?_
      refine s_guard_t2 rfl rfl (by ((rfl))) rfl ?_
      refine s_lss rfl rfl rfl ?_
      refine s_pick_f rfl rfl rfl ?_
      refine s_assign rfl rfl ?_
      refine SXs_nilK (fr' := [(0, _), (1, _), (2, _), (11, _)]) rfl ?_
      refine KSs_wp ?_
      refine WPs_cond rfl (fun hc3 => ?_) (fun hc3 => ?_)
      · (exfalso; (cases hc3; done))
      · simp only [decide_eq_false_iff_not] at hc3
        refine WPs_seq ?_
        refine WPs_regionK [0, 1, 2, 18] ?_
        refine s_move rfl rfl ?_
        refine s_move rfl rfl ?_
        refine s_nilCheck rfl rfl ?_
        refine s_fieldAddr fo_124_1 rfl rfl ?_
        refine s_load1 Tryz.isAgg42 rfl rfl (by exact cin (i := 0) rfl rfl) ?_
        refine s_len rfl Tryz.underlying42 rfl rfl ?_
        refine s_gtr rfl rfl rfl ?_
        refine s_move rfl rfl ?_
        refine s_guard rfl rfl rfl (fun hc4 => ?_) (fun hc4 => ?_)
        · simp only [decide_eq_false_iff_not] at hc4
          refine s_move rfl rfl ?_
          refine s_guard_t2 rfl rfl (by ((simp_all; done))) rfl ?_
          refine s_move rfl rfl ?_
          refine s_guard_t2 rfl rfl (by ((simp_all; done))) rfl ?_
          refine s_nilCheck rfl rfl ?_
          refine s_guard_t2 rfl rfl (by ((simp_all; done))) rfl ?_
          refine s_fieldAddr fo_124_1 rfl rfl ?_
          refine s_guard_t2 rfl rfl (by ((simp_all; done))) rfl ?_
          refine s_load1 Tryz.isAgg42 rfl rfl (by exact cin (i := 0) rfl rfl) ?_
          refine s_guard_t2 rfl rfl (by ((simp_all; done))) rfl ?_
          refine s_len rfl Tryz.underlying42 rfl rfl ?_
          refine s_guard_t2 rfl rfl (by ((simp_all; done))) rfl ?_
          refine s_move rfl rfl ?_
          refine s_guard_t2 rfl rfl (by ((simp_all; done))) rfl ?_
          refine s_sub_ok rfl rfl rfl (inR_i64 (by omega) (by omega)) ?_
          refine s_guard_t2 rfl rfl (by ((simp_all; done))) rfl ?_
          refine s_gtr rfl rfl rfl ?_
          refine s_pickB rfl rfl rfl rfl ?_
          refine s_assign rfl rfl ?_
          refine SXs_nilK (fr' := [(0, _), (1, _), (2, _), (18, _)]) rfl ?_
          refine KSs_wp ?_
          refine WPs_cond rfl (fun hc5 => ?_) (fun hc5 => ?_)
          · (exfalso; (simp at hc5; omega))
          · refine WPs_skip ?_
            refine KSs_wp ?_
            refine WPs_seq ?_
            refine WPs_regionK [6, 7] ?_
            refine s_move rfl rfl ?_
            refine s_nilCheck rfl rfl ?_
            refine s_fieldAddr fo_124_1 rfl rfl ?_
            refine s_load1 Tryz.isAgg42 rfl rfl (by exact cin (i := 0) rfl rfl) ?_
            refine s_move rfl rfl ?_
            refine s_move rfl rfl ?_
            refine s_move rfl rfl ?_
            refine s_add_ok rfl rfl rfl (inR_i64 (by omega) (by omega)) ?_
            refine s_sliceRd slt_42 (vlo := some _) (vhi := some _) rfl rfl (by ((assumption))) (rfl) (rfl) (.inl rfl) (.inl rfl) (by omega) (by omega) (fun va45 vc45 hR45 => ?_)
            refine s_call Tryz.call73 rfl (vs := [_]) rfl (RCs.perm (by (repeat ((exact List.Perm.refl _)))) (clone_spec (xs := (m.now.drop at_).take k) (rdb_of hR45 (by rw [show at_ + k - at_ = k from by omega]; simp [bv_take, bv_drop])) (by simp; omega))) ?_
            rintro v w ⟨va46, vc46, rfl, hS⟩
            refine SXs_go hS ?_
            clear hS; clear w
            simp only [putF]
            refine s_assign rfl rfl ?_
            refine s_assign rfl rfl ?_
            refine SXs_nilK (fr' := [(6, _), (7, _)]) rfl ?_
            refine KSs_wp ?_
            refine WPs_ret ?_
            refine RLs_start ?_
            refine RLs_tmp rfl ?_
            refine RLs_tmp rfl ?_
            refine RLs_fin2 ?_
            exact fun w hS => ⟨_, rfl, _, _, rfl, by
              have h1 := hS.perm (L' := pt p (.cells [.slice sa m.safe.length sc, .slice na m.now.length nc, .slice da dvs.length dc].toArray 124 (0, 0)) :: ownB _ m.safe :: ownB _ m.now :: own 160 1 _ _ dvs :: deedsHP dvs m.deeds :: ownB (.slice va46 ((m.now.drop at_).take k).length vc46) ((m.now.drop at_).take k) :: F) (by (repeat (first | exact List.Perm.refl _ | (apply pick 1; exact rfl))))
              exact (FileR_mk h1 rfl rfl).perm (List.Perm.swap _ _ _)⟩
        · (exfalso; (simp only [decide_eq_true_eq, Bool.not_false] at hc4; omega))
    · (exfalso; (cases hc2; done))
theorem bv_set (xs : List UInt8) (k : Nat) (c : UInt8) : (bv xs).set k (.int .u8 (c.toNat : Int)) = bv (xs.set k c) := by
  simp only [bv, List.map_set]

theorem file_flip {g : World} {F : List HP} {p : Nat} {m : FileM} {at_ : Nat} {bits c : UInt8} (hsz : m.now.length ≤ 70368744177664) (hk : at_ < m.now.length) (hc : m.now[at_]? = some c) (hds : m.deeds = []) :
    RCs Tryz.prog 31 [.pointer (some ⟨p, 0, none⟩), .int .i64 (at_ : Int), .int .u8 (bits.toNat : Int)] g (FileR p m :: F)
      (fun u w => u = .int .i64 0 ∧ St g w (FileR p ⟨m.now.set at_ (c ^^^ bits), m.now.set at_ (c ^^^ bits), []⟩ :: F)) := by
  refine RCs_file fun sa sc na nc da dc dvs hdl => ?_
  have hd0 : dvs.length = 0 := by rw [hdl, hds]; rfl
  refine RCs_rd 2 rfl fun hRn => ?_
  refine RCs_of_WPs Tryz.func31 rfl Tryz.ntmps31 rfl Tryz.results31 ?_
  refine WPs_seq ?_
  refine WPs_regionK [0, 1, 2] ?_
  refine s_assign rfl rfl ?_
  refine SXs_nilK (fr' := [(0, _), (1, _), (2, _)]) rfl ?_
  refine KSs_wp ?_
  refine WPs_seq ?_
  refine WPs_block ?_
  refine WPs_seq ?_
  refine WPs_regionK [0, 1, 2, 8] ?_
  refine s_move rfl rfl ?_
  refine s_eqlV rfl rfl rfl (eq_ptr_nil_some Tryz.underlying81) ?_
  refine s_assign rfl rfl ?_
  refine SXs_nilK (fr' := [(0, _), (1, _), (2, _), (8, _)]) rfl ?_
  refine KSs_wp ?_
  refine WPs_cond rfl (fun hc1 => ?_) (fun hc1 => ?_)
  · (exfalso; (cases hc1; done))
  · simp only [decide_eq_true_eq] at hc1
    refine WPs_seq ?_
    refine WPs_regionK [0, 1, 2, 11] ?_
    refine s_move rfl rfl ?_
    refine s_nilCheck rfl rfl ?_
    refine s_fieldAddr fo_124_2 rfl rfl ?_
    refine s_load1 Tryz.isAgg122 rfl rfl (by exact cin (i := 0) rfl rfl) ?_
    refine s_len rfl Tryz.underlying122 rfl rfl ?_
    refine s_gtr rfl rfl rfl ?_
    refine s_move rfl rfl ?_
    refine s_guard rfl rfl rfl (fun hc2 => ?_) (fun hc2 => ?_)
    · simp only [decide_eq_false_iff_not] at hc2
      refine s_move rfl rfl ?_
      refine s_guard_t2 rfl rfl (by ((simp_all; done))) rfl ?_
      refine s_lss rfl rfl rfl ?_
      refine s_pickB rfl rfl rfl rfl ?_
      refine s_move rfl rfl ?_
      refine s_guard rfl rfl rfl (fun hc3 => ?_) (fun hc3 => ?_)
      · refine s_move rfl rfl ?_
        refine s_guard_t2 rfl rfl (by ((assumption))) rfl ?_
        refine s_move rfl rfl ?_
        refine s_guard_t2 rfl rfl (by ((assumption))) rfl ?_
        refine s_nilCheck rfl rfl ?_
        refine s_guard_t2 rfl rfl (by ((assumption))) rfl ?_
        refine s_fieldAddr fo_124_1 rfl rfl ?_
        refine s_guard_t2 rfl rfl (by ((assumption))) rfl ?_
        refine s_load1 Tryz.isAgg42 rfl rfl (by exact cin (i := 0) rfl rfl) ?_
        refine s_guard_t2 rfl rfl (by ((assumption))) rfl ?_
        refine s_len rfl Tryz.underlying42 rfl rfl ?_
        refine s_guard_t2 rfl rfl (by ((assumption))) rfl ?_
        refine s_geq rfl rfl rfl ?_
        refine s_pickB rfl rfl rfl rfl ?_
        refine s_assign rfl rfl ?_
        refine SXs_nilK (fr' := [(0, _), (1, _), (2, _), (11, _)]) rfl ?_
        refine KSs_wp ?_
        refine WPs_cond rfl (fun hc4 => ?_) (fun hc4 => ?_)
        · (exfalso; (simp at hc4; omega))
        · refine WPs_skip ?_
          refine KSs_wp ?_
          refine WPs_seq ?_
          refine WPs_regionK [0, 1, 2, 7] ?_
          refine s_move rfl rfl ?_
          refine s_nilCheck rfl rfl ?_
          refine s_fieldAddr fo_124_1 rfl rfl ?_
          refine s_load1 Tryz.isAgg42 rfl rfl (by exact cin (i := 0) rfl rfl) ?_
          refine s_call Tryz.call73 rfl (vs := [_]) rfl (RCs.perm (by (repeat ((exact List.Perm.refl _)))) (clone_spec (xs := m.now) hRn (by omega))) ?_
          rintro v w ⟨va35, vc35, rfl, hS⟩
          refine SXs_go hS ?_
          clear hS; clear w
          simp only [putF]
          refine s_assign rfl rfl ?_
          refine SXs_nilK (fr' := [(0, _), (1, _), (2, _), (7, _)]) rfl ?_
          refine KSs_wp ?_
          refine WPs_seq ?_
          refine WPs_regionK [0, 7] ?_
          refine s_move rfl rfl ?_
          refine s_move rfl rfl ?_
          refine SXs_open 0 rfl (by omega) (fun b6 cap6 cur6 e6 h61 h62 h63 h64 => ?_)
          cases e6
          simp only [List.set_cons_zero]
          have hcur : cur6[0 + (at_ : Int).toNat * 1]? = some (.int .u8 (c.toNat : Int)) := by
            have h1 : (bv m.now)[at_]? = some (.int .u8 (c.toNat : Int)) := by rw [bv_get, hc]; rfl
            rw [← h64, List.getElem?_take, if_pos (by omega)] at h1
            simpa using h1
          refine s_idx slt_42 rfl rfl rfl (by omega) (by omega) ?_
          refine s_load1 Tryz.isAgg5 rfl rfl (cin (i := 0) rfl hcur) ?_
          refine s_move rfl rfl ?_
          refine s_xorN rfl rfl rfl rfl (by exact UInt8.toNat_lt _) (by exact UInt8.toNat_lt _) ?_
          refine s_idx slt_42 rfl rfl rfl (by omega) (by omega) ?_
          refine s_store (i := 0) Tryz.sizeOf5 rfl rfl rfl (vs := [_]) rfl rfl rfl (by simp; omega) ?_
          simp only [List.set_cons_zero, spl]
          refine SXs_nilK (fr' := [(0, _), (7, _)]) rfl ?_
          refine KSs_wp ?_
          refine WPs_seq ?_
          refine WPs_regionK [] ?_
          refine SXs_st (fun w hS => ownB_of (xs := m.now.set at_ (c ^^^ bits)) (own_of_pt (m := m.now.length) (k := 1) (xs := bv (m.now.set at_ (c ^^^ bits))) hS h61 h62 (by simp [h63]) (by
            rw [List.take_set, h64, ← bv_set, UInt8.toNat_xor]
            simp)) rfl) ?_
          refine s_move rfl rfl ?_
          refine s_move rfl rfl ?_
          refine s_call Tryz.call74 rfl (vs := [_, _]) rfl (RCs.perm (by (repeat ((exact List.Perm.refl _)))) (RCs.sl (by (repeat (first | exact Sl.refl _ | (apply Sl.pick 0; exact rfl) | (apply Sl.pick 1; exact rfl) | refine Sl.skip ?_))) (file_rest (F := F) (xs := m.now.set at_ (c ^^^ bits)) (by simp; omega)))) ?_
          rintro v w ⟨rfl, hS⟩
          refine SXs_go hS ?_
          clear hS; clear w
          simp only [putF]
          refine SXs_nilK (fr' := []) rfl ?_
          refine KSs_wp ?_
          refine WPs_seq ?_
          refine WPs_regionK [6] ?_
          refine s_assign rfl rfl ?_
          refine SXs_nilK (fr' := [(6, _)]) rfl ?_
          refine KSs_wp ?_
          refine WPs_ret ?_
          refine RLs_start ?_
          refine RLs_tmp rfl ?_
          refine RLs_fin1 ?_
          exact fun w hS => ⟨rfl, hS⟩
      · (exfalso; (simp at hc3; omega))
    · (exfalso; (simp only [decide_eq_true_eq, Bool.not_false] at hc2; omega))
end Go.Proofs.YthodbnmeggkkoaaGreatDoor
/-
  The library's iterators over a map that holds nothing, or one entry; slices.AppendSeq, slices.Collect over them.
-/
namespace Go.Proofs.YthodbnmeggkkoaaGreatDoor
open Go Go.RowKit Go.Hb Go.Proofs

theorem values_seq0 {g : World} {F : List HP} {B m : Nat} :
    SeqK Tryz.prog 138 [.pointer (some ⟨B, 0, none⟩)] g (pt B (.cells [.map (some m)].toArray 112 (0, 0)) :: pt m (.map ([] : List MapEntry).toArray 0) :: F) [] := by
  intro l rec I hs hp hpar hround
  refine RCs_of_WPs Tryz.func138 rfl Tryz.ntmps138 rfl Tryz.results138 ?_
  refine WPs_seq ?_
  refine WPs_regionK [0, 6] ?_
  refine s_load1 Tryz.isAgg112 rfl rfl (by exact cin (i := 2) rfl rfl) ?_
  refine s_range (q := 3) Tryz.underlying112 rfl rfl rfl (fun b6 => ?_)
  refine SXs_nilK (fr' := [(0, _), (6, _)]) rfl ?_
  refine KSs_wp ?_
  refine WPs_block ?_
  refine WPs_unroll 1 ?_
  refine WPs_seq ?_
  refine WPs_regionK [0, 6, 8] ?_
  refine s_next0 (i := 0) (q := 4) rfl rfl rfl rfl ?_
  refine s_extract rfl rfl rfl ?_
  refine SXs_nilK (fr' := [(0, _), (6, _), (8, _)]) rfl ?_
  refine KSs_wp ?_
  refine WPs_seq ?_
  refine WPs_cond rfl (fun hc1 => ?_) (fun hc1 => ?_)
  · (exfalso; (cases hc1; done))
  · simp only [decide_eq_true_eq] at hc1
    refine WPs_exit rfl ?_
    refine RLs_start ?_
    refine RLs_fin0 ?_
    exact fun w hS => hS.sl (by (repeat (first | exact Sl.refl _ | (apply Sl.pick 1; exact rfl) | refine Sl.skip ?_)))
theorem values_seq1 {g : World} {F : List HP} {B m : Nat} {k v : Value} :
    SeqK Tryz.prog 138 [.pointer (some ⟨B, 0, none⟩)] g (pt B (.cells [.map (some m)].toArray 112 (0, 0)) :: pt m (.map [⟨k, v, 0⟩].toArray 1) :: F) [v] := by
  intro l rec I hs hp hpar hround
  refine RCs_of_WPs Tryz.func138 rfl Tryz.ntmps138 rfl Tryz.results138 ?_
  refine WPs_seq ?_
  refine WPs_regionK [0, 6] ?_
  refine s_load1 Tryz.isAgg112 rfl rfl (by exact cin (i := 2) rfl rfl) ?_
  refine s_range (q := 3) Tryz.underlying112 rfl rfl rfl (fun b6 => ?_)
  refine SXs_nilK (fr' := [(0, _), (6, _)]) rfl ?_
  refine KSs_wp ?_
  refine WPs_block ?_
  refine WPs_unroll 1 ?_
  refine WPs_seq ?_
  refine WPs_regionK [0, 6, 8] ?_
  refine s_next1 (i := 0) (q := 4) rfl rfl rfl rfl ?_
  refine s_extract rfl rfl rfl ?_
  refine SXs_nilK (fr' := [(0, _), (6, _), (8, _)]) rfl ?_
  refine KSs_wp ?_
  refine WPs_seq ?_
  refine WPs_cond rfl (fun hc1 => ?_) (fun hc1 => ?_)
  · simp only [decide_eq_true_eq] at hc1
    refine WPs_skip ?_
    refine KSs_wp ?_
    refine WPs_block ?_
    refine WPs_seq ?_
    refine WPs_regionK [0, 4, 6] ?_
    refine s_entry1 (i := 0) (q := 4) rfl rfl rfl rfl ?_
    refine s_extract rfl rfl rfl ?_
    refine s_assign rfl rfl ?_
    refine SXs_nilK (fr' := [(0, _), (4, _), (6, _)]) rfl ?_
    refine KSs_wp ?_
    refine WPs_seq ?_
    refine WPs_yieldS [0, 6, 14] (i := 1) (rec := rec) (v := v) rfl (fun _ => rfl) rfl rfl rfl rfl (by decide) rfl hpar (fun w hw => (hround 0 v rfl _ w ((hw.bring 2 rfl).bring 2 rfl))) (fr' := [(0, _), (6, _), (14, _)]) rfl ?_
    simp only [List.eraseIdx_cons_zero, List.eraseIdx_cons_succ, List.set_cons_zero]
    refine KSs_wp ?_
    refine WPs_cond rfl (fun hc2 => ?_) (fun hc2 => ?_)
    · (exfalso; (cases hc2; done))
    · simp only [decide_eq_true_eq] at hc2
      refine WPs_skip ?_
      refine KSs_unroll (N := 0) ?_
      refine WPs_seq ?_
      refine WPs_regionK [0, 6, 8] ?_
      refine s_next2 (i := 2) (q := 4) rfl rfl rfl rfl ?_
      refine s_extract rfl rfl rfl ?_
      refine SXs_nilK (fr' := [(0, _), (6, _), (8, _)]) rfl ?_
      refine KSs_wp ?_
      refine WPs_seq ?_
      refine WPs_cond rfl (fun hc3 => ?_) (fun hc3 => ?_)
      · (exfalso; (cases hc3; done))
      · simp only [decide_eq_true_eq] at hc3
        refine WPs_exit rfl ?_
        refine RLs_start ?_
        refine RLs_fin0 ?_
        exact fun w hS => hS.sl (by (repeat (first | exact Sl.refl _ | (apply Sl.pick 0; exact rfl) | (apply Sl.pick 1; exact rfl) | refine Sl.skip ?_)))
  · (exfalso; (cases hc1; done))
end Go.Proofs.YthodbnmeggkkoaaGreatDoor
/-
  math/bits.Len64; slices.Sort, Compact, Contains at lists of one element at the most; maps.Values, slices.Collect.
-/
namespace Go.Proofs.YthodbnmeggkkoaaGreatDoor
open Go Go.RowKit Go.Hb Go.Proofs

/-! ### math/bits.Len64 -/

/-- How many bits a number has. -/
def bl (x : Nat) : Nat := if x = 0 then 0 else Nat.log2 x + 1
theorem bl_lt {x k : Nat} : bl x ≤ k ↔ x < 2 ^ k := by
  unfold bl
  split
  · rename_i h; subst h; simp; exact Nat.pow_pos (by decide)
  · rename_i h
    rw [← Nat.log2_lt h]; omega
theorem bl_shr {x k : Nat} (h : 2 ^ k ≤ x) : bl x = k + bl (x >>> k) := by
  have hx : x ≠ 0 := by have := Nat.pow_pos (n := k) (show 0 < 2 by decide); omega
  have h1 : x >>> k ≠ 0 := by
    rw [Nat.shiftRight_eq_div_pow]
    have := Nat.div_pos h (Nat.pow_pos (by decide)); omega
  have h2 : ∀ j, bl x ≤ k + j ↔ k + bl (x >>> k) ≤ k + j := fun j => by
    rw [bl_lt, Nat.add_le_add_iff_left, bl_lt, Nat.shiftRight_eq_div_pow, Nat.div_lt_iff_lt_mul (Nat.pow_pos (by decide)), ← Nat.pow_add, Nat.add_comm j k]
  have h3 := (h2 (bl (x >>> k))).2 (Nat.le_refl _)
  have h4 : k ≤ bl x := by
    rcases Nat.lt_or_ge (bl x) k with h5 | h5
    · have := bl_lt.1 (Nat.le_of_lt h5); omega
    · exact h5
  have h6 := (h2 (bl x - k)).1 (by omega)
  omega

def tabOk (s : ByteArray) : Bool := (List.range 256).all fun x => (s[x]?).map (·.toNat) == some (bl x)
theorem tab_at {s : ByteArray} (h : tabOk s = true) {x : Nat} (hx : x < 256) : ∃ c : UInt8, s[x]? = some c ∧ c.toNat = bl x := by
  have h1 := List.all_eq_true.1 h x (List.mem_range.2 hx)
  cases hc : s[x]? with
  | none => rw [hc] at h1; simp at h1
  | some c => rw [hc] at h1; exact ⟨c, rfl, by simpa using h1⟩
theorem s_indexTab {n : Nat} {fr : Fr} {g : World} {L : List HP} {K : Fr → World → Prop} {X : Ks} {ops : Array Oper} {d : Nat} {ty : TypeId} {ps : String} {af : Array Edge} {rest : List Oper}
    {x y : Operand} {s : ByteArray} {kd : IntKind} {i : Nat} (hd : Nat.blt d n = true) (hx : evO fr x = some (.string s)) (hy : evO fr y = some (.int kd (i : Int))) (hs : tabOk s = true) (hi : i < 256)
    (h : SXs Tryz.prog n ops rest ((d, .int .u8 (bl i : Int)) :: fr) g L K X) : SXs Tryz.prog n ops (⟨some d, .index 9 x y, ty, ps, af, none⟩ :: rest) fr g L K X := by
  obtain ⟨c, h1, h2⟩ := tab_at hs hi
  refine s_indexStr Tryz.underlying9 hd hx hy (by omega) (c := c) h1 ?_
  rw [h2]
  exact h

theorem len64_spec {g : World} {F : List HP} {x : Nat} (hx : x < 2 ^ 64) :
    RCs Tryz.prog 153 [.int .u64 (x : Int)] g F (fun v w => v = .int .i64 (bl x : Int) ∧ St g w F) := by
  have b32 : 2 ^ 32 ≤ x → bl x = 32 + bl (x >>> 32) := bl_shr
  have b16 : ∀ y, 2 ^ 16 ≤ y → bl y = 16 + bl (y >>> 16) := fun y => bl_shr
  have b8 : ∀ y, 2 ^ 8 ≤ y → bl y = 8 + bl (y >>> 8) := fun y => bl_shr
  have r32 : x >>> 32 < 2 ^ 32 := by rw [Nat.shiftRight_eq_div_pow]; omega
  have r16 : ∀ y, y < 2 ^ 32 → y >>> 16 < 2 ^ 16 := fun y h => by rw [Nat.shiftRight_eq_div_pow]; omega
  have r8 : ∀ y, y < 2 ^ 16 → y >>> 8 < 2 ^ 8 := fun y h => by rw [Nat.shiftRight_eq_div_pow]; omega
  have e1 := b16 x; have e2 := b16 (x >>> 32); have e3 := b8 x; have e4 := b8 (x >>> 32); have e5 := b8 (x >>> 16); have e6 := b8 (x >>> 32 >>> 16)
  have q1 := r16 x; have q2 := r16 (x >>> 32); have q3 := r8 x; have q4 := r8 (x >>> 32); have q5 := r8 (x >>> 16); have q6 := r8 (x >>> 32 >>> 16)
  have m1 : bl x ≤ 64 := bl_lt.2 hx
  refine RCs_of_WPs Tryz.func153 rfl Tryz.ntmps153 rfl Tryz.results153 ?_
  refine WPs_seq ?_
  refine WPs_regionK [0, 2] ?_
  refine s_assign rfl rfl ?_
  refine SXs_nilK (fr' := [(0, _), (2, _)]) rfl ?_
  refine KSs_wp ?_
  refine WPs_seq ?_
  refine WPs_seq ?_
  refine WPs_regionK [0, 2, 4] ?_
  refine s_move rfl rfl ?_
  refine s_geq rfl rfl rfl ?_
  refine SXs_nilK (fr' := [(0, _), (2, _), (4, _)]) rfl ?_
  refine KSs_wp ?_
  refine WPs_cond rfl (fun hc1 => ?_) (fun hc1 => ?_)
  · simp only [decide_eq_true_eq] at hc1
    refine WPs_seq ?_
    refine WPs_regionK [0] ?_
    refine s_move rfl rfl ?_
    refine s_shrN (b := 32) rfl rfl rfl (by ((decide))) ?_
    refine s_assign rfl rfl ?_
    refine SXs_nilK (fr' := [(0, _)]) rfl ?_
    refine KSs_wp ?_
    refine WPs_regionK [0, 2] ?_
    refine s_assign rfl rfl ?_
    refine SXs_nilK (fr' := [(0, _), (2, _)]) rfl ?_
    refine KSs_wp ?_
    refine WPs_seq ?_
    refine WPs_seq ?_
    refine WPs_regionK [0, 2, 8] ?_
    refine s_move rfl rfl ?_
    refine s_geq rfl rfl rfl ?_
    refine SXs_nilK (fr' := [(0, _), (2, _), (8, _)]) rfl ?_
    refine KSs_wp ?_
    refine WPs_cond rfl (fun hc2 => ?_) (fun hc2 => ?_)
    · simp only [decide_eq_true_eq] at hc2
      refine WPs_seq ?_
      refine WPs_regionK [0, 2] ?_
      refine s_move rfl rfl ?_
      refine s_shrN (b := 16) rfl rfl rfl (by ((decide))) ?_
      refine s_assign rfl rfl ?_
      refine SXs_nilK (fr' := [(0, _), (2, _)]) rfl ?_
      refine KSs_wp ?_
      refine WPs_regionK [0, 2] ?_
      refine s_move rfl rfl ?_
      refine s_add_ok rfl rfl rfl (inR_i64 (by omega) (by omega)) ?_
      refine s_assign rfl rfl ?_
      refine SXs_nilK (fr' := [(0, _), (2, _)]) rfl ?_
      refine KSs_wp ?_
      refine WPs_seq ?_
      refine WPs_seq ?_
      refine WPs_regionK [0, 2, 14] ?_
      refine s_move rfl rfl ?_
      refine s_geq rfl rfl rfl ?_
      refine SXs_nilK (fr' := [(0, _), (2, _), (14, _)]) rfl ?_
      refine KSs_wp ?_
      refine WPs_cond rfl (fun hc3 => ?_) (fun hc3 => ?_)
      · simp only [decide_eq_true_eq] at hc3
        refine WPs_seq ?_
        refine WPs_regionK [0, 2] ?_
        refine s_move rfl rfl ?_
        refine s_shrN (b := 8) rfl rfl rfl (by ((decide))) ?_
        refine s_assign rfl rfl ?_
        refine SXs_nilK (fr' := [(0, _), (2, _)]) rfl ?_
        refine KSs_wp ?_
        refine WPs_regionK [0, 2] ?_
        refine s_move rfl rfl ?_
        refine s_add_ok rfl rfl rfl (inR_i64 (by omega) (by omega)) ?_
        refine s_assign rfl rfl ?_
        refine SXs_nilK (fr' := [(0, _), (2, _)]) rfl ?_
        refine KSs_wp ?_
        refine WPs_seq ?_
        refine WPs_regionK [2] ?_
        refine s_move rfl rfl ?_
        refine s_move rfl rfl ?_
        refine s_conv_ok Tryz.underlying36 Tryz.underlying5 rfl rfl (inR_u8 (by omega) (by omega)) ?_
        refine s_indexTab rfl rfl rfl (by decide +kernel) (by omega) ?_
        refine s_conv_ok Tryz.underlying5 Tryz.underlying3 rfl rfl (inR_i64 (by omega) (by omega)) ?_
        refine s_add_ok rfl rfl rfl (inR_i64 (by omega) (by omega)) ?_
        refine s_assign rfl rfl ?_
        refine SXs_nilK (fr' := [(2, _)]) rfl ?_
        refine KSs_wp ?_
        refine WPs_ret ?_
        refine RLs_start ?_
        refine RLs_tmp rfl ?_
        refine RLs_fin1 ?_
        exact fun w hS => ⟨by congr 1; omega, hS⟩
      · simp only [decide_eq_false_iff_not] at hc3
        refine WPs_skip ?_
        refine KSs_wp ?_
        refine WPs_seq ?_
        refine WPs_regionK [2] ?_
        refine s_move rfl rfl ?_
        refine s_move rfl rfl ?_
        refine s_conv_ok Tryz.underlying36 Tryz.underlying5 rfl rfl (inR_u8 (by omega) (by omega)) ?_
        refine s_indexTab rfl rfl rfl (by decide +kernel) (by omega) ?_
        refine s_conv_ok Tryz.underlying5 Tryz.underlying3 rfl rfl (inR_i64 (by omega) (by omega)) ?_
        refine s_add_ok rfl rfl rfl (inR_i64 (by omega) (by omega)) ?_
        refine s_assign rfl rfl ?_
        refine SXs_nilK (fr' := [(2, _)]) rfl ?_
        refine KSs_wp ?_
        refine WPs_ret ?_
        refine RLs_start ?_
        refine RLs_tmp rfl ?_
        refine RLs_fin1 ?_
        exact fun w hS => ⟨by congr 1; omega, hS⟩
    · simp only [decide_eq_false_iff_not] at hc2
      refine WPs_skip ?_
      refine KSs_wp ?_
      refine WPs_seq ?_
      refine WPs_seq ?_
      refine WPs_regionK [0, 2, 14] ?_
      refine s_move rfl rfl ?_
      refine s_geq rfl rfl rfl ?_
      refine SXs_nilK (fr' := [(0, _), (2, _), (14, _)]) rfl ?_
      refine KSs_wp ?_
      refine WPs_cond rfl (fun hc4 => ?_) (fun hc4 => ?_)
      · simp only [decide_eq_true_eq] at hc4
        refine WPs_seq ?_
        refine WPs_regionK [0, 2] ?_
        refine s_move rfl rfl ?_
        refine s_shrN (b := 8) rfl rfl rfl (by ((decide))) ?_
        refine s_assign rfl rfl ?_
        refine SXs_nilK (fr' := [(0, _), (2, _)]) rfl ?_
        refine KSs_wp ?_
        refine WPs_regionK [0, 2] ?_
        refine s_move rfl rfl ?_
        refine s_add_ok rfl rfl rfl (inR_i64 (by omega) (by omega)) ?_
        refine s_assign rfl rfl ?_
        refine SXs_nilK (fr' := [(0, _), (2, _)]) rfl ?_
        refine KSs_wp ?_
        refine WPs_seq ?_
        refine WPs_regionK [2] ?_
        refine s_move rfl rfl ?_
        refine s_move rfl rfl ?_
        refine s_conv_ok Tryz.underlying36 Tryz.underlying5 rfl rfl (inR_u8 (by omega) (by omega)) ?_
        refine s_indexTab rfl rfl rfl (by decide +kernel) (by omega) ?_
        refine s_conv_ok Tryz.underlying5 Tryz.underlying3 rfl rfl (inR_i64 (by omega) (by omega)) ?_
        refine s_add_ok rfl rfl rfl (inR_i64 (by omega) (by omega)) ?_
        refine s_assign rfl rfl ?_
        refine SXs_nilK (fr' := [(2, _)]) rfl ?_
        refine KSs_wp ?_
        refine WPs_ret ?_
        refine RLs_start ?_
        refine RLs_tmp rfl ?_
        refine RLs_fin1 ?_
        exact fun w hS => ⟨by congr 1; omega, hS⟩
      · simp only [decide_eq_false_iff_not] at hc4
        refine WPs_skip ?_
        refine KSs_wp ?_
        refine WPs_seq ?_
        refine WPs_regionK [2] ?_
        refine s_move rfl rfl ?_
        refine s_move rfl rfl ?_
        refine s_conv_ok Tryz.underlying36 Tryz.underlying5 rfl rfl (inR_u8 (by omega) (by omega)) ?_
        refine s_indexTab rfl rfl rfl (by decide +kernel) (by omega) ?_
        refine s_conv_ok Tryz.underlying5 Tryz.underlying3 rfl rfl (inR_i64 (by omega) (by omega)) ?_
        refine s_add_ok rfl rfl rfl (inR_i64 (by omega) (by omega)) ?_
        refine s_assign rfl rfl ?_
        refine SXs_nilK (fr' := [(2, _)]) rfl ?_
        refine KSs_wp ?_
        refine WPs_ret ?_
        refine RLs_start ?_
        refine RLs_tmp rfl ?_
        refine RLs_fin1 ?_
        exact fun w hS => ⟨by congr 1; omega, hS⟩
  · simp only [decide_eq_false_iff_not] at hc1
    refine WPs_skip ?_
    refine KSs_wp ?_
    refine WPs_seq ?_
    refine WPs_seq ?_
    refine WPs_regionK [0, 2, 8] ?_
    refine s_move rfl rfl ?_
    refine s_geq rfl rfl rfl ?_
    refine SXs_nilK (fr' := [(0, _), (2, _), (8, _)]) rfl ?_
    refine KSs_wp ?_
    refine WPs_cond rfl (fun hc5 => ?_) (fun hc5 => ?_)
    · simp only [decide_eq_true_eq] at hc5
      refine WPs_seq ?_
      refine WPs_regionK [0, 2] ?_
      refine s_move rfl rfl ?_
      refine s_shrN (b := 16) rfl rfl rfl (by ((decide))) ?_
      refine s_assign rfl rfl ?_
      refine SXs_nilK (fr' := [(0, _), (2, _)]) rfl ?_
      refine KSs_wp ?_
      refine WPs_regionK [0, 2] ?_
      refine s_move rfl rfl ?_
      refine s_add_ok rfl rfl rfl (inR_i64 (by omega) (by omega)) ?_
      refine s_assign rfl rfl ?_
      refine SXs_nilK (fr' := [(0, _), (2, _)]) rfl ?_
      refine KSs_wp ?_
      refine WPs_seq ?_
      refine WPs_seq ?_
      refine WPs_regionK [0, 2, 14] ?_
      refine s_move rfl rfl ?_
      refine s_geq rfl rfl rfl ?_
      refine SXs_nilK (fr' := [(0, _), (2, _), (14, _)]) rfl ?_
      refine KSs_wp ?_
      refine WPs_cond rfl (fun hc6 => ?_) (fun hc6 => ?_)
      · simp only [decide_eq_true_eq] at hc6
        refine WPs_seq ?_
        refine WPs_regionK [0, 2] ?_
        refine s_move rfl rfl ?_
        refine s_shrN (b := 8) rfl rfl rfl (by ((decide))) ?_
        refine s_assign rfl rfl ?_
        refine SXs_nilK (fr' := [(0, _), (2, _)]) rfl ?_
        refine KSs_wp ?_
        refine WPs_regionK [0, 2] ?_
        refine s_move rfl rfl ?_
        refine s_add_ok rfl rfl rfl (inR_i64 (by omega) (by omega)) ?_
        refine s_assign rfl rfl ?_
        refine SXs_nilK (fr' := [(0, _), (2, _)]) rfl ?_
        refine KSs_wp ?_
        refine WPs_seq ?_
        refine WPs_regionK [2] ?_
        refine s_move rfl rfl ?_
        refine s_move rfl rfl ?_
        refine s_conv_ok Tryz.underlying36 Tryz.underlying5 rfl rfl (inR_u8 (by omega) (by omega)) ?_
        refine s_indexTab rfl rfl rfl (by decide +kernel) (by omega) ?_
        refine s_conv_ok Tryz.underlying5 Tryz.underlying3 rfl rfl (inR_i64 (by omega) (by omega)) ?_
        refine s_add_ok rfl rfl rfl (inR_i64 (by omega) (by omega)) ?_
        refine s_assign rfl rfl ?_
        refine SXs_nilK (fr' := [(2, _)]) rfl ?_
        refine KSs_wp ?_
        refine WPs_ret ?_
        refine RLs_start ?_
        refine RLs_tmp rfl ?_
        refine RLs_fin1 ?_
        exact fun w hS => ⟨by congr 1; omega, hS⟩
      · simp only [decide_eq_false_iff_not] at hc6
        refine WPs_skip ?_
        refine KSs_wp ?_
        refine WPs_seq ?_
        refine WPs_regionK [2] ?_
        refine s_move rfl rfl ?_
        refine s_move rfl rfl ?_
        refine s_conv_ok Tryz.underlying36 Tryz.underlying5 rfl rfl (inR_u8 (by omega) (by omega)) ?_
        refine s_indexTab rfl rfl rfl (by decide +kernel) (by omega) ?_
        refine s_conv_ok Tryz.underlying5 Tryz.underlying3 rfl rfl (inR_i64 (by omega) (by omega)) ?_
        refine s_add_ok rfl rfl rfl (inR_i64 (by omega) (by omega)) ?_
        refine s_assign rfl rfl ?_
        refine SXs_nilK (fr' := [(2, _)]) rfl ?_
        refine KSs_wp ?_
        refine WPs_ret ?_
        refine RLs_start ?_
        refine RLs_tmp rfl ?_
        refine RLs_fin1 ?_
        exact fun w hS => ⟨by congr 1; omega, hS⟩
    · simp only [decide_eq_false_iff_not] at hc5
      refine WPs_skip ?_
      refine KSs_wp ?_
      refine WPs_seq ?_
      refine WPs_seq ?_
      refine WPs_regionK [0, 2, 14] ?_
      refine s_move rfl rfl ?_
      refine s_geq rfl rfl rfl ?_
      refine SXs_nilK (fr' := [(0, _), (2, _), (14, _)]) rfl ?_
      refine KSs_wp ?_
      refine WPs_cond rfl (fun hc7 => ?_) (fun hc7 => ?_)
      · simp only [decide_eq_true_eq] at hc7
        refine WPs_seq ?_
        refine WPs_regionK [0, 2] ?_
        refine s_move rfl rfl ?_
        refine s_shrN (b := 8) rfl rfl rfl (by ((decide))) ?_
        refine s_assign rfl rfl ?_
        refine SXs_nilK (fr' := [(0, _), (2, _)]) rfl ?_
        refine KSs_wp ?_
        refine WPs_regionK [0, 2] ?_
        refine s_move rfl rfl ?_
        refine s_add_ok rfl rfl rfl (inR_i64 (by omega) (by omega)) ?_
        refine s_assign rfl rfl ?_
        refine SXs_nilK (fr' := [(0, _), (2, _)]) rfl ?_
        refine KSs_wp ?_
        refine WPs_seq ?_
        refine WPs_regionK [2] ?_
        refine s_move rfl rfl ?_
        refine s_move rfl rfl ?_
        refine s_conv_ok Tryz.underlying36 Tryz.underlying5 rfl rfl (inR_u8 (by omega) (by omega)) ?_
        refine s_indexTab rfl rfl rfl (by decide +kernel) (by omega) ?_
        refine s_conv_ok Tryz.underlying5 Tryz.underlying3 rfl rfl (inR_i64 (by omega) (by omega)) ?_
        refine s_add_ok rfl rfl rfl (inR_i64 (by omega) (by omega)) ?_
        refine s_assign rfl rfl ?_
        refine SXs_nilK (fr' := [(2, _)]) rfl ?_
        refine KSs_wp ?_
        refine WPs_ret ?_
        refine RLs_start ?_
        refine RLs_tmp rfl ?_
        refine RLs_fin1 ?_
        exact fun w hS => ⟨by congr 1; omega, hS⟩
      · simp only [decide_eq_false_iff_not] at hc7
        refine WPs_skip ?_
        refine KSs_wp ?_
        refine WPs_seq ?_
        refine WPs_regionK [2] ?_
        refine s_move rfl rfl ?_
        refine s_move rfl rfl ?_
        refine s_conv_ok Tryz.underlying36 Tryz.underlying5 rfl rfl (inR_u8 (by omega) (by omega)) ?_
        refine s_indexTab rfl rfl rfl (by decide +kernel) (by omega) ?_
        refine s_conv_ok Tryz.underlying5 Tryz.underlying3 rfl rfl (inR_i64 (by omega) (by omega)) ?_
        refine s_add_ok rfl rfl rfl (inR_i64 (by omega) (by omega)) ?_
        refine s_assign rfl rfl ?_
        refine SXs_nilK (fr' := [(2, _)]) rfl ?_
        refine KSs_wp ?_
        refine WPs_ret ?_
        refine RLs_start ?_
        refine RLs_tmp rfl ?_
        refine RLs_fin1 ?_
        exact fun w hS => ⟨by congr 1; omega, hS⟩
end Go.Proofs.YthodbnmeggkkoaaGreatDoor
/-
  slices.Sort, Compact, Contains, Collect, Sorted at lists of one element at the most; maps.Values, maps.Keys.
-/
namespace Go.Proofs.YthodbnmeggkkoaaGreatDoor
open Go Go.RowKit Go.Hb Go.Proofs

theorem len_spec {g : World} {F : List HP} {x : Nat} (hx : x < 2 ^ 64) :
    RCs Tryz.prog 140 [.int .u64 (x : Int)] g F (fun v w => v = .int .i64 (bl x : Int) ∧ St g w F) := by
  refine RCs_of_WPs Tryz.func140 rfl Tryz.ntmps140 rfl Tryz.results140 ?_
  refine WPs_seq ?_
  refine WPs_regionK [0] ?_
  refine s_assign rfl rfl ?_
  refine SXs_nilK (fr' := [(0, _)]) rfl ?_
  refine KSs_wp ?_
  refine WPs_seq ?_
  refine WPs_cond rfl (fun hc1 => ?_) (fun hc1 => ?_)
  ·
    exfalso; (cases hc1; done)
  ·
    simp only [decide_eq_true_eq] at hc1
    refine WPs_skip ?_
    refine KSs_wp ?_
    refine WPs_seq ?_
    refine WPs_regionK [2] ?_
    refine s_move rfl rfl ?_
    refine s_call Tryz.call153 rfl (vs := [_]) rfl (RCs.perm (by (repeat ((exact List.Perm.refl _)))) (len64_spec hx)) ?_
    rintro v w ⟨rfl, hS⟩
    refine SXs_go hS ?_
    clear hS; clear w
    simp only [putF]
    refine s_assign rfl rfl ?_
    refine SXs_nilK (fr' := [(2, _)]) rfl ?_
    refine KSs_wp ?_
    refine WPs_ret ?_
    refine RLs_start ?_
    refine RLs_tmp rfl ?_
    refine RLs_fin1 ?_
    exact fun w hS => ⟨rfl, hS⟩

theorem ins_spec {g : World} {F : List HP} {v : Value} {n : Nat} (hn : n ≤ 1) :
    RCs Tryz.prog 163 [v, .int .i64 0, .int .i64 (n : Int)] g F (fun u w => u = .tuple #[] ∧ St g w F) := by
  refine RCs_of_WPs Tryz.func163 rfl Tryz.ntmps163 rfl Tryz.results163 ?_
  refine WPs_seq ?_
  refine WPs_regionK [0, 1, 2, 6] ?_
  refine s_move rfl rfl ?_
  refine s_add_ok rfl rfl rfl (inR_i64 (by omega) (by omega)) ?_
  refine s_assign rfl rfl ?_
  refine SXs_nilK (fr' := [(0, _), (1, _), (2, _), (6, _)]) rfl ?_
  refine KSs_wp ?_
  refine WPs_block ?_
  refine WPs_unroll 0 ?_
  refine WPs_seq ?_
  refine WPs_seq ?_
  refine WPs_regionK [0, 1, 2, 6, 12] ?_
  refine s_move rfl rfl ?_
  refine s_move rfl rfl ?_
  refine s_lss rfl rfl rfl ?_
  refine SXs_nilK (fr' := [(0, _), (1, _), (2, _), (6, _), (12, _)]) rfl ?_
  refine KSs_wp ?_
  refine WPs_cond rfl (fun hc1 => ?_) (fun hc1 => ?_)
  ·
    exfalso; (simp only [decide_eq_true_eq] at hc1; omega)
  ·
    simp only [decide_eq_false_iff_not] at hc1
    refine WPs_exit rfl ?_
    refine RLs_start ?_
    refine RLs_fin0 ?_
    exact fun w hS => ⟨rfl, hS⟩
theorem pdq_spec {g : World} {F : List HP} {v : Value} {n k : Nat} (hn : n ≤ 1) :
    RCs Tryz.prog 139 [v, .int .i64 0, .int .i64 (n : Int), .int .i64 (k : Int)] g F (fun u w => u = .tuple #[] ∧ St g w F) := by
  refine RCs_of_WPs Tryz.func139 rfl Tryz.ntmps139 rfl Tryz.results139 ?_
  refine WPs_seq ?_
  refine WPs_regionK [0, 1, 2, 3, 8] ?_
  refine s_assign rfl rfl ?_
  refine SXs_nilK (fr' := [(0, _), (1, _), (2, _), (3, _), (8, _)]) rfl ?_
  refine KSs_wp ?_
  refine WPs_seq ?_
  refine WPs_regionK [0, 1, 2, 3, 8, 9] ?_
  refine s_assign rfl rfl ?_
  refine SXs_nilK (fr' := [(0, _), (1, _), (2, _), (3, _), (8, _), (9, _)]) rfl ?_
  refine KSs_wp ?_
  refine WPs_block ?_
  refine WPs_unroll 0 ?_
  refine WPs_block ?_
  refine WPs_seq ?_
  refine WPs_regionK [0, 1, 2, 3, 8, 9, 10] ?_
  refine s_move rfl rfl ?_
  refine s_move rfl rfl ?_
  refine s_sub_ok rfl rfl rfl (inR_i64 (by omega) (by omega)) ?_
  refine s_assign rfl rfl ?_
  refine SXs_nilK (fr' := [(0, _), (1, _), (2, _), (3, _), (8, _), (9, _), (10, _)]) rfl ?_
  refine KSs_wp ?_
  refine WPs_seq ?_
  refine WPs_seq ?_
  refine WPs_regionK [0, 1, 2, 3, 8, 9, 10, 23] ?_
  refine s_move rfl rfl ?_
  refine s_leq rfl rfl rfl ?_
  refine SXs_nilK (fr' := [(0, _), (1, _), (2, _), (3, _), (8, _), (9, _), (10, _), (23, _)]) rfl ?_
  refine KSs_wp ?_
  refine WPs_cond rfl (fun hc1 => ?_) (fun hc1 => ?_)
  ·
    simp only [decide_eq_true_eq] at hc1
    refine WPs_seq ?_
    refine WPs_regionK [] ?_
    refine s_move rfl rfl ?_
    refine s_move rfl rfl ?_
    refine s_move rfl rfl ?_
    refine s_call Tryz.call163 rfl (vs := [_, _, _]) rfl (RCs.perm (by (repeat ((exact List.Perm.refl _)))) (ins_spec hn)) ?_
    rintro v w ⟨rfl, hS⟩
    refine SXs_go hS ?_
    clear hS; clear w
    simp only [putF]
    refine SXs_nilK (fr' := []) rfl ?_
    refine KSs_wp ?_
    refine WPs_ret ?_
    refine RLs_start ?_
    refine RLs_fin0 ?_
    exact fun w hS => ⟨rfl, hS⟩
  ·
    exfalso; (simp only [decide_eq_false_iff_not] at hc1; omega)
theorem sort_spec {g : World} {F : List HP} {v : Value} {n : Nat} {xs : List Value} (hR : RdIn g F v 1 n xs) (hn : n ≤ 1) :
    RCs Tryz.prog 102 [v] g F (fun u w => u = .tuple #[] ∧ St g w F) := by
  refine RCs_of_WPs Tryz.func102 rfl Tryz.ntmps102 rfl Tryz.results102 ?_
  refine WPs_seq ?_
  refine WPs_regionK [0, 2] ?_
  refine s_move rfl rfl ?_
  refine s_lenRd rfl Tryz.underlying104 rfl rfl (by ((assumption))) ?_
  refine s_assign rfl rfl ?_
  refine SXs_nilK (fr' := [(0, _), (2, _)]) rfl ?_
  refine KSs_wp ?_
  refine WPs_regionK [] ?_
  refine s_move rfl rfl ?_
  refine s_move rfl rfl ?_
  refine s_move rfl rfl ?_
  refine s_conv_ok Tryz.underlying3 Tryz.underlying127 rfl rfl (inR_u64 (by omega) (by omega)) ?_
  refine s_call Tryz.call140 rfl (vs := [_]) rfl (RCs.perm (by (repeat ((exact List.Perm.refl _)))) (len_spec (x := n) (by omega))) ?_
  rintro v w ⟨rfl, hS⟩
  refine SXs_go hS ?_
  clear hS; clear w
  simp only [putF]
  refine s_call Tryz.call139 rfl (vs := [_, _, _, _]) rfl (RCs.perm (by (repeat ((exact List.Perm.refl _)))) (pdq_spec hn)) ?_
  rintro v w ⟨rfl, hS⟩
  refine SXs_go hS ?_
  clear hS; clear w
  simp only [putF]
  refine SXs_nilK (fr' := []) rfl ?_
  refine RLs_start ?_
  refine RLs_fin0 ?_
  exact fun w hS => ⟨rfl, hS⟩
theorem compact_spec {g : World} {F : List HP} {v : Value} {n : Nat} {xs : List Value} (hR : RdIn g F v 1 n xs) (hn : n ≤ 1) :
    RCs Tryz.prog 103 [v] g F (fun u w => u = v ∧ St g w F) := by
  refine RCs_of_WPs Tryz.func103 rfl Tryz.ntmps103 rfl Tryz.results103 ?_
  refine WPs_seq ?_
  refine WPs_regionK [0] ?_
  refine s_assign rfl rfl ?_
  refine SXs_nilK (fr' := [(0, _)]) rfl ?_
  refine KSs_wp ?_
  refine WPs_seq ?_
  refine WPs_seq ?_
  refine WPs_regionK [0, 8] ?_
  refine s_move rfl rfl ?_
  refine s_lenRd rfl Tryz.underlying104 rfl rfl (by ((assumption))) ?_
  refine s_lss rfl rfl rfl ?_
  refine SXs_nilK (fr' := [(0, _), (8, _)]) rfl ?_
  refine KSs_wp ?_
  refine WPs_cond rfl (fun hc1 => ?_) (fun hc1 => ?_)
  ·
    simp only [decide_eq_true_eq] at hc1
    refine WPs_seq ?_
    refine WPs_regionK [2] ?_
    refine s_move rfl rfl ?_
    refine s_assign rfl rfl ?_
    refine SXs_nilK (fr' := [(2, _)]) rfl ?_
    refine KSs_wp ?_
    refine WPs_ret ?_
    refine RLs_start ?_
    refine RLs_tmp rfl ?_
    refine RLs_fin1 ?_
    exact fun w hS => ⟨rfl, hS⟩
  ·
    exfalso; (simp only [decide_eq_false_iff_not] at hc1; omega)

theorem index_spec {g : World} {F : List HP} {v : Value} {x : Nat} (hR : RdIn g F v 1 1 [.int .u64 (x : Int)]) :
    RCs Tryz.prog 137 [v, .int .u64 (x : Int)] g F (fun u w => u = .int .i64 0 ∧ St g w F) := by
  refine RCs_of_WPs Tryz.func137 rfl Tryz.ntmps137 rfl Tryz.results137 ?_
  refine WPs_seq ?_
  refine WPs_regionK [0, 1] ?_
  refine s_assign rfl rfl ?_
  refine SXs_nilK (fr' := [(0, _), (1, _)]) rfl ?_
  refine KSs_wp ?_
  refine WPs_seq ?_
  refine WPs_seq ?_
  refine WPs_regionK [0, 1, 7, 8] ?_
  refine s_move rfl rfl ?_
  refine s_lenRd rfl Tryz.underlying104 rfl rfl (by ((assumption))) ?_
  refine s_move rfl rfl ?_
  refine SXs_nilK (fr' := [(0, _), (1, _), (7, _), (8, _)]) rfl ?_
  refine KSs_wp ?_
  refine WPs_block ?_
  refine WPs_unroll 0 ?_
  refine WPs_seq ?_
  refine WPs_regionK [0, 1, 7, 8, 9] ?_
  refine s_lss rfl rfl rfl ?_
  refine SXs_nilK (fr' := [(0, _), (1, _), (7, _), (8, _), (9, _)]) rfl ?_
  refine KSs_wp ?_
  refine WPs_seq ?_
  refine WPs_cond rfl (fun hc1 => ?_) (fun hc1 => ?_)
  ·
    simp only [decide_eq_true_eq] at hc1
    refine WPs_skip ?_
    refine KSs_wp ?_
    refine WPs_seq ?_
    refine WPs_block ?_
    refine WPs_seq ?_
    refine WPs_regionK [0, 1, 5, 7, 8] ?_
    refine s_move rfl rfl ?_
    refine s_assign rfl rfl ?_
    refine SXs_nilK (fr' := [(0, _), (1, _), (5, _), (7, _), (8, _)]) rfl ?_
    refine KSs_wp ?_
    refine WPs_seq ?_
    refine WPs_regionK [0, 1, 5, 7, 8, 16] ?_
    refine s_move rfl rfl ?_
    refine s_move rfl rfl ?_
    refine s_move rfl rfl ?_
    refine s_idxRd slt_104 rfl rfl (by ((assumption))) rfl (by omega) (by omega) (fun b14 o14 hc14 => ?_)
    refine s_load1 Tryz.isAgg36 rfl rfl (hc14.at0 rfl) ?_
    refine s_eql rfl rfl rfl ?_
    refine SXs_nilK (fr' := [(0, _), (1, _), (5, _), (7, _), (8, _), (16, _)]) rfl ?_
    refine KSs_wp ?_
    refine WPs_cond rfl (fun hc2 => ?_) (fun hc2 => ?_)
    ·
      simp only [decide_eq_true_eq] at hc2
      refine WPs_seq ?_
      refine WPs_regionK [4] ?_
      refine s_move rfl rfl ?_
      refine s_assign rfl rfl ?_
      refine SXs_nilK (fr' := [(4, _)]) rfl ?_
      refine KSs_wp ?_
      refine WPs_ret ?_
      refine RLs_start ?_
      refine RLs_tmp rfl ?_
      refine RLs_fin1 ?_
      exact fun w hS => ⟨rfl, hS⟩
    ·
      exfalso; (simp at hc2; done)
  ·
    exfalso; (cases hc1; done)
theorem contains_spec {g : World} {F : List HP} {v : Value} {x : Nat} (hR : RdIn g F v 1 1 [.int .u64 (x : Int)]) :
    RCs Tryz.prog 98 [v, .int .u64 (x : Int)] g F (fun u w => u = .bool true ∧ St g w F) := by
  refine RCs_of_WPs Tryz.func98 rfl Tryz.ntmps98 rfl Tryz.results98 ?_
  refine WPs_seq ?_
  refine WPs_regionK [0, 1] ?_
  refine s_assign rfl rfl ?_
  refine SXs_nilK (fr' := [(0, _), (1, _)]) rfl ?_
  refine KSs_wp ?_
  refine WPs_seq ?_
  refine WPs_regionK [4] ?_
  refine s_move rfl rfl ?_
  refine s_move rfl rfl ?_
  refine s_call Tryz.call137 rfl (vs := [_, _]) rfl (RCs.perm (by (repeat ((exact List.Perm.refl _)))) (index_spec hR)) ?_
  rintro v w ⟨rfl, hS⟩
  refine SXs_go hS ?_
  clear hS; clear w
  simp only [putF]
  refine s_geq rfl rfl rfl ?_
  refine s_assign rfl rfl ?_
  refine SXs_nilK (fr' := [(4, _)]) rfl ?_
  refine KSs_wp ?_
  refine WPs_ret ?_
  refine RLs_start ?_
  refine RLs_tmp rfl ?_
  refine RLs_fin1 ?_
  exact fun w hS => ⟨rfl, hS⟩

theorem values_spec {g : World} {F : List HP} {m : Nat} :
    RCs Tryz.prog 100 [.map (some m)] g F
      (fun u w => ∃ B, u = .func (.func 138) #[] #[.pointer (some ⟨B, 0, none⟩)] ∧ St g w (pt B (.cells [.map (some m)].toArray 112 (0, 0)) :: F)) := by
  refine RCs_of_WPs Tryz.func100 rfl Tryz.ntmps100 rfl Tryz.results100 ?_
  refine WPs_seq ?_
  refine WPs_regionK [1] ?_
  refine s_box (cl := [_]) rfl rfl rfl (fun b1 => ?_)
  refine s_assign rfl rfl ?_
  refine SXs_nilK (fr' := [(1, _)]) rfl ?_
  refine KSs_wp ?_
  refine WPs_seq ?_
  refine WPs_regionK [2] ?_
  refine s_makeFunc (fs := []) (cs := [_]) rfl rfl rfl ?_
  refine s_assign rfl rfl ?_
  refine SXs_nilK (fr' := [(2, _)]) rfl ?_
  refine KSs_wp ?_
  refine WPs_ret ?_
  refine RLs_start ?_
  refine RLs_tmp rfl ?_
  refine RLs_fin1 ?_
  exact fun w hS => ⟨_, rfl, hS⟩

theorem append_seq_spec {g : World} {F : List HP} {gf : FuncId} {lb : List Value} {xs : List Value} (eg : Enters Tryz.prog gf) (hx : ∀ x ∈ xs, x.cells = #[x] ∧ x.oneCell' = true) (hl : xs.length ≤ 17592186044416) (hseq : SeqK Tryz.prog gf lb g F xs) :
    RCs Tryz.prog 101 [.slice none 0 0, .func (.func gf) #[] lb.toArray] g F (fun u w => (xs.length = 0 → u = .slice none 0 0) ∧ SlQ g 36 1 xs.length xs F u w) :=
  appendSeq_rc (T := 104) (S := 154) Tryz.func101 (by kernel_rfl) rfl rfl slt_104 Tryz.isAgg104 Tryz.sizeOf104 eg hx (by simp only [maxLen]; omega) (by omega) hseq
theorem collect_spec {g : World} {F : List HP} {gf : FuncId} {lb : List Value} {xs : List Value} (eg : Enters Tryz.prog gf) (hx : ∀ x ∈ xs, x.cells = #[x] ∧ x.oneCell' = true) (hl : xs.length ≤ 17592186044416) (hseq : SeqK Tryz.prog gf lb g F xs) :
    RCs Tryz.prog 99 [.func (.func gf) #[] lb.toArray] g F (fun u w => (xs.length = 0 → u = .slice none 0 0) ∧ SlQ g 36 1 xs.length xs F u w) := by
  refine RCs_of_WPs Tryz.func99 rfl Tryz.ntmps99 rfl Tryz.results99 ?_
  refine WPs_seq ?_
  refine WPs_regionK [0] ?_
  refine s_assign rfl rfl ?_
  refine SXs_nilK (fr' := [(0, _)]) rfl ?_
  refine KSs_wp ?_
  refine WPs_seq ?_
  refine WPs_regionK [2] ?_
  refine s_move rfl rfl ?_
  refine s_call Tryz.call101 rfl (vs := [_, _]) rfl (RCs.perm (by (repeat ((exact List.Perm.refl _)))) (append_seq_spec eg hx (by omega) hseq)) ?_
  rintro v w ⟨h0, va, vc, rfl, hS⟩
  refine SXs_go hS ?_
  clear hS; clear w
  simp only [putF]
  refine s_assign rfl rfl ?_
  refine SXs_nilK (fr' := [(2, _)]) rfl ?_
  refine KSs_wp ?_
  refine WPs_ret ?_
  refine RLs_start ?_
  refine RLs_tmp rfl ?_
  refine RLs_fin1 ?_
  exact fun w hS => ⟨h0, SlQ.of hS⟩
end Go.Proofs.YthodbnmeggkkoaaGreatDoor
/-
  Package folder, with one name at the most: what lies in memory, by what has happened; the contracts of its functions.
-/
namespace Go.Proofs.YthodbnmeggkkoaaGreatDoor
open Go Go.RowKit Go.Hb Go.Proofs

theorem ext_clone : CallsX Tryz.prog 136 Extern.MapsClone.clone := CallsX.mk' Tryz.func136 (by kernel_rfl) (by kernel_rfl) (by kernel_rfl) (by kernel_rfl)
theorem run_clone {g w : World} {L : List HP} {q m c : Nat} {es : List MapEntry} {t : TypeId} (hw : St g w L) (hi : L[q]? = some (pt m (.map es.toArray c))) :
    ∃ v w', (Extern.MapsClone.clone [Value.iface t (.map (some m))].toArray).run Tryz.prog w = .ok v w' ∧ ∃ b, v = .iface t (.map (some b)) ∧ St g w' (pt b (.map es.toArray c) :: L) := by
  refine ⟨.iface t (.map (some w.heap.size)), w.alloc (.map es.toArray c), ?_, _, rfl, hw.alloc _⟩
  have h1 := run_getMap (P := Tryz.prog) (hw.get hi).2
  have e : Extern.MapsClone.clone [Value.iface t (.map (some m))].toArray = (do
    let .map entries clock ← getObj m | stuck "maps.clone: a map expected"
    pure (.iface t (.map (some (← newObj (.map entries clock)))))) := rfl
  rw [e]
  simp [h1]

theorem clone_map {g : World} {F : List HP} {m c : Nat} {es : List MapEntry} :
    RCs Tryz.prog 96 [.map (some m)] g (pt m (.map es.toArray c) :: F) (fun u w => ∃ b, u = .map (some b) ∧ St g w (pt b (.map es.toArray c) :: pt m (.map es.toArray c) :: F)) := by
  refine RCs_of_WPs Tryz.func96 rfl Tryz.ntmps96 rfl Tryz.results96 ?_
  refine WPs_seq ?_
  refine WPs_regionK [0] ?_
  refine s_assign rfl rfl ?_
  refine SXs_nilK (fr' := [(0, _)]) rfl ?_
  refine KSs_wp ?_
  refine WPs_seq ?_
  refine WPs_seq ?_
  refine WPs_regionK [0, 4] ?_
  refine s_move rfl rfl ?_
  refine s_eqlV rfl rfl rfl (eq_map_nil_some Tryz.underlying112) ?_
  refine SXs_nilK (fr' := [(0, _), (4, _)]) rfl ?_
  refine KSs_wp ?_
  refine WPs_cond rfl (fun hc1 => ?_) (fun hc1 => ?_)
  · (exfalso; (cases hc1; done))
  · simp only [decide_eq_true_eq] at hc1
    refine WPs_skip ?_
    refine KSs_wp ?_
    refine WPs_seq ?_
    refine WPs_regionK [2] ?_
    refine s_move rfl rfl ?_
    refine s_makeInterface rfl Tryz.underlying112 (by intro _ e; cases e) rfl ?_
    refine s_callX ext_clone rfl (vs := [_]) rfl (fun w hw => run_clone (q := 0) hw rfl) ?_
    rintro v w ⟨b7, rfl, hS⟩
    refine SXs_go hS ?_
    clear hS; clear w
    simp only [putF]
    refine s_assertT Tryz.underlying112 (fun _ h => by cases h) rfl rfl ?_
    refine s_assign rfl rfl ?_
    refine SXs_nilK (fr' := [(2, _)]) rfl ?_
    refine KSs_wp ?_
    refine WPs_ret ?_
    refine RLs_start ?_
    refine RLs_tmp rfl ?_
    refine RLs_fin1 ?_
    exact fun w hS => ⟨_, rfl, hS⟩

/-! ### In memory -/

def foC (fo sf nw : Nat) (dv : Value) (last : Nat) : HP := pt fo (.cells [.map (some sf), .map (some nw), dv, .int .u64 (last : Int)].toArray 115 (0, 0))
def ent (nm : ByteArray) : List MapEntry := [⟨.string nm, .int .u64 1, 0⟩]
def Fo0 (fo : Nat) : HP := fun h => ∃ sf nw, grp [pt fo (.cells [.map (some sf), .map (some nw), .slice none 0 0, .int .u64 0].toArray 115 (0, 0)), pt sf (.map ([] : List MapEntry).toArray 0), pt nw (.map ([] : List MapEntry).toArray 0)] h
def Fo1 (fo : Nat) (nm : ByteArray) : HP := fun h => ∃ sf nw dv c1 c2, grp [pt fo (.cells [.map (some sf), .map (some nw), dv, .int .u64 1].toArray 115 (0, 0)), pt sf (.map ([] : List MapEntry).toArray 0), pt nw (.map (ent nm).toArray 1),
  own 150 1 dv 1 [.func (.func 148) #[] #[.pointer (some ⟨c1, 0, none⟩), .pointer (some ⟨c2, 0, none⟩)]], pt c1 (.cells [.int .u64 1].toArray 36 (0, 0)), pt c2 (.cells [.string nm].toArray 9 (0, 0))] h
def Fo2 (fo : Nat) (nm : ByteArray) : HP := fun h => ∃ sf nw, grp [pt fo (.cells [.map (some sf), .map (some nw), .slice none 0 0, .int .u64 1].toArray 115 (0, 0)), pt sf (.map (ent nm).toArray 1), pt nw (.map (ent nm).toArray 1)] h

section
variable {g w : World} {F : List HP} {fo : Nat} {nm : ByteArray} {f : FuncId} {vs : List Value} {q : Value → World → Prop}
theorem RCs_fo0 (h : ∀ sf nw, RCs Tryz.prog f vs g (pt fo (.cells [.map (some sf), .map (some nw), .slice none 0 0, .int .u64 0].toArray 115 (0, 0)) :: pt sf (.map ([] : List MapEntry).toArray 0) :: pt nw (.map ([] : List MapEntry).toArray 0) :: F) q) : RCs Tryz.prog f vs g (Fo0 fo :: F) q := fun w hw => by
  obtain ⟨sf, hw⟩ := St.ex hw
  obtain ⟨nw, hw⟩ := St.ex hw
  exact h sf nw w hw.ungrp
theorem RCs_fo1 (h : ∀ sf nw da dc c1 c2, RCs Tryz.prog f vs g (pt fo (.cells [.map (some sf), .map (some nw), .slice da 1 dc, .int .u64 1].toArray 115 (0, 0)) :: pt sf (.map ([] : List MapEntry).toArray 0) :: pt nw (.map (ent nm).toArray 1) ::
    own 150 1 (.slice da 1 dc) 1 [.func (.func 148) #[] #[.pointer (some ⟨c1, 0, none⟩), .pointer (some ⟨c2, 0, none⟩)]] :: pt c1 (.cells [.int .u64 1].toArray 36 (0, 0)) :: pt c2 (.cells [.string nm].toArray 9 (0, 0)) :: F) q) : RCs Tryz.prog f vs g (Fo1 fo nm :: F) q := fun w hw => by
  obtain ⟨sf, hw⟩ := St.ex hw
  obtain ⟨nw, hw⟩ := St.ex hw
  obtain ⟨dv, hw⟩ := St.ex hw
  obtain ⟨c1, hw⟩ := St.ex hw
  obtain ⟨c2, hw⟩ := St.ex hw
  have hw := hw.ungrp
  obtain ⟨da, dc, rfl, _⟩ := own_form (i := 3) hw rfl
  exact h sf nw da dc c1 c2 w hw
theorem RCs_fo2 (h : ∀ sf nw, RCs Tryz.prog f vs g (pt fo (.cells [.map (some sf), .map (some nw), .slice none 0 0, .int .u64 1].toArray 115 (0, 0)) :: pt sf (.map (ent nm).toArray 1) :: pt nw (.map (ent nm).toArray 1) :: F) q) : RCs Tryz.prog f vs g (Fo2 fo nm :: F) q := fun w hw => by
  obtain ⟨sf, hw⟩ := St.ex hw
  obtain ⟨nw, hw⟩ := St.ex hw
  exact h sf nw w hw.ungrp
theorem fo0_mk {sf nw : Nat} (h : St g w (pt fo (.cells [.map (some sf), .map (some nw), .slice none 0 0, .int .u64 0].toArray 115 (0, 0)) :: pt sf (.map ([] : List MapEntry).toArray 0) :: pt nw (.map ([] : List MapEntry).toArray 0) :: F)) : St g w (Fo0 fo :: F) :=
  (St.grp (A := [_, _, _]) h).imp fun _ hh => ⟨sf, nw, hh⟩
theorem fo1_mk {sf nw c1 c2 : Nat} {dv : Value} (h : St g w (pt fo (.cells [.map (some sf), .map (some nw), dv, .int .u64 1].toArray 115 (0, 0)) :: pt sf (.map ([] : List MapEntry).toArray 0) :: pt nw (.map (ent nm).toArray 1) ::
    own 150 1 dv 1 [.func (.func 148) #[] #[.pointer (some ⟨c1, 0, none⟩), .pointer (some ⟨c2, 0, none⟩)]] :: pt c1 (.cells [.int .u64 1].toArray 36 (0, 0)) :: pt c2 (.cells [.string nm].toArray 9 (0, 0)) :: F)) : St g w (Fo1 fo nm :: F) :=
  (St.grp (A := [_, _, _, _, _, _]) h).imp fun _ hh => ⟨sf, nw, dv, c1, c2, hh⟩
theorem fo2_mk {sf nw : Nat} (h : St g w (pt fo (.cells [.map (some sf), .map (some nw), .slice none 0 0, .int .u64 1].toArray 115 (0, 0)) :: pt sf (.map (ent nm).toArray 1) :: pt nw (.map (ent nm).toArray 1) :: F)) : St g w (Fo2 fo nm :: F) :=
  (St.grp (A := [_, _, _]) h).imp fun _ hh => ⟨sf, nw, hh⟩
end

/-! ### The functions -/

theorem folder_new {g : World} {F : List HP} : RCs Tryz.prog 25 [] g F (fun u w => ∃ fo, u = .pointer (some ⟨fo, 0, none⟩) ∧ St g w (Fo0 fo :: F)) := by
  refine RCs_of_WPs Tryz.func25 rfl Tryz.ntmps25 rfl Tryz.results25 ?_
  refine WPs_seq ?_
  refine WPs_regionK [] ?_
  refine s_assign rfl rfl ?_
  refine SXs_nilK (fr' := []) rfl ?_
  refine KSs_wp ?_
  refine WPs_seq ?_
  refine WPs_regionK [0] ?_
  refine s_makeMap rfl (fun b1 => ?_)
  refine s_makeMap rfl (fun b2 => ?_)
  refine s_build (vs := [(0, _), (1, _)]) (cs := [_, _, _, _]) rfl rfl (build_115_0_1 rfl rfl) ?_
  refine s_box (cl := [_, _, _, _]) rfl rfl rfl (fun b4 => ?_)
  refine s_assign rfl rfl ?_
  refine SXs_nilK (fr' := [(0, _)]) rfl ?_
  refine KSs_wp ?_
  refine WPs_ret ?_
  refine RLs_start ?_
  refine RLs_tmp rfl ?_
  refine RLs_fin1 ?_
  exact fun w hS => ⟨_, rfl, fo0_mk (hS.perm (by (repeat (first | exact List.Perm.refl _ | (apply pick 0; exact rfl) | (apply pick 1; exact rfl)))))⟩

theorem folder_none {g : World} {F : List HP} {fo nw : Nat} {a c d : Value} :
    RCs Tryz.prog 95 [.pointer (some ⟨fo, 0, none⟩)] g (pt fo (.cells [a, .map (some nw), c, d].toArray 115 (0, 0)) :: F)
      (fun u w => u = .bool false ∧ St g w (pt fo (.cells [a, .map (some nw), c, d].toArray 115 (0, 0)) :: F)) := by
  refine RCs_of_WPs Tryz.func95 rfl Tryz.ntmps95 rfl Tryz.results95 ?_
  refine WPs_seq ?_
  refine WPs_regionK [0] ?_
  refine s_assign rfl rfl ?_
  refine SXs_nilK (fr' := [(0, _)]) rfl ?_
  refine KSs_wp ?_
  refine WPs_seq ?_
  refine WPs_regionK [2] ?_
  refine s_move rfl rfl ?_
  refine s_eqlV rfl rfl rfl (eq_ptr_nil_some Tryz.underlying70) ?_
  refine s_move rfl rfl ?_
  refine s_guard rfl rfl rfl (fun hc1 => ?_) (fun hc1 => ?_)
  · simp only [decide_eq_true_eq] at hc1
    refine s_move rfl rfl ?_
    refine s_guard_t2 rfl rfl (by ((rfl))) rfl ?_
    refine s_nilCheck rfl rfl ?_
    refine s_guard_t2 rfl rfl (by ((rfl))) rfl ?_
    refine s_fieldAddr fo_115_1 rfl rfl ?_
    refine s_guard_t2 rfl rfl (by ((rfl))) rfl ?_
    refine s_load1 Tryz.isAgg112 rfl rfl (by exact cin (i := 0) rfl rfl) ?_
    refine s_guard_t2 rfl rfl (by ((rfl))) rfl ?_
    refine s_eqlV rfl rfl rfl (eq_map_nil_some Tryz.underlying112) ?_
    refine s_pick_f rfl rfl rfl ?_
    refine s_assign rfl rfl ?_
    refine SXs_nilK (fr' := [(2, _)]) rfl ?_
    refine KSs_wp ?_
    refine WPs_ret ?_
    refine RLs_start ?_
    refine RLs_tmp rfl ?_
    refine RLs_fin1 ?_
    exact fun w hS => ⟨rfl, hS⟩
  · (exfalso; (cases hc1; done))
theorem create_deed {g : World} {F : List HP} {m c1 c2 : Nat} {nm : ByteArray} :
    RCs Tryz.prog 148 [.map (some m), .pointer (some ⟨c1, 0, none⟩), .pointer (some ⟨c2, 0, none⟩)] g (pt m (.map ([] : List MapEntry).toArray 0) :: pt c1 (.cells [.int .u64 1].toArray 36 (0, 0)) :: pt c2 (.cells [.string nm].toArray 9 (0, 0)) :: F)
      (fun u w => u = .tuple #[] ∧ St g w (pt m (.map (ent nm).toArray 1) :: pt c1 (.cells [.int .u64 1].toArray 36 (0, 0)) :: pt c2 (.cells [.string nm].toArray 9 (0, 0)) :: F)) := by
  refine RCs_of_WPs Tryz.func148 rfl Tryz.ntmps148 rfl Tryz.results148 ?_
  refine WPs_regionK [] ?_
  refine s_move rfl rfl ?_
  refine s_load1 Tryz.isAgg9 rfl rfl (by exact cin (i := 2) rfl rfl) ?_
  refine s_load1 Tryz.isAgg36 rfl rfl (by exact cin (i := 1) rfl rfl) ?_
  refine s_mapPut (q := 0) Tryz.underlying112 Tryz.underlying9 trivial rfl rfl rfl rfl (by ((rfl))) ?_
  simp only [List.set_cons_zero, List.nil_append]
  refine SXs_nilK (fr' := []) rfl ?_
  refine RLs_start ?_
  refine RLs_fin0 ?_
  exact fun w hS => ⟨rfl, hS⟩

theorem folder_do {g : World} {F : List HP} {fo sf nw c1 c2 : Nat} {nm : ByteArray} :
    RCs Tryz.prog 147 [.pointer (some ⟨fo, 0, none⟩), .func (.func 148) #[] #[.pointer (some ⟨c1, 0, none⟩), .pointer (some ⟨c2, 0, none⟩)]] g
      (pt fo (.cells [.map (some sf), .map (some nw), .slice none 0 0, .int .u64 1].toArray 115 (0, 0)) :: pt sf (.map ([] : List MapEntry).toArray 0) :: pt nw (.map ([] : List MapEntry).toArray 0) :: pt c1 (.cells [.int .u64 1].toArray 36 (0, 0)) :: pt c2 (.cells [.string nm].toArray 9 (0, 0)) :: F)
      (fun u w => u = .tuple #[] ∧ ∃ da dc, St g w (pt fo (.cells [.map (some sf), .map (some nw), .slice da 1 dc, .int .u64 1].toArray 115 (0, 0)) :: pt sf (.map ([] : List MapEntry).toArray 0) :: pt nw (.map (ent nm).toArray 1) ::
    own 150 1 (.slice da 1 dc) 1 [.func (.func 148) #[] #[.pointer (some ⟨c1, 0, none⟩), .pointer (some ⟨c2, 0, none⟩)]] :: pt c1 (.cells [.int .u64 1].toArray 36 (0, 0)) :: pt c2 (.cells [.string nm].toArray 9 (0, 0)) :: F)) := by
  refine RCs_of_WPs Tryz.func147 rfl Tryz.ntmps147 rfl Tryz.results147 ?_
  refine WPs_seq ?_
  refine WPs_regionK [0, 1] ?_
  refine s_move rfl rfl ?_
  refine s_move rfl rfl ?_
  refine s_nilCheck rfl rfl ?_
  refine s_fieldAddr fo_115_1 rfl rfl ?_
  refine s_load1 Tryz.isAgg112 rfl rfl (by exact cin (i := 0) rfl rfl) ?_
  refine s_callV (vs := [_]) Tryz.call148 rfl rfl rfl rfl (RCs.perm (by (repeat (first | exact List.Perm.refl _ | (apply pick 2; exact rfl)))) (create_deed (nm := nm) (c1 := c1) (c2 := c2) (m := nw))) ?_
  rintro v w ⟨rfl, hS⟩
  refine SXs_go hS ?_
  clear hS; clear w
  simp only [List.eraseIdx_cons_zero, List.eraseIdx_cons_succ, putF]
  refine SXs_nilK (fr' := [(0, _), (1, _)]) rfl ?_
  refine KSs_wp ?_
  refine WPs_regionK [] ?_
  refine s_move rfl rfl ?_
  refine s_move rfl rfl ?_
  refine s_nilCheck rfl rfl ?_
  refine s_fieldAddr fo_115_2 rfl rfl ?_
  refine s_load1 Tryz.isAgg113 rfl rfl (by exact cin (i := 3) rfl rfl) ?_
  refine s_move rfl rfl ?_
  refine s_buildSlice (vs := [(0, _)]) (cs := [_]) rfl rfl (buildSlice_one slt_113 rfl rfl (by decide)) (fun b16 => ?_)
  refine s_appendNil slt_113 rfl rfl rfl (by exact pt_RdIn (i := 0) rfl rfl rfl (by omega) (by simp only [maxLen]; omega)) (by ((rfl))) (by ((omega))) (fun va17 vc17 => ?_)
  refine s_nilCheck rfl rfl ?_
  refine s_fieldAddr fo_115_2 rfl rfl ?_
  refine s_store (i := 5) Tryz.sizeOf113 rfl rfl rfl (vs := [_]) rfl rfl rfl rfl ?_
  simp only [List.set_cons_zero, List.set_cons_succ, spl]
  refine SXs_nilK (fr' := []) rfl ?_
  refine RLs_start ?_
  refine RLs_fin0 ?_
  exact fun w hS => ⟨rfl, _, _, hS.sl (by (repeat (first | exact Sl.refl _ | (apply Sl.pick 0; exact rfl) | (apply Sl.pick 1; exact rfl) | (apply Sl.pick 2; exact rfl) | (apply Sl.pick 5; exact rfl) | refine Sl.skip ?_)))⟩

/-- The name may be one. -/
def MayOk (nm : ByteArray) : Prop := ∀ (g : World) (F : List HP), RCs Tryz.prog 118 [.string nm] g F (fun u w => u = .bool true ∧ St g w F)

theorem folder_create {g : World} {F : List HP} {fo : Nat} {nm : ByteArray} (hm : MayOk nm) :
    RCs Tryz.prog 113 [.pointer (some ⟨fo, 0, none⟩), .string nm] g (Fo0 fo :: F) (fun u w => u = .tuple #[.int .u64 1, .int .i64 0] ∧ St g w (Fo1 fo nm :: F)) := by
  refine RCs_fo0 fun sf nw => ?_
  refine RCs_of_WPs Tryz.func113 rfl Tryz.ntmps113 rfl Tryz.results113 ?_
  refine WPs_seq ?_
  refine WPs_regionK [0, 3] ?_
  refine s_box (cl := [_]) rfl rfl rfl (fun b3 => ?_)
  refine s_assign rfl rfl ?_
  refine s_assign rfl rfl ?_
  refine SXs_nilK (fr' := [(0, _), (3, _)]) rfl ?_
  refine KSs_wp ?_
  refine WPs_seq ?_
  refine WPs_seq ?_
  refine WPs_regionK [0, 3, 10] ?_
  refine s_move rfl rfl ?_
  refine s_call Tryz.call95 rfl (vs := [_]) rfl (RCs.perm (by (repeat (first | exact List.Perm.refl _ | (apply pick 1; exact rfl)))) (folder_none)) ?_
  rintro v w ⟨rfl, hS⟩
  refine SXs_go hS ?_
  clear hS; clear w
  simp only [List.eraseIdx_cons_zero, List.eraseIdx_cons_succ, putF]
  refine SXs_nilK (fr' := [(0, _), (3, _), (10, _)]) rfl ?_
  refine KSs_wp ?_
  refine WPs_cond rfl (fun hc1 => ?_) (fun hc1 => ?_)
  · (exfalso; (cases hc1; done))
  · simp only [decide_eq_true_eq] at hc1
    refine WPs_skip ?_
    refine KSs_wp ?_
    refine WPs_seq ?_
    refine WPs_drawL [0, 3, 7] [] Tryz.mixed rfl (listed := #[false, false, false, false, false, false, false, false, false, false, false]) rfl ?_
    refine st_take 0 rfl (by decide +kernel) (listed' := #[true, false, false, false, false, false, false, false, false, false, false]) rfl (by (intro _ h; (exact h))) (gv_move rfl rfl) ?_
    refine st_take 1 rfl (by decide +kernel) (listed' := #[true, true, false, false, false, false, false, false, false, false, false]) rfl (by (intro _ h; (exact h))) (gv_nilCheck rfl rfl) ?_
    refine st_take 2 rfl (by decide +kernel) (listed' := #[true, true, true, false, false, false, false, false, false, false, false]) rfl (by (intro _ h; (exact h))) (gv_fieldAddr fo_115_1 rfl rfl) ?_
    refine st_take 3 rfl (by decide +kernel) (listed' := #[true, true, true, true, false, false, false, false, false, false, false]) rfl (by (intro _ h; (exact h))) (gv_load1 Tryz.isAgg112 rfl rfl (by exact cin (i := 0) rfl rfl)) ?_
    refine st_take 4 rfl (by decide +kernel) (listed' := #[true, true, true, true, true, false, false, false, false, false, false]) rfl (by (intro _ h; (exact h))) (gv_load1 Tryz.isAgg9 rfl rfl (by exact cin (i := 1) rfl rfl)) ?_
    refine st_take 5 rfl (by decide +kernel) (listed' := #[true, true, true, true, true, true, false, false, false, false, false]) rfl (by (intro _ h; (exact h))) (gv_lookF (q := 3) Tryz.underlying112 Tryz.underlying9 trivial Tryz.zeroValue36 rfl rfl rfl rfl (by ((rfl)))) ?_
    refine st_take 6 rfl (by decide +kernel) (listed' := #[true, true, true, true, true, true, true, false, false, false, false]) rfl (by (intro _ h; (exact h))) (gv_move rfl rfl) ?_
    refine st_take 7 rfl (by decide +kernel) (listed' := #[true, true, true, true, true, true, true, true, false, false, false]) rfl (by (intro _ h; (exact h))) (gv_extract rfl rfl rfl) ?_
    refine st_take 8 rfl (by decide +kernel) (listed' := #[true, true, true, true, true, true, true, true, true, false, false]) rfl (by (intro _ h; (exact h))) (gv_extract rfl rfl rfl) ?_
    refine st_take 9 rfl (by decide +kernel) (listed' := #[true, true, true, true, true, true, true, true, true, true, false]) rfl (by (intro _ h; (exact h))) (gv_assign rfl rfl) ?_
    refine st_take 10 rfl (by decide +kernel) (listed' := #[true, true, true, true, true, true, true, true, true, true, true]) rfl (by (intro _ h; (exact h))) (gv_assign rfl rfl) ?_
    refine st_doneK (fr' := [(0, _), (3, _), (7, _)]) (by decide +kernel) rfl ?_
    refine KSs_wp ?_
    refine WPs_seq ?_
    refine WPs_block ?_
    refine WPs_seq ?_
    refine WPs_regionK [0, 3, 7, 20] ?_
    refine s_load1 Tryz.isAgg9 rfl rfl (by exact cin (i := 1) rfl rfl) ?_
    refine s_call Tryz.call118 rfl (vs := [_]) rfl (RCs.perm (by (repeat ((exact List.Perm.refl _)))) (hm _ _)) ?_
    rintro v w ⟨rfl, hS⟩
    refine SXs_go hS ?_
    clear hS; clear w
    simp only [putF]
    refine s_not rfl rfl ?_
    refine s_assign rfl rfl ?_
    refine SXs_nilK (fr' := [(0, _), (3, _), (7, _), (20, _)]) rfl ?_
    refine KSs_wp ?_
    refine WPs_cond rfl (fun hc2 => ?_) (fun hc2 => ?_)
    · (exfalso; (cases hc2; done))
    · simp only [Bool.not_true] at hc2
      refine WPs_seq ?_
      refine WPs_regionK [0, 3, 24] ?_
      refine s_move rfl rfl ?_
      refine s_assign rfl rfl ?_
      refine SXs_nilK (fr' := [(0, _), (3, _), (24, _)]) rfl ?_
      refine KSs_wp ?_
      refine WPs_cond rfl (fun hc3 => ?_) (fun hc3 => ?_)
      · (exfalso; (cases hc3; done))
      · simp only [decide_eq_true_eq] at hc3
        refine WPs_seq ?_
        refine WPs_regionK [0, 3, 26] ?_
        refine s_move rfl rfl ?_
        refine s_nilCheck rfl rfl ?_
        refine s_fieldAddr fo_115_1 rfl rfl ?_
        refine s_load1 Tryz.isAgg112 rfl rfl (by exact cin (i := 0) rfl rfl) ?_
        refine s_lenMap (q := 3) rfl Tryz.underlying112 rfl rfl rfl ?_
        refine s_geq rfl rfl rfl ?_
        refine s_assign rfl rfl ?_
        refine SXs_nilK (fr' := [(0, _), (3, _), (26, _)]) rfl ?_
        refine KSs_wp ?_
        refine WPs_cond rfl (fun hc4 => ?_) (fun hc4 => ?_)
        · (exfalso; (cases hc4; done))
        · simp only [decide_eq_false_iff_not] at hc4
          refine WPs_skip ?_
          refine KSs_wp ?_
          refine WPs_seq ?_
          refine WPs_regionK [0, 3] ?_
          refine s_move rfl rfl ?_
          refine s_nilCheck rfl rfl ?_
          refine s_fieldAddr fo_115_3 rfl rfl ?_
          refine s_load1 Tryz.isAgg36 rfl rfl (by exact cin (i := 0) rfl rfl) ?_
          refine s_add_ok rfl rfl rfl (inR_u64 (by omega) (by omega)) ?_
          refine s_nilCheck rfl rfl ?_
          refine s_fieldAddr fo_115_3 rfl rfl ?_
          refine s_store (i := 0) Tryz.sizeOf36 rfl rfl rfl (vs := [_]) rfl rfl rfl rfl ?_
          simp only [List.set_cons_zero, List.set_cons_succ, spl]
          refine SXs_nilK (fr' := [(0, _), (3, _)]) rfl ?_
          refine KSs_wp ?_
          refine WPs_seq ?_
          refine WPs_regionK [0, 3, 8] ?_
          refine s_move rfl rfl ?_
          refine s_nilCheck rfl rfl ?_
          refine s_fieldAddr fo_115_3 rfl rfl ?_
          refine s_load1 Tryz.isAgg36 rfl rfl (by exact cin (i := 0) rfl rfl) ?_
          refine s_alloc Tryz.zeroValue36 (cl := [_]) rfl rfl (fun b8 => ?_)
          refine s_store (i := 0) Tryz.sizeOf36 rfl rfl rfl (vs := [_]) rfl rfl rfl rfl ?_
          simp only [List.set_cons_zero, spl]
          refine SXs_nilK (fr' := [(0, _), (3, _), (8, _)]) rfl ?_
          refine KSs_wp ?_
          refine WPs_seq ?_
          refine WPs_regionK [8] ?_
          refine s_move rfl rfl ?_
          refine s_makeFunc (fs := []) (cs := [_, _]) rfl rfl rfl ?_
          refine s_call Tryz.call147 rfl (vs := [_, _]) rfl (RCs.perm (by (repeat (first | exact List.Perm.refl _ | (apply pick 1; exact rfl) | (apply pick 2; exact rfl)))) (folder_do (nm := nm))) ?_
          rintro v w ⟨rfl, da46, dc46, hS⟩
          refine SXs_go hS ?_
          clear hS; clear w
          simp only [List.eraseIdx_cons_zero, putF]
          refine SXs_nilK (fr' := [(8, _)]) rfl ?_
          refine KSs_wp ?_
          refine WPs_seq ?_
          refine WPs_regionK [4, 5] ?_
          refine s_load1 Tryz.isAgg36 rfl rfl (by exact cin (i := 4) rfl rfl) ?_
          refine s_assign rfl rfl ?_
          refine s_assign rfl rfl ?_
          refine SXs_nilK (fr' := [(4, _), (5, _)]) rfl ?_
          refine KSs_wp ?_
          refine WPs_ret ?_
          refine RLs_start ?_
          refine RLs_tmp rfl ?_
          refine RLs_tmp rfl ?_
          refine RLs_fin2 ?_
          exact fun w hS => ⟨rfl, fo1_mk (hS.sl (by (repeat ((exact Sl.refl _)))))⟩

theorem folder_sync {g : World} {F : List HP} {fo : Nat} {nm : ByteArray} :
    RCs Tryz.prog 97 [.pointer (some ⟨fo, 0, none⟩)] g (Fo1 fo nm :: F) (fun u w => u = .int .i64 0 ∧ St g w (Fo2 fo nm :: F)) := by
  refine RCs_fo1 fun sf nw da dc c1 c2 => ?_
  refine RCs_of_WPs Tryz.func97 rfl Tryz.ntmps97 rfl Tryz.results97 ?_
  refine WPs_seq ?_
  refine WPs_regionK [0] ?_
  refine s_assign rfl rfl ?_
  refine SXs_nilK (fr' := [(0, _)]) rfl ?_
  refine KSs_wp ?_
  refine WPs_seq ?_
  refine WPs_seq ?_
  refine WPs_regionK [0, 4] ?_
  refine s_move rfl rfl ?_
  refine s_call Tryz.call95 rfl (vs := [_]) rfl (RCs.perm (by (repeat ((exact List.Perm.refl _)))) (folder_none)) ?_
  rintro v w ⟨rfl, hS⟩
  refine SXs_go hS ?_
  clear hS; clear w
  simp only [putF]
  refine SXs_nilK (fr' := [(0, _), (4, _)]) rfl ?_
  refine KSs_wp ?_
  refine WPs_cond rfl (fun hc1 => ?_) (fun hc1 => ?_)
  · (exfalso; (cases hc1; done))
  · simp only [decide_eq_true_eq] at hc1
    refine WPs_skip ?_
    refine KSs_wp ?_
    refine WPs_seq ?_
    refine WPs_regionK [] ?_
    refine s_move rfl rfl ?_
    refine s_move rfl rfl ?_
    refine s_move rfl rfl ?_
    refine s_nilCheck rfl rfl ?_
    refine s_fieldAddr fo_115_1 rfl rfl ?_
    refine s_load1 Tryz.isAgg112 rfl rfl (by exact cin (i := 0) rfl rfl) ?_
    refine s_call Tryz.call96 rfl (vs := [_]) rfl (RCs.perm (by (repeat (first | exact List.Perm.refl _ | (apply pick 2; exact rfl)))) (clone_map)) ?_
    rintro v w ⟨b11, rfl, hS⟩
    refine SXs_go hS ?_
    clear hS; clear w
    simp only [List.eraseIdx_cons_zero, List.eraseIdx_cons_succ, putF]
    refine s_nilCheck rfl rfl ?_
    refine s_fieldAddr fo_115_0 rfl rfl ?_
    refine s_store (i := 2) Tryz.sizeOf112 rfl rfl rfl (vs := [_]) rfl rfl rfl rfl ?_
    simp only [List.set_cons_zero, List.set_cons_succ, spl]
    refine s_nilCheck rfl rfl ?_
    refine s_fieldAddr fo_115_2 rfl rfl ?_
    refine s_store (i := 2) Tryz.sizeOf113 rfl rfl rfl (vs := [_]) rfl rfl rfl rfl ?_
    simp only [List.set_cons_zero, List.set_cons_succ, spl]
    refine SXs_nilK (fr' := []) rfl ?_
    refine KSs_wp ?_
    refine WPs_seq ?_
    refine WPs_regionK [2] ?_
    refine s_assign rfl rfl ?_
    refine SXs_nilK (fr' := [(2, _)]) rfl ?_
    refine KSs_wp ?_
    refine WPs_ret ?_
    refine RLs_start ?_
    refine RLs_tmp rfl ?_
    refine RLs_fin1 ?_
    exact fun w hS => ⟨rfl, fo2_mk (hS.sl (by (repeat (first | exact Sl.refl _ | (apply Sl.pick 0; exact rfl) | (apply Sl.pick 2; exact rfl) | refine Sl.skip ?_))))⟩
end Go.Proofs.YthodbnmeggkkoaaGreatDoor
/-
  Package folder: Find, Live.
-/
namespace Go.Proofs.YthodbnmeggkkoaaGreatDoor
open Go Go.RowKit Go.Hb Go.Proofs

theorem ba_beq (s : ByteArray) : (s == s) = true := (Go.MapKept.bytes_beq s s).2 rfl
theorem find_ent (nm : ByteArray) : Instr.findNow .string (.string nm) (ent nm) 0 = some (some (0, .int .u64 1)) := by
  simp [ent, Instr.findNow, Instr.sameNow, ba_beq]
theorem find2 {g : World} {F : List HP} {fo : Nat} {nm : ByteArray} :
    RCs Tryz.prog 119 [.pointer (some ⟨fo, 0, none⟩), .string nm] g (Fo2 fo nm :: F) (fun u w => u = .tuple #[.int .u64 1, .bool true] ∧ St g w (Fo2 fo nm :: F)) := by
  refine RCs_fo2 fun sf nw => ?_
  refine RCs_of_WPs Tryz.func119 rfl Tryz.ntmps119 rfl Tryz.results119 ?_
  refine WPs_seq ?_
  refine WPs_regionK [0, 1] ?_
  refine s_assign rfl rfl ?_
  refine s_assign rfl rfl ?_
  refine SXs_nilK (fr' := [(0, _), (1, _)]) rfl ?_
  refine KSs_wp ?_
  refine WPs_seq ?_
  refine WPs_seq ?_
  refine WPs_regionK [0, 1, 9] ?_
  refine s_move rfl rfl ?_
  refine s_call Tryz.call95 rfl (vs := [_]) rfl (RCs.perm (by (repeat ((exact List.Perm.refl _)))) (folder_none)) ?_
  rintro v w ⟨rfl, hS⟩
  refine SXs_go hS ?_
  clear hS; clear w
  simp only [putF]
  refine SXs_nilK (fr' := [(0, _), (1, _), (9, _)]) rfl ?_
  refine KSs_wp ?_
  refine WPs_cond rfl (fun hc1 => ?_) (fun hc1 => ?_)
  · (exfalso; (cases hc1; done))
  · simp only [decide_eq_true_eq] at hc1
    refine WPs_skip ?_
    refine KSs_wp ?_
    refine WPs_seq ?_
    refine WPs_regionK [6, 7] ?_
    refine s_move rfl rfl ?_
    refine s_nilCheck rfl rfl ?_
    refine s_fieldAddr fo_115_1 rfl rfl ?_
    refine s_load1 Tryz.isAgg112 rfl rfl (by exact cin (i := 0) rfl rfl) ?_
    refine s_move rfl rfl ?_
    refine s_lookT (q := 2) (es := ent nm) Tryz.underlying112 Tryz.underlying9 trivial rfl rfl rfl rfl (find_ent nm) ?_
    refine s_move rfl rfl ?_
    refine s_extract rfl rfl rfl ?_
    refine s_extract rfl rfl rfl ?_
    refine s_assign rfl rfl ?_
    refine s_assign rfl rfl ?_
    refine SXs_nilK (fr' := [(6, _), (7, _)]) rfl ?_
    refine KSs_wp ?_
    refine WPs_seq ?_
    refine WPs_regionK [4, 5] ?_
    refine s_move rfl rfl ?_
    refine s_move rfl rfl ?_
    refine s_assign rfl rfl ?_
    refine s_assign rfl rfl ?_
    refine SXs_nilK (fr' := [(4, _), (5, _)]) rfl ?_
    refine KSs_wp ?_
    refine WPs_ret ?_
    refine RLs_start ?_
    refine RLs_tmp rfl ?_
    refine RLs_tmp rfl ?_
    refine RLs_fin2 ?_
    exact fun w hS => ⟨rfl, fo2_mk (hS.sl (by (repeat ((exact Sl.refl _)))))⟩
theorem find1 {g : World} {F : List HP} {fo : Nat} {nm : ByteArray} :
    RCs Tryz.prog 119 [.pointer (some ⟨fo, 0, none⟩), .string nm] g (Fo1 fo nm :: F) (fun u w => u = .tuple #[.int .u64 1, .bool true] ∧ St g w (Fo1 fo nm :: F)) := by
  refine RCs_fo1 fun sf nw da dc c1 c2 => ?_
  refine RCs_of_WPs Tryz.func119 rfl Tryz.ntmps119 rfl Tryz.results119 ?_
  refine WPs_seq ?_
  refine WPs_regionK [0, 1] ?_
  refine s_assign rfl rfl ?_
  refine s_assign rfl rfl ?_
  refine SXs_nilK (fr' := [(0, _), (1, _)]) rfl ?_
  refine KSs_wp ?_
  refine WPs_seq ?_
  refine WPs_seq ?_
  refine WPs_regionK [0, 1, 9] ?_
  refine s_move rfl rfl ?_
  refine s_call Tryz.call95 rfl (vs := [_]) rfl (RCs.perm (by (repeat ((exact List.Perm.refl _)))) (folder_none)) ?_
  rintro v w ⟨rfl, hS⟩
  refine SXs_go hS ?_
  clear hS; clear w
  simp only [putF]
  refine SXs_nilK (fr' := [(0, _), (1, _), (9, _)]) rfl ?_
  refine KSs_wp ?_
  refine WPs_cond rfl (fun hc1 => ?_) (fun hc1 => ?_)
  · (exfalso; (cases hc1; done))
  · simp only [decide_eq_true_eq] at hc1
    refine WPs_skip ?_
    refine KSs_wp ?_
    refine WPs_seq ?_
    refine WPs_regionK [6, 7] ?_
    refine s_move rfl rfl ?_
    refine s_nilCheck rfl rfl ?_
    refine s_fieldAddr fo_115_1 rfl rfl ?_
    refine s_load1 Tryz.isAgg112 rfl rfl (by exact cin (i := 0) rfl rfl) ?_
    refine s_move rfl rfl ?_
    refine s_lookT (q := 2) (es := ent nm) Tryz.underlying112 Tryz.underlying9 trivial rfl rfl rfl rfl (find_ent nm) ?_
    refine s_move rfl rfl ?_
    refine s_extract rfl rfl rfl ?_
    refine s_extract rfl rfl rfl ?_
    refine s_assign rfl rfl ?_
    refine s_assign rfl rfl ?_
    refine SXs_nilK (fr' := [(6, _), (7, _)]) rfl ?_
    refine KSs_wp ?_
    refine WPs_seq ?_
    refine WPs_regionK [4, 5] ?_
    refine s_move rfl rfl ?_
    refine s_move rfl rfl ?_
    refine s_assign rfl rfl ?_
    refine s_assign rfl rfl ?_
    refine SXs_nilK (fr' := [(4, _), (5, _)]) rfl ?_
    refine KSs_wp ?_
    refine WPs_ret ?_
    refine RLs_start ?_
    refine RLs_tmp rfl ?_
    refine RLs_tmp rfl ?_
    refine RLs_fin2 ?_
    exact fun w hS => ⟨rfl, fo1_mk (hS.sl (by (repeat ((exact Sl.refl _)))))⟩

theorem one_ok {x : Nat} : ∀ y ∈ [Value.int .u64 (x : Int)], y.cells = #[y] ∧ y.oneCell' = true := by
  intro y hy
  simp at hy
  subst hy
  exact ⟨rfl, rfl⟩

abbrev vals1 : FuncId := 138
theorem live2 {g : World} {F : List HP} {fo : Nat} {nm : ByteArray} :
    RCs Tryz.prog 51 [.pointer (some ⟨fo, 0, none⟩)] g (Fo2 fo nm :: F) (SlQ g 36 1 1 [.int .u64 1] (Fo2 fo nm :: F)) := by
  refine RCs_fo2 fun sf nw => ?_
  refine RCs_of_WPs Tryz.func51 rfl Tryz.ntmps51 rfl Tryz.results51 ?_
  refine WPs_seq ?_
  refine WPs_regionK [0] ?_
  refine s_assign rfl rfl ?_
  refine SXs_nilK (fr' := [(0, _)]) rfl ?_
  refine KSs_wp ?_
  refine WPs_seq ?_
  refine WPs_seq ?_
  refine WPs_regionK [0, 8] ?_
  refine s_move rfl rfl ?_
  refine s_call Tryz.call95 rfl (vs := [_]) rfl (RCs.perm (by (repeat ((exact List.Perm.refl _)))) (folder_none)) ?_
  rintro v w ⟨rfl, hS⟩
  refine SXs_go hS ?_
  clear hS; clear w
  simp only [putF]
  refine SXs_nilK (fr' := [(0, _), (8, _)]) rfl ?_
  refine KSs_wp ?_
  refine WPs_cond rfl (fun hc1 => ?_) (fun hc1 => ?_)
  · (exfalso; (cases hc1; done))
  · simp only [decide_eq_true_eq] at hc1
    refine WPs_skip ?_
    refine KSs_wp ?_
    refine WPs_seq ?_
    refine WPs_regionK [0, 3] ?_
    refine s_move rfl rfl ?_
    refine s_nilCheck rfl rfl ?_
    refine s_fieldAddr fo_115_0 rfl rfl ?_
    refine s_load1 Tryz.isAgg112 rfl rfl (by exact cin (i := 0) rfl rfl) ?_
    refine s_call Tryz.call96 rfl (vs := [_]) rfl (RCs.perm (by (repeat (first | exact List.Perm.refl _ | (apply pick 1; exact rfl)))) (clone_map (es := ent nm))) ?_
    rintro v w ⟨b13, rfl, hS⟩
    refine SXs_go hS ?_
    clear hS; clear w
    simp only [List.eraseIdx_cons_zero, List.eraseIdx_cons_succ, putF]
    refine s_assign rfl rfl ?_
    refine SXs_nilK (fr' := [(0, _), (3, _)]) rfl ?_
    refine KSs_wp ?_
    refine WPs_seq ?_
    refine WPs_regionK [0, 3, 4] ?_
    refine s_move rfl rfl ?_
    refine s_call Tryz.call100 rfl (vs := [_]) rfl (RCs.perm (by (repeat ((exact List.Perm.refl _)))) (values_spec)) ?_
    rintro v w ⟨B15, rfl, hS⟩
    refine SXs_go hS ?_
    clear hS; clear w
    simp only [putF]
    refine s_call Tryz.call99 rfl (vs := [_]) rfl (RCs.perm (by (repeat ((exact List.Perm.refl _)))) (collect_spec (gf := vals1) (lb := [.pointer (some ⟨B15, 0, none⟩)]) (xs := [.int .u64 1]) Tryz.call138 (one_ok (x := 1)) (by simp) (values_seq1 (m := b13) (k := .string nm)))) ?_
    rintro v w ⟨hn16, va16, vc16, rfl, hS⟩
    refine SXs_go hS ?_
    clear hS; clear w
    simp only [putF]
    refine s_assign rfl rfl ?_
    refine SXs_nilK (fr' := [(0, _), (3, _), (4, _)]) rfl ?_
    refine KSs_wp ?_
    refine WPs_seq ?_
    refine WPs_seq ?_
    refine WPs_regionK [3, 4, 20, 21, 22] ?_
    refine s_move rfl rfl ?_
    refine s_nilCheck rfl rfl ?_
    refine s_fieldAddr fo_115_2 rfl rfl ?_
    refine s_load1 Tryz.isAgg113 rfl rfl (by exact cin (i := 4) rfl rfl) ?_
    refine s_len rfl Tryz.underlying113 rfl rfl ?_
    refine s_move rfl rfl ?_
    refine SXs_nilK (fr' := [(3, _), (4, _), (20, _), (21, _), (22, _)]) rfl ?_
    refine KSs_wp ?_
    refine WPs_block ?_
    refine WPs_unroll 0 ?_
    refine WPs_seq ?_
    refine WPs_regionK [3, 4, 20, 21, 22, 23] ?_
    refine s_lss rfl rfl rfl ?_
    refine SXs_nilK (fr' := [(3, _), (4, _), (20, _), (21, _), (22, _), (23, _)]) rfl ?_
    refine KSs_wp ?_
    refine WPs_seq ?_
    refine WPs_cond rfl (fun hc2 => ?_) (fun hc2 => ?_)
    · (exfalso; (cases hc2; done))
    · simp only [decide_eq_false_iff_not] at hc2
      refine WPs_exit rfl ?_
      refine KSs_wp ?_
      refine WPs_seq ?_
      refine WPs_regionK [4] ?_
      refine SXs_rd 0 rfl fun hR16 => ?_
      refine s_move rfl rfl ?_
      refine s_call Tryz.call102 rfl (vs := [_]) rfl (RCs.perm (by (repeat ((exact List.Perm.refl _)))) (sort_spec hR16 (Nat.le_refl _))) ?_
      rintro v w ⟨rfl, hS⟩
      refine SXs_go hS ?_
      clear hS; clear w
      simp only [putF]
      refine SXs_nilK (fr' := [(4, _)]) rfl ?_
      refine KSs_wp ?_
      refine WPs_seq ?_
      refine WPs_regionK [2] ?_
      refine s_move rfl rfl ?_
      refine s_call Tryz.call103 rfl (vs := [_]) rfl (RCs.perm (by (repeat ((exact List.Perm.refl _)))) (compact_spec hR16 (Nat.le_refl _))) ?_
      rintro v w ⟨rfl, hS⟩
      refine SXs_go hS ?_
      clear hS; clear w
      simp only [putF]
      refine s_assign rfl rfl ?_
      refine SXs_nilK (fr' := [(2, _)]) rfl ?_
      refine KSs_wp ?_
      refine WPs_ret ?_
      refine RLs_start ?_
      refine RLs_tmp rfl ?_
      refine RLs_fin1 ?_
      exact fun w hS => ⟨_, _, rfl, by
          have h1 := fo2_mk (F := [own 36 1 (.slice va16 1 vc16) 1 [.int .u64 1]] ++ F) (hS.sl (by (repeat (first | exact Sl.refl _ | (apply Sl.pick 0; exact rfl) | (apply Sl.pick 3; exact rfl) | (apply Sl.pick 4; exact rfl) | refine Sl.skip ?_))))
          exact h1.perm (List.Perm.swap _ _ _)⟩
theorem live1 {g : World} {F : List HP} {fo : Nat} {nm : ByteArray} :
    RCs Tryz.prog 51 [.pointer (some ⟨fo, 0, none⟩)] g (Fo1 fo nm :: F) (SlQ g 36 1 1 [.int .u64 1] (Fo1 fo nm :: F)) := by
  refine RCs_fo1 fun sf nw da dc c1 c2 => ?_
  refine RCs_of_WPs Tryz.func51 rfl Tryz.ntmps51 rfl Tryz.results51 ?_
  refine WPs_seq ?_
  refine WPs_regionK [0] ?_
  refine s_assign rfl rfl ?_
  refine SXs_nilK (fr' := [(0, _)]) rfl ?_
  refine KSs_wp ?_
  refine WPs_seq ?_
  refine WPs_seq ?_
  refine WPs_regionK [0, 8] ?_
  refine s_move rfl rfl ?_
  refine s_call Tryz.call95 rfl (vs := [_]) rfl (RCs.perm (by (repeat ((exact List.Perm.refl _)))) (folder_none)) ?_
  rintro v w ⟨rfl, hS⟩
  refine SXs_go hS ?_
  clear hS; clear w
  simp only [putF]
  refine SXs_nilK (fr' := [(0, _), (8, _)]) rfl ?_
  refine KSs_wp ?_
  refine WPs_cond rfl (fun hc1 => ?_) (fun hc1 => ?_)
  · (exfalso; (cases hc1; done))
  · simp only [decide_eq_true_eq] at hc1
    refine WPs_skip ?_
    refine KSs_wp ?_
    refine WPs_seq ?_
    refine WPs_regionK [0, 3] ?_
    refine s_move rfl rfl ?_
    refine s_nilCheck rfl rfl ?_
    refine s_fieldAddr fo_115_0 rfl rfl ?_
    refine s_load1 Tryz.isAgg112 rfl rfl (by exact cin (i := 0) rfl rfl) ?_
    refine s_call Tryz.call96 rfl (vs := [_]) rfl (RCs.perm (by (repeat (first | exact List.Perm.refl _ | (apply pick 1; exact rfl)))) (clone_map (m := sf) (es := []))) ?_
    rintro v w ⟨b13, rfl, hS⟩
    refine SXs_go hS ?_
    clear hS; clear w
    simp only [List.eraseIdx_cons_zero, List.eraseIdx_cons_succ, putF]
    refine s_assign rfl rfl ?_
    refine SXs_nilK (fr' := [(0, _), (3, _)]) rfl ?_
    refine KSs_wp ?_
    refine WPs_seq ?_
    refine WPs_regionK [0, 3, 4] ?_
    refine s_move rfl rfl ?_
    refine s_call Tryz.call100 rfl (vs := [_]) rfl (RCs.perm (by (repeat ((exact List.Perm.refl _)))) (values_spec)) ?_
    rintro v w ⟨B15, rfl, hS⟩
    refine SXs_go hS ?_
    clear hS; clear w
    simp only [putF]
    refine s_call Tryz.call99 rfl (vs := [_]) rfl (RCs.perm (by (repeat ((exact List.Perm.refl _)))) (collect_spec (gf := vals1) (lb := [.pointer (some ⟨B15, 0, none⟩)]) (xs := []) Tryz.call138 (by simp) (by simp) (values_seq0 (m := b13)))) ?_
    rintro v w ⟨hn16, va16, vc16, rfl, hS⟩
    refine SXs_go hS ?_
    clear hS; clear w
    simp only [putF]
    refine s_assign rfl rfl ?_
    refine SXs_nilK (fr' := [(0, _), (3, _), (4, _)]) rfl ?_
    refine KSs_wp ?_
    refine WPs_seq ?_
    refine WPs_seq ?_
    refine WPs_regionK [3, 4, 20, 21, 22] ?_
    obtain ⟨rfl, rfl⟩ : va16 = none ∧ vc16 = 0 := by have := hn16 rfl; cases this; exact ⟨rfl, rfl⟩
    refine s_move rfl rfl ?_
    refine s_nilCheck rfl rfl ?_
    refine s_fieldAddr fo_115_2 rfl rfl ?_
    refine s_load1 Tryz.isAgg113 rfl rfl (by exact cin (i := 4) rfl rfl) ?_
    refine s_len rfl Tryz.underlying113 rfl rfl ?_
    refine s_move rfl rfl ?_
    refine SXs_nilK (fr' := [(3, _), (4, _), (20, _), (21, _), (22, _)]) rfl ?_
    refine KSs_wp ?_
    refine WPs_block ?_
    refine WPs_unroll 1 ?_
    refine WPs_seq ?_
    refine WPs_regionK [3, 4, 20, 21, 22, 23] ?_
    refine s_lss rfl rfl rfl ?_
    refine SXs_nilK (fr' := [(3, _), (4, _), (20, _), (21, _), (22, _), (23, _)]) rfl ?_
    refine KSs_wp ?_
    refine WPs_seq ?_
    refine WPs_cond rfl (fun hc2 => ?_) (fun hc2 => ?_)
    · simp only [decide_eq_true_eq] at hc2
      refine WPs_skip ?_
      refine KSs_wp ?_
      refine WPs_seq ?_
      refine WPs_block ?_
      refine WPs_seq ?_
      refine WPs_regionK [3, 4, 6, 20, 21, 22] ?_
      refine SXs_rd (T := 150) 6 rfl (fun hRd => ?_)
      refine s_idxRd slt_113 rfl rfl (by ((assumption))) rfl (by omega) (by omega) (fun b24 o24 hc24 => ?_)
      refine s_load1 Tryz.isAgg150 rfl rfl (hc24.at0 rfl) ?_
      refine s_assign rfl rfl ?_
      refine SXs_nilK (fr' := [(3, _), (4, _), (6, _), (20, _), (21, _), (22, _)]) rfl ?_
      refine KSs_wp ?_
      refine WPs_seq ?_
      refine WPs_regionK [3, 4, 20, 21, 22] ?_
      refine s_move rfl rfl ?_
      refine s_move rfl rfl ?_
      refine s_callV (vs := [_]) Tryz.call148 rfl rfl rfl rfl (RCs.perm (by (repeat (first | exact List.Perm.refl _ | (apply pick 2; exact rfl) | (apply pick 6; exact rfl)))) (create_deed (nm := nm) (m := b13) (c1 := c1) (c2 := c2))) ?_
      rintro v w ⟨rfl, hS⟩
      refine SXs_go hS ?_
      clear hS; clear w
      simp only [List.eraseIdx_cons_zero, List.eraseIdx_cons_succ, putF]
      refine SXs_nilK (fr' := [(3, _), (4, _), (20, _), (21, _), (22, _)]) rfl ?_
      refine KSs_wp ?_
      refine WPs_regionK [3, 4, 20, 21, 22] ?_
      refine s_move rfl rfl ?_
      refine s_move rfl rfl ?_
      refine s_call Tryz.call100 rfl (vs := [_]) rfl (RCs.perm (by (repeat ((exact List.Perm.refl _)))) (values_spec)) ?_
      rintro v w ⟨B31, rfl, hS⟩
      refine SXs_go hS ?_
      clear hS; clear w
      simp only [putF]
      refine s_call Tryz.call101 rfl (vs := [_, _]) rfl (RCs.perm (by (repeat ((exact List.Perm.refl _)))) (append_seq_spec (gf := vals1) (lb := [.pointer (some ⟨B31, 0, none⟩)]) (xs := [.int .u64 1]) Tryz.call138 (one_ok (x := 1)) (by simp) (values_seq1 (m := b13) (k := .string nm)))) ?_
      rintro v w ⟨_, va32, vc32, rfl, hS⟩
      refine SXs_go hS ?_
      clear hS; clear w
      simp only [putF]
      refine s_assign rfl rfl ?_
      refine SXs_nilK (fr' := [(3, _), (4, _), (20, _), (21, _), (22, _)]) rfl ?_
      refine KSs_wp ?_
      refine WPs_regionK [3, 4, 20, 21, 22] ?_
      refine s_add_ok rfl rfl rfl (inR_i64 (by omega) (by omega)) ?_
      refine s_move rfl rfl ?_
      refine SXs_nilK (fr' := [(3, _), (4, _), (20, _), (21, _), (22, _)]) rfl ?_
      refine KSs_unroll (N := 0) ?_
      refine WPs_seq ?_
      refine WPs_regionK [3, 4, 20, 21, 22, 23] ?_
      refine s_lss rfl rfl rfl ?_
      refine SXs_nilK (fr' := [(3, _), (4, _), (20, _), (21, _), (22, _), (23, _)]) rfl ?_
      refine KSs_wp ?_
      refine WPs_seq ?_
      refine WPs_cond rfl (fun hc3 => ?_) (fun hc3 => ?_)
      · (exfalso; (cases hc3; done))
      · simp only [decide_eq_false_iff_not] at hc3
        refine WPs_exit rfl ?_
        refine KSs_wp ?_
        refine WPs_seq ?_
        refine WPs_regionK [4] ?_
        refine SXs_rd 0 rfl fun hR16 => ?_
        refine s_move rfl rfl ?_
        refine s_call Tryz.call102 rfl (vs := [_]) rfl (RCs.perm (by (repeat ((exact List.Perm.refl _)))) (sort_spec hR16 (Nat.le_refl _))) ?_
        rintro v w ⟨rfl, hS⟩
        refine SXs_go hS ?_
        clear hS; clear w
        simp only [putF]
        refine SXs_nilK (fr' := [(4, _)]) rfl ?_
        refine KSs_wp ?_
        refine WPs_seq ?_
        refine WPs_regionK [2] ?_
        refine s_move rfl rfl ?_
        refine s_call Tryz.call103 rfl (vs := [_]) rfl (RCs.perm (by (repeat ((exact List.Perm.refl _)))) (compact_spec hR16 (Nat.le_refl _))) ?_
        rintro v w ⟨rfl, hS⟩
        refine SXs_go hS ?_
        clear hS; clear w
        simp only [putF]
        refine s_assign rfl rfl ?_
        refine SXs_nilK (fr' := [(2, _)]) rfl ?_
        refine KSs_wp ?_
        refine WPs_ret ?_
        refine RLs_start ?_
        refine RLs_tmp rfl ?_
        refine RLs_fin1 ?_
        exact fun w hS => ⟨_, _, rfl, by
            have h1 := fo1_mk (F := [own 36 1 (.slice va32 1 vc32) 1 [.int .u64 1]] ++ F) (hS.sl (by (repeat (first | exact Sl.refl _ | (apply Sl.pick 0; exact rfl) | (apply Sl.pick 3; exact rfl) | (apply Sl.pick 7; exact rfl) | (apply Sl.pick 8; exact rfl) | refine Sl.skip ?_))))
            exact h1.perm (List.Perm.swap _ _ _)⟩
    · (exfalso; (cases hc2; done))
end Go.Proofs.YthodbnmeggkkoaaGreatDoor
/-
  Package folder: List; behind it maps.Keys, slices.Sorted at one name.
-/
namespace Go.Proofs.YthodbnmeggkkoaaGreatDoor
open Go Go.RowKit Go.Hb Go.Proofs

theorem keys_seq0 {g : World} {F : List HP} {B m : Nat} :
    SeqK Tryz.prog 181 [.pointer (some ⟨B, 0, none⟩)] g (pt B (.cells [.map (some m)].toArray 112 (0, 0)) :: pt m (.map ([] : List MapEntry).toArray 0) :: F) [] := by
  intro l rec I hs hp hpar hround
  refine RCs_of_WPs Tryz.func181 rfl Tryz.ntmps181 rfl Tryz.results181 ?_
  refine WPs_seq ?_
  refine WPs_regionK [0, 5] ?_
  refine s_load1 Tryz.isAgg112 rfl rfl (by exact cin (i := 2) rfl rfl) ?_
  refine s_range (q := 3) Tryz.underlying112 rfl rfl rfl (fun b5 => ?_)
  refine SXs_nilK (fr' := [(0, _), (5, _)]) rfl ?_
  refine KSs_wp ?_
  refine WPs_block ?_
  refine WPs_unroll 1 ?_
  refine WPs_seq ?_
  refine WPs_regionK [0, 5, 7] ?_
  refine s_next0 (i := 0) (q := 4) rfl rfl rfl rfl ?_
  refine s_extract rfl rfl rfl ?_
  refine SXs_nilK (fr' := [(0, _), (5, _), (7, _)]) rfl ?_
  refine KSs_wp ?_
  refine WPs_seq ?_
  refine WPs_cond rfl (fun hc1 => ?_) (fun hc1 => ?_)
  · (exfalso; (cases hc1; done))
  · simp only [decide_eq_true_eq] at hc1
    refine WPs_exit rfl ?_
    refine RLs_start ?_
    refine RLs_fin0 ?_
    exact fun w hS => hS.sl (by (repeat (first | exact Sl.refl _ | (apply Sl.pick 1; exact rfl) | refine Sl.skip ?_)))
theorem keys_seq1 {g : World} {F : List HP} {B m : Nat} {k v : Value} :
    SeqK Tryz.prog 181 [.pointer (some ⟨B, 0, none⟩)] g (pt B (.cells [.map (some m)].toArray 112 (0, 0)) :: pt m (.map [⟨k, v, 0⟩].toArray 1) :: F) [k] := by
  intro l rec I hs hp hpar hround
  refine RCs_of_WPs Tryz.func181 rfl Tryz.ntmps181 rfl Tryz.results181 ?_
  refine WPs_seq ?_
  refine WPs_regionK [0, 5] ?_
  refine s_load1 Tryz.isAgg112 rfl rfl (by exact cin (i := 2) rfl rfl) ?_
  refine s_range (q := 3) Tryz.underlying112 rfl rfl rfl (fun b5 => ?_)
  refine SXs_nilK (fr' := [(0, _), (5, _)]) rfl ?_
  refine KSs_wp ?_
  refine WPs_block ?_
  refine WPs_unroll 1 ?_
  refine WPs_seq ?_
  refine WPs_regionK [0, 5, 7] ?_
  refine s_next1 (i := 0) (q := 4) rfl rfl rfl rfl ?_
  refine s_extract rfl rfl rfl ?_
  refine SXs_nilK (fr' := [(0, _), (5, _), (7, _)]) rfl ?_
  refine KSs_wp ?_
  refine WPs_seq ?_
  refine WPs_cond rfl (fun hc1 => ?_) (fun hc1 => ?_)
  · simp only [decide_eq_true_eq] at hc1
    refine WPs_skip ?_
    refine KSs_wp ?_
    refine WPs_block ?_
    refine WPs_seq ?_
    refine WPs_regionK [0, 3, 5] ?_
    refine s_entry1 (i := 0) (q := 4) rfl rfl rfl rfl ?_
    refine s_extract rfl rfl rfl ?_
    refine s_assign rfl rfl ?_
    refine SXs_nilK (fr' := [(0, _), (3, _), (5, _)]) rfl ?_
    refine KSs_wp ?_
    refine WPs_seq ?_
    refine WPs_yieldS [0, 5, 13] (i := 1) (rec := rec) (v := k) rfl (fun _ => rfl) rfl rfl rfl rfl (by decide) rfl hpar (fun w hw => (hround 0 k rfl _ w ((hw.bring 2 rfl).bring 2 rfl))) (fr' := [(0, _), (5, _), (13, _)]) rfl ?_
    simp only [List.eraseIdx_cons_zero, List.eraseIdx_cons_succ, List.set_cons_zero]
    refine KSs_wp ?_
    refine WPs_cond rfl (fun hc2 => ?_) (fun hc2 => ?_)
    · (exfalso; (cases hc2; done))
    · simp only [decide_eq_true_eq] at hc2
      refine WPs_skip ?_
      refine KSs_unroll (N := 0) ?_
      refine WPs_seq ?_
      refine WPs_regionK [0, 5, 7] ?_
      refine s_next2 (i := 2) (q := 4) rfl rfl rfl rfl ?_
      refine s_extract rfl rfl rfl ?_
      refine SXs_nilK (fr' := [(0, _), (5, _), (7, _)]) rfl ?_
      refine KSs_wp ?_
      refine WPs_seq ?_
      refine WPs_cond rfl (fun hc3 => ?_) (fun hc3 => ?_)
      · (exfalso; (cases hc3; done))
      · simp only [decide_eq_true_eq] at hc3
        refine WPs_exit rfl ?_
        refine RLs_start ?_
        refine RLs_fin0 ?_
        exact fun w hS => hS.sl (by (repeat (first | exact Sl.refl _ | (apply Sl.pick 0; exact rfl) | (apply Sl.pick 1; exact rfl) | refine Sl.skip ?_)))
  · (exfalso; (cases hc1; done))
theorem insS_spec {g : World} {F : List HP} {v : Value} {n : Nat} (hn : n ≤ 1) :
    RCs Tryz.prog 193 [v, .int .i64 0, .int .i64 (n : Int)] g F (fun u w => u = .tuple #[] ∧ St g w F) := by
  refine RCs_of_WPs Tryz.func193 rfl Tryz.ntmps193 rfl Tryz.results193 ?_
  refine WPs_seq ?_
  refine WPs_regionK [0, 1, 2, 6] ?_
  refine s_move rfl rfl ?_
  refine s_add_ok rfl rfl rfl (inR_i64 (by omega) (by omega)) ?_
  refine s_assign rfl rfl ?_
  refine SXs_nilK (fr' := [(0, _), (1, _), (2, _), (6, _)]) rfl ?_
  refine KSs_wp ?_
  refine WPs_block ?_
  refine WPs_unroll 0 ?_
  refine WPs_seq ?_
  refine WPs_seq ?_
  refine WPs_regionK [0, 1, 2, 6, 12] ?_
  refine s_move rfl rfl ?_
  refine s_move rfl rfl ?_
  refine s_lss rfl rfl rfl ?_
  refine SXs_nilK (fr' := [(0, _), (1, _), (2, _), (6, _), (12, _)]) rfl ?_
  refine KSs_wp ?_
  refine WPs_cond rfl (fun hc1 => ?_) (fun hc1 => ?_)
  ·
    exfalso; (simp only [decide_eq_true_eq] at hc1; omega)
  ·
    simp only [decide_eq_false_iff_not] at hc1
    refine WPs_exit rfl ?_
    refine RLs_start ?_
    refine RLs_fin0 ?_
    exact fun w hS => ⟨rfl, hS⟩
theorem pdqS_spec {g : World} {F : List HP} {v : Value} {n k : Nat} (hn : n ≤ 1) :
    RCs Tryz.prog 190 [v, .int .i64 0, .int .i64 (n : Int), .int .i64 (k : Int)] g F (fun u w => u = .tuple #[] ∧ St g w F) := by
  refine RCs_of_WPs Tryz.func190 rfl Tryz.ntmps190 rfl Tryz.results190 ?_
  refine WPs_seq ?_
  refine WPs_regionK [0, 1, 2, 3, 8] ?_
  refine s_assign rfl rfl ?_
  refine SXs_nilK (fr' := [(0, _), (1, _), (2, _), (3, _), (8, _)]) rfl ?_
  refine KSs_wp ?_
  refine WPs_seq ?_
  refine WPs_regionK [0, 1, 2, 3, 8, 9] ?_
  refine s_assign rfl rfl ?_
  refine SXs_nilK (fr' := [(0, _), (1, _), (2, _), (3, _), (8, _), (9, _)]) rfl ?_
  refine KSs_wp ?_
  refine WPs_block ?_
  refine WPs_unroll 0 ?_
  refine WPs_block ?_
  refine WPs_seq ?_
  refine WPs_regionK [0, 1, 2, 3, 8, 9, 10] ?_
  refine s_move rfl rfl ?_
  refine s_move rfl rfl ?_
  refine s_sub_ok rfl rfl rfl (inR_i64 (by omega) (by omega)) ?_
  refine s_assign rfl rfl ?_
  refine SXs_nilK (fr' := [(0, _), (1, _), (2, _), (3, _), (8, _), (9, _), (10, _)]) rfl ?_
  refine KSs_wp ?_
  refine WPs_seq ?_
  refine WPs_seq ?_
  refine WPs_regionK [0, 1, 2, 3, 8, 9, 10, 23] ?_
  refine s_move rfl rfl ?_
  refine s_leq rfl rfl rfl ?_
  refine SXs_nilK (fr' := [(0, _), (1, _), (2, _), (3, _), (8, _), (9, _), (10, _), (23, _)]) rfl ?_
  refine KSs_wp ?_
  refine WPs_cond rfl (fun hc1 => ?_) (fun hc1 => ?_)
  ·
    simp only [decide_eq_true_eq] at hc1
    refine WPs_seq ?_
    refine WPs_regionK [] ?_
    refine s_move rfl rfl ?_
    refine s_move rfl rfl ?_
    refine s_move rfl rfl ?_
    refine s_call Tryz.call193 rfl (vs := [_, _, _]) rfl (RCs.perm (by (repeat ((exact List.Perm.refl _)))) (insS_spec hn)) ?_
    rintro v w ⟨rfl, hS⟩
    refine SXs_go hS ?_
    clear hS; clear w
    simp only [putF]
    refine SXs_nilK (fr' := []) rfl ?_
    refine KSs_wp ?_
    refine WPs_ret ?_
    refine RLs_start ?_
    refine RLs_fin0 ?_
    exact fun w hS => ⟨rfl, hS⟩
  ·
    exfalso; (simp only [decide_eq_false_iff_not] at hc1; omega)
theorem sortS_spec {g : World} {F : List HP} {v : Value} {n : Nat} {xs : List Value} (hR : RdIn g F v 1 n xs) (hn : n ≤ 1) :
    RCs Tryz.prog 180 [v] g F (fun u w => u = .tuple #[] ∧ St g w F) := by
  refine RCs_of_WPs Tryz.func180 rfl Tryz.ntmps180 rfl Tryz.results180 ?_
  refine WPs_seq ?_
  refine WPs_regionK [0, 2] ?_
  refine s_move rfl rfl ?_
  refine s_lenRd rfl Tryz.underlying218 rfl rfl (by ((assumption))) ?_
  refine s_assign rfl rfl ?_
  refine SXs_nilK (fr' := [(0, _), (2, _)]) rfl ?_
  refine KSs_wp ?_
  refine WPs_regionK [] ?_
  refine s_move rfl rfl ?_
  refine s_move rfl rfl ?_
  refine s_move rfl rfl ?_
  refine s_conv_ok Tryz.underlying3 Tryz.underlying127 rfl rfl (inR_u64 (by omega) (by omega)) ?_
  refine s_call Tryz.call140 rfl (vs := [_]) rfl (RCs.perm (by (repeat ((exact List.Perm.refl _)))) (len_spec (x := n) (by omega))) ?_
  rintro v w ⟨rfl, hS⟩
  refine SXs_go hS ?_
  clear hS; clear w
  simp only [putF]
  refine s_call Tryz.call190 rfl (vs := [_, _, _, _]) rfl (RCs.perm (by (repeat ((exact List.Perm.refl _)))) (pdqS_spec hn)) ?_
  rintro v w ⟨rfl, hS⟩
  refine SXs_go hS ?_
  clear hS; clear w
  simp only [putF]
  refine SXs_nilK (fr' := []) rfl ?_
  refine RLs_start ?_
  refine RLs_fin0 ?_
  exact fun w hS => ⟨rfl, hS⟩
theorem keys_spec {g : World} {F : List HP} {m : Nat} :
    RCs Tryz.prog 162 [.map (some m)] g F
      (fun u w => ∃ B, u = .func (.func 181) #[] #[.pointer (some ⟨B, 0, none⟩)] ∧ St g w (pt B (.cells [.map (some m)].toArray 112 (0, 0)) :: F)) := by
  refine RCs_of_WPs Tryz.func162 rfl Tryz.ntmps162 rfl Tryz.results162 ?_
  refine WPs_seq ?_
  refine WPs_regionK [1] ?_
  refine s_box (cl := [_]) rfl rfl rfl (fun b1 => ?_)
  refine s_assign rfl rfl ?_
  refine SXs_nilK (fr' := [(1, _)]) rfl ?_
  refine KSs_wp ?_
  refine WPs_seq ?_
  refine WPs_regionK [2] ?_
  refine s_makeFunc (fs := []) (cs := [_]) rfl rfl rfl ?_
  refine s_assign rfl rfl ?_
  refine SXs_nilK (fr' := [(2, _)]) rfl ?_
  refine KSs_wp ?_
  refine WPs_ret ?_
  refine RLs_start ?_
  refine RLs_tmp rfl ?_
  refine RLs_fin1 ?_
  exact fun w hS => ⟨_, rfl, hS⟩
theorem append_seqS_spec {g : World} {F : List HP} {gf : FuncId} {lb : List Value} {xs : List Value} (eg : Enters Tryz.prog gf) (hx : ∀ x ∈ xs, x.cells = #[x] ∧ x.oneCell' = true) (hl : xs.length ≤ 1099511627776) (hseq : SeqK Tryz.prog gf lb g F xs) :
    RCs Tryz.prog 189 [.slice none 0 0, .func (.func gf) #[] lb.toArray] g F (fun u w => (xs.length = 0 → u = .slice none 0 0) ∧ SlQ g 9 1 xs.length xs F u w) :=
  appendSeq_rc (T := 218) (S := 221) Tryz.func189 (by kernel_rfl) rfl rfl slt_218 Tryz.isAgg218 Tryz.sizeOf218 eg hx (by simp only [maxLen]; omega) (by omega) hseq
theorem collectS_spec {g : World} {F : List HP} {gf : FuncId} {lb : List Value} {xs : List Value} (eg : Enters Tryz.prog gf) (hx : ∀ x ∈ xs, x.cells = #[x] ∧ x.oneCell' = true) (hl : xs.length ≤ 1099511627776) (hseq : SeqK Tryz.prog gf lb g F xs) :
    RCs Tryz.prog 179 [.func (.func gf) #[] lb.toArray] g F (fun u w => (xs.length = 0 → u = .slice none 0 0) ∧ SlQ g 9 1 xs.length xs F u w) := by
  refine RCs_of_WPs Tryz.func179 rfl Tryz.ntmps179 rfl Tryz.results179 ?_
  refine WPs_seq ?_
  refine WPs_regionK [0] ?_
  refine s_assign rfl rfl ?_
  refine SXs_nilK (fr' := [(0, _)]) rfl ?_
  refine KSs_wp ?_
  refine WPs_seq ?_
  refine WPs_regionK [2] ?_
  refine s_move rfl rfl ?_
  refine s_call Tryz.call189 rfl (vs := [_, _]) rfl (RCs.perm (by (repeat ((exact List.Perm.refl _)))) (append_seqS_spec eg hx (by omega) hseq)) ?_
  rintro v w ⟨h0, va, vc, rfl, hS⟩
  refine SXs_go hS ?_
  clear hS; clear w
  simp only [putF]
  refine s_assign rfl rfl ?_
  refine SXs_nilK (fr' := [(2, _)]) rfl ?_
  refine KSs_wp ?_
  refine WPs_ret ?_
  refine RLs_start ?_
  refine RLs_tmp rfl ?_
  refine RLs_fin1 ?_
  exact fun w hS => ⟨h0, SlQ.of hS⟩
theorem sorted_spec {g : World} {F : List HP} {gf : FuncId} {lb : List Value} {x : Value} (eg : Enters Tryz.prog gf) (hx : x.cells = #[x] ∧ x.oneCell' = true) (hseq : SeqK Tryz.prog gf lb g F [x]) :
    RCs Tryz.prog 161 [.func (.func gf) #[] lb.toArray] g F (SlQ g 9 1 1 [x] F) := by
  refine RCs_of_WPs Tryz.func161 rfl Tryz.ntmps161 rfl Tryz.results161 ?_
  refine WPs_seq ?_
  refine WPs_regionK [0] ?_
  refine s_assign rfl rfl ?_
  refine SXs_nilK (fr' := [(0, _)]) rfl ?_
  refine KSs_wp ?_
  refine WPs_seq ?_
  refine WPs_regionK [3] ?_
  refine s_move rfl rfl ?_
  refine s_call Tryz.call179 rfl (vs := [_]) rfl (RCs.perm (by (repeat ((exact List.Perm.refl _)))) (collectS_spec eg (by intro y hy; simp at hy; subst hy; exact hx) (by simp) hseq)) ?_
  rintro v w ⟨_, va, vc, rfl, hS⟩
  refine SXs_go hS ?_
  clear hS; clear w
  simp only [putF]
  refine s_assign rfl rfl ?_
  refine SXs_nilK (fr' := [(3, _)]) rfl ?_
  refine KSs_wp ?_
  refine WPs_seq ?_
  refine WPs_regionK [3] ?_
  refine SXs_rd 0 rfl fun hR5 => ?_
  refine s_move rfl rfl ?_
  refine s_call Tryz.call180 rfl (vs := [_]) rfl (RCs.perm (by (repeat ((exact List.Perm.refl _)))) (sortS_spec hR5 (by simp))) ?_
  rintro v w ⟨rfl, hS⟩
  refine SXs_go hS ?_
  clear hS; clear w
  simp only [putF]
  refine SXs_nilK (fr' := [(3, _)]) rfl ?_
  refine KSs_wp ?_
  refine WPs_seq ?_
  refine WPs_regionK [2] ?_
  refine s_move rfl rfl ?_
  refine s_assign rfl rfl ?_
  refine SXs_nilK (fr' := [(2, _)]) rfl ?_
  refine KSs_wp ?_
  refine WPs_ret ?_
  refine RLs_start ?_
  refine RLs_tmp rfl ?_
  refine RLs_fin1 ?_
  exact fun w hS => SlQ.of hS

abbrev keys1 : FuncId := 181
theorem folder_list {g : World} {F : List HP} {fo nw : Nat} {a c d : Value} {nm : ByteArray} :
    RCs Tryz.prog 135 [.pointer (some ⟨fo, 0, none⟩)] g (pt fo (.cells [a, .map (some nw), c, d].toArray 115 (0, 0)) :: pt nw (.map (ent nm).toArray 1) :: F)
      (SlQ g 195 2 1 [.string nm, .int .u64 1] (pt fo (.cells [a, .map (some nw), c, d].toArray 115 (0, 0)) :: pt nw (.map (ent nm).toArray 1) :: F)) := by
  refine RCs_of_WPs Tryz.func135 rfl Tryz.ntmps135 rfl Tryz.results135 ?_
  refine WPs_seq ?_
  refine WPs_regionK [0] ?_
  refine s_assign rfl rfl ?_
  refine SXs_nilK (fr' := [(0, _)]) rfl ?_
  refine KSs_wp ?_
  refine WPs_seq ?_
  refine WPs_seq ?_
  refine WPs_regionK [0, 7] ?_
  refine s_move rfl rfl ?_
  refine s_call Tryz.call95 rfl (vs := [_]) rfl (RCs.perm (by (repeat ((exact List.Perm.refl _)))) (folder_none)) ?_
  rintro v w ⟨rfl, hS⟩
  refine SXs_go hS ?_
  clear hS; clear w
  simp only [putF]
  refine SXs_nilK (fr' := [(0, _), (7, _)]) rfl ?_
  refine KSs_wp ?_
  refine WPs_cond rfl (fun hc1 => ?_) (fun hc1 => ?_)
  · (exfalso; (cases hc1; done))
  · simp only [decide_eq_true_eq] at hc1
    refine WPs_skip ?_
    refine KSs_wp ?_
    refine WPs_seq ?_
    refine WPs_regionK [0, 3] ?_
    refine s_assign rfl rfl ?_
    refine SXs_nilK (fr' := [(0, _), (3, _)]) rfl ?_
    refine KSs_wp ?_
    refine WPs_seq ?_
    refine WPs_seq ?_
    refine WPs_regionK [0, 3, 13, 14, 15] ?_
    refine s_move rfl rfl ?_
    refine s_nilCheck rfl rfl ?_
    refine s_fieldAddr fo_115_1 rfl rfl ?_
    refine s_load1 Tryz.isAgg112 rfl rfl (by exact cin (i := 0) rfl rfl) ?_
    refine s_call Tryz.call162 rfl (vs := [_]) rfl (RCs.perm (by (repeat ((exact List.Perm.refl _)))) (keys_spec)) ?_
    rintro v w ⟨B12, rfl, hS⟩
    refine SXs_go hS ?_
    clear hS; clear w
    simp only [putF]
    refine s_call Tryz.call161 rfl (vs := [_]) rfl (RCs.perm (by (repeat (first | exact List.Perm.refl _ | (apply pick 0; exact rfl) | (apply pick 1; exact rfl)))) (sorted_spec (gf := keys1) (lb := [.pointer (some ⟨B12, 0, none⟩)]) (x := .string nm) Tryz.call181 ⟨rfl, rfl⟩ (keys_seq1 (m := nw) (v := .int .u64 1)))) ?_
    rintro v w ⟨va13, vc13, rfl, hS⟩
    refine SXs_go hS ?_
    clear hS; clear w
    simp only [List.eraseIdx_cons_zero, List.eraseIdx_cons_succ, putF]
    refine SXs_rd 0 rfl fun hR13 => ?_
    refine s_len rfl Tryz.underlying218 rfl rfl ?_
    refine s_move rfl rfl ?_
    refine SXs_nilK (fr' := [(0, _), (3, _), (13, _), (14, _), (15, _)]) rfl ?_
    refine KSs_wp ?_
    refine WPs_block ?_
    refine WPs_unroll 1 ?_
    refine WPs_seq ?_
    refine WPs_regionK [0, 3, 13, 14, 15, 16] ?_
    refine s_lss rfl rfl rfl ?_
    refine SXs_nilK (fr' := [(0, _), (3, _), (13, _), (14, _), (15, _), (16, _)]) rfl ?_
    refine KSs_wp ?_
    refine WPs_seq ?_
    refine WPs_cond rfl (fun hc2 => ?_) (fun hc2 => ?_)
    · simp only [decide_eq_true_eq] at hc2
      refine WPs_skip ?_
      refine KSs_wp ?_
      refine WPs_seq ?_
      refine WPs_block ?_
      refine WPs_seq ?_
      refine WPs_regionK [0, 3, 5, 13, 14, 15] ?_
      refine s_idxRd slt_218 rfl rfl (by ((assumption))) rfl (by omega) (by omega) (fun b17 o17 hc17 => ?_)
      refine s_load1 Tryz.isAgg9 rfl rfl (hc17.at0 rfl) ?_
      refine s_assign rfl rfl ?_
      refine SXs_nilK (fr' := [(0, _), (3, _), (5, _), (13, _), (14, _), (15, _)]) rfl ?_
      refine KSs_wp ?_
      refine WPs_regionK [0, 3, 13, 14, 15] ?_
      refine s_move rfl rfl ?_
      refine s_move rfl rfl ?_
      refine s_move rfl rfl ?_
      refine s_nilCheck rfl rfl ?_
      refine s_fieldAddr fo_115_1 rfl rfl ?_
      refine s_load1 Tryz.isAgg112 rfl rfl (by exact cin (i := 3) rfl rfl) ?_
      refine s_move rfl rfl ?_
      refine s_lookT (q := 2) (es := ent nm) Tryz.underlying112 Tryz.underlying9 trivial rfl rfl rfl rfl (find_ent nm) ?_
      refine s_build (vs := [(0, _), (1, _)]) (cs := [_, _]) rfl rfl (build_195_0_1 rfl rfl) ?_
      refine s_buildSlice (vs := [(0, _)]) (cs := [_, _]) rfl rfl (buildSlice_one slt_192 rfl rfl (by decide)) (fun b28 => ?_)
      refine s_appendNil slt_192 rfl rfl rfl (by exact pt_RdIn (i := 0) rfl rfl rfl (by omega) (by simp only [maxLen]; omega)) (by ((rfl))) (by ((omega))) (fun va29 vc29 => ?_)
      refine s_assign rfl rfl ?_
      refine SXs_nilK (fr' := [(0, _), (3, _), (13, _), (14, _), (15, _)]) rfl ?_
      refine KSs_wp ?_
      refine WPs_regionK [0, 3, 13, 14, 15] ?_
      refine s_add_ok rfl rfl rfl (inR_i64 (by omega) (by omega)) ?_
      refine s_move rfl rfl ?_
      refine SXs_nilK (fr' := [(0, _), (3, _), (13, _), (14, _), (15, _)]) rfl ?_
      refine KSs_unroll (N := 0) ?_
      refine WPs_seq ?_
      refine WPs_regionK [0, 3, 13, 14, 15, 16] ?_
      refine s_lss rfl rfl rfl ?_
      refine SXs_nilK (fr' := [(0, _), (3, _), (13, _), (14, _), (15, _), (16, _)]) rfl ?_
      refine KSs_wp ?_
      refine WPs_seq ?_
      refine WPs_cond rfl (fun hc3 => ?_) (fun hc3 => ?_)
      · (exfalso; (cases hc3; done))
      · simp only [decide_eq_false_iff_not] at hc3
        refine WPs_exit rfl ?_
        refine KSs_wp ?_
        refine WPs_seq ?_
        refine WPs_regionK [2] ?_
        refine s_move rfl rfl ?_
        refine s_assign rfl rfl ?_
        refine SXs_nilK (fr' := [(2, _)]) rfl ?_
        refine KSs_wp ?_
        refine WPs_ret ?_
        refine RLs_start ?_
        refine RLs_tmp rfl ?_
        refine RLs_fin1 ?_
        exact fun w hS => SlQ.of (hS.sl (by (repeat (first | exact Sl.refl _ | (apply Sl.pick 0; exact rfl) | (apply Sl.pick 3; exact rfl) | (apply Sl.pick 4; exact rfl) | refine Sl.skip ?_))))
    · (exfalso; (cases hc2; done))
end Go.Proofs.YthodbnmeggkkoaaGreatDoor
/-
  Package fs with one file at the most: what lies in memory; power, find, open, clean, step, with.
-/
namespace Go.Proofs.YthodbnmeggkkoaaGreatDoor
open Go Go.RowKit Go.Hb Go.Proofs

def FoP (ph : Bool) (fo : Nat) (nm : ByteArray) : HP := bif ph then Fo2 fo nm else Fo1 fo nm
def fsC (f fo fm : Nat) (q st : Int) : HP := pt f (.cells [.pointer (some ⟨fo, 0, none⟩), .map (some fm), .int .i64 q, .bool false, .int .i64 st, .int .i64 (-1)].toArray 74 (0, 0))
def Fs0 (f : Nat) (q : Int) : HP := fun h => ∃ fo fm st, grp [pt f (.cells [.pointer (some ⟨fo, 0, none⟩), .map (some fm), .int .i64 q, .bool false, .int .i64 st, .int .i64 (-1)].toArray 74 (0, 0)), Fo0 fo, pt fm (.map ([] : List MapEntry).toArray 0)] h
def FsR (ph : Bool) (f : Nat) (nm : ByteArray) (q : Int) (m : FileM) : HP := fun h => ∃ fo fm st x, grp [pt f (.cells [.pointer (some ⟨fo, 0, none⟩), .map (some fm), .int .i64 q, .bool false, .int .i64 st, .int .i64 (-1)].toArray 74 (0, 0)), FoP ph fo nm,
  pt fm (.map [⟨.int .u64 1, .pointer (some ⟨x, 0, none⟩), 0⟩].toArray 1), FileR x m] h

section
variable {g w : World} {F : List HP} {f : Nat} {q : Int} {ph : Bool} {nm : ByteArray} {m : FileM} {fn : FuncId} {vs : List Value} {k : Value → World → Prop}
theorem RCs_fs0 (h : ∀ fo fm st, RCs Tryz.prog fn vs g (pt f (.cells [.pointer (some ⟨fo, 0, none⟩), .map (some fm), .int .i64 q, .bool false, .int .i64 st, .int .i64 (-1)].toArray 74 (0, 0)) :: Fo0 fo :: pt fm (.map ([] : List MapEntry).toArray 0) :: F) k) : RCs Tryz.prog fn vs g (Fs0 f q :: F) k := fun w hw => by
  obtain ⟨fo, hw⟩ := St.ex hw
  obtain ⟨fm, hw⟩ := St.ex hw
  obtain ⟨st, hw⟩ := St.ex hw
  exact h fo fm st w hw.ungrp
theorem fs0_mk {fo fm : Nat} {st : Int} (h : St g w (pt f (.cells [.pointer (some ⟨fo, 0, none⟩), .map (some fm), .int .i64 q, .bool false, .int .i64 st, .int .i64 (-1)].toArray 74 (0, 0)) :: Fo0 fo :: pt fm (.map ([] : List MapEntry).toArray 0) :: F)) : St g w (Fs0 f q :: F) :=
  (St.grp (A := [_, _, _]) h).imp fun _ hh => ⟨fo, fm, st, hh⟩
theorem RCs_fs (h : ∀ fo fm st x, RCs Tryz.prog fn vs g (pt f (.cells [.pointer (some ⟨fo, 0, none⟩), .map (some fm), .int .i64 q, .bool false, .int .i64 st, .int .i64 (-1)].toArray 74 (0, 0)) :: FoP ph fo nm :: pt fm (.map [⟨.int .u64 1, .pointer (some ⟨x, 0, none⟩), 0⟩].toArray 1) :: FileR x m :: F) k) : RCs Tryz.prog fn vs g (FsR ph f nm q m :: F) k := fun w hw => by
  obtain ⟨fo, hw⟩ := St.ex hw
  obtain ⟨fm, hw⟩ := St.ex hw
  obtain ⟨st, hw⟩ := St.ex hw
  obtain ⟨x, hw⟩ := St.ex hw
  exact h fo fm st x w hw.ungrp
theorem fs_mk {fo fm x : Nat} {st : Int} (h : St g w (pt f (.cells [.pointer (some ⟨fo, 0, none⟩), .map (some fm), .int .i64 q, .bool false, .int .i64 st, .int .i64 (-1)].toArray 74 (0, 0)) :: FoP ph fo nm :: pt fm (.map [⟨.int .u64 1, .pointer (some ⟨x, 0, none⟩), 0⟩].toArray 1) :: FileR x m :: F)) : St g w (FsR ph f nm q m :: F) :=
  (St.grp (A := [_, _, _, _]) h).imp fun _ hh => ⟨fo, fm, st, x, hh⟩
end

theorem find_p {g : World} {F : List HP} {ph : Bool} {fo : Nat} {nm : ByteArray} :
    RCs Tryz.prog 119 [.pointer (some ⟨fo, 0, none⟩), .string nm] g (FoP ph fo nm :: F) (fun u w => u = .tuple #[.int .u64 1, .bool true] ∧ St g w (FoP ph fo nm :: F)) := by
  cases ph
  · exact find1
  · exact find2
theorem live_p {g : World} {F : List HP} {ph : Bool} {fo : Nat} {nm : ByteArray} :
    RCs Tryz.prog 51 [.pointer (some ⟨fo, 0, none⟩)] g (FoP ph fo nm :: F) (SlQ g 36 1 1 [.int .u64 1] (FoP ph fo nm :: F)) := by
  cases ph
  · exact live1
  · exact live2
theorem list_p {g : World} {F : List HP} {ph : Bool} {fo : Nat} {nm : ByteArray} :
    RCs Tryz.prog 135 [.pointer (some ⟨fo, 0, none⟩)] g (FoP ph fo nm :: F) (SlQ g 195 2 1 [.string nm, .int .u64 1] (FoP ph fo nm :: F)) := by
  cases ph
  · refine RCs_fo1 fun sf nw da dc c1 c2 => ?_
    refine (RCs.perm (by (repeat (first | exact List.Perm.refl _ | (apply pick 0; exact rfl) | (apply pick 1; exact rfl)))) (folder_list (fo := fo) (nw := nw) (nm := nm))).mono ?_
    rintro v w ⟨va, vc, rfl, hS⟩
    refine ⟨va, vc, rfl, ?_⟩
    have h1 := fo1_mk (F := [own 195 2 (.slice va 1 vc) 1 [.string nm, .int .u64 1]] ++ F) (hS.sl (by (repeat (first | exact Sl.refl _ | (apply Sl.pick 1; exact rfl) | (apply Sl.pick 2; exact rfl)))))
    exact h1.perm (List.Perm.swap _ _ _)
  · refine RCs_fo2 fun sf nw => ?_
    refine (RCs.perm (by (repeat (first | exact List.Perm.refl _ | (apply pick 0; exact rfl) | (apply pick 1; exact rfl)))) (folder_list (fo := fo) (nw := nw) (nm := nm))).mono ?_
    rintro v w ⟨va, vc, rfl, hS⟩
    refine ⟨va, vc, rfl, ?_⟩
    have h1 := fo2_mk (F := [own 195 2 (.slice va 1 vc) 1 [.string nm, .int .u64 1]] ++ F) (hS.sl (by (repeat (first | exact Sl.refl _ | (apply Sl.pick 1; exact rfl) | (apply Sl.pick 2; exact rfl)))))
    exact h1.perm (List.Perm.swap _ _ _)

theorem fs_none {g : World} {F : List HP} {f fo : Nat} {b c d e h : Value} :
    RCs Tryz.prog 44 [.pointer (some ⟨f, 0, none⟩)] g (pt f (.cells [.pointer (some ⟨fo, 0, none⟩), b, c, d, e, h].toArray 74 (0, 0)) :: F)
      (fun u w => u = .bool false ∧ St g w (pt f (.cells [.pointer (some ⟨fo, 0, none⟩), b, c, d, e, h].toArray 74 (0, 0)) :: F)) := by
  refine RCs_of_WPs Tryz.func44 rfl Tryz.ntmps44 rfl Tryz.results44 ?_
  refine WPs_seq ?_
  refine WPs_regionK [0] ?_
  refine s_assign rfl rfl ?_
  refine SXs_nilK (fr' := [(0, _)]) rfl ?_
  refine KSs_wp ?_
  refine WPs_seq ?_
  refine WPs_regionK [2] ?_
  refine s_move rfl rfl ?_
  refine s_eqlV rfl rfl rfl (eq_ptr_nil_some Tryz.underlying25) ?_
  refine s_move rfl rfl ?_
  refine s_guard rfl rfl rfl (fun hc1 => ?_) (fun hc1 => ?_)
  · simp only [decide_eq_true_eq] at hc1
    refine s_move rfl rfl ?_
    refine s_guard_t2 rfl rfl (by ((rfl))) rfl ?_
    refine s_nilCheck rfl rfl ?_
    refine s_guard_t2 rfl rfl (by ((rfl))) rfl ?_
    refine s_fieldAddr fo_74_0 rfl rfl ?_
    refine s_guard_t2 rfl rfl (by ((rfl))) rfl ?_
    refine s_load1 Tryz.isAgg70 rfl rfl (by exact cin (i := 0) rfl rfl) ?_
    refine s_guard_t2 rfl rfl (by ((rfl))) rfl ?_
    refine s_eqlV rfl rfl rfl (eq_ptr_nil_some Tryz.underlying70) ?_
    refine s_pick_f rfl rfl rfl ?_
    refine s_assign rfl rfl ?_
    refine SXs_nilK (fr' := [(2, _)]) rfl ?_
    refine KSs_wp ?_
    refine WPs_ret ?_
    refine RLs_start ?_
    refine RLs_tmp rfl ?_
    refine RLs_fin1 ?_
    exact fun w hS => ⟨rfl, hS⟩
  · (exfalso; (cases hc1; done))
theorem fs_power {g : World} {F : List HP} {f fo : Nat} {b c e h : Value} :
    RCs Tryz.prog 71 [.pointer (some ⟨f, 0, none⟩)] g (pt f (.cells [.pointer (some ⟨fo, 0, none⟩), b, c, .bool false, e, h].toArray 74 (0, 0)) :: F)
      (fun u w => u = .int .i64 0 ∧ St g w (pt f (.cells [.pointer (some ⟨fo, 0, none⟩), b, c, .bool false, e, h].toArray 74 (0, 0)) :: F)) := by
  refine RCs_of_WPs Tryz.func71 rfl Tryz.ntmps71 rfl Tryz.results71 ?_
  refine WPs_seq ?_
  refine WPs_regionK [0] ?_
  refine s_assign rfl rfl ?_
  refine SXs_nilK (fr' := [(0, _)]) rfl ?_
  refine KSs_wp ?_
  refine WPs_seq ?_
  refine WPs_block ?_
  refine WPs_seq ?_
  refine WPs_regionK [0, 3] ?_
  refine s_move rfl rfl ?_
  refine s_call Tryz.call44 rfl (vs := [_]) rfl (RCs.perm (by (repeat ((exact List.Perm.refl _)))) (fs_none)) ?_
  rintro v w ⟨rfl, hS⟩
  refine SXs_go hS ?_
  clear hS; clear w
  simp only [putF]
  refine s_assign rfl rfl ?_
  refine SXs_nilK (fr' := [(0, _), (3, _)]) rfl ?_
  refine KSs_wp ?_
  refine WPs_cond rfl (fun hc1 => ?_) (fun hc1 => ?_)
  · (exfalso; (cases hc1; done))
  · simp only [decide_eq_true_eq] at hc1
    refine WPs_seq ?_
    refine WPs_regionK [6] ?_
    refine s_move rfl rfl ?_
    refine s_nilCheck rfl rfl ?_
    refine s_fieldAddr fo_74_3 rfl rfl ?_
    refine s_load1 Tryz.isAgg4 rfl rfl (by exact cin (i := 0) rfl rfl) ?_
    refine s_assign rfl rfl ?_
    refine SXs_nilK (fr' := [(6, _)]) rfl ?_
    refine KSs_wp ?_
    refine WPs_cond rfl (fun hc2 => ?_) (fun hc2 => ?_)
    · (exfalso; (cases hc2; done))
    · simp only [decide_eq_true_eq] at hc2
      refine WPs_skip ?_
      refine KSs_wp ?_
      refine WPs_seq ?_
      refine WPs_regionK [2] ?_
      refine s_assign rfl rfl ?_
      refine SXs_nilK (fr' := [(2, _)]) rfl ?_
      refine KSs_wp ?_
      refine WPs_ret ?_
      refine RLs_start ?_
      refine RLs_tmp rfl ?_
      refine RLs_fin1 ?_
      exact fun w hS => ⟨rfl, hS⟩

theorem fs_new {g : World} {F : List HP} {q : Int} (h0 : 0 ≤ q) (h1 : q ≤ 1073741824) :
    RCs Tryz.prog 6 [.int .i64 q] g F (fun u w => ∃ f, u = .tuple #[.pointer (some ⟨f, 0, none⟩), .int .i64 0] ∧ St g w (Fs0 f q :: F)) := by
  have hq : RCs Tryz.prog 24 [.int .i64 q] g F (fun u w => u = .bool true ∧ St g w F) := by
    refine RCs_of_WPs Tryz.func24 rfl Tryz.ntmps24 rfl Tryz.results24 ?_
    refine WPs_seq ?_
    refine WPs_regionK [0] ?_
    refine s_assign rfl rfl ?_
    refine SXs_nilK (fr' := [(0, _)]) rfl ?_
    refine KSs_wp ?_
    refine WPs_seq ?_
    refine WPs_regionK [2] ?_
    refine s_move rfl rfl ?_
    refine s_geq rfl rfl rfl ?_
    refine s_move rfl rfl ?_
    refine s_guard rfl rfl rfl (fun hc1 => ?_) (fun hc1 => ?_)
    · simp only [decide_eq_true_eq] at hc1
      refine s_move rfl rfl ?_
      refine s_guard_t2 rfl rfl (by ((simp; assumption))) rfl ?_
      refine s_leq rfl rfl rfl ?_
      refine s_pickB rfl rfl rfl rfl ?_
      refine s_assign rfl rfl ?_
      refine SXs_nilK (fr' := [(2, _)]) rfl ?_
      refine KSs_wp ?_
      refine WPs_ret ?_
      refine RLs_start ?_
      refine RLs_tmp rfl ?_
      refine RLs_fin1 ?_
      exact fun w hS => ⟨by simp; omega, hS⟩
    · (exfalso; (simp only [decide_eq_false_iff_not, Bool.not_true] at hc1; omega))
  refine RCs_of_WPs Tryz.func6 rfl Tryz.ntmps6 rfl Tryz.results6 ?_
  refine WPs_seq ?_
  refine WPs_regionK [0] ?_
  refine s_assign rfl rfl ?_
  refine s_assign rfl rfl ?_
  refine SXs_nilK (fr' := [(0, _)]) rfl ?_
  refine KSs_wp ?_
  refine WPs_seq ?_
  refine WPs_seq ?_
  refine WPs_regionK [0, 6] ?_
  refine s_move rfl rfl ?_
  refine s_call Tryz.call24 rfl (vs := [_]) rfl (RCs.perm (by (repeat ((exact List.Perm.refl _)))) (hq)) ?_
  rintro v w ⟨rfl, hS⟩
  refine SXs_go hS ?_
  clear hS; clear w
  simp only [putF]
  refine s_not rfl rfl ?_
  refine SXs_nilK (fr' := [(0, _), (6, _)]) rfl ?_
  refine KSs_wp ?_
  refine WPs_cond rfl (fun hc1 => ?_) (fun hc1 => ?_)
  · (exfalso; (cases hc1; done))
  · simp only [Bool.not_true] at hc1
    refine WPs_skip ?_
    refine KSs_wp ?_
    refine WPs_seq ?_
    refine WPs_regionK [2, 3] ?_
    refine s_call Tryz.call25 rfl (vs := []) rfl (RCs.perm (by (repeat ((exact List.Perm.refl _)))) (folder_new)) ?_
    rintro v w ⟨fo7, rfl, hS⟩
    refine SXs_go hS ?_
    clear hS; clear w
    simp only [putF]
    refine s_makeMap rfl (fun b8 => ?_)
    refine s_move rfl rfl ?_
    refine s_build (vs := [(0, _), (1, _), (2, _), (5, _)]) (cs := [_, _, _, _, _, _]) rfl rfl (build_74_0_1_2_5 rfl rfl rfl rfl) ?_
    refine s_box (cl := [_, _, _, _, _, _]) rfl rfl rfl (fun b11 => ?_)
    refine s_assign rfl rfl ?_
    refine s_assign rfl rfl ?_
    refine SXs_nilK (fr' := [(2, _), (3, _)]) rfl ?_
    refine KSs_wp ?_
    refine WPs_ret ?_
    refine RLs_start ?_
    refine RLs_tmp rfl ?_
    refine RLs_tmp rfl ?_
    refine RLs_fin2 ?_
    exact fun w hS => ⟨_, rfl, fs0_mk (hS.perm (by (repeat (first | exact List.Perm.refl _ | (apply pick 0; exact rfl) | (apply pick 1; exact rfl)))))⟩

theorem fs_find {g : World} {F : List HP} {f fo fm x : Nat} {c d e h : Value} {ph : Bool} {nm : ByteArray} (hm : MayOk nm) :
    RCs Tryz.prog 72 [.pointer (some ⟨f, 0, none⟩), .string nm] g
      (pt f (.cells [.pointer (some ⟨fo, 0, none⟩), .map (some fm), c, d, e, h].toArray 74 (0, 0)) :: FoP ph fo nm :: pt fm (.map [⟨.int .u64 1, .pointer (some ⟨x, 0, none⟩), 0⟩].toArray 1) :: F)
      (fun u w => u = .tuple #[.pointer (some ⟨x, 0, none⟩), .int .i64 0] ∧ St g w (pt f (.cells [.pointer (some ⟨fo, 0, none⟩), .map (some fm), c, d, e, h].toArray 74 (0, 0)) :: FoP ph fo nm :: pt fm (.map [⟨.int .u64 1, .pointer (some ⟨x, 0, none⟩), 0⟩].toArray 1) :: F)) := by
  refine RCs_of_WPs Tryz.func72 rfl Tryz.ntmps72 rfl Tryz.results72 ?_
  refine WPs_seq ?_
  refine WPs_regionK [0, 1] ?_
  refine s_assign rfl rfl ?_
  refine s_assign rfl rfl ?_
  refine SXs_nilK (fr' := [(0, _), (1, _)]) rfl ?_
  refine KSs_wp ?_
  refine WPs_seq ?_
  refine WPs_seq ?_
  refine WPs_regionK [0, 1, 10] ?_
  refine s_move rfl rfl ?_
  refine s_call Tryz.call118 rfl (vs := [_]) rfl (RCs.perm (by (repeat ((exact List.Perm.refl _)))) (hm _ _)) ?_
  rintro v w ⟨rfl, hS⟩
  refine SXs_go hS ?_
  clear hS; clear w
  simp only [putF]
  refine s_not rfl rfl ?_
  refine SXs_nilK (fr' := [(0, _), (1, _), (10, _)]) rfl ?_
  refine KSs_wp ?_
  refine WPs_cond rfl (fun hc1 => ?_) (fun hc1 => ?_)
  · (exfalso; (cases hc1; done))
  · simp only [Bool.not_true] at hc1
    refine WPs_skip ?_
    refine KSs_wp ?_
    refine WPs_seq ?_
    refine WPs_regionK [0, 6, 7] ?_
    refine s_move rfl rfl ?_
    refine s_nilCheck rfl rfl ?_
    refine s_fieldAddr fo_74_0 rfl rfl ?_
    refine s_load1 Tryz.isAgg70 rfl rfl (by exact cin (i := 0) rfl rfl) ?_
    refine s_move rfl rfl ?_
    refine s_call Tryz.call119 rfl (vs := [_, _]) rfl (RCs.perm (by (repeat (first | exact List.Perm.refl _ | (apply pick 1; exact rfl)))) (find_p)) ?_
    rintro v w ⟨rfl, hS⟩
    refine SXs_go hS ?_
    clear hS; clear w
    simp only [List.eraseIdx_cons_zero, List.eraseIdx_cons_succ, putF]
    refine s_move rfl rfl ?_
    refine s_extract rfl rfl rfl ?_
    refine s_extract rfl rfl rfl ?_
    refine s_assign rfl rfl ?_
    refine s_assign rfl rfl ?_
    refine SXs_nilK (fr' := [(0, _), (6, _), (7, _)]) rfl ?_
    refine KSs_wp ?_
    refine WPs_seq ?_
    refine WPs_seq ?_
    refine WPs_regionK [0, 6, 21] ?_
    refine s_move rfl rfl ?_
    refine s_not rfl rfl ?_
    refine SXs_nilK (fr' := [(0, _), (6, _), (21, _)]) rfl ?_
    refine KSs_wp ?_
    refine WPs_cond rfl (fun hc2 => ?_) (fun hc2 => ?_)
    · (exfalso; (cases hc2; done))
    · simp only [Bool.not_true] at hc2
      refine WPs_skip ?_
      refine KSs_wp ?_
      refine WPs_seq ?_
      refine WPs_regionK [4, 5] ?_
      refine s_move rfl rfl ?_
      refine s_nilCheck rfl rfl ?_
      refine s_fieldAddr fo_74_1 rfl rfl ?_
      refine s_load1 Tryz.isAgg72 rfl rfl (by exact cin (i := 1) rfl rfl) ?_
      refine s_move rfl rfl ?_
      refine s_lookT (q := 2) Tryz.underlying72 Tryz.underlying36 trivial rfl rfl rfl rfl (by ((rfl))) ?_
      refine s_assign rfl rfl ?_
      refine s_assign rfl rfl ?_
      refine SXs_nilK (fr' := [(4, _), (5, _)]) rfl ?_
      refine KSs_wp ?_
      refine WPs_ret ?_
      refine RLs_start ?_
      refine RLs_tmp rfl ?_
      refine RLs_tmp rfl ?_
      refine RLs_fin2 ?_
      exact fun w hS => ⟨rfl, hS.perm (by (repeat (first | exact List.Perm.refl _ | (apply pick 1; exact rfl))))⟩
theorem fs_open {g : World} {F : List HP} {f fo fm x : Nat} {c e h : Value} {ph : Bool} {nm : ByteArray} (hm : MayOk nm) :
    RCs Tryz.prog 30 [.pointer (some ⟨f, 0, none⟩), .string nm] g
      (pt f (.cells [.pointer (some ⟨fo, 0, none⟩), .map (some fm), c, .bool false, e, h].toArray 74 (0, 0)) :: FoP ph fo nm :: pt fm (.map [⟨.int .u64 1, .pointer (some ⟨x, 0, none⟩), 0⟩].toArray 1) :: F)
      (fun u w => u = .tuple #[.pointer (some ⟨x, 0, none⟩), .int .i64 0] ∧ St g w (pt f (.cells [.pointer (some ⟨fo, 0, none⟩), .map (some fm), c, .bool false, e, h].toArray 74 (0, 0)) :: FoP ph fo nm :: pt fm (.map [⟨.int .u64 1, .pointer (some ⟨x, 0, none⟩), 0⟩].toArray 1) :: F)) := by
  refine RCs_of_WPs Tryz.func30 rfl Tryz.ntmps30 rfl Tryz.results30 ?_
  refine WPs_seq ?_
  refine WPs_regionK [0, 1] ?_
  refine s_assign rfl rfl ?_
  refine s_assign rfl rfl ?_
  refine SXs_nilK (fr' := [(0, _), (1, _)]) rfl ?_
  refine KSs_wp ?_
  refine WPs_seq ?_
  refine WPs_seq ?_
  refine WPs_regionK [0, 1, 6] ?_
  refine s_move rfl rfl ?_
  refine s_call Tryz.call71 rfl (vs := [_]) rfl (RCs.perm (by (repeat ((exact List.Perm.refl _)))) (fs_power)) ?_
  rintro v w ⟨rfl, hS⟩
  refine SXs_go hS ?_
  clear hS; clear w
  simp only [putF]
  refine s_assign rfl rfl ?_
  refine SXs_nilK (fr' := [(0, _), (1, _), (6, _)]) rfl ?_
  refine KSs_wp ?_
  refine WPs_seq ?_
  refine WPs_regionK [0, 1, 6, 10] ?_
  refine s_move rfl rfl ?_
  refine s_neq rfl rfl rfl ?_
  refine SXs_nilK (fr' := [(0, _), (1, _), (6, _), (10, _)]) rfl ?_
  refine KSs_wp ?_
  refine WPs_cond rfl (fun hc1 => ?_) (fun hc1 => ?_)
  · (exfalso; (cases hc1; done))
  · simp only [decide_eq_true_eq, Bool.not_eq_false'] at hc1
    refine WPs_skip ?_
    refine KSs_wp ?_
    refine WPs_seq ?_
    refine WPs_regionK [4, 5] ?_
    refine s_move rfl rfl ?_
    refine s_move rfl rfl ?_
    refine s_call Tryz.call72 rfl (vs := [_, _]) rfl (RCs.perm (by (repeat ((exact List.Perm.refl _)))) (fs_find (ph := ph) (x := x) hm)) ?_
    rintro v w ⟨rfl, hS⟩
    refine SXs_go hS ?_
    clear hS; clear w
    simp only [putF]
    refine s_extract rfl rfl rfl ?_
    refine s_extract rfl rfl rfl ?_
    refine s_assign rfl rfl ?_
    refine s_assign rfl rfl ?_
    refine SXs_nilK (fr' := [(4, _), (5, _)]) rfl ?_
    refine KSs_wp ?_
    refine WPs_ret ?_
    refine RLs_start ?_
    refine RLs_tmp rfl ?_
    refine RLs_tmp rfl ?_
    refine RLs_fin2 ?_
    exact fun w hS => ⟨rfl, hS⟩
theorem fs_clean {g : World} {F : List HP} {f : Nat} {q : Int} {ph : Bool} {nm : ByteArray} {m : FileM} :
    RCs Tryz.prog 50 [.pointer (some ⟨f, 0, none⟩)] g (FsR ph f nm q m :: F) (fun u w => u = .tuple #[] ∧ St g w (FsR ph f nm q m :: F)) := by
  refine RCs_fs fun fo fm st x => ?_
  refine RCs_of_WPs Tryz.func50 rfl Tryz.ntmps50 rfl Tryz.results50 ?_
  refine WPs_seq ?_
  refine WPs_regionK [0, 2] ?_
  refine s_move rfl rfl ?_
  refine s_nilCheck rfl rfl ?_
  refine s_fieldAddr fo_74_0 rfl rfl ?_
  refine s_load1 Tryz.isAgg70 rfl rfl (by exact cin (i := 0) rfl rfl) ?_
  refine s_call Tryz.call51 rfl (vs := [_]) rfl (RCs.perm (by (repeat (first | exact List.Perm.refl _ | (apply pick 1; exact rfl)))) (live_p)) ?_
  rintro v w ⟨va8, vc8, rfl, hS⟩
  refine SXs_go hS ?_
  clear hS; clear w
  simp only [List.eraseIdx_cons_zero, List.eraseIdx_cons_succ, putF]
  refine s_assign rfl rfl ?_
  refine SXs_nilK (fr' := [(0, _), (2, _)]) rfl ?_
  refine KSs_wp ?_
  refine WPs_seq ?_
  refine WPs_regionK [0, 2, 13] ?_
  refine SXs_rd 0 rfl fun hR8 => ?_
  refine s_move rfl rfl ?_
  refine s_nilCheck rfl rfl ?_
  refine s_fieldAddr fo_74_1 rfl rfl ?_
  refine s_load1 Tryz.isAgg72 rfl rfl (by exact cin (i := 2) rfl rfl) ?_
  refine s_range (q := 3) Tryz.underlying72 rfl rfl rfl (fun b13 => ?_)
  refine SXs_nilK (fr' := [(0, _), (2, _), (13, _)]) rfl ?_
  refine KSs_wp ?_
  refine WPs_block ?_
  refine WPs_unroll 1 ?_
  refine WPs_seq ?_
  refine WPs_regionK [0, 2, 13, 15] ?_
  refine s_next1 (i := 0) (q := 4) rfl rfl rfl rfl ?_
  refine s_extract rfl rfl rfl ?_
  refine SXs_nilK (fr' := [(0, _), (2, _), (13, _), (15, _)]) rfl ?_
  refine KSs_wp ?_
  refine WPs_seq ?_
  refine WPs_cond rfl (fun hc1 => ?_) (fun hc1 => ?_)
  · simp only [decide_eq_true_eq] at hc1
    refine WPs_skip ?_
    refine KSs_wp ?_
    refine WPs_block ?_
    refine WPs_seq ?_
    refine WPs_regionK [0, 2, 3, 13] ?_
    refine s_entry1 (i := 0) (q := 4) rfl rfl rfl rfl ?_
    refine s_extract rfl rfl rfl ?_
    refine s_assign rfl rfl ?_
    refine SXs_nilK (fr' := [(0, _), (2, _), (3, _), (13, _)]) rfl ?_
    refine KSs_wp ?_
    refine WPs_seq ?_
    refine WPs_regionK [0, 2, 3, 13, 21] ?_
    refine SXs_rd (T := 36) 1 rfl fun hR8' => ?_
    refine s_move rfl rfl ?_
    refine s_move rfl rfl ?_
    refine s_call Tryz.call98 rfl (vs := [_, _]) rfl (RCs.perm (by (repeat ((exact List.Perm.refl _)))) (contains_spec (x := 1) hR8')) ?_
    rintro v w ⟨rfl, hS⟩
    refine SXs_go hS ?_
    clear hS; clear w
    simp only [List.set_cons_zero, putF]
    refine s_not rfl rfl ?_
    refine SXs_nilK (fr' := [(0, _), (2, _), (3, _), (13, _), (21, _)]) rfl ?_
    refine KSs_wp ?_
    refine WPs_cond rfl (fun hc2 => ?_) (fun hc2 => ?_)
    · (exfalso; (cases hc2; done))
    · simp only [Bool.not_true] at hc2
      refine WPs_skip ?_
      refine KSs_unroll (N := 0) ?_
      refine WPs_seq ?_
      refine WPs_regionK [0, 2, 13, 15] ?_
      refine s_next2 (i := 0) (q := 4) rfl rfl rfl rfl ?_
      refine s_extract rfl rfl rfl ?_
      refine SXs_nilK (fr' := [(0, _), (2, _), (13, _), (15, _)]) rfl ?_
      refine KSs_wp ?_
      refine WPs_seq ?_
      refine WPs_cond rfl (fun hc5 => ?_) (fun hc5 => ?_)
      · (exfalso; (cases hc5; done))
      · simp only [decide_eq_true_eq] at hc5
        refine WPs_exit rfl ?_
        refine RLs_start ?_
        refine RLs_fin0 ?_
        exact fun w hS => ⟨rfl, fs_mk (hS.sl (by (repeat (first | exact Sl.refl _ | (apply Sl.pick 2; exact rfl) | (apply Sl.pick 3; exact rfl) | refine Sl.skip ?_))))⟩
  · (exfalso; (cases hc1; done))
end Go.Proofs.YthodbnmeggkkoaaGreatDoor
/-
  Package fs with one file at the most: its steps, what it tells.
-/
namespace Go.Proofs.YthodbnmeggkkoaaGreatDoor
open Go Go.RowKit Go.Hb Go.Proofs

theorem fs_step {g : World} {F F' : List HP} {f : Nat} {q : Int} {ph ph' : Bool} {nm : ByteArray} {m m' : FileM} {k : FuncId} {cs : List Value} {e : Int} (hk : Enters Tryz.prog k)
    (hdo : RCs Tryz.prog k cs g (FsR ph f nm q m :: F) (fun u w => u = .int .i64 e ∧ St g w (FsR ph' f nm q m' :: F'))) :
    RCs Tryz.prog 104 [.pointer (some ⟨f, 0, none⟩), .func (.func k) #[] cs.toArray] g (FsR ph f nm q m :: F) (fun u w => u = .int .i64 e ∧ St g w (FsR ph' f nm q m' :: F')) := by
  refine RCs_fs fun fo fm st x => ?_
  refine RCs_of_WPs Tryz.func104 rfl Tryz.ntmps104 rfl Tryz.results104 ?_
  refine WPs_seq ?_
  refine WPs_regionK [0, 1] ?_
  refine s_assign rfl rfl ?_
  refine SXs_nilK (fr' := [(0, _), (1, _)]) rfl ?_
  refine KSs_wp ?_
  refine WPs_seq ?_
  refine WPs_seq ?_
  refine WPs_regionK [0, 1, 5] ?_
  refine s_move rfl rfl ?_
  refine s_call Tryz.call71 rfl (vs := [_]) rfl (RCs.perm (by (repeat ((exact List.Perm.refl _)))) (fs_power)) ?_
  rintro v w ⟨rfl, hS⟩
  refine SXs_go hS ?_
  clear hS; clear w
  simp only [putF]
  refine s_assign rfl rfl ?_
  refine SXs_nilK (fr' := [(0, _), (1, _), (5, _)]) rfl ?_
  refine KSs_wp ?_
  refine WPs_seq ?_
  refine WPs_regionK [0, 1, 5, 10] ?_
  refine s_move rfl rfl ?_
  refine s_neq rfl rfl rfl ?_
  refine SXs_nilK (fr' := [(0, _), (1, _), (5, _), (10, _)]) rfl ?_
  refine KSs_wp ?_
  refine WPs_cond rfl (fun hc1 => ?_) (fun hc1 => ?_)
  · (exfalso; (cases hc1; done))
  · simp only [decide_eq_true_eq, Bool.not_eq_false'] at hc1
    refine WPs_skip ?_
    refine KSs_wp ?_
    refine WPs_seq ?_
    refine WPs_regionK [0, 1] ?_
    refine s_move rfl rfl ?_
    refine s_nilCheck rfl rfl ?_
    refine s_fieldAddr fo_74_4 rfl rfl ?_
    refine s_load1 Tryz.isAgg3 rfl rfl (by exact cin (i := 0) rfl rfl) ?_
    refine s_add rfl rfl rfl ?_
    refine s_nilCheck rfl rfl ?_
    refine s_fieldAddr fo_74_4 rfl rfl ?_
    refine s_store (i := 0) Tryz.sizeOf3 rfl rfl rfl (vs := [_]) rfl rfl rfl rfl ?_
    simp only [List.set_cons_zero, List.set_cons_succ, spl]
    refine SXs_nilK (fr' := [(0, _), (1, _)]) rfl ?_
    refine KSs_wp ?_
    refine WPs_seq ?_
    refine WPs_seq ?_
    refine WPs_regionK [0, 1, 23] ?_
    refine s_move rfl rfl ?_
    refine s_nilCheck rfl rfl ?_
    refine s_fieldAddr fo_74_5 rfl rfl ?_
    refine s_load1 Tryz.isAgg3 rfl rfl (by exact cin (i := 0) rfl rfl) ?_
    refine s_eql rfl rfl rfl ?_
    refine SXs_nilK (fr' := [(0, _), (1, _), (23, _)]) rfl ?_
    refine KSs_wp ?_
    refine WPs_cond rfl (fun hc2 => ?_) (fun hc2 => ?_)
    · (exfalso; (cases hc2; done))
    · simp only [decide_eq_false_iff_not] at hc2
      refine WPs_skip ?_
      refine KSs_wp ?_
      refine WPs_seq ?_
      refine WPs_regionK [0, 1] ?_
      refine s_move rfl rfl ?_
      refine s_move rfl rfl ?_
      refine s_nilCheck rfl rfl ?_
      refine s_fieldAddr fo_74_5 rfl rfl ?_
      refine s_load1 Tryz.isAgg3 rfl rfl (by exact cin (i := 0) rfl rfl) ?_
      refine s_sub_ok rfl rfl rfl (inR_i64 (by omega) (by omega)) ?_
      refine s_max rfl rfl rfl ?_
      refine s_nilCheck rfl rfl ?_
      refine s_fieldAddr fo_74_5 rfl rfl ?_
      refine s_store (i := 0) Tryz.sizeOf3 rfl rfl rfl (vs := [_]) rfl rfl rfl rfl ?_
      simp only [List.set_cons_zero, List.set_cons_succ, spl]
      refine SXs_nilK (fr' := [(0, _), (1, _)]) rfl ?_
      refine KSs_wp ?_
      refine WPs_seq ?_
      refine WPs_regionK [0, 6] ?_
      refine SXs_st (fun w hS => fs_mk (F := F) (hS.sl (by (repeat ((exact Sl.refl _)))))) ?_
      refine s_move rfl rfl ?_
      refine s_callV (fs := []) (vs := []) (cs := cs) hk rfl rfl rfl (by simp) hdo ?_
      rintro v w ⟨rfl, hS⟩
      refine SXs_go hS ?_
      clear hS; clear w
      simp only [putF]
      refine s_assign rfl rfl ?_
      refine SXs_nilK (fr' := [(0, _), (6, _)]) rfl ?_
      refine KSs_wp ?_
      refine WPs_seq ?_
      refine WPs_regionK [6] ?_
      refine s_move rfl rfl ?_
      refine s_call Tryz.call50 rfl (vs := [_]) rfl (RCs.perm (by (repeat ((exact List.Perm.refl _)))) (fs_clean)) ?_
      rintro v w ⟨rfl, hS⟩
      refine SXs_go hS ?_
      clear hS; clear w
      simp only [putF]
      refine SXs_nilK (fr' := [(6, _)]) rfl ?_
      refine KSs_wp ?_
      refine WPs_seq ?_
      refine WPs_regionK [4] ?_
      refine s_move rfl rfl ?_
      refine s_assign rfl rfl ?_
      refine SXs_nilK (fr' := [(4, _)]) rfl ?_
      refine KSs_wp ?_
      refine WPs_ret ?_
      refine RLs_start ?_
      refine RLs_tmp rfl ?_
      refine RLs_fin1 ?_
      exact fun w hS => ⟨rfl, hS⟩
theorem fs_step0 {g : World} {F F' : List HP} {f : Nat} {q : Int} {ph' : Bool} {nm : ByteArray} {m' : FileM} {k : FuncId} {cs : List Value} {e : Int} (hk : Enters Tryz.prog k)
    (hdo : RCs Tryz.prog k cs g (Fs0 f q :: F) (fun u w => u = .int .i64 e ∧ St g w (FsR ph' f nm q m' :: F'))) :
    RCs Tryz.prog 104 [.pointer (some ⟨f, 0, none⟩), .func (.func k) #[] cs.toArray] g (Fs0 f q :: F) (fun u w => u = .int .i64 e ∧ St g w (FsR ph' f nm q m' :: F')) := by
  refine RCs_fs0 fun fo fm st => ?_
  refine RCs_of_WPs Tryz.func104 rfl Tryz.ntmps104 rfl Tryz.results104 ?_
  refine WPs_seq ?_
  refine WPs_regionK [0, 1] ?_
  refine s_assign rfl rfl ?_
  refine SXs_nilK (fr' := [(0, _), (1, _)]) rfl ?_
  refine KSs_wp ?_
  refine WPs_seq ?_
  refine WPs_seq ?_
  refine WPs_regionK [0, 1, 5] ?_
  refine s_move rfl rfl ?_
  refine s_call Tryz.call71 rfl (vs := [_]) rfl (RCs.perm (by (repeat ((exact List.Perm.refl _)))) (fs_power)) ?_
  rintro v w ⟨rfl, hS⟩
  refine SXs_go hS ?_
  clear hS; clear w
  simp only [putF]
  refine s_assign rfl rfl ?_
  refine SXs_nilK (fr' := [(0, _), (1, _), (5, _)]) rfl ?_
  refine KSs_wp ?_
  refine WPs_seq ?_
  refine WPs_regionK [0, 1, 5, 10] ?_
  refine s_move rfl rfl ?_
  refine s_neq rfl rfl rfl ?_
  refine SXs_nilK (fr' := [(0, _), (1, _), (5, _), (10, _)]) rfl ?_
  refine KSs_wp ?_
  refine WPs_cond rfl (fun hc1 => ?_) (fun hc1 => ?_)
  · (exfalso; (cases hc1; done))
  · simp only [decide_eq_true_eq, Bool.not_eq_false'] at hc1
    refine WPs_skip ?_
    refine KSs_wp ?_
    refine WPs_seq ?_
    refine WPs_regionK [0, 1] ?_
    refine s_move rfl rfl ?_
    refine s_nilCheck rfl rfl ?_
    refine s_fieldAddr fo_74_4 rfl rfl ?_
    refine s_load1 Tryz.isAgg3 rfl rfl (by exact cin (i := 0) rfl rfl) ?_
    refine s_add rfl rfl rfl ?_
    refine s_nilCheck rfl rfl ?_
    refine s_fieldAddr fo_74_4 rfl rfl ?_
    refine s_store (i := 0) Tryz.sizeOf3 rfl rfl rfl (vs := [_]) rfl rfl rfl rfl ?_
    simp only [List.set_cons_zero, List.set_cons_succ, spl]
    refine SXs_nilK (fr' := [(0, _), (1, _)]) rfl ?_
    refine KSs_wp ?_
    refine WPs_seq ?_
    refine WPs_seq ?_
    refine WPs_regionK [0, 1, 23] ?_
    refine s_move rfl rfl ?_
    refine s_nilCheck rfl rfl ?_
    refine s_fieldAddr fo_74_5 rfl rfl ?_
    refine s_load1 Tryz.isAgg3 rfl rfl (by exact cin (i := 0) rfl rfl) ?_
    refine s_eql rfl rfl rfl ?_
    refine SXs_nilK (fr' := [(0, _), (1, _), (23, _)]) rfl ?_
    refine KSs_wp ?_
    refine WPs_cond rfl (fun hc2 => ?_) (fun hc2 => ?_)
    · (exfalso; (cases hc2; done))
    · simp only [decide_eq_false_iff_not] at hc2
      refine WPs_skip ?_
      refine KSs_wp ?_
      refine WPs_seq ?_
      refine WPs_regionK [0, 1] ?_
      refine s_move rfl rfl ?_
      refine s_move rfl rfl ?_
      refine s_nilCheck rfl rfl ?_
      refine s_fieldAddr fo_74_5 rfl rfl ?_
      refine s_load1 Tryz.isAgg3 rfl rfl (by exact cin (i := 0) rfl rfl) ?_
      refine s_sub_ok rfl rfl rfl (inR_i64 (by omega) (by omega)) ?_
      refine s_max rfl rfl rfl ?_
      refine s_nilCheck rfl rfl ?_
      refine s_fieldAddr fo_74_5 rfl rfl ?_
      refine s_store (i := 0) Tryz.sizeOf3 rfl rfl rfl (vs := [_]) rfl rfl rfl rfl ?_
      simp only [List.set_cons_zero, List.set_cons_succ, spl]
      refine SXs_nilK (fr' := [(0, _), (1, _)]) rfl ?_
      refine KSs_wp ?_
      refine WPs_seq ?_
      refine WPs_regionK [0, 6] ?_
      refine SXs_st (fun w hS => fs0_mk (F := F) (hS.sl (by (repeat ((exact Sl.refl _)))))) ?_
      refine s_move rfl rfl ?_
      refine s_callV (fs := []) (vs := []) (cs := cs) hk rfl rfl rfl (by simp) hdo ?_
      rintro v w ⟨rfl, hS⟩
      refine SXs_go hS ?_
      clear hS; clear w
      simp only [putF]
      refine s_assign rfl rfl ?_
      refine SXs_nilK (fr' := [(0, _), (6, _)]) rfl ?_
      refine KSs_wp ?_
      refine WPs_seq ?_
      refine WPs_regionK [6] ?_
      refine s_move rfl rfl ?_
      refine s_call Tryz.call50 rfl (vs := [_]) rfl (RCs.perm (by (repeat ((exact List.Perm.refl _)))) (fs_clean)) ?_
      rintro v w ⟨rfl, hS⟩
      refine SXs_go hS ?_
      clear hS; clear w
      simp only [putF]
      refine SXs_nilK (fr' := [(6, _)]) rfl ?_
      refine KSs_wp ?_
      refine WPs_seq ?_
      refine WPs_regionK [4] ?_
      refine s_move rfl rfl ?_
      refine s_assign rfl rfl ?_
      refine SXs_nilK (fr' := [(4, _)]) rfl ?_
      refine KSs_wp ?_
      refine WPs_ret ?_
      refine RLs_start ?_
      refine RLs_tmp rfl ?_
      refine RLs_fin1 ?_
      exact fun w hS => ⟨rfl, hS⟩

/-- A step with the file of the name. -/
theorem fs_with {g : World} {F F' : List HP} {f : Nat} {q : Int} {ph : Bool} {nm : ByteArray} {m m' : FileM} {k : FuncId} {cs : List Value} {e : Int} (hm : MayOk nm) (hk : Enters Tryz.prog k)
    (hdo : ∀ fo fm st x, RCs Tryz.prog k (.pointer (some ⟨x, 0, none⟩) :: cs) g (pt f (.cells [.pointer (some ⟨fo, 0, none⟩), .map (some fm), .int .i64 q, .bool false, .int .i64 st, .int .i64 (-1)].toArray 74 (0, 0)) :: FoP ph fo nm :: pt fm (.map [⟨.int .u64 1, .pointer (some ⟨x, 0, none⟩), 0⟩].toArray 1) :: FileR x m :: F)
      (fun u w => u = .int .i64 e ∧ St g w (FsR ph f nm q m' :: F'))) :
    RCs Tryz.prog 54 [.pointer (some ⟨f, 0, none⟩), .string nm, .func (.func k) #[] cs.toArray] g (FsR ph f nm q m :: F) (fun u w => u = .int .i64 e ∧ St g w (FsR ph f nm q m' :: F')) := by
  have hc : ∀ a b c, RCs Tryz.prog 105 [.pointer (some ⟨a, 0, none⟩), .pointer (some ⟨b, 0, none⟩), .pointer (some ⟨c, 0, none⟩)] g
      (FsR ph f nm q m :: pt a (.cells [.pointer (some ⟨f, 0, none⟩)].toArray 25 (0, 0)) :: pt b (.cells [.string nm].toArray 9 (0, 0)) :: pt c (.cells [.func (.func k) #[] cs.toArray].toArray 108 (0, 0)) :: F)
      (fun u w => u = .int .i64 e ∧ St g w (FsR ph f nm q m' :: F')) := fun a b c => by
    refine RCs_fs fun fo fm st x => ?_
    refine RCs_of_WPs Tryz.func105 rfl Tryz.ntmps105 rfl Tryz.results105 ?_
    refine WPs_seq ?_
    refine WPs_regionK [0, 1, 2] ?_
    refine s_assign rfl rfl ?_
    refine SXs_nilK (fr' := [(0, _), (1, _), (2, _)]) rfl ?_
    refine KSs_wp ?_
    refine WPs_seq ?_
    refine WPs_regionK [2, 4, 5] ?_
    refine s_load1 Tryz.isAgg25 rfl rfl (by exact cin (i := 4) rfl rfl) ?_
    refine s_load1 Tryz.isAgg9 rfl rfl (by exact cin (i := 5) rfl rfl) ?_
    refine s_call Tryz.call72 rfl (vs := [_, _]) rfl (RCs.perm (by (repeat ((exact List.Perm.refl _)))) (fs_find (ph := ph) (x := x) hm)) ?_
    rintro v w ⟨rfl, hS⟩
    refine SXs_go hS ?_
    clear hS; clear w
    simp only [putF]
    refine s_move rfl rfl ?_
    refine s_extract rfl rfl rfl ?_
    refine s_extract rfl rfl rfl ?_
    refine s_assign rfl rfl ?_
    refine s_assign rfl rfl ?_
    refine SXs_nilK (fr' := [(2, _), (4, _), (5, _)]) rfl ?_
    refine KSs_wp ?_
    refine WPs_seq ?_
    refine WPs_seq ?_
    refine WPs_regionK [2, 4, 5, 13] ?_
    refine s_move rfl rfl ?_
    refine s_neq rfl rfl rfl ?_
    refine SXs_nilK (fr' := [(2, _), (4, _), (5, _), (13, _)]) rfl ?_
    refine KSs_wp ?_
    refine WPs_cond rfl (fun hc1 => ?_) (fun hc1 => ?_)
    · (exfalso; (cases hc1; done))
    · simp only [decide_eq_true_eq, Bool.not_eq_false'] at hc1
      refine WPs_skip ?_
      refine KSs_wp ?_
      refine WPs_seq ?_
      refine WPs_regionK [3] ?_
      refine s_load1 Tryz.isAgg108 rfl rfl (by exact cin (i := 6) rfl rfl) ?_
      refine s_move rfl rfl ?_
      refine SXs_st (fun w hS => hS.sl (A := pt f (.cells [.pointer (some ⟨fo, 0, none⟩), .map (some fm), .int .i64 q, .bool false, .int .i64 st, .int .i64 (-1)].toArray 74 (0, 0)) :: FoP ph fo nm :: pt fm (.map [⟨.int .u64 1, .pointer (some ⟨x, 0, none⟩), 0⟩].toArray 1) :: FileR x m :: F) (by (repeat (first | exact Sl.refl _ | (apply Sl.pick 0; exact rfl) | refine Sl.skip ?_)))) ?_
      refine s_callV (fs := []) (vs := [_]) (cs := cs) hk rfl rfl rfl (by simp) (hdo fo fm st x) ?_
      rintro v w ⟨rfl, hS⟩
      refine SXs_go hS ?_
      clear hS; clear w
      simp only [putF]
      refine s_assign rfl rfl ?_
      refine SXs_nilK (fr' := [(3, _)]) rfl ?_
      refine KSs_wp ?_
      refine WPs_ret ?_
      refine RLs_start ?_
      refine RLs_tmp rfl ?_
      refine RLs_fin1 ?_
      exact fun w hS => ⟨rfl, hS⟩
  refine RCs_of_WPs Tryz.func54 rfl Tryz.ntmps54 rfl Tryz.results54 ?_
  refine WPs_seq ?_
  refine WPs_regionK [3, 4, 5] ?_
  refine s_box (cl := [_]) rfl rfl rfl (fun b3 => ?_)
  refine s_box (cl := [_]) rfl rfl rfl (fun b4 => ?_)
  refine s_box (cl := [_]) rfl rfl rfl (fun b5 => ?_)
  refine s_assign rfl rfl ?_
  refine SXs_nilK (fr' := [(3, _), (4, _), (5, _)]) rfl ?_
  refine KSs_wp ?_
  refine WPs_seq ?_
  refine WPs_regionK [6] ?_
  refine s_load1 Tryz.isAgg25 rfl rfl (by exact cin (i := 2) rfl rfl) ?_
  refine s_makeFunc (fs := []) (cs := [_, _, _]) rfl rfl rfl ?_
  refine s_call Tryz.call104 rfl (vs := [_, _]) rfl (RCs.perm (by (repeat (first | exact List.Perm.refl _ | (apply pick 1; exact rfl) | (apply pick 2; exact rfl) | (apply pick 3; exact rfl)))) (fs_step (k := 105) (cs := [_, _, _]) Tryz.call105 (hc _ _ _))) ?_
  rintro v w ⟨rfl, hS⟩
  refine SXs_go hS ?_
  clear hS; clear w
  simp only [putF]
  refine s_assign rfl rfl ?_
  refine SXs_nilK (fr' := [(6, _)]) rfl ?_
  refine KSs_wp ?_
  refine WPs_ret ?_
  refine RLs_start ?_
  refine RLs_tmp rfl ?_
  refine RLs_fin1 ?_
  exact fun w hS => ⟨rfl, hS⟩

theorem fs_sync {g : World} {F : List HP} {f : Nat} {q : Int} {ph : Bool} {nm : ByteArray} {m : FileM} (hm : MayOk nm) (hsz : m.now.length ≤ 70368744177664) :
    RCs Tryz.prog 29 [.pointer (some ⟨f, 0, none⟩), .string nm] g (FsR ph f nm q m :: F) (fun u w => u = .int .i64 0 ∧ St g w (FsR ph f nm q ⟨m.now, m.now, []⟩ :: F)) := by
  refine RCs_of_WPs Tryz.func29 rfl Tryz.ntmps29 rfl Tryz.results29 ?_
  refine WPs_seq ?_
  refine WPs_regionK [0, 1] ?_
  refine s_assign rfl rfl ?_
  refine SXs_nilK (fr' := [(0, _), (1, _)]) rfl ?_
  refine KSs_wp ?_
  refine WPs_seq ?_
  refine WPs_regionK [4] ?_
  refine s_move rfl rfl ?_
  refine s_move rfl rfl ?_
  refine s_call Tryz.call54 rfl (vs := [_, _, _]) rfl (RCs.perm (by (repeat ((exact List.Perm.refl _)))) (fs_with (k := 70) (cs := []) (m := m) (m' := ⟨m.now, m.now, []⟩) hm Tryz.call70 (fun fo fm st x => (RCs.perm (by (repeat (first | exact List.Perm.refl _ | (apply pick 3; exact rfl)))) (file_sync (p := x) (m := m) hsz)).mono (by
    rintro v w ⟨h1, h2⟩
    exact ⟨h1, fs_mk (h2.sl (by (repeat (first | exact Sl.refl _ | (apply Sl.pick 1; exact rfl)))))⟩)))) ?_
  rintro v w ⟨rfl, hS⟩
  refine SXs_go hS ?_
  clear hS; clear w
  simp only [putF]
  refine s_assign rfl rfl ?_
  refine SXs_nilK (fr' := [(4, _)]) rfl ?_
  refine KSs_wp ?_
  refine WPs_ret ?_
  refine RLs_start ?_
  refine RLs_tmp rfl ?_
  refine RLs_fin1 ?_
  exact fun w hS => ⟨rfl, hS⟩

theorem fs_syncdir {g : World} {F : List HP} {f : Nat} {q : Int} {nm : ByteArray} {m : FileM} :
    RCs Tryz.prog 68 [.pointer (some ⟨f, 0, none⟩)] g (FsR false f nm q m :: F) (fun u w => u = .int .i64 0 ∧ St g w (FsR true f nm q m :: F)) := by
  have hc : ∀ a, RCs Tryz.prog 115 [.pointer (some ⟨a, 0, none⟩)] g (FsR false f nm q m :: pt a (.cells [.pointer (some ⟨f, 0, none⟩)].toArray 25 (0, 0)) :: F) (fun u w => u = .int .i64 0 ∧ St g w (FsR true f nm q m :: F)) := fun a => by
    refine RCs_fs fun fo fm st x => ?_
    refine RCs_of_WPs Tryz.func115 rfl Tryz.ntmps115 rfl Tryz.results115 ?_
    refine WPs_seq ?_
    refine WPs_regionK [0] ?_
    refine s_assign rfl rfl ?_
    refine SXs_nilK (fr' := [(0, _)]) rfl ?_
    refine KSs_wp ?_
    refine WPs_seq ?_
    refine WPs_regionK [1] ?_
    refine s_load1 Tryz.isAgg25 rfl rfl (by exact cin (i := 4) rfl rfl) ?_
    refine s_nilCheck rfl rfl ?_
    refine s_fieldAddr fo_74_0 rfl rfl ?_
    refine s_load1 Tryz.isAgg70 rfl rfl (by exact cin (i := 0) rfl rfl) ?_
    refine s_call Tryz.call97 rfl (vs := [_]) rfl (RCs.perm (by (repeat (first | exact List.Perm.refl _ | (apply pick 1; exact rfl)))) (folder_sync (nm := nm))) ?_
    rintro v w ⟨rfl, hS⟩
    refine SXs_go hS ?_
    clear hS; clear w
    simp only [List.eraseIdx_cons_zero, List.eraseIdx_cons_succ, putF]
    refine s_assign rfl rfl ?_
    refine SXs_nilK (fr' := [(1, _)]) rfl ?_
    refine KSs_wp ?_
    refine WPs_ret ?_
    refine RLs_start ?_
    refine RLs_tmp rfl ?_
    refine RLs_fin1 ?_
    exact fun w hS => ⟨rfl, fs_mk (ph := true) (hS.sl (by (repeat (first | exact Sl.refl _ | (apply Sl.pick 0; exact rfl) | (apply Sl.pick 1; exact rfl) | refine Sl.skip ?_))))⟩
  refine RCs_of_WPs Tryz.func68 rfl Tryz.ntmps68 rfl Tryz.results68 ?_
  refine WPs_seq ?_
  refine WPs_regionK [1] ?_
  refine s_box (cl := [_]) rfl rfl rfl (fun b1 => ?_)
  refine s_assign rfl rfl ?_
  refine SXs_nilK (fr' := [(1, _)]) rfl ?_
  refine KSs_wp ?_
  refine WPs_seq ?_
  refine WPs_regionK [2] ?_
  refine s_load1 Tryz.isAgg25 rfl rfl (by exact cin (i := 0) rfl rfl) ?_
  refine s_makeFunc (fs := []) (cs := [_]) rfl rfl rfl ?_
  refine s_call Tryz.call104 rfl (vs := [_, _]) rfl (RCs.perm (by (repeat (first | exact List.Perm.refl _ | (apply pick 1; exact rfl)))) (fs_step (k := 115) (cs := [_]) Tryz.call115 (hc _))) ?_
  rintro v w ⟨rfl, hS⟩
  refine SXs_go hS ?_
  clear hS; clear w
  simp only [putF]
  refine s_assign rfl rfl ?_
  refine SXs_nilK (fr' := [(2, _)]) rfl ?_
  refine KSs_wp ?_
  refine WPs_ret ?_
  refine RLs_start ?_
  refine RLs_tmp rfl ?_
  refine RLs_fin1 ?_
  exact fun w hS => ⟨rfl, hS⟩
end Go.Proofs.YthodbnmeggkkoaaGreatDoor
/-
  Package fs with one file at the most: Create, Used, Append, ReadAt, Size, Flip.
-/
namespace Go.Proofs.YthodbnmeggkkoaaGreatDoor
open Go Go.RowKit Go.Hb Go.Proofs

theorem fs_create {g : World} {F : List HP} {f : Nat} {q : Int} {nm : ByteArray} (hm : MayOk nm) :
    RCs Tryz.prog 64 [.pointer (some ⟨f, 0, none⟩), .string nm] g (Fs0 f q :: F) (fun u w => u = .int .i64 0 ∧ St g w (FsR false f nm q ⟨[], [], []⟩ :: F)) := by
  have hc : ∀ a b, RCs Tryz.prog 112 [.pointer (some ⟨a, 0, none⟩), .pointer (some ⟨b, 0, none⟩)] g (Fs0 f q :: pt a (.cells [.pointer (some ⟨f, 0, none⟩)].toArray 25 (0, 0)) :: pt b (.cells [.string nm].toArray 9 (0, 0)) :: F)
      (fun u w => u = .int .i64 0 ∧ St g w (FsR false f nm q ⟨[], [], []⟩ :: F)) := fun a b => by
    refine RCs_fs0 fun fo fm st => ?_
    refine RCs_of_WPs Tryz.func112 rfl Tryz.ntmps112 rfl Tryz.results112 ?_
    refine WPs_seq ?_
    refine WPs_regionK [0, 1] ?_
    refine s_assign rfl rfl ?_
    refine SXs_nilK (fr' := [(0, _), (1, _)]) rfl ?_
    refine KSs_wp ?_
    refine WPs_seq ?_
    refine WPs_drawL [0, 3, 4] [5, 6, 7, 8, 9, 10] Tryz.mixed rfl (listed := #[false, false, false, false, false, false, false, false, false, false, false]) rfl ?_
    refine st_take 0 rfl (by decide +kernel) (listed' := #[true, false, false, false, false, false, false, false, false, false, false]) rfl (by (intro _ h; (exact h))) (gv_load1 Tryz.isAgg25 rfl rfl (by exact cin (i := 3) rfl rfl)) ?_
    refine st_take 1 rfl (by decide +kernel) (listed' := #[true, true, false, false, false, false, false, false, false, false, false]) rfl (by (intro _ h; (exact h))) (gv_nilCheck rfl rfl) ?_
    refine st_take 2 rfl (by decide +kernel) (listed' := #[true, true, true, false, false, false, false, false, false, false, false]) rfl (by (intro _ h; (exact h))) (gv_fieldAddr fo_74_0 rfl rfl) ?_
    refine st_take 3 rfl (by decide +kernel) (listed' := #[true, true, true, true, false, false, false, false, false, false, false]) rfl (by (intro _ h; (exact h))) (gv_load1 Tryz.isAgg70 rfl rfl (by exact cin (i := 0) rfl rfl)) ?_
    refine st_take 4 rfl (by decide +kernel) (listed' := #[true, true, true, true, true, false, false, false, false, false, false]) rfl (by (intro _ h; (exact h))) (gv_load1 Tryz.isAgg9 rfl rfl (by exact cin (i := 4) rfl rfl)) ?_
    refine st_one 5 rfl (by decide +kernel) ?_
    refine s_call Tryz.call113 rfl (vs := [_, _]) rfl (RCs.perm (by (repeat (first | exact List.Perm.refl _ | (apply pick 1; exact rfl)))) (folder_create hm)) ?_
    rintro v w ⟨rfl, hS⟩
    refine SXs_go hS ?_
    clear hS; clear w
    simp only [List.eraseIdx_cons_zero, List.eraseIdx_cons_succ, putF]
    refine st_next (listed' := #[true, true, true, true, true, true, false, false, false, false, false]) rfl (by intro e; cases e) ?_
    refine st_one 6 rfl (by decide +kernel) ?_
    refine s_move rfl rfl ?_
    refine st_next (listed' := #[true, true, true, true, true, true, true, false, false, false, false]) rfl (by intro e; cases e) ?_
    refine st_two 7 8 rfl rfl (by decide +kernel) ?_ ?_
    ·
      refine s_extract rfl rfl rfl ?_
      refine st_next (listed' := #[true, true, true, true, true, true, true, true, false, false, false]) rfl (by intro e; cases e) ?_
      refine st_two 8 9 rfl rfl (by decide +kernel) ?_ ?_
      ·
        refine s_extract rfl rfl rfl ?_
        refine st_next (listed' := #[true, true, true, true, true, true, true, true, true, false, false]) rfl (by intro e; cases e) ?_
        refine st_one 9 rfl (by decide +kernel) ?_
        refine s_assign rfl rfl ?_
        refine st_next (listed' := #[true, true, true, true, true, true, true, true, true, true, false]) rfl (by intro e; cases e) ?_
        refine st_one 10 rfl (by decide +kernel) ?_
        refine s_assign rfl rfl ?_
        refine st_next (listed' := #[true, true, true, true, true, true, true, true, true, true, true]) rfl (by intro e; cases e) ?_
        refine st_doneK (fr' := [(0, _), (3, _), (4, _)]) (by decide +kernel) rfl ?_
        refine KSs_wp ?_
        refine WPs_seq ?_
        refine WPs_seq ?_
        refine WPs_regionK [0, 3, 4, 15] ?_
        refine s_move rfl rfl ?_
        refine s_eql rfl rfl rfl ?_
        refine SXs_nilK (fr' := [(0, _), (3, _), (4, _), (15, _)]) rfl ?_
        refine KSs_wp ?_
        refine WPs_cond rfl (fun hc1 => ?_) (fun hc1 => ?_)
        · simp only [decide_eq_true_eq] at hc1
          refine WPs_drawL [4] [6] Tryz.mixed rfl (listed := #[false, false, false, false, false, false, false]) rfl ?_
          refine st_take 0 rfl (by decide +kernel) (listed' := #[true, false, false, false, false, false, false]) rfl (by (intro _ h; (exact h))) (gv_load1 Tryz.isAgg25 rfl rfl (by exact cin (i := 3) rfl rfl)) ?_
          refine st_take 1 rfl (by decide +kernel) (listed' := #[true, true, false, false, false, false, false]) rfl (by (intro _ h; (exact h))) (gv_nilCheck rfl rfl) ?_
          refine st_take 2 rfl (by decide +kernel) (listed' := #[true, true, true, false, false, false, false]) rfl (by (intro _ h; (exact h))) (gv_fieldAddr fo_74_1 rfl rfl) ?_
          refine st_take 3 rfl (by decide +kernel) (listed' := #[true, true, true, true, false, false, false]) rfl (by (intro _ h; (exact h))) (gv_load1 Tryz.isAgg72 rfl rfl (by exact cin (i := 1) rfl rfl)) ?_
          refine st_take 4 rfl (by decide +kernel) (listed' := #[true, true, true, true, true, false, false]) rfl (by (intro _ h; (exact h))) (gv_move rfl rfl) ?_
          refine st_one 5 rfl (by decide +kernel) ?_
          refine s_call Tryz.call114 rfl (vs := [_]) rfl (RCs.perm (by (repeat ((exact List.Perm.refl _)))) (file_new (xs := []) RdIn.nil (by simp))) ?_
          rintro v w ⟨x21, rfl, hS⟩
          refine SXs_go hS ?_
          clear hS; clear w
          simp only [putF]
          refine st_next (listed' := #[true, true, true, true, true, true, false]) rfl (by intro _ _; (intro _ h; (exact h.tail))) ?_
          refine st_one 6 rfl (by decide +kernel) ?_
          refine s_mapPut (q := 3) Tryz.underlying72 Tryz.underlying36 trivial rfl rfl rfl rfl (by ((rfl))) ?_
          simp only [List.set_cons_zero, List.set_cons_succ, List.nil_append]
          refine st_next (listed' := #[true, true, true, true, true, true, true]) rfl (by intro e; cases e) ?_
          refine st_doneK (fr' := [(4, _)]) (by decide +kernel) rfl ?_
          refine KSs_wp ?_
          refine WPs_seq ?_
          refine WPs_regionK [2] ?_
          refine s_move rfl rfl ?_
          refine s_assign rfl rfl ?_
          refine SXs_nilK (fr' := [(2, _)]) rfl ?_
          refine KSs_wp ?_
          refine WPs_ret ?_
          refine RLs_start ?_
          refine RLs_tmp rfl ?_
          refine RLs_fin1 ?_
          exact fun w hS => ⟨rfl, fs_mk (ph := false) (x := x21) (hS.sl (by (repeat (first | exact Sl.refl _ | (apply Sl.pick 0; exact rfl) | (apply Sl.pick 1; exact rfl) | (apply Sl.pick 2; exact rfl) | refine Sl.skip ?_))))⟩
        · (exfalso; (cases hc1; done))
      ·
        refine s_assign rfl rfl ?_
        refine st_next (listed' := #[true, true, true, true, true, true, true, true, false, true, false]) rfl (by intro e; cases e) ?_
        refine st_one 8 rfl (by decide +kernel) ?_
        refine s_extract rfl rfl rfl ?_
        refine st_next (listed' := #[true, true, true, true, true, true, true, true, true, true, false]) rfl (by intro e; cases e) ?_
        refine st_one 10 rfl (by decide +kernel) ?_
        refine s_assign rfl rfl ?_
        refine st_next (listed' := #[true, true, true, true, true, true, true, true, true, true, true]) rfl (by intro e; cases e) ?_
        refine st_doneK (fr' := [(0, _), (3, _), (4, _)]) (by decide +kernel) rfl ?_
        refine KSs_wp ?_
        refine WPs_seq ?_
        refine WPs_seq ?_
        refine WPs_regionK [0, 3, 4, 15] ?_
        refine s_move rfl rfl ?_
        refine s_eql rfl rfl rfl ?_
        refine SXs_nilK (fr' := [(0, _), (3, _), (4, _), (15, _)]) rfl ?_
        refine KSs_wp ?_
        refine WPs_cond rfl (fun hc2 => ?_) (fun hc2 => ?_)
        · simp only [decide_eq_true_eq] at hc2
          refine WPs_drawL [4] [6] Tryz.mixed rfl (listed := #[false, false, false, false, false, false, false]) rfl ?_
          refine st_take 0 rfl (by decide +kernel) (listed' := #[true, false, false, false, false, false, false]) rfl (by (intro _ h; (exact h))) (gv_load1 Tryz.isAgg25 rfl rfl (by exact cin (i := 3) rfl rfl)) ?_
          refine st_take 1 rfl (by decide +kernel) (listed' := #[true, true, false, false, false, false, false]) rfl (by (intro _ h; (exact h))) (gv_nilCheck rfl rfl) ?_
          refine st_take 2 rfl (by decide +kernel) (listed' := #[true, true, true, false, false, false, false]) rfl (by (intro _ h; (exact h))) (gv_fieldAddr fo_74_1 rfl rfl) ?_
          refine st_take 3 rfl (by decide +kernel) (listed' := #[true, true, true, true, false, false, false]) rfl (by (intro _ h; (exact h))) (gv_load1 Tryz.isAgg72 rfl rfl (by exact cin (i := 1) rfl rfl)) ?_
          refine st_take 4 rfl (by decide +kernel) (listed' := #[true, true, true, true, true, false, false]) rfl (by (intro _ h; (exact h))) (gv_move rfl rfl) ?_
          refine st_one 5 rfl (by decide +kernel) ?_
          refine s_call Tryz.call114 rfl (vs := [_]) rfl (RCs.perm (by (repeat ((exact List.Perm.refl _)))) (file_new (xs := []) RdIn.nil (by simp))) ?_
          rintro v w ⟨x21, rfl, hS⟩
          refine SXs_go hS ?_
          clear hS; clear w
          simp only [putF]
          refine st_next (listed' := #[true, true, true, true, true, true, false]) rfl (by intro _ _; (intro _ h; (exact h.tail))) ?_
          refine st_one 6 rfl (by decide +kernel) ?_
          refine s_mapPut (q := 3) Tryz.underlying72 Tryz.underlying36 trivial rfl rfl rfl rfl (by ((rfl))) ?_
          simp only [List.set_cons_zero, List.set_cons_succ, List.nil_append]
          refine st_next (listed' := #[true, true, true, true, true, true, true]) rfl (by intro e; cases e) ?_
          refine st_doneK (fr' := [(4, _)]) (by decide +kernel) rfl ?_
          refine KSs_wp ?_
          refine WPs_seq ?_
          refine WPs_regionK [2] ?_
          refine s_move rfl rfl ?_
          refine s_assign rfl rfl ?_
          refine SXs_nilK (fr' := [(2, _)]) rfl ?_
          refine KSs_wp ?_
          refine WPs_ret ?_
          refine RLs_start ?_
          refine RLs_tmp rfl ?_
          refine RLs_fin1 ?_
          exact fun w hS => ⟨rfl, fs_mk (ph := false) (x := x21) (hS.sl (by (repeat (first | exact Sl.refl _ | (apply Sl.pick 0; exact rfl) | (apply Sl.pick 1; exact rfl) | (apply Sl.pick 2; exact rfl) | refine Sl.skip ?_))))⟩
        · (exfalso; (cases hc2; done))
    ·
      refine s_extract rfl rfl rfl ?_
      refine st_next (listed' := #[true, true, true, true, true, true, true, false, true, false, false]) rfl (by intro e; cases e) ?_
      refine st_one 7 rfl (by decide +kernel) ?_
      refine s_extract rfl rfl rfl ?_
      refine st_next (listed' := #[true, true, true, true, true, true, true, true, true, false, false]) rfl (by intro e; cases e) ?_
      refine st_one 9 rfl (by decide +kernel) ?_
      refine s_assign rfl rfl ?_
      refine st_next (listed' := #[true, true, true, true, true, true, true, true, true, true, false]) rfl (by intro e; cases e) ?_
      refine st_one 10 rfl (by decide +kernel) ?_
      refine s_assign rfl rfl ?_
      refine st_next (listed' := #[true, true, true, true, true, true, true, true, true, true, true]) rfl (by intro e; cases e) ?_
      refine st_doneK (fr' := [(0, _), (3, _), (4, _)]) (by decide +kernel) rfl ?_
      refine KSs_wp ?_
      refine WPs_seq ?_
      refine WPs_seq ?_
      refine WPs_regionK [0, 3, 4, 15] ?_
      refine s_move rfl rfl ?_
      refine s_eql rfl rfl rfl ?_
      refine SXs_nilK (fr' := [(0, _), (3, _), (4, _), (15, _)]) rfl ?_
      refine KSs_wp ?_
      refine WPs_cond rfl (fun hc3 => ?_) (fun hc3 => ?_)
      · simp only [decide_eq_true_eq] at hc3
        refine WPs_drawL [4] [6] Tryz.mixed rfl (listed := #[false, false, false, false, false, false, false]) rfl ?_
        refine st_take 0 rfl (by decide +kernel) (listed' := #[true, false, false, false, false, false, false]) rfl (by (intro _ h; (exact h))) (gv_load1 Tryz.isAgg25 rfl rfl (by exact cin (i := 3) rfl rfl)) ?_
        refine st_take 1 rfl (by decide +kernel) (listed' := #[true, true, false, false, false, false, false]) rfl (by (intro _ h; (exact h))) (gv_nilCheck rfl rfl) ?_
        refine st_take 2 rfl (by decide +kernel) (listed' := #[true, true, true, false, false, false, false]) rfl (by (intro _ h; (exact h))) (gv_fieldAddr fo_74_1 rfl rfl) ?_
        refine st_take 3 rfl (by decide +kernel) (listed' := #[true, true, true, true, false, false, false]) rfl (by (intro _ h; (exact h))) (gv_load1 Tryz.isAgg72 rfl rfl (by exact cin (i := 1) rfl rfl)) ?_
        refine st_take 4 rfl (by decide +kernel) (listed' := #[true, true, true, true, true, false, false]) rfl (by (intro _ h; (exact h))) (gv_move rfl rfl) ?_
        refine st_one 5 rfl (by decide +kernel) ?_
        refine s_call Tryz.call114 rfl (vs := [_]) rfl (RCs.perm (by (repeat ((exact List.Perm.refl _)))) (file_new (xs := []) RdIn.nil (by simp))) ?_
        rintro v w ⟨x21, rfl, hS⟩
        refine SXs_go hS ?_
        clear hS; clear w
        simp only [putF]
        refine st_next (listed' := #[true, true, true, true, true, true, false]) rfl (by intro _ _; (intro _ h; (exact h.tail))) ?_
        refine st_one 6 rfl (by decide +kernel) ?_
        refine s_mapPut (q := 3) Tryz.underlying72 Tryz.underlying36 trivial rfl rfl rfl rfl (by ((rfl))) ?_
        simp only [List.set_cons_zero, List.set_cons_succ, List.nil_append]
        refine st_next (listed' := #[true, true, true, true, true, true, true]) rfl (by intro e; cases e) ?_
        refine st_doneK (fr' := [(4, _)]) (by decide +kernel) rfl ?_
        refine KSs_wp ?_
        refine WPs_seq ?_
        refine WPs_regionK [2] ?_
        refine s_move rfl rfl ?_
        refine s_assign rfl rfl ?_
        refine SXs_nilK (fr' := [(2, _)]) rfl ?_
        refine KSs_wp ?_
        refine WPs_ret ?_
        refine RLs_start ?_
        refine RLs_tmp rfl ?_
        refine RLs_fin1 ?_
        exact fun w hS => ⟨rfl, fs_mk (ph := false) (x := x21) (hS.sl (by (repeat (first | exact Sl.refl _ | (apply Sl.pick 0; exact rfl) | (apply Sl.pick 1; exact rfl) | (apply Sl.pick 2; exact rfl) | refine Sl.skip ?_))))⟩
      · (exfalso; (cases hc3; done))
  refine RCs_of_WPs Tryz.func64 rfl Tryz.ntmps64 rfl Tryz.results64 ?_
  refine WPs_seq ?_
  refine WPs_regionK [2, 3] ?_
  refine s_box (cl := [_]) rfl rfl rfl (fun b2 => ?_)
  refine s_box (cl := [_]) rfl rfl rfl (fun b3 => ?_)
  refine s_assign rfl rfl ?_
  refine SXs_nilK (fr' := [(2, _), (3, _)]) rfl ?_
  refine KSs_wp ?_
  refine WPs_seq ?_
  refine WPs_regionK [4] ?_
  refine s_load1 Tryz.isAgg25 rfl rfl (by exact cin (i := 1) rfl rfl) ?_
  refine s_makeFunc (fs := []) (cs := [_, _]) rfl rfl rfl ?_
  refine s_call Tryz.call104 rfl (vs := [_, _]) rfl (RCs.perm (by (repeat (first | exact List.Perm.refl _ | (apply pick 1; exact rfl) | (apply pick 2; exact rfl)))) (fs_step0 (k := 112) (cs := [_, _]) (nm := nm) (ph' := false) (m' := ⟨[], [], []⟩) Tryz.call112 (hc _ _))) ?_
  rintro v w ⟨rfl, hS⟩
  refine SXs_go hS ?_
  clear hS; clear w
  simp only [putF]
  refine s_assign rfl rfl ?_
  refine SXs_nilK (fr' := [(4, _)]) rfl ?_
  refine KSs_wp ?_
  refine WPs_ret ?_
  refine RLs_start ?_
  refine RLs_tmp rfl ?_
  refine RLs_fin1 ?_
  exact fun w hS => ⟨rfl, hS⟩

theorem fs_used {g : World} {F : List HP} {f fo fm x : Nat} {q st : Int} {ph : Bool} {nm : ByteArray} {m : FileM} (hsz : m.now.length ≤ 70368744177664) :
    RCs Tryz.prog 92 [.pointer (some ⟨f, 0, none⟩)] g (pt f (.cells [.pointer (some ⟨fo, 0, none⟩), .map (some fm), .int .i64 q, .bool false, .int .i64 st, .int .i64 (-1)].toArray 74 (0, 0)) :: FoP ph fo nm :: pt fm (.map [⟨.int .u64 1, .pointer (some ⟨x, 0, none⟩), 0⟩].toArray 1) :: FileR x m :: F)
      (fun u w => u = .int .i64 (m.now.length : Int) ∧ St g w (pt f (.cells [.pointer (some ⟨fo, 0, none⟩), .map (some fm), .int .i64 q, .bool false, .int .i64 st, .int .i64 (-1)].toArray 74 (0, 0)) :: FoP ph fo nm :: pt fm (.map [⟨.int .u64 1, .pointer (some ⟨x, 0, none⟩), 0⟩].toArray 1) :: FileR x m :: F)) := by
  refine RCs_of_WPs Tryz.func92 rfl Tryz.ntmps92 rfl Tryz.results92 ?_
  refine WPs_seq ?_
  refine WPs_regionK [0] ?_
  refine s_assign rfl rfl ?_
  refine SXs_nilK (fr' := [(0, _)]) rfl ?_
  refine KSs_wp ?_
  refine WPs_seq ?_
  refine WPs_seq ?_
  refine WPs_regionK [0, 8] ?_
  refine s_move rfl rfl ?_
  refine s_call Tryz.call71 rfl (vs := [_]) rfl (RCs.perm (by (repeat ((exact List.Perm.refl _)))) (fs_power)) ?_
  rintro v w ⟨rfl, hS⟩
  refine SXs_go hS ?_
  clear hS; clear w
  simp only [putF]
  refine s_neq rfl rfl rfl ?_
  refine SXs_nilK (fr' := [(0, _), (8, _)]) rfl ?_
  refine KSs_wp ?_
  refine WPs_cond rfl (fun hc1 => ?_) (fun hc1 => ?_)
  · (exfalso; (cases hc1; done))
  · simp only [decide_eq_true_eq, Bool.not_eq_false'] at hc1
    refine WPs_skip ?_
    refine KSs_wp ?_
    refine WPs_seq ?_
    refine WPs_regionK [0, 3] ?_
    refine s_assign rfl rfl ?_
    refine SXs_nilK (fr' := [(0, _), (3, _)]) rfl ?_
    refine KSs_wp ?_
    refine WPs_seq ?_
    refine WPs_seq ?_
    refine WPs_regionK [0, 3, 13, 14, 15] ?_
    refine s_move rfl rfl ?_
    refine s_nilCheck rfl rfl ?_
    refine s_fieldAddr fo_74_0 rfl rfl ?_
    refine s_load1 Tryz.isAgg70 rfl rfl (by exact cin (i := 0) rfl rfl) ?_
    refine s_call Tryz.call135 rfl (vs := [_]) rfl (RCs.perm (by (repeat (first | exact List.Perm.refl _ | (apply pick 1; exact rfl)))) (list_p)) ?_
    rintro v w ⟨va13, vc13, rfl, hS⟩
    refine SXs_go hS ?_
    clear hS; clear w
    simp only [List.eraseIdx_cons_zero, List.eraseIdx_cons_succ, putF]
    refine SXs_rd 0 rfl fun hR13 => ?_
    refine s_len rfl Tryz.underlying192 rfl rfl ?_
    refine s_move rfl rfl ?_
    refine SXs_nilK (fr' := [(0, _), (3, _), (13, _), (14, _), (15, _)]) rfl ?_
    refine KSs_wp ?_
    refine WPs_block ?_
    refine WPs_unroll 1 ?_
    refine WPs_seq ?_
    refine WPs_regionK [0, 3, 13, 14, 15, 16] ?_
    refine s_lss rfl rfl rfl ?_
    refine SXs_nilK (fr' := [(0, _), (3, _), (13, _), (14, _), (15, _), (16, _)]) rfl ?_
    refine KSs_wp ?_
    refine WPs_seq ?_
    refine WPs_cond rfl (fun hc2 => ?_) (fun hc2 => ?_)
    · simp only [decide_eq_true_eq] at hc2
      refine WPs_skip ?_
      refine KSs_wp ?_
      refine WPs_seq ?_
      refine WPs_block ?_
      refine WPs_seq ?_
      refine WPs_regionK [0, 3, 5, 13, 14, 15] ?_
      refine s_idxRd slt_192 rfl rfl (by ((assumption))) rfl (by omega) (by omega) (fun b17 o17 hc17 => ?_)
      refine s_loadN Tryz.isAgg195 Tryz.sizeOf195 (vs := [.string nm, .int .u64 1]) rfl rfl hc17 rfl ?_
      refine s_alloc Tryz.zeroValue195 (cl := [_, _]) rfl rfl (fun b5 => ?_)
      refine s_store (i := 0) Tryz.sizeOf195 rfl rfl rfl (vs := [_, _]) rfl rfl rfl rfl ?_
      simp only [List.set_cons_zero, List.set_cons_succ, spl]
      refine SXs_nilK (fr' := [(0, _), (3, _), (5, _), (13, _), (14, _), (15, _)]) rfl ?_
      refine KSs_wp ?_
      refine WPs_drawL [0, 3, 13, 14, 15] [] Tryz.mixed rfl (listed := #[false, false, false, false, false, false, false, false, false, false, false]) rfl ?_
      refine st_take 0 rfl (by decide +kernel) (listed' := #[true, false, false, false, false, false, false, false, false, false, false]) rfl (by (intro _ h; (exact h))) (gv_move rfl rfl) ?_
      refine st_take 1 rfl (by decide +kernel) (listed' := #[true, true, false, false, false, false, false, false, false, false, false]) rfl (by (intro _ h; (exact h))) (gv_move rfl rfl) ?_
      refine st_take 2 rfl (by decide +kernel) (listed' := #[true, true, true, false, false, false, false, false, false, false, false]) rfl (by (intro _ h; (exact h))) (gv_nilCheck rfl rfl) ?_
      refine st_take 3 rfl (by decide +kernel) (listed' := #[true, true, true, true, false, false, false, false, false, false, false]) rfl (by (intro _ h; (exact h))) (gv_fieldAddr fo_74_1 rfl rfl) ?_
      refine st_take 4 rfl (by decide +kernel) (listed' := #[true, true, true, true, true, false, false, false, false, false, false]) rfl (by (intro _ h; (exact h))) (gv_load1 Tryz.isAgg72 rfl rfl (by exact cin (i := 3) rfl rfl)) ?_
      refine st_take 5 rfl (by decide +kernel) (listed' := #[true, true, true, true, true, true, false, false, false, false, false]) rfl (by (intro _ h; (exact h))) (gv_fieldAddr fo_195_1 rfl rfl) ?_
      refine st_take 6 rfl (by decide +kernel) (listed' := #[true, true, true, true, true, true, true, false, false, false, false]) rfl (by (intro _ h; (exact h))) (gv_load1 Tryz.isAgg36 rfl rfl (by exact cin (i := 0) rfl rfl)) ?_
      refine st_take 7 rfl (by decide +kernel) (listed' := #[true, true, true, true, true, true, true, true, false, false, false]) rfl (by (intro _ h; (exact h))) (gv_lookT (q := 4) Tryz.underlying72 Tryz.underlying36 trivial rfl rfl rfl rfl (by ((rfl)))) ?_
      refine st_one 8 rfl (by decide +kernel) ?_
      refine s_call Tryz.call86 rfl (vs := [_]) rfl (RCs.perm (by (repeat (first | exact List.Perm.refl _ | (apply pick 5; exact rfl)))) (file_size (m := m))) ?_
      rintro v w ⟨rfl, hS⟩
      refine SXs_go hS ?_
      clear hS; clear w
      simp only [List.eraseIdx_cons_zero, List.eraseIdx_cons_succ, putF]
      refine st_next (listed' := #[true, true, true, true, true, true, true, true, true, false, false]) rfl (by intro _ _; (intro _ h; (exact h.sl (by (repeat (first | exact Sl.refl _ | (apply Sl.pick 1; exact rfl))))))) ?_
      refine st_take 9 rfl (by decide +kernel) (listed' := #[true, true, true, true, true, true, true, true, true, true, false]) rfl (by (intro _ h; (exact h.sl (by (repeat (first | exact Sl.refl _ | (apply Sl.pick 1; exact rfl))))))) (gv_add_ok rfl rfl rfl (inR_i64 (by omega) (by omega))) ?_
      refine st_take 10 rfl (by decide +kernel) (listed' := #[true, true, true, true, true, true, true, true, true, true, true]) rfl (by (intro _ h; (exact h.sl (by (repeat (first | exact Sl.refl _ | (apply Sl.pick 1; exact rfl))))))) (gv_assign rfl rfl) ?_
      refine st_doneK (fr' := [(0, _), (3, _), (13, _), (14, _), (15, _)]) (by decide +kernel) rfl ?_
      refine KSs_wp ?_
      refine WPs_regionK [0, 3, 13, 14, 15] ?_
      refine s_add_ok rfl rfl rfl (inR_i64 (by omega) (by omega)) ?_
      refine s_move rfl rfl ?_
      refine SXs_nilK (fr' := [(0, _), (3, _), (13, _), (14, _), (15, _)]) rfl ?_
      refine KSs_unroll (N := 0) ?_
      refine WPs_seq ?_
      refine WPs_regionK [0, 3, 13, 14, 15, 16] ?_
      refine s_lss rfl rfl rfl ?_
      refine SXs_nilK (fr' := [(0, _), (3, _), (13, _), (14, _), (15, _), (16, _)]) rfl ?_
      refine KSs_wp ?_
      refine WPs_seq ?_
      refine WPs_cond rfl (fun hc3 => ?_) (fun hc3 => ?_)
      · (exfalso; (cases hc3; done))
      · simp only [decide_eq_false_iff_not] at hc3
        refine WPs_exit rfl ?_
        refine KSs_wp ?_
        refine WPs_seq ?_
        refine WPs_regionK [2] ?_
        refine s_move rfl rfl ?_
        refine s_assign rfl rfl ?_
        refine SXs_nilK (fr' := [(2, _)]) rfl ?_
        refine KSs_wp ?_
        refine WPs_ret ?_
        refine RLs_start ?_
        refine RLs_tmp rfl ?_
        refine RLs_fin1 ?_
        exact fun w hS => ⟨by simp, hS.sl (by (repeat (first | exact Sl.refl _ | (apply Sl.pick 0; exact rfl) | (apply Sl.pick 3; exact rfl) | (apply Sl.pick 4; exact rfl) | refine Sl.skip ?_)))⟩
    · (exfalso; (cases hc2; done))
theorem fs_append {g : World} {F : List HP} {f : Nat} {q : Int} {ph : Bool} {nm : ByteArray} {m : FileM} {v : Value} {bs : List UInt8} (hm : MayOk nm) (hR : RdB g F v bs) (h0 : 0 < bs.length) (hq : ((m.now.length + bs.length : Nat) : Int) ≤ q) (hq2 : q ≤ 1073741824) (hds : m.deeds.length ≤ 1099511627776) :
    RCs Tryz.prog 43 [.pointer (some ⟨f, 0, none⟩), .string nm, v] g (FsR ph f nm q m :: F) (fun u w => u = .int .i64 0 ∧ St g w (FsR ph f nm q { m with now := m.now ++ bs, deeds := m.deeds ++ [.add bs] } :: F)) := by
  obtain ⟨va, vc, rfl, _⟩ := hR.form
  have hc : ∀ a b fo fm st x, RCs Tryz.prog 91 [.pointer (some ⟨x, 0, none⟩), .pointer (some ⟨a, 0, none⟩), .pointer (some ⟨b, 0, none⟩)] g
      (pt f (.cells [.pointer (some ⟨fo, 0, none⟩), .map (some fm), .int .i64 q, .bool false, .int .i64 st, .int .i64 (-1)].toArray 74 (0, 0)) :: FoP ph fo nm :: pt fm (.map [⟨.int .u64 1, .pointer (some ⟨x, 0, none⟩), 0⟩].toArray 1) :: FileR x m :: pt a (.cells [.pointer (some ⟨f, 0, none⟩)].toArray 25 (0, 0)) :: pt b (.cells [.slice va bs.length vc].toArray 42 (0, 0)) :: F)
      (fun u w => u = .int .i64 0 ∧ St g w (FsR ph f nm q { m with now := m.now ++ bs, deeds := m.deeds ++ [.add bs] } :: F)) := fun a b fo fm st x => by
    refine RCs_of_WPs Tryz.func91 rfl Tryz.ntmps91 rfl Tryz.results91 ?_
    refine WPs_seq ?_
    refine WPs_regionK [0, 1, 2] ?_
    refine s_assign rfl rfl ?_
    refine SXs_nilK (fr' := [(0, _), (1, _), (2, _)]) rfl ?_
    refine KSs_wp ?_
    refine WPs_seq ?_
    refine WPs_seq ?_
    refine WPs_drawL [0, 2, 23] [] Tryz.mixed rfl (listed := #[false, false, false, false, false, false, false, false, false, false, false, false, false, false, false, false, false, false, false]) rfl ?_
    refine st_take 0 rfl (by decide +kernel) (listed' := #[true, false, false, false, false, false, false, false, false, false, false, false, false, false, false, false, false, false, false]) rfl (by (intro _ h; (exact h))) (gv_load1 Tryz.isAgg25 rfl rfl (by exact cin (i := 4) rfl rfl)) ?_
    refine st_take 2 rfl (by decide +kernel) (listed' := #[true, false, true, false, false, false, false, false, false, false, false, false, false, false, false, false, false, false, false]) rfl (by (intro _ h; (exact h))) (gv_load1 Tryz.isAgg25 rfl rfl (by exact cin (i := 4) rfl rfl)) ?_
    refine st_take 3 rfl (by decide +kernel) (listed' := #[true, false, true, true, false, false, false, false, false, false, false, false, false, false, false, false, false, false, false]) rfl (by (intro _ h; (exact h))) (gv_nilCheck rfl rfl) ?_
    refine st_take 4 rfl (by decide +kernel) (listed' := #[true, false, true, true, true, false, false, false, false, false, false, false, false, false, false, false, false, false, false]) rfl (by (intro _ h; (exact h))) (gv_fieldAddr fo_74_2 rfl rfl) ?_
    refine st_take 5 rfl (by decide +kernel) (listed' := #[true, false, true, true, true, true, false, false, false, false, false, false, false, false, false, false, false, false, false]) rfl (by (intro _ h; (exact h))) (gv_load1 Tryz.isAgg3 rfl rfl (by exact cin (i := 0) rfl rfl)) ?_
    refine st_one 1 rfl (by decide +kernel) ?_
    refine s_call Tryz.call92 rfl (vs := [_]) rfl (RCs.perm (by (repeat ((exact List.Perm.refl _)))) (fs_used (m := m) (x := x) (ph := ph) (nm := nm) (by omega))) ?_
    rintro v w ⟨rfl, hS⟩
    refine SXs_go hS ?_
    clear hS; clear w
    simp only [putF]
    refine st_next (listed' := #[true, true, true, true, true, true, false, false, false, false, false, false, false, false, false, false, false, false, false]) rfl (by intro _ _; (intro _ h; (exact h))) ?_
    refine st_take 6 rfl (by decide +kernel) (listed' := #[true, true, true, true, true, true, true, false, false, false, false, false, false, false, false, false, false, false, false]) rfl (by (intro _ h; (exact h))) (gv_gtr rfl rfl rfl) ?_
    refine st_take 7 rfl (by decide +kernel) (listed' := #[true, true, true, true, true, true, true, true, false, false, false, false, false, false, false, false, false, false, false]) rfl (by (intro _ h; (exact h))) (gv_move rfl rfl) ?_
    refine st_split (dj := 12) rfl (fun hc1 => ?_) (fun hc1 => ?_)
    · (exfalso; (simp only [decide_eq_true_eq] at hc1; omega))
    · simp only [decide_eq_false_iff_not] at hc1
      refine st_take_t 8 rfl (by decide +kernel) (listed' := #[true, true, true, true, true, true, true, true, true, false, false, false, false, false, false, false, false, false, false]) rfl (by (intro _ h; (exact h))) rfl rfl (by ((simp_all; done))) (gv_load1 Tryz.isAgg42 rfl rfl (by exact cin (i := 5) rfl rfl)) ?_
      refine st_take_t 9 rfl (by decide +kernel) (listed' := #[true, true, true, true, true, true, true, true, true, true, false, false, false, false, false, false, false, false, false]) rfl (by (intro _ h; (exact h))) rfl rfl (by ((simp_all; done))) (gv_len rfl Tryz.underlying42 rfl rfl) ?_
      refine st_take_t 10 rfl (by decide +kernel) (listed' := #[true, true, true, true, true, true, true, true, true, true, true, false, false, false, false, false, false, false, false]) rfl (by (intro _ h; (exact h))) rfl rfl (by ((simp_all; done))) (gv_load1 Tryz.isAgg25 rfl rfl (by exact cin (i := 4) rfl rfl)) ?_
      refine st_take_t 11 rfl (by decide +kernel) (listed' := #[true, true, true, true, true, true, true, true, true, true, true, true, false, false, false, false, false, false, false]) rfl (by (intro _ h; (exact h))) rfl rfl (by ((simp_all; done))) (gv_nilCheck rfl rfl) ?_
      refine st_take_t 12 rfl (by decide +kernel) (listed' := #[true, true, true, true, true, true, true, true, true, true, true, true, true, false, false, false, false, false, false]) rfl (by (intro _ h; (exact h))) rfl rfl (by ((simp_all; done))) (gv_fieldAddr fo_74_2 rfl rfl) ?_
      refine st_take_t 13 rfl (by decide +kernel) (listed' := #[true, true, true, true, true, true, true, true, true, true, true, true, true, true, false, false, false, false, false]) rfl (by (intro _ h; (exact h))) rfl rfl (by ((simp_all; done))) (gv_load1 Tryz.isAgg3 rfl rfl (by exact cin (i := 0) rfl rfl)) ?_
      refine st_take_t 14 rfl (by decide +kernel) (listed' := #[true, true, true, true, true, true, true, true, true, true, true, true, true, true, true, false, false, false, false]) rfl (by (intro _ h; (exact h))) rfl rfl (by ((simp_all; done))) (gv_load1 Tryz.isAgg25 rfl rfl (by exact cin (i := 4) rfl rfl)) ?_
      refine st_one 15 rfl (by decide +kernel) ?_
      refine s_guard_t2 rfl rfl (by ((simp_all; done))) rfl ?_
      refine s_call Tryz.call92 rfl (vs := [_]) rfl (RCs.perm (by (repeat ((exact List.Perm.refl _)))) (fs_used (m := m) (x := x) (ph := ph) (nm := nm) (by omega))) ?_
      rintro v w ⟨rfl, hS⟩
      refine SXs_go hS ?_
      clear hS; clear w
      simp only [putF]
      refine st_next (listed' := #[true, true, true, true, true, true, true, true, true, true, true, true, true, true, true, true, false, false, false]) rfl (by intro _ _; (intro _ h; (exact h))) ?_
      refine st_take_t 16 rfl (by decide +kernel) (listed' := #[true, true, true, true, true, true, true, true, true, true, true, true, true, true, true, true, true, false, false]) rfl (by (intro _ h; (exact h))) rfl rfl (by ((simp_all; done))) (gv_sub_ok rfl rfl rfl (inR_i64 (by omega) (by omega))) ?_
      refine st_take_t 17 rfl (by decide +kernel) (listed' := #[true, true, true, true, true, true, true, true, true, true, true, true, true, true, true, true, true, true, false]) rfl (by (intro _ h; (exact h))) rfl rfl (by ((simp_all; done))) (gv_gtr rfl rfl rfl) ?_
      refine st_take 18 rfl (by decide +kernel) (listed' := #[true, true, true, true, true, true, true, true, true, true, true, true, true, true, true, true, true, true, true]) rfl (by (intro _ h; (exact h))) (gv_pickB rfl rfl rfl rfl) ?_
      refine st_doneK (fr' := [(0, _), (2, _), (23, _)]) (by decide +kernel) rfl ?_
      refine KSs_wp ?_
      refine WPs_cond rfl (fun hc3 => ?_) (fun hc3 => ?_)
      · (exfalso; (simp at hc3; omega))
      · refine WPs_skip ?_
        refine KSs_wp ?_
        refine WPs_seq ?_
        refine WPs_regionK [4] ?_
        refine s_move rfl rfl ?_
        refine s_load1 Tryz.isAgg42 rfl rfl (by exact cin (i := 5) rfl rfl) ?_
        refine s_call Tryz.call93 rfl (vs := [_, _]) rfl (RCs.perm (by (repeat (first | exact List.Perm.refl _ | (apply pick 3; exact rfl)))) (file_append (m := m) (bs := bs) (F := pt f (.cells [.pointer (some ⟨fo, 0, none⟩), .map (some fm), .int .i64 q, .bool false, .int .i64 st, .int .i64 (-1)].toArray 74 (0, 0)) :: FoP ph fo nm :: pt fm (.map [⟨.int .u64 1, .pointer (some ⟨x, 0, none⟩), 0⟩].toArray 1) :: pt a (.cells [.pointer (some ⟨f, 0, none⟩)].toArray 25 (0, 0)) :: pt b (.cells [.slice va bs.length vc].toArray 42 (0, 0)) :: F) hR.cons.cons.cons.cons.cons h0 (by omega) hds)) ?_
        rintro v w ⟨rfl, hS⟩
        refine SXs_go hS ?_
        clear hS; clear w
        simp only [putF]
        refine s_assign rfl rfl ?_
        refine SXs_nilK (fr' := [(4, _)]) rfl ?_
        refine KSs_wp ?_
        refine WPs_ret ?_
        refine RLs_start ?_
        refine RLs_tmp rfl ?_
        refine RLs_fin1 ?_
        exact fun w hS => ⟨rfl, fs_mk (hS.sl (by (repeat (first | exact Sl.refl _ | (apply Sl.pick 0; exact rfl) | (apply Sl.pick 1; exact rfl) | refine Sl.skip ?_))))⟩
  refine RCs_of_WPs Tryz.func43 rfl Tryz.ntmps43 rfl Tryz.results43 ?_
  refine WPs_seq ?_
  refine WPs_regionK [1, 3, 5] ?_
  refine s_box (cl := [_]) rfl rfl rfl (fun b3 => ?_)
  refine s_box (cl := [_]) rfl rfl rfl (fun b5 => ?_)
  refine s_assign rfl rfl ?_
  refine SXs_nilK (fr' := [(1, _), (3, _), (5, _)]) rfl ?_
  refine KSs_wp ?_
  refine WPs_seq ?_
  refine WPs_regionK [6] ?_
  refine s_load1 Tryz.isAgg25 rfl rfl (by exact cin (i := 1) rfl rfl) ?_
  refine s_move rfl rfl ?_
  refine s_makeFunc (fs := []) (cs := [_, _]) rfl rfl rfl ?_
  refine s_call Tryz.call54 rfl (vs := [_, _, _]) rfl (RCs.perm (by (repeat (first | exact List.Perm.refl _ | (apply pick 1; exact rfl) | (apply pick 2; exact rfl)))) (fs_with (k := 91) (cs := [_, _]) (m := m) (m' := { m with now := m.now ++ bs, deeds := m.deeds ++ [.add bs] }) hm Tryz.call91 (fun fo fm st x => hc _ _ fo fm st x))) ?_
  rintro v w ⟨rfl, hS⟩
  refine SXs_go hS ?_
  clear hS; clear w
  simp only [putF]
  refine s_assign rfl rfl ?_
  refine SXs_nilK (fr' := [(6, _)]) rfl ?_
  refine KSs_wp ?_
  refine WPs_ret ?_
  refine RLs_start ?_
  refine RLs_tmp rfl ?_
  refine RLs_fin1 ?_
  exact fun w hS => ⟨rfl, hS⟩

theorem fs_readAt {g : World} {F : List HP} {f : Nat} {q : Int} {ph : Bool} {nm : ByteArray} {m : FileM} {at_ k : Nat} (hm : MayOk nm) (hsz : m.now.length ≤ 70368744177664) (hk : at_ + k ≤ m.now.length) :
    RCs Tryz.prog 35 [.pointer (some ⟨f, 0, none⟩), .string nm, .int .i64 (at_ : Int), .int .i64 (k : Int)] g (FsR ph f nm q m :: F)
      (fun u w => ∃ v, u = .tuple #[v, .int .i64 0] ∧ SlB g ((m.now.drop at_).take k) (FsR ph f nm q m :: F) v w) := by
  refine RCs_fs fun fo fm st x => ?_
  refine RCs_of_WPs Tryz.func35 rfl Tryz.ntmps35 rfl Tryz.results35 ?_
  refine WPs_seq ?_
  refine WPs_regionK [0, 1, 2, 3] ?_
  refine s_assign rfl rfl ?_
  refine s_assign rfl rfl ?_
  refine SXs_nilK (fr' := [(0, _), (1, _), (2, _), (3, _)]) rfl ?_
  refine KSs_wp ?_
  refine WPs_seq ?_
  refine WPs_regionK [2, 3, 10, 11] ?_
  refine s_move rfl rfl ?_
  refine s_move rfl rfl ?_
  refine s_call Tryz.call30 rfl (vs := [_, _]) rfl (RCs.perm (by (repeat ((exact List.Perm.refl _)))) (fs_open (ph := ph) (x := x) hm)) ?_
  rintro v w ⟨rfl, hS⟩
  refine SXs_go hS ?_
  clear hS; clear w
  simp only [putF]
  refine s_move rfl rfl ?_
  refine s_extract rfl rfl rfl ?_
  refine s_extract rfl rfl rfl ?_
  refine s_assign rfl rfl ?_
  refine s_assign rfl rfl ?_
  refine SXs_nilK (fr' := [(2, _), (3, _), (10, _), (11, _)]) rfl ?_
  refine KSs_wp ?_
  refine WPs_seq ?_
  refine WPs_seq ?_
  refine WPs_regionK [2, 3, 10, 11, 19] ?_
  refine s_move rfl rfl ?_
  refine s_neq rfl rfl rfl ?_
  refine SXs_nilK (fr' := [(2, _), (3, _), (10, _), (11, _), (19, _)]) rfl ?_
  refine KSs_wp ?_
  refine WPs_cond rfl (fun hc1 => ?_) (fun hc1 => ?_)
  · (exfalso; (cases hc1; done))
  · simp only [decide_eq_true_eq, Bool.not_eq_false'] at hc1
    refine WPs_skip ?_
    refine KSs_wp ?_
    refine WPs_seq ?_
    refine WPs_regionK [8, 9] ?_
    refine s_move rfl rfl ?_
    refine s_move rfl rfl ?_
    refine s_move rfl rfl ?_
    refine s_call Tryz.call82 rfl (vs := [_, _, _]) rfl (RCs.perm (by (repeat (first | exact List.Perm.refl _ | (apply pick 3; exact rfl)))) (file_read (m := m) hsz hk)) ?_
    rintro v w ⟨_, rfl, va24, vc24, rfl, hS⟩
    refine SXs_go hS ?_
    clear hS; clear w
    simp only [List.eraseIdx_cons_zero, List.eraseIdx_cons_succ, putF]
    refine s_extract rfl rfl rfl ?_
    refine s_extract rfl rfl rfl ?_
    refine s_assign rfl rfl ?_
    refine s_assign rfl rfl ?_
    refine SXs_nilK (fr' := [(8, _), (9, _)]) rfl ?_
    refine KSs_wp ?_
    refine WPs_ret ?_
    refine RLs_start ?_
    refine RLs_tmp rfl ?_
    refine RLs_tmp rfl ?_
    refine RLs_fin2 ?_
    exact fun w hS => ⟨_, rfl, _, _, rfl, by
        have h1 := fs_mk (F := [ownB (.slice va24 ((m.now.drop at_).take k).length vc24) ((m.now.drop at_).take k)] ++ F) (hS.sl (by (repeat (first | exact Sl.refl _ | (apply Sl.pick 1; exact rfl) | (apply Sl.pick 2; exact rfl)))))
        exact h1.perm (List.Perm.swap _ _ _)⟩
theorem fs_size {g : World} {F : List HP} {f : Nat} {q : Int} {ph : Bool} {nm : ByteArray} {m : FileM} (hm : MayOk nm) :
    RCs Tryz.prog 39 [.pointer (some ⟨f, 0, none⟩), .string nm] g (FsR ph f nm q m :: F)
      (fun u w => u = .tuple #[.int .i64 (m.now.length : Int), .int .i64 0] ∧ St g w (FsR ph f nm q m :: F)) := by
  refine RCs_fs fun fo fm st x => ?_
  refine RCs_of_WPs Tryz.func39 rfl Tryz.ntmps39 rfl Tryz.results39 ?_
  refine WPs_seq ?_
  refine WPs_regionK [0, 1] ?_
  refine s_assign rfl rfl ?_
  refine s_assign rfl rfl ?_
  refine SXs_nilK (fr' := [(0, _), (1, _)]) rfl ?_
  refine KSs_wp ?_
  refine WPs_seq ?_
  refine WPs_regionK [6, 7] ?_
  refine s_move rfl rfl ?_
  refine s_move rfl rfl ?_
  refine s_call Tryz.call30 rfl (vs := [_, _]) rfl (RCs.perm (by (repeat ((exact List.Perm.refl _)))) (fs_open (ph := ph) (x := x) hm)) ?_
  rintro v w ⟨rfl, hS⟩
  refine SXs_go hS ?_
  clear hS; clear w
  simp only [putF]
  refine s_move rfl rfl ?_
  refine s_extract rfl rfl rfl ?_
  refine s_extract rfl rfl rfl ?_
  refine s_assign rfl rfl ?_
  refine s_assign rfl rfl ?_
  refine SXs_nilK (fr' := [(6, _), (7, _)]) rfl ?_
  refine KSs_wp ?_
  refine WPs_seq ?_
  refine WPs_regionK [4, 5] ?_
  refine s_move rfl rfl ?_
  refine s_call Tryz.call86 rfl (vs := [_]) rfl (RCs.perm (by (repeat (first | exact List.Perm.refl _ | (apply pick 3; exact rfl)))) (file_size (m := m))) ?_
  rintro v w ⟨rfl, hS⟩
  refine SXs_go hS ?_
  clear hS; clear w
  simp only [List.eraseIdx_cons_zero, List.eraseIdx_cons_succ, putF]
  refine s_move rfl rfl ?_
  refine s_assign rfl rfl ?_
  refine s_assign rfl rfl ?_
  refine SXs_nilK (fr' := [(4, _), (5, _)]) rfl ?_
  refine KSs_wp ?_
  refine WPs_ret ?_
  refine RLs_start ?_
  refine RLs_tmp rfl ?_
  refine RLs_tmp rfl ?_
  refine RLs_fin2 ?_
  exact fun w hS => ⟨rfl, fs_mk (hS.sl (by (repeat (first | exact Sl.refl _ | (apply Sl.pick 1; exact rfl)))))⟩
theorem fs_flip {g : World} {F : List HP} {f : Nat} {q : Int} {ph : Bool} {nm : ByteArray} {m : FileM} {at_ : Nat} {bits c : UInt8} (hm : MayOk nm) (hsz : m.now.length ≤ 70368744177664) (hk : at_ < m.now.length) (hc : m.now[at_]? = some c) (hds : m.deeds = []) :
    RCs Tryz.prog 11 [.pointer (some ⟨f, 0, none⟩), .string nm, .int .i64 (at_ : Int), .int .u8 (bits.toNat : Int)] g (FsR ph f nm q m :: F)
      (fun u w => u = .int .i64 0 ∧ St g w (FsR ph f nm q ⟨m.now.set at_ (c ^^^ bits), m.now.set at_ (c ^^^ bits), []⟩ :: F)) := by
  refine RCs_fs fun fo fm st x => ?_
  refine RCs_of_WPs Tryz.func11 rfl Tryz.ntmps11 rfl Tryz.results11 ?_
  refine WPs_seq ?_
  refine WPs_regionK [0, 1, 2, 3] ?_
  refine s_assign rfl rfl ?_
  refine SXs_nilK (fr' := [(0, _), (1, _), (2, _), (3, _)]) rfl ?_
  refine KSs_wp ?_
  refine WPs_seq ?_
  refine WPs_regionK [2, 3, 9, 10] ?_
  refine s_move rfl rfl ?_
  refine s_move rfl rfl ?_
  refine s_call Tryz.call30 rfl (vs := [_, _]) rfl (RCs.perm (by (repeat ((exact List.Perm.refl _)))) (fs_open (ph := ph) (x := x) hm)) ?_
  rintro v w ⟨rfl, hS⟩
  refine SXs_go hS ?_
  clear hS; clear w
  simp only [putF]
  refine s_move rfl rfl ?_
  refine s_extract rfl rfl rfl ?_
  refine s_extract rfl rfl rfl ?_
  refine s_assign rfl rfl ?_
  refine s_assign rfl rfl ?_
  refine SXs_nilK (fr' := [(2, _), (3, _), (9, _), (10, _)]) rfl ?_
  refine KSs_wp ?_
  refine WPs_seq ?_
  refine WPs_seq ?_
  refine WPs_regionK [2, 3, 9, 10, 18] ?_
  refine s_move rfl rfl ?_
  refine s_neq rfl rfl rfl ?_
  refine SXs_nilK (fr' := [(2, _), (3, _), (9, _), (10, _), (18, _)]) rfl ?_
  refine KSs_wp ?_
  refine WPs_cond rfl (fun hc1 => ?_) (fun hc1 => ?_)
  · (exfalso; (cases hc1; done))
  · simp only [decide_eq_true_eq, Bool.not_eq_false'] at hc1
    refine WPs_skip ?_
    refine KSs_wp ?_
    refine WPs_seq ?_
    refine WPs_regionK [8] ?_
    refine s_move rfl rfl ?_
    refine s_move rfl rfl ?_
    refine s_move rfl rfl ?_
    refine s_call Tryz.call31 rfl (vs := [_, _, _]) rfl (RCs.perm (by (repeat (first | exact List.Perm.refl _ | (apply pick 3; exact rfl)))) (file_flip (m := m) hsz hk hc hds)) ?_
    rintro v w ⟨rfl, hS⟩
    refine SXs_go hS ?_
    clear hS; clear w
    simp only [List.eraseIdx_cons_zero, List.eraseIdx_cons_succ, putF]
    refine s_assign rfl rfl ?_
    refine SXs_nilK (fr' := [(8, _)]) rfl ?_
    refine KSs_wp ?_
    refine WPs_ret ?_
    refine RLs_start ?_
    refine RLs_tmp rfl ?_
    refine RLs_fin1 ?_
    exact fun w hS => ⟨rfl, fs_mk (hS.sl (by (repeat (first | exact Sl.refl _ | (apply Sl.pick 1; exact rfl)))))⟩
end Go.Proofs.YthodbnmeggkkoaaGreatDoor
/-
  Package prefix: Fixed, Read: numbers in so many bytes, the lowest first.
-/
namespace Go.Proofs.YthodbnmeggkkoaaGreatDoor
open Go Go.RowKit Go.Hb Go.Proofs

def le (n k : Nat) : List UInt8 := (List.range k).map fun i => UInt8.ofNat (n >>> (8 * i))
theorem le_length (n k : Nat) : (le n k).length = k := by simp [le]
theorem le_succ (n k : Nat) : le n (k + 1) = le n k ++ [UInt8.ofNat (n >>> (8 * k))] := by simp [le, List.range_succ]
def rdN : List UInt8 → Nat
  | [] => 0
  | b :: bs => b.toNat + 256 * rdN bs
theorem rdN_lt : ∀ bs : List UInt8, rdN bs < 2 ^ (8 * bs.length) := by
  intro bs
  induction bs with
  | nil => simp [rdN]
  | cons b bs ih =>
    have := b.toNat_lt
    simp only [rdN, List.length_cons]
    have e : 2 ^ (8 * (bs.length + 1)) = 256 * 2 ^ (8 * bs.length) := by
      rw [show 8 * (bs.length + 1) = 8 + 8 * bs.length from by omega, Nat.pow_add]
    omega
theorem rdN_snoc : ∀ (bs : List UInt8) (b : UInt8), rdN (bs ++ [b]) = rdN bs + b.toNat * 2 ^ (8 * bs.length) := by
  intro bs
  induction bs with
  | nil => intro b; simp [rdN]
  | cons c bs ih =>
    intro b
    simp only [List.cons_append, rdN, ih, List.length_cons]
    have e : 2 ^ (8 * (bs.length + 1)) = 256 * 2 ^ (8 * bs.length) := by
      rw [show 8 * (bs.length + 1) = 8 + 8 * bs.length from by omega, Nat.pow_add]
    rw [e, Nat.mul_add, Nat.mul_left_comm]
    omega
theorem wrap_u8 (x : Nat) : IntKind.wrap .u8 (x : Int) = ((UInt8.ofNat x).toNat : Int) := by
  simp [IntKind.wrap, IntKind.bits, IntKind.signed]
theorem bv_snoc (xs : List UInt8) (c : UInt8) : bv (xs ++ [c]) = bv xs ++ [.int .u8 (c.toNat : Int)] := by simp [bv]

theorem sized_spec {g : World} {F : List HP} {k : Nat} (h1 : 1 ≤ k) (h8 : k ≤ 8) :
    RCs Tryz.prog 133 [.int .i64 (k : Int)] g F (fun u w => u = .bool true ∧ St g w F) := by
  refine RCs_of_WPs Tryz.func133 rfl Tryz.ntmps133 rfl Tryz.results133 ?_
  refine WPs_seq ?_
  refine WPs_regionK [0] ?_
  refine s_assign rfl rfl ?_
  refine SXs_nilK (fr' := [(0, _)]) rfl ?_
  refine KSs_wp ?_
  refine WPs_seq ?_
  refine WPs_regionK [2] ?_
  refine s_move rfl rfl ?_
  refine s_geq rfl rfl rfl ?_
  refine s_move rfl rfl ?_
  refine s_guard rfl rfl rfl (fun hc1 => ?_) (fun hc1 => ?_)
  · simp only [decide_eq_true_eq] at hc1
    refine s_move rfl rfl ?_
    refine s_guard_t2 rfl rfl (by ((simp; assumption))) rfl ?_
    refine s_leq rfl rfl rfl ?_
    refine s_pickB rfl rfl rfl rfl ?_
    refine s_assign rfl rfl ?_
    refine SXs_nilK (fr' := [(2, _)]) rfl ?_
    refine KSs_wp ?_
    refine WPs_ret ?_
    refine RLs_start ?_
    refine RLs_tmp rfl ?_
    refine RLs_fin1 ?_
    exact fun w hS => ⟨by simp; omega, hS⟩
  · (exfalso; (simp only [decide_eq_false_iff_not, Bool.not_true] at hc1; omega))
theorem below_spec {g : World} {F : List HP} {n k : Nat} (hn : n < 2 ^ 64) (hk : n < 2 ^ k) :
    RCs Tryz.prog 134 [.int .u64 (n : Int), .int .i64 (k : Int)] g F (fun u w => u = .bool true ∧ St g w F) := by
  refine RCs_of_WPs Tryz.func134 rfl Tryz.ntmps134 rfl Tryz.results134 ?_
  refine WPs_seq ?_
  refine WPs_regionK [0, 1] ?_
  refine s_assign rfl rfl ?_
  refine SXs_nilK (fr' := [(0, _), (1, _)]) rfl ?_
  refine KSs_wp ?_
  refine WPs_seq ?_
  refine WPs_regionK [4] ?_
  refine s_move rfl rfl ?_
  refine s_call Tryz.call153 rfl (vs := [_]) rfl (RCs.perm (by (repeat ((exact List.Perm.refl _)))) (len64_spec hn)) ?_
  rintro v w ⟨rfl, hS⟩
  refine SXs_go hS ?_
  clear hS; clear w
  simp only [putF]
  refine s_move rfl rfl ?_
  refine s_leq rfl rfl rfl ?_
  refine s_assign rfl rfl ?_
  refine SXs_nilK (fr' := [(4, _)]) rfl ?_
  refine KSs_wp ?_
  refine WPs_ret ?_
  refine RLs_start ?_
  refine RLs_tmp rfl ?_
  refine RLs_fin1 ?_
  exact fun w hS => ⟨by have := bl_lt.2 hk; simp; omega, hS⟩

theorem fixed_spec {g : World} {F : List HP} {v : Value} {xs : List UInt8} {n k : Nat} (hR : RdB g F v xs) (hsz : xs.length ≤ 1048576) (h1 : 1 ≤ k) (h8 : k ≤ 8) (hn : n < 2 ^ 64) (hk : n < 2 ^ (8 * k)) :
    RCs Tryz.prog 89 [v, .int .u64 (n : Int), .int .i64 (k : Int)] g F (fun u w => ∃ r, u = .tuple #[r, .int .i64 0] ∧ SlB g (xs ++ le n k) F r w) := by
  refine RCs_of_WPs Tryz.func89 rfl Tryz.ntmps89 rfl Tryz.results89 ?_
  refine WPs_seq ?_
  refine WPs_regionK [0, 1, 2] ?_
  refine s_assign rfl rfl ?_
  refine s_assign rfl rfl ?_
  refine SXs_nilK (fr' := [(0, _), (1, _), (2, _)]) rfl ?_
  refine KSs_wp ?_
  refine WPs_seq ?_
  refine WPs_block ?_
  refine WPs_seq ?_
  refine WPs_regionK [0, 1, 2, 9] ?_
  refine s_move rfl rfl ?_
  refine s_call Tryz.call133 rfl (vs := [_]) rfl (RCs.perm (by (repeat ((exact List.Perm.refl _)))) (sized_spec h1 h8)) ?_
  rintro v w ⟨rfl, hS⟩
  refine SXs_go hS ?_
  clear hS; clear w
  simp only [putF]
  refine s_not rfl rfl ?_
  refine s_assign rfl rfl ?_
  refine SXs_nilK (fr' := [(0, _), (1, _), (2, _), (9, _)]) rfl ?_
  refine KSs_wp ?_
  refine WPs_cond rfl (fun hc1 => ?_) (fun hc1 => ?_)
  · (exfalso; (cases hc1; done))
  · simp only [Bool.not_true] at hc1
    refine WPs_seq ?_
    refine WPs_regionK [0, 1, 2, 13] ?_
    refine s_move rfl rfl ?_
    refine s_move rfl rfl ?_
    refine s_mul_ok rfl rfl rfl (inR_i64 (by omega) (by omega)) ?_
    refine s_call Tryz.call134 rfl (vs := [_, _]) rfl (RCs.perm (by (repeat ((exact List.Perm.refl _)))) (below_spec (k := 8 * k) hn hk)) ?_
    rintro v w ⟨rfl, hS⟩
    refine SXs_go hS ?_
    clear hS; clear w
    simp only [putF]
    refine s_not rfl rfl ?_
    refine s_assign rfl rfl ?_
    refine SXs_nilK (fr' := [(0, _), (1, _), (2, _), (13, _)]) rfl ?_
    refine KSs_wp ?_
    refine WPs_cond rfl (fun hc2 => ?_) (fun hc2 => ?_)
    · (exfalso; (cases hc2; done))
    · simp only [Bool.not_true] at hc2
      refine WPs_skip ?_
      refine KSs_wp ?_
      refine WPs_seq ?_
      refine WPs_regionK [0, 1, 2] ?_
      refine s_move rfl rfl ?_
      refine s_call Tryz.call73 rfl (vs := [_]) rfl (RCs.perm (by (repeat ((exact List.Perm.refl _)))) (clone_spec (xs := xs) hR (by omega))) ?_
      rintro v w ⟨va20, vc20, rfl, hS⟩
      refine SXs_go hS ?_
      clear hS; clear w
      simp only [putF]
      refine s_assign rfl rfl ?_
      refine SXs_nilK (fr' := [(0, _), (1, _), (2, _)]) rfl ?_
      refine KSs_wp ?_
      refine WPs_seq ?_
      refine WPs_seq ?_
      refine WPs_regionK [0, 1, 21, 22] ?_
      refine s_move rfl rfl ?_
      refine s_move rfl rfl ?_
      refine SXs_nilK (fr' := [(0, _), (1, _), (21, _), (22, _)]) rfl ?_
      refine KSs_wp ?_
      refine WPs_block ?_
      refine WPs_loopS (ks := [22, 0, 1, 21]) (fun ((i, sv) : (Nat) × (Value)) => [(22, .int .i64 (i : Int)), (0, sv)]) (fun ((i, sv) : (Nat) × (Value)) => ownB sv (xs ++ le n i) :: F) (fun ((i, sv) : (Nat) × (Value)) => i ≤ k) (fun ((i, sv) : (Nat) × (Value)) => k - i) ((0, .slice va20 xs.length vc20)) rfl (fun w hS => by simpa [le] using hS) (Nat.zero_le _) ?_
      rintro ⟨i, sv⟩ hok
      dsimp only [List.cons_append, List.nil_append] at hok ⊢
      refine WPs_seq ?_
      refine WPs_regionK [0, 1, 21, 22, 23] ?_
      refine s_lss rfl rfl rfl ?_
      refine SXs_nilK (fr' := [(0, _), (1, _), (21, _), (22, _), (23, _)]) rfl ?_
      refine KSs_wp ?_
      refine WPs_seq ?_
      refine WPs_cond rfl (fun hc3 => ?_) (fun hc3 => ?_)
      · simp only [decide_eq_true_eq] at hc3
        refine WPs_skip ?_
        refine KSs_wp ?_
        refine WPs_seq ?_
        refine WPs_block ?_
        refine WPs_seq ?_
        refine WPs_regionK [0, 1, 8, 21, 22] ?_
        refine s_move rfl rfl ?_
        refine s_assign rfl rfl ?_
        refine SXs_nilK (fr' := [(0, _), (1, _), (8, _), (21, _), (22, _)]) rfl ?_
        refine KSs_wp ?_
        refine WPs_regionK [0, 1, 21, 22] ?_
        have hlen : (xs ++ le n i).length = xs.length + i := by simp [le_length]
        refine s_move rfl rfl ?_
        refine s_move rfl rfl ?_
        refine s_move rfl rfl ?_
        refine s_mul_ok rfl rfl rfl (inR_i64 (by omega) (by omega)) ?_
        refine s_shrN (b := 8 * i) rfl rfl rfl (by show _ < 65; omega) ?_
        refine s_conv Tryz.underlying36 Tryz.underlying5 rfl rfl (wrap_u8 _) ?_
        refine s_buildSlice (vs := [(0, _)]) (cs := [_]) rfl rfl (buildSlice_one slt_42 rfl rfl (by decide)) (fun b31 => ?_)
        refine s_append (i := 1) slt_42 rfl rfl rfl rfl (by exact pt_RdIn (i := 0) rfl rfl rfl (by omega) (by simp only [maxLen]; omega)) (by ((rfl))) (by ((simp only [maxLen]; omega))) (by ((omega))) (fun va32 vc32 => ?_)
        simp only [List.set_cons_zero, List.set_cons_succ]
        refine s_assign rfl rfl ?_
        refine SXs_nilK (fr' := [(0, _), (1, _), (21, _), (22, _)]) rfl ?_
        refine KSs_wp ?_
        refine WPs_regionK [0, 1, 21, 22] ?_
        refine s_add_ok rfl rfl rfl (inR_i64 (by omega) (by omega)) ?_
        refine s_move rfl rfl ?_
        refine SXs_nilK (fr' := [(0, _), (1, _), (21, _), (22, _)]) rfl ?_
        exact fun w hS => ⟨(i + 1, _), rfl, by
                      exact ownB_of (xs := xs ++ le n (i + 1)) hS.tail (by rw [le_succ, ← List.append_assoc, bv_snoc]; rfl), by (omega), by (omega)⟩
      · simp only [decide_eq_false_iff_not] at hc3
        refine WPs_exit rfl ?_
        refine KSs_wp ?_
        refine WPs_seq ?_
        refine WPs_regionK [6, 7] ?_
        refine s_move rfl rfl ?_
        refine s_assign rfl rfl ?_
        refine s_assign rfl rfl ?_
        refine SXs_nilK (fr' := [(6, _), (7, _)]) rfl ?_
        refine KSs_wp ?_
        refine WPs_ret ?_
        refine RLs_start ?_
        refine RLs_tmp rfl ?_
        refine RLs_tmp rfl ?_
        refine RLs_fin2 ?_
        exact fun w hS => ⟨_, rfl, SlQ.of (by
            have e : i = k := by omega
            subst e
            exact hS)⟩

theorem shl_lt {c i : Nat} (hc : c < 256) (hi : i < 8) : c <<< (8 * i) < 2 ^ 64 := by
  rw [Nat.shiftLeft_eq]
  calc c * 2 ^ (8 * i) < 256 * 2 ^ (8 * i) := Nat.mul_lt_mul_of_pos_right hc (Nat.pow_pos (by decide))
    _ = 2 ^ (8 + 8 * i) := by rw [Nat.pow_add]
    _ ≤ 2 ^ 64 := Nat.pow_le_pow_right (by decide) (by omega)
theorem or_shl {a c i : Nat} (ha : a < 2 ^ i) : a ||| c <<< i = a + c * 2 ^ i := by
  rw [Nat.or_comm, ← Nat.shiftLeft_add_eq_or_of_lt ha, Nat.shiftLeft_eq, Nat.add_comm]

theorem read_spec {g : World} {F : List HP} {v : Value} {xs : List UInt8} {k : Nat} (hR : RdB g F v xs) (h1 : 1 ≤ k) (h8 : k ≤ 8) (hk : k ≤ xs.length) :
    RCs Tryz.prog 131 [v, .int .i64 (k : Int)] g F (fun u w => u = .tuple #[.int .u64 (rdN (xs.take k) : Int), .int .i64 0] ∧ St g w F) := by
  have hmx := hR.2.1
  simp only [maxLen] at hmx
  refine RCs_of_WPs Tryz.func131 rfl Tryz.ntmps131 rfl Tryz.results131 ?_
  refine WPs_seq ?_
  refine WPs_regionK [0, 1] ?_
  refine s_assign rfl rfl ?_
  refine s_assign rfl rfl ?_
  refine SXs_nilK (fr' := [(0, _), (1, _)]) rfl ?_
  refine KSs_wp ?_
  refine WPs_seq ?_
  refine WPs_block ?_
  refine WPs_seq ?_
  refine WPs_regionK [0, 1, 8] ?_
  refine s_move rfl rfl ?_
  refine s_call Tryz.call133 rfl (vs := [_]) rfl (RCs.perm (by (repeat ((exact List.Perm.refl _)))) (sized_spec h1 h8)) ?_
  rintro v w ⟨rfl, hS⟩
  refine SXs_go hS ?_
  clear hS; clear w
  simp only [putF]
  refine s_not rfl rfl ?_
  refine s_assign rfl rfl ?_
  refine SXs_nilK (fr' := [(0, _), (1, _), (8, _)]) rfl ?_
  refine KSs_wp ?_
  refine WPs_cond rfl (fun hc1 => ?_) (fun hc1 => ?_)
  · (exfalso; (cases hc1; done))
  · simp only [Bool.not_true] at hc1
    refine WPs_seq ?_
    refine WPs_regionK [0, 1, 12] ?_
    refine s_move rfl rfl ?_
    refine s_lenRd rfl Tryz.underlying42 rfl rfl (by ((assumption))) ?_
    refine s_move rfl rfl ?_
    refine s_lss rfl rfl rfl ?_
    refine s_assign rfl rfl ?_
    refine SXs_nilK (fr' := [(0, _), (1, _), (12, _)]) rfl ?_
    refine KSs_wp ?_
    refine WPs_cond rfl (fun hc2 => ?_) (fun hc2 => ?_)
    · (exfalso; (simp only [decide_eq_true_eq] at hc2; omega))
    · simp only [decide_eq_false_iff_not] at hc2
      refine WPs_skip ?_
      refine KSs_wp ?_
      refine WPs_seq ?_
      refine WPs_regionK [0, 1, 6] ?_
      refine s_assign rfl rfl ?_
      refine SXs_nilK (fr' := [(0, _), (1, _), (6, _)]) rfl ?_
      refine KSs_wp ?_
      refine WPs_seq ?_
      refine WPs_seq ?_
      refine WPs_regionK [0, 6, 17, 18] ?_
      refine s_move rfl rfl ?_
      refine s_move rfl rfl ?_
      refine SXs_nilK (fr' := [(0, _), (6, _), (17, _), (18, _)]) rfl ?_
      refine KSs_wp ?_
      refine WPs_block ?_
      refine WPs_loopS (ks := [18, 6, 0, 17]) (fun (i : Nat) => [(18, .int .i64 (i : Int)), (6, .int .u64 (rdN (xs.take i) : Int))]) (fun (i : Nat) => F) (fun (i : Nat) => i ≤ k) (fun (i : Nat) => k - i) (0) rfl (fun w hS => hS) (Nat.zero_le _) ?_
      rintro i hok
      dsimp only [List.cons_append, List.nil_append] at hok ⊢
      refine WPs_seq ?_
      refine WPs_regionK [0, 6, 17, 18, 19] ?_
      refine s_lss rfl rfl rfl ?_
      refine SXs_nilK (fr' := [(0, _), (6, _), (17, _), (18, _), (19, _)]) rfl ?_
      refine KSs_wp ?_
      refine WPs_seq ?_
      refine WPs_cond rfl (fun hc3 => ?_) (fun hc3 => ?_)
      · simp only [decide_eq_true_eq] at hc3
        refine WPs_skip ?_
        refine KSs_wp ?_
        refine WPs_seq ?_
        refine WPs_block ?_
        refine WPs_seq ?_
        refine WPs_regionK [0, 6, 7, 17, 18] ?_
        refine s_move rfl rfl ?_
        refine s_assign rfl rfl ?_
        refine SXs_nilK (fr' := [(0, _), (6, _), (7, _), (17, _), (18, _)]) rfl ?_
        refine KSs_wp ?_
        refine WPs_regionK [0, 6, 17, 18] ?_
        have hi : i < xs.length := by omega
        obtain ⟨c, hc⟩ : ∃ c, xs[i]? = some c := ⟨_, List.getElem?_eq_getElem hi⟩
        have hti : xs.take (i + 1) = xs.take i ++ [c] := by rw [List.take_add_one, hc]; rfl
        have hl : (xs.take i).length = i := by simp; omega
        have hlt : rdN (xs.take i) < 2 ^ (8 * i) := by have := rdN_lt (xs.take i); rwa [hl] at this
        have hlt64 : rdN (xs.take i) < 2 ^ 64 := Nat.lt_of_lt_of_le hlt (Nat.pow_le_pow_right (by decide) (by omega))
        have hcell : ((bv xs).drop ((i : Int).toNat * 1))[0]? = some (.int .u8 (c.toNat : Int)) := by simp [bv_get, hc]
        refine s_move rfl rfl ?_
        refine s_move rfl rfl ?_
        refine s_move rfl rfl ?_
        refine s_idxRd slt_42 rfl rfl (by ((assumption))) rfl (by omega) (by omega) (fun b24 o24 hc24 => ?_)
        refine s_load1 Tryz.isAgg5 rfl rfl (hc24.at0 (by rw [List.getElem?_take_of_lt (by omega)]; exact hcell)) ?_
        refine s_conv_ok Tryz.underlying5 Tryz.underlying36 rfl rfl (inR_u64 (by omega) (by have := c.toNat_lt; omega)) ?_
        refine s_move rfl rfl ?_
        refine s_mul_ok rfl rfl rfl (inR_i64 (by omega) (by omega)) ?_
        refine s_shlN (b := 8 * i) rfl rfl rfl rfl (by show _ < 65; omega) (shl_lt c.toNat_lt (by omega)) ?_
        refine s_orN rfl rfl rfl rfl hlt64 (shl_lt c.toNat_lt (by omega)) ?_
        rw [or_shl hlt]
        rw [show rdN (xs.take i) + c.toNat * 2 ^ (8 * i) = rdN (xs.take (i + 1)) from by rw [hti, rdN_snoc, hl]]
        refine s_assign rfl rfl ?_
        refine SXs_nilK (fr' := [(0, _), (6, _), (17, _), (18, _)]) rfl ?_
        refine KSs_wp ?_
        refine WPs_regionK [0, 6, 17, 18] ?_
        refine s_add_ok rfl rfl rfl (inR_i64 (by omega) (by omega)) ?_
        refine s_move rfl rfl ?_
        refine SXs_nilK (fr' := [(0, _), (6, _), (17, _), (18, _)]) rfl ?_
        exact fun w hS => ⟨i + 1, rfl, hS, by (omega), by (omega)⟩
      · simp only [decide_eq_false_iff_not] at hc3
        refine WPs_exit rfl ?_
        refine KSs_wp ?_
        refine WPs_seq ?_
        refine WPs_regionK [4, 5] ?_
        refine s_move rfl rfl ?_
        refine s_assign rfl rfl ?_
        refine s_assign rfl rfl ?_
        refine SXs_nilK (fr' := [(4, _), (5, _)]) rfl ?_
        refine KSs_wp ?_
        refine WPs_ret ?_
        refine RLs_start ?_
        refine RLs_tmp rfl ?_
        refine RLs_tmp rfl ?_
        refine RLs_fin2 ?_
        exact fun w hS => ⟨by
            have e : i = k := by omega
            subst e
            rfl, hS⟩
end Go.Proofs.YthodbnmeggkkoaaGreatDoor
