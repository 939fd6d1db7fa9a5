/-
  Part 1 of the texts that the claim leans on: A1 A2 A3 A4 A5 A6 A7 A71 A9 A10 A8 A11 A12.
-/
import Derived.WalkKit
import Derived.Deep.Quiet
import Derived.OrdersHeld
import Derived.Test.YthodbnmeggkkoaaGreatDoorChecked
import Derived.Laws.CopyOwn
import Derived.Laws.OwnMore
import Derived.RangeFuncRecord
import Derived.RangeFuncLeaves
import Derived.RangeFuncCalls
import Derived.TacticsIn
/-
  Frames as association lists, and a weakest precondition over them: the ground of the walks of this claim (generic in the program).
-/
namespace Go.Hb
open Go

/-- A frame: what is known of the slots, the youngest first. -/
abbrev Fr := List (Nat × Value)

def lkO : Fr → Nat → Option Value
  | [], _ => none
  | (u, v) :: r, t => if u = t then some v else lkO r t

def lk (fr : Fr) (t : Nat) : Value := (lkO fr t).getD undef

def evF (fr : Fr) : Operand → Value
  | .tmp t => lk fr t
  | .const v => v
  | .global g => .pointer (some ⟨g, 0, none⟩)
  | .func f => .func (.func f) #[] #[]

def inF (fr : Fr) : Operand → Bool
  | .tmp t => (lkO fr t).isSome
  | _ => true

structure Agr (n : Nat) (a : Act) (fr : Fr) : Prop where
  defers : a.defers = []
  size : a.tmps.size = n
  holds : ∀ t v, lkO fr t = some v → a.tmps[t]? = some v

theorem Agr.eval {n : Nat} {a : Act} {fr : Fr} (h : Agr n a fr) {x : Operand} (hx : inF fr x = true) : a.eval x = evF fr x := by
  cases x with
  | tmp t =>
    simp only [inF] at hx
    cases hl : lkO fr t with
    | none => rw [hl] at hx; cases hx
    | some v =>
      have := h.holds t v hl
      simp [Act.eval, evF, lk, hl, this]
  | const v => rfl
  | global g => rfl
  | func f => rfl

theorem Agr.put {n : Nat} {a : Act} {fr : Fr} (h : Agr n a fr) {d : Nat} (hd : d < n) (v : Value) : Agr n (a.put (some d) v) ((d, v) :: fr) := by
  refine ⟨h.defers, by simp [Act.put, h.size], fun t u hu => ?_⟩
  simp only [lkO] at hu
  by_cases e : d = t
  · subst e
    rw [if_pos rfl] at hu
    cases hu
    have : d < a.tmps.size := by rw [h.size]; exact hd
    simp [Act.put, this]
  · rw [if_neg e] at hu
    have := h.holds t u hu
    simp only [Act.put]
    rw [Array.getElem?_setIfInBounds_ne e]
    exact this

def putF (fr : Fr) : Option Nat → Value → Fr
  | none, _ => fr
  | some d, v => (d, v) :: fr

def dstOk (n : Nat) : Option Nat → Bool
  | none => true
  | some d => Nat.blt d n

theorem Agr.putF {n : Nat} {a : Act} {fr : Fr} (h : Agr n a fr) {d : Option Nat} (hd : dstOk n d = true) (v : Value) : Agr n (a.put d v) (putF fr d v) := by
  cases d with
  | none => exact h
  | some d => exact h.put (by simpa [dstOk, Nat.blt_eq] using hd) v

/-- Only some slots are kept. -/
def restr (ks : List Nat) (fr : Fr) : Fr := ks.filterMap fun t => (lkO fr t).map fun v => (t, v)

theorem lkO_restr {ks : List Nat} {fr : Fr} {t : Nat} {v : Value} (h : lkO (restr ks fr) t = some v) : lkO fr t = some v := by
  induction ks with
  | nil => simp [restr, lkO] at h
  | cons k ks ih =>
    simp only [restr, List.filterMap_cons] at h
    cases hk : lkO fr k with
    | none => simp only [hk, Option.map_none] at h; exact ih h
    | some u =>
      simp only [hk, Option.map_some, lkO] at h
      by_cases e : k = t
      · subst e; rw [if_pos rfl] at h; cases h; exact hk
      · rw [if_neg e] at h; exact ih h

theorem Agr.restr {n : Nat} {a : Act} {fr : Fr} (h : Agr n a fr) (ks : List Nat) : Agr n a (restr ks fr) :=
  ⟨h.defers, h.size, fun t v hv => h.holds t v (lkO_restr hv)⟩

/-- What follows: behind a return; behind each exit. -/
structure Ks where
  ret : Fr → World → Prop
  ex : List (Nat × (Fr → World → Prop))

def atX : List (Nat × (Fr → World → Prop)) → Nat → Fr → World → Prop
  | [], _ => fun _ _ => False
  | (i, k) :: r, id => if i = id then k else atX r id

def liftQ (n : Nat) (K : Fr → World → Prop) (X : Ks) : Exit → Act → World → Prop
  | .normal, a, w => ∃ fr, Agr n a fr ∧ K fr w
  | .ret, a, w => ∃ fr, Agr n a fr ∧ X.ret fr w
  | .exit id, a, w => ∃ fr, Agr n a fr ∧ atX X.ex id fr w
  | _, _, _ => False

/-- The weakest precondition over frames. -/
def WP (P : Program) (n : Nat) (c : Code) (fr : Fr) (w : World) (K : Fr → World → Prop) (X : Ks) : Prop :=
  ∀ a, Agr n a fr → c.wp P (liftQ n K X) a w

section
variable {P : Program} {n : Nat} {fr : Fr} {w : World} {K : Fr → World → Prop} {X : Ks}

theorem WP_mono {c : Code} {K' : Fr → World → Prop} (h : WP P n c fr w K X) (hk : ∀ fr w, K fr w → K' fr w) : WP P n c fr w K' X := fun a ha =>
  Code.wp_mono (fun e a w q => by
    cases e <;> first
      | exact q
      | (obtain ⟨fr, h1, h2⟩ := q; exact ⟨fr, h1, hk _ _ h2⟩)) (h a ha)

theorem WP_keep (ks : List Nat) {c : Code} (h : WP P n c (restr ks fr) w K X) : WP P n c fr w K X := fun a ha => h a (ha.restr ks)

theorem WP_skip (h : K fr w) : WP P n .skip fr w K X := fun _ ha => wp_skip ⟨fr, ha, h⟩
theorem WP_ret (h : X.ret fr w) : WP P n .ret fr w K X := fun _ ha => wp_ret ⟨fr, ha, h⟩
theorem WP_exit {id : Nat} (h : atX X.ex id fr w) : WP P n (.exit id) fr w K X := fun _ ha => wp_exit ⟨fr, ha, h⟩

theorem WP_seq {c d : Code} (h : WP P n c fr w (fun fr' w' => WP P n d fr' w' K X) X) : WP P n (.seq c d) fr w K X := fun a ha =>
  wp_seq (Code.wp_mono (fun e a w q => by
    cases e <;> first
      | exact q
      | (obtain ⟨fr, h1, h2⟩ := q; exact h2 a h1)) (h a ha))

theorem WP_block {id : Nat} {c : Code} (h : WP P n c fr w K ⟨X.ret, (id, K) :: X.ex⟩) : WP P n (.block id c) fr w K X := fun a ha =>
  wp_block (Code.wp_mono (fun e a w q => by
    cases e with
    | exit i =>
      obtain ⟨fr, h1, h2⟩ := q
      simp only [atX] at h2
      simp only [Exit.inBlock]
      by_cases e : i = id
      · subst e; rw [if_pos rfl] at h2; rw [if_pos rfl]; exact ⟨fr, h1, h2⟩
      · rw [if_neg (Ne.symm e)] at h2; rw [if_neg e]; exact ⟨fr, h1, h2⟩
    | normal => exact q
    | ret => exact q
    | goto _ => exact q
    | panic _ => exact q
    | outgrown => exact q) (h a ha))

theorem WP_cond {c : Operand} {x y : Code} {t : Bool} (hin : inF fr c = true) (hc : evF fr c = .bool t) (ht : t = true → WP P n x fr w K X)
    (hf : t = false → WP P n y fr w K X) : WP P n (.cond c x y) fr w K X := fun a ha =>
  wp_cond_split (by rw [ha.eval hin]; exact hc) (fun e => ht e a ha) (fun e => hf e a ha)

theorem WP_cond_t {c : Operand} {x y : Code} (hin : inF fr c = true) (hc : evF fr c = .bool true) (ht : WP P n x fr w K X) : WP P n (.cond c x y) fr w K X :=
  WP_cond hin hc (fun _ => ht) (fun e => by cases e)
theorem WP_cond_f {c : Operand} {x y : Code} (hin : inF fr c = true) (hc : evF fr c = .bool false) (ht : WP P n y fr w K X) : WP P n (.cond c x y) fr w K X :=
  WP_cond hin hc (fun e => by cases e) (fun _ => ht)

/-- A loop: what holds at each round's head, and a measure. -/
theorem WP_loop {c : Code} (I : Fr → World → Prop) (μ : Fr → World → Nat) (h0 : I fr w)
    (round : ∀ fr w, I fr w → WP P n c fr w (fun fr' w' => I fr' w' ∧ μ fr' w' < μ fr w) X) : WP P n (.loop c) fr w K X := by
  intro a ha b k cs
  have key : ∀ m fr a w, μ fr w = m → I fr w → Agr n a fr →
      ∃ e a' w', liftQ n K X e a' w' ∧ Arrives P (lone (b.at a (.code c :: .inLoop c :: k)) cs w) b k cs e a' w' := by
    intro m
    induction m using Nat.strongRecOn with
    | _ m ih =>
      intro fr a w hm hI ha
      obtain ⟨e, a₁, w₁, hq, harr⟩ := round fr w hI a ha b (.inLoop c :: k) cs
      cases e with
      | normal =>
        obtain ⟨fr1, ha1, hI1, hlt⟩ := hq
        obtain ⟨e₂, a₂, w₂, hq₂, harr₂⟩ := ih (μ fr1 w₁) (hm ▸ hlt) fr1 a₁ w₁ rfl hI1 ha1
        exact ⟨e₂, a₂, w₂, hq₂, .of_steps (Steps.trans harr (.one step_inLoop)) harr₂⟩
      | exit id => exact ⟨.exit id, a₁, w₁, hq, .pass (x := .inLoop c) rfl (fun _ _ => .inl (by simp)) harr⟩
      | goto l => exact hq.elim
      | ret => exact ⟨.ret, a₁, w₁, hq, .pass (x := .inLoop c) rfl (fun _ _ => .inl (by simp)) harr⟩
      | panic ch => exact hq.elim
      | outgrown => exact hq.elim
  obtain ⟨e, a', w', hq, harr⟩ := key _ fr a w rfl h0 ha
  exact ⟨e, a', w', hq, .of_steps (.one step_loop) harr⟩

/-- The same with a state beside the frame. -/
theorem WP_loopS {σ : Type} {c : Code} (I : σ → Fr → World → Prop) (μ : σ → Nat) (s0 : σ) (h0 : I s0 fr w)
    (round : ∀ s fr w, I s fr w → WP P n c fr w (fun fr' w' => ∃ s', I s' fr' w' ∧ μ s' < μ s) X) : WP P n (.loop c) fr w K X := by
  intro a ha b k cs
  have key : ∀ m s fr a w, μ s = m → I s fr w → Agr n a fr →
      ∃ e a' w', liftQ n K X e a' w' ∧ Arrives P (lone (b.at a (.code c :: .inLoop c :: k)) cs w) b k cs e a' w' := by
    intro m
    induction m using Nat.strongRecOn with
    | _ m ih =>
      intro s fr a w hm hI ha
      obtain ⟨e, a₁, w₁, hq, harr⟩ := round s fr w hI a ha b (.inLoop c :: k) cs
      cases e with
      | normal =>
        obtain ⟨fr1, ha1, s1, hI1, hlt⟩ := hq
        obtain ⟨e₂, a₂, w₂, hq₂, harr₂⟩ := ih (μ s1) (hm ▸ hlt) s1 fr1 a₁ w₁ rfl hI1 ha1
        exact ⟨e₂, a₂, w₂, hq₂, .of_steps (Steps.trans harr (.one step_inLoop)) harr₂⟩
      | exit id => exact ⟨.exit id, a₁, w₁, hq, .pass (x := .inLoop c) rfl (fun _ _ => .inl (by simp)) harr⟩
      | goto l => exact hq.elim
      | ret => exact ⟨.ret, a₁, w₁, hq, .pass (x := .inLoop c) rfl (fun _ _ => .inl (by simp)) harr⟩
      | panic ch => exact hq.elim
      | outgrown => exact hq.elim
  obtain ⟨e, a', w', hq, harr⟩ := key _ s0 fr a w rfl h0 ha
  exact ⟨e, a', w', hq, .of_steps (.one step_loop) harr⟩

/-- A call that returns: what it hands back, and the world then. -/
def RC (P : Program) (f : FuncId) (args : Array Value) (w : World) (k : Value → World → Prop) : Prop :=
  Calls P f args w fun e w' => ∃ v, e = .returned v ∧ k v w'

theorem RC.mono {f : FuncId} {args : Array Value} {k k' : Value → World → Prop} (h : RC P f args w k) (hk : ∀ v w, k v w → k' v w) : RC P f args w k' :=
  Calls.mono h fun _ _ ⟨v, he, hv⟩ => ⟨v, he, hk _ _ hv⟩

/-- What an operation's run leads to. -/
def OX (P : Program) (s : Sem Next) (w : World) (k : Value → World → Prop) : Prop :=
  match s.run P w with
  | .ok (.value v) w' => k v w'
  | .ok .skip w' => k undef w'
  | .ok (.enter f args) w' => RC P f args w' k
  | _ => False

theorem OX.mono {s : Sem Next} {k k' : Value → World → Prop} (h : OX P s w k) (hk : ∀ v w, k v w → k' v w) : OX P s w k' := by
  unfold OX at *
  split at h <;> first
    | exact hk _ _ h
    | exact RC.mono h hk
    | exact h.elim

def noSel : Op → Bool
  | .select .. => false
  | _ => true

def okOp (fr : Fr) (o : Op) : Bool := noSel o && o.operands.toList.all (inF fr)

theorem exec_agr {a : Act} (ha : Agr n a fr) {o : Oper} (ho : okOp fr o.op = true) : execOp a.eval o = execOp (evF fr) o := by
  simp only [okOp, Bool.and_eq_true, List.all_eq_true] at ho
  refine execOp_congr o (fun cs b e => by rw [e] at ho; simp [noSel] at ho) fun x hx => ha.eval (ho.2 x (by simpa using hx))

/-- The operations of a region that are left. -/
def SX (P : Program) (n : Nat) (ops : Array Oper) (l : List Oper) (fr : Fr) (w : World) (K : Fr → World → Prop) (X : Ks) : Prop :=
  ∀ a, Agr n a fr → wpList P ops (liftQ n K X) l a w

theorem WP_region {id : Nat} {l : List Oper} (h : SX P n l.toArray l fr w K X) : WP P n (.region id l.toArray false) fr w K X :=
  fun a ha => wp_region_lit (h a ha)

theorem WP_regionK (ks : List Nat) {id : Nat} {l : List Oper} (h : SX P n l.toArray l fr w (fun fr' w' => K (restr ks fr') w') X) :
    WP P n (.region id l.toArray false) fr w K X := fun a ha =>
  wp_region_lit (wpList_weak (h a ha))
where
  wpList_weak {l : List Oper} {ops : Array Oper} {a : Act} {w : World} (h : wpList P ops (liftQ n (fun fr' w' => K (restr ks fr') w') X) l a w) : wpList P ops (liftQ n K X) l a w := by
    induction l generalizing a w with
    | nil =>
      obtain ⟨fr, h1, h2⟩ := h
      exact ⟨_, h1.restr ks, h2⟩
    | cons o l ih =>
      unfold wpList at h ⊢
      split
      · rename_i hw
        rw [if_pos hw] at h
        rcases h with h | ⟨_, a₀, w₀, hq⟩
        · refine .inl ?_
          unfold Oper.wp at *
          generalize (execOp a.eval o).run P w = r at *
          cases r with
          | ok nx w' =>
            cases nx <;> simp only [Oper.upon] at h ⊢ <;>
              first
                | exact ih h
                | exact Calls.mono h (fun e w'' he => by
                    cases e with
                    | returned v => exact ih he
                    | panicked c => exact he
                    | outgrown => obtain ⟨_, _, hq⟩ := he; exact hq.elim)
                | exact Go.Rows.mono h (fun _ _ he => ih he)
                | exact h
          | halt x w' => cases x <;> simp only [Oper.upon] at h ⊢ <;> exact h
        · exact hq.elim
      · rename_i hw
        rw [if_neg hw] at h
        exact ih h

variable {ops : Array Oper}

theorem SX_nil (h : K fr w) : SX P n ops [] fr w K X := fun _ ha => ⟨fr, ha, h⟩

theorem SX_run {o : Oper} {rest : List Oper} {a : Act} (ha : Agr n a fr) (hok : okOp fr o.op = true) (hd : dstOk n o.dst = true)
    (h : OX P (execOp (evF fr) o) w (fun v w' => SX P n ops rest (putF fr o.dst v) w' K X)) : o.wp P a w (wpList P ops (liftQ n K X) rest) (liftQ n K X) := by
  unfold Oper.wp
  rw [exec_agr ha hok]
  unfold OX at h
  generalize (execOp (evF fr) o).run P w = r at *
  cases r with
  | ok nx w' =>
    cases nx <;> simp only [Oper.upon] at h ⊢ <;> first
      | exact h _ (ha.putF hd _)
      | exact Calls.mono h (fun e w'' he => by
          obtain ⟨v, rfl, hv⟩ := he
          exact hv _ (ha.putF hd _))
      | exact h.elim
  | halt x w' => exact h.elim

theorem SX_cons {o : Oper} {rest : List Oper} (hg : o.guard = none) (hok : okOp fr o.op = true) (hd : dstOk n o.dst = true)
    (h : OX P (execOp (evF fr) o) w (fun v w' => SX P n ops rest (putF fr o.dst v) w' K X)) : SX P n ops (o :: rest) fr w K X := fun a ha => by
  unfold wpList
  rw [if_pos (by simp [Region.wanted, hg])]
  exact .inl (SX_run ha hok hd h)

theorem yielded_agr {a : Act} (ha : Agr n a fr) {j dj : Nat} {v : Value} (hdj : (ops[j]?).bind (·.dst) = some dj) (hl : lkO fr dj = some v) :
    yielded ops a.tmps j = match v with | .bool b => some b | _ => none := by
  unfold yielded
  rw [hdj, Option.bind_some, ha.holds _ _ hl]
  cases v <;> rfl

theorem SX_guard_t {o : Oper} {rest : List Oper} {j dj : Nat} {b : Bool} (hg : o.guard = some (j, b)) (hdj : (ops[j]?).bind (·.dst) = some dj) (hl : lkO fr dj = some (.bool b))
    (hok : okOp fr o.op = true) (hd : dstOk n o.dst = true)
    (h : OX P (execOp (evF fr) o) w (fun v w' => SX P n ops rest (putF fr o.dst v) w' K X)) : SX P n ops (o :: rest) fr w K X := fun a ha => by
  unfold wpList
  rw [if_pos (by simp [Region.wanted, hg, yielded_agr ha hdj hl])]
  exact .inl (SX_run ha hok hd h)

theorem SX_guard_f {o : Oper} {rest : List Oper} {j dj : Nat} {b : Bool} (hg : o.guard = some (j, b)) (hdj : (ops[j]?).bind (·.dst) = some dj) (hl : lkO fr dj = some (.bool !b))
    (hd : dstOk n o.dst = true) (h : SX P n ops rest (putF fr o.dst undef) w K X) : SX P n ops (o :: rest) fr w K X := fun a ha => by
  unfold wpList
  rw [if_neg (by simp [Region.wanted, hg, yielded_agr ha hdj hl])]
  exact h _ (ha.putF hd _)

theorem SX_guard_u {o : Oper} {rest : List Oper} {j dj : Nat} {b : Bool} (hg : o.guard = some (j, b)) (hdj : (ops[j]?).bind (·.dst) = some dj) (hl : lkO fr dj = some undef)
    (hd : dstOk n o.dst = true) (h : SX P n ops rest (putF fr o.dst undef) w K X) : SX P n ops (o :: rest) fr w K X := fun a ha => by
  unfold wpList
  rw [if_neg (by simp [Region.wanted, hg, yielded_agr ha hdj hl, undef])]
  exact h _ (ha.putF hd _)

/-! ### Results -/

def LV (P : Program) (t : TypeId) (x : Value) (w : World) (k : Value → Prop) : Prop :=
  ∃ a v, x = .pointer (some a) ∧ (loadVar t a).run P w = .ok v w ∧ k v

def RL (P : Program) : List ResultVar → Fr → World → (List Value → Prop) → Prop
  | [], _, _, k => k []
  | .tmp t :: r, fr, w, k => ∃ v, lkO fr t = some v ∧ RL P r fr w (fun vs => k (v :: vs))
  | .cell a t :: r, fr, w, k => ∃ x, lkO fr a = some x ∧ LV P t x w (fun v => RL P r fr w (fun vs => k (v :: vs)))

def packV : List Value → Value
  | [v] => v
  | vs => .tuple vs.toArray

theorem RL.mono {rs : List ResultVar} : ∀ {k k' : List Value → Prop}, RL P rs fr w k → (∀ vs, k vs → k' vs) → RL P rs fr w k' := by
  induction rs with
  | nil => intro k k' h hk; exact hk _ h
  | cons r rs ih =>
    intro k k' h hk
    cases r with
    | tmp t => obtain ⟨v, h1, h2⟩ := h; exact ⟨v, h1, ih h2 (fun vs => hk _)⟩
    | cell a t => obtain ⟨x, h1, a', v, h2, h3, h4⟩ := h; exact ⟨x, h1, a', v, h2, h3, ih h4 (fun vs => hk _)⟩

def resV (tmps : Array Value) : ResultVar → Sem Value
  | .tmp t => pure (tmps.getD t undef)
  | .cell b t => do loadVar t (← asAddr (tmps.getD b undef))

theorem RL_run {a : Act} (ha : Agr n a fr) : ∀ (rs : List ResultVar) (k : List Value → Prop), RL P rs fr w k →
    ∃ vs, (rs.mapM (resV a.tmps)).run P w = .ok vs w ∧ k vs := by
  intro rs
  induction rs with
  | nil => intro k h; exact ⟨[], rfl, h⟩
  | cons r rs ih =>
    intro k h
    cases r with
    | tmp t =>
      obtain ⟨v, h1, h2⟩ := h
      obtain ⟨vs, h3, h4⟩ := ih _ h2
      refine ⟨v :: vs, ?_, h4⟩
      have := ha.holds _ _ h1
      rw [List.mapM_cons]
      simp only [Sem.run_bind, resV, Sem.run_pure, Result.andThen_ok]
      rw [h3]
      simp [this]
    | cell b t =>
      obtain ⟨x, h1, a', v, rfl, h2, h4⟩ := h
      obtain ⟨vs, h5, h6⟩ := ih _ h4
      refine ⟨v :: vs, ?_, h6⟩
      have := ha.holds _ _ h1
      have hD : a.tmps.getD b undef = .pointer (some a') := by simp [this]
      rw [List.mapM_cons]
      simp only [Sem.run_bind, resV, hD, asAddr, Sem.run_pure, Result.andThen_ok, h2]
      rw [h5]
      simp

theorem results_run {fn : Func} {a : Act} (ha : Agr n a fr) {k : List Value → Prop} (h : RL P fn.results.toList fr w k) :
    ∃ vs, (results fn a.tmps).run P w = .ok (packV vs) w ∧ k vs := by
  obtain ⟨vs, h1, h2⟩ := RL_run ha _ _ h
  refine ⟨vs, ?_, h2⟩
  have e : results fn a.tmps = (fn.results.mapM (resV a.tmps) >>= fun vs => pure (if h : vs.size = 1 then vs[0] else .tuple vs)) := by
    unfold results
    congr 1
  rw [e, Array.mapM_eq_mapM_toList]
  simp only [Sem.run_bind, Sem.run_map, h1, Result.andThen_ok, Sem.run_pure]
  congr 1
  match vs with
  | [] => rfl
  | [v] => rfl
  | v :: u :: vs => rfl

def argFr : Nat → List Value → Fr
  | _, [] => []
  | i, v :: vs => (i, v) :: argFr (i + 1) vs

theorem lkO_argFr : ∀ (vs : List Value) (i t : Nat) (v : Value), lkO (argFr i vs) t = some v → i ≤ t ∧ vs[t - i]? = some v := by
  intro vs
  induction vs with
  | nil => intro i t v h; simp [argFr, lkO] at h
  | cons u vs ih =>
    intro i t v h
    simp only [argFr, lkO] at h
    by_cases e : i = t
    · subst e; rw [if_pos rfl] at h; cases h; simp
    · rw [if_neg e] at h
      obtain ⟨h1, h2⟩ := ih _ _ _ h
      refine ⟨by omega, ?_⟩
      have : t - i = (t - (i + 1)) + 1 := by omega
      rw [this, List.getElem?_cons_succ]
      exact h2

/-- A function's contract, by its body. -/
theorem RC_of_WP {f : FuncId} {fn : Func} {c : Code} {vs : List Value} {rs : List ResultVar} {k : Value → World → Prop} (hf : P.funcs[f]? = some fn) (hb : fn.body = some c)
    (hn : fn.ntmps = n) (hl : Nat.ble vs.length n = true) (hrs : fn.results = rs.toArray)
    (h : WP P n c (argFr 0 vs) w (fun fr w => RL P rs fr w fun vs => k (packV vs) w) ⟨fun fr w => RL P rs fr w fun vs => k (packV vs) w, []⟩) :
    RC P f vs.toArray w k := by
  refine calls_of_wp hf hb ?_
  have hl' : vs.length ≤ n := Nat.le_of_ble_eq_true hl
  have ha : Agr n { tmps := vs.toArray ++ Array.replicate (fn.ntmps - vs.toArray.size) undef, defers := [] } (argFr 0 vs) := by
    refine ⟨rfl, by simp [hn]; omega, fun t v hv => ?_⟩
    obtain ⟨_, h2⟩ := lkO_argFr _ _ _ _ hv
    simp only [Nat.sub_zero] at h2
    have hlt : t < vs.length := by
      rcases Nat.lt_or_ge t vs.length with h | h
      · exact h
      · rw [List.getElem?_eq_none h] at h2; cases h2
    rw [Array.getElem?_append_left (by simpa using hlt)]
    simpa using h2
  refine Code.wp_mono (fun e a' w' q => ?_) (h _ ha)
  have fin : ∀ fr, Agr n a' fr → RL P rs fr w' (fun vs => k (packV vs) w') → a'.defers = [] ∧ ∃ v, (results fn a'.tmps).run P w' = .ok v w' ∧ ∃ v', Ending.returned v = .returned v' ∧ k v' w' := by
    intro fr h1 h2
    have h2' : RL P fn.results.toList fr w' (fun vs => k (packV vs) w') := by rw [hrs]; simpa using h2
    obtain ⟨vs, h3, h4⟩ := results_run h1 h2'
    exact ⟨h1.defers, _, h3, _, rfl, h4⟩
  cases e with
  | normal => obtain ⟨fr, h1, h2⟩ := q; exact fin fr h1 h2
  | ret => obtain ⟨fr, h1, h2⟩ := q; exact fin fr h1 h2
  | exit id => obtain ⟨fr, h1, h2⟩ := q; exact h2.elim
  | goto l => exact q.elim
  | panic ch => exact q.elim
  | outgrown => exact q.elim

end
end Go.Hb
/-
  What memory holds: a list of separate pieces (a small separation logic over the model's worlds; generic in the program).
-/
namespace Go.Hb
open Go Go.RowKit

abbrev Heap := Nat → Option Obj
abbrev HP := Heap → Prop

/-- 'h' is 'h1' and 'h2', apart. -/
def Dj (h h1 h2 : Heap) : Prop := ∀ b, (h1 b = h b ∧ h2 b = none) ∨ (h1 b = none ∧ h2 b = h b)

def Sub (h1 h : Heap) : Prop := ∀ b, h1 b = none ∨ h1 b = h b

/-- The pieces are there, apart from each other; there may be more. -/
def Sat : Heap → List HP → Prop
  | _, [] => True
  | h, P :: L => ∃ h1 h2, Dj h h1 h2 ∧ P h1 ∧ Sat h2 L

def upd (h : Heap) (b : Nat) (o : Option Obj) : Heap := fun x => if x = b then o else h x

theorem upd_same (h : Heap) (b : Nat) (o : Option Obj) : upd h b o b = o := if_pos rfl
theorem upd_other (h : Heap) {b x : Nat} (o : Option Obj) (e : x ≠ b) : upd h b o x = h x := if_neg e

theorem Sub.refl (h : Heap) : Sub h h := fun _ => .inr rfl

theorem Sat.sub {L : List HP} : ∀ {h1 h : Heap}, Sat h1 L → Sub h1 h → Sat h L := by
  induction L with
  | nil => intros; trivial
  | cons P L ih =>
    intro h1 h ⟨a, b, hd, hp, hs⟩ hsub
    refine ⟨a, fun x => if a x = none then h x else none, fun x => ?_, hp, ih hs fun x => ?_⟩
    · rcases hd x with ⟨e1, e2⟩ | ⟨e1, e2⟩
      · cases hx : a x with
        | none => exact .inr ⟨rfl, by simp [hx]⟩
        | some o =>
          left
          rw [hx] at e1
          rcases hsub x with e3 | e3
          · rw [e3] at e1; cases e1
          · exact ⟨by rw [← e3, ← e1], by simp [hx]⟩
      · exact .inr ⟨e1, by simp [e1]⟩
    · rcases hd x with ⟨e1, e2⟩ | ⟨e1, e2⟩
      · exact .inl e2
      · rcases hsub x with e3 | e3
        · exact .inl (by rw [e2, e3])
        · exact .inr (by simp [e1, e2, e3])

theorem Dj.sub_l {h h1 h2 : Heap} (d : Dj h h1 h2) : Sub h1 h := fun b => by
  rcases d b with ⟨e, _⟩ | ⟨e, _⟩
  · exact .inr e
  · exact .inl e
theorem Dj.sub_r {h h1 h2 : Heap} (d : Dj h h1 h2) : Sub h2 h := fun b => by
  rcases d b with ⟨_, e⟩ | ⟨_, e⟩
  · exact .inl e
  · exact .inr e
theorem Dj.symm {h h1 h2 : Heap} (d : Dj h h1 h2) : Dj h h2 h1 := fun b => (d b).symm.imp (fun ⟨a, b⟩ => ⟨b, a⟩) (fun ⟨a, b⟩ => ⟨b, a⟩)

theorem Sat.tail {h : Heap} {P : HP} {L : List HP} (s : Sat h (P :: L)) : Sat h L :=
  let ⟨_, _, d, _, s⟩ := s
  s.sub d.sub_r

theorem Sat.swap {h : Heap} {P Q : HP} {L : List HP} (s : Sat h (P :: Q :: L)) : Sat h (Q :: P :: L) := by
  obtain ⟨a, r, d1, hp, b, r', d2, hq, hs⟩ := s
  refine ⟨b, fun x => if b x = none then h x else none, fun x => ?_, hq, a, r', fun x => ?_, hp, hs⟩
  · rcases d1 x with ⟨e1, e2⟩ | ⟨e1, e2⟩ <;> rcases d2 x with ⟨e3, e4⟩ | ⟨e3, e4⟩ <;> cases hx : b x <;> simp_all
  · rcases d1 x with ⟨e1, e2⟩ | ⟨e1, e2⟩ <;> rcases d2 x with ⟨e3, e4⟩ | ⟨e3, e4⟩ <;> cases hx : b x <;> simp_all

theorem Sat.perm {L L' : List HP} (p : L.Perm L') : ∀ {h : Heap}, Sat h L → Sat h L' := by
  induction p with
  | nil => exact fun s => s
  | cons P _ ih => exact fun ⟨a, b, d, hp, s⟩ => ⟨a, b, d, hp, ih s⟩
  | swap P Q L => exact fun s => s.swap
  | trans _ _ ih1 ih2 => exact fun s => ih2 (ih1 s)

theorem Sat.imp {h : Heap} {P Q : HP} {L : List HP} (s : Sat h (P :: L)) (f : ∀ h, P h → Q h) : Sat h (Q :: L) :=
  let ⟨a, b, d, hp, s⟩ := s
  ⟨a, b, d, f _ hp, s⟩

/-- Pieces taken together as one. -/
def grp (L : List HP) : HP := fun h => Sat h L

theorem Sat.append {A B : List HP} : ∀ {h h1 h2 : Heap}, Dj h h1 h2 → Sat h1 A → Sat h2 B → Sat h (A ++ B) := by
  induction A with
  | nil => exact fun d _ s => s.sub d.sub_r
  | cons P A ih =>
    intro h h1 h2 d ⟨a, b, d', hp, s⟩ s2
    refine ⟨a, fun x => if a x = none then h x else none, fun x => ?_, hp, ih (h1 := b) (h2 := h2) (fun x => ?_) s s2⟩
    · rcases d x with ⟨e1, e2⟩ | ⟨e1, e2⟩ <;> rcases d' x with ⟨e3, e4⟩ | ⟨e3, e4⟩ <;> cases hx : a x <;> simp_all
    · rcases d x with ⟨e1, e2⟩ | ⟨e1, e2⟩ <;> rcases d' x with ⟨e3, e4⟩ | ⟨e3, e4⟩ <;> cases hx : a x <;> simp_all

theorem Sat.split {A B : List HP} : ∀ {h : Heap}, Sat h (A ++ B) → ∃ h1 h2, Dj h h1 h2 ∧ Sat h1 A ∧ Sat h2 B := by
  induction A with
  | nil => exact fun {h} s => ⟨fun _ => none, h, fun _ => .inr ⟨rfl, rfl⟩, trivial, s⟩
  | cons P A ih =>
    intro h ⟨a, b, d, hp, s⟩
    obtain ⟨h1, h2, d2, s1, s2⟩ := ih s
    refine ⟨fun x => if h2 x = none then h x else none, h2, fun x => ?_, ⟨a, h1, fun x => ?_, hp, s1⟩, s2⟩
    · rcases d x with ⟨e1, e2⟩ | ⟨e1, e2⟩ <;> rcases d2 x with ⟨e3, e4⟩ | ⟨e3, e4⟩ <;> cases hx : h2 x <;> simp_all
    · rcases d x with ⟨e1, e2⟩ | ⟨e1, e2⟩ <;> rcases d2 x with ⟨e3, e4⟩ | ⟨e3, e4⟩ <;> cases hx : h2 x <;> simp_all

theorem Sat.grp {h : Heap} {A B : List HP} (s : Sat h (A ++ B)) : Sat h (grp A :: B) :=
  let ⟨h1, h2, d, s1, s2⟩ := s.split
  ⟨h1, h2, d, s1, s2⟩
theorem Sat.ungrp {h : Heap} {A B : List HP} (s : Sat h (Hb.grp A :: B)) : Sat h (A ++ B) :=
  let ⟨_, _, d, s1, s2⟩ := s
  Sat.append d s1 s2

theorem Sat.ex {α : Type} {h : Heap} {P : α → HP} {L : List HP} (s : Sat h ((fun h => ∃ x, P x h) :: L)) : ∃ x, Sat h (P x :: L) :=
  let ⟨a, b, d, ⟨x, hp⟩, s⟩ := s
  ⟨x, a, b, d, hp, s⟩
theorem Sat.ex_in {α : Type} {h : Heap} {P : α → HP} {L : List HP} (x : α) (s : Sat h (P x :: L)) : Sat h ((fun h => ∃ x, P x h) :: L) :=
  let ⟨a, b, d, hp, s⟩ := s
  ⟨a, b, d, ⟨x, hp⟩, s⟩
theorem Sat.pure {h : Heap} {p : Prop} {P : HP} {L : List HP} (s : Sat h ((fun h => p ∧ P h) :: L)) : p ∧ Sat h (P :: L) :=
  let ⟨a, b, d, ⟨x, hp⟩, s⟩ := s
  ⟨x, a, b, d, hp, s⟩
theorem Sat.pure_in {h : Heap} {p : Prop} {P : HP} {L : List HP} (hp : p) (s : Sat h (P :: L)) : Sat h ((fun h => p ∧ P h) :: L) :=
  let ⟨a, b, d, h1, s⟩ := s
  ⟨a, b, d, ⟨hp, h1⟩, s⟩
theorem Sat.fact {h : Heap} {p : Prop} {L : List HP} (s : Sat h ((fun _ => p) :: L)) : p ∧ Sat h L :=
  ⟨let ⟨_, _, _, hp, _⟩ := s; hp, s.tail⟩
theorem Sat.fact_in {h : Heap} {p : Prop} {L : List HP} (hp : p) (s : Sat h L) : Sat h ((fun _ => p) :: L) :=
  ⟨fun _ => none, h, fun _ => .inr ⟨rfl, rfl⟩, hp, s⟩

/-- One block. -/
def pt (b : Nat) (o : Obj) : HP := fun h => h b = some o

theorem Sat.at {h : Heap} {b : Nat} {o : Obj} {L : List HP} (s : Sat h (pt b o :: L)) : h b = some o := by
  obtain ⟨a, r, d, hp, _⟩ := s
  rcases d b with ⟨e1, _⟩ | ⟨e1, _⟩
  · rw [← e1]; exact hp
  · simp only [pt] at hp; rw [e1] at hp; cases hp

theorem Sat.put {h : Heap} {b : Nat} {o o' : Obj} {L : List HP} (s : Sat h (pt b o :: L)) : Sat (upd h b (some o')) (pt b o' :: L) := by
  obtain ⟨a, r, d, hp, s⟩ := s
  refine ⟨upd a b (some o'), r, fun x => ?_, upd_same _ _ _, s⟩
  by_cases e : x = b
  · subst e
    rw [upd_same, upd_same]
    rcases d x with ⟨_, e2⟩ | ⟨e1, _⟩
    · exact .inl ⟨rfl, e2⟩
    · simp only [pt] at hp; rw [e1] at hp; cases hp
  · rw [upd_other _ _ e, upd_other _ _ e]; exact d x

theorem Sat.new {h : Heap} {b : Nat} {L : List HP} (hb : h b = none) (o : Obj) (s : Sat h L) : Sat (upd h b (some o)) (pt b o :: L) := by
  refine ⟨fun x => if x = b then some o else none, h, fun x => ?_, if_pos rfl, s⟩
  by_cases e : x = b
  · subst e; exact .inl ⟨by simp [upd_same], hb⟩
  · exact .inr ⟨if_neg e, (upd_other _ _ e).symm⟩

theorem Sat.ne {h : Heap} {b b' : Nat} {o o' : Obj} {L : List HP} (s : Sat h (pt b o :: pt b' o' :: L)) : b ≠ b' := by
  rintro rfl
  obtain ⟨a, r, d, hp, s⟩ := s
  have h2 := Sat.at s
  rcases d b with ⟨_, e2⟩ | ⟨e1, _⟩
  · rw [e2] at h2; cases h2
  · simp only [pt] at hp; rw [e1] at hp; cases hp

/-! ### The pieces by their place in the list -/

theorem perm_at {L : List HP} : ∀ {i : Nat} {P : HP}, L[i]? = some P → L.Perm (P :: L.eraseIdx i) := by
  induction L with
  | nil => intro i P h; simp at h
  | cons Q L ih =>
    intro i P h
    cases i with
    | zero => simp at h; subst h; simp
    | succ i =>
      simp only [List.getElem?_cons_succ] at h
      simp only [List.eraseIdx_cons_succ]
      exact ((ih h).cons Q).trans (.swap _ _ _)

theorem perm_set {L : List HP} : ∀ {i : Nat} {P : HP}, i < L.length → (P :: L.eraseIdx i).Perm (L.set i P) := by
  induction L with
  | nil => intro i P h; simp at h
  | cons Q L ih =>
    intro i P h
    cases i with
    | zero => simp
    | succ i =>
      simp only [List.eraseIdx_cons_succ, List.set_cons_succ]
      exact (List.Perm.swap _ _ _).trans ((ih (by simpa using h)).cons Q)

/-! ### The state -/

/-- What stands above what stood when the law's call began. -/
def newH (g w : World) : Heap := fun b => if b < g.heap.size then none else w.heap[b]?

structure St (g w : World) (L : List HP) : Prop where
  below : Below g.heap.size g w
  sat : Sat (newH g w) L

theorem St.perm {g w : World} {L L' : List HP} (s : St g w L) (p : L.Perm L') : St g w L' := ⟨s.below, s.sat.perm p⟩
theorem St.tail {g w : World} {P : HP} {L : List HP} (s : St g w (P :: L)) : St g w L := ⟨s.below, s.sat.tail⟩
theorem St.imp {g w : World} {P Q : HP} {L : List HP} (s : St g w (P :: L)) (f : ∀ h, P h → Q h) : St g w (Q :: L) := ⟨s.below, s.sat.imp f⟩
theorem St.grp {g w : World} {A B : List HP} (s : St g w (A ++ B)) : St g w (grp A :: B) := ⟨s.below, s.sat.grp⟩
theorem St.ungrp {g w : World} {A B : List HP} (s : St g w (Hb.grp A :: B)) : St g w (A ++ B) := ⟨s.below, s.sat.ungrp⟩
theorem St.ex {α : Type} {g w : World} {P : α → HP} {L : List HP} (s : St g w ((fun h => ∃ x, P x h) :: L)) : ∃ x, St g w (P x :: L) :=
  let ⟨x, h⟩ := s.sat.ex
  ⟨x, s.below, h⟩
theorem St.ex_in {α : Type} {g w : World} {P : α → HP} {L : List HP} (x : α) (s : St g w (P x :: L)) : St g w ((fun h => ∃ x, P x h) :: L) := ⟨s.below, s.sat.ex_in x⟩
theorem St.pure {g w : World} {p : Prop} {P : HP} {L : List HP} (s : St g w ((fun h => p ∧ P h) :: L)) : p ∧ St g w (P :: L) := ⟨s.sat.pure.1, s.below, s.sat.pure.2⟩
theorem St.pure_in {g w : World} {p : Prop} {P : HP} {L : List HP} (hp : p) (s : St g w (P :: L)) : St g w ((fun h => p ∧ P h) :: L) := ⟨s.below, s.sat.pure_in hp⟩
theorem St.fact {g w : World} {p : Prop} {L : List HP} (s : St g w ((fun _ => p) :: L)) : p ∧ St g w L := ⟨s.sat.fact.1, s.below, s.sat.fact.2⟩
theorem St.fact_in {g w : World} {p : Prop} {L : List HP} (hp : p) (s : St g w L) : St g w ((fun _ => p) :: L) := ⟨s.below, s.sat.fact_in hp⟩

theorem St.start (g : World) : St g g [] := ⟨.refl _ _, trivial⟩

theorem newH_ge {g w : World} {b : Nat} {o : Obj} (h : newH g w b = some o) : g.heap.size ≤ b ∧ w.heap[b]? = some o := by
  unfold newH at h
  split at h
  · cases h
  · exact ⟨by omega, h⟩

theorem St.get {g w : World} {L : List HP} {i b : Nat} {o : Obj} (s : St g w L) (hi : L[i]? = some (pt b o)) : g.heap.size ≤ b ∧ w.heap[b]? = some o :=
  newH_ge (Sat.at (s.sat.perm (perm_at hi)))

/-- A world that differs in one block of the call's own. -/
def setBlk (w : World) (b : Nat) (o : Obj) : World := { w with heap := w.heap.setIfInBounds b o }

theorem St.set {g w : World} {L : List HP} {i b : Nat} {o o' : Obj} (s : St g w L) (hi : L[i]? = some (pt b o)) : St g (setBlk w b o') (L.set i (pt b o')) := by
  obtain ⟨hge, hb⟩ := s.get hi
  have hlt : b < w.heap.size := by
    rcases Nat.lt_or_ge b w.heap.size with h | h
    · exact h
    · rw [Array.getElem?_eq_none h] at hb; cases hb
  have hil : i < L.length := by
    rcases Nat.lt_or_ge i L.length with h | h
    · exact h
    · rw [List.getElem?_eq_none h] at hi; cases hi
  refine ⟨s.below.trans ⟨rfl, rfl, rfl, by simp [setBlk], fun k hk => ?_⟩, ?_⟩
  · simp only [setBlk]
    rw [Array.getElem?_setIfInBounds_ne (by omega)]
  · have h1 := (s.sat.perm (perm_at hi)).put (o' := o')
    have h2 := h1.perm (perm_set (P := pt b o') hil)
    refine h2.sub fun x => .inr ?_
    unfold upd newH setBlk
    by_cases e : x = b
    · subst e; simp [hlt]; omega
    · rw [if_neg e]; simp only; rw [Array.getElem?_setIfInBounds_ne (Ne.symm e)]

theorem St.alloc {g w : World} {L : List HP} (s : St g w L) (o : Obj) : St g (w.alloc o) (pt w.heap.size o :: L) := by
  have hsz := s.below.size
  refine ⟨s.below.alloc hsz o, ?_⟩
  refine ((s.sat.new (b := w.heap.size) (by unfold newH; rw [if_neg (by omega), Array.getElem?_eq_none (Nat.le_refl _)]) o)).sub fun x => .inr ?_
  unfold upd newH World.alloc
  simp only [Array.getElem?_push]
  by_cases e : x = w.heap.size
  · subst e; simp; omega
  · simp [e]

theorem St.drew {g w : World} {L : List HP} (s : St g w L) : St g w.drew L := ⟨s.below.drew, s.sat⟩
theorem St.drewN {g w : World} {L : List HP} (s : St g w L) (n : Nat) : St g (w.drewN n) L :=
  ⟨s.below.trans ⟨rfl, rfl, rfl, Nat.le_refl _, fun _ _ => rfl⟩, s.sat⟩

/-- Behind a call that turned nothing that was there. -/
theorem St.ext {g w w' : World} {L : List HP} (s : St g w L) (h : Below w.heap.size w w') : St g w' L := by
  refine ⟨s.below.trans (h.mono s.below.size), s.sat.sub fun x => ?_⟩
  unfold newH
  by_cases e : x < g.heap.size
  · rw [if_pos e]; exact .inl rfl
  · rw [if_neg e, if_neg e]
    rcases Nat.lt_or_ge x w.heap.size with h1 | h1
    · exact .inr (h.block x h1).symm
    · exact .inl (Array.getElem?_eq_none h1)

/-- What stood at the beginning still stands. -/
theorem St.old {g w : World} {L : List HP} (s : St g w L) {b : Nat} (hb : b < g.heap.size) : w.heap[b]? = g.heap[b]? := s.below.block b hb

end Go.Hb
/-
  One rule an operation, over frames and pieces of memory (generic in the program): values, arithmetic, addresses, loads, stores, new variables, calls.
-/
namespace Go.Hb
open Go Go.RowKit

def evO (fr : Fr) : Operand → Option Value
  | .tmp t => lkO fr t
  | .const v => some v
  | .global g => some (.pointer (some ⟨g, 0, none⟩))
  | .func f => some (.func (.func f) #[] #[])

theorem Agr.evO {n : Nat} {a : Act} {fr : Fr} (h : Agr n a fr) {x : Operand} {v : Value} (hx : Hb.evO fr x = some v) : a.eval x = v := by
  cases x with
  | tmp t => simp [Act.eval, h.holds t v hx]
  | const u => cases hx; rfl
  | global g => cases hx; rfl
  | func f => cases hx; rfl

theorem Agr.evOs {n : Nat} {a : Act} {fr : Fr} (h : Agr n a fr) : ∀ {xs : List Operand} {vs : List Value}, xs.map (Hb.evO fr) = vs.map some → xs.map a.eval = vs := by
  intro xs
  induction xs with
  | nil => intro vs e; cases vs <;> simp_all
  | cons x xs ih =>
    intro vs e
    cases vs with
    | nil => simp at e
    | cons v vs =>
      simp only [List.map_cons, List.cons.injEq] at e ⊢
      exact ⟨h.evO e.1, ih e.2⟩

def WPs (P : Program) (n : Nat) (c : Code) (fr : Fr) (g : World) (L : List HP) (K : Fr → World → Prop) (X : Ks) : Prop := ∀ w, St g w L → WP P n c fr w K X
def SXs (P : Program) (n : Nat) (ops : Array Oper) (l : List Oper) (fr : Fr) (g : World) (L : List HP) (K : Fr → World → Prop) (X : Ks) : Prop := ∀ w, St g w L → SX P n ops l fr w K X
def KSs (g : World) (L : List HP) (k : World → Prop) : Prop := ∀ w, St g w L → k w
def RCs (P : Program) (f : FuncId) (vs : List Value) (g : World) (L : List HP) (k : Value → World → Prop) : Prop := ∀ w, St g w L → RC P f vs.toArray w k

section
variable {P : Program} {n : Nat} {fr : Fr} {g : World} {L : List HP} {K : Fr → World → Prop} {X : Ks}

theorem RCs.mono {f : FuncId} {vs : List Value} {k k' : Value → World → Prop} (h : RCs P f vs g L k) (hk : ∀ v w, k v w → k' v w) : RCs P f vs g L k' :=
  fun w hw => (h w hw).mono hk

theorem KSs_wp {c : Code} (h : WPs P n c fr g L K X) : KSs g L (fun w => WP P n c fr w K X) := h
theorem WPs_go {c : Code} {w : World} (hS : St g w L) (h : WPs P n c fr g L K X) : WP P n c fr w K X := h w hS
theorem SXs_go {ops : Array Oper} {l : List Oper} {w : World} (hS : St g w L) (h : SXs P n ops l fr g L K X) : SX P n ops l fr w K X := h w hS

theorem WPs_skip (h : KSs g L (K fr)) : WPs P n .skip fr g L K X := fun w hw => WP_skip (h w hw)
theorem WPs_ret {R : Fr → World → Prop} {E : List (Nat × (Fr → World → Prop))} (h : KSs g L (R fr)) : WPs P n .ret fr g L K ⟨R, E⟩ := fun w hw => WP_ret (h w hw)
def lkX : List (Nat × (Fr → World → Prop)) → Nat → Option (Fr → World → Prop)
  | [], _ => none
  | (i, k) :: r, id => if i = id then some k else lkX r id
theorem atX_of : ∀ {l : List (Nat × (Fr → World → Prop))} {id : Nat} {k : Fr → World → Prop}, lkX l id = some k → atX l id = k := by
  intro l
  induction l with
  | nil => intro id k h; simp [lkX] at h
  | cons x l ih =>
    intro id k h
    obtain ⟨i, k'⟩ := x
    simp only [lkX, atX] at *
    split
    · rename_i e; rw [if_pos e] at h; cases h; rfl
    · rename_i e; rw [if_neg e] at h; exact ih h
theorem WPs_exit {R : Fr → World → Prop} {E : List (Nat × (Fr → World → Prop))} {id : Nat} {k : Fr → World → Prop} (hk : lkX E id = some k) (h : KSs g L (k fr)) : WPs P n (.exit id) fr g L K ⟨R, E⟩ := fun w hw => WP_exit (by rw [atX_of hk]; exact h w hw)
theorem WPs_seq {c d : Code} (h : WPs P n c fr g L (fun fr' w' => WP P n d fr' w' K X) X) : WPs P n (.seq c d) fr g L K X := fun w hw => WP_seq (h w hw)
theorem WPs_block {R : Fr → World → Prop} {E : List (Nat × (Fr → World → Prop))} {id : Nat} {c : Code} (h : WPs P n c fr g L K ⟨R, (id, K) :: E⟩) : WPs P n (.block id c) fr g L K ⟨R, E⟩ := fun w hw => WP_block (h w hw)
theorem evO_in {x : Operand} {v : Value} (h : evO fr x = some v) : inF fr x = true ∧ evF fr x = v := by
  cases x with
  | tmp t => simp only [evO] at h; simp [inF, evF, lk, h]
  | const u => cases h; exact ⟨rfl, rfl⟩
  | global u => cases h; exact ⟨rfl, rfl⟩
  | func u => cases h; exact ⟨rfl, rfl⟩
theorem WPs_cond {c : Operand} {x y : Code} {t : Bool} (hc : evO fr c = some (.bool t)) (ht : t = true → WPs P n x fr g L K X)
    (hf : t = false → WPs P n y fr g L K X) : WPs P n (.cond c x y) fr g L K X := fun w hw =>
  WP_cond (evO_in hc).1 (evO_in hc).2 (fun e => ht e w hw) (fun e => hf e w hw)
theorem WPs_region {id : Nat} {l : List Oper} (h : SXs P n l.toArray l fr g L K X) : WPs P n (.region id l.toArray false) fr g L K X := fun w hw => WP_region (h w hw)
/-- Behind a region only some slots are kept. -/
def keepK (ks : List Nat) (K : Fr → World → Prop) : Fr → World → Prop := fun fr w => K (restr ks fr) w
theorem WPs_regionK (ks : List Nat) {id : Nat} {l : List Oper} (h : SXs P n l.toArray l fr g L (keepK ks K) X) :
    WPs P n (.region id l.toArray false) fr g L K X := fun w hw => WP_regionK ks (h w hw)
theorem WPs_loop {c : Code} (I : Fr → World → Prop) (μ : Fr → World → Nat) (h0 : KSs g L (I fr))
    (round : ∀ fr w, I fr w → WP P n c fr w (fun fr' w' => I fr' w' ∧ μ fr' w' < μ fr w) X) : WPs P n (.loop c) fr g L K X := fun w hw => WP_loop I μ (h0 w hw) round

theorem WP_restr (ks : List Nat) {c : Code} {w : World} (h : WP P n c (restr ks fr) w K X) : WP P n c fr w K X := fun a ha => h a (ha.restr ks)
/-- A loop that ends within N rounds. -/
def UN (P : Program) (n : Nat) (c : Code) (X : Ks) : Nat → Fr → World → Prop
  | 0, _, _ => False
  | N + 1, fr, w => WP P n c fr w (UN P n c X N) X
theorem WPs_unroll {c : Code} (N : Nat) (h : WPs P n c fr g L (UN P n c X N) X) : WPs P n (.loop c) fr g L K X := fun w hw => by
  refine WP_loopS (fun s fr w => UN P n c X s fr w) id (N + 1) (h w hw) ?_
  intro s fr w hs
  cases s with
  | zero => exact hs.elim
  | succ s => exact WP_mono hs (fun fr' w' h' => ⟨s, h', Nat.lt_succ_self s⟩)
theorem KSs_unroll {c : Code} {N : Nat} (h : WPs P n c fr g L (UN P n c X N) X) : KSs g L (UN P n c X (N + 1) fr) := fun w hw => h w hw
/-- A loop over a state s: the slots that vary, the pieces, what holds, a measure. -/
theorem WPs_loopS {σ : Type} {fix : Fr} {ks : List Nat} {c : Code} (vary : σ → Fr) (Ls : σ → List HP) (φ : σ → Prop) (μ : σ → Nat) (s0 : σ) (hks : restr ks fr = vary s0 ++ fix) (hL : ∀ w, St g w L → St g w (Ls s0)) (hφ : φ s0)
    (round : ∀ s, φ s → WPs P n c (vary s ++ fix) g (Ls s) (fun fr' w' => ∃ s', restr ks fr' = vary s' ++ fix ∧ St g w' (Ls s') ∧ φ s' ∧ μ s' < μ s) X) : WPs P n (.loop c) fr g L K X := fun w hw => by
  refine WP_loopS (fun s fr w => restr ks fr = vary s ++ fix ∧ St g w (Ls s) ∧ φ s) μ s0 ⟨hks, hL w hw, hφ⟩ ?_
  rintro s fr1 w1 ⟨h1, h2, h3⟩
  refine WP_restr ks ?_
  rw [h1]
  exact WP_mono (round s h3 w1 h2) (fun fr' w' ⟨s', h4, h5, h6, h7⟩ => ⟨s', ⟨h4, h5, h6⟩, h7⟩)

variable {ops : Array Oper}

theorem SXs_nil (h : KSs g L (K fr)) : SXs P n ops [] fr g L K X := fun w hw => SX_nil (h w hw)
theorem SXs_nilK {ks : List Nat} {fr' : Fr} {K : Fr → World → Prop} (hr : restr ks fr = fr') (h : KSs g L (K fr')) : SXs P n ops [] fr g L (keepK ks K) X :=
  fun w hw => SX_nil (by unfold keepK; rw [hr]; exact h w hw)

/-- An operation that leaves the world as it is. -/
theorem s_gen {d : Nat} {op : Op} {ty : TypeId} {ps : String} {af : Array Edge} {rest : List Oper} {v : Value} (hd : Nat.blt d n = true)
    (hrun : ∀ a w, Agr n a fr → St g w L → (execOp a.eval ⟨some d, op, ty, ps, af, none⟩).run P w = .ok (.value v) w)
    (h : SXs P n ops rest ((d, v) :: fr) g L K X) : SXs P n ops (⟨some d, op, ty, ps, af, none⟩ :: rest) fr g L K X := fun w hw a ha => by
  unfold wpList
  rw [if_pos (by simp [Region.wanted])]
  refine .inl ?_
  unfold Oper.wp
  rw [hrun a w ha hw]
  exact h w hw _ (ha.put (by simpa [Nat.blt_eq] using hd) v)

/-- An operation that turns the world. -/
theorem s_genW {d : Option Nat} {op : Op} {ty : TypeId} {ps : String} {af : Array Edge} {rest : List Oper} {Q : Value → World → Prop} (hd : dstOk n d = true)
    (hrun : ∀ a w, Agr n a fr → St g w L → ∃ v w', ((execOp a.eval ⟨d, op, ty, ps, af, none⟩).run P w = .ok (.value v) w' ∨ (v = undef ∧ (execOp a.eval ⟨d, op, ty, ps, af, none⟩).run P w = .ok .skip w')) ∧ Q v w')
    (h : ∀ v w, Q v w → SX P n ops rest (putF fr d v) w K X) : SXs P n ops (⟨d, op, ty, ps, af, none⟩ :: rest) fr g L K X := fun w hw a ha => by
  unfold wpList
  rw [if_pos (by simp [Region.wanted])]
  refine .inl ?_
  unfold Oper.wp
  obtain ⟨v, w', hr, hq⟩ := hrun a w ha hw
  rcases hr with hr | ⟨rfl, hr⟩
  · rw [hr]; exact h _ _ hq _ (ha.putF hd v)
  · rw [hr]; exact h _ _ hq _ (ha.putF hd undef)

/-- A guarded operation: run, or passed over. -/
theorem s_guard {d : Option Nat} {op : Op} {ty : TypeId} {ps : String} {af : Array Edge} {rest : List Oper} {j dj : Nat} {want b : Bool}
    (hdj : (ops[j]?).bind (·.dst) = some dj) (hl : lkO fr dj = some (.bool b)) (hd : dstOk n d = true)
    (ht : b = want → SXs P n ops (⟨d, op, ty, ps, af, none⟩ :: rest) fr g L K X) (hf : b = !want → SXs P n ops rest (putF fr d undef) g L K X) :
    SXs P n ops (⟨d, op, ty, ps, af, some (j, want)⟩ :: rest) fr g L K X := fun w hw a ha => by
  have hy := yielded_agr ha hdj hl
  unfold wpList
  by_cases e : b = want
  · have h1 := ht e w hw a ha
    unfold wpList at h1
    rw [if_pos (by simp [Region.wanted])] at h1
    rw [if_pos (by simp [Region.wanted, hy, e])]
    exact h1
  · have e' : b = !want := by cases b <;> cases want <;> simp_all
    rw [if_neg (by simp [Region.wanted, hy, e])]
    exact hf e' w hw _ (ha.putF hd undef)
theorem s_guard_t {d : Option Nat} {op : Op} {ty : TypeId} {ps : String} {af : Array Edge} {rest : List Oper} {j dj : Nat} {want : Bool}
    (hdj : (ops[j]?).bind (·.dst) = some dj) (hl : lkO fr dj = some (.bool want)) (hd : dstOk n d = true)
    (ht : SXs P n ops (⟨d, op, ty, ps, af, none⟩ :: rest) fr g L K X) : SXs P n ops (⟨d, op, ty, ps, af, some (j, want)⟩ :: rest) fr g L K X :=
  s_guard hdj hl hd (fun _ => ht) (fun e => by cases want <;> cases e)
theorem s_guard_f {d : Option Nat} {op : Op} {ty : TypeId} {ps : String} {af : Array Edge} {rest : List Oper} {j dj : Nat} {want b : Bool}
    (hdj : (ops[j]?).bind (·.dst) = some dj) (hl : lkO fr dj = some (.bool b)) (hb : b = !want) (hd : dstOk n d = true)
    (hf : SXs P n ops rest (putF fr d undef) g L K X) : SXs P n ops (⟨d, op, ty, ps, af, some (j, want)⟩ :: rest) fr g L K X :=
  s_guard hdj hl hd (fun e => by subst e; cases b <;> cases hb) (fun _ => hf)
theorem s_guard_u {d : Option Nat} {op : Op} {ty : TypeId} {ps : String} {af : Array Edge} {rest : List Oper} {j dj : Nat} {want : Bool}
    (hdj : (ops[j]?).bind (·.dst) = some dj) (hl : lkO fr dj = some undef) (hd : dstOk n d = true)
    (hf : SXs P n ops rest (putF fr d undef) g L K X) : SXs P n ops (⟨d, op, ty, ps, af, some (j, want)⟩ :: rest) fr g L K X := fun w hw a ha => by
  have hy := yielded_agr ha hdj hl
  unfold wpList
  rw [if_neg (by simp [Region.wanted, hy, undef])]
  exact hf w hw _ (ha.putF hd undef)

variable {d : Nat} {ty : TypeId} {ps : String} {af : Array Edge} {rest : List Oper}

/-! ### Values -/

theorem s_move {x : Operand} {v : Value} (hd : Nat.blt d n = true) (hx : evO fr x = some v) (h : SXs P n ops rest ((d, v) :: fr) g L K X) :
    SXs P n ops (⟨some d, .move x, ty, ps, af, none⟩ :: rest) fr g L K X :=
  s_gen hd (fun a w ha _ => by simp only [execOp, ha.evO hx]; rfl) h
theorem s_assign {x : Operand} {v : Value} (hd : Nat.blt d n = true) (hx : evO fr x = some v) (h : SXs P n ops rest ((d, v) :: fr) g L K X) :
    SXs P n ops (⟨some d, .assign x, ty, ps, af, none⟩ :: rest) fr g L K X :=
  s_gen hd (fun a w ha _ => by simp only [execOp, ha.evO hx]; rfl) h
theorem s_pick {c x y : Operand} {t : Bool} {v u r : Value} (hd : Nat.blt d n = true) (hc : evO fr c = some (.bool t)) (hx : evO fr x = some v) (hy : evO fr y = some u)
    (hr : (if t = true then v else u) = r) (h : SXs P n ops rest ((d, r) :: fr) g L K X) : SXs P n ops (⟨some d, .pick c x y, ty, ps, af, none⟩ :: rest) fr g L K X :=
  s_gen hd (fun a w ha _ => by simp only [execOp, ha.evO hc, ha.evO hx, ha.evO hy, asBool]; subst hr; cases t <;> rfl) h
theorem s_pick_t {c x y : Operand} {v : Value} (hd : Nat.blt d n = true) (hc : evO fr c = some (.bool true)) (hx : evO fr x = some v)
    (h : SXs P n ops rest ((d, v) :: fr) g L K X) : SXs P n ops (⟨some d, .pick c x y, ty, ps, af, none⟩ :: rest) fr g L K X :=
  s_gen hd (fun a w ha _ => by simp only [execOp, ha.evO hc, ha.evO hx, asBool]; rfl) h
theorem s_pick_f {c x y : Operand} {v : Value} (hd : Nat.blt d n = true) (hc : evO fr c = some (.bool false)) (hy : evO fr y = some v)
    (h : SXs P n ops rest ((d, v) :: fr) g L K X) : SXs P n ops (⟨some d, .pick c x y, ty, ps, af, none⟩ :: rest) fr g L K X :=
  s_gen hd (fun a w ha _ => by simp only [execOp, ha.evO hc, ha.evO hy, asBool]; rfl) h
theorem s_extract {x : Operand} {i : Nat} {vs : List Value} {v : Value} (hd : Nat.blt d n = true) (hx : evO fr x = some (.tuple vs.toArray)) (hi : vs[i]? = some v)
    (h : SXs P n ops rest ((d, v) :: fr) g L K X) : SXs P n ops (⟨some d, .extract x i, ty, ps, af, none⟩ :: rest) fr g L K X :=
  s_gen hd (fun a w ha _ => by simp [execOp, ha.evO hx, Instr.extract, hi]) h
theorem s_nilCheck {x : Operand} {a' : Addr} (hd : Nat.blt d n = true) (hx : evO fr x = some (.pointer (some a'))) (h : SXs P n ops rest ((d, .pointer (some a')) :: fr) g L K X) :
    SXs P n ops (⟨some d, .nilCheck x, ty, ps, af, none⟩ :: rest) fr g L K X :=
  s_gen hd (fun a w ha _ => by simp [execOp, ha.evO hx]) h
theorem s_makeFunc {fn : Fn} {first captured : List Operand} {fs cs : List Value} (hd : Nat.blt d n = true) (h1 : first.map (evO fr) = fs.map some) (h2 : captured.map (evO fr) = cs.map some)
    (h : SXs P n ops rest ((d, .func fn fs.toArray cs.toArray) :: fr) g L K X) : SXs P n ops (⟨some d, .makeFunc fn first.toArray captured.toArray, ty, ps, af, none⟩ :: rest) fr g L K X :=
  s_gen hd (fun a w ha _ => by simp [execOp, Instr.makeFunc, ha.evOs h1, ha.evOs h2]) h
theorem s_makeInterface {x : Operand} {T : TypeId} {v : Value} {td : TypeDesc} (hd : Nat.blt d n = true) (hu : P.underlying T = some td) (hni : ∀ ms, td ≠ .interface ms) (hx : evO fr x = some v)
    (h : SXs P n ops rest ((d, .iface T v) :: fr) g L K X) : SXs P n ops (⟨some d, .makeInterface T x, ty, ps, af, none⟩ :: rest) fr g L K X :=
  s_gen hd (fun a w ha _ => by
    simp only [execOp, ha.evO hx, Instr.makeInterface, underlying, Sem.run_bind, run_program, Result.andThen_ok, hu, Sem.run_pure]) h

/-! ### Integers -/

theorem run_eqGuard_int (op : BinOp) (t : TypeId) (x y : Operand) (k k' : IntKind) (a b : Int) (w : World) : (eqGuard op t x y (.int k a) (.int k' b)).run P w = .ok () w := by
  unfold eqGuard; cases op <;> rfl

theorem s_add {x y : Operand} {t yt : TypeId} {k : IntKind} {a b : Int} (hd : Nat.blt d n = true) (hx : evO fr x = some (.int k a)) (hy : evO fr y = some (.int k b))
    (h : SXs P n ops rest ((d, .int k (k.wrap (a + b))) :: fr) g L K X) : SXs P n ops (⟨some d, .binOp .add t x y yt, ty, ps, af, none⟩ :: rest) fr g L K X :=
  s_gen hd (fun a w ha _ => by simp [execOp, ha.evO hx, ha.evO hy, run_eqGuard_int, binOp, Op.intArith]) h
theorem s_sub {x y : Operand} {t yt : TypeId} {k : IntKind} {a b : Int} (hd : Nat.blt d n = true) (hx : evO fr x = some (.int k a)) (hy : evO fr y = some (.int k b))
    (h : SXs P n ops rest ((d, .int k (k.wrap (a - b))) :: fr) g L K X) : SXs P n ops (⟨some d, .binOp .sub t x y yt, ty, ps, af, none⟩ :: rest) fr g L K X :=
  s_gen hd (fun a w ha _ => by simp [execOp, ha.evO hx, ha.evO hy, run_eqGuard_int, binOp, Op.intArith]) h
theorem s_mul {x y : Operand} {t yt : TypeId} {k : IntKind} {a b : Int} (hd : Nat.blt d n = true) (hx : evO fr x = some (.int k a)) (hy : evO fr y = some (.int k b))
    (h : SXs P n ops rest ((d, .int k (k.wrap (a * b))) :: fr) g L K X) : SXs P n ops (⟨some d, .binOp .mul t x y yt, ty, ps, af, none⟩ :: rest) fr g L K X :=
  s_gen hd (fun a w ha _ => by simp [execOp, ha.evO hx, ha.evO hy, run_eqGuard_int, binOp, Op.intArith]) h

/-- The same three where nothing wraps. -/
theorem s_add' {x y : Operand} {t yt : TypeId} {k : IntKind} {a b c : Int} (hd : Nat.blt d n = true) (hx : evO fr x = some (.int k a)) (hy : evO fr y = some (.int k b)) (hw : k.wrap (a + b) = c)
    (h : SXs P n ops rest ((d, .int k c) :: fr) g L K X) : SXs P n ops (⟨some d, .binOp .add t x y yt, ty, ps, af, none⟩ :: rest) fr g L K X := s_add hd hx hy (hw ▸ h)
theorem s_sub' {x y : Operand} {t yt : TypeId} {k : IntKind} {a b c : Int} (hd : Nat.blt d n = true) (hx : evO fr x = some (.int k a)) (hy : evO fr y = some (.int k b)) (hw : k.wrap (a - b) = c)
    (h : SXs P n ops rest ((d, .int k c) :: fr) g L K X) : SXs P n ops (⟨some d, .binOp .sub t x y yt, ty, ps, af, none⟩ :: rest) fr g L K X := s_sub hd hx hy (hw ▸ h)
theorem s_mul' {x y : Operand} {t yt : TypeId} {k : IntKind} {a b c : Int} (hd : Nat.blt d n = true) (hx : evO fr x = some (.int k a)) (hy : evO fr y = some (.int k b)) (hw : k.wrap (a * b) = c)
    (h : SXs P n ops rest ((d, .int k c) :: fr) g L K X) : SXs P n ops (⟨some d, .binOp .mul t x y yt, ty, ps, af, none⟩ :: rest) fr g L K X := s_mul hd hx hy (hw ▸ h)

theorem s_lss {x y : Operand} {t yt : TypeId} {k : IntKind} {a b : Int} (hd : Nat.blt d n = true) (hx : evO fr x = some (.int k a)) (hy : evO fr y = some (.int k b))
    (h : SXs P n ops rest ((d, .bool (decide (a < b))) :: fr) g L K X) : SXs P n ops (⟨some d, .binOp .lss t x y yt, ty, ps, af, none⟩ :: rest) fr g L K X :=
  s_gen hd (fun a w ha _ => by simp [execOp, ha.evO hx, ha.evO hy, run_eqGuard_int, binOp, Op.intCmp]) h
theorem s_leq {x y : Operand} {t yt : TypeId} {k : IntKind} {a b : Int} (hd : Nat.blt d n = true) (hx : evO fr x = some (.int k a)) (hy : evO fr y = some (.int k b))
    (h : SXs P n ops rest ((d, .bool (decide (a ≤ b))) :: fr) g L K X) : SXs P n ops (⟨some d, .binOp .leq t x y yt, ty, ps, af, none⟩ :: rest) fr g L K X :=
  s_gen hd (fun a w ha _ => by simp [execOp, ha.evO hx, ha.evO hy, run_eqGuard_int, binOp, Op.intCmp]) h
theorem s_gtr {x y : Operand} {t yt : TypeId} {k : IntKind} {a b : Int} (hd : Nat.blt d n = true) (hx : evO fr x = some (.int k a)) (hy : evO fr y = some (.int k b))
    (h : SXs P n ops rest ((d, .bool (decide (b < a))) :: fr) g L K X) : SXs P n ops (⟨some d, .binOp .gtr t x y yt, ty, ps, af, none⟩ :: rest) fr g L K X :=
  s_gen hd (fun a w ha _ => by simp [execOp, ha.evO hx, ha.evO hy, run_eqGuard_int, binOp, Op.intCmp]) h
theorem s_geq {x y : Operand} {t yt : TypeId} {k : IntKind} {a b : Int} (hd : Nat.blt d n = true) (hx : evO fr x = some (.int k a)) (hy : evO fr y = some (.int k b))
    (h : SXs P n ops rest ((d, .bool (decide (b ≤ a))) :: fr) g L K X) : SXs P n ops (⟨some d, .binOp .geq t x y yt, ty, ps, af, none⟩ :: rest) fr g L K X :=
  s_gen hd (fun a w ha _ => by simp [execOp, ha.evO hx, ha.evO hy, run_eqGuard_int, binOp, Op.intCmp]) h
theorem s_eql {x y : Operand} {t yt : TypeId} {k : IntKind} {a b : Int} (hd : Nat.blt d n = true) (hx : evO fr x = some (.int k a)) (hy : evO fr y = some (.int k b))
    (h : SXs P n ops rest ((d, .bool (decide (a = b))) :: fr) g L K X) : SXs P n ops (⟨some d, .binOp .eql t x y yt, ty, ps, af, none⟩ :: rest) fr g L K X :=
  s_gen hd (fun a w ha _ => by
    simp only [execOp, ha.evO hx, ha.evO hy, run_eqGuard_int, binOp, Op.intCmp, Sem.run_bind, Result.andThen_ok, ne_eq, not_true_eq_false, if_false, Sem.run_pure]
    rename_i a0 _
    by_cases e : a0 = b <;> simp [e]) h
theorem s_neq {x y : Operand} {t yt : TypeId} {k : IntKind} {a b : Int} (hd : Nat.blt d n = true) (hx : evO fr x = some (.int k a)) (hy : evO fr y = some (.int k b))
    (h : SXs P n ops rest ((d, .bool (!decide (a = b))) :: fr) g L K X) : SXs P n ops (⟨some d, .binOp .neq t x y yt, ty, ps, af, none⟩ :: rest) fr g L K X :=
  s_gen hd (fun a w ha _ => by
    simp only [execOp, ha.evO hx, ha.evO hy, run_eqGuard_int, binOp, Op.intCmp, Sem.run_bind, Result.andThen_ok, ne_eq, not_true_eq_false, if_false, Sem.run_pure]
    rename_i a0 _
    by_cases e : a0 = b <;> simp [e, bne]) h

end
end Go.Hb
/-
  One rule an operation, more of them (generic in the program): bits, conversions, equalities; loads, stores, new variables; calls.
-/
namespace Go.Hb
open Go Go.RowKit

section
variable {P : Program} {n : Nat} {fr : Fr} {g : World} {L : List HP} {K : Fr → World → Prop} {X : Ks} {ops : Array Oper}
variable {d : Nat} {ty : TypeId} {ps : String} {af : Array Edge} {rest : List Oper}

theorem s_not {x : Operand} {t : TypeId} {b : Bool} (hd : Nat.blt d n = true) (hx : evO fr x = some (.bool b)) (h : SXs P n ops rest ((d, .bool !b) :: fr) g L K X) :
    SXs P n ops (⟨some d, .unOp .not t x, ty, ps, af, none⟩ :: rest) fr g L K X :=
  s_gen hd (fun a w ha _ => by simp [execOp, ha.evO hx, Op.unary]) h
theorem s_neg {x : Operand} {t : TypeId} {k : IntKind} {a c : Int} (hd : Nat.blt d n = true) (hx : evO fr x = some (.int k a)) (hw : k.wrap (0 - a) = c) (h : SXs P n ops rest ((d, .int k c) :: fr) g L K X) :
    SXs P n ops (⟨some d, .unOp .neg t x, ty, ps, af, none⟩ :: rest) fr g L K X :=
  s_gen hd (fun a w ha _ => by simp [execOp, ha.evO hx, Op.unary, Op.intArith, ← hw]) h

theorem wrap_nat {k : IntKind} (hk : k.signed = false) {a : Nat} (h : a < 2 ^ k.bits) : k.wrap (a : Int) = (a : Int) := by
  unfold IntKind.wrap
  simp only [hk, Bool.false_and, Bool.false_eq_true, if_false]
  have h2 : ((2 ^ k.bits : Nat) : Int) = (2 : Int) ^ k.bits := by simp
  rw [← h2]
  exact Int.emod_eq_of_lt (by omega) (by omega)

theorem ofInt_nat (m a : Nat) : BitVec.ofInt m (a : Int) = BitVec.ofNat m a := by
  exact BitVec.ofInt_natCast m a

theorem s_xorN {x y : Operand} {t yt : TypeId} {k : IntKind} {a b : Nat} (hk : k.signed = false) (hd : Nat.blt d n = true) (hx : evO fr x = some (.int k a)) (hy : evO fr y = some (.int k b))
    (ha : a < 2 ^ k.bits) (hb : b < 2 ^ k.bits) (h : SXs P n ops rest ((d, .int k ((a ^^^ b : Nat) : Int)) :: fr) g L K X) :
    SXs P n ops (⟨some d, .binOp .xor t x y yt, ty, ps, af, none⟩ :: rest) fr g L K X :=
  s_gen hd (fun a' w hag _ => by
    simp only [execOp, hag.evO hx, hag.evO hy, run_eqGuard_int, binOp, Op.intBits, Sem.run_bind, Result.andThen_ok, ne_eq, not_true_eq_false, if_false, Sem.run_pure, ofInt_nat]
    rw [BitVec.toNat_xor, BitVec.toNat_ofNat, BitVec.toNat_ofNat, Nat.mod_eq_of_lt ha, Nat.mod_eq_of_lt hb, wrap_nat hk (Nat.xor_lt_two_pow ha hb)]) h
theorem s_orN {x y : Operand} {t yt : TypeId} {k : IntKind} {a b : Nat} (hk : k.signed = false) (hd : Nat.blt d n = true) (hx : evO fr x = some (.int k a)) (hy : evO fr y = some (.int k b))
    (ha : a < 2 ^ k.bits) (hb : b < 2 ^ k.bits) (h : SXs P n ops rest ((d, .int k ((a ||| b : Nat) : Int)) :: fr) g L K X) :
    SXs P n ops (⟨some d, .binOp .or t x y yt, ty, ps, af, none⟩ :: rest) fr g L K X :=
  s_gen hd (fun a' w hag _ => by
    simp only [execOp, hag.evO hx, hag.evO hy, run_eqGuard_int, binOp, Op.intBits, Sem.run_bind, Result.andThen_ok, ne_eq, not_true_eq_false, if_false, Sem.run_pure, ofInt_nat]
    rw [BitVec.toNat_or, BitVec.toNat_ofNat, BitVec.toNat_ofNat, Nat.mod_eq_of_lt ha, Nat.mod_eq_of_lt hb, wrap_nat hk (Nat.or_lt_two_pow ha hb)]) h
theorem s_andN {x y : Operand} {t yt : TypeId} {k : IntKind} {a b : Nat} (hk : k.signed = false) (hd : Nat.blt d n = true) (hx : evO fr x = some (.int k a)) (hy : evO fr y = some (.int k b))
    (ha : a < 2 ^ k.bits) (hb : b < 2 ^ k.bits) (h : SXs P n ops rest ((d, .int k ((a &&& b : Nat) : Int)) :: fr) g L K X) :
    SXs P n ops (⟨some d, .binOp .and t x y yt, ty, ps, af, none⟩ :: rest) fr g L K X :=
  s_gen hd (fun a' w hag _ => by
    simp only [execOp, hag.evO hx, hag.evO hy, run_eqGuard_int, binOp, Op.intBits, Sem.run_bind, Result.andThen_ok, ne_eq, not_true_eq_false, if_false, Sem.run_pure, ofInt_nat]
    rw [BitVec.toNat_and, BitVec.toNat_ofNat, BitVec.toNat_ofNat, Nat.mod_eq_of_lt ha, Nat.mod_eq_of_lt hb, wrap_nat hk (Nat.and_lt_two_pow _ hb)]) h
/-- ^x at an unsigned kind. -/
theorem s_comN {x : Operand} {t : TypeId} {k : IntKind} {a : Nat} (hk : k.signed = false) (hd : Nat.blt d n = true) (hx : evO fr x = some (.int k a)) (ha : a < 2 ^ k.bits)
    (h : SXs P n ops rest ((d, .int k (((2 ^ k.bits - 1) ^^^ a : Nat) : Int)) :: fr) g L K X) :
    SXs P n ops (⟨some d, .unOp .xor t x, ty, ps, af, none⟩ :: rest) fr g L K X :=
  s_gen hd (fun a' w hag _ => by
    have hp : 0 < 2 ^ k.bits := Nat.two_pow_pos _
    have hm : k.max = ((2 ^ k.bits - 1 : Nat) : Int) := by
      unfold IntKind.max
      rw [if_neg (by simp [hk]), Int.natCast_sub (by omega)]
      simp
    simp only [execOp, hag.evO hx, Op.unary, Op.intBits, hk, Bool.false_eq_true, if_false, Sem.run_bind, Result.andThen_ok, Sem.run_pure, hm, ofInt_nat]
    rw [BitVec.toNat_xor, BitVec.toNat_ofNat, BitVec.toNat_ofNat, Nat.mod_eq_of_lt ha, Nat.mod_eq_of_lt (by omega), wrap_nat hk (Nat.xor_lt_two_pow (by omega) ha)]) h

theorem s_shr {x y : Operand} {t yt : TypeId} {k ky : IntKind} {a b c : Int} (hd : Nat.blt d n = true) (hx : evO fr x = some (.int k a)) (hy : evO fr y = some (.int ky b))
    (hb : ¬ b < 0) (hw : a.fdiv (2 ^ min b.toNat k.bits) = c) (h : SXs P n ops rest ((d, .int k c) :: fr) g L K X) :
    SXs P n ops (⟨some d, .binOp .shr t x y yt, ty, ps, af, none⟩ :: rest) fr g L K X :=
  s_gen hd (fun a' w hag _ => by
    simp only [execOp, hag.evO hx, hag.evO hy, run_eqGuard_int, binOp, Op.shift, Sem.run_bind, Result.andThen_ok, if_neg hb, Sem.run_pure, hw]) h
theorem s_shl {x y : Operand} {t yt : TypeId} {k ky : IntKind} {a b c : Int} (hd : Nat.blt d n = true) (hx : evO fr x = some (.int k a)) (hy : evO fr y = some (.int ky b))
    (hb : ¬ b < 0) (hw : k.wrap (a * 2 ^ min b.toNat k.bits) = c) (h : SXs P n ops rest ((d, .int k c) :: fr) g L K X) :
    SXs P n ops (⟨some d, .binOp .shl t x y yt, ty, ps, af, none⟩ :: rest) fr g L K X :=
  s_gen hd (fun a' w hag _ => by
    simp only [execOp, hag.evO hx, hag.evO hy, run_eqGuard_int, binOp, Op.shift, Sem.run_bind, Result.andThen_ok, if_neg hb, Sem.run_pure, hw]) h
theorem s_rem {x y : Operand} {t yt : TypeId} {k : IntKind} {a b c : Int} (hd : Nat.blt d n = true) (hx : evO fr x = some (.int k a)) (hy : evO fr y = some (.int k b))
    (hb : ¬ b = 0) (hw : a.tmod b = c) (h : SXs P n ops rest ((d, .int k c) :: fr) g L K X) :
    SXs P n ops (⟨some d, .binOp .rem t x y yt, ty, ps, af, none⟩ :: rest) fr g L K X :=
  s_gen hd (fun a' w hag _ => by
    simp [execOp, hag.evO hx, hag.evO hy, run_eqGuard_int, binOp, Op.intDiv, hb, hw]) h

/-- int to int. -/
theorem s_conv {x : Operand} {src dst : TypeId} {td : TypeDesc} {k k0 : IntKind} {a c : Int} (hus : P.underlying src = some td) (hud : P.underlying dst = some (.int k)) (hd : Nat.blt d n = true)
    (hx : evO fr x = some (.int k0 a)) (hw : k.wrap a = c) (h : SXs P n ops rest ((d, .int k c) :: fr) g L K X) :
    SXs P n ops (⟨some d, .convert src dst x, ty, ps, af, none⟩ :: rest) fr g L K X :=
  s_gen hd (fun a' w hag _ => by
    simp [execOp, hag.evO hx, convert, underlying, hus, hud, Conv.intToInt, hw]) h

/-! ### Equalities beyond integers -/

theorem bytes_eq (a b : ByteArray) : (a.toList == b.toList) = decide (a = b) := by
  rw [ByteArray.toList_eq, ByteArray.toList_eq]
  by_cases e : a = b
  · subst e; simp
  · have h2 : ¬ a.data = b.data := fun h => e (by cases a; cases b; simp at h; simp [h])
    simp [e, h2]

theorem s_eql_str {x y : Operand} {t yt : TypeId} {a b : ByteArray} (hd : Nat.blt d n = true) (hx : evO fr x = some (.string a)) (hy : evO fr y = some (.string b))
    (h : SXs P n ops rest ((d, .bool (decide (a = b))) :: fr) g L K X) : SXs P n ops (⟨some d, .binOp .eql t x y yt, ty, ps, af, none⟩ :: rest) fr g L K X :=
  s_gen hd (fun a' w hag _ => by
    simp [execOp, hag.evO hx, hag.evO hy, eqGuard, binOp, Op.stringOp, bytes_eq]) h
theorem s_neq_str {x y : Operand} {t yt : TypeId} {a b : ByteArray} (hd : Nat.blt d n = true) (hx : evO fr x = some (.string a)) (hy : evO fr y = some (.string b))
    (h : SXs P n ops rest ((d, .bool (!decide (a = b))) :: fr) g L K X) : SXs P n ops (⟨some d, .binOp .neq t x y yt, ty, ps, af, none⟩ :: rest) fr g L K X :=
  s_gen hd (fun a' w hag _ => by
    simp [execOp, hag.evO hx, hag.evO hy, eqGuard, binOp, Op.stringOp, bytes_eq]) h

/-- What '==' gives of two values of type t, in whatever world. -/
def EqV (P : Program) (t : TypeId) (a b : Value) (r : Bool) : Prop :=
  (∀ w, (Op.equal t a b).run P w = .ok r w) ∧ (∀ x y w, (eqGuard .eql t x y a b).run P w = .ok () w) ∧ (∀ x y w, (eqGuard .neq t x y a b).run P w = .ok () w) ∧
  (∀ w, (binOp .eql t a b).run P w = .ok (.bool r) w) ∧ (∀ w, (binOp .neq t a b).run P w = .ok (.bool !r) w)

theorem s_eqlV {x y : Operand} {t yt : TypeId} {a b : Value} {r : Bool} (hd : Nat.blt d n = true) (hx : evO fr x = some a) (hy : evO fr y = some b) (he : EqV P t a b r)
    (h : SXs P n ops rest ((d, .bool r) :: fr) g L K X) : SXs P n ops (⟨some d, .binOp .eql t x y yt, ty, ps, af, none⟩ :: rest) fr g L K X :=
  s_gen hd (fun a' w hag _ => by
    simp only [execOp, hag.evO hx, hag.evO hy, Sem.run_bind, he.2.1, Result.andThen_ok, he.2.2.2.1, Sem.run_pure]) h
theorem s_neqV {x y : Operand} {t yt : TypeId} {a b : Value} {r : Bool} (hd : Nat.blt d n = true) (hx : evO fr x = some a) (hy : evO fr y = some b) (he : EqV P t a b r)
    (h : SXs P n ops rest ((d, .bool !r) :: fr) g L K X) : SXs P n ops (⟨some d, .binOp .neq t x y yt, ty, ps, af, none⟩ :: rest) fr g L K X :=
  s_gen hd (fun a' w hag _ => by
    simp only [execOp, hag.evO hx, hag.evO hy, Sem.run_bind, he.2.2.1, Result.andThen_ok, he.2.2.2.2, Sem.run_pure]) h

theorem EqV.of_equal {t : TypeId} {a b : Value} {r : Bool} (h : ∀ w, (Op.equal t a b).run P w = .ok r w) (hg1 : ∀ x y w, (eqGuard .eql t x y a b).run P w = .ok () w) (hg2 : ∀ x y w, (eqGuard .neq t x y a b).run P w = .ok () w)
    (hb1 : binOp .eql t a b = (do pure (.bool (← Op.equal t a b)))) (hb2 : binOp .neq t a b = (do pure (.bool (!(← Op.equal t a b))))) : EqV P t a b r :=
  ⟨h, hg1, hg2, fun w => by rw [hb1]; simp [h], fun w => by rw [hb2]; simp [h]⟩

theorem eq_ptr_nil_some_in {t e : TypeId} {a : Addr} (hu : P.underlying t = some (.pointer e)) (m : Nat) (w : World) : (Op.equalIn (m + 1) t (.pointer (some a)) (.pointer none)).run P w = .ok false w := by
  simp [Op.equalIn, underlying, hu]
theorem eq_ptr_nil_some {t e : TypeId} {a : Addr} (hu : P.underlying t = some (.pointer e)) : EqV P t (.pointer (some a)) (.pointer none) false :=
  EqV.of_equal (fun w => eq_ptr_nil_some_in hu 9999 w) (fun x y w => by simp [eqGuard]) (fun x y w => by simp [eqGuard]) rfl rfl
theorem eq_ptr_nil_none_in {t e : TypeId} (hu : P.underlying t = some (.pointer e)) (m : Nat) (w : World) : (Op.equalIn (m + 1) t (.pointer none) (.pointer none)).run P w = .ok true w := by
  simp [Op.equalIn, underlying, hu]
theorem eq_ptr_nil_none {t e : TypeId} (hu : P.underlying t = some (.pointer e)) : EqV P t (.pointer none) (.pointer none) true :=
  EqV.of_equal (fun w => eq_ptr_nil_none_in hu 9999 w) (fun x y w => by simp [eqGuard]) (fun x y w => by simp [eqGuard]) rfl rfl
theorem eq_map_nil_some_in {t e k : TypeId} {a : Nat} (hu : P.underlying t = some (.map k e)) (m : Nat) (w : World) : (Op.equalIn (m + 1) t (.map (some a)) (.map none)).run P w = .ok false w := by
  simp [Op.equalIn, underlying, hu]
theorem eq_map_nil_some {t e k : TypeId} {a : Nat} (hu : P.underlying t = some (.map k e)) : EqV P t (.map (some a)) (.map none) false :=
  EqV.of_equal (fun w => eq_map_nil_some_in hu 9999 w) (fun x y w => by simp [eqGuard]) (fun x y w => by simp [eqGuard]) rfl rfl
theorem eq_map_nil_none_in {t e k : TypeId} (hu : P.underlying t = some (.map k e)) (m : Nat) (w : World) : (Op.equalIn (m + 1) t (.map none) (.map none)).run P w = .ok true w := by
  simp [Op.equalIn, underlying, hu]
theorem eq_map_nil_none {t e k : TypeId} (hu : P.underlying t = some (.map k e)) : EqV P t (.map none) (.map none) true :=
  EqV.of_equal (fun w => eq_map_nil_none_in hu 9999 w) (fun x y w => by simp [eqGuard]) (fun x y w => by simp [eqGuard]) rfl rfl
theorem eq_slice_nil_in {t e : TypeId} {a : Option Addr} {l c : Nat} (hu : P.underlying t = some (.slice e)) (m : Nat) (w : World) : (Op.equalIn (m + 1) t (.slice a l c) (.slice none 0 0)).run P w = .ok a.isNone w := by
  cases a <;> simp [Op.equalIn, underlying, hu]
theorem eq_slice_nil {t e : TypeId} {a : Option Addr} {l c : Nat} (hu : P.underlying t = some (.slice e)) : EqV P t (.slice a l c) (.slice none 0 0) a.isNone :=
  EqV.of_equal (fun w => eq_slice_nil_in hu 9999 w) (fun x y w => by simp [eqGuard]) (fun x y w => by simp [eqGuard]) rfl rfl
theorem eq_bool_in {t : TypeId} {a b : Bool} (hu : P.underlying t = some .bool) (m : Nat) (w : World) : (Op.equalIn (m + 1) t (.bool a) (.bool b)).run P w = .ok (a == b) w := by
  simp [Op.equalIn, underlying, hu]
theorem eq_bool {t : TypeId} {a b : Bool} (hu : P.underlying t = some .bool) : EqV P t (.bool a) (.bool b) (a == b) :=
  EqV.of_equal (fun w => eq_bool_in hu 9999 w) (fun x y w => by simp [eqGuard]) (fun x y w => by simp [eqGuard]) rfl rfl

/-! ### Memory -/

def CellIn (g : World) (L : List HP) (a : Addr) (v : Value) : Prop := ∀ w, St g w L → w.cell? a = some v
def CellsIn (g : World) (L : List HP) (b o : Nat) (vs : List Value) : Prop := ∀ w, St g w L → ∀ j v, vs[j]? = some v → w.cell? ⟨b, o + j, none⟩ = some v

theorem cell_of {w : World} {b o : Nat} {cl : List Value} {T : TypeId} {fz : Nat × Nat} (h : w.heap[b]? = some (.cells cl.toArray T fz)) : w.cell? ⟨b, o, none⟩ = cl[o]? := by
  simp [World.cell?, h]

theorem cin {i b o : Nat} {cl : List Value} {T : TypeId} {fz : Nat × Nat} {v : Value} (hi : L[i]? = some (pt b (.cells cl.toArray T fz))) (hc : cl[o]? = some v) : CellIn g L ⟨b, o, none⟩ v :=
  fun w hw => by rw [cell_of (hw.get hi).2]; exact hc
theorem csin {i b o k : Nat} {cl vs : List Value} {T : TypeId} {fz : Nat × Nat} (hi : L[i]? = some (pt b (.cells cl.toArray T fz))) (hc : (cl.drop o).take k = vs) : CellsIn g L b o vs :=
  fun w hw j v hj => by
    rw [cell_of (hw.get hi).2]
    rw [← hc, List.getElem?_take] at hj
    split at hj
    · rw [List.getElem?_drop] at hj; exact hj
    · cases hj
theorem cin_old {a : Addr} {v : Value} (h : g.cell? a = some v) : CellIn g L a v := fun w hw => by
  have hb := World.block_lt_of_cell? _ _ h
  rw [hw.below.cell hb]; exact h
theorem csin_old {b o : Nat} {vs : List Value} (h : ∀ j v, vs[j]? = some v → g.cell? ⟨b, o + j, none⟩ = some v) : CellsIn g L b o vs := fun _ hw j v hj => cin_old (h j v hj) _ hw

theorem run_load_cell {w : World} {a : Addr} {v : Value} (h : w.cell? a = some v) : (load a).run P w = .ok v w := by simp [h]

theorem run_loadCellsFrom {w : World} {a : Addr} : ∀ (vs : List Value) (i : Nat) (acc : Array Value), (∀ j v, vs[j]? = some v → w.cell? (a.add (i + j)) = some v) →
    (loadCellsFrom a i vs.length acc).run P w = .ok (acc ++ vs.toArray) w := by
  intro vs
  induction vs with
  | nil => intro i acc _; simp [loadCellsFrom]
  | cons v vs ih =>
    intro i acc h
    have h0 := h 0 v rfl
    simp only [List.length_cons, loadCellsFrom, Sem.run_bind]
    rw [run_load_cell (by simpa using h0)]
    simp only [Result.andThen_ok]
    rw [ih (i + 1) (acc.push v) (fun j u hj => by have := h (j + 1) u (by simpa using hj); rwa [show i + 1 + j = i + (j + 1) from by omega])]
    simp

theorem add_none {b o j : Nat} : (Addr.mk b o none).add j = ⟨b, o + j, none⟩ := by
  unfold Addr.add
  split
  · rename_i e; subst e; rfl
  · rfl

theorem run_loadVar1 {w : World} {t : TypeId} {a : Addr} {v : Value} (h1 : ∀ w, (isAgg t).run P w = .ok false w) (h : w.cell? a = some v) : (loadVar t a).run P w = .ok v w := by
  simp only [loadVar, Sem.run_bind, h1, Result.andThen_ok, Bool.false_eq_true, if_false]
  exact run_load_cell h
theorem run_loadVarN {w : World} {t : TypeId} {b o k : Nat} {vs : List Value} (h1 : ∀ w, (isAgg t).run P w = .ok true w) (h2 : ∀ w, (sizeOf t).run P w = .ok k w) (hk : vs.length = k)
    (h : ∀ j v, vs[j]? = some v → w.cell? ⟨b, o + j, none⟩ = some v) : (loadVar t ⟨b, o, none⟩).run P w = .ok (.agg vs.toArray) w := by
  subst hk
  simp only [loadVar, Sem.run_bind, h1, Result.andThen_ok, if_true, h2, loadCells]
  rw [run_loadCellsFrom vs 0 #[] (fun j v hj => by rw [add_none, Nat.zero_add]; exact h j v hj)]
  simp

theorem s_load1 {x : Operand} {t : TypeId} {a : Addr} {v : Value} (h1 : ∀ w, (isAgg t).run P w = .ok false w) (hd : Nat.blt d n = true) (hx : evO fr x = some (.pointer (some a))) (hc : CellIn g L a v)
    (h : SXs P n ops rest ((d, v) :: fr) g L K X) : SXs P n ops (⟨some d, .load t x, ty, ps, af, none⟩ :: rest) fr g L K X :=
  s_gen hd (fun a' w hag hw => by
    simp only [execOp, hag.evO hx, Instr.loadAt, Instr.sureAddr, Sem.run_bind, Sem.run_pure, Result.andThen_ok, run_loadVar1 h1 (hc w hw)]) h
theorem s_loadN {x : Operand} {t : TypeId} {b o k : Nat} {vs : List Value} (h1 : ∀ w, (isAgg t).run P w = .ok true w) (h2 : ∀ w, (sizeOf t).run P w = .ok k w) (hd : Nat.blt d n = true)
    (hx : evO fr x = some (.pointer (some ⟨b, o, none⟩))) (hc : CellsIn g L b o vs) (hk : vs.length = k)
    (h : SXs P n ops rest ((d, .agg vs.toArray) :: fr) g L K X) : SXs P n ops (⟨some d, .load t x, ty, ps, af, none⟩ :: rest) fr g L K X :=
  s_gen hd (fun a' w hag hw => by
    simp only [execOp, hag.evO hx, Instr.loadAt, Instr.sureAddr, Sem.run_bind, Sem.run_pure, Result.andThen_ok, run_loadVarN h1 h2 hk (hc w hw)]) h

def FieldOff (P : Program) (t : TypeId) (i off : Nat) : Prop := ∀ b o w, (Instr.fieldAt t (.pointer (some ⟨b, o, none⟩)) i).run P w = .ok (.pointer (some ⟨b, o + off, none⟩)) w

theorem s_fieldAddr {x : Operand} {t : TypeId} {i off b o : Nat} (hf : FieldOff P t i off) (hd : Nat.blt d n = true) (hx : evO fr x = some (.pointer (some ⟨b, o, none⟩)))
    (h : SXs P n ops rest ((d, .pointer (some ⟨b, o + off, none⟩)) :: fr) g L K X) : SXs P n ops (⟨some d, .fieldAddr t x i, ty, ps, af, none⟩ :: rest) fr g L K X :=
  s_gen hd (fun a' w hag _ => by
    simp only [execOp, hag.evO hx, Sem.run_bind, hf b o w, Result.andThen_ok, Sem.run_pure]) h

theorem setBlk_setCell {w : World} {b o : Nat} {cl : List Value} {T : TypeId} {fz : Nat × Nat} {v : Value} (h : w.heap[b]? = some (.cells cl.toArray T fz)) :
    w.setCell ⟨b, o, none⟩ v = setBlk w b (.cells (cl.set o v).toArray T fz) := by
  have hlt : b < w.heap.size := by
    rcases Nat.lt_or_ge b w.heap.size with h' | h'
    · exact h'
    · rw [Array.getElem?_eq_none h'] at h; cases h
  have hb : w.heap[b] = .cells cl.toArray T fz := by rw [Array.getElem?_eq_getElem hlt] at h; exact Option.some.inj h
  simp only [World.setCell, setBlk]
  congr 1
  apply Array.ext_getElem?
  intro i
  rw [Array.getElem?_modify, Array.getElem?_setIfInBounds]
  by_cases e : b = i
  · subst e; simp [hlt, hb]
  · simp [e]

/-- Cells written in a row. -/
def spl (cl : List Value) (o : Nat) : List Value → List Value
  | [] => cl
  | v :: vs => spl (cl.set o v) (o + 1) vs

theorem spl_length (vs : List Value) : ∀ (cl : List Value) (o : Nat), (spl cl o vs).length = cl.length := by
  induction vs with
  | nil => intros; rfl
  | cons v vs ih => intro cl o; simp [spl, ih]

theorem run_storeCells {b o : Nat} {T : TypeId} : ∀ (vs : List Value) (j : Nat) (w : World) (cl : List Value), w.heap[b]? = some (.cells cl.toArray T (0, 0)) → (∀ v ∈ vs, v.oneCell' = true) → o + j + vs.length ≤ cl.length →
    (storeCells ⟨b, o, none⟩ vs j).run P w = .ok () (setBlk w b (.cells (spl cl (o + j) vs).toArray T (0, 0))) := by
  intro vs
  induction vs with
  | nil =>
    intro j w cl h _ _
    simp only [storeCells, Sem.run_pure, spl]
    congr 1
    simp only [setBlk]
    have : w.heap.setIfInBounds b (.cells cl.toArray T (0, 0)) = w.heap := by
      apply Array.ext_getElem?
      intro i
      rw [Array.getElem?_setIfInBounds]
      by_cases e : b = i
      · subst e
        rw [if_pos rfl, h]
        split
        · rfl
        · rename_i hlt
          rw [Array.getElem?_eq_none (by omega)] at h
          cases h
      · rw [if_neg e]
    rw [this]
  | cons v vs ih =>
    intro j w cl h hv hl
    simp only [List.length_cons] at hl
    have hlt : b < w.heap.size := by
      rcases Nat.lt_or_ge b w.heap.size with h' | h'
      · exact h'
      · rw [Array.getElem?_eq_none h'] at h; cases h
    have hc : w.cell? ⟨b, o + j, none⟩ = some (cl[o + j]'(by omega)) := by rw [cell_of h]; exact List.getElem?_eq_getElem _
    have hf : w.frozen? ⟨b, o + j, none⟩ = false := by simp [World.frozen?, h]
    simp only [storeCells, Sem.run_bind, add_none]
    rw [run_store P w _ v .plain (hv v List.mem_cons_self), hc]
    simp only [hf, Bool.false_eq_true, if_false, Result.andThen_ok]
    rw [setBlk_setCell h, ih (j + 1) _ (cl.set (o + j) v) (by simp [setBlk, hlt]) (fun u hu => hv u (List.mem_cons_of_mem _ hu)) (by simp; omega)]
    simp only [spl, Nat.add_assoc, setBlk]
    congr 2
    apply Array.ext_getElem?
    intro i
    simp only [Array.getElem?_setIfInBounds, Array.size_setIfInBounds]
    by_cases e : b = i <;> simp [e]

theorem s_store {x y : Operand} {t : TypeId} {i b o k : Nat} {T : TypeId} {cl vs : List Value} {v : Value} (h2 : ∀ w, (sizeOf t).run P w = .ok k w)
    (hx : evO fr x = some (.pointer (some ⟨b, o, none⟩))) (hy : evO fr y = some v) (hi : L[i]? = some (pt b (.cells cl.toArray T (0, 0)))) (hvs : v.cells = vs.toArray) (hk : vs.length = k)
    (hone : vs.all (·.oneCell') = true) (ho : Nat.ble (o + k) cl.length = true)
    (h : SXs P n ops rest fr g (L.set i (pt b (.cells (spl cl o vs).toArray T (0, 0)))) K X) : SXs P n ops (⟨none, .store t x y, ty, ps, af, none⟩ :: rest) fr g L K X :=
  s_genW (Q := fun v w' => v = undef ∧ St g w' (L.set i (pt b (.cells (spl cl o vs).toArray T (0, 0))))) rfl (fun a' w hag hw => by
    subst hk
    refine ⟨undef, _, .inr ⟨rfl, ?_⟩, rfl, hw.set (o' := .cells (spl cl o vs).toArray T (0, 0)) hi⟩
    simp only [execOp, hag.evO hx, hag.evO hy, Instr.storeAt, Instr.sureAddr, Sem.run_bind, Sem.run_pure, Result.andThen_ok, storeVar, h2, hvs, List.size_toArray, ne_eq, not_true_eq_false, if_false]
    rw [run_storeCells vs 0 w cl (hw.get hi).2 (by simpa using hone) (by have := Nat.le_of_ble_eq_true ho; omega)]
    rfl) (fun v w ⟨_, hS⟩ => h w hS)

theorem run_newVar {w : World} {t : TypeId} {v : Value} : (newVar t v).run P w = .ok ⟨w.heap.size, 0, none⟩ (w.alloc (.cells v.cells t (0, 0))) := by
  simp [newVar, newRow]

theorem s_box {x : Operand} {T : TypeId} {v : Value} {cl : List Value} (hd : Nat.blt d n = true) (hx : evO fr x = some v) (hv : v.cells = cl.toArray)
    (h : ∀ b, SXs P n ops rest ((d, .pointer (some ⟨b, 0, none⟩)) :: fr) g (pt b (.cells cl.toArray T (0, 0)) :: L) K X) : SXs P n ops (⟨some d, .box T x, ty, ps, af, none⟩ :: rest) fr g L K X :=
  s_genW (Q := fun v w' => ∃ b, v = .pointer (some ⟨b, 0, none⟩) ∧ St g w' (pt b (.cells cl.toArray T (0, 0)) :: L)) (by simpa [dstOk] using hd) (fun a' w hag hw => by
    refine ⟨.pointer (some ⟨w.heap.size, 0, none⟩), w.alloc (.cells cl.toArray T (0, 0)), .inl ?_, _, rfl, hw.alloc _⟩
    simp only [execOp, hag.evO hx, Instr.box, Sem.run_bind, run_newVar, Result.andThen_ok, Sem.run_pure, hv]) (fun v w ⟨b, e, hS⟩ => by subst e; exact h b w hS)

theorem s_alloc {T : TypeId} {z : Value} {cl : List Value} (hz : ∀ w, (zeroValue T).run P w = .ok z w) (hv : z.cells = cl.toArray) (hd : Nat.blt d n = true)
    (h : ∀ b, SXs P n ops rest ((d, .pointer (some ⟨b, 0, none⟩)) :: fr) g (pt b (.cells cl.toArray T (0, 0)) :: L) K X) : SXs P n ops (⟨some d, .alloc T, ty, ps, af, none⟩ :: rest) fr g L K X :=
  s_genW (Q := fun v w' => ∃ b, v = .pointer (some ⟨b, 0, none⟩) ∧ St g w' (pt b (.cells cl.toArray T (0, 0)) :: L)) (by simpa [dstOk] using hd) (fun a' w hag hw => by
    refine ⟨.pointer (some ⟨w.heap.size, 0, none⟩), w.alloc (.cells cl.toArray T (0, 0)), .inl ?_, _, rfl, hw.alloc _⟩
    simp only [execOp, Instr.alloc, Sem.run_bind, hz, Result.andThen_ok, run_newVar, Sem.run_pure, hv]) (fun v w ⟨b, e, hS⟩ => by subst e; exact h b w hS)

/-! ### Calls -/

def Enters (P : Program) (f : FuncId) : Prop := ∀ (args : Array Value) (w : World), (callFunc f args).run P w = .ok (.enter f args) w

theorem s_callV {d : Option Nat} {c : Operand} {args : List Operand} {ats : Array TypeId} {f : FuncId} {fs cs vs us : List Value} {Q : Value → World → Prop} (hf : Enters P f) (hd : dstOk n d = true)
    (hc : evO fr c = some (.func (.func f) fs.toArray cs.toArray)) (ha : args.map (evO fr) = vs.map some) (hu : fs ++ vs ++ cs = us) (hR : RCs P f us g L Q)
    (h : ∀ v w, Q v w → SX P n ops rest (putF fr d v) w K X) : SXs P n ops (⟨d, .call ⟨.value c, args.toArray, ats⟩, ty, ps, af, none⟩ :: rest) fr g L K X := fun w hw a hag => by
  unfold wpList
  rw [if_pos (by simp [Region.wanted])]
  refine .inl ?_
  unfold Oper.wp
  have hrun : (execOp a.eval ⟨d, .call ⟨.value c, args.toArray, ats⟩, ty, ps, af, none⟩).run P w = .ok (.enter f us.toArray) w := by
    subst hu
    have e := hf (fs ++ vs ++ cs).toArray w
    simp only [execOp, resolve, hag.evO hc, Deferred.ofValue, List.map_toArray, hag.evOs ha, Sem.run_bind, Sem.run_pure, Result.andThen_ok, invoke]
    rw [show ((fs.toArray ++ vs.toArray) ++ cs.toArray) = (fs ++ vs ++ cs).toArray from by simp]
    exact e
  rw [hrun]
  simp only [Oper.upon]
  exact Calls.mono (hR w hw) (fun e w' he => by
    obtain ⟨v, rfl, hv⟩ := he
    exact h _ _ hv _ (hag.putF hd v))

theorem s_call {d : Option Nat} {args : List Operand} {ats : Array TypeId} {f : FuncId} {vs : List Value} {Q : Value → World → Prop} (hf : Enters P f) (hd : dstOk n d = true)
    (ha : args.map (evO fr) = vs.map some) (hR : RCs P f vs g L Q)
    (h : ∀ v w, Q v w → SX P n ops rest (putF fr d v) w K X) : SXs P n ops (⟨d, .call ⟨.value (.func f), args.toArray, ats⟩, ty, ps, af, none⟩ :: rest) fr g L K X :=
  s_callV (fs := []) (cs := []) hf hd rfl ha (by simp) hR h

/-- What is handed back. -/
def retK (P : Program) (rs : List ResultVar) (k : Value → World → Prop) : Fr → World → Prop := fun fr w => RL P rs fr w fun vs => k (packV vs) w

theorem RCs_of_WPs {f : FuncId} {fn : Func} {c : Code} {vs : List Value} {rs : List ResultVar} {k : Value → World → Prop} (hf : P.funcs[f]? = some fn) (hb : fn.body = some c)
    (hn : fn.ntmps = n) (hl : Nat.ble vs.length n = true) (hrs : fn.results = rs.toArray)
    (h : WPs P n c (argFr 0 vs) g L (retK P rs k) ⟨retK P rs k, []⟩) :
    RCs P f vs g L k := fun w hw => RC_of_WP hf hb hn hl hrs (h w hw)

/-! ### Results -/

def RLk (P : Program) (rs : List ResultVar) (fr : Fr) (us : List Value) (k : Value → World → Prop) : World → Prop := fun w => RL P rs fr w fun vs => k (packV (us ++ vs)) w
theorem RLs_start {rs : List ResultVar} {k : Value → World → Prop} (h : KSs g L (RLk P rs fr [] k)) : KSs g L (retK P rs k fr) := h
theorem RLs_tmp {t : Nat} {rs : List ResultVar} {v : Value} {us : List Value} {k : Value → World → Prop} (hl : lkO fr t = some v) (h : KSs g L (RLk P rs fr (us ++ [v]) k)) : KSs g L (RLk P (.tmp t :: rs) fr us k) :=
  fun w hw => ⟨v, hl, by have := h w hw; unfold RLk at this; simpa using this⟩
theorem RLs_cellN {t a b o kk : Nat} {rs : List ResultVar} {us cs : List Value} {k : Value → World → Prop} (h1 : ∀ w, (isAgg t).run P w = .ok true w) (h2 : ∀ w, (sizeOf t).run P w = .ok kk w)
    (hl : lkO fr a = some (.pointer (some ⟨b, o, none⟩))) (hc : CellsIn g L b o cs) (hk : cs.length = kk) (h : KSs g L (RLk P rs fr (us ++ [.agg cs.toArray]) k)) :
    KSs g L (RLk P (.cell a t :: rs) fr us k) :=
  fun w hw => ⟨_, hl, _, _, rfl, run_loadVarN h1 h2 hk (hc w hw), by have := h w hw; unfold RLk at this; simpa using this⟩
theorem RLs_cell1 {t a : Nat} {A : Addr} {rs : List ResultVar} {u : Value} {us : List Value} {k : Value → World → Prop} (h1 : ∀ w, (isAgg t).run P w = .ok false w)
    (hl : lkO fr a = some (.pointer (some A))) (hc : CellIn g L A u) (h : KSs g L (RLk P rs fr (us ++ [u]) k)) :
    KSs g L (RLk P (.cell a t :: rs) fr us k) :=
  fun w hw => ⟨_, hl, _, _, rfl, run_loadVar1 h1 (hc w hw), by have := h w hw; unfold RLk at this; simpa using this⟩
theorem RLs_fin0 {k : Value → World → Prop} (h : KSs g L (k (.tuple #[]))) : KSs g L (RLk P [] fr [] k) := fun w hw => h w hw
theorem RLs_fin1 {v1 : Value} {k : Value → World → Prop} (h : KSs g L (k v1)) : KSs g L (RLk P [] fr ([] ++ [v1]) k) := fun w hw => h w hw
theorem RLs_fin2 {v1 v2 : Value} {k : Value → World → Prop} (h : KSs g L (k (.tuple #[v1, v2]))) : KSs g L (RLk P [] fr ([] ++ [v1] ++ [v2]) k) := fun w hw => h w hw
theorem RLs_fin3 {v1 v2 v3 : Value} {k : Value → World → Prop} (h : KSs g L (k (.tuple #[v1, v2, v3]))) : KSs g L (RLk P [] fr ([] ++ [v1] ++ [v2] ++ [v3]) k) := fun w hw => h w hw
theorem RLs_nil {us : List Value} {v : Value} {k : Value → World → Prop} (hv : packV us = v) (h : KSs g L (k v)) : KSs g L (RLk P [] fr us k) := fun w hw => by
  unfold RLk RL
  show k (packV (us ++ [])) w
  rw [List.append_nil, hv]
  exact h w hw

end
end Go.Hb
/-
  Small laws for the walks (generic), and this program's own facts on its types: where a field lies.
-/
namespace Go.Hb
open Go Go.RowKit

theorem RCs.perm {P : Program} {f : FuncId} {vs : List Value} {g : World} {L L' : List HP} {k : Value → World → Prop} (p : L.Perm L') (h : RCs P f vs g L' k) : RCs P f vs g L k :=
  fun w hw => h w (hw.perm p)

theorem pick {L L' : List HP} {Q : HP} (i : Nat) (h : L[i]? = some Q) (h' : (L.eraseIdx i).Perm L') : L.Perm (Q :: L') :=
  (perm_at h).trans (h'.cons Q)

theorem St.sub_to {g w : World} {L A B : List HP} (h : St g w L) (p : L.Perm (A ++ B)) : St g w A := by
  have h1 := h.perm p
  obtain ⟨h2, h3, hd, hs, _⟩ := h1.sat.split
  exact ⟨h1.below, hs.sub hd.sub_l⟩

theorem St.without (B : List HP) {g w : World} {L A : List HP} (h : St g w L) (p : L.Perm (B ++ A)) : St g w A := by
  have h1 := h.perm p
  obtain ⟨h2, h3, hd, _, hs⟩ := h1.sat.split
  exact ⟨h1.below, hs.sub hd.sub_r⟩
theorem St.bring {g w : World} {L : List HP} {Q : HP} (i : Nat) (h : St g w L) (hi : L[i]? = some Q) : St g w (Q :: L.eraseIdx i) := h.perm (perm_at hi)
theorem St.drop_at {g w : World} {L : List HP} {Q : HP} (i : Nat) (h : St g w L) (hi : L[i]? = some Q) : St g w (L.eraseIdx i) := (h.bring i hi).tail

@[congr] theorem SXs_congr {P : Program} {n : Nat} {ops : Array Oper} {l : List Oper} {fr fr' : Fr} {g : World} {L L' : List HP} {K : Fr → World → Prop} {X : Ks} (h1 : fr = fr') (h2 : L = L') :
    SXs P n ops l fr g L K X = SXs P n ops l fr' g L' K X := by rw [h1, h2]
@[congr] theorem WPs_congr {P : Program} {n : Nat} {c : Code} {fr fr' : Fr} {g : World} {L L' : List HP} {K : Fr → World → Prop} {X : Ks} (h1 : fr = fr') (h2 : L = L') :
    WPs P n c fr g L K X = WPs P n c fr' g L' K X := by rw [h1, h2]
@[congr] theorem KSs_congr {g : World} {L L' : List HP} {k : World → Prop} (h2 : L = L') : KSs g L k = KSs g L' k := by rw [h2]

def InR (k : IntKind) (x : Int) : Prop := k.wrap x = x

theorem inR_i64 {x : Int} (h1 : -9223372036854775808 ≤ x) (h2 : x ≤ 9223372036854775807) : InR .i64 x := by
  unfold InR IntKind.wrap
  simp [IntKind.bits, IntKind.signed]
  omega
theorem inR_i32 {x : Int} (h1 : -2147483648 ≤ x) (h2 : x ≤ 2147483647) : InR .i32 x := by
  unfold InR IntKind.wrap
  simp [IntKind.bits, IntKind.signed]
  omega
theorem inR_u64 {x : Int} (h1 : 0 ≤ x) (h2 : x ≤ 18446744073709551615) : InR .u64 x := by
  unfold InR IntKind.wrap
  simp [IntKind.bits, IntKind.signed]
  omega
theorem inR_u32 {x : Int} (h1 : 0 ≤ x) (h2 : x ≤ 4294967295) : InR .u32 x := by
  unfold InR IntKind.wrap
  simp [IntKind.bits, IntKind.signed]
  omega
theorem inR_u16 {x : Int} (h1 : 0 ≤ x) (h2 : x ≤ 65535) : InR .u16 x := by
  unfold InR IntKind.wrap
  simp [IntKind.bits, IntKind.signed]
  omega
theorem inR_u8 {x : Int} (h1 : 0 ≤ x) (h2 : x ≤ 255) : InR .u8 x := by
  unfold InR IntKind.wrap
  simp [IntKind.bits, IntKind.signed]
  omega

section
variable {P : Program} {n : Nat} {fr : Fr} {g : World} {L : List HP} {K : Fr → World → Prop} {X : Ks} {ops : Array Oper}
variable {d : Nat} {ty : TypeId} {ps : String} {af : Array Edge} {rest : List Oper}

theorem s_add_ok {x y : Operand} {t yt : TypeId} {k : IntKind} {a b : Int} (hd : Nat.blt d n = true) (hx : evO fr x = some (.int k a)) (hy : evO fr y = some (.int k b)) (hr : InR k (a + b))
    (h : SXs P n ops rest ((d, .int k (a + b)) :: fr) g L K X) : SXs P n ops (⟨some d, .binOp .add t x y yt, ty, ps, af, none⟩ :: rest) fr g L K X := s_add' hd hx hy hr h
theorem s_sub_ok {x y : Operand} {t yt : TypeId} {k : IntKind} {a b : Int} (hd : Nat.blt d n = true) (hx : evO fr x = some (.int k a)) (hy : evO fr y = some (.int k b)) (hr : InR k (a - b))
    (h : SXs P n ops rest ((d, .int k (a - b)) :: fr) g L K X) : SXs P n ops (⟨some d, .binOp .sub t x y yt, ty, ps, af, none⟩ :: rest) fr g L K X := s_sub' hd hx hy hr h
theorem s_mul_ok {x y : Operand} {t yt : TypeId} {k : IntKind} {a b : Int} (hd : Nat.blt d n = true) (hx : evO fr x = some (.int k a)) (hy : evO fr y = some (.int k b)) (hr : InR k (a * b))
    (h : SXs P n ops rest ((d, .int k (a * b)) :: fr) g L K X) : SXs P n ops (⟨some d, .binOp .mul t x y yt, ty, ps, af, none⟩ :: rest) fr g L K X := s_mul' hd hx hy hr h
theorem s_conv_ok {x : Operand} {src dst : TypeId} {td : TypeDesc} {k k0 : IntKind} {a : Int} (hus : P.underlying src = some td) (hud : P.underlying dst = some (.int k)) (hd : Nat.blt d n = true)
    (hx : evO fr x = some (.int k0 a)) (hr : InR k a) (h : SXs P n ops rest ((d, .int k a) :: fr) g L K X) :
    SXs P n ops (⟨some d, .convert src dst x, ty, ps, af, none⟩ :: rest) fr g L K X := s_conv hus hud hd hx hr h

theorem s_pickB {c x y : Operand} {t a b : Bool} (hd : Nat.blt d n = true) (hc : evO fr c = some (.bool t)) (hx : evO fr x = some (.bool a)) (hy : evO fr y = some (.bool b))
    (h : SXs P n ops rest ((d, .bool (bif t then a else b)) :: fr) g L K X) : SXs P n ops (⟨some d, .pick c x y, ty, ps, af, none⟩ :: rest) fr g L K X :=
  s_pick hd hc hx hy (r := .bool (bif t then a else b)) (by cases t <;> rfl) h
theorem s_nilCheckF {x : Operand} {f : FuncId} {a b : Array Value} (hd : Nat.blt d n = true) (hx : evO fr x = some (.func (.func f) a b)) (h : SXs P n ops rest ((d, .func (.func f) a b) :: fr) g L K X) :
    SXs P n ops (⟨some d, .nilCheck x, ty, ps, af, none⟩ :: rest) fr g L K X :=
  s_gen hd (fun a w ha _ => by simp [execOp, ha.evO hx]) h
theorem s_guard_t2 {d : Option Nat} {op : Op} {j dj : Nat} {want b : Bool}
    (hdj : (ops[j]?).bind (·.dst) = some dj) (hl : lkO fr dj = some (.bool b)) (hb : b = want) (hd : dstOk n d = true)
    (ht : SXs P n ops (⟨d, op, ty, ps, af, none⟩ :: rest) fr g L K X) : SXs P n ops (⟨d, op, ty, ps, af, some (j, want)⟩ :: rest) fr g L K X :=
  s_guard hdj hl hd (fun _ => ht) (fun e => by subst hb; cases b <;> cases e)
end
end Go.Hb
/-
  Slices (generic in the program): one that is owned, one that is only read; len, an element's address, slicing, append, make, copy.
-/
namespace Go.Hb
open Go Go.RowKit

/-- v is a slice of n elements of k cells each, nobody else's; its cells are xs. -/
def own (T : TypeId) (k : Nat) (v : Value) (n : Nat) (xs : List Value) : HP := fun h =>
  xs.length = n * k ∧ ((v = .slice none 0 0 ∧ n = 0) ∨
    ∃ (b cap : Nat) (cur : List Value), v = .slice (some ⟨b, 0, none⟩) n cap ∧ n ≤ cap ∧ cap ≤ maxLen ∧ cur.length = cap * k ∧ cur.take (n * k) = xs ∧ h b = some (.cells cur.toArray T (0, 0)))

/-- v is a slice of n elements of k cells each that reads as xs wherever the pieces L stand. -/
def RdIn (g : World) (L : List HP) (v : Value) (k n : Nat) (xs : List Value) : Prop :=
  xs.length = n * k ∧ n ≤ maxLen ∧ ((∃ az, v = .slice az 0 0 ∧ n = 0) ∨ ∃ b off cap, v = .slice (some ⟨b, off, none⟩) n cap ∧ n ≤ cap ∧ CellsIn g L b off xs)

section
variable {P : Program} {n : Nat} {fr : Fr} {g : World} {L : List HP} {K : Fr → World → Prop} {X : Ks} {ops : Array Oper}
variable {d : Nat} {ty : TypeId} {ps : String} {af : Array Edge} {rest : List Oper}

theorem RdIn.nil {k : Nat} : RdIn g L (.slice none 0 0) k 0 [] := ⟨by simp, by simp [maxLen], .inl ⟨_, rfl, rfl⟩⟩
theorem CellsIn.mono {L' : List HP} {b o : Nat} {xs : List Value} (h : CellsIn g L b o xs) (hm : ∀ w, St g w L' → St g w L) : CellsIn g L' b o xs := fun w hw => h w (hm w hw)
theorem RdIn.mono {L' : List HP} {v : Value} {k m : Nat} {xs : List Value} (h : RdIn g L v k m xs) (hm : ∀ w, St g w L' → St g w L) : RdIn g L' v k m xs :=
  ⟨h.1, h.2.1, h.2.2.imp id (fun ⟨b, o, c, h1, h2, h3⟩ => ⟨b, o, c, h1, h2, h3.mono hm⟩)⟩
theorem St.drop {w : World} {Q : HP} (s : St g w (Q :: L)) : St g w L := s.tail
theorem RdIn.cons {v : Value} {k m : Nat} {xs : List Value} {Q : HP} (h : RdIn g L v k m xs) : RdIn g (Q :: L) v k m xs := h.mono fun _ s => s.tail
theorem RdIn.perm {L' : List HP} {v : Value} {k m : Nat} {xs : List Value} (h : RdIn g L v k m xs) (p : L'.Perm L) : RdIn g L' v k m xs := h.mono fun _ s => s.perm p
theorem RdIn.form {v : Value} {k m : Nat} {xs : List Value} (h : RdIn g L v k m xs) : ∃ a cap, v = .slice a m cap ∧ m ≤ cap := by
  rcases h.2.2 with ⟨az, h1, h2⟩ | ⟨b, o, c, h1, h2, _⟩
  · subst h2; exact ⟨_, _, h1, Nat.le_refl _⟩
  · exact ⟨_, _, h1, h2⟩

theorem own_RdIn {i : Nat} {T : TypeId} {k m : Nat} {v : Value} {xs : List Value} (hi : L[i]? = some (own T k v m xs)) (hne : ∃ w, St g w L) : RdIn g L v k m xs := by
  obtain ⟨w0, hw0⟩ := hne
  have h0 := (hw0.perm (perm_at hi)).sat
  obtain ⟨h1, h2, hd, ⟨hl, hv⟩, _⟩ := h0
  rcases hv with ⟨rfl, rfl⟩ | ⟨b, cap, cur, rfl, hc, hm, hcl, htk, hb⟩
  · exact ⟨hl, by simp [maxLen], .inl ⟨_, rfl, rfl⟩⟩
  · refine ⟨hl, Nat.le_trans hc hm, .inr ⟨b, 0, cap, rfl, hc, fun w hw j u hj => ?_⟩⟩
    obtain ⟨h1', h2', hd', ⟨hl', hv'⟩, _⟩ := (hw.perm (perm_at hi)).sat
    rcases hv' with ⟨hv', _⟩ | ⟨b', cap', cur', hv', hc', _, hcl', htk', hb'⟩
    · cases hv'
    · cases hv'
      have hbw : newH g w b = some (.cells cur'.toArray T (0, 0)) := by
        rcases hd' b with ⟨e, _⟩ | ⟨e, _⟩
        · rw [← e]; exact hb'
        · rw [e] at hb'; cases hb'
      rw [cell_of (newH_ge hbw).2, Nat.zero_add]
      rw [← htk', List.getElem?_take] at hj
      split at hj
      · exact hj
      · cases hj

theorem own_form {w : World} {i : Nat} {T : TypeId} {k m : Nat} {v : Value} {xs : List Value} (hw : St g w L) (hi : L[i]? = some (own T k v m xs)) : ∃ a c, v = .slice a m c ∧ m ≤ c := (own_RdIn hi ⟨w, hw⟩).form
theorem own_form0 {w : World} {T : TypeId} {k m : Nat} {v : Value} {xs : List Value} (hw : St g w (own T k v m xs :: L)) : ∃ a c, v = .slice a m c ∧ m ≤ c := own_form (i := 0) hw rfl

theorem pt_RdIn {i : Nat} {T : TypeId} {k m b o cap : Nat} {cl xs : List Value} {fz : Nat × Nat} (hi : L[i]? = some (pt b (.cells cl.toArray T fz))) (hc : (cl.drop o).take (m * k) = xs) (hl : xs.length = m * k) (hm : m ≤ cap) (hmx : m ≤ maxLen) :
    RdIn g L (.slice (some ⟨b, o, none⟩) m cap) k m xs := ⟨hl, hmx, .inr ⟨b, o, cap, rfl, hm, csin hi hc⟩⟩

theorem cells_old {b o : Nat} {xs : List Value} (h : ∀ j u, xs[j]? = some u → g.cell? ⟨b, o + j, none⟩ = some u) : CellsIn g L b o xs := csin_old h

/-! ### len, an element's address -/

theorem s_len {ats : Array TypeId} {T E : TypeId} {x : Operand} {a : Option Addr} {m cap : Nat} (hat : ats[0]? = some T) (hu : P.underlying T = some (.slice E)) (hd : Nat.blt d n = true) (hx : evO fr x = some (.slice a m cap))
    (h : SXs P n ops rest ((d, .int .i64 (m : Int)) :: fr) g L K X) : SXs P n ops (⟨some d, .call ⟨.builtin .len, #[x], ats⟩, ty, ps, af, none⟩ :: rest) fr g L K X :=
  s_gen hd (fun a' w hag _ => by
    have h1 := hag.evO hx
    simp [execOp, resolve, h1, invoke, builtin, Builtin.len_, hat, underlying, hu, goInt]) h
theorem s_lenRd {ats : Array TypeId} {T E : TypeId} {x : Operand} {v : Value} {k m : Nat} {xs : List Value} (hat : ats[0]? = some T) (hu : P.underlying T = some (.slice E)) (hd : Nat.blt d n = true) (hx : evO fr x = some v) (hR : RdIn g L v k m xs)
    (h : SXs P n ops rest ((d, .int .i64 (m : Int)) :: fr) g L K X) : SXs P n ops (⟨some d, .call ⟨.builtin .len, #[x], ats⟩, ty, ps, af, none⟩ :: rest) fr g L K X := by
  obtain ⟨a, cap, rfl, _⟩ := hR.form
  exact s_len hat hu hd hx h
theorem s_lenStr {ats : Array TypeId} {T : TypeId} {x : Operand} {s : ByteArray} (hat : ats[0]? = some T) (hu : P.underlying T = some .string) (hd : Nat.blt d n = true) (hx : evO fr x = some (.string s))
    (h : SXs P n ops rest ((d, .int .i64 (s.size : Int)) :: fr) g L K X) : SXs P n ops (⟨some d, .call ⟨.builtin .len, #[x], ats⟩, ty, ps, af, none⟩ :: rest) fr g L K X :=
  s_gen hd (fun a' w hag _ => by
    have h1 := hag.evO hx
    simp [execOp, resolve, h1, invoke, builtin, Builtin.len_, hat, underlying, hu, goInt]) h
theorem s_lenArr {ats : Array TypeId} {T E : TypeId} {x : Operand} {v : Value} {m : Nat} (hat : ats[0]? = some T) (hu : P.underlying T = some (.array m E)) (hd : Nat.blt d n = true) (hx : evO fr x = some v)
    (h : SXs P n ops rest ((d, .int .i64 (m : Int)) :: fr) g L K X) : SXs P n ops (⟨some d, .call ⟨.builtin .len, #[x], ats⟩, ty, ps, af, none⟩ :: rest) fr g L K X :=
  s_gen hd (fun a' w hag _ => by
    have h1 := hag.evO hx
    simp [execOp, resolve, h1, invoke, builtin, Builtin.len_, hat, underlying, hu, goInt]) h

/-- What the model knows of a slice type and of its elements. -/
structure SlT (P : Program) (T E k bytes : Nat) (z : Value) : Prop where
  und : P.underlying T = some (.slice E)
  info : ∃ i, P.info? E = some i ∧ i.zero = some z ∧ i.size = k ∧ i.bytes = bytes
  zs : z.cells.size = k
  pos : 0 < k

theorem SlT.mk' {T E k bytes : Nat} {z : Value} (hu : P.underlying T = some (.slice E)) (hi : (P.info? E).map (fun i => (i.zero, i.size, i.bytes)) = some (some z, k, bytes)) (hz : z.cells.size = k) (hk : 0 < k) : SlT P T E k bytes z := by
  refine ⟨hu, ?_, hz, hk⟩
  cases h : P.info? E with
  | none => rw [h] at hi; cases hi
  | some i =>
    rw [h] at hi
    simp at hi
    exact ⟨i, rfl, hi.1, hi.2.1, hi.2.2⟩

theorem SlT.size {T E k bytes : Nat} {z : Value} (h : SlT P T E k bytes z) (w : World) : (sizeOf E).run P w = .ok k w := by
  obtain ⟨i, h1, _, h3, _⟩ := h.info
  simp [sizeOf, typeInfo, h1, h3]

theorem run_indexAt {T E k bytes : Nat} {z : Value} (hT : SlT P T E k bytes z) {b o m cap : Nat} {kd : IntKind} {i : Int} (h0 : 0 ≤ i) (h1 : i < m) (w : World) :
    (Instr.indexAt T (.slice (some ⟨b, o, none⟩) m cap) (.int kd i)).run P w = .ok (.pointer (some ⟨b, o + i.toNat * k, none⟩)) w := by
  simp [Instr.indexAt, asIntOf, underlying, hT.und, h0, h1, hT.size, add_none]

theorem s_idx {T E k bytes : Nat} {z : Value} (hT : SlT P T E k bytes z) {x y : Operand} {b o m cap : Nat} {kd : IntKind} {i : Int} (hd : Nat.blt d n = true) (hx : evO fr x = some (.slice (some ⟨b, o, none⟩) m cap)) (hy : evO fr y = some (.int kd i))
    (h0 : 0 ≤ i) (h1 : i < m) (h : SXs P n ops rest ((d, .pointer (some ⟨b, o + i.toNat * k, none⟩)) :: fr) g L K X) : SXs P n ops (⟨some d, .indexAddr T x y, ty, ps, af, none⟩ :: rest) fr g L K X :=
  s_gen hd (fun a' w hag _ => by
    simp only [execOp, hag.evO hx, hag.evO hy, Sem.run_bind, run_indexAt hT h0 h1, Result.andThen_ok, Sem.run_pure]) h

/-- An element of a slice that is read: its address holds what the slice reads there. -/
theorem s_idxRd {T E k bytes : Nat} {z : Value} (hT : SlT P T E k bytes z) {x y : Operand} {v : Value} {m : Nat} {xs : List Value} {kd : IntKind} {i : Int} (hd : Nat.blt d n = true) (hx : evO fr x = some v) (hR : RdIn g L v k m xs) (hy : evO fr y = some (.int kd i))
    (h0 : 0 ≤ i) (h1 : i < m) (h : ∀ b o, CellsIn g L b o ((xs.drop (i.toNat * k)).take k) → SXs P n ops rest ((d, .pointer (some ⟨b, o, none⟩)) :: fr) g L K X) : SXs P n ops (⟨some d, .indexAddr T x y, ty, ps, af, none⟩ :: rest) fr g L K X := by
  obtain ⟨hl, _, ⟨az, rfl, rfl⟩ | ⟨b, o, cap, rfl, hc, hcs⟩⟩ := hR
  · omega
  · refine s_idx hT hd hx hy h0 h1 (h b (o + i.toNat * k) fun w hw j u hj => ?_)
    rw [List.getElem?_take] at hj
    split at hj
    · rw [List.getElem?_drop] at hj
      have := hcs w hw _ u hj
      rwa [Nat.add_assoc]
    · cases hj

/-- An element of an array behind a pointer. -/
theorem s_idxArr {T E k m b o : Nat} {x y : Operand} {kd : IntKind} {i : Int} (hu : P.underlying T = some (.array m E)) (hs : ∀ w, (sizeOf E).run P w = .ok k w) (hd : Nat.blt d n = true) (hx : evO fr x = some (.pointer (some ⟨b, o, none⟩))) (hy : evO fr y = some (.int kd i))
    (h0 : 0 ≤ i) (h1 : i < m) (h : SXs P n ops rest ((d, .pointer (some ⟨b, o + i.toNat * k, none⟩)) :: fr) g L K X) : SXs P n ops (⟨some d, .indexAddr T x y, ty, ps, af, none⟩ :: rest) fr g L K X :=
  s_gen hd (fun a' w hag _ => by
    simp [execOp, hag.evO hx, hag.evO hy, Instr.indexAt, asIntOf, underlying, hu, h0, h1, hs, add_none, Instr.sureAddr]) h

/-! ### Slicing -/

theorem run_slice {T E k bytes : Nat} {z : Value} (hT : SlT P T E k bytes z) {a : Option Addr} {m cap : Nat} {lo hi : Option Value} {l h : Nat}
    (hl : lo = some (.int .i64 (l : Int)) ∨ (lo = none ∧ l = 0)) (hh : hi = some (.int .i64 (h : Int)) ∨ (hi = none ∧ h = m)) (h1 : l ≤ h) (h2 : h ≤ cap) (w : World) :
    (Instr.sliceAt T (.slice a m cap) lo hi none).run P w = .ok (.slice (if cap = l then a else a.map (·.add (l * k))) (h - l) (cap - l)) w := by
  have hs := hT.size w
  rcases hl with rfl | ⟨rfl, rfl⟩ <;> rcases hh with rfl | ⟨rfl, rfl⟩ <;>
    simp [Instr.sliceAt, Instr.slice, underlying, hT.und, Instr.sliceBounds, Instr.sliceBound, asIntOf, h1, h2, hs]

def evOpt (fr : Fr) : Option Operand → Option Value → Prop
  | none, none => True
  | some x, some v => evO fr x = some v
  | _, _ => False

theorem Agr.evOpt {nn : Nat} {a : Act} {fr : Fr} (h : Agr nn a fr) {x : Option Operand} {v : Option Value} (hx : Hb.evOpt fr x v) : x.map a.eval = v := by
  cases x <;> cases v <;> simp only [Hb.evOpt] at hx
  · rfl
  · simp [h.evO hx]

theorem s_sliceRd {T E k bytes : Nat} {z : Value} (hT : SlT P T E k bytes z) {x : Operand} {lo hi : Option Operand} {vlo vhi : Option Value} {v : Value} {m l h' : Nat} {xs : List Value} (hd : Nat.blt d n = true) (hx : evO fr x = some v) (hR : RdIn g L v k m xs)
    (hlo : evOpt fr lo vlo) (hhi : evOpt fr hi vhi) (hl : vlo = some (.int .i64 (l : Int)) ∨ (vlo = none ∧ l = 0)) (hh : vhi = some (.int .i64 (h' : Int)) ∨ (vhi = none ∧ h' = m)) (h1 : l ≤ h') (h2 : h' ≤ m)
    (h : ∀ va vc, RdIn g L (.slice va (h' - l) vc) k (h' - l) ((xs.drop (l * k)).take ((h' - l) * k)) → SXs P n ops rest ((d, .slice va (h' - l) vc) :: fr) g L K X) : SXs P n ops (⟨some d, .slice T x lo hi none, ty, ps, af, none⟩ :: rest) fr g L K X := by
  obtain ⟨hlen, hmx, hv⟩ := hR
  have hlen' : ((xs.drop (l * k)).take ((h' - l) * k)).length = (h' - l) * k := by
    rw [List.length_take, List.length_drop, hlen, Nat.sub_mul]
    have := Nat.mul_le_mul_right k h2
    omega
  rcases hv with ⟨az, rfl, rfl⟩ | ⟨b, o, cap, rfl, hc, hcs⟩
  · have hl0 : l = 0 := by omega
    have hh0 : h' = 0 := by omega
    have hlz : h' - l = 0 := by omega
    have hX := h az 0 (by rw [hlz] at hlen' ⊢; exact ⟨hlen', by omega, .inl ⟨_, rfl, rfl⟩⟩)
    rw [hlz] at hX
    refine s_gen hd (v := .slice az 0 0) (fun a' w hag _ => ?_) hX
    have hr := run_slice hT (a := az) (m := 0) (cap := 0) hl hh h1 h2 w
    simp only [execOp, hag.evO hx, hag.evOpt hlo, hag.evOpt hhi, Option.map_none, Sem.run_bind, hr, Result.andThen_ok, Sem.run_pure]
    simp [hl0, hh0]
  · refine s_gen hd (v := .slice (if cap = l then some ⟨b, o, none⟩ else some ⟨b, o + l * k, none⟩) (h' - l) (cap - l)) (fun a' w hag _ => ?_) (h _ _ ⟨hlen', by omega, .inr ?_⟩)
    · have hr := run_slice hT (a := some ⟨b, o, none⟩) (m := m) (cap := cap) hl hh h1 (by omega) w
      simp only [execOp, hag.evO hx, hag.evOpt hlo, hag.evOpt hhi, Option.map_none, Sem.run_bind, hr, Result.andThen_ok, Sem.run_pure, Option.map_some, add_none]
    · by_cases e : cap = l
      · refine ⟨b, o, cap - l, by simp [e], by omega, fun w hw j u hj => ?_⟩
        have : h' - l = 0 := by omega
        rw [this] at hj
        simp at hj
      · refine ⟨b, o + l * k, cap - l, by simp [e], by omega, fun w hw j u hj => ?_⟩
        rw [List.getElem?_take] at hj
        split at hj
        · rw [List.getElem?_drop] at hj
          have := hcs w hw _ u hj
          rwa [Nat.add_assoc]
        · cases hj

/-- The beginning of an owned slice is owned. -/
theorem s_sliceOwn {T E k bytes i : Nat} {z : Value} (hT : SlT P T E k bytes z) {x : Operand} {hi : Operand} {v : Value} {T' m h' : Nat} {xs : List Value} (hd : Nat.blt d n = true) (hx : evO fr x = some v) (hL : L[i]? = some (own T' k v m xs))
    (hhi : evO fr hi = some (.int .i64 (h' : Int))) (h2 : h' ≤ m) (h : ∀ va vc, SXs P n ops rest ((d, .slice va h' vc) :: fr) g (L.set i (own T' k (.slice va h' vc) h' (xs.take (h' * k)))) K X) :
    SXs P n ops (⟨some d, .slice T x none (some hi) none, ty, ps, af, none⟩ :: rest) fr g L K X :=
  s_genW (Q := fun v w' => St g w' (L.set i (own T' k v h' (xs.take (h' * k))))) (by simpa [dstOk] using hd) (fun a' w hag hw => by
    have hil : i < L.length := by
      rcases Nat.lt_or_ge i L.length with h | h
      · exact h
      · rw [List.getElem?_eq_none h] at hL; cases hL
    have hp := hw.perm (perm_at hL)
    obtain ⟨hA, hB, hdj, ⟨hlen, hv⟩, hs⟩ := hp.sat
    have fin : ∀ v', own T' k v' h' (xs.take (h' * k)) hA → St g w (L.set i (own T' k v' h' (xs.take (h' * k)))) := fun v' hv' =>
      (St.mk hw.below ⟨hA, hB, hdj, hv', hs⟩ : St g w (own T' k v' h' (xs.take (h' * k)) :: L.eraseIdx i)).perm (perm_set hil)
    have hlen' : (xs.take (h' * k)).length = h' * k := by
      rw [List.length_take, hlen]
      exact Nat.min_eq_left (Nat.mul_le_mul_right k h2)
    rcases hv with ⟨rfl, rfl⟩ | ⟨b, cap, cur, rfl, hc, hm, hcl, htk, hb⟩
    · have hh0 : h' = 0 := by omega
      subst hh0
      have hr := run_slice hT (a := none) (m := 0) (cap := 0) (lo := none) (hi := some (.int .i64 ((0 : Nat) : Int))) (l := 0) (h := 0) (.inr ⟨rfl, rfl⟩) (.inl rfl) (Nat.le_refl _) (Nat.le_refl _) w
      refine ⟨.slice none 0 0, w, .inl ?_, fin _ ⟨hlen', .inl ⟨rfl, rfl⟩⟩⟩
      simp only [execOp, hag.evO hx, hag.evO hhi, Option.map_none, Option.map_some, Sem.run_bind, hr, Result.andThen_ok, Sem.run_pure]
      simp
    · have hr := run_slice hT (a := some ⟨b, 0, none⟩) (m := m) (cap := cap) (lo := none) (hi := some (.int .i64 (h' : Int))) (l := 0) (h := h') (.inr ⟨rfl, rfl⟩) (.inl rfl) (Nat.zero_le _) (by omega) w
      refine ⟨.slice (some ⟨b, 0, none⟩) h' cap, w, .inl ?_, fin _ ⟨hlen', .inr ⟨b, cap, cur, rfl, by omega, hm, hcl, ?_, hb⟩⟩⟩
      · simp only [execOp, hag.evO hx, hag.evO hhi, Option.map_none, Option.map_some, Sem.run_bind, hr, Result.andThen_ok, Sem.run_pure]
        simp [add_none]
      · rw [← htk, List.take_take, Nat.min_eq_left (Nat.mul_le_mul_right k h2)]) (fun v w hS => by
    have hil : i < L.length := by
      rcases Nat.lt_or_ge i L.length with h | h
      · exact h
      · rw [List.getElem?_eq_none h] at hL; cases hL
    obtain ⟨a, c, rfl, _⟩ := own_form (i := i) hS (List.getElem?_set_self hil)
    exact h a c w hS)

/-! ### append -/

theorem run_append_zero {T E k bytes : Nat} {z : Value} (hT : SlT P T E k bytes z) {ty : TypeId} {ats : Array TypeId} (h0 : ats[0]? = some T) (h1 : ats[1]? = some T) {a a' : Option Addr} {m cap c' : Nat} (hm : m ≤ cap) (w : World) :
    (Builtin.append_ ats ty #[.slice a m cap, .slice a' 0 c']).run P w = .ok (.slice a m cap) w := by
  have hs := hT.size w
  cases a <;> cases a' <;> simp [Builtin.append_, h0, h1, underlying, hT.und, hs, Builtin.lenOf, hm, Builtin.firstCells, loadCells, loadCellsFrom, storeCells]

theorem ats_eq {ats : Array TypeId} {T : TypeId} (h : ats = #[T, T]) : ats[0]? = some T ∧ ats[1]? = some T := by subst h; exact ⟨rfl, rfl⟩

/-- The law of append, over pieces: v is owned (or nil, and no piece's); what is appended is read. -/
theorem run_append_St {T E k bytes : Nat} {z : Value} (hT : SlT P T E k bytes z) {ty : TypeId} {i m mm : Nat} {v u : Value} {xs ys : List Value} {w : World} (hw : St g w L) (hL : L[i]? = some (own E k v m xs)) (hR : RdIn g L u k mm ys)
    (h1 : ys.all (·.oneCell') = true) (hsz : m + mm ≤ maxLen) (hby : (m + mm) * bytes ≤ 140737488355328) :
    ∃ v' w', (Builtin.append_ #[T, T] ty #[v, u]).run P w = .ok v' w' ∧ St g w' (L.set i (own E k v' (m + mm) (xs ++ ys))) := by
  have hil : i < L.length := by
    rcases Nat.lt_or_ge i L.length with h | h
    · exact h
    · rw [List.getElem?_eq_none h] at hL; cases hL
  have hp := hw.perm (perm_at hL)
  obtain ⟨hA, hB, hdj, ⟨hlen, hv⟩, hs⟩ := hp.sat
  obtain ⟨hyl, hymx, hu⟩ := hR
  have hlen2 : (xs ++ ys).length = (m + mm) * k := by rw [List.length_append, hlen, hyl, Nat.add_mul]
  by_cases hmm : mm = 0
  · subst hmm
    have hy0 : ys = [] := List.eq_nil_of_length_eq_zero (by simpa using hyl)
    subst hy0
    have hfin : St g w (L.set i (own E k v (m + 0) (xs ++ []))) := by
      have : L.set i (own E k v (m + 0) (xs ++ [])) = L := by
        rw [List.append_nil, Nat.add_zero]
        apply List.ext_getElem?
        intro j
        by_cases e : i = j
        · subst e; rw [List.getElem?_set_self hil, hL]
        · rw [List.getElem?_set_ne e]
      rw [this]; exact hw
    have hform : ∃ a c, u = .slice a 0 c := by
      rcases hu with ⟨az, rfl, _⟩ | ⟨b, o, c, rfl, _, _⟩
      · exact ⟨_, _, rfl⟩
      · exact ⟨_, _, rfl⟩
    obtain ⟨a', c', rfl⟩ := hform
    rcases hv with ⟨rfl, rfl⟩ | ⟨b, cap, cur, rfl, hc, _⟩
    · exact ⟨_, w, run_append_zero hT rfl rfl (Nat.le_refl _) w, hfin⟩
    · exact ⟨_, w, run_append_zero hT rfl rfl hc w, hfin⟩
  · obtain ⟨b2, o2, c2, rfl, hc2, hcs⟩ : ∃ b off cap, u = .slice (some ⟨b, off, none⟩) mm cap ∧ mm ≤ cap ∧ CellsIn g L b off ys := by
      rcases hu with ⟨_, _, h0⟩ | h
      · exact absurd h0 hmm
      · exact h
    obtain ⟨inf, hinf, hz, hsize, hbytes⟩ := hT.info
    subst hsize
    subst hbytes
    have hnews : ∀ j x, ys[j]? = some x → w.cell? ((⟨b2, o2, none⟩ : Addr).add j) = some x := fun j x hj => by rw [add_none]; exact hcs w hw j x hj
    have hall : ∀ x ∈ ys, x.oneCell' = true := by simpa using h1
    -- a new block
    have fresh : ∀ (cap : Nat) (rr : Nat), cap = m + mm + rr → cap ≤ maxLen →
        St g (w.drew.alloc (.cells (xs.toArray ++ ys.toArray ++ Builtin.zeroCells z.cells rr) E)) (L.set i (own E inf.size (.slice (some ⟨w.heap.size, 0, none⟩) (m + mm) cap) (m + mm) (xs ++ ys))) := by
      intro cap rr hcap hcm
      have h2 := (hw.drew.perm (perm_at hL)).tail.alloc (.cells (xs ++ ys ++ (Builtin.zeroCells z.cells rr).toList).toArray E)
      have h3 : St g (w.drew.alloc (.cells (xs ++ ys ++ (Builtin.zeroCells z.cells rr).toList).toArray E)) (own E inf.size (.slice (some ⟨w.heap.size, 0, none⟩) (m + mm) cap) (m + mm) (xs ++ ys) :: L.eraseIdx i) :=
        h2.imp fun h hb => ⟨hlen2, .inr ⟨w.heap.size, cap, _, rfl, by omega, hcm, by
          have := size_zeroCells z.cells rr
          rw [hT.zs] at this
          simp only [List.length_append, Array.length_toList, hlen, hyl, this]
          rw [hcap, Nat.add_mul, Nat.add_mul], by rw [← hlen2]; exact List.take_left, hb⟩⟩
      have h4 := h3.perm (perm_set hil)
      have e : (xs.toArray ++ ys.toArray ++ Builtin.zeroCells z.cells rr) = (xs ++ ys ++ (Builtin.zeroCells z.cells rr).toList).toArray := by
        apply Array.ext'; simp
      rw [e]
      exact h4
    rcases hv with ⟨rfl, rfl⟩ | ⟨b, cap, cur, rfl, hc, hcm, hcl, htk, hb⟩
    · have hx0 : xs = [] := List.eq_nil_of_length_eq_zero (by simpa using hlen)
      subst hx0
      simp only [Nat.zero_add] at hby hsz
      have hr := run_append_nil (P := P) w T ty E inf z hT.und hinf hz ⟨b2, o2, none⟩ mm c2 ys hyl hnews (by omega) (by simp only [maxLen] at hsz; omega) (by omega)
      have hge := grownCap_ge w mm 0 E
      have hcm := grownCap_le_maxLen w mm 0 E hsz
      have hf := fresh (grownCap w mm 0 E) (grownCap w mm 0 E - mm) (by omega) hcm
      simp only [Nat.zero_add, List.nil_append, Array.empty_append] at hf ⊢
      exact ⟨_, _, hr, by simpa using hf⟩
    · have hbw : newH g w b = some (.cells cur.toArray E (0, 0)) := by
        rcases hdj b with ⟨e, _⟩ | ⟨e, _⟩
        · rw [← e]; exact hb
        · rw [e] at hb; cases hb
      have hbh := (newH_ge hbw).2
      by_cases hroom : m + mm ≤ cap
      · have hfit : m * inf.size + ys.length ≤ cur.toArray.size := by
          simp only [List.size_toArray]
          rw [hyl, hcl, ← Nat.add_mul]; exact Nat.mul_le_mul_right _ hroom
        have hr := run_append_room (P := P) w T ty E inf hT.und hinf b m cap cur.toArray hbh ⟨b2, o2, none⟩ mm c2 ys hyl hnews hall hroom hfit
        refine ⟨_, _, hr, ?_⟩
        have hpt : St g w (pt b (.cells cur.toArray E (0, 0)) :: L.eraseIdx i) := ⟨hw.below, ⟨hA, hB, hdj, hb, hs⟩⟩
        have h2 := hpt.set (i := 0) (o' := .cells (cur.take (m * inf.size) ++ ys ++ cur.drop (m * inf.size + ys.length)).toArray E (0, 0)) rfl
        have h3 : St g (setBlk w b (.cells (cur.take (m * inf.size) ++ ys ++ cur.drop (m * inf.size + ys.length)).toArray E (0, 0))) (own E inf.size (.slice (some ⟨b, 0, none⟩) (m + mm) cap) (m + mm) (xs ++ ys) :: L.eraseIdx i) :=
          (show St g _ (pt b _ :: L.eraseIdx i) from h2).imp fun h hb' => ⟨hlen2, .inr ⟨b, cap, _, rfl, hroom, hcm, by
            simp only [List.length_append, List.length_take, List.length_drop]
            simp only [List.size_toArray] at hfit
            omega, by
            rw [htk, ← hlen2]
            exact List.take_left, hb'⟩⟩
        have h4 := h3.perm (perm_set hil)
        have hlt : b < w.heap.size := by
          rcases Nat.lt_or_ge b w.heap.size with h' | h'
          · exact h'
          · rw [Array.getElem?_eq_none h'] at hbh; cases hbh
        have e : w.setRow b ((cur.toArray.toList.take (m * inf.size) ++ ys ++ cur.toArray.toList.drop (m * inf.size + ys.length)).toArray) = setBlk w b (.cells (cur.take (m * inf.size) ++ ys ++ cur.drop (m * inf.size + ys.length)).toArray E (0, 0)) := by
          unfold World.setRow setBlk
          congr 1
          apply Array.ext_getElem?
          intro j
          rw [Array.getElem?_modify, Array.getElem?_setIfInBounds]
          have hbv : w.heap[b] = .cells cur.toArray E (0, 0) := by rw [Array.getElem?_eq_getElem hlt] at hbh; exact Option.some.inj hbh
          by_cases e : b = j
          · subst e; simp [hlt, hbv]
          · simp [e]
        rw [e]
        exact h4
      · have holds : ∀ j x, xs[j]? = some x → w.cell? ((⟨b, 0, none⟩ : Addr).add j) = some x := fun j x hj => by
          rw [add_none, cell_of hbh, Nat.zero_add]
          rw [← htk, List.getElem?_take] at hj
          split at hj
          · exact hj
          · cases hj
        have hr := run_append_grow (P := P) w T ty E inf z hT.und hinf hz ⟨b, 0, none⟩ m cap xs hlen holds ⟨b2, o2, none⟩ mm c2 ys hyl hnews (by omega) (by simp only [maxLen] at hsz; omega) (growslice_fits (by omega) hby)
        have hge := grownCap_ge w (m + mm) cap E
        have hcm' := grownCap_le_maxLen w (m + mm) cap E hsz
        exact ⟨_, _, hr, fresh _ _ (by omega) hcm'⟩

theorem s_append {T E k bytes i m mm : Nat} {z : Value} (hT : SlT P T E k bytes z) {x y : Operand} {v u : Value} {xs ys : List Value} (hd : Nat.blt d n = true) (hx : evO fr x = some v) (hy : evO fr y = some u)
    (hL : L[i]? = some (own E k v m xs)) (hR : RdIn g L u k mm ys) (h1 : ys.all (·.oneCell') = true) (hsz : m + mm ≤ maxLen) (hby : (m + mm) * bytes ≤ 140737488355328)
    (h : ∀ va vc, SXs P n ops rest ((d, .slice va (m + mm) vc) :: fr) g (L.set i (own E k (.slice va (m + mm) vc) (m + mm) (xs ++ ys))) K X) :
    SXs P n ops (⟨some d, .call ⟨.builtin .append, #[x, y], #[T, T]⟩, ty, ps, af, none⟩ :: rest) fr g L K X :=
  s_genW (Q := fun v' w' => St g w' (L.set i (own E k v' (m + mm) (xs ++ ys)))) (by simpa [dstOk] using hd) (fun a' w hag hw => by
    obtain ⟨v', w', hr, hS⟩ := run_append_St hT (ty := ty) hw hL hR h1 hsz hby
    refine ⟨v', w', .inl ?_, hS⟩
    have e1 := hag.evO hx
    have e2 := hag.evO hy
    simp only [execOp, resolve, invoke, builtin, List.map_toArray, List.map_cons, List.map_nil, e1, e2, Sem.run_bind, Sem.run_pure, Result.andThen_ok, hr]) (fun v w hS => by
    have hil : i < L.length := by
      rcases Nat.lt_or_ge i L.length with h | h
      · exact h
      · rw [List.getElem?_eq_none h] at hL; cases hL
    obtain ⟨a, c, rfl, _⟩ := own_form (i := i) hS (List.getElem?_set_self hil)
    exact h a c w hS)

/-- append onto nil: the new slice is a piece of its own. -/
theorem s_appendNil {T E k bytes mm : Nat} {z : Value} (hT : SlT P T E k bytes z) {x y : Operand} {u : Value} {ys : List Value} (hd : Nat.blt d n = true) (hx : evO fr x = some (.slice none 0 0)) (hy : evO fr y = some u)
    (hR : RdIn g L u k mm ys) (h1 : ys.all (·.oneCell') = true) (hby : mm * bytes ≤ 140737488355328)
    (h : ∀ va vc, SXs P n ops rest ((d, .slice va mm vc) :: fr) g (own E k (.slice va mm vc) mm ys :: L) K X) :
    SXs P n ops (⟨some d, .call ⟨.builtin .append, #[x, y], #[T, T]⟩, ty, ps, af, none⟩ :: rest) fr g L K X :=
  s_genW (Q := fun v' w' => St g w' (own E k v' mm ys :: L)) (by simpa [dstOk] using hd) (fun a' w hag hw => by
    have hw2 : St g w (own E k (.slice none 0 0) 0 [] :: L) := by
      refine ⟨hw.below, fun _ => none, newH g w, fun _ => .inr ⟨rfl, rfl⟩, ⟨by simp, .inl ⟨rfl, rfl⟩⟩, hw.sat⟩
    have hsz : 0 + mm ≤ maxLen := by rw [Nat.zero_add]; exact hR.2.1
    obtain ⟨v', w', hr, hS⟩ := run_append_St hT (ty := ty) (i := 0) hw2 rfl hR.cons h1 hsz (by rw [Nat.zero_add]; exact hby)
    refine ⟨v', w', .inl ?_, by simpa using hS⟩
    have e1 := hag.evO hx
    have e2 := hag.evO hy
    simp only [execOp, resolve, invoke, builtin, List.map_toArray, List.map_cons, List.map_nil, e1, e2, Sem.run_bind, Sem.run_pure, Result.andThen_ok, hr]) (fun v w hS => by
    obtain ⟨a, c, rfl, _⟩ := own_form0 hS
    exact h a c w hS)

/-- append onto a slice that is only read, and full: always a new one. -/
theorem s_appendFull {T E k bytes m mm : Nat} {z : Value} (hT : SlT P T E k bytes z) {x y : Operand} {b o : Nat} {u : Value} {xs ys : List Value} (hd : Nat.blt d n = true) (hx : evO fr x = some (.slice (some ⟨b, o, none⟩) m m)) (hxl : xs.length = m * k) (hxs : CellsIn g L b o xs) (hy : evO fr y = some u)
    (hR : RdIn g L u k mm ys) (h0 : 0 < mm) (hsz : m + mm ≤ maxLen) (hby : (m + mm) * bytes ≤ 140737488355328)
    (h : ∀ va vc, SXs P n ops rest ((d, .slice va (m + mm) vc) :: fr) g (own E k (.slice va (m + mm) vc) (m + mm) (xs ++ ys) :: L) K X) :
    SXs P n ops (⟨some d, .call ⟨.builtin .append, #[x, y], #[T, T]⟩, ty, ps, af, none⟩ :: rest) fr g L K X :=
  s_genW (Q := fun v' w' => St g w' (own E k v' (m + mm) (xs ++ ys) :: L)) (by simpa [dstOk] using hd) (fun a' w hag hw => by
    obtain ⟨hyl, hymx, hu⟩ := hR
    obtain ⟨b2, o2, c2, rfl, hc2, hcs⟩ : ∃ b off cap, u = .slice (some ⟨b, off, none⟩) mm cap ∧ mm ≤ cap ∧ CellsIn g L b off ys := by
      rcases hu with ⟨_, _, h0'⟩ | h
      · omega
      · exact h
    obtain ⟨inf, hinf, hz, hsize, hbytes⟩ := hT.info
    subst hsize
    subst hbytes
    have hnews : ∀ j x, ys[j]? = some x → w.cell? ((⟨b2, o2, none⟩ : Addr).add j) = some x := fun j x hj => by rw [add_none]; exact hcs w hw j x hj
    have holds : ∀ j x, xs[j]? = some x → w.cell? ((⟨b, o, none⟩ : Addr).add j) = some x := fun j x hj => by rw [add_none]; exact hxs w hw j x hj
    have hr := run_append_grow (P := P) w T ty E inf z hT.und hinf hz ⟨b, o, none⟩ m m xs hxl holds ⟨b2, o2, none⟩ mm c2 ys hyl hnews (by omega) (by simp only [maxLen] at hsz; omega) (growslice_fits (by omega) hby)
    have hge := grownCap_ge w (m + mm) m E
    have hcm' := grownCap_le_maxLen w (m + mm) m E hsz
    have hlen2 : (xs ++ ys).length = (m + mm) * inf.size := by rw [List.length_append, hxl, hyl, Nat.add_mul]
    refine ⟨.slice (some ⟨w.heap.size, 0, none⟩) (m + mm) (grownCap w (m + mm) m E), w.drew.alloc (.cells (xs ++ ys ++ (Builtin.zeroCells z.cells (grownCap w (m + mm) m E - (m + mm))).toList).toArray E), .inl ?_, (hw.drew.alloc (.cells (xs ++ ys ++ (Builtin.zeroCells z.cells (grownCap w (m + mm) m E - (m + mm))).toList).toArray E)).imp fun h hb => ⟨hlen2, .inr ⟨w.heap.size, grownCap w (m + mm) m E, _, rfl, hge, hcm', ?_, ?_, hb⟩⟩⟩
    · have e1 := hag.evO hx
      have e2 := hag.evO hy
      have e : (xs.toArray ++ ys.toArray ++ Builtin.zeroCells z.cells (grownCap w (m + mm) m E - (m + mm))) = (xs ++ ys ++ (Builtin.zeroCells z.cells (grownCap w (m + mm) m E - (m + mm))).toList).toArray := by
        apply Array.ext'; simp
      rw [e] at hr
      simp only [execOp, resolve, invoke, builtin, List.map_toArray, List.map_cons, List.map_nil, e1, e2, Sem.run_bind, Sem.run_pure, Result.andThen_ok, hr]
    · have := size_zeroCells z.cells (grownCap w (m + mm) m E - (m + mm))
      rw [hT.zs] at this
      simp only [List.length_append, Array.length_toList, hxl, hyl, this]
      rw [← Nat.add_mul, ← Nat.add_mul]
      congr 1
      omega
    · rw [← hlen2]; exact List.take_left) (fun v w hS => by
    obtain ⟨a, c, rfl, _⟩ := own_form0 hS
    exact h a c w hS)

end
end Go.Hb
/-
  One rule an operation, the rest of them (generic in the program): slices that are built, made, copied; min and max; struct parts; methods of interface values; arrays.
-/
namespace Go.Hb
open Go Go.RowKit

section
variable {P : Program} {n : Nat} {fr : Fr} {g : World} {L : List HP} {K : Fr → World → Prop} {X : Ks} {ops : Array Oper}
variable {d : Nat} {ty : TypeId} {ps : String} {af : Array Edge} {rest : List Oper}

/-- An operation whose run is told outright. -/
theorem s_run {op : Op} {v : Value} (hd : Nat.blt d n = true) (hrun : ∀ a w, Agr n a fr → (execOp a.eval ⟨some d, op, ty, ps, af, none⟩).run P w = .ok (.value v) w)
    (h : SXs P n ops rest ((d, v) :: fr) g L K X) : SXs P n ops (⟨some d, op, ty, ps, af, none⟩ :: rest) fr g L K X := s_gen hd (fun a w ha _ => hrun a w ha) h

/-- What a struct (or array) literal comes to. -/
def BuildV (P : Program) (t : TypeId) (parts : List (Nat × Value)) (cs : List Value) : Prop := ∀ w, (Instr.build t parts.toArray).run P w = .ok (.agg cs.toArray) w

def evParts (fr : Fr) (ps : List (Nat × Operand)) (vs : List (Nat × Value)) : Prop := ps.map (fun p => (p.1, evO fr p.2)) = vs.map (fun p => (p.1, some p.2))

theorem Agr.evParts {nn : Nat} {a : Act} {fr : Fr} (h : Agr nn a fr) : ∀ {xs : List (Nat × Operand)} {vs : List (Nat × Value)}, Hb.evParts fr xs vs → xs.map (fun p => (p.1, a.eval p.2)) = vs := by
  intro xs
  induction xs with
  | nil => intro vs e; cases vs <;> simp_all [Hb.evParts]
  | cons x xs ih =>
    intro vs e
    cases vs with
    | nil => simp [Hb.evParts] at e
    | cons v vs =>
      simp only [Hb.evParts, List.map_cons, List.cons.injEq, Prod.mk.injEq] at e ⊢
      obtain ⟨⟨e1, e2⟩, e3⟩ := e
      refine ⟨?_, ih e3⟩
      rw [h.evO e2, e1]

theorem s_build {t : TypeId} {xs : List (Nat × Operand)} {vs : List (Nat × Value)} {cs : List Value} (hd : Nat.blt d n = true) (he : evParts fr xs vs) (hb : BuildV P t vs cs)
    (h : SXs P n ops rest ((d, .agg cs.toArray) :: fr) g L K X) : SXs P n ops (⟨some d, .build t xs.toArray, ty, ps, af, none⟩ :: rest) fr g L K X :=
  s_gen hd (fun a w ha _ => by
    have e : (xs.toArray.map fun (p : Nat × Operand) => (p.1, a.eval p.2)) = vs.toArray := by rw [List.map_toArray, ha.evParts he]
    simp only [execOp]
    rw [show (xs.toArray.map fun (x : Nat × Operand) => match x with | (i, x) => (i, a.eval x)) = vs.toArray from e]
    simp only [Sem.run_bind, hb w, Result.andThen_ok, Sem.run_pure]) h

/-- A slice literal: a new block. -/
def BuildSliceV (P : Program) (t E len : Nat) (parts : List (Nat × Value)) (cs : List Value) : Prop :=
  ∀ w, (Instr.buildSlice t len parts.toArray).run P w = .ok (.slice (some ⟨w.heap.size, 0, none⟩) len len) (w.alloc (.cells cs.toArray E (0, 0)))

theorem s_buildSlice {t E len : Nat} {xs : List (Nat × Operand)} {vs : List (Nat × Value)} {cs : List Value} (hd : Nat.blt d n = true) (he : evParts fr xs vs) (hb : BuildSliceV P t E len vs cs)
    (h : ∀ b, SXs P n ops rest ((d, .slice (some ⟨b, 0, none⟩) len len) :: fr) g (pt b (.cells cs.toArray E (0, 0)) :: L) K X) : SXs P n ops (⟨some d, .buildSlice t len xs.toArray, ty, ps, af, none⟩ :: rest) fr g L K X :=
  s_genW (Q := fun v w' => ∃ b, v = .slice (some ⟨b, 0, none⟩) len len ∧ St g w' (pt b (.cells cs.toArray E (0, 0)) :: L)) (by simpa [dstOk] using hd) (fun a w ha hw => by
    refine ⟨_, _, .inl ?_, _, rfl, hw.alloc (.cells cs.toArray E (0, 0))⟩
    have e : (xs.toArray.map fun (p : Nat × Operand) => (p.1, a.eval p.2)) = vs.toArray := by rw [List.map_toArray, ha.evParts he]
    simp only [execOp]
    rw [show (xs.toArray.map fun (x : Nat × Operand) => match x with | (i, x) => (i, a.eval x)) = vs.toArray from e]
    simp only [Sem.run_bind, hb w, Result.andThen_ok, Sem.run_pure]) (fun v w ⟨b, e, hS⟩ => by subst e; exact h b w hS)

theorem buildSlice_one {T E k bytes : Nat} {z v : Value} {cs : List Value} (hT : SlT P T E k bytes z) (hv : v.cells = cs.toArray) (hk : cs.length = k) (hk2 : k ≤ 16777216) : BuildSliceV P T E 1 [(0, v)] cs := by
  intro w
  subst hk
  obtain ⟨inf, hinf, hz, hsize, hbytes⟩ := hT.info
  have hz0 : (zeroValue E).run P w = .ok z w := by simp [zeroValue, typeInfo, hinf, hz]
  have hp := hT.pos
  have hzs := hT.zs
  have hf : Instr.fill (fun i => some (i * cs.length, cs.length)) ((Array.range (1 * cs.length)).map (z.cells[· % z.cells.size]!)) [(0, v)] = some cs.toArray := by
    simp only [Instr.fill, hv]
    simp only [Nat.zero_mul, List.size_toArray, ne_eq, not_true_eq_false, decide_false, Bool.false_or, Nat.zero_add, Nat.one_mul, Array.size_map, Array.size_range, gt_iff_lt, Nat.lt_irrefl, Bool.false_eq_true, if_false, Option.some.injEq]
    generalize hA : (Array.range cs.length).map (z.cells[· % z.cells.size]!) = A
    have hAs : A.size = cs.length := by rw [← hA]; simp
    clear hA
    -- writing all of cs over A
    have key : ∀ (l pre : List Value) (B : Array Value), B.size = pre.length + l.length → B.toList.take pre.length = pre →
        (l.zipIdx pre.length).foldl (fun cs x => cs.setIfInBounds x.2 x.1) B = (pre ++ l).toArray := by
      intro l
      induction l with
      | nil => intro pre B hs ht; simp only [List.length_nil, Nat.add_zero] at hs; simp only [List.zipIdx_nil, List.foldl_nil, List.append_nil]; apply Array.ext'; rw [← ht, ← hs]; exact (List.take_of_length_le (by simp)).symm
      | cons x l ih =>
        intro pre B hs ht
        simp only [List.zipIdx_cons, List.foldl_cons]
        have := ih (pre ++ [x]) (B.setIfInBounds pre.length x) (by simp; simp at hs; omega) (by
          rw [Array.toList_setIfInBounds, List.length_append, List.length_singleton]
          rw [List.take_add_one, List.take_set]
          simp only [List.length_cons] at hs
          have hlt : pre.length < B.toList.length := by simp; omega
          rw [List.getElem?_set_self hlt]
          rw [List.set_eq_of_length_le (by simp; omega), ht]; rfl)
        rw [List.length_append, List.length_singleton] at this
        rw [this]
        simp
    have := key cs [] A (by simpa using hAs) (by simp)
    simp only [List.length_nil, List.nil_append] at this
    rw [← Array.foldl_toList]
    simpa [Array.toList_zipIdx] using this
  have hne : ¬ (1 * cs.length = 0) := by omega
  have hbig : ¬ (1 * cs.length > 2 ^ 24) := by omega
  simp only [Instr.buildSlice, underlying, Sem.run_bind, run_program, Result.andThen_ok, hT.und, Sem.run_pure, hT.size w, hbig, if_false, hne, hz0, hf, newRow, run_newObj]
  rfl

theorem buildSlice_zero {T E k bytes : Nat} {z : Value} (hT : SlT P T E k bytes z) : BuildSliceV P T E 0 [] [] := by
  intro w
  have e : (Array.map (fun _ => (default : Value)) (Array.range 0)) = #[] := by apply Array.ext'; simp
  simp [Instr.buildSlice, underlying, hT.und, hT.size w, Instr.fill, newRow, e]

/-- An owned slice is handed back. -/
def SlQ (g : World) (T k m : Nat) (xs : List Value) (L : List HP) : Value → World → Prop := fun v w => ∃ va vc, v = .slice va m vc ∧ St g w (own T k (.slice va m vc) m xs :: L)
theorem SlQ.of {w : World} {T k m : Nat} {v : Value} {xs : List Value} (h : St g w (own T k v m xs :: L)) : SlQ g T k m xs L v w := by
  obtain ⟨a, c, rfl, _⟩ := own_form0 h
  exact ⟨a, c, rfl, h⟩

theorem own_nil_in {w : World} {T k : Nat} (h : St g w L) : St g w (own T k (.slice none 0 0) 0 [] :: L) :=
  ⟨h.below, fun _ => none, newH g w, fun _ => .inr ⟨rfl, rfl⟩, ⟨by simp, .inl ⟨rfl, rfl⟩⟩, h.sat⟩

theorem own_of_pt {w : World} {T k b m cap : Nat} {cl xs : List Value} (h : St g w (pt b (.cells cl.toArray T (0, 0)) :: L)) (hm : m ≤ cap) (hc : cap ≤ maxLen) (hl : cl.length = cap * k) (hx : cl.take (m * k) = xs) : St g w (own T k (.slice (some ⟨b, 0, none⟩) m cap) m xs :: L) :=
  h.imp fun _ hb => ⟨by rw [← hx, List.length_take, hl]; exact Nat.min_eq_left (Nat.mul_le_mul_right k hm), .inr ⟨b, cap, cl, rfl, hm, hc, hl, hx, hb⟩⟩

/-- Facts on an owned slice, for whoever goes on. -/
theorem SXs_rd (i : Nat) {T k m : Nat} {v : Value} {xs : List Value} {l : List Oper} (hi : L[i]? = some (own T k v m xs)) (h : RdIn g L v k m xs → SXs P n ops l fr g L K X) : SXs P n ops l fr g L K X :=
  fun w hw => h (own_RdIn hi ⟨w, hw⟩) w hw
theorem WPs_rd (i : Nat) {T k m : Nat} {v : Value} {xs : List Value} {c : Code} (hi : L[i]? = some (own T k v m xs)) (h : RdIn g L v k m xs → WPs P n c fr g L K X) : WPs P n c fr g L K X :=
  fun w hw => h (own_RdIn hi ⟨w, hw⟩) w hw
theorem RCs_rd (i : Nat) {T k m : Nat} {v : Value} {xs : List Value} {f : FuncId} {vs : List Value} {q : Value → World → Prop} (hi : L[i]? = some (own T k v m xs)) (h : RdIn g L v k m xs → RCs P f vs g L q) : RCs P f vs g L q :=
  fun w hw => h (own_RdIn hi ⟨w, hw⟩) w hw
/-- the pieces taken otherwise -/
theorem SXs_st {L' : List HP} {l : List Oper} (f : ∀ w, St g w L → St g w L') (h : SXs P n ops l fr g L' K X) : SXs P n ops l fr g L K X := fun w hw => h w (f w hw)
theorem WPs_st {L' : List HP} {c : Code} (f : ∀ w, St g w L → St g w L') (h : WPs P n c fr g L' K X) : WPs P n c fr g L K X := fun w hw => h w (f w hw)
theorem RCs_st {L' : List HP} {f : FuncId} {vs : List Value} {q : Value → World → Prop} (hf : ∀ w, St g w L → St g w L') (h : RCs P f vs g L' q) : RCs P f vs g L q := fun w hw => h w (hf w hw)
theorem KSs_st {L' : List HP} {k : World → Prop} (f : ∀ w, St g w L → St g w L') (h : KSs g L' k) : KSs g L k := fun w hw => h w (f w hw)

/-- append of nothing: the slice as it is. -/
theorem s_append0 {T E k bytes m cap : Nat} {z : Value} (hT : SlT P T E k bytes z) {x y : Operand} {a : Option Addr} {u : Value} {ys : List Value} (hd : Nat.blt d n = true) (hx : evO fr x = some (.slice a m cap)) (hm : m ≤ cap) (hy : evO fr y = some u) (hR : RdIn g L u k 0 ys)
    (h : SXs P n ops rest ((d, .slice a m cap) :: fr) g L K X) : SXs P n ops (⟨some d, .call ⟨.builtin .append, #[x, y], #[T, T]⟩, ty, ps, af, none⟩ :: rest) fr g L K X := by
  obtain ⟨a', c', rfl, _⟩ := hR.form
  refine s_gen hd (fun b w hag _ => ?_) h
  have e1 := hag.evO hx
  have e2 := hag.evO hy
  have hr := run_append_zero hT (ty := ty) (ats := #[T, T]) rfl rfl (a := a) (a' := a') (c' := c') hm w
  simp only [execOp, resolve, invoke, builtin, List.map_toArray, List.map_cons, List.map_nil, e1, e2, Sem.run_bind, Sem.run_pure, Result.andThen_ok, hr]

/-- append where the second operand's slice type is another one. -/
theorem append_ats {T T2 E E2 k bytes : Nat} {z : Value} {ty : TypeId} {a : Option Addr} {m c : Nat} {u : Value} (hT : SlT P T E k bytes z) (h2 : P.underlying T2 = some (.slice E2)) (w : World) :
    (Builtin.append_ #[T, T2] ty #[.slice a m c, u]).run P w = (Builtin.append_ #[T, T] ty #[.slice a m c, u]).run P w := by
  have hs := hT.size
  simp [Builtin.append_, underlying, hT.und, h2, hs]

theorem s_append' {T T2 E E2 k bytes i m mm : Nat} {z : Value} (hT : SlT P T E k bytes z) (h2 : P.underlying T2 = some (.slice E2)) {x y : Operand} {v u : Value} {xs ys : List Value} (hd : Nat.blt d n = true) (hx : evO fr x = some v) (hy : evO fr y = some u)
    (hL : L[i]? = some (own E k v m xs)) (hR : RdIn g L u k mm ys) (h1 : ys.all (·.oneCell') = true) (hsz : m + mm ≤ maxLen) (hby : (m + mm) * bytes ≤ 140737488355328)
    (h : ∀ va vc, SXs P n ops rest ((d, .slice va (m + mm) vc) :: fr) g (L.set i (own E k (.slice va (m + mm) vc) (m + mm) (xs ++ ys))) K X) :
    SXs P n ops (⟨some d, .call ⟨.builtin .append, #[x, y], #[T, T2]⟩, ty, ps, af, none⟩ :: rest) fr g L K X :=
  s_genW (Q := fun v' w' => St g w' (L.set i (own E k v' (m + mm) (xs ++ ys)))) (by simpa [dstOk] using hd) (fun a' w hag hw => by
    obtain ⟨v', w', hr, hS⟩ := run_append_St hT (ty := ty) hw hL hR h1 hsz hby
    obtain ⟨av, cv, rfl, _⟩ := (own_RdIn hL ⟨w, hw⟩).form
    refine ⟨v', w', .inl ?_, hS⟩
    have e1 := hag.evO hx
    have e2 := hag.evO hy
    simp only [execOp, resolve, invoke, builtin, List.map_toArray, List.map_cons, List.map_nil, e1, e2, Sem.run_bind, Sem.run_pure, Result.andThen_ok, append_ats hT h2, hr]) (fun v w hS => by
    have hil : i < L.length := by
      rcases Nat.lt_or_ge i L.length with h | h
      · exact h
      · rw [List.getElem?_eq_none h] at hL; cases hL
    obtain ⟨a, c, rfl, _⟩ := own_form (i := i) hS (List.getElem?_set_self hil)
    exact h a c w hS)

theorem s_appendNil' {T T2 E E2 k bytes mm : Nat} {z : Value} (hT : SlT P T E k bytes z) (h2 : P.underlying T2 = some (.slice E2)) {x y : Operand} {u : Value} {ys : List Value} (hd : Nat.blt d n = true) (hx : evO fr x = some (.slice none 0 0)) (hy : evO fr y = some u)
    (hR : RdIn g L u k mm ys) (h1 : ys.all (·.oneCell') = true) (hby : mm * bytes ≤ 140737488355328)
    (h : ∀ va vc, SXs P n ops rest ((d, .slice va mm vc) :: fr) g (own E k (.slice va mm vc) mm ys :: L) K X) :
    SXs P n ops (⟨some d, .call ⟨.builtin .append, #[x, y], #[T, T2]⟩, ty, ps, af, none⟩ :: rest) fr g L K X := fun w hw => by
  have hw2 : St g w (own E k (.slice none 0 0) 0 [] :: L) := own_nil_in hw
  have := s_append' (P := P) (n := n) (g := g) (ops := ops) (rest := rest) (K := K) (X := X) (d := d) (ty := ty) (ps := ps) (af := af) (fr := fr) (L := own E k (.slice none 0 0) 0 [] :: L) (i := 0) (m := 0) hT h2 hd hx hy rfl hR.cons h1 (by rw [Nat.zero_add]; exact hR.2.1) (by rw [Nat.zero_add]; exact hby) (fun va vc => by
    rw [Nat.zero_add, List.nil_append]; exact h va vc)
  exact this w hw2

/-! ### min, max -/

theorem s_min {ats : Array TypeId} {x y : Operand} {k : IntKind} {a b : Int} (hd : Nat.blt d n = true) (hx : evO fr x = some (.int k a)) (hy : evO fr y = some (.int k b))
    (h : SXs P n ops rest ((d, .int k (min a b)) :: fr) g L K X) : SXs P n ops (⟨some d, .call ⟨.builtin .min, #[x, y], ats⟩, ty, ps, af, none⟩ :: rest) fr g L K X :=
  s_gen hd (fun a' w hag _ => by
    have h1 := hag.evO hx
    have h2 := hag.evO hy
    have e : (if b < a then b else a) = min a b := by split <;> omega
    simp [execOp, resolve, h1, h2, invoke, builtin, Builtin.min_, Builtin.min2, e]) h
theorem s_max {ats : Array TypeId} {x y : Operand} {k : IntKind} {a b : Int} (hd : Nat.blt d n = true) (hx : evO fr x = some (.int k a)) (hy : evO fr y = some (.int k b))
    (h : SXs P n ops rest ((d, .int k (max a b)) :: fr) g L K X) : SXs P n ops (⟨some d, .call ⟨.builtin .max, #[x, y], ats⟩, ty, ps, af, none⟩ :: rest) fr g L K X :=
  s_gen hd (fun a' w hag _ => by
    have h1 := hag.evO hx
    have h2 := hag.evO hy
    have e : (if a < b then b else a) = max a b := by split <;> omega
    simp [execOp, resolve, h1, h2, invoke, builtin, Builtin.max_, Builtin.max2, e]) h

/-! ### Parts of structs and arrays -/

def FieldV (P : Program) (t : TypeId) (i : Nat) (cs : List Value) (v : Value) : Prop := ∀ w, (Instr.field t (.agg cs.toArray) i).run P w = .ok v w
theorem s_field {t : TypeId} {i : Nat} {x : Operand} {cs : List Value} {v : Value} (hd : Nat.blt d n = true) (hx : evO fr x = some (.agg cs.toArray)) (hf : FieldV P t i cs v)
    (h : SXs P n ops rest ((d, v) :: fr) g L K X) : SXs P n ops (⟨some d, .field t x i, ty, ps, af, none⟩ :: rest) fr g L K X :=
  s_gen hd (fun a w ha _ => by simp only [execOp, ha.evO hx, Sem.run_bind, hf w, Result.andThen_ok, Sem.run_pure]) h
/-- where a field of one cell lies, or of several -/
def FieldOne (P : Program) (t : TypeId) (i off : Nat) : Prop := ∀ (cs : List Value) v w, cs[off]? = some v → (Instr.field t (.agg cs.toArray) i).run P w = .ok v w
def FieldMany (P : Program) (t : TypeId) (i off sz : Nat) : Prop := ∀ (cs : List Value) w, (Instr.field t (.agg cs.toArray) i).run P w = .ok (.agg (cs.toArray.extract off (off + sz))) w
theorem FieldOne.v {t : TypeId} {i off : Nat} (h : FieldOne P t i off) {cs : List Value} {v : Value} (hc : cs[off]? = some v) : FieldV P t i cs v := fun w => h cs v w hc
theorem FieldMany.v {t : TypeId} {i off sz : Nat} (h : FieldMany P t i off sz) {cs us : List Value} (hc : (cs.drop off).take sz = us) : FieldV P t i cs (.agg us.toArray) := fun w => by
  rw [h cs w]
  congr 2
  apply Array.ext'
  subst hc
  simp

theorem s_index {t E : TypeId} {x y : Operand} {cs : List Value} {m : Nat} {kd : IntKind} {i : Int} {v : Value} (hu : P.underlying t = some (.array m E)) (ha : ∀ w, (isAgg E).run P w = .ok false w) (hs : ∀ w, (sizeOf E).run P w = .ok 1 w) (hd : Nat.blt d n = true) (hx : evO fr x = some (.agg cs.toArray)) (hy : evO fr y = some (.int kd i))
    (h0 : 0 ≤ i) (h1 : i < m) (hc : cs[i.toNat]? = some v) (h : SXs P n ops rest ((d, v) :: fr) g L K X) : SXs P n ops (⟨some d, .index t x y, ty, ps, af, none⟩ :: rest) fr g L K X :=
  s_gen hd (fun a w hag _ => by
    simp [execOp, hag.evO hx, hag.evO hy, Instr.index, asIntOf, underlying, hu, h0, h1, part, ha, hs, hc]) h

/-- an array pointer out of a slice -/
theorem s_toArr {T E k m N b o cap : Nat} {x : Operand} (hu : P.underlying T = some (.array N E)) (hd : Nat.blt d n = true) (hx : evO fr x = some (.slice (some ⟨b, o, none⟩) m cap)) (hN : N ≤ m)
    (h : SXs P n ops rest ((d, .pointer (some ⟨b, o, none⟩)) :: fr) g L K X) : SXs P n ops (⟨some d, .sliceToArrayPointer T x, ty, ps, af, none⟩ :: rest) fr g L K X :=
  s_gen hd (fun a w hag _ => by
    have : ¬ m < N := by omega
    simp [execOp, hag.evO hx, Instr.arrayAt, underlying, hu, this]) h
theorem s_toArrRd {T E k m N : Nat} {x : Operand} {v : Value} {xs : List Value} (hu : P.underlying T = some (.array N E)) (hd : Nat.blt d n = true) (hx : evO fr x = some v) (hR : RdIn g L v k m xs) (h0 : 0 < N) (hN : N ≤ m)
    (h : ∀ b o, CellsIn g L b o xs → SXs P n ops rest ((d, .pointer (some ⟨b, o, none⟩)) :: fr) g L K X) : SXs P n ops (⟨some d, .sliceToArrayPointer T x, ty, ps, af, none⟩ :: rest) fr g L K X := by
  obtain ⟨_, _, ⟨az, rfl, rfl⟩ | ⟨b, o, cap, rfl, hc, hcs⟩⟩ := hR
  · omega
  · exact s_toArr (k := k) hu hd hx hN (h b o hcs)

theorem CellsIn.take {b o j : Nat} {xs : List Value} (h : CellsIn g L b o xs) : CellsIn g L b o (xs.take j) := fun w hw i v hi => by
  rw [List.getElem?_take] at hi
  split at hi
  · exact h w hw i v hi
  · cases hi
theorem CellsIn.at {b o j : Nat} {xs : List Value} {v : Value} (h : CellsIn g L b o xs) (hj : xs[j]? = some v) : CellIn g L ⟨b, o + j, none⟩ v := fun w hw => h w hw j v hj
theorem CellsIn.at0 {b o : Nat} {xs : List Value} {v : Value} (h : CellsIn g L b o xs) (hj : xs[0]? = some v) : CellIn g L ⟨b, o, none⟩ v := fun w hw => h w hw 0 v hj

/-! ### A method of an interface value -/

def MethodV (P : Program) (t : TypeId) (name : String) (f : FuncId) (v r : Value) : Prop := ∀ w, (method (P.types.size + Made.depth) t v name).run P w = .ok (f, r) w

theorem s_invoke {d : Option Nat} {c : Operand} {name : String} {args : List Operand} {ats : Array TypeId} {t : TypeId} {f : FuncId} {v0 r0 : Value} {vs : List Value} {Q : Value → World → Prop} (hf : Enters P f) (hd : dstOk n d = true)
    (hc : evO fr c = some (.iface t v0)) (hm : MethodV P t name f v0 r0) (ha : args.map (evO fr) = vs.map some) (hR : RCs P f (r0 :: vs) g L Q)
    (h : ∀ v w, Q v w → SX P n ops rest (putF fr d v) w K X) : SXs P n ops (⟨d, .call ⟨.invoke c name, args.toArray, ats⟩, ty, ps, af, none⟩ :: rest) fr g L K X := fun w hw a hag => by
  unfold wpList
  rw [if_pos (by simp [Region.wanted])]
  refine .inl ?_
  unfold Oper.wp
  have hrun : (execOp a.eval ⟨d, .call ⟨.invoke c name, args.toArray, ats⟩, ty, ps, af, none⟩).run P w = .ok (.enter f (r0 :: vs).toArray) w := by
    have e := hf (r0 :: vs).toArray w
    simp only [execOp, resolve, hag.evO hc, List.map_toArray, hag.evOs ha, Sem.run_bind, Sem.run_pure, Result.andThen_ok, invoke]
    have e0 : (#[Value.iface t v0] ++ vs.toArray)[0]? = some (.iface t v0) := by simp
    have e1 : (#[Value.iface t v0] ++ vs.toArray).extract 1 (#[Value.iface t v0] ++ vs.toArray).size = vs.toArray := by
      apply Array.ext'; simp
    rw [e0]
    simp only [callMethod, Sem.run_bind, run_program, Result.andThen_ok, hm w]
    rw [e1]
    rw [show (#[r0] ++ vs.toArray) = (r0 :: vs).toArray from by simp]
    exact e
  rw [hrun]
  simp only [Oper.upon]
  exact Calls.mono (hR w hw) (fun e w' he => by
    obtain ⟨v, rfl, hv⟩ := he
    exact h _ _ hv _ (hag.putF hd v))

/-- nilCheck of a method value taken of an interface value -/
theorem s_nilCheckM {x : Operand} {name : String} {t : TypeId} {v0 : Value} {cap : Array Value} (hd : Nat.blt d n = true) (hx : evO fr x = some (.func (.method name) #[.iface t v0] cap))
    (hn : ∀ w, (nilAhead (P.types.size + Made.depth) t v0 name).run P w = .ok (some false) w) (h : SXs P n ops rest ((d, .func (.method name) #[.iface t v0] cap) :: fr) g L K X) :
    SXs P n ops (⟨some d, .nilCheck x, ty, ps, af, none⟩ :: rest) fr g L K X :=
  s_gen hd (fun a w ha _ => by simp [execOp, ha.evO hx, hn w]) h

/-- A literal's cells, over lists. -/
def fillC (places : List (Nat × Nat)) (cells : List Value) : List (Nat × List Value) → Option (List Value)
  | [] => some cells
  | (i, vs) :: rest =>
    match places[i]? with
    | none => none
    | some (off, size) => if vs.length = size ∧ off + size ≤ cells.length then fillC places (spl cells off vs) rest else none

theorem spl_foldl (vs : List Value) : ∀ (cl : List Value) (off j : Nat), (vs.zipIdx j).foldl (fun (cs : Array Value) x => cs.setIfInBounds (off + x.2) x.1) cl.toArray = (spl cl (off + j) vs).toArray := by
  induction vs with
  | nil => intros; rfl
  | cons v vs ih =>
    intro cl off j
    simp only [List.zipIdx_cons, List.foldl_cons, spl]
    rw [show (cl.toArray.setIfInBounds (off + j) v) = (cl.set (off + j) v).toArray from by simp]
    rw [ih, Nat.add_assoc]

theorem fill_of_fillC {places : List (Nat × Nat)} {place : Nat → Option (Nat × Nat)} (hp : ∀ i, place i = places[i]?) : ∀ (parts : List (Nat × Value)) (cl cs : List Value), fillC places cl (parts.map fun p => (p.1, p.2.cells.toList)) = some cs →
    Instr.fill place cl.toArray parts = some cs.toArray := by
  intro parts
  induction parts with
  | nil => intro cl cs h; simp only [List.map_nil, fillC, Option.some.injEq] at h; subst h; rfl
  | cons p parts ih =>
    intro cl cs h
    obtain ⟨i, v⟩ := p
    simp only [List.map_cons, fillC] at h
    simp only [Instr.fill, hp]
    cases hq : places[i]? with
    | none => rw [hq] at h; cases h
    | some os =>
      obtain ⟨off, size⟩ := os
      rw [hq] at h
      simp only at h ⊢
      split at h
      · rename_i hc
        obtain ⟨h1, h2⟩ := hc
        have h1' : v.cells.size = size := by simpa using h1
        rw [if_neg (by simp [h1']; omega)]
        have := ih _ _ h
        rw [← this]
        congr 1
        have e := spl_foldl v.cells.toList cl off 0
        rw [Nat.add_zero] at e
        rw [← e, ← Array.foldl_toList, Array.toList_zipIdx]
      · cases h

theorem mapM_sizes {fs : List Field} : ∀ {places : List (Nat × Nat)}, (fs.map fun f => (f.offset, (P.info? f.type).map (·.size))) = places.map (fun p => (p.1, some p.2)) → ∀ w,
    (fs.mapM (fun f => (do pure (f.offset, ← sizeOf f.type) : Sem (Nat × Nat)))).run P w = .ok places w := by
  induction fs with
  | nil => intro places h w; cases places <;> simp_all
  | cons f fs ih =>
    intro places h w
    cases places with
    | nil => simp at h
    | cons p places =>
      simp only [List.map_cons, List.cons.injEq, Prod.mk.injEq] at h
      obtain ⟨⟨h1, h2⟩, h3⟩ := h
      have hi : (sizeOf f.type).run P w = .ok p.2 w := by
        cases hq : P.info? f.type with
        | none => rw [hq] at h2; cases h2
        | some i => rw [hq] at h2; simp at h2; simp [sizeOf, typeInfo, hq, h2]
      have := ih h3 w
      rw [List.mapM_cons]
      simp only [Sem.run_bind, hi, Result.andThen_ok, Sem.run_pure, this, h1]

theorem build_struct {t : TypeId} {fs : Array Field} {z : Value} {places : List (Nat × Nat)} {parts : List (Nat × Value)} {cparts : List (Nat × List Value)} {cs : List Value} (hu : P.underlying t = some (.struct fs)) (hz : ∀ w, (zeroValue t).run P w = .ok z w)
    (hp : (fs.toList.map fun f => (f.offset, (P.info? f.type).map (·.size))) = places.map (fun p => (p.1, some p.2))) (hc : parts.map (fun p => (p.1, p.2.cells.toList)) = cparts) (hf : fillC places z.cells.toList cparts = some cs) : BuildV P t parts cs := fun w => by
  have hm := mapM_sizes (P := P) hp w
  subst hc
  have hfill := fill_of_fillC (places := places) (place := fun i => places.toArray[i]?) (fun i => by simp) parts z.cells.toList cs hf
  simp only [Instr.build, Sem.run_bind, hz, Result.andThen_ok, underlying, run_program, hu, Sem.run_pure, Array.mapM_eq_mapM_toList, Sem.run_map, hm]
  rw [show z.cells.toList.toArray = z.cells from by simp] at hfill
  rw [hfill]
  rfl

theorem build_array {t E m sz : Nat} {z : Value} {parts : List (Nat × Value)} {cparts : List (Nat × List Value)} {cs : List Value} (hu : P.underlying t = some (.array m E)) (hz : ∀ w, (zeroValue t).run P w = .ok z w) (hs : ∀ w, (sizeOf E).run P w = .ok sz w)
    (hc : parts.map (fun p => (p.1, p.2.cells.toList)) = cparts) (hlt : cparts.all (fun p => Nat.blt p.1 m) = true) (hf : fillC ((List.range m).map fun i => (i * sz, sz)) z.cells.toList cparts = some cs) : BuildV P t parts cs := fun w => by
  subst hc
  -- places beyond m are never asked
  have key : ∀ (parts : List (Nat × Value)) (cl cs : List Value), (parts.map (fun p => (p.1, p.2.cells.toList))).all (fun p => Nat.blt p.1 m) = true → fillC ((List.range m).map fun i => (i * sz, sz)) cl (parts.map fun p => (p.1, p.2.cells.toList)) = some cs →
      Instr.fill (fun i => some (i * sz, sz)) cl.toArray parts = some cs.toArray := by
    intro parts
    induction parts with
    | nil => intro cl cs _ h; simp only [List.map_nil, fillC, Option.some.injEq] at h; subst h; rfl
    | cons p parts ih =>
      intro cl cs hb h
      obtain ⟨i, v⟩ := p
      simp only [List.map_cons, List.all_cons, Bool.and_eq_true, Nat.blt_eq] at hb
      simp only [List.map_cons, fillC] at h
      have hq : ((List.range m).map fun i => (i * sz, sz))[i]? = some (i * sz, sz) := by simp [hb.1]
      rw [hq] at h
      simp only at h
      simp only [Instr.fill]
      split at h
      · rename_i hc
        obtain ⟨h1, h2⟩ := hc
        have h1' : v.cells.size = sz := by simpa using h1
        rw [if_neg (by simp [h1']; omega)]
        rw [← ih _ _ hb.2 h]
        congr 1
        have e := spl_foldl v.cells.toList cl (i * sz) 0
        rw [Nat.add_zero] at e
        rw [← e, ← Array.foldl_toList, Array.toList_zipIdx]
      · cases h
  have hfill := key parts z.cells.toList cs hlt hf
  simp only [Instr.build, Sem.run_bind, hz, Result.andThen_ok, underlying, run_program, hu, Sem.run_pure, hs]
  rw [show z.cells.toList.toArray = z.cells from by simp] at hfill
  rw [hfill]
  rfl

theorem cells_agg (cs : Array Value) : (Value.agg cs).cells = cs := rfl

/-! ### make, copy -/

theorem s_makeSlice {T E bytes m : Nat} {z : Value} (hT : SlT P T E 1 bytes z) (hz1 : z.cells = #[z]) {x y : Operand} (hd : Nat.blt d n = true) (hx : evO fr x = some (.int .i64 (m : Int))) (hy : evO fr y = some (.int .i64 (m : Int)))
    (hm : m ≤ maxLen) (hby : bytes * m ≤ 281474976710656)
    (h : ∀ va vc, SXs P n ops rest ((d, .slice va m vc) :: fr) g (own E 1 (.slice va m vc) m (List.replicate m z) :: L) K X) : SXs P n ops (⟨some d, .makeSlice T x y, ty, ps, af, none⟩ :: rest) fr g L K X :=
  s_genW (Q := fun v' w' => St g w' (own E 1 v' m (List.replicate m z) :: L)) (by simpa [dstOk] using hd) (fun a w ha hw => by
    obtain ⟨inf, hinf, hz, hsize, hbytes⟩ := hT.info
    subst hbytes
    have hr := run_make (P := P) w T E inf z hT.und hinf hz .i64 .i64 m m (by omega) (by omega) (by
      have : ((inf.bytes * m : Nat) : Int) ≤ 281474976710656 := by omega
      rwa [Int.natCast_mul] at this) (by simp only [maxLen] at hm; omega)
    have hmc : madeCells z.cells ((m : Int).toNat * inf.size) = (List.replicate m z).toArray := by
      apply Array.ext'
      rw [hz1, toList_madeCells_one, hsize]
      simp
    rw [hmc] at hr
    simp only [Int.toNat_natCast] at hr
    refine ⟨_, _, .inl ?_, (hw.alloc (.cells (List.replicate m z).toArray E (0, 0))).imp fun h hb => ⟨by simp, .inr ⟨w.heap.size, m, List.replicate m z, rfl, Nat.le_refl _, hm, by simp, by simp, hb⟩⟩⟩
    simp only [execOp, ha.evO hx, ha.evO hy, Sem.run_bind, hr, Result.andThen_ok, Sem.run_pure]) (fun v w hS => by
    obtain ⟨a, c, rfl, _⟩ := own_form0 hS
    exact h a c w hS)

/-- copy of at least as much as fits: the owned slice holds the beginning of what is read. -/
theorem s_copyFull {T S E k2 bytes i m mm : Nat} {z : Value} (hT : SlT P T E 1 bytes z) {d : Option Nat} {x y : Operand} {v u : Value} {xs ys : List Value} (hd : dstOk n d = true) (hx : evO fr x = some v) (hy : evO fr y = some u)
    (hL : L[i]? = some (own E 1 v m xs)) (hR : RdIn g L u 1 mm ys) (h1 : ys.all (·.oneCell') = true) (hk : k2 = 1) (hmm : m ≤ mm)
    (h : SXs P n ops rest (putF fr d (.int .i64 (m : Int))) g (L.set i (own E 1 v m (ys.take m))) K X) :
    SXs P n ops (⟨d, .call ⟨.builtin .copy, #[x, y], #[T, S]⟩, ty, ps, af, none⟩ :: rest) fr g L K X :=
  s_genW (Q := fun v' w' => v' = .int .i64 (m : Int) ∧ St g w' (L.set i (own E 1 v m (ys.take m)))) hd (fun a w hag hw => by
    have hil : i < L.length := by
      rcases Nat.lt_or_ge i L.length with h | h
      · exact h
      · rw [List.getElem?_eq_none h] at hL; cases hL
    have hp := hw.perm (perm_at hL)
    obtain ⟨hA, hB, hdj, ⟨hlen, hv⟩, hs⟩ := hp.sat
    obtain ⟨hyl, hymx, hu⟩ := hR
    have e1 := hag.evO hx
    have e2 := hag.evO hy
    obtain ⟨inf, hinf, hz, hsize, hbytes⟩ := hT.info
    rw [Nat.mul_one] at hyl hlen
    have ht : (ys.take m).length = m * 1 := by rw [List.length_take, hyl]; omega
    rcases hv with ⟨rfl, rfl⟩ | ⟨b, cap, cur, rfl, hc, hcm, hcl, htk, hb⟩
    · refine ⟨.int .i64 ((0 : Nat) : Int), w, .inl ?_, rfl, ?_⟩
      · rcases hu with ⟨_ | az, rfl, rfl⟩ | ⟨b2, o2, c2, rfl, hc2, hcs⟩ <;>
        simp [execOp, resolve, e1, e2, invoke, builtin, Builtin.copy_, underlying, hT.und, Builtin.lenOf, Builtin.firstCells, hT.size w, loadCells, loadCellsFrom, goInt]
      · have := (St.mk hw.below ⟨hA, hB, hdj, (show own E 1 (.slice none 0 0) 0 (ys.take 0) hA from ⟨by simp, .inl ⟨rfl, rfl⟩⟩), hs⟩ : St g w (_ :: L.eraseIdx i)).perm (perm_set hil)
        exact this
    · have hbw : newH g w b = some (.cells cur.toArray E (0, 0)) := by
        rcases hdj b with ⟨e, _⟩ | ⟨e, _⟩
        · rw [← e]; exact hb
        · rw [e] at hb; cases hb
      have hbh := (newH_ge hbw).2
      have hlt : b < w.heap.size := by
        rcases Nat.lt_or_ge b w.heap.size with h' | h'
        · exact h'
        · rw [Array.getElem?_eq_none h'] at hbh; cases hbh
      have hbv : w.heap[b] = .cells cur.toArray E (0, 0) := by rw [Array.getElem?_eq_getElem hlt] at hbh; exact Option.some.inj hbh
      have hpt : St g w (pt b (.cells cur.toArray E (0, 0)) :: L.eraseIdx i) := ⟨hw.below, ⟨hA, hB, hdj, hb, hs⟩⟩
      rw [Nat.mul_one] at hcl
      have h2 := hpt.set (i := 0) (o' := .cells (ys.take m ++ cur.drop m).toArray E (0, 0)) rfl
      have h3 : St g (setBlk w b (.cells (ys.take m ++ cur.drop m).toArray E (0, 0))) (own E 1 (.slice (some ⟨b, 0, none⟩) m cap) m (ys.take m) :: L.eraseIdx i) :=
        (show St g _ (pt b _ :: L.eraseIdx i) from h2).imp fun h hb' => ⟨ht, .inr ⟨b, cap, _, rfl, hc, hcm, by
          rw [Nat.mul_one] at ht
          simp only [List.length_append, ht, List.length_drop, hcl]; omega, by
          rw [← ht]; exact List.take_left, hb'⟩⟩
      refine ⟨.int .i64 (m : Int), _, .inl ?_, rfl, h3.perm (perm_set hil)⟩
      rcases hu with ⟨az, rfl, rfl⟩ | ⟨b2, o2, c2, rfl, hc2, hcs⟩
      · have hm0 : m = 0 := by omega
        subst hm0
        cases az <;>
        simp [execOp, resolve, e1, e2, invoke, builtin, Builtin.copy_, underlying, hT.und, Builtin.lenOf, Builtin.firstCells, hT.size w, storeCells, goInt]
        all_goals
          unfold setBlk
          have hse : w.heap.setIfInBounds b (.cells cur.toArray E (0, 0)) = w.heap := by
            apply Array.ext_getElem?
            intro j
            rw [Array.getElem?_setIfInBounds]
            by_cases e : b = j
            · subst e; simp [hlt, hbv]
            · simp [e]
          rw [hse]
          try simp [loadCells, loadCellsFrom, storeCells]
      · have hr := run_copy_row (P := P) w T S ty E b 0 m cap ⟨b2, o2, none⟩ mm c2 cur.toArray E (ys.take m) hT.und (by simp [hinf, hsize]) hbh (by rw [List.length_take, hyl]; simp [Nat.min_comm])
          (fun j x hj => by
            rw [add_none]
            rw [List.getElem?_take] at hj
            split at hj
            · exact hcs w hw j x hj
            · cases hj) (by
            rw [Nat.mul_one] at ht
            simp only [Nat.zero_add, List.size_toArray, ht, hcl]; omega) (fun x hx => by
            have : ys.all (·.oneCell') = true := h1
            rw [List.all_eq_true] at this
            exact this x (List.mem_of_mem_take hx))
        rw [Nat.mul_one] at ht
        rw [ht] at hr
        simp only [List.take_zero, List.nil_append, Nat.zero_add] at hr
        have e : w.setRow b ((ys.take m ++ cur.toArray.toList.drop m).toArray) = setBlk w b (.cells (ys.take m ++ cur.drop m).toArray E (0, 0)) := by
          unfold World.setRow setBlk
          congr 1
          apply Array.ext_getElem?
          intro j
          rw [Array.getElem?_modify, Array.getElem?_setIfInBounds]
          by_cases e : b = j
          · subst e; simp [hlt, hbv]
          · simp [e]
        rw [e] at hr
        simp only [execOp, resolve, invoke, builtin, List.map_toArray, List.map_cons, List.map_nil, e1, e2, Sem.run_bind, Sem.run_pure, Result.andThen_ok, hr]
        rfl) (fun v w ⟨e, hS⟩ => by subst e; exact h w hS)

end
end Go.Hb
/-
  Maps (generic in the program): the map's block is a piece; keys are strings or numbers.
-/
namespace Go.Hb
open Go Go.RowKit

def SimpK : TypeDesc → Prop
  | .string => True
  | .int _ => True
  | _ => False

section
variable {P : Program} {n : Nat} {fr : Fr} {g : World} {L : List HP} {K : Fr → World → Prop} {X : Ks} {ops : Array Oper}
variable {d : Nat} {ty : TypeId} {ps : String} {af : Array Edge} {rest : List Oper}

theorem run_getMap {w : World} {b c : Nat} {es : Array MapEntry} (h : w.heap[b]? = some (.map es c)) : (getObj b).run P w = .ok (.map es c) w := by
  simp only [getObj, Sem.run, h]
theorem run_getIter {w : World} {b s c : Nat} {m : Option Nat} {es : Array Nat} (h : w.heap[b]? = some (.mapIter m s es c)) : (getObj b).run P w = .ok (.mapIter m s es c) w := by
  simp only [getObj, Sem.run, h]
theorem run_setMap {w : World} {b c : Nat} {es : Array MapEntry} {o : Obj} (h : w.heap[b]? = some (.map es c)) : (setObj b o).run P w = .ok () (setBlk w b o) := by
  simp only [setObj, Sem.run, h]; rfl
theorem run_setIter {w : World} {b s c : Nat} {m : Option Nat} {es : Array Nat} {o : Obj} (h : w.heap[b]? = some (.mapIter m s es c)) : (setObj b o).run P w = .ok () (setBlk w b o) := by
  simp only [setObj, Sem.run, h]; rfl
theorem run_checkKeyN {w : World} {N : Nat} {e : Bool} {Kt : TypeId} {kd : TypeDesc} {v : Value} (hK : P.underlying Kt = some kd) (hs : SimpK kd) : (Instr.checkKey e (N + 1) Kt v).run P w = .ok () w := by
  unfold Instr.checkKey
  cases kd <;> first | exact hs.elim | simp [underlying, hK]
theorem run_checkKey {w : World} {e : Bool} {Kt : TypeId} {kd : TypeDesc} {v : Value} (hK : P.underlying Kt = some kd) (hs : SimpK kd) : (Instr.checkKey e 10000 Kt v).run P w = .ok () w := run_checkKeyN (N := 9999) hK hs
theorem run_findKey {w : World} {Kt : TypeId} {kd : TypeDesc} {v : Value} {es : List MapEntry} {r : Option (Nat × Value)} (hK : P.underlying Kt = some kd) (hf : Instr.findNow kd v es 0 = some r) : (Instr.findKey Kt v es).run P w = .ok r w := by
  simp [Instr.findKey, underlying, hK, hf]

theorem run_lookT {w : World} {T Kt E : TypeId} {kd : TypeDesc} {m c j : Nat} {es : List MapEntry} {v r : Value} {ok : Bool} (hT : P.underlying T = some (.map Kt E)) (hK : P.underlying Kt = some kd) (hs : SimpK kd)
    (h : w.heap[m]? = some (.map es.toArray c)) (hf : Instr.findNow kd v es 0 = some (some (j, r))) : (Instr.lookup T (.map (some m)) v ok).run P w = .ok (bif ok then .tuple #[r, .bool true] else r) w := by
  simp [Instr.lookup, underlying, hT, run_getMap h, run_checkKey hK hs, run_findKey hK hf]
  try (cases ok <;> rfl)
theorem run_lookF {w : World} {T Kt E : TypeId} {kd : TypeDesc} {m c : Nat} {es : List MapEntry} {v z : Value} {ok : Bool} (hT : P.underlying T = some (.map Kt E)) (hK : P.underlying Kt = some kd) (hs : SimpK kd)
    (h : w.heap[m]? = some (.map es.toArray c)) (hf : Instr.findNow kd v es 0 = some none) (hz : ∀ w, (zeroValue E).run P w = .ok z w) : (Instr.lookup T (.map (some m)) v ok).run P w = .ok (bif ok then .tuple #[z, .bool false] else z) w := by
  simp [Instr.lookup, underlying, hT, run_getMap h, run_checkKey hK hs, run_findKey hK hf, hz]
  try (cases ok <;> rfl)

theorem s_lookT {x y : Operand} {T Kt E : TypeId} {kd : TypeDesc} {q m c j : Nat} {es : List MapEntry} {v r : Value} {ok : Bool} (hT : P.underlying T = some (.map Kt E)) (hK : P.underlying Kt = some kd) (hs : SimpK kd) (hd : Nat.blt d n = true)
    (hx : evO fr x = some (.map (some m))) (hy : evO fr y = some v) (hi : L[q]? = some (pt m (.map es.toArray c))) (hf : Instr.findNow kd v es 0 = some (some (j, r)))
    (h : SXs P n ops rest ((d, bif ok then .tuple #[r, .bool true] else r) :: fr) g L K X) : SXs P n ops (⟨some d, .lookup T x y ok, ty, ps, af, none⟩ :: rest) fr g L K X :=
  s_gen hd (fun a w hag hw => by
    simp only [execOp, hag.evO hx, hag.evO hy, Sem.run_bind, run_lookT hT hK hs (hw.get hi).2 hf, Result.andThen_ok, Sem.run_pure]) h
theorem s_lookF {x y : Operand} {T Kt E : TypeId} {kd : TypeDesc} {q m c : Nat} {es : List MapEntry} {v z : Value} {ok : Bool} (hT : P.underlying T = some (.map Kt E)) (hK : P.underlying Kt = some kd) (hs : SimpK kd) (hz : ∀ w, (zeroValue E).run P w = .ok z w) (hd : Nat.blt d n = true)
    (hx : evO fr x = some (.map (some m))) (hy : evO fr y = some v) (hi : L[q]? = some (pt m (.map es.toArray c))) (hf : Instr.findNow kd v es 0 = some none)
    (h : SXs P n ops rest ((d, bif ok then .tuple #[z, .bool false] else z) :: fr) g L K X) : SXs P n ops (⟨some d, .lookup T x y ok, ty, ps, af, none⟩ :: rest) fr g L K X :=
  s_gen hd (fun a w hag hw => by
    simp only [execOp, hag.evO hx, hag.evO hy, Sem.run_bind, run_lookF hT hK hs (hw.get hi).2 hf hz, Result.andThen_ok, Sem.run_pure]) h
theorem s_lenMap {ats : Array TypeId} {T Kt E : TypeId} {x : Operand} {q m c : Nat} {es : List MapEntry} (hat : ats[0]? = some T) (hu : P.underlying T = some (.map Kt E)) (hd : Nat.blt d n = true) (hx : evO fr x = some (.map (some m)))
    (hi : L[q]? = some (pt m (.map es.toArray c)))
    (h : SXs P n ops rest ((d, .int .i64 (es.length : Int)) :: fr) g L K X) : SXs P n ops (⟨some d, .call ⟨.builtin .len, #[x], ats⟩, ty, ps, af, none⟩ :: rest) fr g L K X :=
  s_gen hd (fun a' w hag hw => by
    have h1 := hag.evO hx
    have h2 := run_getMap (P := P) (hw.get hi).2
    simp [execOp, resolve, h1, invoke, builtin, Builtin.len_, hat, underlying, hu, goInt, h2]) h

theorem s_makeMap {T : TypeId} (hd : Nat.blt d n = true)
    (h : ∀ b, SXs P n ops rest ((d, .map (some b)) :: fr) g (pt b (.map ([] : List MapEntry).toArray 0) :: L) K X) : SXs P n ops (⟨some d, .makeMap T none, ty, ps, af, none⟩ :: rest) fr g L K X :=
  s_genW (Q := fun v w' => ∃ b, v = .map (some b) ∧ St g w' (pt b (.map ([] : List MapEntry).toArray 0) :: L)) (by simpa [dstOk] using hd) (fun a' w hag hw => by
    refine ⟨.map (some w.heap.size), w.alloc (.map ([] : List MapEntry).toArray 0), .inl ?_, _, rfl, hw.alloc _⟩
    simp [execOp, Instr.makeMap]) (fun v w ⟨b, e, hS⟩ => by subst e; exact h b w hS)

theorem s_mapPut {x y z : Operand} {T Kt E : TypeId} {kd : TypeDesc} {q m c : Nat} {es : List MapEntry} {k v : Value} (hT : P.underlying T = some (.map Kt E)) (hK : P.underlying Kt = some kd) (hs : SimpK kd)
    (hx : evO fr x = some (.map (some m))) (hy : evO fr y = some k) (hz : evO fr z = some v) (hi : L[q]? = some (pt m (.map es.toArray c))) (hf : Instr.findNow kd k es 0 = some none)
    (h : SXs P n ops rest fr g (L.set q (pt m (.map (es ++ [MapEntry.mk k v c]).toArray (c + 1)))) K X) : SXs P n ops (⟨none, .mapUpdate T x y z, ty, ps, af, none⟩ :: rest) fr g L K X :=
  s_genW (Q := fun v' w' => St g w' (L.set q (pt m (.map (es ++ [MapEntry.mk k v c]).toArray (c + 1))))) rfl (fun a' w hag hw => by
    refine ⟨undef, _, .inr ⟨rfl, ?_⟩, hw.set (o' := .map (es ++ [MapEntry.mk k v c]).toArray (c + 1)) hi⟩
    have h1 := (hw.get hi).2
    simp [execOp, hag.evO hx, hag.evO hy, hag.evO hz, Instr.mapUpdate, underlying, hT, run_getMap h1, run_checkKey hK hs, run_findKey hK hf, run_setMap h1]) (fun v' w hS => h w hS)

/-! ### A range over a map that holds nothing, or one entry -/

theorem s_range {x : Operand} {T Kt E : TypeId} {q m c : Nat} {es : List MapEntry} (hT : P.underlying T = some (.map Kt E)) (hd : Nat.blt d n = true) (hx : evO fr x = some (.map (some m))) (hi : L[q]? = some (pt m (.map es.toArray c)))
    (h : ∀ b, SXs P n ops rest ((d, .pointer (some ⟨b, 0, none⟩)) :: fr) g (pt b (.mapIter (some m) c #[] c) :: L) K X) : SXs P n ops (⟨some d, .range T x, ty, ps, af, none⟩ :: rest) fr g L K X :=
  s_genW (Q := fun v w' => ∃ b, v = .pointer (some ⟨b, 0, none⟩) ∧ St g w' (pt b (.mapIter (some m) c #[] c) :: L)) (by simpa [dstOk] using hd) (fun a' w hag hw => by
    refine ⟨.pointer (some ⟨w.heap.size, 0, none⟩), w.alloc (.mapIter (some m) c #[] c), .inl ?_, _, rfl, hw.alloc _⟩
    simp [execOp, hag.evO hx, Instr.range, underlying, hT, run_getMap (hw.get hi).2]) (fun v w ⟨b, e, hS⟩ => by subst e; exact h b w hS)

theorem run_next0 {w : World} {b m c : Nat} (hb : w.heap[b]? = some (.mapIter (some m) c #[] c)) (hm : w.heap[m]? = some (.map #[] c)) {ty : TypeId} :
    (Instr.next (.pointer (some ⟨b, 0, none⟩)) false ty).run P w = .ok (.tuple #[.bool false]) w := by
  simp [Instr.next, run_getIter hb, run_getMap hm, Question.forced]
theorem run_next1 {w : World} {b m : Nat} {k v : Value} (hb : w.heap[b]? = some (.mapIter (some m) 1 #[] 1)) (hm : w.heap[m]? = some (.map #[⟨k, v, 0⟩] 1)) {ty : TypeId} :
    (Instr.next (.pointer (some ⟨b, 0, none⟩)) false ty).run P w = .ok (.tuple #[.bool true, k, v]) (setBlk w b (.mapIter (some m) 1 #[0] 1)) := by
  simp [Instr.next, run_getIter hb, run_getMap hm, Question.forced, run_setIter hb]
theorem run_next2 {w : World} {b m : Nat} {k v : Value} (hb : w.heap[b]? = some (.mapIter (some m) 1 #[0] 1)) (hm : w.heap[m]? = some (.map #[⟨k, v, 0⟩] 1)) {ty : TypeId} :
    (Instr.next (.pointer (some ⟨b, 0, none⟩)) false ty).run P w = .ok (.tuple #[.bool false]) w := by
  simp [Instr.next, run_getIter hb, run_getMap hm, Question.forced]

theorem s_next0 {x : Operand} {i q b m c : Nat} (hd : Nat.blt d n = true) (hx : evO fr x = some (.pointer (some ⟨b, 0, none⟩))) (hb : L[i]? = some (pt b (.mapIter (some m) c #[] c))) (hm : L[q]? = some (pt m (.map ([] : List MapEntry).toArray c)))
    (h : SXs P n ops rest ((d, .tuple #[.bool false]) :: fr) g L K X) : SXs P n ops (⟨some d, .next x false, ty, ps, af, none⟩ :: rest) fr g L K X :=
  s_gen hd (fun a' w hag hw => by
    simp only [execOp, hag.evO hx, Sem.run_bind, run_next0 (hw.get hb).2 (hw.get hm).2, Result.andThen_ok, Sem.run_pure]) h
theorem s_next2 {x : Operand} {i q b m : Nat} {k v : Value} (hd : Nat.blt d n = true) (hx : evO fr x = some (.pointer (some ⟨b, 0, none⟩))) (hb : L[i]? = some (pt b (.mapIter (some m) 1 #[0] 1))) (hm : L[q]? = some (pt m (.map [⟨k, v, 0⟩].toArray 1)))
    (h : SXs P n ops rest ((d, .tuple #[.bool false]) :: fr) g L K X) : SXs P n ops (⟨some d, .next x false, ty, ps, af, none⟩ :: rest) fr g L K X :=
  s_gen hd (fun a' w hag hw => by
    simp only [execOp, hag.evO hx, Sem.run_bind, run_next2 (hw.get hb).2 (hw.get hm).2, Result.andThen_ok, Sem.run_pure]) h
theorem s_next1 {x : Operand} {i q b m : Nat} {k v : Value} (hd : Nat.blt d n = true) (hx : evO fr x = some (.pointer (some ⟨b, 0, none⟩))) (hb : L[i]? = some (pt b (.mapIter (some m) 1 #[] 1))) (hm : L[q]? = some (pt m (.map [⟨k, v, 0⟩].toArray 1)))
    (h : SXs P n ops rest ((d, .tuple #[.bool true, k, v]) :: fr) g (L.set i (pt b (.mapIter (some m) 1 #[0] 1))) K X) : SXs P n ops (⟨some d, .next x false, ty, ps, af, none⟩ :: rest) fr g L K X :=
  s_genW (Q := fun v' w' => v' = .tuple #[.bool true, k, v] ∧ St g w' (L.set i (pt b (.mapIter (some m) 1 #[0] 1)))) (by simpa [dstOk] using hd) (fun a' w hag hw => by
    refine ⟨_, _, .inl ?_, rfl, hw.set (o' := .mapIter (some m) 1 #[0] 1) hb⟩
    simp only [execOp, hag.evO hx, Sem.run_bind, run_next1 (hw.get hb).2 (hw.get hm).2, Result.andThen_ok, Sem.run_pure]) (fun v w ⟨e, hS⟩ => by subst e; exact h w hS)
theorem s_entry1 {x : Operand} {i q b m : Nat} {k v : Value} (hd : Nat.blt d n = true) (hx : evO fr x = some (.pointer (some ⟨b, 0, none⟩))) (hb : L[i]? = some (pt b (.mapIter (some m) 1 #[0] 1))) (hm : L[q]? = some (pt m (.map [⟨k, v, 0⟩].toArray 1)))
    (h : SXs P n ops rest ((d, .tuple #[k, v]) :: fr) g L K X) : SXs P n ops (⟨some d, .entry x, ty, ps, af, none⟩ :: rest) fr g L K X :=
  s_gen hd (fun a' w hag hw => by
    simp [execOp, hag.evO hx, Instr.entry, run_getIter (hw.get hb).2, run_getMap (hw.get hm).2]) h

/-- A function without a body, for which the model stands in. -/
def CallsX (P : Program) (f : FuncId) (e : Array Value → Sem Value) : Prop := ∀ (args : Array Value) (w w' : World) (v : Value), (e args).run P w = .ok v w' → (callFunc f args).run P w = .ok (.value v) w'
theorem CallsX.mk' {f : FuncId} {fn : Func} {e : Array Value → Sem Value} (hf : P.funcs[f]? = some fn) (h1 : (fn.name == "runtime.NumGoroutine") = false) (h2 : fn.body.isNone = true) (h3 : (Extern.findNext fn).isNone = true) (h4 : Extern.find fn = some e) : CallsX P f e := by
  intro args w w' v h
  have h3' : Extern.findNext fn = none := by simpa using h3
  simp only [callFunc, program, Sem.run_bind, Sem.run, hf, Result.andThen_ok, h1, h2, if_true, h3', h4]
  simp [mark, Sem.run, h]
theorem s_callX {d : Option Nat} {args : List Operand} {ats : Array TypeId} {f : FuncId} {vs : List Value} {e : Array Value → Sem Value} {Q : Value → World → Prop} (hf : CallsX P f e) (hd : dstOk n d = true) (ha : args.map (evO fr) = vs.map some)
    (hR : ∀ w, St g w L → ∃ v w', (e vs.toArray).run P w = .ok v w' ∧ Q v w') (h : ∀ v w, Q v w → SX P n ops rest (putF fr d v) w K X) :
    SXs P n ops (⟨d, .call ⟨.value (.func f), args.toArray, ats⟩, ty, ps, af, none⟩ :: rest) fr g L K X :=
  s_genW (Q := Q) hd (fun a w hag hw => by
    obtain ⟨v, w', hr, hq⟩ := hR w hw
    refine ⟨v, w', .inl ?_, hq⟩
    have e1 := hf vs.toArray w w' v hr
    simp only [execOp, resolve, Deferred.ofValue, List.map_toArray, hag.evOs ha, Sem.run_bind, Sem.run_pure, Result.andThen_ok, invoke, Act.eval]
    simpa using e1) h
theorem shr_eq (x k : Nat) : (x : Int).fdiv (2 ^ k) = ((x >>> k : Nat) : Int) := by
  rw [Nat.shiftRight_eq_div_pow, Int.fdiv_eq_ediv_of_nonneg _ (by exact_mod_cast Nat.zero_le _)]
  norm_cast
theorem s_shrN {x y : Operand} {t yt : TypeId} {k ky : IntKind} {a b : Nat} (hd : Nat.blt d n = true) (hx : evO fr x = some (.int k (a : Int))) (hy : evO fr y = some (.int ky (b : Int))) (hb : b < k.bits + 1)
    (h : SXs P n ops rest ((d, .int k ((a >>> b : Nat) : Int)) :: fr) g L K X) : SXs P n ops (⟨some d, .binOp .shr t x y yt, ty, ps, af, none⟩ :: rest) fr g L K X :=
  s_shr hd hx hy (by omega) (by rw [Int.toNat_natCast, Nat.min_eq_left (by omega)]; exact shr_eq a b) h
theorem s_shlN {x y : Operand} {t yt : TypeId} {k ky : IntKind} {a b : Nat} (hk : k.signed = false) (hd : Nat.blt d n = true) (hx : evO fr x = some (.int k (a : Int))) (hy : evO fr y = some (.int ky (b : Int))) (hb : b < k.bits + 1) (hr : a <<< b < 2 ^ k.bits)
    (h : SXs P n ops rest ((d, .int k ((a <<< b : Nat) : Int)) :: fr) g L K X) : SXs P n ops (⟨some d, .binOp .shl t x y yt, ty, ps, af, none⟩ :: rest) fr g L K X :=
  s_shl (c := ((a <<< b : Nat) : Int)) hd hx hy (by omega) (by
    rw [Int.toNat_natCast, Nat.min_eq_left (by omega), Nat.shiftLeft_eq] at *
    have e : (a : Int) * 2 ^ b = ((a * 2 ^ b : Nat) : Int) := by norm_cast
    rw [e]
    have h0 : ((a * 2 ^ b : Nat) : Int) % (2 ^ k.bits : Int) = ((a * 2 ^ b : Nat) : Int) := Int.emod_eq_of_lt (by omega) (by exact_mod_cast hr)
    simp only [IntKind.wrap, hk, h0]
    simp) h
theorem s_sliceArr {T E N k b o : Nat} {x : Operand} (hu : P.underlying T = some (.array N E)) (hs : ∀ w, (sizeOf E).run P w = .ok k w) (hd : Nat.blt d n = true) (hx : evO fr x = some (.pointer (some ⟨b, o, none⟩)))
    (h : SXs P n ops rest ((d, .slice (some ⟨b, o, none⟩) N N) :: fr) g L K X) : SXs P n ops (⟨some d, .slice T x none none none, ty, ps, af, none⟩ :: rest) fr g L K X :=
  s_gen hd (fun a w hag _ => by
    simp [execOp, hag.evO hx, Instr.sliceAt, underlying, hu, hs, Instr.sureAddr, Instr.sliceBounds, add_none]) h
theorem s_indexStr {t : TypeId} {x y : Operand} {s : ByteArray} {kd : IntKind} {i : Int} {c : UInt8} (hu : P.underlying t = some .string) (hd : Nat.blt d n = true) (hx : evO fr x = some (.string s)) (hy : evO fr y = some (.int kd i))
    (h0 : 0 ≤ i) (hc : s[i.toNat]? = some c) (h : SXs P n ops rest ((d, .int .u8 (c.toNat : Int)) :: fr) g L K X) : SXs P n ops (⟨some d, .index t x y, ty, ps, af, none⟩ :: rest) fr g L K X :=
  s_gen hd (fun a w hag _ => by
    simp [execOp, hag.evO hx, hag.evO hy, Instr.index, asIntOf, underlying, hu, h0, hc]) h
theorem s_assertT {x : Operand} {xt T : TypeId} {td : TypeDesc} {v : Value} (hT : P.underlying T = some td) (hn : ∀ l, td ≠ .interface l) (hd : Nat.blt d n = true) (hx : evO fr x = some (.iface T v))
    (h : SXs P n ops rest ((d, v) :: fr) g L K X) : SXs P n ops (⟨some d, .typeAssert x xt T false, ty, ps, af, none⟩ :: rest) fr g L K X :=
  s_gen hd (fun a' w hag hw => by
    cases td <;> first | exact absurd rfl (hn _) | simp [execOp, hag.evO hx, Instr.typeAssert, underlying, hT]) h
end
end Go.Hb
/-
  Regions that draw their order (generic in the program): an operation that yields the same value wherever the pieces L0 stand may be taken first; the others come up as the edges let them.
-/
namespace Go.Hb
open Go Go.RowKit

section
variable {P : Program} {ops : Array Oper} {Q : Exit → Act → World → Prop} {S : World → Prop} {T : Nat → Bool}

/-- Whatever order is picked from here on; S holds behind every operation that is carried out, but for those of the tail T. -/
def wpT (P : Program) (ops : Array Oper) (Q : Exit → Act → World → Prop) (S : World → Prop) (T : Nat → Bool) : Nat → Array Bool → Act → World → Prop
  | 0, listed, a, w => Region.ready .any ops listed = [] ∧ Q .normal a w
  | fuel + 1, listed, a, w =>
    (Region.ready .any ops listed = [] → Q .normal a w) ∧
    ∀ i ∈ Region.ready .any ops listed, wpOp P ops Q i (fun a' w' => (T i = false → (∀ t, T t = true → listed.getD t false = false) → S w') ∧ wpT P ops Q S T fuel (listed.setIfInBounds i true) a' w') a w

theorem wpAny_of_T : ∀ (fuel : Nat) (listed : Array Bool) (a : Act) (w : World), wpT P ops Q S T fuel listed a w → wpAny P .any ops Q fuel listed a w
  | 0, _, _, _, h => h
  | fuel + 1, _, _, _, h => ⟨h.1, fun i hi => wpOp_mono (fun a' w' h' => wpAny_of_T fuel _ a' w' h'.2) (h.2 i hi)⟩

/-- i must have come up ahead of j. -/
def reach (ops : Array Oper) : Nat → Nat → Nat → Bool
  | 0, _, _ => false
  | f + 1, j, i => match ops[j]? with
    | some o => o.after.toList.any fun e => Region.binds .any e && (e.on == i || reach ops f e.on i)
    | none => false

def DC (ops : Array Oper) (listed : Array Bool) : Prop := ∀ k o, ops[k]? = some o → listed.getD k false = true → ∀ e ∈ o.after, Region.binds .any e = true → listed.getD e.on false = true

theorem reach_listed {listed : Array Bool} (hdc : DC ops listed) : ∀ (f j i : Nat), reach ops f j i = true → (∀ o, ops[j]? = some o → ∀ e ∈ o.after, Region.binds .any e = true → listed.getD e.on false = true) → listed.getD i false = true := by
  intro f
  induction f with
  | zero => intro j i h; cases h
  | succ f ih =>
    intro j i h hj
    simp only [reach] at h
    cases ho : ops[j]? with
    | none => rw [ho] at h; cases h
    | some o =>
      rw [ho] at h
      simp only [List.any_eq_true, Bool.and_eq_true, Bool.or_eq_true, beq_iff_eq] at h
      obtain ⟨e, he, hb, h1⟩ := h
      have hl := hj o ho e (by simpa using he) hb
      rcases h1 with rfl | h1
      · exact hl
      · exact ih _ _ h1 (fun o' ho' e' he' hb' => hdc _ _ ho' hl e' he' hb')

theorem DC.set {listed : Array Bool} (hdc : DC ops listed) {j : Nat} (hj : j ∈ Region.ready .any ops listed) : DC ops (listed.setIfInBounds j true) := by
  intro k o ho hk e he hb
  by_cases hkj : k = j
  · subst hkj
    obtain ⟨_, o', ho', hall⟩ := mem_ready.1 hj
    rw [ho] at ho'
    cases ho'
    exact getD_set_true (hall e he hb)
  · rw [getD_set_ne false (Ne.symm hkj)] at hk
    exact getD_set_true (hdc k o ho hk e he hb)

theorem wpT_first {i : Nat} {oi : Oper} {v : Value} (hi : ops[i]? = some oi) (hsel : ∀ (j : Nat) (o : Oper) cs b, ops[j]? = some o → o.op ≠ .select cs b)
    (hQ : ∀ c a w, Q (.panic c) (a.put oi.dst v) w → Q (.panic c) a w) (hT : ∀ j, T j = true → reach ops ops.size j i = true) :
    ∀ (fuel : Nat) (listed : Array Bool) (a : Act) (w : World), DC ops listed →
      (∀ j oj, ops[j]? = some oj → j ≠ i → listed.getD j true = false → (∀ e ∈ oj.after, Region.binds .any e = true → e.on ≠ i) → oi.apart ops oj = true) →
      i ∈ Region.ready .any ops listed → YieldsIf P ops S oi v a → S w →
      wpT P ops Q S T fuel (listed.setIfInBounds i true) (a.put oi.dst v) w → wpT P ops Q S T (fuel + 1) listed a w := by
  intro fuel
  induction fuel with
  | zero =>
    intro listed a w _ _ hr hy hS H
    refine ⟨fun h => (by rw [h] at hr; cases hr), fun j hj => ?_⟩
    by_cases hji : j = i
    · subst hji; exact hy.wpOp hi hS ⟨fun _ _ => hS, H⟩
    · have := ready_mono hj hji
      rw [H.1] at this
      cases this
  | succ fuel ih =>
    intro listed a w hdc hfree hr hy hS H
    refine ⟨fun h => (by rw [h] at hr; cases hr), fun j hj => ?_⟩
    by_cases hji : j = i
    · subst hji; exact hy.wpOp hi hS ⟨fun _ _ => hS, H⟩
    · have h1 := H.2 j (ready_mono hj hji)
      obtain ⟨hjun, oj, hoj, hall⟩ := mem_ready.1 hj
      have hiun := (mem_ready.1 hr).1
      have hifalse : listed.getD i false ≠ true := by
        intro h
        rcases Nat.lt_or_ge i listed.size with h' | h'
        · simp [h'] at hiun h; rw [hiun] at h; cases h
        · simp [Array.getElem?_eq_none h'] at h
      have hTj : T j = false := by
        cases hTj : T j with
        | false => rfl
        | true => exact absurd (reach_listed hdc ops.size j i (hT j hTj) (fun o ho e he hb => by rw [hoj] at ho; cases ho; exact hall e he hb)) hifalse
      have hnot : ∀ e ∈ oj.after, Region.binds .any e = true → e.on ≠ i := fun e he hb heq => hifalse (heq ▸ hall e he hb)
      have h2 := wpOp_putIf hoj (hfree j oj hoj hji hjun hnot) (fun cs b => hsel i oi cs b hi) (fun cs b => hsel j oj cs b hoj) hQ hy h1
      have hfree' : ∀ k ok, ops[k]? = some ok → k ≠ i → (listed.setIfInBounds j true).getD k true = false →
          (∀ e ∈ ok.after, Region.binds .any e = true → e.on ≠ i) → oi.apart ops ok = true := fun k ok hk hki hun hno => by
        refine hfree k ok hk hki ?_ hno
        by_cases hjk : j = k
        · subst hjk; exact hjun
        · rw [getD_set_ne true hjk] at hun; exact hun
      have hno : ∀ t, T t = true → (listed.setIfInBounds i true).getD t false = false := fun t ht => by
        have hti : i ≠ t := by
          rintro rfl
          obtain ⟨_, o', ho', hall'⟩ := mem_ready.1 hr
          exact hifalse (reach_listed hdc ops.size i i (hT i ht) (fun o ho e he hb => by rw [ho'] at ho; cases ho; exact hall' e he hb))
        rw [getD_set_ne false hti]
        cases hlt : listed.getD t false with
        | false => rfl
        | true => exact absurd (reach_listed hdc ops.size t i (hT t ht) (fun o ho e he hb => hdc _ _ ho hlt e he hb)) hifalse
      refine wpOp_mono (fun a' w' h3 => ⟨fun _ _ => h3.2.1 hTj hno, ih (listed.setIfInBounds j true) a' w' (hdc.set hj) hfree' (ready_mono hr (Ne.symm hji)) h3.1 (h3.2.1 hTj hno) ?_⟩) h2
      rw [Array.setIfInBounds_comm _ _ hji]
      exact h3.2.2

end

/-! ### Over frames and pieces -/

/-- In every state that fits the frame, in every world where the pieces stand: the operation yields v and does nothing else. -/
def GV (P : Program) (n : Nat) (fr : Fr) (g : World) (L : List HP) (d : Nat) (op : Op) (ty : TypeId) (ps : String) (af : Array Edge) (v : Value) : Prop :=
  Nat.blt d n = true ∧ ∀ a w, Agr n a fr → St g w L → (execOp a.eval ⟨some d, op, ty, ps, af, none⟩).run P w = .ok (.value v) w

section
variable {P : Program} {n : Nat} {fr : Fr} {g : World} {L L0 : List HP} {K : Fr → World → Prop} {X : Ks} {ops : Array Oper} {T : Nat → Bool}
variable {d : Nat} {ty : TypeId} {ps : String} {af : Array Edge} {rest : List Oper}

theorem s_gv {op : Op} {v : Value} (hg : GV P n fr g L d op ty ps af v) (h : SXs P n ops rest ((d, v) :: fr) g L K X) : SXs P n ops (⟨some d, op, ty, ps, af, none⟩ :: rest) fr g L K X :=
  s_gen hg.1 hg.2 h

def SXT (P : Program) (n : Nat) (ops : Array Oper) (T : Nat → Bool) (L0 : List HP) (fuel : Nat) (listed : Array Bool) (fr : Fr) (g : World) (L : List HP) (K : Fr → World → Prop) (X : Ks) : Prop :=
  ∀ w, St g w L → ∀ a, Agr n a fr → wpT P ops (liftQ n K X) (fun w => St g w L0) T fuel listed a w

def dcB (ops : Array Oper) (listed : Array Bool) : Bool := (List.range ops.size).all fun k => match ops[k]? with
  | some o => !listed.getD k false || o.after.toList.all fun e => !Region.binds .any e || listed.getD e.on false
  | none => true

theorem dcB_spec {listed : Array Bool} (h : dcB ops listed = true) : DC ops listed := by
  intro k o ho hk e he hb
  unfold dcB at h
  rw [List.all_eq_true] at h
  have hlt : k < ops.size := (Array.getElem?_eq_some_iff.1 ho).1
  have h1 := h k (List.mem_range.2 hlt)
  rw [ho] at h1
  simp only [hk, Bool.not_true, Bool.false_or, List.all_eq_true, Bool.or_eq_true, Bool.not_eq_true'] at h1
  rcases h1 e (by simpa using he) with h2 | h2
  · rw [hb] at h2; cases h2
  · exact h2

theorem WPs_draw (ks : List Nat) {id : Nat} (T : Nat → Bool) (L0 : List HP) {m : Nat} {listed : Array Bool} (hm : P.follows .mixedOrders = true) (hsz : ops.size = m) (hl : Array.replicate m false = listed)
    (h : SXT P n ops T L0 m listed fr g L (keepK ks K) X) : WPs P n (.region id ops true) fr g L K X := fun w hw a ha => by
  subst hl
  subst hsz
  have h1 := wpAny_of_T _ _ _ _ (h w.drew hw.drew a ha)
  have h2 := wp_region_any (id := id) hm h1
  refine Code.wp_mono (fun e a w q => ?_) h2
  cases e <;> first
    | exact q
    | (obtain ⟨fr, h3, h4⟩ := q; exact ⟨_, h3.restr ks, h4⟩)

theorem WPs_drawL (ks : List Nat) {id : Nat} (T : List Nat) {m : Nat} {listed : Array Bool} (hm : P.follows .mixedOrders = true) (hsz : ops.size = m) (hl : Array.replicate m false = listed)
    (h : SXT P n ops T.contains L m listed fr g L (keepK ks K) X) : WPs P n (.region id ops true) fr g L K X := WPs_draw ks T.contains L hm hsz hl h

/-- Both outcomes of a test. -/
theorem st_split {fuel : Nat} {listed : Array Bool} {T : Nat → Bool} {dj : Nat} {b : Bool} (hl : lkO fr dj = some (.bool b))
    (ht : b = true → SXT P n ops T L0 fuel listed fr g L K X) (hf : b = false → SXT P n ops T L0 fuel listed fr g L K X) : SXT P n ops T L0 fuel listed fr g L K X := by
  have _h := hl
  cases b
  · exact hf rfl
  · exact ht rfl

/-- What is asked to take number i first: all of it closed facts of the region. -/
def takeB (ops : Array Oper) (T : List Nat) (listed : Array Bool) (i : Nat) : Bool :=
  Region.noSelect ops && Region.free .any ops listed i && (Region.ready .any ops listed).contains i && dcB ops listed && T.all (fun j => reach ops ops.size j i)

theorem st_takeG {i : Nat} {o : Oper} {v : Value} {fuel : Nat} {listed listed' : Array Bool} {T : List Nat} (hi : ops[i]? = some o) (hdst : o.dst = some d) (hd : Nat.blt d n = true) (hB : takeB ops T listed i = true)
    (hl : listed.setIfInBounds i true = listed') (hL : ∀ w, St g w L → St g w L0)
    (hy : ∀ a, Agr n a fr → YieldsIf P ops (fun w => St g w L0) o v a)
    (h : SXT P n ops T.contains L0 fuel listed' ((d, v) :: fr) g L K X) : SXT P n ops T.contains L0 (fuel + 1) listed fr g L K X := by
  subst hl
  simp only [takeB, Bool.and_eq_true] at hB
  obtain ⟨⟨⟨⟨h1, h2⟩, h3⟩, h4⟩, h5⟩ := hB
  intro w hw a ha
  refine wpT_first hi (Region.noSelect_spec h1) (fun c a w q => q) (fun j hj => ?_) fuel listed a w (dcB_spec h4) (Region.free_spec hi h2) (by simpa using h3) (hy a ha) (hL w hw) ?_
  · rw [List.all_eq_true] at h5
    exact h5 j (by simpa using hj)
  · rw [hdst]; exact h w hw _ (ha.put (by simpa [Nat.blt_eq] using hd) v)

/-- An operation without a guard is taken first. -/
theorem st_take (i : Nat) {op : Op} {v : Value} {fuel : Nat} {listed listed' : Array Bool} {T : List Nat} (hi : ops[i]? = some ⟨some d, op, ty, ps, af, none⟩) (hB : takeB ops T listed i = true)
    (hl : listed.setIfInBounds i true = listed') (hL : ∀ w, St g w L → St g w L0) (hg : GV P n fr g L0 d op ty ps af v)
    (h : SXT P n ops T.contains L0 fuel listed' ((d, v) :: fr) g L K X) : SXT P n ops T.contains L0 (fuel + 1) listed fr g L K X :=
  st_takeG hi rfl hg.1 hB hl hL (fun a ha => .inl ⟨by simp [Region.wanted], fun w hw => hg.2 a w ha hw⟩) h

/-- A guarded one whose guard is met. -/
theorem st_take_t (i : Nat) {op : Op} {v : Value} {fuel : Nat} {listed listed' : Array Bool} {T : List Nat} {j dj : Nat} {want b : Bool} (hi : ops[i]? = some ⟨some d, op, ty, ps, af, some (j, want)⟩) (hB : takeB ops T listed i = true)
    (hl : listed.setIfInBounds i true = listed') (hL : ∀ w, St g w L → St g w L0) (hdj : (ops[j]?).bind (·.dst) = some dj) (hlk : lkO fr dj = some (.bool b)) (hb : b = want) (hg : GV P n fr g L0 d op ty ps af v)
    (h : SXT P n ops T.contains L0 fuel listed' ((d, v) :: fr) g L K X) : SXT P n ops T.contains L0 (fuel + 1) listed fr g L K X :=
  st_takeG hi rfl hg.1 hB hl hL (fun a ha => .inl ⟨by subst hb; simp [Region.wanted, yielded_agr ha hdj hlk], fun w hw => hg.2 a w ha hw⟩) h

/-- A guarded one that is passed over. -/
theorem st_take_f (i : Nat) {op : Op} {fuel : Nat} {listed listed' : Array Bool} {T : List Nat} {j dj : Nat} {want b : Bool} (hi : ops[i]? = some ⟨some d, op, ty, ps, af, some (j, want)⟩) (hB : takeB ops T listed i = true)
    (hl : listed.setIfInBounds i true = listed') (hL : ∀ w, St g w L → St g w L0) (hdj : (ops[j]?).bind (·.dst) = some dj) (hlk : lkO fr dj = some (.bool b)) (hb : b = !want) (hd : Nat.blt d n = true)
    (h : SXT P n ops T.contains L0 fuel listed' ((d, undef) :: fr) g L K X) : SXT P n ops T.contains L0 (fuel + 1) listed fr g L K X :=
  st_takeG hi rfl hd hB hl hL (fun a ha => .inr ⟨by subst hb; simp [Region.wanted, yielded_agr ha hdj hlk], rfl⟩) h
theorem st_take_u (i : Nat) {op : Op} {fuel : Nat} {listed listed' : Array Bool} {T : List Nat} {j dj : Nat} {want : Bool} (hi : ops[i]? = some ⟨some d, op, ty, ps, af, some (j, want)⟩) (hB : takeB ops T listed i = true)
    (hl : listed.setIfInBounds i true = listed') (hL : ∀ w, St g w L → St g w L0) (hdj : (ops[j]?).bind (·.dst) = some dj) (hlk : lkO fr dj = some undef) (hd : Nat.blt d n = true)
    (h : SXT P n ops T.contains L0 fuel listed' ((d, undef) :: fr) g L K X) : SXT P n ops T.contains L0 (fuel + 1) listed fr g L K X :=
  st_takeG hi rfl hd hB hl hL (fun a ha => .inr ⟨by simp [Region.wanted, yielded_agr ha hdj hlk, undef], rfl⟩) h

/-- What must be shown behind number i, when it has come up. -/
def aftT (P : Program) (n : Nat) (ops : Array Oper) (T : List Nat) (L0 : List HP) (fuel : Nat) (listed : Array Bool) (g : World) (K : Fr → World → Prop) (X : Ks) (i : Nat) : Fr → World → Prop := fun fr' w' =>
  (T.contains i = false → (∀ t, T.contains t = true → listed.getD t false = false) → St g w' L0) ∧ ∀ a', Agr n a' fr' → wpT P ops (liftQ n K X) (fun w => St g w L0) T.contains fuel (listed.setIfInBounds i true) a' w'

theorem wpOp_of_SX {T : List Nat} {fuel : Nat} {listed : Array Bool} {i : Nat} {o : Oper} {w : World} {a : Act} (hi : ops[i]? = some o) (ha : Agr n a fr) (h : SX P n ops [o] fr w (aftT P n ops T L0 fuel listed g K X i) X) :
    wpOp P ops (liftQ n K X) i (fun a' w' => (T.contains i = false → (∀ t, T.contains t = true → listed.getD t false = false) → St g w' L0) ∧ wpT P ops (liftQ n K X) (fun w => St g w L0) T.contains fuel (listed.setIfInBounds i true) a' w') a w := by
  have h1 := h a ha
  have lets : ∀ K', ¬ LetsOut (liftQ n K' X) := fun K' ⟨_, _, q⟩ => q
  unfold wpOp
  rw [hi]
  simp only [wpList] at h1 ⊢
  have fin : ∀ a' w', liftQ n (aftT P n ops T L0 fuel listed g K X i) X .normal a' w' → (T.contains i = false → (∀ t, T.contains t = true → listed.getD t false = false) → St g w' L0) ∧ wpT P ops (liftQ n K X) (fun w => St g w L0) T.contains fuel (listed.setIfInBounds i true) a' w' := by
    rintro a' w' ⟨fr', h2, h3, h4⟩
    exact ⟨h3, h4 a' h2⟩
  split
  · rename_i hw
    rw [if_pos hw] at h1
    rcases h1 with h1 | ⟨_, h1⟩
    · refine .inl ?_
      unfold Oper.wp at *
      generalize (execOp a.eval o).run P w = r at *
      cases r with
      | ok nx w' =>
        cases nx <;> simp only [Oper.upon] at h1 ⊢ <;> first
          | exact fin _ _ h1
          | exact Calls.mono h1 (fun e w'' he => by
              cases e with
              | returned v => exact fin _ _ he
              | panicked c => exact he
              | outgrown => exact absurd he (lets _))
          | exact Go.Rows.mono h1 (fun _ _ he => fin _ _ he)
          | exact h1
      | halt x w' => cases x <;> simp only [Oper.upon] at h1 ⊢ <;> exact h1
    · exact absurd h1 (lets _)
  · rename_i hw
    rw [if_neg hw] at h1
    exact fin _ _ h1

/-- One operation may come up, and no other. -/
theorem st_one (i : Nat) {o : Oper} {fuel : Nat} {listed : Array Bool} {T : List Nat} (hi : ops[i]? = some o) (hr : Region.ready .any ops listed = [i])
    (h : SXs P n ops [o] fr g L (aftT P n ops T L0 fuel listed g K X i) X) : SXT P n ops T.contains L0 (fuel + 1) listed fr g L K X := fun w hw a ha => by
  refine ⟨fun h0 => (by rw [hr] at h0; cases h0), fun j hj => ?_⟩
  rw [hr] at hj
  obtain rfl : j = i := by simpa using hj
  exact wpOp_of_SX hi ha (h w hw)
/-- One of two. -/
theorem st_two (i i' : Nat) {o o' : Oper} {fuel : Nat} {listed : Array Bool} {T : List Nat} (hi : ops[i]? = some o) (hi' : ops[i']? = some o') (hr : Region.ready .any ops listed = [i, i'])
    (h : SXs P n ops [o] fr g L (aftT P n ops T L0 fuel listed g K X i) X) (h' : SXs P n ops [o'] fr g L (aftT P n ops T L0 fuel listed g K X i') X) : SXT P n ops T.contains L0 (fuel + 1) listed fr g L K X := fun w hw a ha => by
  refine ⟨fun h0 => (by rw [hr] at h0; cases h0), fun j hj => ?_⟩
  rw [hr] at hj
  simp only [List.mem_cons, List.not_mem_nil, or_false] at hj
  rcases hj with rfl | rfl
  · exact wpOp_of_SX hi ha (h w hw)
  · exact wpOp_of_SX hi' ha (h' w hw)

/-- Behind it: the pieces L0 stand (it is none of the tail), and on. -/
theorem st_next {i : Nat} {fuel : Nat} {listed listed' : Array Bool} {T : List Nat} (hl : listed.setIfInBounds i true = listed') (hL : T.contains i = false → (∀ t, T.contains t = true → listed.getD t false = false) → ∀ w, St g w L → St g w L0)
    (h : SXT P n ops T.contains L0 fuel listed' fr g L K X) : SXs P n ops [] fr g L (aftT P n ops T L0 fuel listed g K X i) X :=
  SXs_nil (fun w hw => ⟨fun e h1 => hL e h1 w hw, fun a ha => by subst hl; exact h w hw a ha⟩)

theorem st_done {fuel : Nat} {listed : Array Bool} {T : Nat → Bool} (hr : Region.ready .any ops listed = []) (h : KSs g L (K fr)) : SXT P n ops T L0 fuel listed fr g L K X := fun w hw a ha => by
  have : liftQ n K X .normal a w := ⟨fr, ha, h w hw⟩
  cases fuel with
  | zero => exact ⟨hr, this⟩
  | succ f => exact ⟨fun _ => this, by rw [hr]; simp⟩
theorem st_doneK {ks : List Nat} {fr' : Fr} {fuel : Nat} {listed : Array Bool} {T : Nat → Bool} (hr : Region.ready .any ops listed = []) (hk : restr ks fr = fr') (h : KSs g L (K fr')) : SXT P n ops T L0 fuel listed fr g L (keepK ks K) X :=
  st_done hr (by unfold keepK; rw [hk]; exact h)

end
end Go.Hb
/-
  The value rules once more, as facts on one operation (for regions that draw their order). Written by a program of this repo out of the rules s_X.
-/
namespace Go.Hb
open Go Go.RowKit
section
variable {P : Program} {n : Nat} {fr : Fr} {g : World} {L : List HP}
variable {d : Nat} {ty : TypeId} {ps : String} {af : Array Edge}

theorem gv_move {x : Operand} {v : Value} (hd : Nat.blt d n = true) (hx : evO fr x = some v) : GV P n fr g L d (.move x) ty ps af (v) :=
  ⟨hd, fun a w ha _ => by simp only [execOp, ha.evO hx]; rfl⟩

theorem gv_assign {x : Operand} {v : Value} (hd : Nat.blt d n = true) (hx : evO fr x = some v) : GV P n fr g L d (.assign x) ty ps af (v) :=
  ⟨hd, fun a w ha _ => by simp only [execOp, ha.evO hx]; rfl⟩

theorem gv_pick {c x y : Operand} {t : Bool} {v u r : Value} (hd : Nat.blt d n = true) (hc : evO fr c = some (.bool t)) (hx : evO fr x = some v) (hy : evO fr y = some u)
    (hr : (if t = true then v else u) = r) : GV P n fr g L d (.pick c x y) ty ps af (r) :=
  ⟨hd, fun a w ha _ => by simp only [execOp, ha.evO hc, ha.evO hx, ha.evO hy, asBool]; subst hr; cases t <;> rfl⟩

theorem gv_pick_t {c x y : Operand} {v : Value} (hd : Nat.blt d n = true) (hc : evO fr c = some (.bool true)) (hx : evO fr x = some v) : GV P n fr g L d (.pick c x y) ty ps af (v) :=
  ⟨hd, fun a w ha _ => by simp only [execOp, ha.evO hc, ha.evO hx, asBool]; rfl⟩

theorem gv_pick_f {c x y : Operand} {v : Value} (hd : Nat.blt d n = true) (hc : evO fr c = some (.bool false)) (hy : evO fr y = some v) : GV P n fr g L d (.pick c x y) ty ps af (v) :=
  ⟨hd, fun a w ha _ => by simp only [execOp, ha.evO hc, ha.evO hy, asBool]; rfl⟩

theorem gv_extract {x : Operand} {i : Nat} {vs : List Value} {v : Value} (hd : Nat.blt d n = true) (hx : evO fr x = some (.tuple vs.toArray)) (hi : vs[i]? = some v) : GV P n fr g L d (.extract x i) ty ps af (v) :=
  ⟨hd, fun a w ha _ => by simp [execOp, ha.evO hx, Instr.extract, hi]⟩

theorem gv_nilCheck {x : Operand} {a' : Addr} (hd : Nat.blt d n = true) (hx : evO fr x = some (.pointer (some a'))) : GV P n fr g L d (.nilCheck x) ty ps af (.pointer (some a')) :=
  ⟨hd, fun a w ha _ => by simp [execOp, ha.evO hx]⟩

theorem gv_makeFunc {fn : Fn} {first captured : List Operand} {fs cs : List Value} (hd : Nat.blt d n = true) (h1 : first.map (evO fr) = fs.map some) (h2 : captured.map (evO fr) = cs.map some) : GV P n fr g L d (.makeFunc fn first.toArray captured.toArray) ty ps af (.func fn fs.toArray cs.toArray) :=
  ⟨hd, fun a w ha _ => by simp [execOp, Instr.makeFunc, ha.evOs h1, ha.evOs h2]⟩

theorem gv_makeInterface {x : Operand} {T : TypeId} {v : Value} {td : TypeDesc} (hd : Nat.blt d n = true) (hu : P.underlying T = some td) (hni : ∀ ms, td ≠ .interface ms) (hx : evO fr x = some v) : GV P n fr g L d (.makeInterface T x) ty ps af (.iface T v) :=
  ⟨hd, fun a w ha _ => by
    simp only [execOp, ha.evO hx, Instr.makeInterface, underlying, Sem.run_bind, run_program, Result.andThen_ok, hu, Sem.run_pure]⟩

theorem gv_add {x y : Operand} {t yt : TypeId} {k : IntKind} {a b : Int} (hd : Nat.blt d n = true) (hx : evO fr x = some (.int k a)) (hy : evO fr y = some (.int k b)) : GV P n fr g L d (.binOp .add t x y yt) ty ps af (.int k (k.wrap (a + b))) :=
  ⟨hd, fun a w ha _ => by simp [execOp, ha.evO hx, ha.evO hy, run_eqGuard_int, binOp, Op.intArith]⟩

theorem gv_sub {x y : Operand} {t yt : TypeId} {k : IntKind} {a b : Int} (hd : Nat.blt d n = true) (hx : evO fr x = some (.int k a)) (hy : evO fr y = some (.int k b)) : GV P n fr g L d (.binOp .sub t x y yt) ty ps af (.int k (k.wrap (a - b))) :=
  ⟨hd, fun a w ha _ => by simp [execOp, ha.evO hx, ha.evO hy, run_eqGuard_int, binOp, Op.intArith]⟩

theorem gv_mul {x y : Operand} {t yt : TypeId} {k : IntKind} {a b : Int} (hd : Nat.blt d n = true) (hx : evO fr x = some (.int k a)) (hy : evO fr y = some (.int k b)) : GV P n fr g L d (.binOp .mul t x y yt) ty ps af (.int k (k.wrap (a * b))) :=
  ⟨hd, fun a w ha _ => by simp [execOp, ha.evO hx, ha.evO hy, run_eqGuard_int, binOp, Op.intArith]⟩

theorem gv_lss {x y : Operand} {t yt : TypeId} {k : IntKind} {a b : Int} (hd : Nat.blt d n = true) (hx : evO fr x = some (.int k a)) (hy : evO fr y = some (.int k b)) : GV P n fr g L d (.binOp .lss t x y yt) ty ps af (.bool (decide (a < b))) :=
  ⟨hd, fun a w ha _ => by simp [execOp, ha.evO hx, ha.evO hy, run_eqGuard_int, binOp, Op.intCmp]⟩

theorem gv_leq {x y : Operand} {t yt : TypeId} {k : IntKind} {a b : Int} (hd : Nat.blt d n = true) (hx : evO fr x = some (.int k a)) (hy : evO fr y = some (.int k b)) : GV P n fr g L d (.binOp .leq t x y yt) ty ps af (.bool (decide (a ≤ b))) :=
  ⟨hd, fun a w ha _ => by simp [execOp, ha.evO hx, ha.evO hy, run_eqGuard_int, binOp, Op.intCmp]⟩

theorem gv_gtr {x y : Operand} {t yt : TypeId} {k : IntKind} {a b : Int} (hd : Nat.blt d n = true) (hx : evO fr x = some (.int k a)) (hy : evO fr y = some (.int k b)) : GV P n fr g L d (.binOp .gtr t x y yt) ty ps af (.bool (decide (b < a))) :=
  ⟨hd, fun a w ha _ => by simp [execOp, ha.evO hx, ha.evO hy, run_eqGuard_int, binOp, Op.intCmp]⟩

theorem gv_geq {x y : Operand} {t yt : TypeId} {k : IntKind} {a b : Int} (hd : Nat.blt d n = true) (hx : evO fr x = some (.int k a)) (hy : evO fr y = some (.int k b)) : GV P n fr g L d (.binOp .geq t x y yt) ty ps af (.bool (decide (b ≤ a))) :=
  ⟨hd, fun a w ha _ => by simp [execOp, ha.evO hx, ha.evO hy, run_eqGuard_int, binOp, Op.intCmp]⟩

theorem gv_eql {x y : Operand} {t yt : TypeId} {k : IntKind} {a b : Int} (hd : Nat.blt d n = true) (hx : evO fr x = some (.int k a)) (hy : evO fr y = some (.int k b)) : GV P n fr g L d (.binOp .eql t x y yt) ty ps af (.bool (decide (a = b))) :=
  ⟨hd, fun a w ha _ => by
    simp only [execOp, ha.evO hx, ha.evO hy, run_eqGuard_int, binOp, Op.intCmp, Sem.run_bind, Result.andThen_ok, ne_eq, not_true_eq_false, if_false, Sem.run_pure]
    rename_i a0 _
    by_cases e : a0 = b <;> simp [e]⟩

theorem gv_neq {x y : Operand} {t yt : TypeId} {k : IntKind} {a b : Int} (hd : Nat.blt d n = true) (hx : evO fr x = some (.int k a)) (hy : evO fr y = some (.int k b)) : GV P n fr g L d (.binOp .neq t x y yt) ty ps af (.bool (!decide (a = b))) :=
  ⟨hd, fun a w ha _ => by
    simp only [execOp, ha.evO hx, ha.evO hy, run_eqGuard_int, binOp, Op.intCmp, Sem.run_bind, Result.andThen_ok, ne_eq, not_true_eq_false, if_false, Sem.run_pure]
    rename_i a0 _
    by_cases e : a0 = b <;> simp [e, bne]⟩

theorem gv_not {x : Operand} {t : TypeId} {b : Bool} (hd : Nat.blt d n = true) (hx : evO fr x = some (.bool b)) : GV P n fr g L d (.unOp .not t x) ty ps af (.bool !b) :=
  ⟨hd, fun a w ha _ => by simp [execOp, ha.evO hx, Op.unary]⟩

theorem gv_neg {x : Operand} {t : TypeId} {k : IntKind} {a c : Int} (hd : Nat.blt d n = true) (hx : evO fr x = some (.int k a)) (hw : k.wrap (0 - a) = c) : GV P n fr g L d (.unOp .neg t x) ty ps af (.int k c) :=
  ⟨hd, fun a w ha _ => by simp [execOp, ha.evO hx, Op.unary, Op.intArith, ← hw]⟩

theorem gv_xorN {x y : Operand} {t yt : TypeId} {k : IntKind} {a b : Nat} (hk : k.signed = false) (hd : Nat.blt d n = true) (hx : evO fr x = some (.int k a)) (hy : evO fr y = some (.int k b))
    (ha : a < 2 ^ k.bits) (hb : b < 2 ^ k.bits) : GV P n fr g L d (.binOp .xor t x y yt) ty ps af (.int k ((a ^^^ b : Nat) : Int)) :=
  ⟨hd, fun a' w hag _ => by
    simp only [execOp, hag.evO hx, hag.evO hy, run_eqGuard_int, binOp, Op.intBits, Sem.run_bind, Result.andThen_ok, ne_eq, not_true_eq_false, if_false, Sem.run_pure, ofInt_nat]
    rw [BitVec.toNat_xor, BitVec.toNat_ofNat, BitVec.toNat_ofNat, Nat.mod_eq_of_lt ha, Nat.mod_eq_of_lt hb, wrap_nat hk (Nat.xor_lt_two_pow ha hb)]⟩

theorem gv_orN {x y : Operand} {t yt : TypeId} {k : IntKind} {a b : Nat} (hk : k.signed = false) (hd : Nat.blt d n = true) (hx : evO fr x = some (.int k a)) (hy : evO fr y = some (.int k b))
    (ha : a < 2 ^ k.bits) (hb : b < 2 ^ k.bits) : GV P n fr g L d (.binOp .or t x y yt) ty ps af (.int k ((a ||| b : Nat) : Int)) :=
  ⟨hd, fun a' w hag _ => by
    simp only [execOp, hag.evO hx, hag.evO hy, run_eqGuard_int, binOp, Op.intBits, Sem.run_bind, Result.andThen_ok, ne_eq, not_true_eq_false, if_false, Sem.run_pure, ofInt_nat]
    rw [BitVec.toNat_or, BitVec.toNat_ofNat, BitVec.toNat_ofNat, Nat.mod_eq_of_lt ha, Nat.mod_eq_of_lt hb, wrap_nat hk (Nat.or_lt_two_pow ha hb)]⟩

theorem gv_andN {x y : Operand} {t yt : TypeId} {k : IntKind} {a b : Nat} (hk : k.signed = false) (hd : Nat.blt d n = true) (hx : evO fr x = some (.int k a)) (hy : evO fr y = some (.int k b))
    (ha : a < 2 ^ k.bits) (hb : b < 2 ^ k.bits) : GV P n fr g L d (.binOp .and t x y yt) ty ps af (.int k ((a &&& b : Nat) : Int)) :=
  ⟨hd, fun a' w hag _ => by
    simp only [execOp, hag.evO hx, hag.evO hy, run_eqGuard_int, binOp, Op.intBits, Sem.run_bind, Result.andThen_ok, ne_eq, not_true_eq_false, if_false, Sem.run_pure, ofInt_nat]
    rw [BitVec.toNat_and, BitVec.toNat_ofNat, BitVec.toNat_ofNat, Nat.mod_eq_of_lt ha, Nat.mod_eq_of_lt hb, wrap_nat hk (Nat.and_lt_two_pow _ hb)]⟩

theorem gv_comN {x : Operand} {t : TypeId} {k : IntKind} {a : Nat} (hk : k.signed = false) (hd : Nat.blt d n = true) (hx : evO fr x = some (.int k a)) (ha : a < 2 ^ k.bits) : GV P n fr g L d (.unOp .xor t x) ty ps af (.int k (((2 ^ k.bits - 1) ^^^ a : Nat) : Int)) :=
  ⟨hd, fun a' w hag _ => by
    have hp : 0 < 2 ^ k.bits := Nat.two_pow_pos _
    have hm : k.max = ((2 ^ k.bits - 1 : Nat) : Int) := by
      unfold IntKind.max
      rw [if_neg (by simp [hk]), Int.natCast_sub (by omega)]
      simp
    simp only [execOp, hag.evO hx, Op.unary, Op.intBits, hk, Bool.false_eq_true, if_false, Sem.run_bind, Result.andThen_ok, Sem.run_pure, hm, ofInt_nat]
    rw [BitVec.toNat_xor, BitVec.toNat_ofNat, BitVec.toNat_ofNat, Nat.mod_eq_of_lt ha, Nat.mod_eq_of_lt (by omega), wrap_nat hk (Nat.xor_lt_two_pow (by omega) ha)]⟩

theorem gv_shr {x y : Operand} {t yt : TypeId} {k ky : IntKind} {a b c : Int} (hd : Nat.blt d n = true) (hx : evO fr x = some (.int k a)) (hy : evO fr y = some (.int ky b))
    (hb : ¬ b < 0) (hw : a.fdiv (2 ^ min b.toNat k.bits) = c) : GV P n fr g L d (.binOp .shr t x y yt) ty ps af (.int k c) :=
  ⟨hd, fun a' w hag _ => by
    simp only [execOp, hag.evO hx, hag.evO hy, run_eqGuard_int, binOp, Op.shift, Sem.run_bind, Result.andThen_ok, if_neg hb, Sem.run_pure, hw]⟩

theorem gv_shl {x y : Operand} {t yt : TypeId} {k ky : IntKind} {a b c : Int} (hd : Nat.blt d n = true) (hx : evO fr x = some (.int k a)) (hy : evO fr y = some (.int ky b))
    (hb : ¬ b < 0) (hw : k.wrap (a * 2 ^ min b.toNat k.bits) = c) : GV P n fr g L d (.binOp .shl t x y yt) ty ps af (.int k c) :=
  ⟨hd, fun a' w hag _ => by
    simp only [execOp, hag.evO hx, hag.evO hy, run_eqGuard_int, binOp, Op.shift, Sem.run_bind, Result.andThen_ok, if_neg hb, Sem.run_pure, hw]⟩

theorem gv_rem {x y : Operand} {t yt : TypeId} {k : IntKind} {a b c : Int} (hd : Nat.blt d n = true) (hx : evO fr x = some (.int k a)) (hy : evO fr y = some (.int k b))
    (hb : ¬ b = 0) (hw : a.tmod b = c) : GV P n fr g L d (.binOp .rem t x y yt) ty ps af (.int k c) :=
  ⟨hd, fun a' w hag _ => by
    simp [execOp, hag.evO hx, hag.evO hy, run_eqGuard_int, binOp, Op.intDiv, hb, hw]⟩

theorem gv_conv {x : Operand} {src dst : TypeId} {td : TypeDesc} {k k0 : IntKind} {a c : Int} (hus : P.underlying src = some td) (hud : P.underlying dst = some (.int k)) (hd : Nat.blt d n = true)
    (hx : evO fr x = some (.int k0 a)) (hw : k.wrap a = c) : GV P n fr g L d (.convert src dst x) ty ps af (.int k c) :=
  ⟨hd, fun a' w hag _ => by
    simp [execOp, hag.evO hx, convert, underlying, hus, hud, Conv.intToInt, hw]⟩

theorem gv_eql_str {x y : Operand} {t yt : TypeId} {a b : ByteArray} (hd : Nat.blt d n = true) (hx : evO fr x = some (.string a)) (hy : evO fr y = some (.string b)) : GV P n fr g L d (.binOp .eql t x y yt) ty ps af (.bool (decide (a = b))) :=
  ⟨hd, fun a' w hag _ => by
    simp [execOp, hag.evO hx, hag.evO hy, eqGuard, binOp, Op.stringOp, bytes_eq]⟩

theorem gv_neq_str {x y : Operand} {t yt : TypeId} {a b : ByteArray} (hd : Nat.blt d n = true) (hx : evO fr x = some (.string a)) (hy : evO fr y = some (.string b)) : GV P n fr g L d (.binOp .neq t x y yt) ty ps af (.bool (!decide (a = b))) :=
  ⟨hd, fun a' w hag _ => by
    simp [execOp, hag.evO hx, hag.evO hy, eqGuard, binOp, Op.stringOp, bytes_eq]⟩

theorem gv_eqlV {x y : Operand} {t yt : TypeId} {a b : Value} {r : Bool} (hd : Nat.blt d n = true) (hx : evO fr x = some a) (hy : evO fr y = some b) (he : EqV P t a b r) : GV P n fr g L d (.binOp .eql t x y yt) ty ps af (.bool r) :=
  ⟨hd, fun a' w hag _ => by
    simp only [execOp, hag.evO hx, hag.evO hy, Sem.run_bind, he.2.1, Result.andThen_ok, he.2.2.2.1, Sem.run_pure]⟩

theorem gv_neqV {x y : Operand} {t yt : TypeId} {a b : Value} {r : Bool} (hd : Nat.blt d n = true) (hx : evO fr x = some a) (hy : evO fr y = some b) (he : EqV P t a b r) : GV P n fr g L d (.binOp .neq t x y yt) ty ps af (.bool !r) :=
  ⟨hd, fun a' w hag _ => by
    simp only [execOp, hag.evO hx, hag.evO hy, Sem.run_bind, he.2.2.1, Result.andThen_ok, he.2.2.2.2, Sem.run_pure]⟩

theorem gv_load1 {x : Operand} {t : TypeId} {a : Addr} {v : Value} (h1 : ∀ w, (isAgg t).run P w = .ok false w) (hd : Nat.blt d n = true) (hx : evO fr x = some (.pointer (some a))) (hc : CellIn g L a v) : GV P n fr g L d (.load t x) ty ps af (v) :=
  ⟨hd, fun a' w hag hw => by
    simp only [execOp, hag.evO hx, Instr.loadAt, Instr.sureAddr, Sem.run_bind, Sem.run_pure, Result.andThen_ok, run_loadVar1 h1 (hc w hw)]⟩

theorem gv_loadN {x : Operand} {t : TypeId} {b o k : Nat} {vs : List Value} (h1 : ∀ w, (isAgg t).run P w = .ok true w) (h2 : ∀ w, (sizeOf t).run P w = .ok k w) (hd : Nat.blt d n = true)
    (hx : evO fr x = some (.pointer (some ⟨b, o, none⟩))) (hc : CellsIn g L b o vs) (hk : vs.length = k) : GV P n fr g L d (.load t x) ty ps af (.agg vs.toArray) :=
  ⟨hd, fun a' w hag hw => by
    simp only [execOp, hag.evO hx, Instr.loadAt, Instr.sureAddr, Sem.run_bind, Sem.run_pure, Result.andThen_ok, run_loadVarN h1 h2 hk (hc w hw)]⟩

theorem gv_fieldAddr {x : Operand} {t : TypeId} {i off b o : Nat} (hf : FieldOff P t i off) (hd : Nat.blt d n = true) (hx : evO fr x = some (.pointer (some ⟨b, o, none⟩))) : GV P n fr g L d (.fieldAddr t x i) ty ps af (.pointer (some ⟨b, o + off, none⟩)) :=
  ⟨hd, fun a' w hag _ => by
    simp only [execOp, hag.evO hx, Sem.run_bind, hf b o w, Result.andThen_ok, Sem.run_pure]⟩

theorem gv_nilCheckF {x : Operand} {f : FuncId} {a b : Array Value} (hd : Nat.blt d n = true) (hx : evO fr x = some (.func (.func f) a b)) : GV P n fr g L d (.nilCheck x) ty ps af (.func (.func f) a b) :=
  ⟨hd, fun a w ha _ => by simp [execOp, ha.evO hx]⟩

theorem gv_len {ats : Array TypeId} {T E : TypeId} {x : Operand} {a : Option Addr} {m cap : Nat} (hat : ats[0]? = some T) (hu : P.underlying T = some (.slice E)) (hd : Nat.blt d n = true) (hx : evO fr x = some (.slice a m cap)) : GV P n fr g L d (.call ⟨.builtin .len, #[x], ats⟩) ty ps af (.int .i64 (m : Int)) :=
  ⟨hd, fun a' w hag _ => by
    have h1 := hag.evO hx
    simp [execOp, resolve, h1, invoke, builtin, Builtin.len_, hat, underlying, hu, goInt]⟩

theorem gv_lenStr {ats : Array TypeId} {T : TypeId} {x : Operand} {s : ByteArray} (hat : ats[0]? = some T) (hu : P.underlying T = some .string) (hd : Nat.blt d n = true) (hx : evO fr x = some (.string s)) : GV P n fr g L d (.call ⟨.builtin .len, #[x], ats⟩) ty ps af (.int .i64 (s.size : Int)) :=
  ⟨hd, fun a' w hag _ => by
    have h1 := hag.evO hx
    simp [execOp, resolve, h1, invoke, builtin, Builtin.len_, hat, underlying, hu, goInt]⟩

theorem gv_lenArr {ats : Array TypeId} {T E : TypeId} {x : Operand} {v : Value} {m : Nat} (hat : ats[0]? = some T) (hu : P.underlying T = some (.array m E)) (hd : Nat.blt d n = true) (hx : evO fr x = some v) : GV P n fr g L d (.call ⟨.builtin .len, #[x], ats⟩) ty ps af (.int .i64 (m : Int)) :=
  ⟨hd, fun a' w hag _ => by
    have h1 := hag.evO hx
    simp [execOp, resolve, h1, invoke, builtin, Builtin.len_, hat, underlying, hu, goInt]⟩

theorem gv_idx {T E k bytes : Nat} {z : Value} (hT : SlT P T E k bytes z) {x y : Operand} {b o m cap : Nat} {kd : IntKind} {i : Int} (hd : Nat.blt d n = true) (hx : evO fr x = some (.slice (some ⟨b, o, none⟩) m cap)) (hy : evO fr y = some (.int kd i))
    (h0 : 0 ≤ i) (h1 : i < m) : GV P n fr g L d (.indexAddr T x y) ty ps af (.pointer (some ⟨b, o + i.toNat * k, none⟩)) :=
  ⟨hd, fun a' w hag _ => by
    simp only [execOp, hag.evO hx, hag.evO hy, Sem.run_bind, run_indexAt hT h0 h1, Result.andThen_ok, Sem.run_pure]⟩

theorem gv_idxArr {T E k m b o : Nat} {x y : Operand} {kd : IntKind} {i : Int} (hu : P.underlying T = some (.array m E)) (hs : ∀ w, (sizeOf E).run P w = .ok k w) (hd : Nat.blt d n = true) (hx : evO fr x = some (.pointer (some ⟨b, o, none⟩))) (hy : evO fr y = some (.int kd i))
    (h0 : 0 ≤ i) (h1 : i < m) : GV P n fr g L d (.indexAddr T x y) ty ps af (.pointer (some ⟨b, o + i.toNat * k, none⟩)) :=
  ⟨hd, fun a' w hag _ => by
    simp [execOp, hag.evO hx, hag.evO hy, Instr.indexAt, asIntOf, underlying, hu, h0, h1, hs, add_none, Instr.sureAddr]⟩

theorem gv_run {op : Op} {v : Value} (hd : Nat.blt d n = true) (hrun : ∀ a w, Agr n a fr → (execOp a.eval ⟨some d, op, ty, ps, af, none⟩).run P w = .ok (.value v) w) : GV P n fr g L d (op) ty ps af (v) :=
  ⟨hd, fun a w ha _ => hrun a w ha⟩

theorem gv_build {t : TypeId} {xs : List (Nat × Operand)} {vs : List (Nat × Value)} {cs : List Value} (hd : Nat.blt d n = true) (he : evParts fr xs vs) (hb : BuildV P t vs cs) : GV P n fr g L d (.build t xs.toArray) ty ps af (.agg cs.toArray) :=
  ⟨hd, fun a w ha _ => by
    have e : (xs.toArray.map fun (p : Nat × Operand) => (p.1, a.eval p.2)) = vs.toArray := by rw [List.map_toArray, ha.evParts he]
    simp only [execOp]
    rw [show (xs.toArray.map fun (x : Nat × Operand) => match x with | (i, x) => (i, a.eval x)) = vs.toArray from e]
    simp only [Sem.run_bind, hb w, Result.andThen_ok, Sem.run_pure]⟩

theorem gv_min {ats : Array TypeId} {x y : Operand} {k : IntKind} {a b : Int} (hd : Nat.blt d n = true) (hx : evO fr x = some (.int k a)) (hy : evO fr y = some (.int k b)) : GV P n fr g L d (.call ⟨.builtin .min, #[x, y], ats⟩) ty ps af (.int k (min a b)) :=
  ⟨hd, fun a' w hag _ => by
    have h1 := hag.evO hx
    have h2 := hag.evO hy
    have e : (if b < a then b else a) = min a b := by split <;> omega
    simp [execOp, resolve, h1, h2, invoke, builtin, Builtin.min_, Builtin.min2, e]⟩

theorem gv_max {ats : Array TypeId} {x y : Operand} {k : IntKind} {a b : Int} (hd : Nat.blt d n = true) (hx : evO fr x = some (.int k a)) (hy : evO fr y = some (.int k b)) : GV P n fr g L d (.call ⟨.builtin .max, #[x, y], ats⟩) ty ps af (.int k (max a b)) :=
  ⟨hd, fun a' w hag _ => by
    have h1 := hag.evO hx
    have h2 := hag.evO hy
    have e : (if a < b then b else a) = max a b := by split <;> omega
    simp [execOp, resolve, h1, h2, invoke, builtin, Builtin.max_, Builtin.max2, e]⟩

theorem gv_field {t : TypeId} {i : Nat} {x : Operand} {cs : List Value} {v : Value} (hd : Nat.blt d n = true) (hx : evO fr x = some (.agg cs.toArray)) (hf : FieldV P t i cs v) : GV P n fr g L d (.field t x i) ty ps af (v) :=
  ⟨hd, fun a w ha _ => by simp only [execOp, ha.evO hx, Sem.run_bind, hf w, Result.andThen_ok, Sem.run_pure]⟩

theorem gv_index {t E : TypeId} {x y : Operand} {cs : List Value} {m : Nat} {kd : IntKind} {i : Int} {v : Value} (hu : P.underlying t = some (.array m E)) (ha : ∀ w, (isAgg E).run P w = .ok false w) (hs : ∀ w, (sizeOf E).run P w = .ok 1 w) (hd : Nat.blt d n = true) (hx : evO fr x = some (.agg cs.toArray)) (hy : evO fr y = some (.int kd i))
    (h0 : 0 ≤ i) (h1 : i < m) (hc : cs[i.toNat]? = some v) : GV P n fr g L d (.index t x y) ty ps af (v) :=
  ⟨hd, fun a w hag _ => by
    simp [execOp, hag.evO hx, hag.evO hy, Instr.index, asIntOf, underlying, hu, h0, h1, part, ha, hs, hc]⟩

theorem gv_toArr {T E k m N b o cap : Nat} {x : Operand} (hu : P.underlying T = some (.array N E)) (hd : Nat.blt d n = true) (hx : evO fr x = some (.slice (some ⟨b, o, none⟩) m cap)) (hN : N ≤ m) : GV P n fr g L d (.sliceToArrayPointer T x) ty ps af (.pointer (some ⟨b, o, none⟩)) :=
  ⟨hd, fun a w hag _ => by
    have : ¬ m < N := by omega
    simp [execOp, hag.evO hx, Instr.arrayAt, underlying, hu, this]⟩

theorem gv_nilCheckM {x : Operand} {name : String} {t : TypeId} {v0 : Value} {cap : Array Value} (hd : Nat.blt d n = true) (hx : evO fr x = some (.func (.method name) #[.iface t v0] cap))
    (hn : ∀ w, (nilAhead (P.types.size + Made.depth) t v0 name).run P w = .ok (some false) w) : GV P n fr g L d (.nilCheck x) ty ps af (.func (.method name) #[.iface t v0] cap) :=
  ⟨hd, fun a w ha _ => by simp [execOp, ha.evO hx, hn w]⟩

theorem gv_lookT {x y : Operand} {T Kt E : TypeId} {kd : TypeDesc} {q m c j : Nat} {es : List MapEntry} {v r : Value} {ok : Bool} (hT : P.underlying T = some (.map Kt E)) (hK : P.underlying Kt = some kd) (hs : SimpK kd) (hd : Nat.blt d n = true)
    (hx : evO fr x = some (.map (some m))) (hy : evO fr y = some v) (hi : L[q]? = some (pt m (.map es.toArray c))) (hf : Instr.findNow kd v es 0 = some (some (j, r))) : GV P n fr g L d (.lookup T x y ok) ty ps af (bif ok then .tuple #[r, .bool true] else r) :=
  ⟨hd, fun a w hag hw => by
    simp only [execOp, hag.evO hx, hag.evO hy, Sem.run_bind, run_lookT hT hK hs (hw.get hi).2 hf, Result.andThen_ok, Sem.run_pure]⟩

theorem gv_lookF {x y : Operand} {T Kt E : TypeId} {kd : TypeDesc} {q m c : Nat} {es : List MapEntry} {v z : Value} {ok : Bool} (hT : P.underlying T = some (.map Kt E)) (hK : P.underlying Kt = some kd) (hs : SimpK kd) (hz : ∀ w, (zeroValue E).run P w = .ok z w) (hd : Nat.blt d n = true)
    (hx : evO fr x = some (.map (some m))) (hy : evO fr y = some v) (hi : L[q]? = some (pt m (.map es.toArray c))) (hf : Instr.findNow kd v es 0 = some none) : GV P n fr g L d (.lookup T x y ok) ty ps af (bif ok then .tuple #[z, .bool false] else z) :=
  ⟨hd, fun a w hag hw => by
    simp only [execOp, hag.evO hx, hag.evO hy, Sem.run_bind, run_lookF hT hK hs (hw.get hi).2 hf hz, Result.andThen_ok, Sem.run_pure]⟩

theorem gv_lenMap {ats : Array TypeId} {T Kt E : TypeId} {x : Operand} {q m c : Nat} {es : List MapEntry} (hat : ats[0]? = some T) (hu : P.underlying T = some (.map Kt E)) (hd : Nat.blt d n = true) (hx : evO fr x = some (.map (some m)))
    (hi : L[q]? = some (pt m (.map es.toArray c))) : GV P n fr g L d (.call ⟨.builtin .len, #[x], ats⟩) ty ps af (.int .i64 (es.length : Int)) :=
  ⟨hd, fun a' w hag hw => by
    have h1 := hag.evO hx
    have h2 := run_getMap (P := P) (hw.get hi).2
    simp [execOp, resolve, h1, invoke, builtin, Builtin.len_, hat, underlying, hu, goInt, h2]⟩

theorem gv_next0 {x : Operand} {i q b m c : Nat} (hd : Nat.blt d n = true) (hx : evO fr x = some (.pointer (some ⟨b, 0, none⟩))) (hb : L[i]? = some (pt b (.mapIter (some m) c #[] c))) (hm : L[q]? = some (pt m (.map ([] : List MapEntry).toArray c))) : GV P n fr g L d (.next x false) ty ps af (.tuple #[.bool false]) :=
  ⟨hd, fun a' w hag hw => by
    simp only [execOp, hag.evO hx, Sem.run_bind, run_next0 (hw.get hb).2 (hw.get hm).2, Result.andThen_ok, Sem.run_pure]⟩

theorem gv_next2 {x : Operand} {i q b m : Nat} {k v : Value} (hd : Nat.blt d n = true) (hx : evO fr x = some (.pointer (some ⟨b, 0, none⟩))) (hb : L[i]? = some (pt b (.mapIter (some m) 1 #[0] 1))) (hm : L[q]? = some (pt m (.map [⟨k, v, 0⟩].toArray 1))) : GV P n fr g L d (.next x false) ty ps af (.tuple #[.bool false]) :=
  ⟨hd, fun a' w hag hw => by
    simp only [execOp, hag.evO hx, Sem.run_bind, run_next2 (hw.get hb).2 (hw.get hm).2, Result.andThen_ok, Sem.run_pure]⟩

theorem gv_entry1 {x : Operand} {i q b m : Nat} {k v : Value} (hd : Nat.blt d n = true) (hx : evO fr x = some (.pointer (some ⟨b, 0, none⟩))) (hb : L[i]? = some (pt b (.mapIter (some m) 1 #[0] 1))) (hm : L[q]? = some (pt m (.map [⟨k, v, 0⟩].toArray 1))) : GV P n fr g L d (.entry x) ty ps af (.tuple #[k, v]) :=
  ⟨hd, fun a' w hag hw => by
    simp [execOp, hag.evO hx, Instr.entry, run_getIter (hw.get hb).2, run_getMap (hw.get hm).2]⟩

theorem gv_sliceArr {T E N k b o : Nat} {x : Operand} (hu : P.underlying T = some (.array N E)) (hs : ∀ w, (sizeOf E).run P w = .ok k w) (hd : Nat.blt d n = true) (hx : evO fr x = some (.pointer (some ⟨b, o, none⟩))) : GV P n fr g L d (.slice T x none none none) ty ps af (.slice (some ⟨b, o, none⟩) N N) :=
  ⟨hd, fun a w hag _ => by
    simp [execOp, hag.evO hx, Instr.sliceAt, underlying, hu, hs, Instr.sureAddr, Instr.sliceBounds, add_none]⟩

theorem gv_indexStr {t : TypeId} {x y : Operand} {s : ByteArray} {kd : IntKind} {i : Int} {c : UInt8} (hu : P.underlying t = some .string) (hd : Nat.blt d n = true) (hx : evO fr x = some (.string s)) (hy : evO fr y = some (.int kd i))
    (h0 : 0 ≤ i) (hc : s[i.toNat]? = some c) : GV P n fr g L d (.index t x y) ty ps af (.int .u8 (c.toNat : Int)) :=
  ⟨hd, fun a w hag _ => by
    simp [execOp, hag.evO hx, hag.evO hy, Instr.index, asIntOf, underlying, hu, h0, hc]⟩

theorem gv_assertT {x : Operand} {xt T : TypeId} {td : TypeDesc} {v : Value} (hT : P.underlying T = some td) (hn : ∀ l, td ≠ .interface l) (hd : Nat.blt d n = true) (hx : evO fr x = some (.iface T v)) : GV P n fr g L d (.typeAssert x xt T false) ty ps af (v) :=
  ⟨hd, fun a' w hag hw => by
    cases td <;> first | exact absurd rfl (hn _) | simp [execOp, hag.evO hx, Instr.typeAssert, underlying, hT]⟩

theorem gv_add_ok {x y : Operand} {t yt : TypeId} {k : IntKind} {a b : Int} (hd : Nat.blt d n = true) (hx : evO fr x = some (.int k a)) (hy : evO fr y = some (.int k b)) (hr : InR k (a + b)) : GV P n fr g L d (.binOp .add t x y yt) ty ps af (.int k (a + b)) := by
  have h := gv_add (P := P) (g := g) (L := L) (t := t) (yt := yt) (ty := ty) (ps := ps) (af := af) hd hx hy
  unfold InR at hr
  rwa [hr] at h
theorem gv_sub_ok {x y : Operand} {t yt : TypeId} {k : IntKind} {a b : Int} (hd : Nat.blt d n = true) (hx : evO fr x = some (.int k a)) (hy : evO fr y = some (.int k b)) (hr : InR k (a - b)) : GV P n fr g L d (.binOp .sub t x y yt) ty ps af (.int k (a - b)) := by
  have h := gv_sub (P := P) (g := g) (L := L) (t := t) (yt := yt) (ty := ty) (ps := ps) (af := af) hd hx hy
  unfold InR at hr
  rwa [hr] at h
theorem gv_mul_ok {x y : Operand} {t yt : TypeId} {k : IntKind} {a b : Int} (hd : Nat.blt d n = true) (hx : evO fr x = some (.int k a)) (hy : evO fr y = some (.int k b)) (hr : InR k (a * b)) : GV P n fr g L d (.binOp .mul t x y yt) ty ps af (.int k (a * b)) := by
  have h := gv_mul (P := P) (g := g) (L := L) (t := t) (yt := yt) (ty := ty) (ps := ps) (af := af) hd hx hy
  unfold InR at hr
  rwa [hr] at h
theorem gv_conv_ok {x : Operand} {src dst : TypeId} {td : TypeDesc} {k k0 : IntKind} {a : Int} (hus : P.underlying src = some td) (hud : P.underlying dst = some (.int k)) (hd : Nat.blt d n = true)
    (hx : evO fr x = some (.int k0 a)) (hr : InR k a) : GV P n fr g L d (.convert src dst x) ty ps af (.int k a) := gv_conv hus hud hd hx hr
theorem gv_pickB {c x y : Operand} {t a b : Bool} (hd : Nat.blt d n = true) (hc : evO fr c = some (.bool t)) (hx : evO fr x = some (.bool a)) (hy : evO fr y = some (.bool b)) : GV P n fr g L d (.pick c x y) ty ps af (.bool (bif t then a else b)) :=
  gv_pick hd hc hx hy (r := .bool (bif t then a else b)) (by cases t <;> rfl)
theorem gv_lenRd {ats : Array TypeId} {T E : TypeId} {x : Operand} {v : Value} {k m : Nat} {xs : List Value} (hat : ats[0]? = some T) (hu : P.underlying T = some (.slice E)) (hd : Nat.blt d n = true) (hx : evO fr x = some v) (hR : RdIn g L v k m xs) :
    GV P n fr g L d (.call ⟨.builtin .len, #[x], ats⟩) ty ps af (.int .i64 (m : Int)) := by
  obtain ⟨a, cap, rfl, _⟩ := hR.form
  exact gv_len hat hu hd hx

end
end Go.Hb
/-
  This program's own facts: where fields lie, what its slice types hold, what its struct literals come to. Written by a program of this repo.
-/
namespace Go.Proofs.YthodbnmeggkkoaaGreatDoor
open Go Go.Hb Go.Proofs
theorem Tryz.mixed : Tryz.prog.follows .mixedOrders = true := by kernel_rfl
theorem fv_38_1 : FieldOne Tryz.prog 38 1 1 := fun cs v w h => by simp [Instr.field, go_sem, part, asAgg, h]
theorem slt_22 : SlT Tryz.prog 22 46 6 72 (.agg #[(.int .u64 0), (.int .i64 0), (.slice none 0 0), (.slice none 0 0), (.int .u32 0), (.int .u32 0)]) := SlT.mk' Tryz.underlying22 (by kernel_rfl) rfl (by decide)
theorem slt_31 : SlT Tryz.prog 31 44 2 8 (.agg #[(.int .u32 0), (.int .u32 0)]) := SlT.mk' Tryz.underlying31 (by kernel_rfl) rfl (by decide)
theorem fo_53_4 : FieldOff Tryz.prog 53 4 4 := fun b o w => by simp [Instr.fieldAt, go_sem, fieldPlace, Instr.sureAddr, add_none]
theorem fo_53_1 : FieldOff Tryz.prog 53 1 1 := fun b o w => by simp [Instr.fieldAt, go_sem, fieldPlace, Instr.sureAddr, add_none]
theorem slt_50 : SlT Tryz.prog 50 57 9 88 (.agg #[(.int .u32 0), (.int .u32 0), (.int .i64 0), (.int .u64 0), (.int .i64 0), (.slice none 0 0), (.slice none 0 0), (.int .u32 0), (.int .u32 0)]) := SlT.mk' Tryz.underlying50 (by kernel_rfl) rfl (by decide)
theorem fo_57_2 : FieldOff Tryz.prog 57 2 3 := fun b o w => by simp [Instr.fieldAt, go_sem, fieldPlace, Instr.sureAddr, add_none]
theorem fo_46_0 : FieldOff Tryz.prog 46 0 0 := fun b o w => by simp [Instr.fieldAt, go_sem, fieldPlace, Instr.sureAddr, add_none]
theorem fo_57_0 : FieldOff Tryz.prog 57 0 0 := fun b o w => by simp [Instr.fieldAt, go_sem, fieldPlace, Instr.sureAddr, add_none]
theorem slt_51 : SlT Tryz.prog 51 3 1 8 (.int .i64 0) := SlT.mk' Tryz.underlying51 (by kernel_rfl) rfl (by decide)
theorem fo_53_2 : FieldOff Tryz.prog 53 2 2 := fun b o w => by simp [Instr.fieldAt, go_sem, fieldPlace, Instr.sureAddr, add_none]
theorem fo_53_3 : FieldOff Tryz.prog 53 3 3 := fun b o w => by simp [Instr.fieldAt, go_sem, fieldPlace, Instr.sureAddr, add_none]
theorem slt_42 : SlT Tryz.prog 42 5 1 1 (.int .u8 0) := SlT.mk' Tryz.underlying42 (by kernel_rfl) rfl (by decide)
theorem build_46_0_1_2 {x0_0 x1_0 x2_0 : Value} (h_x0_0 : x0_0.cells = #[x0_0]) (h_x1_0 : x1_0.cells = #[x1_0]) (h_x2_0 : x2_0.cells = #[x2_0]) : BuildV Tryz.prog 46 [(0, x0_0), (1, x1_0), (2, x2_0)] [x0_0, x1_0, x2_0, (.slice none 0 0), (.int .u32 0), (.int .u32 0)] := build_struct (places := [(0, 1), (1, 1), (2, 1), (3, 1), (4, 2)]) (cparts := [(0, [x0_0]), (1, [x1_0]), (2, [x2_0])]) Tryz.underlying46 Tryz.zeroValue46 (by kernel_rfl) (by simp only [List.map_cons, List.map_nil, cells_agg, h_x0_0, h_x1_0, h_x2_0]) rfl
theorem build_74_0_1_2_5 {x0_0 x1_0 x2_0 x5_0 : Value} (h_x0_0 : x0_0.cells = #[x0_0]) (h_x1_0 : x1_0.cells = #[x1_0]) (h_x2_0 : x2_0.cells = #[x2_0]) (h_x5_0 : x5_0.cells = #[x5_0]) : BuildV Tryz.prog 74 [(0, x0_0), (1, x1_0), (2, x2_0), (5, x5_0)] [x0_0, x1_0, x2_0, (.bool false), (.int .i64 0), x5_0] := build_struct (places := [(0, 1), (1, 1), (2, 1), (3, 1), (4, 1), (5, 1)]) (cparts := [(0, [x0_0]), (1, [x1_0]), (2, [x2_0]), (5, [x5_0])]) Tryz.underlying74 Tryz.zeroValue74 (by kernel_rfl) (by simp only [List.map_cons, List.map_nil, cells_agg, h_x0_0, h_x1_0, h_x2_0, h_x5_0]) rfl
theorem build_44_0_1 {x0_0 x1_0 : Value} (h_x0_0 : x0_0.cells = #[x0_0]) (h_x1_0 : x1_0.cells = #[x1_0]) : BuildV Tryz.prog 44 [(0, x0_0), (1, x1_0)] [x0_0, x1_0] := build_struct (places := [(0, 1), (1, 1)]) (cparts := [(0, [x0_0]), (1, [x1_0])]) Tryz.underlying44 Tryz.zeroValue44 (by kernel_rfl) (by simp only [List.map_cons, List.map_nil, cells_agg, h_x0_0, h_x1_0]) rfl
theorem fo_79_0 : FieldOff Tryz.prog 79 0 0 := fun b o w => by simp [Instr.fieldAt, go_sem, fieldPlace, Instr.sureAddr, add_none]
theorem fo_79_1 : FieldOff Tryz.prog 79 1 1 := fun b o w => by simp [Instr.fieldAt, go_sem, fieldPlace, Instr.sureAddr, add_none]
theorem fo_38_0 : FieldOff Tryz.prog 38 0 0 := fun b o w => by simp [Instr.fieldAt, go_sem, fieldPlace, Instr.sureAddr, add_none]
theorem fo_38_4 : FieldOff Tryz.prog 38 4 4 := fun b o w => by simp [Instr.fieldAt, go_sem, fieldPlace, Instr.sureAddr, add_none]
theorem fo_79_2 : FieldOff Tryz.prog 79 2 6 := fun b o w => by simp [Instr.fieldAt, go_sem, fieldPlace, Instr.sureAddr, add_none]
theorem build_38_   : BuildV Tryz.prog 38 [] [(.int .u32 0), (.int .u32 0), (.int .u32 0), (.int .u64 0), (.int .u64 0)] := build_struct (places := [(0, 1), (1, 1), (2, 1), (3, 1), (4, 1)]) (cparts := []) Tryz.underlying38 Tryz.zeroValue38 (by kernel_rfl) (by simp only [List.map_cons, List.map_nil, cells_agg]) rfl
theorem build_46_   : BuildV Tryz.prog 46 [] [(.int .u64 0), (.int .i64 0), (.slice none 0 0), (.slice none 0 0), (.int .u32 0), (.int .u32 0)] := build_struct (places := [(0, 1), (1, 1), (2, 1), (3, 1), (4, 2)]) (cparts := []) Tryz.underlying46 Tryz.zeroValue46 (by kernel_rfl) (by simp only [List.map_cons, List.map_nil, cells_agg]) rfl
theorem fo_44_0 : FieldOff Tryz.prog 44 0 0 := fun b o w => by simp [Instr.fieldAt, go_sem, fieldPlace, Instr.sureAddr, add_none]
theorem fo_44_1 : FieldOff Tryz.prog 44 1 1 := fun b o w => by simp [Instr.fieldAt, go_sem, fieldPlace, Instr.sureAddr, add_none]
theorem fo_38_1 : FieldOff Tryz.prog 38 1 1 := fun b o w => by simp [Instr.fieldAt, go_sem, fieldPlace, Instr.sureAddr, add_none]
theorem fo_46_1 : FieldOff Tryz.prog 46 1 1 := fun b o w => by simp [Instr.fieldAt, go_sem, fieldPlace, Instr.sureAddr, add_none]
theorem fo_46_4 : FieldOff Tryz.prog 46 4 4 := fun b o w => by simp [Instr.fieldAt, go_sem, fieldPlace, Instr.sureAddr, add_none]
theorem fo_46_2 : FieldOff Tryz.prog 46 2 2 := fun b o w => by simp [Instr.fieldAt, go_sem, fieldPlace, Instr.sureAddr, add_none]
theorem fo_46_3 : FieldOff Tryz.prog 46 3 3 := fun b o w => by simp [Instr.fieldAt, go_sem, fieldPlace, Instr.sureAddr, add_none]
theorem build_53_   : BuildV Tryz.prog 53 [] [(.int .u32 0), (.slice none 0 0), (.slice none 0 0), (.int .i64 0), (.int .i64 0)] := build_struct (places := [(0, 1), (1, 1), (2, 1), (3, 1), (4, 1)]) (cparts := []) Tryz.underlying53 Tryz.zeroValue53 (by kernel_rfl) (by simp only [List.map_cons, List.map_nil, cells_agg]) rfl
theorem build_44_   : BuildV Tryz.prog 44 [] [(.int .u32 0), (.int .u32 0)] := build_struct (places := [(0, 1), (1, 1)]) (cparts := []) Tryz.underlying44 Tryz.zeroValue44 (by kernel_rfl) (by simp only [List.map_cons, List.map_nil, cells_agg]) rfl
theorem fo_38_2 : FieldOff Tryz.prog 38 2 2 := fun b o w => by simp [Instr.fieldAt, go_sem, fieldPlace, Instr.sureAddr, add_none]
theorem fo_38_3 : FieldOff Tryz.prog 38 3 3 := fun b o w => by simp [Instr.fieldAt, go_sem, fieldPlace, Instr.sureAddr, add_none]
theorem fo_74_0 : FieldOff Tryz.prog 74 0 0 := fun b o w => by simp [Instr.fieldAt, go_sem, fieldPlace, Instr.sureAddr, add_none]
theorem slt_104 : SlT Tryz.prog 104 36 1 8 (.int .u64 0) := SlT.mk' Tryz.underlying104 (by kernel_rfl) rfl (by decide)
theorem fo_74_1 : FieldOff Tryz.prog 74 1 1 := fun b o w => by simp [Instr.fieldAt, go_sem, fieldPlace, Instr.sureAddr, add_none]
theorem fo_74_3 : FieldOff Tryz.prog 74 3 3 := fun b o w => by simp [Instr.fieldAt, go_sem, fieldPlace, Instr.sureAddr, add_none]
theorem fo_74_5 : FieldOff Tryz.prog 74 5 5 := fun b o w => by simp [Instr.fieldAt, go_sem, fieldPlace, Instr.sureAddr, add_none]
theorem build_79_0_1_2 {x0_0 x1_0 x1_1 x1_2 x1_3 x1_4 x2_0 : Value} (h_x0_0 : x0_0.cells = #[x0_0]) (h_x2_0 : x2_0.cells = #[x2_0]) : BuildV Tryz.prog 79 [(0, x0_0), (1, .agg #[x1_0, x1_1, x1_2, x1_3, x1_4]), (2, x2_0)] [x0_0, x1_0, x1_1, x1_2, x1_3, x1_4, x2_0] := build_struct (places := [(0, 1), (1, 5), (6, 1)]) (cparts := [(0, [x0_0]), (1, [x1_0, x1_1, x1_2, x1_3, x1_4]), (2, [x2_0])]) Tryz.underlying79 Tryz.zeroValue79 (by kernel_rfl) (by simp only [List.map_cons, List.map_nil, cells_agg, h_x0_0, h_x2_0]) rfl
theorem fo_53_0 : FieldOff Tryz.prog 53 0 0 := fun b o w => by simp [Instr.fieldAt, go_sem, fieldPlace, Instr.sureAddr, add_none]
theorem build_38_0_1_2_4 {x0_0 x1_0 x2_0 x4_0 : Value} (h_x0_0 : x0_0.cells = #[x0_0]) (h_x1_0 : x1_0.cells = #[x1_0]) (h_x2_0 : x2_0.cells = #[x2_0]) (h_x4_0 : x4_0.cells = #[x4_0]) : BuildV Tryz.prog 38 [(0, x0_0), (1, x1_0), (2, x2_0), (4, x4_0)] [x0_0, x1_0, x2_0, (.int .u64 0), x4_0] := build_struct (places := [(0, 1), (1, 1), (2, 1), (3, 1), (4, 1)]) (cparts := [(0, [x0_0]), (1, [x1_0]), (2, [x2_0]), (4, [x4_0])]) Tryz.underlying38 Tryz.zeroValue38 (by kernel_rfl) (by simp only [List.map_cons, List.map_nil, cells_agg, h_x0_0, h_x1_0, h_x2_0, h_x4_0]) rfl
theorem build_115_0_1 {x0_0 x1_0 : Value} (h_x0_0 : x0_0.cells = #[x0_0]) (h_x1_0 : x1_0.cells = #[x1_0]) : BuildV Tryz.prog 115 [(0, x0_0), (1, x1_0)] [x0_0, x1_0, (.slice none 0 0), (.int .u64 0)] := build_struct (places := [(0, 1), (1, 1), (2, 1), (3, 1)]) (cparts := [(0, [x0_0]), (1, [x1_0])]) Tryz.underlying115 Tryz.zeroValue115 (by kernel_rfl) (by simp only [List.map_cons, List.map_nil, cells_agg, h_x0_0, h_x1_0]) rfl
theorem build_121_0_1_2_3 {x0_0 x1_0 x2_0 x3_0 : Value} (h_x0_0 : x0_0.cells = #[x0_0]) (h_x1_0 : x1_0.cells = #[x1_0]) (h_x2_0 : x2_0.cells = #[x2_0]) (h_x3_0 : x3_0.cells = #[x3_0]) : BuildV Tryz.prog 121 [(0, x0_0), (1, x1_0), (2, x2_0), (3, x3_0)] [x0_0, x1_0, x2_0, x3_0] := build_array (sz := 1) (cparts := [(0, [x0_0]), (1, [x1_0]), (2, [x2_0]), (3, [x3_0])]) Tryz.underlying121 Tryz.zeroValue121 Tryz.sizeOf35 (by simp only [List.map_cons, List.map_nil, cells_agg, h_x0_0, h_x1_0, h_x2_0, h_x3_0]) rfl rfl
theorem build_38_0_1 {x0_0 x1_0 : Value} (h_x0_0 : x0_0.cells = #[x0_0]) (h_x1_0 : x1_0.cells = #[x1_0]) : BuildV Tryz.prog 38 [(0, x0_0), (1, x1_0)] [x0_0, x1_0, (.int .u32 0), (.int .u64 0), (.int .u64 0)] := build_struct (places := [(0, 1), (1, 1), (2, 1), (3, 1), (4, 1)]) (cparts := [(0, [x0_0]), (1, [x1_0])]) Tryz.underlying38 Tryz.zeroValue38 (by kernel_rfl) (by simp only [List.map_cons, List.map_nil, cells_agg, h_x0_0, h_x1_0]) rfl
theorem build_79_0_1 {x0_0 x1_0 x1_1 x1_2 x1_3 x1_4 : Value} (h_x0_0 : x0_0.cells = #[x0_0]) : BuildV Tryz.prog 79 [(0, x0_0), (1, .agg #[x1_0, x1_1, x1_2, x1_3, x1_4])] [x0_0, x1_0, x1_1, x1_2, x1_3, x1_4, (.int .u64 0)] := build_struct (places := [(0, 1), (1, 5), (6, 1)]) (cparts := [(0, [x0_0]), (1, [x1_0, x1_1, x1_2, x1_3, x1_4])]) Tryz.underlying79 Tryz.zeroValue79 (by kernel_rfl) (by simp only [List.map_cons, List.map_nil, cells_agg, h_x0_0]) rfl
theorem fo_124_2 : FieldOff Tryz.prog 124 2 2 := fun b o w => by simp [Instr.fieldAt, go_sem, fieldPlace, Instr.sureAddr, add_none]
theorem slt_122 : SlT Tryz.prog 122 160 1 16 .nilIface := SlT.mk' Tryz.underlying122 (by kernel_rfl) rfl (by decide)
theorem fo_124_1 : FieldOff Tryz.prog 124 1 1 := fun b o w => by simp [Instr.fieldAt, go_sem, fieldPlace, Instr.sureAddr, add_none]
theorem build_53_0 {x0_0 : Value} (h_x0_0 : x0_0.cells = #[x0_0]) : BuildV Tryz.prog 53 [(0, x0_0)] [x0_0, (.slice none 0 0), (.slice none 0 0), (.int .i64 0), (.int .i64 0)] := build_struct (places := [(0, 1), (1, 1), (2, 1), (3, 1), (4, 1)]) (cparts := [(0, [x0_0])]) Tryz.underlying53 Tryz.zeroValue53 (by kernel_rfl) (by simp only [List.map_cons, List.map_nil, cells_agg, h_x0_0]) rfl
theorem build_143_0_1_2_3_4_5 {x0_0 x1_0 x2_0 x3_0 x4_0 x5_0 : Value} (h_x0_0 : x0_0.cells = #[x0_0]) (h_x1_0 : x1_0.cells = #[x1_0]) (h_x2_0 : x2_0.cells = #[x2_0]) (h_x3_0 : x3_0.cells = #[x3_0]) (h_x4_0 : x4_0.cells = #[x4_0]) (h_x5_0 : x5_0.cells = #[x5_0]) : BuildV Tryz.prog 143 [(0, x0_0), (1, x1_0), (2, x2_0), (3, x3_0), (4, x4_0), (5, x5_0)] [x0_0, x1_0, x2_0, x3_0, x4_0, x5_0] := build_array (sz := 1) (cparts := [(0, [x0_0]), (1, [x1_0]), (2, [x2_0]), (3, [x3_0]), (4, [x4_0]), (5, [x5_0])]) Tryz.underlying143 Tryz.zeroValue143 Tryz.sizeOf36 (by simp only [List.map_cons, List.map_nil, cells_agg, h_x0_0, h_x1_0, h_x2_0, h_x3_0, h_x4_0, h_x5_0]) rfl rfl
theorem fo_115_2 : FieldOff Tryz.prog 115 2 2 := fun b o w => by simp [Instr.fieldAt, go_sem, fieldPlace, Instr.sureAddr, add_none]
theorem slt_113 : SlT Tryz.prog 113 150 1 8 .nilFunc := SlT.mk' Tryz.underlying113 (by kernel_rfl) rfl (by decide)
theorem fo_115_0 : FieldOff Tryz.prog 115 0 0 := fun b o w => by simp [Instr.fieldAt, go_sem, fieldPlace, Instr.sureAddr, add_none]
theorem fo_115_1 : FieldOff Tryz.prog 115 1 1 := fun b o w => by simp [Instr.fieldAt, go_sem, fieldPlace, Instr.sureAddr, add_none]
theorem fo_124_0 : FieldOff Tryz.prog 124 0 0 := fun b o w => by simp [Instr.fieldAt, go_sem, fieldPlace, Instr.sureAddr, add_none]
theorem fo_133_1 : FieldOff Tryz.prog 133 1 1 := fun b o w => by simp [Instr.fieldAt, go_sem, fieldPlace, Instr.sureAddr, add_none]
theorem build_46_0_1_4 {x0_0 x1_0 x4_0 x4_1 : Value} (h_x0_0 : x0_0.cells = #[x0_0]) (h_x1_0 : x1_0.cells = #[x1_0]) : BuildV Tryz.prog 46 [(0, x0_0), (1, x1_0), (4, .agg #[x4_0, x4_1])] [x0_0, x1_0, (.slice none 0 0), (.slice none 0 0), x4_0, x4_1] := build_struct (places := [(0, 1), (1, 1), (2, 1), (3, 1), (4, 2)]) (cparts := [(0, [x0_0]), (1, [x1_0]), (4, [x4_0, x4_1])]) Tryz.underlying46 Tryz.zeroValue46 (by kernel_rfl) (by simp only [List.map_cons, List.map_nil, cells_agg, h_x0_0, h_x1_0]) rfl
theorem build_57_0_1_2 {x0_0 x0_1 x1_0 x2_0 x2_1 x2_2 x2_3 x2_4 x2_5 : Value} (h_x1_0 : x1_0.cells = #[x1_0]) : BuildV Tryz.prog 57 [(0, .agg #[x0_0, x0_1]), (1, x1_0), (2, .agg #[x2_0, x2_1, x2_2, x2_3, x2_4, x2_5])] [x0_0, x0_1, x1_0, x2_0, x2_1, x2_2, x2_3, x2_4, x2_5] := build_struct (places := [(0, 2), (2, 1), (3, 6)]) (cparts := [(0, [x0_0, x0_1]), (1, [x1_0]), (2, [x2_0, x2_1, x2_2, x2_3, x2_4, x2_5])]) Tryz.underlying57 Tryz.zeroValue57 (by kernel_rfl) (by simp only [List.map_cons, List.map_nil, cells_agg, h_x1_0]) rfl
theorem fo_74_2 : FieldOff Tryz.prog 74 2 2 := fun b o w => by simp [Instr.fieldAt, go_sem, fieldPlace, Instr.sureAddr, add_none]
theorem slt_192 : SlT Tryz.prog 192 195 2 24 (.agg #[(.string .empty), (.int .u64 0)]) := SlT.mk' Tryz.underlying192 (by kernel_rfl) rfl (by decide)
theorem fo_195_1 : FieldOff Tryz.prog 195 1 1 := fun b o w => by simp [Instr.fieldAt, go_sem, fieldPlace, Instr.sureAddr, add_none]
theorem fo_74_4 : FieldOff Tryz.prog 74 4 4 := fun b o w => by simp [Instr.fieldAt, go_sem, fieldPlace, Instr.sureAddr, add_none]
theorem fo_115_3 : FieldOff Tryz.prog 115 3 3 := fun b o w => by simp [Instr.fieldAt, go_sem, fieldPlace, Instr.sureAddr, add_none]
theorem build_124_0_1 {x0_0 x1_0 : Value} (h_x0_0 : x0_0.cells = #[x0_0]) (h_x1_0 : x1_0.cells = #[x1_0]) : BuildV Tryz.prog 124 [(0, x0_0), (1, x1_0)] [x0_0, x1_0, (.slice none 0 0)] := build_struct (places := [(0, 1), (1, 1), (2, 1)]) (cparts := [(0, [x0_0]), (1, [x1_0])]) Tryz.underlying124 Tryz.zeroValue124 (by kernel_rfl) (by simp only [List.map_cons, List.map_nil, cells_agg, h_x0_0, h_x1_0]) rfl
theorem fo_133_0 : FieldOff Tryz.prog 133 0 0 := fun b o w => by simp [Instr.fieldAt, go_sem, fieldPlace, Instr.sureAddr, add_none]
theorem build_185_0_1_2_3 {x0_0 x1_0 x2_0 x3_0 : Value} (h_x0_0 : x0_0.cells = #[x0_0]) (h_x1_0 : x1_0.cells = #[x1_0]) (h_x2_0 : x2_0.cells = #[x2_0]) (h_x3_0 : x3_0.cells = #[x3_0]) : BuildV Tryz.prog 185 [(0, x0_0), (1, x1_0), (2, x2_0), (3, x3_0)] [x0_0, x1_0, x2_0, x3_0] := build_array (sz := 1) (cparts := [(0, [x0_0]), (1, [x1_0]), (2, [x2_0]), (3, [x3_0])]) Tryz.underlying185 Tryz.zeroValue185 Tryz.sizeOf5 (by simp only [List.map_cons, List.map_nil, cells_agg, h_x0_0, h_x1_0, h_x2_0, h_x3_0]) rfl rfl
theorem slt_218 : SlT Tryz.prog 218 9 1 16 (.string .empty) := SlT.mk' Tryz.underlying218 (by kernel_rfl) rfl (by decide)
theorem build_195_0_1 {x0_0 x1_0 : Value} (h_x0_0 : x0_0.cells = #[x0_0]) (h_x1_0 : x1_0.cells = #[x1_0]) : BuildV Tryz.prog 195 [(0, x0_0), (1, x1_0)] [x0_0, x1_0] := build_struct (places := [(0, 1), (1, 1)]) (cparts := [(0, [x0_0]), (1, [x1_0])]) Tryz.underlying195 Tryz.zeroValue195 (by kernel_rfl) (by simp only [List.map_cons, List.map_nil, cells_agg, h_x0_0, h_x1_0]) rfl
theorem build_235_0_1_2 {x0_0 x1_0 x2_0 : Value} (h_x0_0 : x0_0.cells = #[x0_0]) (h_x1_0 : x1_0.cells = #[x1_0]) (h_x2_0 : x2_0.cells = #[x2_0]) : BuildV Tryz.prog 235 [(0, x0_0), (1, x1_0), (2, x2_0)] [x0_0, x1_0, x2_0] := build_struct (places := [(0, 1), (1, 1), (2, 1)]) (cparts := [(0, [x0_0]), (1, [x1_0]), (2, [x2_0])]) Tryz.underlying235 Tryz.zeroValue235 (by kernel_rfl) (by simp only [List.map_cons, List.map_nil, cells_agg, h_x0_0, h_x1_0, h_x2_0]) rfl
theorem build_247_0 {x0_0 : Value} (h_x0_0 : x0_0.cells = #[x0_0]) : BuildV Tryz.prog 247 [(0, x0_0)] [x0_0] := build_struct (places := [(0, 1)]) (cparts := [(0, [x0_0])]) Tryz.underlying247 Tryz.zeroValue247 (by kernel_rfl) (by simp only [List.map_cons, List.map_nil, cells_agg, h_x0_0]) rfl
theorem slt_196 : SlT Tryz.prog 196 5 1 1 (.int .u8 0) := SlT.mk' Tryz.underlying196 (by kernel_rfl) rfl (by decide)
theorem build_145_0_1_2_3_4_5 {x0_0 x1_0 x2_0 x3_0 x4_0 x5_0 : Value} (h_x0_0 : x0_0.cells = #[x0_0]) (h_x1_0 : x1_0.cells = #[x1_0]) (h_x2_0 : x2_0.cells = #[x2_0]) (h_x3_0 : x3_0.cells = #[x3_0]) (h_x4_0 : x4_0.cells = #[x4_0]) (h_x5_0 : x5_0.cells = #[x5_0]) : BuildV Tryz.prog 145 [(0, x0_0), (1, x1_0), (2, x2_0), (3, x3_0), (4, x4_0), (5, x5_0)] [x0_0, x1_0, x2_0, x3_0, x4_0, x5_0] := build_array (sz := 1) (cparts := [(0, [x0_0]), (1, [x1_0]), (2, [x2_0]), (3, [x3_0]), (4, [x4_0]), (5, [x5_0])]) Tryz.underlying145 Tryz.zeroValue145 Tryz.sizeOf3 (by simp only [List.map_cons, List.map_nil, cells_agg, h_x0_0, h_x1_0, h_x2_0, h_x3_0, h_x4_0, h_x5_0]) rfl rfl
end Go.Proofs.YthodbnmeggkkoaaGreatDoor
/-
  Ends of proofs (pieces taken out of pieces); an owned slice laid open; maps (generic in the program).
-/
namespace Go.Hb
open Go Go.RowKit

/-- A's pieces lie among L's. -/
def Sl (L A : List HP) : Prop := ∃ B, L.Perm (B ++ A)
theorem Sl.refl (L : List HP) : Sl L L := ⟨[], .refl _⟩
theorem Sl.skip {Q : HP} {L A : List HP} (h : Sl L A) : Sl (Q :: L) A := let ⟨B, h⟩ := h; ⟨Q :: B, h.cons Q⟩
theorem Sl.pick (i : Nat) {Q : HP} {L A : List HP} (hi : L[i]? = some Q) (h : Sl (L.eraseIdx i) A) : Sl L (Q :: A) :=
  let ⟨B, h⟩ := h
  ⟨B, (perm_at hi).trans ((h.cons Q).trans List.perm_middle.symm)⟩
theorem St.sl {g w : World} {L A : List HP} (h : St g w L) (p : Sl L A) : St g w A := let ⟨B, p⟩ := p; h.without B p
theorem RCs.sl {P : Program} {f : FuncId} {vs : List Value} {g : World} {L L' : List HP} {k : Value → World → Prop} (p : Sl L L') (h : RCs P f vs g L' k) : RCs P f vs g L k := fun w hw => h w (hw.sl p)

theorem KSs_go {g w : World} {L : List HP} {k : World → Prop} (hS : St g w L) (h : KSs g L k) : k w := h w hS
section
variable {P : Program} {n : Nat} {fr : Fr} {g : World} {L : List HP} {K : Fr → World → Prop} {X : Ks} {ops : Array Oper}
variable {d : Nat} {ty : TypeId} {ps : String} {af : Array Edge} {rest : List Oper}

theorem St.open_own {w : World} (i : Nat) {T k m : Nat} {v : Value} {xs : List Value} (hw : St g w L) (hi : L[i]? = some (own T k v m xs)) (hm : 0 < m) :
    ∃ (b cap : Nat) (cur : List Value), v = .slice (some ⟨b, 0, none⟩) m cap ∧ m ≤ cap ∧ cap ≤ maxLen ∧ cur.length = cap * k ∧ cur.take (m * k) = xs ∧ St g w (L.set i (pt b (.cells cur.toArray T (0, 0)))) := by
  have h1 := hw.perm (perm_at hi)
  have hil : i < L.length := by
    rcases Nat.lt_or_ge i L.length with h | h
    · exact h
    · rw [List.getElem?_eq_none h] at hi; cases hi
  obtain ⟨_, _, hdj, ⟨hl, hv⟩, _⟩ := h1.sat
  rcases hv with ⟨_, h0⟩ | ⟨b, cap, cur, hv, h2, h3, h4, h5, h6⟩
  · omega
  · refine ⟨b, cap, cur, hv, h2, h3, h4, h5, ?_⟩
    have h7 : St g w ((fun h => ∃ (b cap : Nat) (cur : List Value), v = .slice (some ⟨b, 0, none⟩) m cap ∧ m ≤ cap ∧ cap ≤ maxLen ∧ cur.length = cap * k ∧ cur.take (m * k) = xs ∧ h b = some (.cells cur.toArray T (0, 0))) :: L.eraseIdx i) := h1.imp fun h hh => by
      rcases hh.2 with ⟨_, h0⟩ | h
      · omega
      · exact h
    -- the block is the one that v names
    have h8 : St g w (pt b (.cells cur.toArray T (0, 0)) :: L.eraseIdx i) := by
      obtain ⟨b', h7⟩ := St.ex h7
      obtain ⟨cap', h7⟩ := St.ex h7
      obtain ⟨cur', h7⟩ := St.ex h7
      obtain ⟨e1, h7⟩ := St.pure h7
      rw [hv] at e1
      cases e1
      have h9 : St g w (pt b (.cells cur'.toArray T (0, 0)) :: L.eraseIdx i) := h7.imp fun h hh => hh.2.2.2.2
      have ha : newH g w b = some (.cells cur'.toArray T (0, 0)) := Sat.at h9.sat
      have hb : newH g w b = some (.cells cur.toArray T (0, 0)) := by
        rcases hdj b with ⟨e, _⟩ | ⟨e, _⟩
        · rw [← e]; exact h6
        · rw [e] at h6; cases h6
      rw [ha] at hb
      rw [← Option.some.inj hb]
      exact h9
    exact h8.perm (perm_set (P := pt b (.cells cur.toArray T (0, 0))) hil)

theorem s_pickH_t {c x y : Operand} {b : Bool} {v : Value} (hd : Nat.blt d n = true) (hc : evO fr c = some (.bool b)) (hb : b = true) (hx : evO fr x = some v) {rest : List Oper}
    (h : SXs P n ops rest ((d, v) :: fr) g L K X) : SXs P n ops (⟨some d, .pick c x y, ty, ps, af, none⟩ :: rest) fr g L K X := by
  subst hb
  exact s_pick_t hd hc hx h
theorem s_pickH_f {c x y : Operand} {b : Bool} {v : Value} (hd : Nat.blt d n = true) (hc : evO fr c = some (.bool b)) (hb : b = false) (hy : evO fr y = some v) {rest : List Oper}
    (h : SXs P n ops rest ((d, v) :: fr) g L K X) : SXs P n ops (⟨some d, .pick c x y, ty, ps, af, none⟩ :: rest) fr g L K X := by
  subst hb
  exact s_pick_f hd hc hy h
theorem RCs_form (i : Nat) {T k m : Nat} {v : Value} {xs : List Value} {f : FuncId} {vs : List Value} {q : Value → World → Prop} (hi : L[i]? = some (own T k v m xs)) (h : ∀ a c, v = .slice a m c → RCs P f vs g L q) : RCs P f vs g L q :=
  fun w hw => by
    obtain ⟨a, c, e, _⟩ := own_form hw hi
    exact h a c e w hw
theorem SXs_open (i : Nat) {T k m : Nat} {v : Value} {xs : List Value} {l : List Oper} (hi : L[i]? = some (own T k v m xs)) (hm : 0 < m)
    (h : ∀ (b cap : Nat) (cur : List Value), v = .slice (some ⟨b, 0, none⟩) m cap → m ≤ cap → cap ≤ maxLen → cur.length = cap * k → cur.take (m * k) = xs → SXs P n ops l fr g (L.set i (pt b (.cells cur.toArray T (0, 0)))) K X) : SXs P n ops l fr g L K X := fun w hw => by
  obtain ⟨b, cap, cur, h1, h2, h3, h4, h5, h6⟩ := hw.open_own i hi hm
  exact h b cap cur h1 h2 h3 h4 h5 w h6
theorem WPs_open (i : Nat) {T k m : Nat} {v : Value} {xs : List Value} {c : Code} (hi : L[i]? = some (own T k v m xs)) (hm : 0 < m)
    (h : ∀ (b cap : Nat) (cur : List Value), v = .slice (some ⟨b, 0, none⟩) m cap → m ≤ cap → cap ≤ maxLen → cur.length = cap * k → cur.take (m * k) = xs → WPs P n c fr g (L.set i (pt b (.cells cur.toArray T (0, 0)))) K X) : WPs P n c fr g L K X := fun w hw => by
  obtain ⟨b, cap, cur, h1, h2, h3, h4, h5, h6⟩ := hw.open_own i hi hm
  exact h b cap cur h1 h2 h3 h4 h5 w h6

section
variable {T' : Nat → Bool} {L0 : List HP} {fuel : Nat} {listed : Array Bool}
theorem ex_sliceRd (i : Nat) {x : Operand} {lo hi : Option Operand} {T E k bytes : Nat} {z : Value} {gd : Option (Nat × Bool)} (hop : ops[i]? = some ⟨some d, .slice T x lo hi none, ty, ps, af, gd⟩) (hT : SlT P T E k bytes z) {vlo vhi : Option Value} {v : Value} {m l h' : Nat} {xs : List Value} (hd : Nat.blt d n = true) (hx : evO fr x = some v) (hR : RdIn g L0 v k m xs)
    (hlo : evOpt fr lo vlo) (hhi : evOpt fr hi vhi) (hl : vlo = some (.int .i64 (l : Int)) ∨ (vlo = none ∧ l = 0)) (hh : vhi = some (.int .i64 (h' : Int)) ∨ (vhi = none ∧ h' = m)) (h1 : l ≤ h') (h2 : h' ≤ m)
    (h : ∀ va vc, RdIn g L0 (.slice va (h' - l) vc) k (h' - l) ((xs.drop (l * k)).take ((h' - l) * k)) → GV P n fr g L0 d (.slice T x lo hi none) ty ps af (.slice va (h' - l) vc) → SXT P n ops T' L0 fuel listed fr g L K X) : SXT P n ops T' L0 fuel listed fr g L K X := by
  obtain ⟨hlen, hmx, hv⟩ := hR
  have hlen' : ((xs.drop (l * k)).take ((h' - l) * k)).length = (h' - l) * k := by
    rw [List.length_take, List.length_drop, hlen, Nat.sub_mul]
    have := Nat.mul_le_mul_right k h2
    omega
  rcases hv with ⟨az, rfl, rfl⟩ | ⟨b, o, cap, rfl, hc, hcs⟩
  · have hl0 : l = 0 := by omega
    have hh0 : h' = 0 := by omega
    have hlz : h' - l = 0 := by omega
    have hX := h az 0 (by rw [hlz] at hlen' ⊢; exact ⟨hlen', by omega, .inl ⟨_, rfl, rfl⟩⟩)
    rw [hlz] at hX
    refine hX ⟨hd, fun a' w hag _ => ?_⟩
    have hr := run_slice hT (a := az) (m := 0) (cap := 0) hl hh h1 h2 w
    simp only [execOp, hag.evO hx, hag.evOpt hlo, hag.evOpt hhi, Option.map_none, Sem.run_bind, hr, Result.andThen_ok, Sem.run_pure]
    simp [hl0, hh0]
  · refine h (if cap = l then some ⟨b, o, none⟩ else some ⟨b, o + l * k, none⟩) (cap - l) ⟨hlen', by omega, .inr ?_⟩ ⟨hd, fun a' w hag _ => ?_⟩
    rotate_left
    · have hr := run_slice hT (a := some ⟨b, o, none⟩) (m := m) (cap := cap) hl hh h1 (by omega) w
      simp only [execOp, hag.evO hx, hag.evOpt hlo, hag.evOpt hhi, Option.map_none, Sem.run_bind, hr, Result.andThen_ok, Sem.run_pure, Option.map_some, add_none]
    · by_cases e : cap = l
      · refine ⟨b, o, cap - l, by simp [e], by omega, fun w hw j u hj => ?_⟩
        have : h' - l = 0 := by omega
        rw [this] at hj
        simp at hj
      · refine ⟨b, o + l * k, cap - l, by simp [e], by omega, fun w hw j u hj => ?_⟩
        rw [List.getElem?_take] at hj
        split at hj
        · rw [List.getElem?_drop] at hj
          have := hcs w hw _ u hj
          rwa [Nat.add_assoc]
        · cases hj

theorem ex_toArrRd (i : Nat) {T E k m N : Nat} {x : Operand} {v : Value} {xs : List Value} {gd : Option (Nat × Bool)} (hop : ops[i]? = some ⟨some d, .sliceToArrayPointer T x, ty, ps, af, gd⟩) (hu : P.underlying T = some (.array N E)) (hd : Nat.blt d n = true) (hx : evO fr x = some v) (hR : RdIn g L0 v k m xs) (h0 : 0 < N) (hN : N ≤ m)
    (h : ∀ b o, CellsIn g L0 b o xs → GV P n fr g L0 d (.sliceToArrayPointer T x) ty ps af (.pointer (some ⟨b, o, none⟩)) → SXT P n ops T' L0 fuel listed fr g L K X) : SXT P n ops T' L0 fuel listed fr g L K X := by
  obtain ⟨_, _, ⟨az, rfl, rfl⟩ | ⟨b, o, cap, rfl, hc, hcs⟩⟩ := hR
  · omega
  · exact h b o hcs (gv_toArr (k := k) hu hd hx hN)
theorem ex_idxRd (i : Nat) {T E k bytes : Nat} {z : Value} {x y : Operand} {v : Value} {m : Nat} {xs : List Value} {kd : IntKind} {j : Int} {gd : Option (Nat × Bool)} (hop : ops[i]? = some ⟨some d, .indexAddr T x y, ty, ps, af, gd⟩) (hT : SlT P T E k bytes z) (hd : Nat.blt d n = true) (hx : evO fr x = some v) (hR : RdIn g L0 v k m xs) (hy : evO fr y = some (.int kd j))
    (h0 : 0 ≤ j) (h1 : j < m) (h : ∀ b o, CellsIn g L0 b o ((xs.drop (j.toNat * k)).take k) → GV P n fr g L0 d (.indexAddr T x y) ty ps af (.pointer (some ⟨b, o, none⟩)) → SXT P n ops T' L0 fuel listed fr g L K X) : SXT P n ops T' L0 fuel listed fr g L K X := by
  obtain ⟨hl, _, ⟨az, rfl, rfl⟩ | ⟨b, o, cap, rfl, hc, hcs⟩⟩ := hR
  · omega
  · refine h b (o + j.toNat * k) (fun w hw q u hq => ?_) (gv_idx hT hd hx hy h0 h1)
    rw [List.getElem?_take] at hq
    split at hq
    · rw [List.getElem?_drop] at hq
      have := hcs w hw _ u hq
      rwa [Nat.add_assoc]
    · cases hq
end
end
end Go.Hb
/-
  A range over a function, over pieces of memory (generic in the program): the round, the call of yield, slices.AppendSeq over any iterator that keeps its word.
-/
namespace Go.Hb
open Go Go.RowKit

section
variable {P : Program} {n : Nat} {fr : Fr} {g : World} {L : List HP} {K : Fr → World → Prop} {X : Ks} {ops : Array Oper}

theorem wl_run {r : Option Nat} {Q : Exit → Act → World → Prop} {o : Oper} {rest : List Oper} {a : Act} {w w' : World} {v : Value} (hg : o.guard = none) (hnd : ∀ c, o.op ≠ .defer c)
    (hr : (execOp a.eval o).run P w = .ok (.value v) w') (h : wpListIn { Fence.wide with round := r } n P ops Q rest (a.put o.dst v) w') : wpListIn { Fence.wide with round := r } n P ops Q (o :: rest) a w := by
  unfold wpListIn
  rw [if_pos (by simp [Region.wanted, hg])]
  refine ⟨fun f _ => trivial, ?_⟩
  have e : o.semAt r a.eval = execOp a.eval o := by
    cases r with
    | none => rfl
    | some l => exact Oper.semAt_some l _ o hnd
  show Oper.uponIn _ n P o a _ Q ((o.semAt r a.eval).run P w)
  rw [e, hr]
  exact h

theorem wl_round {Q : Exit → Act → World → Prop} {o : Oper} {rest : List Oper} {a : Act} {w : World} {v : Value} {l : Nat} {f : FuncId} {tmps : Array Value} {assign body : Code} (hg : o.guard = none)
    (hr : (execOp a.eval o).run P w = .ok (.round l f tmps assign body) w)
    (h : RoundIn Fence.wide 0 P l f tmps assign body w (fun e w' => e = .returned v ∧ wpListIn Fence.wide 0 P ops Q rest (a.put o.dst v) w')) : wpListIn Fence.wide 0 P ops Q (o :: rest) a w := by
  unfold wpListIn
  rw [if_pos (by simp [Region.wanted, hg])]
  refine ⟨fun f _ => trivial, ?_⟩
  have e : o.semAt none a.eval = execOp a.eval o := rfl
  show Oper.uponIn _ 0 P o a _ Q ((o.semAt none a.eval).run P w)
  rw [e, hr]
  refine ⟨fun h => (by cases h), h.mono ?_⟩
  rintro e w' ⟨rfl, h⟩
  exact h

/-- A region's walk serves in a round's frame too, where no operation enters a row of the library's or defers. -/
theorem wpListIn_of {r : Nat} {Q : Exit → Act → World → Prop} (hQ : ¬ LetsOut Q) : ∀ {l : List Oper} {a : Act} {w : World}, (∀ o ∈ l, ∀ c, o.op ≠ .defer c) →
    wpList P ops Q l a w → wpListIn (Fence.wide.inRound r) n P ops Q l a w := by
  intro l
  induction l with
  | nil => exact fun _ h => h
  | cons o l ih =>
    intro a w hnd h
    unfold wpList at h
    unfold wpListIn
    have ih' := fun a w h => ih (a := a) (w := w) (fun o ho => hnd o (List.mem_cons_of_mem _ ho)) h
    split
    · rename_i hw
      rw [if_pos hw] at h
      rcases h with h | ⟨_, h⟩
      · refine ⟨fun f _ => trivial, ?_⟩
        have e : o.semAt (some r) a.eval = execOp a.eval o := Oper.semAt_some r _ o (hnd o List.mem_cons_self)
        show Oper.uponIn _ n P o a _ Q ((o.semAt (some r) a.eval).run P w)
        rw [e]
        unfold Oper.wp at h
        generalize (execOp a.eval o).run P w = rr at *
        cases rr with
        | ok nx w' =>
          cases nx <;> simp only [Oper.upon] at h <;> first
            | exact ih' _ _ h
            | (refine ⟨fun h => (by cases h), CallsIn.inRound r (callsIn_wide.2 (Calls.mono h (fun e w'' he => ?_)))⟩
               cases e with
               | returned v => exact ih' _ _ he
               | panicked c => exact he
               | outgrown => exact absurd he hQ)
            | (refine ⟨fun h => (by cases h), fun c cs _ => ?_⟩
               obtain ⟨v, w2, h1, h2⟩ := h c cs
               exact ⟨v, w2, ih' _ _ h1, stepsIn_wide.2 h2⟩)
            | exact h.elim
        | halt x w' => cases x <;> simp only [Oper.upon] at h <;> exact h
      · exact absurd h hQ
    · rename_i hw
      rw [if_neg hw] at h
      exact ⟨fun f _ => trivial, ih' _ _ h⟩

theorem St.put_loop {w : World} {i l : Nat} {rec rec' : Loop} (hw : St g w L) (hi : L[i]? = some (pt l (.loop rec))) : St g (w.putObj l (.loop rec')) (L.set i (pt l (.loop rec'))) := hw.set hi

def busy (rec : Loop) : Loop := { rec with state := .busy }

/-- One round: the loop variable takes the element; the body. -/
theorem round_of {l id1 id2 idb d p : Nat} {ty1 : TypeId} {ps1 : String} {af1 : Array Edge} {lB : List Oper} {i : Nat} {rec : Loop} {tmps : Array Value} {v : Value} {w : World} {Q : World → Prop} {fn : FuncId}
    (hw : St g w L) (hi : L[i]? = some (pt l (.loop rec))) (hs : rec.state = .ready) (ha : Agr n { tmps := tmps, defers := [] } fr) (hp : lkO fr p = some v) (hd : Nat.blt d n = true)
    (hnd : ∀ o ∈ lB, ∀ c, o.op ≠ .defer c)
    (h : SXs P n lB.toArray lB ((d, v) :: fr) g (L.set i (pt l (.loop (busy rec)))) (fun _ w2 => ∃ L2 i2, St g w2 L2 ∧ L2[i2]? = some (pt l (.loop (busy rec))) ∧ ∀ w3, St g w3 (L2.set i2 (pt l (.loop { busy rec with state := .ready, pending := none }))) → Q w3) ⟨fun _ _ => False, []⟩) :
    RoundIn Fence.wide 0 P l fn tmps (.region id1 #[⟨some d, .assign (.tmp p), ty1, ps1, af1, none⟩] false) (.block idb (.region id2 lB.toArray false)) w (fun e w' => e = .returned (.bool true) ∧ Q w') := by
  refine roundIn_of_wpIn trivial ?_
  refine wpIn_region_list ?_
  refine wl_run (r := some l) (n := 0) rfl (fun _ e => by cases e) (v := v) (w' := w) ?_ ?_
  · have h0 : Act.eval { tmps := tmps, defers := [] } (.tmp p) = v := ha.evO (x := .tmp p) hp
    simp only [execOp, h0]; rfl
  · refine ⟨_, run_beginRound (hw.get hi).2 hs, ?_⟩
    refine wpIn_block ?_
    have hS := hw.put_loop (rec' := busy rec) hi
    have ha2 := ha.put (d := d) (by simpa [Nat.blt_eq] using hd) v
    have h1 := h _ hS _ ha2
    have h2 := wpListIn_of (r := l) (n := 0) (Q := liftQ n (fun _ w2 => ∃ L2 i2, St g w2 L2 ∧ L2[i2]? = some (pt l (.loop (busy rec))) ∧ ∀ w3, St g w3 (L2.set i2 (pt l (.loop { busy rec with state := .ready, pending := none }))) → Q w3) ⟨fun _ _ => False, []⟩) (fun ⟨_, _, q⟩ => q) hnd h1
    refine wpIn_mono (wpIn_region_list (id := id2) h2) (fun e a w2 q => ?_)
    cases e with
    | normal =>
      obtain ⟨_, _, L2, i2, hS2, hi2, hk⟩ := q
      exact ⟨_, _, run_endRound none (hS2.get hi2).2, rfl, hk _ (hS2.put_loop hi2)⟩
    | ret => obtain ⟨_, _, q⟩ := q; exact q.elim
    | exit _ => obtain ⟨_, _, q⟩ := q; exact q.elim
    | goto _ => exact q.elim
    | panic _ => exact q.elim
    | outgrown => exact q.elim

/-- The region in which an iterator calls yield and looks at what it says: the round says 'go on'. -/
theorem WPs_yieldK (ks : List Nat) {id d1 d2 d3 d4 l i : Nat} {x1 x2 : Operand} {ats : Array TypeId} {t ty1 ty2 ty3 ty4 : TypeId} {ps1 ps2 ps3 ps4 : String} {af1 af2 af3 af4 : Array Edge} {v : Value} {rec : Loop} {Q : World → Prop} {fr' : Fr}
    (hx1 : evO fr x1 = some (.func (.yield l) #[] #[])) (hx2 : ∀ u, evO ((d1, u) :: fr) x2 = some v) (hd1 : Nat.blt d1 n = true) (hd2 : Nat.blt d2 n = true) (hd3 : Nat.blt d3 n = true) (hd4 : Nat.blt d4 n = true) (hne : d1 ≠ d2)
    (hi : L[i]? = some (pt l (.loop rec))) (hs : rec.params.size = 1)
    (hround : ∀ w, St g w L → RoundIn Fence.wide 0 P l rec.fn ((rec.params.zip #[v]).foldl (fun tmps (t, a) => tmps.setIfInBounds t a) rec.tmps) rec.assign rec.body w (fun e w' => e = .returned (.bool true) ∧ Q w'))
    (hr : restr ks ((d4, .bool false) :: (d3, .bool true) :: (d2, v) :: (d1, .func (.yield l) #[] #[]) :: fr) = fr')
    (h : ∀ w, Q w → K fr' w) :
    WPs P n (.region id #[⟨some d1, .move x1, ty1, ps1, af1, none⟩, ⟨some d2, .move x2, ty2, ps2, af2, none⟩, ⟨some d3, .call ⟨.value (.tmp d1), #[.tmp d2], ats⟩, ty3, ps3, af3, none⟩, ⟨some d4, .unOp .not t (.tmp d3), ty4, ps4, af4, none⟩] false) fr g L K X := fun w hw a ha => by
  have b1 : d1 < n := by simpa [Nat.blt_eq] using hd1
  have b2 : d2 < n := by simpa [Nat.blt_eq] using hd2
  have b3 : d3 < n := by simpa [Nat.blt_eq] using hd3
  have b4 : d4 < n := by simpa [Nat.blt_eq] using hd4
  refine (wpIn_wide (n := 0)).1 (wpIn_region_list ?_)
  have h1 := ha.put b1 (.func (.yield l) #[] #[])
  have h2 := h1.put b2 v
  have h3 := h2.put b3 (.bool true)
  have h4 := h3.put b4 (.bool false)
  refine wl_run (r := none) (n := 0) rfl (fun _ e => by cases e) (v := .func (.yield l) #[] #[]) (w' := w) (by simp only [execOp, ha.evO hx1]; rfl) ?_
  refine wl_run (r := none) (n := 0) rfl (fun _ e => by cases e) (v := v) (w' := w) (by simp only [execOp, h1.evO (hx2 _)]; rfl) ?_
  have e1 := h2.evO (x := .tmp d1) (v := .func (.yield l) #[] #[]) (by simp [evO, lkO, hne, Ne.symm hne])
  have e2 := h2.evO (x := .tmp d2) (v := v) (by simp [evO, lkO])
  have hy := run_yield (P := P) (args := #[v]) (hw.get hi).2 (by simp [hs])
  refine wl_round (v := .bool true) rfl (l := l) (f := rec.fn) (tmps := (rec.params.zip #[v]).foldl (fun tmps (t, a) => tmps.setIfInBounds t a) rec.tmps) (assign := rec.assign) (body := rec.body) (by
    simp [execOp, resolve, e1, e2, Deferred.ofValue, invoke, callFunc, hy]) ((hround w hw).mono ?_)
  rintro e w' ⟨rfl, hq⟩
  refine ⟨rfl, ?_⟩
  refine wl_run (r := none) (n := 0) rfl (fun _ e => by cases e) (v := .bool false) (w' := w') (by
    have e3 := h3.evO (x := .tmp d3) (v := .bool true) (by simp [evO, lkO])
    simp [execOp, e3, Op.unary]) ?_
  subst hr
  exact ⟨_, h4.restr ks, h _ hq⟩

theorem WPs_yieldS (ks : List Nat) {id d1 d2 d3 d4 l i : Nat} {x1 x2 : Operand} {ats : Array TypeId} {t ty1 ty2 ty3 ty4 : TypeId} {ps1 ps2 ps3 ps4 : String} {af1 af2 af3 af4 : Array Edge} {v : Value} {rec : Loop} {L' : List HP} {fr' : Fr}
    (hx1 : evO fr x1 = some (.func (.yield l) #[] #[])) (hx2 : ∀ u, evO ((d1, u) :: fr) x2 = some v) (hd1 : Nat.blt d1 n = true) (hd2 : Nat.blt d2 n = true) (hd3 : Nat.blt d3 n = true) (hd4 : Nat.blt d4 n = true) (hne : d1 ≠ d2)
    (hi : L[i]? = some (pt l (.loop rec))) (hs : rec.params.size = 1)
    (hround : ∀ w, St g w L → RoundIn Fence.wide 0 P l rec.fn ((rec.params.zip #[v]).foldl (fun tmps (t, a) => tmps.setIfInBounds t a) rec.tmps) rec.assign rec.body w (fun e w' => e = .returned (.bool true) ∧ St g w' L'))
    (hr : restr ks ((d4, .bool false) :: (d3, .bool true) :: (d2, v) :: (d1, .func (.yield l) #[] #[]) :: fr) = fr')
    (h : KSs g L' (K fr')) :
    WPs P n (.region id #[⟨some d1, .move x1, ty1, ps1, af1, none⟩, ⟨some d2, .move x2, ty2, ps2, af2, none⟩, ⟨some d3, .call ⟨.value (.tmp d1), #[.tmp d2], ats⟩, ty3, ps3, af3, none⟩, ⟨some d4, .unOp .not t (.tmp d3), ty4, ps4, af4, none⟩] false) fr g L K X :=
  WPs_yieldK ks hx1 hx2 hd1 hd2 hd3 hd4 hne hi hs hround hr h

/-! ### slices.AppendSeq, handed nil -/

def apBody (T E : TypeId) : Array Oper := #[⟨some 8, .load T (.tmp 2), T, "iter.go:52", #[], none⟩, ⟨some 9, .move (.tmp 5), E, "iter.go:52", #[], none⟩, ⟨some 10, .buildSlice T 1 #[(0, .tmp 9)], T, "iter.go:52", #[{ on := 1, ground := Ground.data }], none⟩, ⟨some 11, .call ⟨.builtin .append, #[.tmp 8, .tmp 10], #[T, T]⟩, T, "iter.go:52", #[{ on := 0, ground := Ground.data }, { on := 2, ground := Ground.data }], none⟩, ⟨none, .store T (.tmp 2) (.tmp 11), 0, "iter.go:52", #[{ on := 3, ground := Ground.data }, { on := 3, ground := Ground.chain }, { on := 0, ground := Ground.phase }, { on := 1, ground := Ground.phase }, { on := 2, ground := Ground.phase }, { on := 3, ground := Ground.phase }], none⟩]
def apAssign (E : TypeId) : Code := .region 2 #[⟨some 5, .assign (.tmp 7), E, "iter.go:51", #[], none⟩] false
def apBlock (T E : TypeId) : Code := .block 1 (.region 3 (apBody T E) false)
def apRest (T : TypeId) : Array Oper := #[⟨some 12, .load T (.tmp 2), T, "iter.go:54", #[], none⟩, ⟨some 4, .assign (.tmp 12), T, "iter.go:54", #[{ on := 0, ground := Ground.data }, { on := 0, ground := Ground.phase }], none⟩]
def apCode (T E S : TypeId) : Code :=
  .seq (.region 0 #[⟨some 2, .box T (.tmp 0), 0, "iter.go:50", #[], none⟩, ⟨some 4, .assign (.const (.slice none 0 0)), T, "iter.go:50", #[], none⟩] false)
    (.seq (.seq (.region 1 #[⟨some 6, .move (.tmp 1), S, "iter.go:51", #[], none⟩] false) (.block 0 (.rangeFunc (.tmp 6) #[7] (apAssign E) (apBlock T E))))
      (.seq (.region 4 (apRest T) false) .ret))

/-- An iterator's word: what it is handed (a loop, an invariant that each round carries on) it hands on, element by element. -/
def SeqK (P : Program) (gf : FuncId) (lb : List Value) (g : World) (F : List HP) (xs : List Value) : Prop :=
  ∀ (l : Nat) (rec : Loop) (I : Nat → HP), rec.state = .ready → rec.pending = none → rec.params.size = 1 →
    (∀ k x, xs[k]? = some x → ∀ (G : List HP) (w : World), St g w (pt l (.loop rec) :: I k :: G) →
      RoundIn Fence.wide 0 P l rec.fn ((rec.params.zip #[x]).foldl (fun tmps (t, a) => tmps.setIfInBounds t a) rec.tmps) rec.assign rec.body w (fun e w' => e = .returned (.bool true) ∧ St g w' (pt l (.loop rec) :: I (k + 1) :: G))) →
    RCs P gf (.func (.yield l) #[] #[] :: lb) g (pt l (.loop rec) :: I 0 :: F) (fun _ w => St g w (pt l (.loop rec) :: I xs.length :: F))

theorem ready_again {rec : Loop} (h1 : rec.state = .ready) (h2 : rec.pending = none) : { busy rec with state := .ready, pending := none } = rec := by
  cases rec
  simp only [busy] at *
  subst h1; subst h2; rfl

def apI (T E : TypeId) (bS D : Nat) (xs : List Value) (k : Nat) : HP := fun h => ∃ sv, (k = 0 → sv = .slice none 0 0) ∧ grp [pt bS (.cells [sv].toArray T (0, 0)), own E 1 sv k (xs.take k), pt D (.deferred (some []))] h
theorem apI_open {w : World} {T E bS D k : Nat} {xs : List Value} {l : Nat} {o : Obj} (h : St g w (pt l o :: apI T E bS D xs k :: L)) :
    ∃ sv, (k = 0 → sv = .slice none 0 0) ∧ St g w (pt l o :: pt bS (.cells [sv].toArray T (0, 0)) :: own E 1 sv k (xs.take k) :: pt D (.deferred (some [])) :: L) := by
  obtain ⟨sv, h⟩ := St.ex (h.perm (List.Perm.swap _ _ _))
  obtain ⟨h0, h⟩ := h.pure
  exact ⟨sv, h0, h.ungrp.perm (by (repeat (first | exact List.Perm.refl _ | (apply pick 3; exact rfl))))⟩
theorem apI_mk {w : World} {T E bS D k : Nat} {xs : List Value} {l : Nat} {o : Obj} {sv : Value} (h0 : k = 0 → sv = .slice none 0 0) (h : St g w (pt l o :: pt bS (.cells [sv].toArray T (0, 0)) :: own E 1 sv k (xs.take k) :: pt D (.deferred (some [])) :: L)) :
    St g w (pt l o :: apI T E bS D xs k :: L) := by
  have h1 : St g w (grp [pt bS (.cells [sv].toArray T (0, 0)), own E 1 sv k (xs.take k), pt D (.deferred (some []))] :: pt l o :: L) := St.grp (A := [_, _, _]) (h.perm (by (repeat (first | exact List.Perm.refl _ | (apply pick 1; exact rfl)))))
  exact (h1.imp (Q := apI T E bS D xs k) fun h hh => ⟨sv, h0, hh⟩).perm (List.Perm.swap _ _ _)

theorem agr_start {vs : List Value} (hl : vs.length ≤ n) : Agr n { tmps := vs.toArray ++ Array.replicate (n - vs.toArray.size) undef, defers := [] } (argFr 0 vs) := by
  refine ⟨rfl, by simp; omega, fun t v hv => ?_⟩
  obtain ⟨_, h2⟩ := lkO_argFr _ _ _ _ hv
  simp only [Nat.sub_zero] at h2
  have hlt : t < vs.length := by
    rcases Nat.lt_or_ge t vs.length with h | h
    · exact h
    · rw [List.getElem?_eq_none h] at h2; cases h2
  rw [Array.getElem?_append_left (by simpa using hlt)]
  simpa using h2

theorem apRound {T E bytes bS D l : Nat} {z : Value} (hT : SlT P T E 1 bytes z) (hag : ∀ w, (isAgg T).run P w = .ok false w) (hsz : ∀ w, (sizeOf T).run P w = .ok 1 w) {xs : List Value}
    (hx : ∀ x ∈ xs, x.cells = #[x] ∧ x.oneCell' = true) (h1 : xs.length ≤ maxLen) (h2 : xs.length * bytes ≤ 140737488355328) {rec : Loop} (hs : rec.state = .ready) (hp : rec.pending = none) (hpar : rec.params = #[7])
    (has : rec.assign = apAssign E) (hbo : rec.body = apBlock T E) (ha : Agr 13 { tmps := rec.tmps, defers := [] } [(2, .pointer (some ⟨bS, 0, none⟩))]) {k : Nat} {x : Value} (hk : xs[k]? = some x) {G : List HP} {w : World} (hw : St g w (pt l (.loop rec) :: apI T E bS D xs k :: G)) :
    RoundIn Fence.wide 0 P l rec.fn ((rec.params.zip #[x]).foldl (fun tmps (t, a) => tmps.setIfInBounds t a) rec.tmps) rec.assign rec.body w (fun e w' => e = .returned (.bool true) ∧ St g w' (pt l (.loop rec) :: apI T E bS D xs (k + 1) :: G)) := by
  obtain ⟨sv, _, hw⟩ := apI_open hw
  obtain ⟨sa, sc, rfl, _⟩ := own_form (i := 2) hw rfl
  rw [hpar, has, hbo]
  have hxm := hx x (List.mem_of_getElem? hk)
  have hkl : k < xs.length := (List.getElem?_eq_some_iff.1 hk).1
  have ha1 := ha.put (d := 7) (by decide) x
  have ha2 : Agr 13 { tmps := rec.tmps.setIfInBounds 7 x, defers := [] } ((7, x) :: [(2, .pointer (some ⟨bS, 0, none⟩))]) := ha1
  refine round_of (i := 0) (rec := rec) (n := 13) (fr := (7, x) :: [(2, .pointer (some ⟨bS, 0, none⟩))]) (lB := (apBody T E).toList) hw rfl hs (by simpa using ha2) rfl rfl ?_ ?_
  · intro o ho c
    simp [apBody] at ho
    rcases ho with rfl | rfl | rfl | rfl | rfl <;> intro e <;> cases e
  · refine s_load1 hag rfl rfl (cin (i := 1) rfl rfl) ?_
    refine s_move rfl rfl ?_
    refine s_buildSlice (xs := [(0, .tmp 9)]) (vs := [(0, x)]) (cs := [x]) rfl rfl (buildSlice_one hT hxm.1 rfl (by decide)) (fun b10 => ?_)
    refine s_append (i := 3) hT rfl rfl rfl rfl (pt_RdIn (i := 0) (xs := [x]) (m := 1) rfl rfl rfl (by omega) (by simp only [maxLen]; omega)) (by simp [hxm.2]) (by omega) (by
      have : (k + 1) * bytes ≤ xs.length * bytes := Nat.mul_le_mul_right _ hkl
      omega) (fun va vc => ?_)
    simp only [List.eraseIdx_cons_zero, List.eraseIdx_cons_succ, List.set_cons_zero, List.set_cons_succ, spl, putF, List.nil_append, List.cons_append]
    refine s_store (i := 2) hsz rfl rfl rfl (vs := [_]) rfl rfl rfl rfl ?_
    simp only [List.eraseIdx_cons_zero, List.eraseIdx_cons_succ, List.set_cons_zero, List.set_cons_succ, spl, putF, List.nil_append, List.cons_append]
    refine SXs_nil (fun w2 hw2 => ⟨_, 1, hw2, rfl, fun w3 hw3 => ?_⟩)
    rw [ready_again hs hp] at hw3
    refine apI_mk (sv := .slice va (k + 1) vc) (fun h => by omega) ?_
    have e : xs.take (k + 1) = xs.take k ++ [x] := by rw [List.take_add_one, hk]; rfl
    rw [e]
    exact hw3.sl (by (repeat (first | exact Sl.refl _ | (apply Sl.pick 1; exact rfl) | refine Sl.skip ?_)))

theorem appendSeq_rc {f : FuncId} {fn : Func} {T E S bytes : Nat} {z : Value} (hf : P.funcs[f]? = some fn) (hb : fn.body = some (apCode T E S)) (hn : fn.ntmps = 13) (hrs : fn.results = #[.tmp 4]) (hT : SlT P T E 1 bytes z)
    (hag : ∀ w, (isAgg T).run P w = .ok false w) (hsz : ∀ w, (sizeOf T).run P w = .ok 1 w) {gf : FuncId} {lb : List Value} (eg : Enters P gf) {xs : List Value} (hx : ∀ x ∈ xs, x.cells = #[x] ∧ x.oneCell' = true)
    (h1 : xs.length ≤ maxLen) (h2 : xs.length * bytes ≤ 140737488355328) {F : List HP} (hseq : SeqK P gf lb g F xs) :
    RCs P f [.slice none 0 0, .func (.func gf) #[] lb.toArray] g F (fun u w => (xs.length = 0 → u = .slice none 0 0) ∧ SlQ g E 1 xs.length xs F u w) := by
  intro w hw
  refine (callsIn_wide (n := 0)).1 (callsIn_of_wp_marks hf hb trivial ?_ rfl)
  rw [hn]
  have ha0 : Agr 13 { tmps := #[.slice none 0 0, .func (.func gf) #[] lb.toArray] ++ Array.replicate (13 - #[Value.slice none 0 0, .func (.func gf) #[] lb.toArray].size) undef, defers := [] } (argFr 0 [.slice none 0 0, .func (.func gf) #[] lb.toArray]) := agr_start (by simp)
  have hR0 : WPs P 13 (.region 0 #[⟨some 2, .box T (.tmp 0), 0, "iter.go:50", #[], none⟩, ⟨some 4, .assign (.const (.slice none 0 0)), T, "iter.go:50", #[], none⟩] false) (argFr 0 [.slice none 0 0, .func (.func gf) #[] lb.toArray]) g F
      (fun fr' w' => ∃ bS, fr' = [(1, .func (.func gf) #[] lb.toArray), (2, .pointer (some ⟨bS, 0, none⟩))] ∧ St g w' (pt bS (.cells [.slice none 0 0].toArray T (0, 0)) :: F)) ⟨fun _ _ => False, []⟩ :=
    WPs_regionK [1, 2] (s_box (cl := [.slice none 0 0]) rfl rfl rfl (fun bS => s_assign rfl rfl (SXs_nilK rfl (fun w hw => ⟨bS, rfl, hw⟩))))
  refine wpIn_seq (wpIn_mono (wpIn_wide.2 (hR0 w hw _ ha0)) ?_)
  rintro e a1 w1 q
  cases e with
  | ret => obtain ⟨_, _, q⟩ := q; exact q.elim
  | exit _ => obtain ⟨_, _, q⟩ := q; exact q.elim
  | goto _ => exact q.elim
  | panic _ => exact q.elim
  | outgrown => exact q.elim
  | normal =>
    obtain ⟨_, ha1, bS, rfl, hw1⟩ := q
    have hR1 : WPs P 13 (.region 1 #[⟨some 6, .move (.tmp 1), S, "iter.go:51", #[], none⟩] false) [(1, .func (.func gf) #[] lb.toArray), (2, .pointer (some ⟨bS, 0, none⟩))] g (pt bS (.cells [.slice none 0 0].toArray T (0, 0)) :: F)
        (fun fr' w' => fr' = [(2, .pointer (some ⟨bS, 0, none⟩)), (6, .func (.func gf) #[] lb.toArray)] ∧ St g w' (pt bS (.cells [.slice none 0 0].toArray T (0, 0)) :: F)) ⟨fun _ _ => False, []⟩ :=
      WPs_regionK [2, 6] (s_move rfl rfl (SXs_nilK rfl (fun w hw => ⟨rfl, hw⟩)))
    refine wpIn_seq (wpIn_seq (wpIn_mono (wpIn_wide.2 (hR1 w1 hw1 _ ha1)) ?_))
    rintro e a1 w1 q
    cases e with
    | ret => obtain ⟨_, _, q⟩ := q; exact q.elim
    | exit _ => obtain ⟨_, _, q⟩ := q; exact q.elim
    | goto _ => exact q.elim
    | panic _ => exact q.elim
    | outgrown => exact q.elim
    | normal =>
      obtain ⟨_, ha1, rfl, hw1⟩ := q
      refine wpIn_block (wpIn_rangeFunc ?_)
      intro fnId _
      obtain ⟨rec, hrec⟩ : ∃ rec : Loop, rec = { state := .ready, pending := none, fn := fnId, tmps := a1.tmps, params := #[7], assign := apAssign E, body := apBlock T E, defers := w1.heap.size } := ⟨_, rfl⟩
      have hr1 : rec.state = .ready := by rw [hrec]
      have hr2 : rec.pending = none := by rw [hrec]
      have hr3 : rec.params = #[7] := by rw [hrec]
      have hr4 : rec.assign = apAssign E := by rw [hrec]
      have hr5 : rec.body = apBlock T E := by rw [hrec]
      have hr6 : rec.tmps = a1.tmps := by rw [hrec]
      have hS1 := (hw1.alloc (.deferred (some []))).alloc (.loop rec)
      rw [World.size_alloc] at hS1
      have hS2 : St g ((w1.alloc (.deferred (some []))).alloc (.loop rec)) (pt (w1.heap.size + 1) (.loop rec) :: apI T E bS w1.heap.size xs 0 :: F) := by
        refine apI_mk (sv := .slice none 0 0) (fun _ => rfl) ?_
        have := own_nil_in (T := E) (k := 1) hS1
        exact this.perm (by (repeat (first | exact List.Perm.refl _ | (apply pick 1; exact rfl) | (apply pick 2; exact rfl))))
      refine ⟨w1.heap.size + 1, [{ target := .collected w1.heap.size, args := #[] }], (w1.alloc (.deferred (some []))).alloc (.loop rec), { target := .fn (.func gf) lb.toArray, args := #[.func (.yield (w1.heap.size + 1)) #[] #[]] },
        (w1.alloc (.deferred (some []))).alloc (.loop rec), gf, #[.func (.yield (w1.heap.size + 1)) #[] #[]] ++ lb.toArray, (w1.alloc (.deferred (some []))).alloc (.loop rec), ?_, ?_, ?_, ?_, fun h => (by cases h), ?_⟩
      · rw [hrec]; exact run_enterLoop_outer _ _ _ _ _
      · have e6 := ha1.evO (x := .tmp 6) (v := .func (.func gf) #[] lb.toArray) rfl
        have ec : a1.eval (.const (.func (.yield (w1.heap.size + 1)) #[] #[])) = .func (.yield (w1.heap.size + 1)) #[] #[] := rfl
        simp [rangeCall, resolve, e6, ec, Deferred.ofValue]
      · intro f' _; trivial
      · simp [invoke, eg _ _]
      · have hc := hseq (w1.heap.size + 1) rec (apI T E bS w1.heap.size xs) hr1 hr2 (by rw [hr3]; rfl) (fun k x hk G w hw => apRound hT hag hsz hx h1 h2 hr1 hr2 hr3 hr4 hr5 (by
            rw [hr6]
            exact ⟨rfl, ha1.size, fun t v ht => ha1.holds t v (by
              simp only [lkO] at ht ⊢
              split at ht
              · rename_i e; rw [if_pos e]; exact ht
              · cases ht)⟩) hk hw) _ hS2
        refine callsIn_wide.2 ?_
        have harr : #[Value.func (.yield (w1.heap.size + 1)) #[] #[]] ++ lb.toArray = (Value.func (.yield (w1.heap.size + 1)) #[] #[] :: lb).toArray := by simp
        rw [harr]
        refine Calls.mono hc ?_
        rintro e w2 ⟨v, rfl, hw2⟩
        refine ⟨none, _, by rw [← hr2]; exact run_endLoop (hw2.get (i := 0) rfl).2 (by rw [hr1]; intro h; cases h), ?_⟩
        have hw3 : St g (w2.putObj (w1.heap.size + 1) (.loop { rec with state := .exhausted })) (pt (w1.heap.size + 1) (.loop { rec with state := .exhausted }) :: apI T E bS w1.heap.size xs xs.length :: F) := hw2.put_loop (i := 0) rfl
        obtain ⟨sv, h0, hw3⟩ := apI_open hw3
        rw [List.take_length] at hw3
        refine wpIn_seq (wpIn_region_list ?_)
        have hcell := cin (g := g) (i := 1) (o := 0) (v := sv) rfl rfl _ hw3
        obtain ⟨W3, hW3⟩ : ∃ W3, w2.putObj (w1.heap.size + 1) (.loop { rec with state := .exhausted }) = W3 := ⟨_, rfl⟩
        rw [hW3] at hw3 hcell ⊢
        have e2 : Act.eval { a1 with defers := [{ target := .collected w1.heap.size, args := #[] }] ++ a1.defers } (.tmp 2) = .pointer (some ⟨bS, 0, none⟩) := ha1.evO (x := .tmp 2) rfl
        have hsz1 : 12 < a1.tmps.size := by rw [ha1.size]; decide
        refine wl_run (r := none) (n := 0) rfl (fun _ e => by cases e) (v := sv) (w' := W3) (by
          simp only [execOp, e2, Instr.loadAt, Instr.sureAddr, Sem.run_bind, Sem.run_pure, Result.andThen_ok, run_loadVar1 hag hcell]) ?_
        refine wl_run (r := none) (n := 0) rfl (fun _ e => by cases e) (v := sv) (w' := W3) (by
          simp [execOp, Act.eval, Act.put, hsz1]) ?_
        refine wpIn_ret ?_
        have hK := (hw3.get (i := 3) rfl).2
        rw [ha1.defers]
        refine ⟨by simp, .inl ⟨_, _, rfl, run_takeDeferred hK, ?_⟩⟩
        refine ⟨_, results_tmp hrs _ _ _, _, rfl, ?_⟩
        have hw4 : St g (W3.putObj w1.heap.size (.deferred none)) _ := hw3.set (i := 3) (o' := .deferred none) rfl
        have hsz4 : 4 < a1.tmps.size := by rw [ha1.size]; decide
        have hv : (Act.put (Act.put { tmps := a1.tmps, defers := [{ target := .collected w1.heap.size, args := #[] }] ++ [] } (some 12) sv) (some 4) sv).tmps.getD 4 undef = sv := by simp [Act.put, hsz4]
        have hw5 : SlQ g E 1 xs.length xs F sv (W3.putObj w1.heap.size (.deferred none)) := SlQ.of (hw4.sl (by (repeat (first | exact Sl.refl _ | (apply Sl.pick 2; exact rfl) | refine Sl.skip ?_))))
        rw [← hv] at hw5 h0
        exact ⟨h0, hw5⟩

end
end Go.Hb
