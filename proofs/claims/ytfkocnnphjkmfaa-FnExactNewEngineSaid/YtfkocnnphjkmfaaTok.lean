/- Operations as steps on assertions; a region in the order of the text, and a region that draws its order: every order serves. No program text is named here. -/
import Derived.Test.YtfkocnnphjkmfaaFound
import Derived.Orders
set_option linter.unusedVariables false
set_option linter.unusedSimpArgs false
set_option linter.unnecessarySimpa false
namespace Go.Proofs.Ytfkocnnphjkmfaa.D
open Go.RowKit

/-! ### Slots -/
def evL (L : List (Nat × Value)) : Operand → Value
  | .tmp t => (L.lookup t).getD undef
  | .const v => v
  | .global g => .pointer (some ⟨g, 0, none⟩)
  | .func f => .func (.func f) #[] #[]
def knows (L : List (Nat × Value)) : Operand → Bool
  | .tmp t => (L.lookup t).isSome
  | _ => true
def knowsAll (L : List (Nat × Value)) (o : Oper) : Bool := o.op.operands.toList.all (knows L)
/-- The slots of an activation, as far as they are listed. -/
def Agr (n : Nat) (a : Act) (L : List (Nat × Value)) : Prop := a.defers = [] ∧ a.tmps.size = n ∧ ∀ t v, L.lookup t = some v → a.tmps.getD t undef = v
def putL (d : Option Tmp) (v : Value) (L : List (Nat × Value)) : List (Nat × Value) :=
  match d with
  | some d => (d, v) :: L
  | none => L
def dstOk (n : Nat) : Option Tmp → Bool
  | some d => decide (d < n)
  | none => true
section
variable {n : Nat} {a : Act} {L L' : List (Nat × Value)}
theorem Agr.eval (h : Agr n a L) {x : Operand} (hx : knows L x = true) : a.eval x = evL L x := by
  cases x with
  | tmp t =>
    obtain ⟨v, hv⟩ := Option.isSome_iff_exists.1 hx
    simp only [Act.eval, evL, hv]
    exact h.2.2 t v hv
  | _ => rfl
theorem getD_set_self {l : Array Value} {d : Nat} {v x : Value} (h : d < l.size) : (l.setIfInBounds d v).getD d x = v := by
  simp [Array.getD_eq_getD_getElem?, Array.getElem?_setIfInBounds_self_of_lt h]
theorem getD_set_ne {l : Array Value} {d t : Nat} {v x : Value} (h : d ≠ t) : (l.setIfInBounds d v).getD t x = l.getD t x := by
  simp [Array.getD_eq_getD_getElem?, Array.getElem?_setIfInBounds_ne h]
theorem Agr.put (h : Agr n a L) {d : Option Tmp} (v : Value) (hd : dstOk n d = true) : Agr n (a.put d v) (putL d v L) := by
  cases d with
  | none => exact h
  | some d =>
    have hd : d < n := by simpa [dstOk] using hd
    refine ⟨h.1, by simp [Act.put, h.2.1], fun t u hu => ?_⟩
    simp only [putL, List.lookup_cons] at hu
    by_cases e : t = d
    · subst e
      simp at hu; subst hu
      exact getD_set_self (by rw [h.2.1]; exact hd)
    · have : (t == d) = false := by simpa using e
      rw [this] at hu
      show (a.tmps.setIfInBounds d v).getD t undef = u
      rw [getD_set_ne (fun e' => e e'.symm)]
      exact h.2.2 t u hu
theorem Agr.sub (h : Agr n a L) (hs : ∀ t v, L'.lookup t = some v → L.lookup t = some v) : Agr n a L' := ⟨h.1, h.2.1, fun t v hv => h.2.2 t v (hs t v hv)⟩
/-- of the listed slots only those that are named -/
theorem Agr.pick (h : Agr n a L) (L' : List (Nat × Value)) (hs : ∀ p ∈ L', L.lookup p.1 = some p.2) : Agr n a L' := by
  refine h.sub fun t v hv => ?_
  have : ∀ (M : List (Nat × Value)), (∀ p ∈ M, L.lookup p.1 = some p.2) → M.lookup t = some v → L.lookup t = some v := by
    intro M
    induction M with
    | nil => intro _ h; cases h
    | cons p M ih =>
      intro hM hv
      rw [List.lookup_cons] at hv
      by_cases e : t = p.1
      · subst e
        simp at hv
        rw [← hv]; exact hM p (by simp)
      · have : (t == p.1) = false := by simpa using e
        rw [this] at hv
        exact ih (fun q hq => hM q (by simp [hq])) hv
  exact this L' hs hv
/-- the slots at the start -/
theorem Agr.start {args : Array Value} {m : Nat} (L : List (Nat × Value)) (hn : args.size + m = n) (hs : ∀ p ∈ L, args[p.1]? = some p.2) : Agr n { tmps := args ++ Array.replicate m undef, defers := [] } L := by
  have h0 : Agr n { tmps := args ++ Array.replicate m undef, defers := [] } (args.toList.zipIdx.map fun p => (p.2, p.1)) := by
    refine ⟨rfl, by simp [hn], fun t v hv => ?_⟩
    have key : ∀ (l : List Value) (k : Nat), ((l.zipIdx k).map fun p => (p.2, p.1)).lookup t = some v → k ≤ t ∧ l[t - k]? = some v := by
      intro l
      induction l with
      | nil => intro k h; simp at h
      | cons x l ih =>
        intro k h
        simp only [List.zipIdx_cons, List.map_cons, List.lookup_cons] at h
        by_cases e : t = k
        · subst e
          simp at h
          simp [h]
        · have : (t == k) = false := by simpa using e
          rw [this] at h
          obtain ⟨h1, h2⟩ := ih (k + 1) h
          refine ⟨by omega, ?_⟩
          rw [show t - k = (t - (k + 1)) + 1 from by omega]
          simpa using h2
    obtain ⟨-, h2⟩ := key _ 0 hv
    rw [Nat.sub_zero, Array.getElem?_toList] at h2
    have hlt : t < args.size := (Array.getElem?_eq_some_iff.1 h2).1
    rw [Array.getD_eq_getD_getElem?, Array.getElem?_append_left hlt, h2]; rfl
  refine h0.pick L fun p hp => ?_
  have hp2 := hs p hp
  have key : ∀ (l : List Value) (k : Nat), k ≤ p.1 → l[p.1 - k]? = some p.2 → ((l.zipIdx k).map fun p => (p.2, p.1)).lookup p.1 = some p.2 := by
    intro l
    induction l with
    | nil => intro k _ h; simp at h
    | cons x l ih =>
      intro k hk h
      simp only [List.zipIdx_cons, List.map_cons, List.lookup_cons]
      by_cases e : p.1 = k
      · rw [e, Nat.sub_self] at h
        simp at h
        simp [e, h]
      · have : (p.1 == k) = false := by simpa using e
        rw [this]
        refine ih (k + 1) (by omega) ?_
        rw [show p.1 - k = (p.1 - (k + 1)) + 1 from by omega] at h
        simpa using h
  exact key _ 0 (by omega) (by rw [Nat.sub_zero, Array.getElem?_toList]; exact hp2)
end

/-! ### One operation -/
def Upon (P : Program) (ok : Value → World → Prop) : Result Next → Prop
  | .ok (.value v) w' => ok v w'
  | .ok .skip w' => ok undef w'
  | .ok (.enter f args) w' => Calls P f args w' fun e w'' => ∃ v, e = .returned v ∧ ok v w''
  | _ => False
/-- Operation o, its operands read by ev: it takes the chunks rn, and gives a value with 'fact' and the chunks gv. -/
def OpT (P : Program) (I : Hp) (w0 : World) (o : Oper) (ev : Operand → Value) (rn : List Ch) (fact : Value → Prop) (gv : Value → List Ch) : Prop :=
  ∀ w C, St I w0 w (rn ++ C) → Upon P (fun v w' => fact v ∧ St I w0 w' (gv v ++ C)) ((execOp ev o).run P w)
theorem Upon.wp {P : Program} {o : Oper} {a : Act} {w : World} {ok : Value → World → Prop} {K : Act → World → Prop} {Q : Exit → Act → World → Prop} (hr : Upon P ok ((execOp a.eval o).run P w)) (hk : ∀ v w', ok v w' → K (a.put o.dst v) w') : o.wp P a w K Q := by
  unfold Oper.wp
  generalize (execOp a.eval o).run P w = r at hr
  cases r with
  | halt h w' => exact hr.elim
  | ok x w' =>
    cases x <;> first | exact hr.elim | exact hk _ _ hr | skip
    refine Calls.mono hr ?_
    rintro e w'' ⟨v, rfl, h⟩
    exact hk _ _ h
def noSelect (o : Oper) : Bool := match o.op with | .select .. => false | _ => true
theorem execOp_same {ρ ρ' : Operand → Value} {o : Oper} (hs : noSelect o = true) (h : ∀ x ∈ o.op.operands, ρ x = ρ' x) : execOp ρ o = execOp ρ' o :=
  execOp_congr o (fun cs b e => by rw [noSelect, e] at hs; cases hs) h

/-! ### A region in the order of the text -/
section
variable {P : Program} {I : Hp} {w0 w : World} {n : Nat} {a : Act} {L : List (Nat × Value)} {C0 C rn : List Ch} {ops : Array Oper} {Q : Exit → Act → World → Prop} {o : Oper} {rest : List Oper}
theorem seq_op {fact : Value → Prop} {gv : Value → List Ch} (ha : Agr n a L) (hs : St I w0 w C0) (hg : o.guard = none) (hop : OpT P I w0 o (evL L) rn fact gv) (hp : C0.Perm (rn ++ C)) (hk : (knowsAll L o && dstOk n o.dst && noSelect o) = true)
    (k : ∀ v a w, fact v → Agr n a (putL o.dst v L) → St I w0 w (gv v ++ C) → wpList P ops Q rest a w) : wpList P ops Q (o :: rest) a w := by
  simp only [Bool.and_eq_true] at hk
  obtain ⟨⟨hk1, hk2⟩, hk3⟩ := hk
  refine wpList_plain hg fun K hK => ?_
  have he : execOp a.eval o = execOp (evL L) o := execOp_same hk3 fun x hx => ha.eval ((List.all_eq_true.1 hk1) x (by simpa using hx))
  have h := hop w C (hs.perm hp)
  rw [← he] at h
  exact h.wp fun v w' hv => hK _ _ (k v _ w' hv.1 (ha.put v hk2) hv.2)
end
end Go.Proofs.Ytfkocnnphjkmfaa.D
