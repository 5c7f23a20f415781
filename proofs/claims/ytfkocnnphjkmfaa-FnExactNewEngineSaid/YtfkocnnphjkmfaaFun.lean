/- Function values known by what they do: closures, method values, functions handed over. No program text is named here. -/
import Derived.Test.YtfkocnnphjkmfaaMore
import Derived.Lib.SliceRun
set_option linter.unusedVariables false
set_option linter.unusedSimpArgs false
set_option linter.unnecessarySimpa false
namespace Go.Proofs.Ytfkocnnphjkmfaa.D
open Go.RowKit

section
variable {P : Program} {I J : Hp} {w0 w w' : World} {cs C : List Ch} {n : Nat} {a : Act} {L L' : List (Nat × Value)} {o : Oper} {ev : Operand → Value}
/-- called with these arguments, the function value v keeps this contract -/
def Clo (P : Program) (w0 : World) (J : Hp) (v : Value) (args : List Value) (fact : Value → Prop) (gv : Value → List Ch) : Prop :=
  ∃ k first capt, v = .func (.func k) first capt ∧ Enters P k ∧ Con P k (first.toList ++ args ++ capt.toList).toArray J w0 [] fact gv
theorem seq_op0 {Q : Exit → Act → World → Prop} {ops : Array Oper} {rest : List Oper} {C : List Ch} {fact : Value → Prop} (ha : Agr n a L) (hs : St I w0 w C) (hop : OpT P I w0 o (evL L) [] fact (fun _ => [])) (hg : o.guard = none) (hk : (knowsAll L o && dstOk n o.dst && noSelect o) = true)
    (k : ∀ v a w, fact v → Agr n a (putL o.dst v L) → St I w0 w C → wpList P ops Q rest a w) : wpList P ops Q (o :: rest) a w :=
  seq_op ha hs hg hop (List.Perm.refl _) hk k
theorem seq_op_g0 {Q : Exit → Act → World → Prop} {ops : Array Oper} {rest : List Oper} {g d : Nat} {want b : Bool} {C : List Ch} {fact : Value → Prop} (ha : Agr n a L) (hs : St I w0 w C) (hg : o.guard = some (g, want)) (hd : ((ops[g]?).bind (·.dst)) = some d) (hv : L.lookup d = some (.bool b)) (hb : b = want) (hop : OpT P I w0 o (evL L) [] fact (fun _ => [])) (hk : (knowsAll L o && dstOk n o.dst && noSelect o) = true)
    (k : ∀ v a w, fact v → Agr n a (putL o.dst v L) → St I w0 w C → wpList P ops Q rest a w) : wpList P ops Q (o :: rest) a w :=
  seq_op_g ha hs hg hd hv hb hop (List.Perm.refl _) hk k
def isNilV : Value → Bool
  | .slice none _ _ => true
  | _ => false
theorem opT_eqn {x y : Operand} {t e u : TypeId} {v : Value} {n : Nat} (hT : P.underlying t = some (.slice e)) (hv : Hd v n) (ho : o.op = .binOp .eql t x y u) (hx : ev x = v) (hy : ev y = .slice none 0 0) : OpT P I w0 o ev [] (· = .bool (isNilV v)) (fun _ => []) := by
  obtain ⟨ao, cap, rfl, -⟩ := hv
  refine opT_val fun w => ?_
  have g3 : (eqGuard .eql t x y (.slice ao n cap) (.slice none 0 0)).run P w = .ok () w := rfl
  have g4 : isNilV (.slice ao n cap) = ao.isNone := by cases ao <;> rfl
  simp only [execOp, ho, hx, hy, Sem.run_bind, Sem.run_pure, g3, Go.Lib.run_eql_slice_nil w t e ao n cap 0 0 hT, Result.andThen_ok, g4]
theorem nil_list {α : Type} {v : Value} {xs : List α} (h : isNilV v = true) (hd : Hd v xs.length) : xs = [] := by
  obtain ⟨ao, cap, rfl, h2, -⟩ := hd
  by_cases hp : 0 < xs.length
  · obtain ⟨b, off, rfl⟩ := h2 hp
    cases h
  · exact List.length_eq_zero_iff.1 (by omega)
def IsFn (v : Value) : Prop := ∃ k a b, v = .func k a b
theorem IsFn.one {v : Value} (h : IsFn v) : v.oneCell' = true := by obtain ⟨_, _, _, rfl⟩ := h; rfl
theorem IsFn.cells {v : Value} (h : IsFn v) : v.cells = [v].toArray := by obtain ⟨_, _, _, rfl⟩ := h; rfl
theorem isFn {k : Fn} {a b : Array Value} : IsFn (.func k a b) := ⟨k, a, b, rfl⟩
theorem opT_call_clo {f : Operand} {v : Value} {xs : Array Operand} {ts : Array TypeId} {args : List Value} {fact : Value → Prop} {gv : Value → List Ch} (hc : Clo P w0 I v args fact gv) (ho : o.op = .call { callee := .value f, args := xs, argTypes := ts }) (hf : ev f = v) (hl : xs.toList.map ev = args) : OpT P I w0 o ev [] fact gv := by
  obtain ⟨k, first, capt, rfl, he, hc⟩ := hc
  exact opT_call he ho hf (by rw [hl]) hc
/-- what is only read, lent to an operation -/
theorem OpT.lend {ls : List Ch} {fact : Value → Prop} {gv : Value → List Ch} (hd : ∀ v, Ch.deeps (gv v))
    (h : ∀ J, I.le J → (∀ {α : Type} (R : Rep α) (v : List Value) (a : α), Ch.own R v a ∈ ls → R.rd J v a) → (∀ g l E, Ch.blk g l E ∈ ls → J g = some (.cells l.toArray E (0, 0))) → OpT P J w0 o ev [] fact gv) : OpT P I w0 o ev ls fact (fun v => gv v ++ ls) := by
  intro w C hs
  obtain ⟨J, h1, h2, h3, h4, h5⟩ := hs.lend
  refine (h J h1 h2 h3 w _ h4).imp fun v w' hv => ⟨hv.1, ?_⟩
  rw [List.append_assoc]
  exact h5 w' _ (hd v) hv.2
end
end Go.Proofs.Ytfkocnnphjkmfaa.D
