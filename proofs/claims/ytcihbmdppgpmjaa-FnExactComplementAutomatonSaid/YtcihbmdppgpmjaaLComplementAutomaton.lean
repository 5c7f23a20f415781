/- FnExactComplementAutomaton: for every input the law returns true and changes nothing that was there. (Printed by genrow.py over the walk and the plain law.) -/
import Derived.Test.YtcihbmdppgpmjaaCw8_0
import Derived.Test.YtcihbmdppgpmjaaCComplementAutomaton
import Derived.Test.YtcihbmdppgpmjaaLaw
import Derived.Test.YtcihbmdppgpmjaaRead
import Derived.Test.YtcihbmdppgpmjaaRows
set_option linter.unusedVariables false
set_option linter.unusedSimpArgs false
set_option linter.unnecessarySimpa false
set_option maxRecDepth 100000
namespace Go.Proofs.Ytcihbmdppgpmjaa
open Go.ChangeShapes Go.WideShapes Go.ChangeAt Go.RowKit
namespace D
theorem op3 : Opens Try.prog 3 rInt := opens_int Try.underlying3
theorem op4 : Opens Try.prog 4 rBool := opens_bool Try.underlying4
theorem op22 : Opens Try.prog 22 (rSlice 4 rBool) := opens_slice Try.underlying22 (by kernel_rfl) (by decide) op4
theorem op34 : Opens Try.prog 34 (rSlice 3 rInt) := opens_slice Try.underlying34 (by kernel_rfl) (by decide) op3
theorem op23 : Opens Try.prog 23 (rSlice 34 (rSlice 3 rInt)) := opens_slice Try.underlying23 (by kernel_rfl) (by decide) op34
theorem op25 : Opens Try.prog 25 (rProd rInt (rProd (rSlice 4 rBool) (rSlice 34 (rSlice 3 rInt)))) := by
  refine opens_struct Try.underlying25 (by kernel_rfl) ?_
  refine opens_next (R := rInt) (S := rProd (rSlice 4 rBool) (rSlice 34 (rSlice 3 rInt))) rfl (by kernel_rfl) op3 ?_
  refine opens_next (R := rSlice 4 rBool) (S := rSlice 34 (rSlice 3 rInt)) rfl (by kernel_rfl) op22 ?_
  exact opens_last rfl (by kernel_rfl) op23
theorem rdL25 {W : World} {base : Nat} {z : Value} {H : Type} {enc : TypeId × Value → H} {d : DataW H} {p : List MemPlace} (hv : Value.okWide Try.prog W .any base 25 z) (h : DataW.Trod enc Try.prog W 0 (fun _ => true) true 25 z d p) :
    ∃ (x : Int × (List Bool) × (List (List Int))) (v0 : Value) (v1 : Value), z = .agg #[.int .i64 x.1, v0, v1] ∧ Data.lim x ∧ (rSlice 4 rBool).rd (hp W) [v0] x.2.1 ∧ (rSlice 34 (rSlice 3 rInt)).rd (hp W) [v1] x.2.2 := by
  obtain ⟨fuel, hf⟩ := h
  obtain ⟨⟨cs⟩, rfl, -⟩ := okWide_struct Try.underlying25 hv
  obtain ⟨x, hx, hl⟩ := op25.out enc W _ _ _ hf
  have hx : (rProd rInt (rProd (rSlice 4 rBool) (rSlice 34 (rSlice 3 rInt)))).rd (hp W) cs x := hx
  obtain ⟨_, _, rfl, rfl, ⟨_, _, rfl, r0, r1⟩⟩ := hx
  obtain ⟨v0, rfl⟩ := one_cell r0 rfl
  obtain ⟨v1, rfl⟩ := one_cell r1 rfl
  exact ⟨x, v0, v1, rfl, hl, r0, r1⟩
end D
open D (Data)
theorem rowLComplementAutomaton (W : World) (args : Array Value) (H : Type) (enc : TypeId × Value → H) (base : Nat) (ds gs : List (DataW H)) (before : List MemPlace)
    (hval : ∀ (j : Nat) t v, Try.f10.params[j]? = some t → args[j]? = some v → Value.okWide Try.prog W .any base t v)
    (hW : DataW.Whole enc Try.prog Try.f10.params.toList Rows.fnExactComplementAutomatonSpec.vars false W args.toList ds gs before) :
    Calls Try.prog 10 args W fun e W' => ∃ v, e = .returned v ∧ Rows.fnExactComplementAutomatonSpec.post enc Try.prog Try.f10 false true false false W args v W' := by
  have hW' := hW
  obtain ⟨p, q, hA, hV, rfl, hfz, hnd⟩ := hW
  rw [Try.params10] at hA hval
  obtain ⟨z0, vs0, d0, ds0, p0, q0, hargs, rfl, rfl, h0, r0⟩ := trodAll_cons hA
  obtain ⟨rfl, rfl, rfl⟩ := trodAll_nil r0
  obtain rfl : args = #[z0] := by cases args; simp_all
  obtain ⟨rfl, rfl⟩ := trodVars_none hV
  obtain ⟨x0, v0_0, v0_1, rfl, l0, r0_0, r0_1⟩ := D.rdL25 (hval 0 _ _ rfl rfl) h0
  have hc := D.c_w_FnExactComplementAutomaton x0 true (D.lawComplementAutomaton x0 l0) (I := D.hp W) (w0 := W) v0_0 v0_1 r0_0 r0_1 W [] (D.St.init W)
  refine hc.mono fun e W' ⟨v, he, hv, hs⟩ => ?_
  subst he; subst hv
  exact ⟨_, rfl, law_post (f := Try.f10) (s := Rows.fnExactComplementAutomatonSpec) 4 Try.underlying4 rfl (by kernel_rfl) rfl hW' rfl rfl rfl (D.St.below hs)⟩
theorem liftedLComplementAutomaton (os : Os) (started : os.Started) (H : Type) (enc : TypeId × Value → H) :
    ReturnsInHanded {} Try.checked os 10 .any (Rows.fnExactComplementAutomatonSpec.pre6 enc Try.prog Try.f10 Rows.fnExactComplementAutomatonRow.domain false) (Rows.fnExactComplementAutomatonSpec.post enc Try.prog Try.f10 false true false false) := by
  refine returnsInHanded_of_change_sized (C := Try.checked) own started (by kernel_rfl) Try.func10
    (ChangeSpec.witness6 (enc := enc) (C := Try.checked) false ⟨#[], #[.agg #[.int .i64 0, .slice none 0 0, .slice none 0 0]], []⟩ 8 (by kernel_rfl) (by kernel_rfl) (by kernel_rfl) (by kernel_rfl)) ?_
  intro W base args ds gs before hval hW hcnd hsz _
  exact rowLComplementAutomaton W args H enc base ds gs before hval hW
theorem holdsLComplementAutomaton : Rows.FnExactComplementAutomatonSaid :=
  OpenClaim.holds_of_wide 10 Try.f10 rfl rfl rfl rfl rfl rfl rfl ⟨rfl, rfl, rfl, rfl, rfl⟩ rfl rfl rfl rfl rfl (by kernel_rfl) Try.func10 (by kernel_rfl)
    (of_decide_eq_true (by kernel_rfl)) (by unfold Func.isWrapper; first | (rw [if_pos (by decide +kernel)]; kernel_rfl) | (rw [if_neg (by decide +kernel)]; exact ⟨rfl, rfl⟩))
    (fun os started H enc _ => liftedLComplementAutomaton os started H enc)
end Go.Proofs.Ytcihbmdppgpmjaa
