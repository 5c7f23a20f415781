/- FnExactNewEngine: for every input the law returns true and changes nothing that was there. (Printed by genrow.py over the walk and the plain law.) -/
import Derived.Test.YtfkocnnphjkmfaaNw4
import Derived.Test.YtfkocnnphjkmfaaNNewEngine
import Derived.Test.YtfkocnnphjkmfaaLaw
import Derived.Test.YtfkocnnphjkmfaaRead
import Derived.Test.YtfkocnnphjkmfaaRows
set_option linter.unusedVariables false
set_option linter.unusedSimpArgs false
set_option linter.unnecessarySimpa false
set_option maxRecDepth 100000
namespace Go.Proofs.Ytfkocnnphjkmfaa
open Go.ChangeShapes Go.WideShapes Go.ChangeAt Go.RowKit
namespace D
theorem op3 : Opens Try.prog 3 rInt := opens_int Try.underlying3
theorem op43 : Opens Try.prog 43 (rSlice 3 rInt) := opens_slice Try.underlying43 (by kernel_rfl) (by decide) op3
theorem op106 : Opens Try.prog 106 (rProd rInt (rProd rInt (rProd rInt rInt))) := by
  refine opens_struct Try.underlying106 (by kernel_rfl) ?_
  refine opens_next (R := rInt) (S := rProd (rInt) (rProd (rInt) (rInt))) rfl (by kernel_rfl) op3 ?_
  refine opens_next (R := rInt) (S := rProd (rInt) (rInt)) rfl (by kernel_rfl) op3 ?_
  refine opens_next (R := rInt) (S := rInt) rfl (by kernel_rfl) op3 ?_
  exact opens_last rfl (by kernel_rfl) op3
theorem op44 : Opens Try.prog 44 (rSlice 106 (rProd rInt (rProd rInt (rProd rInt rInt)))) := opens_slice Try.underlying44 (by kernel_rfl) (by decide) op106
theorem op46 : Opens Try.prog 46 (rProd (rSlice 3 rInt) (rSlice 106 (rProd rInt (rProd rInt (rProd rInt rInt))))) := by
  refine opens_struct Try.underlying46 (by kernel_rfl) ?_
  refine opens_next (R := rSlice 3 rInt) (S := rSlice 106 (rProd rInt (rProd rInt (rProd rInt rInt)))) rfl (by kernel_rfl) op43 ?_
  exact opens_last rfl (by kernel_rfl) op44
theorem rdL46 {W : World} {base : Nat} {z : Value} {H : Type} {enc : TypeId × Value → H} {d : DataW H} {p : List MemPlace} (hv : Value.okWide Try.prog W .any base 46 z) (h : DataW.Trod enc Try.prog W 0 (fun _ => true) true 46 z d p) :
    ∃ (x : (List Int) × (List (Int × Int × Int × Int))) (v0 : Value) (v1 : Value), z = .agg #[v0, v1] ∧ Data.lim x ∧ (rSlice 3 rInt).rd (hp W) [v0] x.1 ∧ (rSlice 106 (rProd rInt (rProd rInt (rProd rInt rInt)))).rd (hp W) [v1] x.2 := by
  obtain ⟨fuel, hf⟩ := h
  obtain ⟨⟨cs⟩, rfl, -⟩ := okWide_struct Try.underlying46 hv
  obtain ⟨x, hx, hl⟩ := op46.out enc W _ _ _ hf
  have hx : (rProd (rSlice 3 rInt) (rSlice 106 (rProd rInt (rProd rInt (rProd rInt rInt))))).rd (hp W) cs x := hx
  obtain ⟨_, _, rfl, r0, r1⟩ := hx
  obtain ⟨v0, rfl⟩ := one_cell r0 rfl
  obtain ⟨v1, rfl⟩ := one_cell r1 rfl
  exact ⟨x, v0, v1, rfl, hl, r0, r1⟩
end D
open D (Data)
theorem rowLNewEngine (W : World) (args : Array Value) (H : Type) (enc : TypeId × Value → H) (base : Nat) (ds gs : List (DataW H)) (before : List MemPlace)
    (hval : ∀ (j : Nat) t v, Try.f4.params[j]? = some t → args[j]? = some v → Value.okWide Try.prog W .any base t v)
    (hW : DataW.Whole enc Try.prog Try.f4.params.toList Rows.fnExactNewEngineSpec.vars false W args.toList ds gs before) :
    Calls Try.prog 4 args W fun e W' => ∃ v, e = .returned v ∧ Rows.fnExactNewEngineSpec.post enc Try.prog Try.f4 false true false false W args v W' := by
  have hW' := hW
  obtain ⟨p, q, hA, hV, rfl, hfz, hnd⟩ := hW
  rw [Try.params4] at hA hval
  obtain ⟨z0, vs0, d0, ds0, p0, q0, hargs, rfl, rfl, h0, r0⟩ := trodAll_cons hA
  obtain ⟨rfl, rfl, rfl⟩ := trodAll_nil r0
  obtain rfl : args = #[z0] := by cases args; simp_all
  obtain ⟨rfl, rfl⟩ := trodVars_none hV
  obtain ⟨x0, v0_0, v0_1, rfl, l0, r0_0, r0_1⟩ := D.rdL46 (hval 0 _ _ rfl rfl) h0
  have hc := D.c_w_FnExactNewEngine x0 true (D.lawNewEngine x0 l0) (I := D.hp W) (w0 := W) v0_0 v0_1 r0_0 r0_1 W [] (D.St.init W)
  refine hc.mono fun e W' ⟨v, he, hv, hs⟩ => ?_
  subst he; subst hv
  exact ⟨_, rfl, law_post (f := Try.f4) (s := Rows.fnExactNewEngineSpec) 4 Try.underlying4 rfl (by kernel_rfl) rfl hW' rfl rfl rfl (D.St.below hs)⟩
theorem liftedLNewEngine (os : Os) (started : os.Started) (H : Type) (enc : TypeId × Value → H) :
    ReturnsInHanded {} Try.checked os 4 .any (Rows.fnExactNewEngineSpec.pre6 enc Try.prog Try.f4 Rows.fnExactNewEngineRow.domain false) (Rows.fnExactNewEngineSpec.post enc Try.prog Try.f4 false true false false) := by
  refine returnsInHanded_of_change_sized (C := Try.checked) own started (by kernel_rfl) Try.func4
    (ChangeSpec.witness6 (enc := enc) (C := Try.checked) false ⟨#[], #[.agg #[.slice none 0 0, .slice none 0 0]], []⟩ 8 (by kernel_rfl) (by kernel_rfl) (by kernel_rfl) (by kernel_rfl)) ?_
  intro W base args ds gs before hval hW hcnd hsz _
  exact rowLNewEngine W args H enc base ds gs before hval hW
theorem holdsLNewEngine : Rows.FnExactNewEngineSaid :=
  OpenClaim.holds_of_wide 4 Try.f4 rfl rfl rfl rfl rfl rfl rfl ⟨rfl, rfl, rfl, rfl, rfl⟩ rfl rfl rfl rfl rfl (by kernel_rfl) Try.func4 (by kernel_rfl)
    (of_decide_eq_true (by kernel_rfl)) (by unfold Func.isWrapper; first | (rw [if_pos (by decide +kernel)]; kernel_rfl) | (rw [if_neg (by decide +kernel)]; exact ⟨rfl, rfl⟩))
    (fun os started H enc _ => liftedLNewEngine os started H enc)
end Go.Proofs.Ytfkocnnphjkmfaa
