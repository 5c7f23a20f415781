/- FnExactEqualEngines: for every input the law returns true and changes nothing that was there. (Printed by genrow.py over the walk and the plain law.) -/
import Derived.Test.YtcihbmdppgpmjaaEw7_0
import Derived.Test.YtcihbmdppgpmjaaEqEn
import Derived.Test.YtcihbmdppgpmjaaLaw
import Derived.Test.YtcihbmdppgpmjaaRead
import Derived.Test.YtcihbmdppgpmjaaRows
set_option linter.unusedVariables false
set_option linter.unusedSimpArgs false
set_option linter.unnecessarySimpa false
set_option maxRecDepth 100000
namespace Go.Proofs.Ytcihbmdppgpmjaa
open Go.ChangeShapes Go.WideShapes Go.ChangeAt Go.RowKit
namespace D
theorem op3 : Opens Try.prog 3 rInt := opens_int Try.underlying3
theorem op34 : Opens Try.prog 34 (rSlice 3 rInt) := opens_slice Try.underlying34 (by kernel_rfl) (by decide) op3
theorem op128 : Opens Try.prog 128 (rProd rInt (rProd rInt (rProd rInt rInt))) := by
  refine opens_struct Try.underlying128 (by kernel_rfl) ?_
  refine opens_next (R := rInt) (S := rProd (rInt) (rProd (rInt) (rInt))) rfl (by kernel_rfl) op3 ?_
  refine opens_next (R := rInt) (S := rProd (rInt) (rInt)) rfl (by kernel_rfl) op3 ?_
  refine opens_next (R := rInt) (S := rInt) rfl (by kernel_rfl) op3 ?_
  exact opens_last rfl (by kernel_rfl) op3
theorem op35 : Opens Try.prog 35 (rSlice 128 (rProd rInt (rProd rInt (rProd rInt rInt)))) := opens_slice Try.underlying35 (by kernel_rfl) (by decide) op128
theorem op37 : Opens Try.prog 37 (rProd (rSlice 3 rInt) (rSlice 128 (rProd rInt (rProd rInt (rProd rInt rInt))))) := by
  refine opens_struct Try.underlying37 (by kernel_rfl) ?_
  refine opens_next (R := rSlice 3 rInt) (S := rSlice 128 (rProd rInt (rProd rInt (rProd rInt rInt)))) rfl (by kernel_rfl) op34 ?_
  exact opens_last rfl (by kernel_rfl) op35
theorem op57 : Opens Try.prog 57 (rSlice 37 (rProd (rSlice 3 rInt) (rSlice 128 (rProd rInt (rProd rInt (rProd rInt rInt)))))) := opens_slice Try.underlying57 (by kernel_rfl) (by decide) op37
theorem op59 : Opens Try.prog 59 (rProd rInt (rSlice 37 (rProd (rSlice 3 rInt) (rSlice 128 (rProd rInt (rProd rInt (rProd rInt rInt))))))) := by
  refine opens_struct Try.underlying59 (by kernel_rfl) ?_
  refine opens_next (R := rInt) (S := rSlice 37 (rProd (rSlice 3 rInt) (rSlice 128 (rProd rInt (rProd rInt (rProd rInt rInt)))))) rfl (by kernel_rfl) op3 ?_
  exact opens_last rfl (by kernel_rfl) op57
theorem op4 : Opens Try.prog 4 rBool := opens_bool Try.underlying4
theorem op22 : Opens Try.prog 22 (rSlice 4 rBool) := opens_slice Try.underlying22 (by kernel_rfl) (by decide) op4
theorem op23 : Opens Try.prog 23 (rSlice 34 (rSlice 3 rInt)) := opens_slice Try.underlying23 (by kernel_rfl) (by decide) op34
theorem op25 : Opens Try.prog 25 (rProd rInt (rProd (rSlice 4 rBool) (rSlice 34 (rSlice 3 rInt)))) := by
  refine opens_struct Try.underlying25 (by kernel_rfl) ?_
  refine opens_next (R := rInt) (S := rProd (rSlice 4 rBool) (rSlice 34 (rSlice 3 rInt))) rfl (by kernel_rfl) op3 ?_
  refine opens_next (R := rSlice 4 rBool) (S := rSlice 34 (rSlice 3 rInt)) rfl (by kernel_rfl) op22 ?_
  exact opens_last rfl (by kernel_rfl) op23
theorem op60 : Opens Try.prog 60 (rSlice 25 (rProd rInt (rProd (rSlice 4 rBool) (rSlice 34 (rSlice 3 rInt))))) := opens_slice Try.underlying60 (by kernel_rfl) (by decide) op25
theorem op222 : Opens Try.prog 222 (rProd rInt (rProd rInt (rProd rInt rInt))) := by
  refine opens_struct Try.underlying222 (by kernel_rfl) ?_
  refine opens_next (R := rInt) (S := rProd (rInt) (rProd (rInt) (rInt))) rfl (by kernel_rfl) op3 ?_
  refine opens_next (R := rInt) (S := rProd (rInt) (rInt)) rfl (by kernel_rfl) op3 ?_
  refine opens_next (R := rInt) (S := rInt) rfl (by kernel_rfl) op3 ?_
  exact opens_last rfl (by kernel_rfl) op3
theorem op191 : Opens Try.prog 191 (rSlice 222 (rProd rInt (rProd rInt (rProd rInt rInt)))) := opens_slice Try.underlying191 (by kernel_rfl) (by decide) op222
theorem op193 : Opens Try.prog 193 (rSlice 222 (rProd rInt (rProd rInt (rProd rInt rInt)))) := by
  refine opens_struct Try.underlying193 (by kernel_rfl) ?_
  exact opens_last rfl (by kernel_rfl) op191
theorem op195 : Opens Try.prog 195 (rProd rInt (rProd (rSlice 222 (rProd rInt (rProd rInt (rProd rInt rInt)))) rInt)) := by
  refine opens_struct Try.underlying195 (by kernel_rfl) ?_
  refine opens_next (R := rInt) (S := rProd (rSlice 222 (rProd rInt (rProd rInt (rProd rInt rInt)))) (rInt)) rfl (by kernel_rfl) op3 ?_
  refine opens_next (R := rSlice 222 (rProd rInt (rProd rInt (rProd rInt rInt)))) (S := rInt) rfl (by kernel_rfl) op193 ?_
  exact opens_last rfl (by kernel_rfl) op3
theorem op61 : Opens Try.prog 61 (rSlice 195 (rProd rInt (rProd (rSlice 222 (rProd rInt (rProd rInt (rProd rInt rInt)))) rInt))) := opens_slice Try.underlying61 (by kernel_rfl) (by decide) op195
theorem op63 : Opens Try.prog 63 (rProd (rSlice 25 (rProd rInt (rProd (rSlice 4 rBool) (rSlice 34 (rSlice 3 rInt))))) (rSlice 195 (rProd rInt (rProd (rSlice 222 (rProd rInt (rProd rInt (rProd rInt rInt)))) rInt)))) := by
  refine opens_struct Try.underlying63 (by kernel_rfl) ?_
  refine opens_next (R := rSlice 25 (rProd rInt (rProd (rSlice 4 rBool) (rSlice 34 (rSlice 3 rInt))))) (S := rSlice 195 (rProd rInt (rProd (rSlice 222 (rProd rInt (rProd rInt (rProd rInt rInt)))) rInt))) rfl (by kernel_rfl) op60 ?_
  exact opens_last rfl (by kernel_rfl) op61
theorem op153 : Opens Try.prog 153 (rProd rInt (rProd rInt rInt)) := by
  refine opens_struct Try.underlying153 (by kernel_rfl) ?_
  refine opens_next (R := rInt) (S := rProd (rInt) (rInt)) rfl (by kernel_rfl) op3 ?_
  refine opens_next (R := rInt) (S := rInt) rfl (by kernel_rfl) op3 ?_
  exact opens_last rfl (by kernel_rfl) op3
theorem op64 : Opens Try.prog 64 (rSlice 153 (rProd rInt (rProd rInt rInt))) := opens_slice Try.underlying64 (by kernel_rfl) (by decide) op153
theorem op9 : Opens Try.prog 9 rStr := opens_string Try.underlying9
theorem op66 : Opens Try.prog 66 (rProd (rProd rInt (rSlice 37 (rProd (rSlice 3 rInt) (rSlice 128 (rProd rInt (rProd rInt (rProd rInt rInt))))))) (rProd (rProd (rSlice 25 (rProd rInt (rProd (rSlice 4 rBool) (rSlice 34 (rSlice 3 rInt))))) (rSlice 195 (rProd rInt (rProd (rSlice 222 (rProd rInt (rProd rInt (rProd rInt rInt)))) rInt)))) (rProd (rSlice 153 (rProd rInt (rProd rInt rInt))) rStr))) := by
  refine opens_struct Try.underlying66 (by kernel_rfl) ?_
  refine opens_next (R := rProd rInt (rSlice 37 (rProd (rSlice 3 rInt) (rSlice 128 (rProd rInt (rProd rInt (rProd rInt rInt))))))) (S := rProd (rProd (rSlice 25 (rProd rInt (rProd (rSlice 4 rBool) (rSlice 34 (rSlice 3 rInt))))) (rSlice 195 (rProd rInt (rProd (rSlice 222 (rProd rInt (rProd rInt (rProd rInt rInt)))) rInt)))) (rProd (rSlice 153 (rProd rInt (rProd rInt rInt))) (rStr))) rfl (by kernel_rfl) op59 ?_
  refine opens_next (R := rProd (rSlice 25 (rProd rInt (rProd (rSlice 4 rBool) (rSlice 34 (rSlice 3 rInt))))) (rSlice 195 (rProd rInt (rProd (rSlice 222 (rProd rInt (rProd rInt (rProd rInt rInt)))) rInt)))) (S := rProd (rSlice 153 (rProd rInt (rProd rInt rInt))) (rStr)) rfl (by kernel_rfl) op63 ?_
  refine opens_next (R := rSlice 153 (rProd rInt (rProd rInt rInt))) (S := rStr) rfl (by kernel_rfl) op64 ?_
  exact opens_last rfl (by kernel_rfl) op9
theorem rdL66 {W : World} {base : Nat} {z : Value} {H : Type} {enc : TypeId × Value → H} {d : DataW H} {p : List MemPlace} (hv : Value.okWide Try.prog W .any base 66 z) (h : DataW.Trod enc Try.prog W 0 (fun _ => true) true 66 z d p) :
    ∃ (x : (Int × (List ((List Int) × (List (Int × Int × Int × Int))))) × ((List (Int × (List Bool) × (List (List Int)))) × (List (Int × ((List (Int × Int × Int × Int))) × Int))) × (List (Int × Int × Int)) × ByteArray) (v0 : Value) (v1 : Value) (v2 : Value) (v3 : Value), z = .agg #[.int .i64 x.1.1, v0, v1, v2, v3, .string x.2.2.2] ∧ Data.lim x ∧ (rSlice 37 (rProd (rSlice 3 rInt) (rSlice 128 (rProd rInt (rProd rInt (rProd rInt rInt)))))).rd (hp W) [v0] x.1.2 ∧ (rSlice 25 (rProd rInt (rProd (rSlice 4 rBool) (rSlice 34 (rSlice 3 rInt))))).rd (hp W) [v1] x.2.1.1 ∧ (rSlice 195 (rProd rInt (rProd (rSlice 222 (rProd rInt (rProd rInt (rProd rInt rInt)))) rInt))).rd (hp W) [v2] x.2.1.2 ∧ (rSlice 153 (rProd rInt (rProd rInt rInt))).rd (hp W) [v3] x.2.2.1 := by
  obtain ⟨fuel, hf⟩ := h
  obtain ⟨⟨cs⟩, rfl, -⟩ := okWide_struct Try.underlying66 hv
  obtain ⟨x, hx, hl⟩ := op66.out enc W _ _ _ hf
  have hx : (rProd (rProd rInt (rSlice 37 (rProd (rSlice 3 rInt) (rSlice 128 (rProd rInt (rProd rInt (rProd rInt rInt))))))) (rProd (rProd (rSlice 25 (rProd rInt (rProd (rSlice 4 rBool) (rSlice 34 (rSlice 3 rInt))))) (rSlice 195 (rProd rInt (rProd (rSlice 222 (rProd rInt (rProd rInt (rProd rInt rInt)))) rInt)))) (rProd (rSlice 153 (rProd rInt (rProd rInt rInt))) rStr))).rd (hp W) cs x := hx
  obtain ⟨_, _, rfl, ⟨_, _, rfl, rfl, r0⟩, ⟨_, _, rfl, ⟨_, _, rfl, r1, r2⟩, ⟨_, _, rfl, r3, rfl⟩⟩⟩ := hx
  obtain ⟨v0, rfl⟩ := one_cell r0 rfl
  obtain ⟨v1, rfl⟩ := one_cell r1 rfl
  obtain ⟨v2, rfl⟩ := one_cell r2 rfl
  obtain ⟨v3, rfl⟩ := one_cell r3 rfl
  exact ⟨x, v0, v1, v2, v3, rfl, hl, r0, r1, r2, r3⟩
end D
open D (Data)
theorem rowLEqualEngines (W : World) (args : Array Value) (H : Type) (enc : TypeId × Value → H) (base : Nat) (ds gs : List (DataW H)) (before : List MemPlace)
    (hval : ∀ (j : Nat) t v, Try.f11.params[j]? = some t → args[j]? = some v → Value.okWide Try.prog W .any base t v)
    (hW : DataW.Whole enc Try.prog Try.f11.params.toList Rows.fnExactEqualEnginesSpec.vars false W args.toList ds gs before) :
    Calls Try.prog 11 args W fun e W' => ∃ v, e = .returned v ∧ Rows.fnExactEqualEnginesSpec.post enc Try.prog Try.f11 false true false false W args v W' := by
  have hW' := hW
  obtain ⟨p, q, hA, hV, rfl, hfz, hnd⟩ := hW
  rw [Try.params11] at hA hval
  obtain ⟨z0, vs0, d0, ds0, p0, q0, hargs, rfl, rfl, h0, r0⟩ := trodAll_cons hA
  obtain ⟨z1, vs1, d1, ds1, p1, q1, rfl, rfl, rfl, h1, r1⟩ := trodAll_cons r0
  obtain ⟨rfl, rfl, rfl⟩ := trodAll_nil r1
  obtain rfl : args = #[z0, z1] := by cases args; simp_all
  obtain ⟨rfl, rfl⟩ := trodVars_none hV
  obtain ⟨x0, v0_0, v0_1, v0_2, v0_3, rfl, l0, r0_0, r0_1, r0_2, r0_3⟩ := D.rdL66 (hval 0 _ _ rfl rfl) h0
  obtain ⟨x1, v1_0, v1_1, v1_2, v1_3, rfl, l1, r1_0, r1_1, r1_2, r1_3⟩ := D.rdL66 (hval 1 _ _ rfl rfl) h1
  have hc := D.c_w_FnExactEqualEngines x0 x1 true (D.lawEqualEngines x0 x1 l0 l1) (I := D.hp W) (w0 := W) v0_0 v0_1 v0_2 v0_3 v1_0 v1_1 v1_2 v1_3 r0_0 r0_1 r0_2 r0_3 r1_0 r1_1 r1_2 r1_3 W [] (D.St.init W)
  refine hc.mono fun e W' ⟨v, he, hv, hs⟩ => ?_
  subst he; subst hv
  exact ⟨_, rfl, law_post (f := Try.f11) (s := Rows.fnExactEqualEnginesSpec) 4 Try.underlying4 rfl (by kernel_rfl) rfl hW' rfl rfl rfl (D.St.below hs)⟩
theorem liftedLEqualEngines (os : Os) (started : os.Started) (H : Type) (enc : TypeId × Value → H) :
    ReturnsInHanded {} Try.checked os 11 .any (Rows.fnExactEqualEnginesSpec.pre6 enc Try.prog Try.f11 Rows.fnExactEqualEnginesRow.domain false) (Rows.fnExactEqualEnginesSpec.post enc Try.prog Try.f11 false true false false) := by
  refine returnsInHanded_of_change_sized (C := Try.checked) own started (by kernel_rfl) Try.func11
    (ChangeSpec.witness6 (enc := enc) (C := Try.checked) false ⟨#[], #[.agg #[.int .i64 0, .slice none 0 0, .slice none 0 0, .slice none 0 0, .slice none 0 0, .string ⟨#[]⟩], .agg #[.int .i64 0, .slice none 0 0, .slice none 0 0, .slice none 0 0, .slice none 0 0, .string ⟨#[]⟩]], []⟩ 8 (by kernel_rfl) (by kernel_rfl) (by kernel_rfl) (by kernel_rfl)) ?_
  intro W base args ds gs before hval hW hcnd hsz _
  exact rowLEqualEngines W args H enc base ds gs before hval hW
theorem holdsLEqualEngines : Rows.FnExactEqualEnginesSaid :=
  OpenClaim.holds_of_wide 11 Try.f11 rfl rfl rfl rfl rfl rfl rfl ⟨rfl, rfl, rfl, rfl, rfl⟩ rfl rfl rfl rfl rfl (by kernel_rfl) Try.func11 (by kernel_rfl)
    (of_decide_eq_true (by kernel_rfl)) (by unfold Func.isWrapper; first | (rw [if_pos (by decide +kernel)]; kernel_rfl) | (rw [if_neg (by decide +kernel)]; exact ⟨rfl, rfl⟩))
    (fun os started H enc _ => liftedLEqualEngines os started H enc)
end Go.Proofs.Ytcihbmdppgpmjaa
