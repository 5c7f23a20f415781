/- FnExactAuditName: for every int the law returns true and leaves everything that was there. No condition. -/
import Derived.Test.YtokiommgielfjaaLaw
import Derived.WalkSpells
import Derived.WalkLawsBesides
set_option linter.unusedVariables false
set_option linter.unusedSimpArgs false
namespace Go.Proofs.Ytokiommgielfjaa.auditName
open Go.ChangeShapes Go.WideShapes Go.ChangeAt Go.RowKit
def inB (n a b : Int) : Bool := decide (a ≤ n) && decide (n ≤ b)
theorem inB_false {n a b : Int} (h : n < a ∨ b < n) : inB n a b = false := by simp [inB]; omega
theorem swithin_any (n a b : Int) (w : World) :
    Calls Try.prog 22 #[.int .i64 n, .int .i64 a, .int .i64 b] w fun e w' => e = .returned (.bool (inB n a b)) ∧ w = w' := by
  by_cases h1 : a ≤ n <;> by_cases h2 : n ≤ b
  all_goals
    go_enter Try.func22, Try.ntmps22
    go_wp2
    all_goals go_ret
    all_goals exact ⟨by simp [inB, *], rfl⟩
theorem iwithin_any (n a b : Int) (w : World) :
    Calls Try.prog 23 #[.int .i64 n, .int .i64 a, .int .i64 b] w fun e w' => e = .returned (.bool (inB n a b)) ∧ w = w' := by
  by_cases h1 : a ≤ n <;> by_cases h2 : n ≤ b
  all_goals
    go_enter Try.func23, Try.ntmps23
    go_wp2
    all_goals go_ret
    all_goals exact ⟨by simp [inB, *], rfl⟩
def nm (n : Int) : ByteArray := if n = 0 then ⟨#[111, 107]⟩ else if n = 1 then ⟨#[105, 110, 118, 97, 108, 105, 100]⟩ else if n = 2 then ⟨#[109, 105, 115, 115, 105, 110, 103]⟩ else if n = 3 then ⟨#[101, 120, 116, 114, 97]⟩ else if n = 4 then ⟨#[119, 105, 116, 110, 101, 115, 115]⟩ else if n = 5 then ⟨#[108, 101, 110, 103, 116, 104]⟩ else ⟨#[]⟩
set_option maxHeartbeats 400000 in
theorem sname_any (n : Int) (w : World) :
    Calls Try.prog 6 #[.int .i64 n] w fun e w' => e = .returned (.string (nm n)) ∧ Below w.heap.size w w' := by
  by_cases h : n < 0 ∨ 5 < n
  · have hf : inB n 0 5 = false := inB_false h
    have e0 : Hid (nm n = ⟨#[]⟩) := by unfold Hid nm; (repeat rw [if_neg (by omega)])
    go_enter Try.func6, Try.ntmps6
    go_wp2_with (go_at_call 22; refine (swithin_any _ _ _ _).mono ?_; rintro e w' ⟨rfl, rfl⟩)
    go_ret
    exact ⟨by rw [e0.out]; rfl, Below.refl _ _⟩
  · rcases (show n = 0 ∨ n = 1 ∨ n = 2 ∨ n = 3 ∨ n = 4 ∨ n = 5 from by omega) with rfl | rfl | rfl | rfl | rfl | rfl
    all_goals
      clear h
      go_enter Try.func6, Try.ntmps6
      go_wp2_with (go_at_call 22; refine (swithin_any _ _ _ _).mono ?_; rintro e w' ⟨rfl, rfl⟩)
      go_ret
      exact ⟨rfl, (Below.refl _ _).alloc (Nat.le_refl _) _⟩
set_option maxHeartbeats 400000 in
theorem iname_any (n : Int) (w : World) :
    Calls Try.prog 7 #[.int .i64 n] w fun e w' => e = .returned (.string (nm n)) ∧ Below w.heap.size w w' := by
  by_cases h : n < 0 ∨ 5 < n
  · have hf : inB n 0 5 = false := inB_false h
    have e0 : Hid (nm n = ⟨#[]⟩) := by unfold Hid nm; (repeat rw [if_neg (by omega)])
    go_enter Try.func7, Try.ntmps7
    go_wp2_with (go_at_call 23; refine (iwithin_any _ _ _ _).mono ?_; rintro e w' ⟨rfl, rfl⟩)
    go_ret
    exact ⟨by rw [e0.out]; rfl, Below.refl _ _⟩
  · rcases (show n = 0 ∨ n = 1 ∨ n = 2 ∨ n = 3 ∨ n = 4 ∨ n = 5 from by omega) with rfl | rfl | rfl | rfl | rfl | rfl
    all_goals
      clear h
      go_enter Try.func7, Try.ntmps7
      go_wp2_with (go_at_call 23; refine (iwithin_any _ _ _ _).mono ?_; rintro e w' ⟨rfl, rfl⟩)
      go_ret
      exact ⟨rfl, (Below.refl _ _).alloc (Nat.le_refl _) _⟩
theorem law_any (n : Int) (w : World) :
    Calls Try.prog 3 #[.int .i64 n] w fun e w' => e = .returned (.bool true) ∧ Below w.heap.size w w' := by
  go_enter Try.func3, Try.ntmps3
  go_wp2_with (first | (go_at_call 6; refine (sname_any _ _).mono ?_; rintro e w1 ⟨rfl, hb1⟩) | (go_at_call 7; refine (iname_any _ _).mono ?_; rintro e w2 ⟨rfl, hb2⟩))
  all_goals go_ret
  all_goals exact ⟨rfl, hb1.trans (hb2.mono hb1.size)⟩
set_option maxRecDepth 100000 in
theorem lifted (os : Os) (started : os.Started) (H : Type) (enc : TypeId × Value → H) :
    ReturnsInHanded {} Try.checked os 3 .any (Rows.fnExactAuditNameSpec.pre6 enc Try.prog Try.f3 Rows.fnExactAuditNameRow.domain false) (Rows.fnExactAuditNameSpec.post enc Try.prog Try.f3 false true false false) := by
  refine returnsInHanded_of_change (C := Try.checked) own started (by kernel_rfl) Try.func3
    (ChangeSpec.witness6 (enc := enc) (C := Try.checked) false ⟨#[], #[.int .i64 0], []⟩ 8 (by kernel_rfl) (by kernel_rfl) (by kernel_rfl) (by kernel_rfl)) ?_
  intro W base args ds gs before hval0 hW0 hcnd _
  have hval : ∀ (j : Nat) t v, Try.f3.params[j]? = some t → args[j]? = some v → Value.okWide Try.prog W .any base t v := hval0
  have hW : DataW.Whole enc Try.prog Try.f3.params.toList Rows.fnExactAuditNameSpec.vars false W args.toList ds gs before := hW0
  have hW' := hW
  obtain ⟨p, q, hA, hV, rfl, hfz, hnd⟩ := hW
  rw [Try.params3] at hA hval
  obtain ⟨v0, d0, rfl, rfl, h0⟩ := trodAll_one hA
  obtain ⟨rfl, rfl⟩ := trodVars_none hV
  obtain ⟨a, rfl, rfl, rfl, wa⟩ := open_int Try.underlying3 (hval 0 3 v0 rfl rfl) h0
  refine (law_any a W).mono fun e W' ⟨he, hb⟩ => ?_
  subst he
  exact ⟨_, rfl, law_post (f := Try.f3) (s := Rows.fnExactAuditNameSpec) 4 Try.underlying4 rfl (by kernel_rfl) rfl hW' rfl rfl rfl hb⟩
theorem holds : Rows.FnExactAuditNameSaid :=
  OpenClaim.holds_of_wide 3 Try.f3 rfl rfl rfl rfl rfl rfl rfl ⟨rfl, rfl, rfl, rfl, rfl⟩ rfl rfl rfl rfl rfl (by kernel_rfl) Try.func3 (by kernel_rfl)
    (of_decide_eq_true (by kernel_rfl)) (by unfold Func.isWrapper; first | (rw [if_pos (by decide +kernel)]; kernel_rfl) | (rw [if_neg (by decide +kernel)]; exact ⟨rfl, rfl⟩))
    (fun os started H enc _ => lifted os started H enc)
end Go.Proofs.Ytokiommgielfjaa.auditName
