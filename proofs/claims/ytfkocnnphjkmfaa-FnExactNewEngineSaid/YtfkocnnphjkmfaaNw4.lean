/- Printed by rclaim.py: each function computes what its model says; the code is run, and the two are compared. -/
import Derived.Test.YtfkocnnphjkmfaaNw3
set_option linter.unusedVariables false
set_option maxRecDepth 1000000
namespace Go.Proofs.Ytfkocnnphjkmfaa.R
open Go.RowKit
open Go.Proofs.Ytfkocnnphjkmfaa.D
theorem k_w_FnExactNewEngine : FOk Try.prog 4 F_w_FnExactNewEngine := fok (V := ⟨tt, [(16, F_w_szGraph), (17, F_s_NewEngine), (18, F_w_toGraph), (19, F_i_NewEngine), (20, F_w_eqEngine), (21, F_w_eqGraph), (22, F_w_markGraph), (23, F_w_markEngine), (24, F_w_heldEngine)], [], 96⟩) tt_ok ⟨k_w_szGraph, k_s_NewEngine, k_w_toGraph, k_i_NewEngine, k_w_eqEngine, k_w_eqGraph, k_w_markGraph, k_w_markEngine, k_w_heldEngine, trivial⟩ mixed Try.func4 rfl rfl (enters_of Try.func4 (by kernel_rfl) rfl) (Nat.le_of_ble_eq_true rfl) rfl .no (fun d => by kernel_rfl)
end Go.Proofs.Ytfkocnnphjkmfaa.R
namespace Go.Proofs.Ytfkocnnphjkmfaa.D
open Go.RowKit
theorem c_w_FnExactNewEngine (x0 : (List Int) × (List (Int × Int × Int × Int))) (r : Bool) (hm : m_w_FnExactNewEngine x0 = some r) {I : Hp} {w0 : World} (v0_0 : Value) (v0_1 : Value) (r0_0 : (rSlice 3 rInt).rd I [v0_0] x0.1) (r0_1 : (rSlice 106 (rProd rInt (rProd rInt (rProd rInt rInt)))).rd I [v0_1] x0.2) : Con Try.prog 4 #[.agg #[v0_0, v0_1]] I w0 [] (fun v => v = .bool r) (fun _ => []) := fun w C hs =>
  ((R.k_w_FnExactNewEngine).con w0 I [.agg #[v0_0, v0_1]] (x0, ()) r ⟨_, _, rfl, ⟨[v0_0, v0_1], rfl, ⟨_, _, rfl, r0_0, r0_1⟩⟩, rfl⟩ hm w C hs).mono fun e w' ⟨v, he, _, hst⟩ => by
    obtain ⟨h1, h2⟩ := R.own_flat (h1 := fun _ => rfl) (show St I w0 w' (Ch.own R.Ty.bool.rep [v] r :: C) from hst)
    exact ⟨v, he, (List.cons.inj h1).1, h2⟩
end Go.Proofs.Ytfkocnnphjkmfaa.D
