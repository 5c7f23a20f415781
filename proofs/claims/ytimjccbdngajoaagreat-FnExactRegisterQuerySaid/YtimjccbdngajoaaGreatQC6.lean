/- FnExactRegisterQuery: for every input the law returns true and changes nothing that was there. Part 7 of 8. -/
import Derived.Test.YtimjccbdngajoaaGreatQC5
/- Printed by lp.py: each function computes what its model says; the code is run, and the two are compared. -/
set_option linter.unusedVariables false
set_option maxRecDepth 1000000
namespace Go.Proofs.YtimjccbdngajoaaGreat.R
open Go.RowKit
open Go.Proofs.YtimjccbdngajoaaGreat.D
theorem k_s_l10Build : ∀ n, FOk Tryz.prog 116 (F_s_l10Build n)
  | 0 => fok_none (f := F_s_l10Build 0) (enters_of Tryz.func116 (by kernel_rfl) rfl) rfl (fun d => rfl)
  | n + 1 => by
    have ih := k_s_l10Build n
    exact fok (V := ⟨tt, [(116, (F_s_l10Build n)), (146, F_s_l8Start), (147, F_s_l10Link)], [], 163, []⟩) tt_ok ⟨ih, k_s_l8Start, k_s_l10Link, trivial⟩ mixed Tryz.func116 rfl rfl (enters_of Tryz.func116 (by kernel_rfl) rfl) rfl (Nat.le_of_ble_eq_true rfl) rfl (.two .no (.two .no (.two .no (.two (.two .no (.two .no (.two .no (.two .no (.two .no (.two .no (.two (.two .no (.two .no (.two .no (.two .no (.two .no (.two (.two .no (.at [.box 11 [.boo, (.num .i64), (.num .i64)]] .no)) (.two (.two .no (.at [.box 11 [.boo, (.num .i64), (.num .i64)]] .no)) .no))))))) .no))))))) .no)))) (fun d => by kernel_rfl)
theorem k_s_BuildPositions : FOk Tryz.prog 74 F_s_BuildPositions := fok (V := ⟨tt, [(115, F_s_ExpandExpr), (116, (F_s_l10Build FUELR))], [], 51, []⟩) tt_ok ⟨k_s_ExpandExpr, (k_s_l10Build FUELR), trivial⟩ mixed Tryz.func74 rfl rfl (enters_of Tryz.func74 (by kernel_rfl) rfl) rfl (Nat.le_of_ble_eq_true rfl) rfl (.two .no (.two .no (.two .no (.two .no (.two (.two .no (.loop [.slot 6 (.num .i64), .slot 7 (.num .i64)] (.two .no (.two (.at [.slot 6 (.num .i64)] .no) .no)))) .no))))) (fun d => by kernel_rfl)
theorem k_s_l10After : FOk Tryz.prog 117 F_s_l10After := fok (V := ⟨tt, [], [], 63, []⟩) tt_ok trivial mixed Tryz.func117 rfl rfl (enters_of Tryz.func117 (by kernel_rfl) rfl) rfl (Nat.le_of_ble_eq_true rfl) rfl (.two .no (.two .no (.join [.slot 7 (.num .i64)] .no (.two (.two .no (.loop [.slot 7 (.num .i64), .slot 8 (.num .i64)] (.two .no (.join [.slot 7 (.num .i64)] .no .no)))) (.two .no (.two (.two .no (.loop [.slot 9 (.num .i64), .slot 10 (.num .i64)] (.two .no (.join [.slot 9 (.num .i64)] .no .no)))) .no)))))) (fun d => by kernel_rfl)
theorem k_s_l11Find : FOk Tryz.prog 118 F_s_l11Find := fok (V := ⟨tt, [], [], 19, []⟩) tt_ok trivial mixed Tryz.func118 rfl rfl (enters_of Tryz.func118 (by kernel_rfl) rfl) rfl (Nat.le_of_ble_eq_true rfl) rfl (.two .no (.two (.two .no (.loop [.slot 5 (.num .i64)] .no)) .no)) (fun d => by kernel_rfl)
theorem k_s_l10Accepts : FOk Tryz.prog 119 F_s_l10Accepts := fok (V := ⟨tt, [], [], 20, []⟩) tt_ok trivial mixed Tryz.func119 rfl rfl (enters_of Tryz.func119 (by kernel_rfl) rfl) rfl (Nat.le_of_ble_eq_true rfl) rfl .no (fun d => by kernel_rfl)
theorem k_s_l11Subsets : FOk Tryz.prog 75 F_s_l11Subsets := fok (V := ⟨tt, [(117, F_s_l10After), (118, F_s_l11Find), (119, F_s_l10Accepts)], [], 73, []⟩) tt_ok ⟨k_s_l10After, k_s_l11Find, k_s_l10Accepts, trivial⟩ mixed Tryz.func75 rfl rfl (enters_of Tryz.func75 (by kernel_rfl) rfl) rfl (Nat.le_of_ble_eq_true rfl) rfl (.two .no (.two .no (.two .no (.two (.two .no (.loop [.slot 7 (.own 3 y3), .slot 8 (.num .i64), .box 6 [(.num .i64), (.own 4 y4), (.own 56 y56)]] (.two .no (.two (.two .no (.two (.two .no (.loop [.slot 7 (.own 3 y3), .slot 9 (.own 3 y3), .slot 10 (.num .i64)] (.two .no (.two (.two .no (.two .no (.join [.slot 7 (.own 3 y3), .slot 12 (.num .i64)] .no .no))) .no)))) .no)) .no)))) .no)))) (fun d => by kernel_rfl)
theorem k_s_l11Nothing : FOk Tryz.prog 148 F_s_l11Nothing := fok (V := ⟨tt, [], [], 15, []⟩) tt_ok trivial mixed Tryz.func148 rfl rfl (enters_of Tryz.func148 (by kernel_rfl) rfl) rfl (Nat.le_of_ble_eq_true rfl) rfl (.two .no (.two .no (.two (.two .no (.loop [.slot 1 (.own 3 y3), .slot 2 (.num .i64)] .no)) .no))) (fun d => by kernel_rfl)
theorem k_s_l11Number : FOk Tryz.prog 120 F_s_l11Number := fok (V := ⟨tt, [(118, F_s_l11Find), (148, F_s_l11Nothing)], [], 107, []⟩) tt_ok ⟨k_s_l11Find, k_s_l11Nothing, trivial⟩ mixed Tryz.func120 rfl rfl (enters_of Tryz.func120 (by kernel_rfl) rfl) rfl (Nat.le_of_ble_eq_true rfl) rfl (.two .no (.two .no (.two .no (.two .no (.two .no (.two (.two .no (.loop [.slot 8 (.own 3 y3), .slot 9 (.own 3 y3), .slot 10 (.num .i64), .box 7 [(.num .i64), (.own 4 y4), (.own 56 y56)]] (.two .no (.two (.two .no (.two (.two .no (.loop [.slot 8 (.own 3 y3), .slot 9 (.own 3 y3), .slot 11 (.own 3 y3), .slot 12 (.num .i64)] (.two .no (.two (.two .no (.two .no (.join [.slot 8 (.own 3 y3), .slot 9 (.own 3 y3), .slot 14 (.num .i64)] .no .no))) .no)))) .no)) .no)))) .no)))))) (fun d => by kernel_rfl)
theorem k_s_l2Cmp : FOk Tryz.prog 77 F_s_l2Cmp := fok (V := ⟨tt, [], [], 46, []⟩) tt_ok trivial mixed Tryz.func77 rfl rfl (enters_of Tryz.func77 (by kernel_rfl) rfl) rfl (Nat.le_of_ble_eq_true rfl) rfl (.two .no (.two (.two .no (.loop [.slot 5 (.num .i64)] .no)) .no)) (fun d => by kernel_rfl)
theorem k_s_l11Live : FOk Tryz.prog 122 F_s_l11Live := fok (V := ⟨tt, [], [], 55, []⟩) tt_ok trivial mixed Tryz.func122 rfl rfl (enters_of Tryz.func122 (by kernel_rfl) rfl) rfl (Nat.le_of_ble_eq_true rfl) rfl (.two .no (.two .no (.two (.two .no (.loop [.row 3 4 y4, .slot 4 (.num .i64)] (.two .no (.two (.two .no (.loop [.row 3 4 y4, .slot 5 (.num .i64)] (.two .no (.two (.two .no (.loop [.row 3 4 y4, .slot 6 (.num .i64)] (.two .no (.join [.row 3 4 y4] .no .no)))) .no)))) .no)))) .no))) (fun d => by kernel_rfl)
theorem k_s_l12Key : FOk Tryz.prog 149 F_s_l12Key := fok (V := ⟨tt, [], [], 40, []⟩) tt_ok trivial mixed Tryz.func149 rfl rfl (enters_of Tryz.func149 (by kernel_rfl) rfl) rfl (Nat.le_of_ble_eq_true rfl) rfl (.two .no (.two .no (.two (.two .no (.loop [.slot 7 (.own 3 y3), .slot 8 (.num .i64)] (.two .no (.join [.slot 7 (.own 3 y3)] .no .no)))) .no))) (fun d => by kernel_rfl)
theorem k_s_l12Classes : FOk Tryz.prog 121 F_s_l12Classes := fok (V := ⟨tt, [(77, F_s_l2Cmp), (122, F_s_l11Live), (149, F_s_l12Key)], [], 99, []⟩) tt_ok ⟨k_s_l2Cmp, k_s_l11Live, k_s_l12Key, trivial⟩ mixed Tryz.func121 rfl rfl (enters_of Tryz.func121 (by kernel_rfl) rfl) rfl (Nat.le_of_ble_eq_true rfl) rfl (.two .no (.two .no (.two .no (.two (.two .no (.loop [.slot 4 (.own 3 y3), .slot 5 (.num .i64)] (.two .no (.two (.two .no (.two (.two .no (.at [.slot 6 (.num .i64)] .no)) (.two (.two .no (.at [.slot 6 (.num .i64)] .no)) .no))) .no)))) (.two (.two .no (.loop [.slot 4 (.own 3 y3), .slot 7 (.num .i64)] (.two .no (.two (.two .no (.two .no (.two (.two .no (.loop [.slot 8 (.own 56 y56), .slot 9 (.own 3 y3), .slot 10 (.num .i64)] (.two .no (.two (.at [.slot 8 (.own 56 y56), .slot 9 (.own 3 y3)] (.two .no (.two .no (.two .no (.two (.two .no (.loop [.slot 12 (.num .i64), .slot 13 (.num .i64)] (.two .no (.two (.at [.slot 12 (.num .i64)] .no) .no)))) (.two (.two .no (.at [.slot 8 (.own 56 y56), .slot 12 (.num .i64), .gone 11] .no)) .no)))))) .no)))) .no))) .no)))) .no))))) (fun d => by kernel_rfl)
theorem k_s_l12Minimize : FOk Tryz.prog 76 F_s_l12Minimize := fok (V := ⟨tt, [(120, F_s_l11Number), (121, F_s_l12Classes), (122, F_s_l11Live)], [], 9, []⟩) tt_ok ⟨k_s_l11Number, k_s_l12Classes, k_s_l11Live, trivial⟩ mixed Tryz.func76 rfl rfl (enters_of Tryz.func76 (by kernel_rfl) rfl) rfl (Nat.le_of_ble_eq_true rfl) rfl .no (fun d => by kernel_rfl)
theorem k_s_CompileExpr : FOk Tryz.prog 26 F_s_CompileExpr := fok (V := ⟨tt, [(74, F_s_BuildPositions), (75, F_s_l11Subsets), (76, F_s_l12Minimize)], [], 33, []⟩) tt_ok ⟨k_s_BuildPositions, k_s_l11Subsets, k_s_l12Minimize, trivial⟩ mixed Tryz.func26 rfl rfl (enters_of Tryz.func26 (by kernel_rfl) rfl) rfl (Nat.le_of_ble_eq_true rfl) rfl .no (fun d => by kernel_rfl)
theorem k_s_EqualAutomata : FOk Tryz.prog 27 F_s_EqualAutomata := fok (V := ⟨tt, [(77, F_s_l2Cmp)], [], 67, []⟩) tt_ok ⟨k_s_l2Cmp, trivial⟩ mixed Tryz.func27 rfl rfl (enters_of Tryz.func27 (by kernel_rfl) rfl) rfl (Nat.le_of_ble_eq_true rfl) rfl (.two .no (.two .no (.two (.two .no (.loop [.slot 5 (.num .i64)] .no)) (.two (.two .no (.loop [.slot 6 (.num .i64)] .no)) .no)))) (fun d => by kernel_rfl)
theorem k_s_l31Index : FOk Tryz.prog 91 F_s_l31Index := fok (V := ⟨tt, [(27, F_s_EqualAutomata)], [], 19, []⟩) tt_ok ⟨k_s_EqualAutomata, trivial⟩ mixed Tryz.func91 rfl rfl (enters_of Tryz.func91 (by kernel_rfl) rfl) rfl (Nat.le_of_ble_eq_true rfl) rfl (.two .no (.two (.two .no (.loop [.slot 5 (.num .i64)] .no)) .no)) (fun d => by kernel_rfl)
theorem k_s_l31Build : FOk Tryz.prog 43 F_s_l31Build := fok (V := ⟨tt, [(26, F_s_CompileExpr), (90, F_s_l1In), (91, F_s_l31Index), (92, F_s_l8Copy)], [], 94, []⟩) tt_ok ⟨k_s_CompileExpr, k_s_l1In, k_s_l31Index, k_s_l8Copy, trivial⟩ mixed Tryz.func43 rfl rfl (enters_of Tryz.func43 (by kernel_rfl) rfl) rfl (Nat.le_of_ble_eq_true rfl) rfl (.two .no (.two .no (.two .no (.two (.two .no (.loop [.slot 5 (.num .i64), .box 4 [(.own 38 y38), (.own 77 y77)]] (.two .no (.two (.two .no (.two .no (.two .no (.join [.slot 8 (.num .i64), .box 4 [(.own 38 y38), (.own 77 y77)], .gone 6] .no .no)))) .no)))) .no)))) (fun d => by kernel_rfl)
end Go.Proofs.YtimjccbdngajoaaGreat.R
/- Printed by lp.py: each function computes what its model says; the code is run, and the two are compared. -/
set_option linter.unusedVariables false
set_option maxRecDepth 1000000
namespace Go.Proofs.YtimjccbdngajoaaGreat.R
open Go.RowKit
open Go.Proofs.YtimjccbdngajoaaGreat.D
theorem k_s_EqualExprs : FOk Tryz.prog 93 F_s_EqualExprs := fok (V := ⟨tt, [], [], 31, []⟩) tt_ok trivial mixed Tryz.func93 rfl rfl (enters_of Tryz.func93 (by kernel_rfl) rfl) rfl (Nat.le_of_ble_eq_true rfl) rfl (.two .no (.two .no (.two (.two .no (.loop [.slot 5 (.num .i64)] .no)) .no))) (fun d => by kernel_rfl)
theorem k_s_EqualRegistries : FOk Tryz.prog 44 F_s_EqualRegistries := fok (V := ⟨tt, [(27, F_s_EqualAutomata), (93, F_s_EqualExprs)], [], 93, []⟩) tt_ok ⟨k_s_EqualAutomata, k_s_EqualExprs, trivial⟩ mixed Tryz.func44 rfl rfl (enters_of Tryz.func44 (by kernel_rfl) rfl) rfl (Nat.le_of_ble_eq_true rfl) rfl (.two .no (.two .no (.two (.two .no (.loop [.slot 5 (.num .i64)] .no)) (.two (.two .no (.loop [.slot 6 (.num .i64)] .no)) .no)))) (fun d => by kernel_rfl)
theorem k_s_IsValidRegistry : FOk Tryz.prog 10 F_s_IsValidRegistry := fok (V := ⟨tt, [(43, F_s_l31Build), (44, F_s_EqualRegistries)], [], 17, []⟩) tt_ok ⟨k_s_l31Build, k_s_EqualRegistries, trivial⟩ mixed Tryz.func10 rfl rfl (enters_of Tryz.func10 (by kernel_rfl) rfl) rfl (Nat.le_of_ble_eq_true rfl) rfl .no (fun d => by kernel_rfl)
theorem k_s_FindQuery : FOk Tryz.prog 50 F_s_FindQuery := fok (V := ⟨tt, [], [], 22, []⟩) tt_ok trivial mixed Tryz.func50 rfl rfl (enters_of Tryz.func50 (by kernel_rfl) rfl) rfl (Nat.le_of_ble_eq_true rfl) rfl (.two .no (.two (.two .no (.loop [.slot 5 (.num .i64)] .no)) .no)) (fun d => by kernel_rfl)
theorem k_s_l11Copy : FOk Tryz.prog 51 F_s_l11Copy := fok (V := ⟨tt, [], [], 32, []⟩) tt_ok trivial mixed Tryz.func51 rfl rfl (enters_of Tryz.func51 (by kernel_rfl) rfl) rfl (Nat.le_of_ble_eq_true rfl) rfl (.two .no (.two .no (.two (.two .no (.loop [.slot 4 (.num .i64), .box 3 [(.num .i64), (.own 4 y4), (.own 56 y56)]] .no)) .no))) (fun d => by kernel_rfl)
theorem k_s_l31Copy : FOk Tryz.prog 68 F_s_l31Copy := fok (V := ⟨tt, [(51, F_s_l11Copy), (92, F_s_l8Copy)], [], 53, []⟩) tt_ok ⟨k_s_l11Copy, k_s_l8Copy, trivial⟩ mixed Tryz.func68 rfl rfl (enters_of Tryz.func68 (by kernel_rfl) rfl) rfl (Nat.le_of_ble_eq_true rfl) rfl (.two .no (.two .no (.two (.two .no (.loop [.slot 4 (.num .i64), .box 3 [(.own 38 y38), (.own 77 y77)]] .no)) (.two (.two .no (.loop [.slot 5 (.num .i64), .box 3 [(.own 38 y38), (.own 77 y77)]] .no)) .no)))) (fun d => by kernel_rfl)
theorem k_s_RegisterQuery : FOk Tryz.prog 23 F_s_RegisterQuery := fok (V := ⟨tt, [(10, F_s_IsValidRegistry), (43, F_s_l31Build), (50, F_s_FindQuery), (68, F_s_l31Copy)], [(40, (.fro y77)), (49, (.fro y77))], 66, []⟩) tt_ok ⟨k_s_IsValidRegistry, k_s_l31Build, k_s_FindQuery, k_s_l31Copy, trivial⟩ mixed Tryz.func23 rfl rfl (enters_of Tryz.func23 (by kernel_rfl) rfl) rfl (Nat.le_of_ble_eq_true rfl) rfl (.two .no (.two .no (.two .no (.two (.loop [.slot 8 (.num .i64)] .no) .no)))) (fun d => by kernel_rfl)
theorem k_w_heldBoolS : FOk Tryz.prog 59 F_w_heldBoolS := fok (V := ⟨tt, [], [], 23, []⟩) tt_ok trivial mixed Tryz.func59 rfl rfl (enters_of Tryz.func59 (by kernel_rfl) rfl) rfl (Nat.le_of_ble_eq_true rfl) rfl (.two .no (.two (.two .no (.loop [.slot 1 (.num .i64), .slot 5 (.num .i64)] .no)) .no)) (fun d => by kernel_rfl)
theorem k_w_heldIntS : FOk Tryz.prog 36 F_w_heldIntS := fok (V := ⟨tt, [], [], 21, []⟩) tt_ok trivial mixed Tryz.func36 rfl rfl (enters_of Tryz.func36 (by kernel_rfl) rfl) rfl (Nat.le_of_ble_eq_true rfl) rfl (.two .no (.two (.two .no (.loop [.slot 1 (.num .i64), .slot 5 (.num .i64)] .no)) .no)) (fun d => by kernel_rfl)
theorem k_w_heldIntSS : FOk Tryz.prog 60 F_w_heldIntSS := fok (V := ⟨tt, [(36, F_w_heldIntS)], [], 21, []⟩) tt_ok ⟨k_w_heldIntS, trivial⟩ mixed Tryz.func60 rfl rfl (enters_of Tryz.func60 (by kernel_rfl) rfl) rfl (Nat.le_of_ble_eq_true rfl) rfl (.two .no (.two (.two .no (.loop [.slot 1 (.num .i64), .slot 5 (.num .i64)] .no)) .no)) (fun d => by kernel_rfl)
theorem k_w_heldAutomatonS : FOk Tryz.prog 81 F_w_heldAutomatonS := fok (V := ⟨tt, [(59, F_w_heldBoolS), (60, F_w_heldIntSS)], [], 40, []⟩) tt_ok ⟨k_w_heldBoolS, k_w_heldIntSS, trivial⟩ mixed Tryz.func81 rfl rfl (enters_of Tryz.func81 (by kernel_rfl) rfl) rfl (Nat.le_of_ble_eq_true rfl) rfl (.two .no (.two (.two .no (.loop [.slot 1 (.num .i64), .slot 5 (.num .i64)] .no)) .no)) (fun d => by kernel_rfl)
theorem k_w_heldTokenS : FOk Tryz.prog 125 F_w_heldTokenS := fok (V := ⟨tt, [], [], 49, []⟩) tt_ok trivial mixed Tryz.func125 rfl rfl (enters_of Tryz.func125 (by kernel_rfl) rfl) rfl (Nat.le_of_ble_eq_true rfl) rfl (.two .no (.two (.two .no (.loop [.slot 1 (.num .i64), .slot 5 (.num .i64)] .no)) .no)) (fun d => by kernel_rfl)
theorem k_w_heldRegisteredS : FOk Tryz.prog 82 F_w_heldRegisteredS := fok (V := ⟨tt, [(125, F_w_heldTokenS)], [], 41, []⟩) tt_ok ⟨k_w_heldTokenS, trivial⟩ mixed Tryz.func82 rfl rfl (enters_of Tryz.func82 (by kernel_rfl) rfl) rfl (Nat.le_of_ble_eq_true rfl) rfl (.two .no (.two (.two .no (.loop [.slot 1 (.num .i64), .slot 5 (.num .i64)] .no)) .no)) (fun d => by kernel_rfl)
theorem k_w_heldRegistry : FOk Tryz.prog 31 F_w_heldRegistry := fok (V := ⟨tt, [(81, F_w_heldAutomatonS), (82, F_w_heldRegisteredS)], [], 18, []⟩) tt_ok ⟨k_w_heldAutomatonS, k_w_heldRegisteredS, trivial⟩ mixed Tryz.func31 rfl rfl (enters_of Tryz.func31 (by kernel_rfl) rfl) rfl (Nat.le_of_ble_eq_true rfl) rfl .no (fun d => by kernel_rfl)
theorem k_w_markExpr : FOk Tryz.prog 40 F_w_markExpr := fok (V := ⟨tt, [(87, F_w_markTokenS)], [], 10, []⟩) tt_ok ⟨k_w_markTokenS, trivial⟩ mixed Tryz.func40 rfl rfl (enters_of Tryz.func40 (by kernel_rfl) rfl) rfl (Nat.le_of_ble_eq_true rfl) rfl .no (fun d => by kernel_rfl)
theorem k_w_FnExactRegisterQuery : FOk Tryz.prog 8 F_w_FnExactRegisterQuery := fok (V := ⟨tt, [(9, F_w_szRegistry), (11, F_w_toRegistry), (13, F_w_eqRegistry), (17, F_w_markRegistry), (22, F_i_RegisterQuery), (23, F_s_RegisterQuery), (31, F_w_heldRegistry), (37, F_w_szExpr), (38, F_w_toExpr), (39, F_w_eqExpr), (40, F_w_markExpr)], [], 124, []⟩) tt_ok ⟨k_w_szRegistry, k_w_toRegistry, k_w_eqRegistry, k_w_markRegistry, k_i_RegisterQuery, k_s_RegisterQuery, k_w_heldRegistry, k_w_szExpr, k_w_toExpr, k_w_eqExpr, k_w_markExpr, trivial⟩ mixed Tryz.func8 rfl rfl (enters_of Tryz.func8 (by kernel_rfl) rfl) rfl (Nat.le_of_ble_eq_true rfl) rfl .no (fun d => by kernel_rfl)
end Go.Proofs.YtimjccbdngajoaaGreat.R
namespace Go.Proofs.YtimjccbdngajoaaGreat.D
open Go.RowKit
theorem c_w_FnExactRegisterQuery (x0 : (List (Int × (List Bool) × (List (List Int)))) × (List (Int × ((List (Int × Int × Int × Int))) × Int))) (x1 : Int) (x2 : (List (Int × Int × Int × Int))) (r : Bool) (hm : m_w_FnExactRegisterQuery x0 x1 x2 = some r) {I : Hp} {w0 : World} (v0_0 : Value) (v0_1 : Value) (v2_0 : Value) (r0_0 : (rSlice 109 (rProd rInt (rProd (rSlice 4 rBool) (rSlice 56 (rSlice 3 rInt))))).rd I [v0_0] x0.1) (r0_1 : (rSlice 112 (rProd rInt (rProd (rSlice 145 (rProd rInt (rProd rInt (rProd rInt rInt)))) rInt))).rd I [v0_1] x0.2) (r2_0 : (rSlice 145 (rProd rInt (rProd rInt (rProd rInt rInt)))).rd I [v2_0] x2) : Con Tryz.prog 8 #[.agg #[v0_0, v0_1], .int .i64 x1, .agg #[v2_0]] I w0 [] (fun v => v = .bool r) (fun _ => []) := fun w C hs =>
  ((R.k_w_FnExactRegisterQuery).con w0 I [.agg #[v0_0, v0_1], .int .i64 x1, .agg #[v2_0]] (x0, (x1, (x2, ()))) r ⟨_, _, rfl, ⟨[v0_0, v0_1], rfl, ⟨_, _, rfl, r0_0, r0_1⟩⟩, ⟨_, _, rfl, ⟨[.int .i64 x1], rfl, rfl⟩, ⟨_, _, rfl, ⟨[v2_0], rfl, r2_0⟩, rfl⟩⟩⟩ hm w C hs).mono fun e w' ⟨v, he, _, hst⟩ => by
    obtain ⟨h1, h2⟩ := R.own_flat (h1 := fun _ => rfl) (show St I w0 w' (Ch.own R.Ty.bool.rep [v] r :: C) from hst)
    exact ⟨v, he, (List.cons.inj h1).1, h2⟩
end Go.Proofs.YtimjccbdngajoaaGreat.D
/- From the form's reading of an argument to a representation: every data type of the program is opened by these laws. No program text is named here. -/
set_option linter.unusedVariables false
set_option linter.unusedSimpArgs false
set_option linter.unnecessarySimpa false
namespace Go.Proofs.YtimjccbdngajoaaGreat.D
open Go.RowKit

def I64 (n : Int) : Prop := -9223372036854775808 ≤ n ∧ n ≤ 9223372036854775807
/-- data within the bounds of the machine ('lim'), and small data, as the laws let through ('sm') -/
class Data (α : Type) where
  lim : α → Prop
  sm : α → Prop
instance : Data Int := ⟨I64, fun _ => True⟩
instance : Data Bool := ⟨fun _ => True, fun _ => True⟩
instance : Data ByteArray := ⟨fun s => s.size ≤ 9223372036854775807, fun s => s.size ≤ 1048576⟩
instance {α β : Type} [Data α] [Data β] : Data (α × β) := ⟨fun x => Data.lim x.1 ∧ Data.lim x.2, fun x => Data.sm x.1 ∧ Data.sm x.2⟩
instance {α : Type} [Data α] : Data (List α) := ⟨fun xs => xs.length ≤ 9223372036854775807 ∧ ∀ x, x ∈ xs → Data.lim x, fun xs => xs.length ≤ 1048576 ∧ ∀ x, x ∈ xs → Data.sm x⟩
/-- What the form reads as a value of the type t, R reads too. -/
structure Opens (P : Program) (t : TypeId) {α : Type} [Data α] (R : Rep α) : Prop where
  out : ∀ {H : Type} (enc : TypeId × Value → H) (w : World) (fuel : Nat) (cs : List Value) (x : DataW H × List MemPlace), DataW.trod enc P w 0 (fun _ => true) true fuel t cs = some x → ∃ a : α, R.rd (hp w) cs a ∧ Data.lim a

theorem opens_int {P : Program} {t : TypeId} (h : P.underlying t = some (.int .i64)) : Opens P t rInt := by
  constructor
  intro H enc w fuel cs x hx
  obtain ⟨n, rfl, -, hw⟩ := DataW.trod_int h hx
  refine ⟨n, rfl, show I64 n from ?_⟩
  simp [Lit.wf, IntKind.min, IntKind.max, IntKind.signed, IntKind.bits] at hw
  unfold I64
  omega
theorem opens_bool {P : Program} {t : TypeId} (h : P.underlying t = some .bool) : Opens P t rBool := by
  constructor
  intro H enc w fuel cs x hx
  obtain ⟨n, rfl, -⟩ := DataW.trod_bool h hx
  exact ⟨n, rfl, trivial⟩
theorem opens_slice {P : Program} {t e : TypeId} {α : Type} [Data α] {R : Rep α} {E : TypeId} (h : P.underlying t = some (.slice e)) (hc : P.cellsOf e = R.size) (h0 : 0 < R.size) (he : Opens P e R) : Opens P t (rSlice E R) := by
  constructor
  intro H enc w fuel cs x hx
  rcases Go.Deep.open_slice h hx with ⟨rfl, -⟩ | ⟨a, len, cap, m, n, D, Pl, rfl, -, hl, hm, hmm, -, hel⟩
  · exact ⟨[], ⟨none, 0, rfl, by simp, .inl rfl⟩, Nat.zero_le _, fun x hx => by cases hx⟩
  have hlm : m = cap := by simpa using hmm
  subst hlm
  rw [hc] at hel
  by_cases hz : len = 0
  · subst hz
    exact ⟨[], ⟨some a, m, rfl, by simp, .inl rfl⟩, Nat.zero_le _, fun x hx => by cases hx⟩
  · have hone : ∀ i, i < len → ∃ c : List Value, ∃ y : α, c.length = R.size ∧ (∀ j, j < R.size → w.cell? ((a.add (i * R.size)).add j) = c[j]?) ∧ R.rd (hp w) c y ∧ Data.lim y := by
      intro i hi
      obtain ⟨c, h1, h2⟩ := hel i (by omega)
      obtain ⟨-, h3, h4⟩ := World.cells?_some h1
      obtain ⟨y, hy⟩ := he.out enc w _ _ _ h2
      exact ⟨c, y, h3, h4, hy⟩
    obtain ⟨c0, y0, hc0, hr0, -⟩ := hone 0 (by omega)
    have h00 := hr0 0 h0
    have hsome : ∃ v, c0[0]? = some v := ⟨_, List.getElem?_eq_getElem (by omega)⟩
    obtain ⟨v, hv⟩ := hsome
    rw [hv] at h00
    have ha : (a.add (0 * R.size)).add 0 = a := by simp [Addr.add]
    rw [ha] at h00
    obtain ⟨b, off, spot⟩ := a
    have hb : ∃ ccs T fr, w.heap[b]? = some (.cells ccs T fr) ∧ spot = none := by
      simp only [World.cell?] at h00
      split at h00
      · rename_i ccs T fr heq
        cases spot with
        | none => exact ⟨ccs, T, fr, heq, rfl⟩
        | some s => simp at h00
      · simp at h00
    obtain ⟨ccs, T, fr, hh, rfl⟩ := hb
    have hadd : ∀ i j, (Addr.add ⟨b, off, none⟩ i).add j = ⟨b, off + i + j, none⟩ := by
      intro i j
      by_cases h1 : i = 0 <;> by_cases h2 : j = 0 <;> simp [Addr.add, h1, h2, Nat.add_assoc]
    haveI : Inhabited α := ⟨y0⟩
    obtain ⟨X, hX⟩ := Go.Deep.choose_lt (α := α) (n := len) (p := fun i y => ∃ c : List Value, c.length = R.size ∧ (∀ j, j < R.size → ccs.toList[off + i * R.size + j]? = c[j]?) ∧ R.rd (hp w) c y ∧ Data.lim y) (fun i hi => by
      obtain ⟨c, y, h1, h2, h3⟩ := hone i hi
      refine ⟨y, c, h1, fun j hj => ?_, h3⟩
      have := h2 j hj
      rw [hadd] at this
      simp only [World.cell?, hh] at this
      simpa using this)
    have hlen : ((List.range len).map X).length = len := by simp
    have hel2 : ∀ i y, ((List.range len).map X)[i]? = some y → i < len ∧ y = X i := fun i y hy => by
      have hi : i < len := by have := (List.getElem?_eq_some_iff.1 hy).1; omega
      exact ⟨hi, by simpa [hi] using hy.symm⟩
    refine ⟨(List.range len).map X, ⟨some ⟨b, off, none⟩, m, by rw [hlen], by rw [hlen]; unfold maxLen at hm; unfold lim; omega, .inr ⟨b, off, ccs, T, fr, rfl, hh, fun i y hy => ?_⟩⟩, by rw [hlen]; unfold maxLen at hm; omega, fun y hy => ?_⟩
    · obtain ⟨hi, rfl⟩ := hel2 i y hy
      obtain ⟨c, e1, e2, e3, -⟩ := hX i hi
      exact ⟨c, e1, e2, e3⟩
    · obtain ⟨i, hi, he⟩ := List.mem_iff_getElem?.1 hy |>.imp fun i hi => hel2 i y hi
      obtain ⟨-, -, -, -, e4⟩ := hX i hi
      rw [he]; exact e4

/-- .. of the fields of a struct, from the offset o on. -/
structure OpensFs (P : Program) (fs : List Field) (o : Nat) {α : Type} [Data α] (R : Rep α) : Prop where
  out : ∀ {H : Type} (enc : TypeId × Value → H) (w : World) (fuel : Nat) (cs : List Value) , cs.length = o + R.size →
    (∀ f ∈ fs, ∃ x, DataW.trod enc P w 0 (fun _ => true) true fuel f.type ((cs.drop f.offset).take (P.cellsOf f.type)) = some x) → ∃ a : α, R.rd (hp w) (cs.drop o) a ∧ Data.lim a
theorem opens_last {P : Program} {f : Field} {o : Nat} {α : Type} [Data α] {R : Rep α} (ho : f.offset = o) (hc : P.cellsOf f.type = R.size) (h : Opens P f.type R) : OpensFs P [f] o R := by
  constructor
  intro H enc w fuel cs hl hx
  obtain ⟨x, hx⟩ := hx f (by simp)
  rw [ho, hc, List.take_of_length_le (by rw [List.length_drop]; omega)] at hx
  exact h.out enc w _ _ _ hx
theorem opens_next {P : Program} {f : Field} {fs : List Field} {o : Nat} {α β : Type} [Data α] [Data β] {R : Rep α} {S : Rep β} (ho : f.offset = o) (hc : P.cellsOf f.type = R.size) (h : Opens P f.type R) (hs : OpensFs P fs (o + R.size) S) : OpensFs P (f :: fs) o (rProd R S) := by
  constructor
  intro H enc w fuel cs hl hx
  have hl' : cs.length = o + (R.size + S.size) := hl
  obtain ⟨b, hb, hlb⟩ := hs.out enc w fuel cs (by omega) (fun g hg => hx g (by simp [hg]))
  obtain ⟨x, hx⟩ := hx f (by simp)
  rw [ho, hc] at hx
  obtain ⟨a, ha, hla⟩ := h.out enc w _ _ _ hx
  refine ⟨(a, b), ⟨(cs.drop o).take R.size, cs.drop (o + R.size), ?_, ha, hb⟩, hla, hlb⟩
  rw [← List.drop_drop, List.take_append_drop]
theorem opens_struct {P : Program} {t : TypeId} {fs : Array Field} {α : Type} [Data α] {R : Rep α} (h : P.underlying t = some (.struct fs)) (hc : P.cellsOf t = R.size) (hf : OpensFs P fs.toList 0 R) : Opens P t R := by
  constructor
  intro H enc w fuel cs x hx
  obtain ⟨xs, n, -, -, hl, hn, hel⟩ := DataW.trod_struct h hx
  have := hf.out enc w n cs (by omega) (fun f hm => by
    obtain ⟨i, hi, rfl⟩ := List.getElem_of_mem hm
    have h1 : fs[i]? = some fs.toList[i] := by simp
    exact ⟨_, (hel i _ h1).trans (List.getElem?_eq_getElem (by simp at hi; omega))⟩)
  simpa using this
theorem St.below {w0 w : World} {cs : List Ch} (h : St (hp w0) w0 w cs) : Below w0.heap.size w0 w := by
  obtain ⟨⟨h1, h2, h3, h4⟩, h5, -⟩ := h
  refine ⟨h1, h2, h3, h4, fun b hb => ?_⟩
  have e : w0.heap[b]? = some w0.heap[b] := Array.getElem?_eq_getElem hb
  rw [e]; exact h5 b _ e
end Go.Proofs.YtimjccbdngajoaaGreat.D
/- Loops of models: what rows are looked through, copied, counted, compared. No program text is named here. -/
set_option linter.unusedVariables false
set_option linter.unusedSimpArgs false
set_option linter.unnecessarySimpa false
namespace Go.Proofs.YtimjccbdngajoaaGreat.D
open Go.RowKit

theorem wrapI {n : Int} (h1 : -9223372036854775808 ≤ n) (h2 : n ≤ 9223372036854775807) : IntKind.i64.wrap n = n := by
  simp only [IntKind.wrap, IntKind.bits, IntKind.signed, Bool.true_and]
  split <;> rename_i h <;> simp at h <;> omega
theorem wrap_succ {i : Nat} (h : i < 9223372036854775807) : IntKind.i64.wrap ((i : Int) + 1) = ((i + 1 : Nat) : Int) := by
  rw [wrapI (by omega) (by omega)]; rfl
theorem getI_nat {α : Type} {xs : List α} {i : Nat} (h : i < xs.length) : getI xs (i : Int) = some (xs[i]) := by
  unfold getI
  rw [if_pos (Int.natCast_nonneg _)]
  simp [h]
theorem lt_nat {i n : Nat} (h : i < n) : decide ((i : Int) < (n : Int)) = true := by simp [h]
theorem lt_self {n : Nat} : decide ((n : Int) < (n : Int)) = false := by simp
theorem fuelUp (k : Nat) (h : k ≤ 9223372036854775807) : k < FUEL := by unfold FUEL; omega
theorem mkI_ok {α : Type} {b n : Nat} {z : α} (h : n * b ≤ 140737488355328) : mkI b (n : Int) z = some (List.replicate n z) := by
  unfold mkI
  rw [if_pos ⟨Int.natCast_nonneg _, by simpa using h⟩]; simp
theorem loopM_nxt {R S : Type} {f : S → Option (Out R S)} (inv : Nat → S) (N : Nat) (h : ∀ i, i < N → f (inv i) = some (.nxt (inv (i + 1)))) : ∀ (m i k : Nat), i + m = N → loopM f (k + m) (inv i) = loopM f k (inv N)
  | 0, i, k, e => by rw [show i = N by omega]; rfl
  | m + 1, i, k, e => by
    rw [← Nat.add_assoc, loopM, h i (by omega)]
    exact loopM_nxt inv N h m (i + 1) k (by omega)
theorem loopM_all {R S : Type} {f : S → Option (Out R S)} (inv : Nat → S) (N : Nat) {s : S} (h : ∀ i, i < N → f (inv i) = some (.nxt (inv (i + 1)))) (he : f (inv N) = some (.brk s)) (hN : N < FUEL) : loopM f FUEL (inv 0) = some (.brk s) := by
  have e : FUEL = (FUEL - N - 1) + 1 + N := by omega
  rw [e, loopM_nxt inv N h N 0 _ (by omega), loopM, he]
theorem toL {R α : Type} {f : List α × Int → Option (Out R (List α × Int))} {z : α} (xs : List α) (hN : xs.length ≤ 9223372036854775807)
    (hstep : ∀ ys i (h : i < xs.length), ys.length = xs.length → f (ys, (i : Int)) = some (.nxt (ys.set i xs[i], ((i + 1 : Nat) : Int)))) (hend : ∀ ys, ys.length = xs.length → f (ys, (xs.length : Int)) = some (.brk (ys, (xs.length : Int)))) :
    loopM f FUEL (List.replicate xs.length z, 0) = some (.brk (xs, (xs.length : Int))) := by
  have h0 : (List.replicate xs.length z, (0 : Int)) = (fun i : Nat => (xs.take i ++ (List.replicate xs.length z).drop i, (i : Int))) 0 := by simp
  rw [h0]
  refine loopM_all (fun i : Nat => (xs.take i ++ (List.replicate xs.length z).drop i, (i : Int))) xs.length (fun i hi => ?_) ?_ (fuelUp _ hN)
  · have hl : (xs.take i ++ (List.replicate xs.length z).drop i).length = xs.length := by
      rw [List.length_append, List.length_take, List.length_drop, List.length_replicate]; omega
    rw [hstep _ i hi hl]
    congr 3
    have ht : (xs.take i).length = i := by rw [List.length_take]; omega
    rw [List.set_append_right _ _ (by omega), ht, Nat.sub_self, List.drop_eq_getElem_cons (by rw [List.length_replicate]; exact hi), List.set_cons_zero, List.take_succ_eq_append_getElem hi, List.append_assoc]
    rfl
  · have := hend xs rfl
    rw [List.take_of_length_le (Nat.le_refl _), List.drop_of_length_le (by rw [List.length_replicate]; exact Nat.le_refl _), List.append_nil]
    exact this
def SzOk {α : Type} [Data α] (m : α → Int → Option Int) : Prop := ∀ x l, Data.lim x → 0 ≤ l → l ≤ 1048576 → ∃ r, m x l = some r ∧ (r < 0 ∨ (0 ≤ r ∧ r ≤ l ∧ Data.sm x))
def ToOk {α : Type} [Data α] (m : α → Option α) : Prop := ∀ x, Data.sm x → m x = some x
def EqOk {α : Type} [Data α] [DecidableEq α] (m : α → α → Option Bool) : Prop := ∀ x y, Data.sm x → Data.sm y → m x y = some (decide (x = y))
theorem szGo {α : Type} [Data α] {f : Int × Int → Option (Out Int (Int × Int))} (xs : List α)
    (hstep : ∀ i (h : i < xs.length) l, 0 ≤ l → l ≤ 1048576 → ∃ r, f (l, (i : Int)) = some (if r < 0 then .ret (-1) else .nxt (r, ((i + 1 : Nat) : Int))) ∧ (r < 0 ∨ (0 ≤ r ∧ r ≤ l ∧ Data.sm xs[i])))
    (hend : ∀ l, f (l, (xs.length : Int)) = some (.brk (l, (xs.length : Int)))) : ∀ (m i k : Nat) (l : Int), i + m = xs.length → m < k → 0 ≤ l → l ≤ 1048576 →
      loopM f k (l, (i : Int)) = some (.ret (-1)) ∨ ∃ r, loopM f k (l, (i : Int)) = some (.brk (r, (xs.length : Int))) ∧ 0 ≤ r ∧ r ≤ l ∧ ∀ j (h : j < xs.length), i ≤ j → Data.sm xs[j]
  | 0, i, k, l, e, hk, h0, h1 => by
    obtain ⟨k, rfl⟩ : ∃ q, k = q + 1 := ⟨k - 1, by omega⟩
    obtain rfl : i = xs.length := by omega
    exact .inr ⟨l, by rw [loopM, hend], h0, Int.le_refl _, fun j hj hi => by omega⟩
  | m + 1, i, k, l, e, hk, h0, h1 => by
    obtain ⟨k, rfl⟩ : ∃ q, k = q + 1 := ⟨k - 1, by omega⟩
    obtain ⟨r, e1, e2⟩ := hstep i (by omega) l h0 h1
    rw [loopM, e1]
    rcases e2 with e2 | ⟨e2, e3, e4⟩
    · rw [if_pos e2]; exact .inl rfl
    · rw [if_neg (by omega)]
      rcases szGo xs hstep hend m (i + 1) k r (by omega) (by omega) e2 (by omega) with h | ⟨q, g1, g2, g3, g4⟩
      · exact .inl h
      · refine .inr ⟨q, g1, g2, by omega, fun j hj hi => ?_⟩
        by_cases hji : j = i
        · subst hji; exact e4
        · exact g4 j hj (by omega)
theorem szL {α : Type} [Data α] {f : Int × Int → Option (Out Int (Int × Int))} (xs : List α) {l : Int} (hN : xs.length ≤ 9223372036854775807)
    (hstep : ∀ i (h : i < xs.length) l, 0 ≤ l → l ≤ 1048576 → ∃ r, f (l, (i : Int)) = some (if r < 0 then .ret (-1) else .nxt (r, ((i + 1 : Nat) : Int))) ∧ (r < 0 ∨ (0 ≤ r ∧ r ≤ l ∧ Data.sm xs[i])))
    (hend : ∀ l, f (l, (xs.length : Int)) = some (.brk (l, (xs.length : Int)))) (h0 : 0 ≤ l) (h1 : l ≤ 1048576) :
    ∃ r, (if decide (IntKind.i64.wrap (l - (xs.length : Int)) < 0) then (some (-1)) else (bindL (loopM f FUEL (IntKind.i64.wrap (l - (xs.length : Int)), 0)) (fun r => some r) (fun s4 => some s4.1))) = some r ∧ (r < 0 ∨ (0 ≤ r ∧ r ≤ l ∧ Data.sm xs)) := by
  rw [wrapI (by omega) (by omega)]
  by_cases h : l - (xs.length : Int) < 0
  · exact ⟨-1, by rw [if_pos (decide_eq_true h)], .inl (by decide)⟩
  · rw [if_neg (by simpa using h)]
    rcases szGo xs hstep hend xs.length 0 FUEL (l - xs.length) (by omega) (fuelUp _ hN) (by omega) (by omega) with e | ⟨r, e, g1, g2, g3⟩
    · exact ⟨-1, by rw [show ((0 : Int)) = ((0 : Nat) : Int) from rfl, e]; rfl, .inl (by decide)⟩
    · refine ⟨r, by rw [show ((0 : Int)) = ((0 : Nat) : Int) from rfl, e]; rfl, .inr ⟨g1, by omega, by omega, fun x hx => ?_⟩⟩
      obtain ⟨j, hj, rfl⟩ := List.getElem_of_mem hx
      exact g3 j hj (Nat.zero_le _)
theorem szF {α : Type} [Data α] (xs : List α) {l : Int} (hN : xs.length ≤ 9223372036854775807) (hf : ∀ x : α, Data.sm x) (h0 : 0 ≤ l) (h1 : l ≤ 1048576) :
    ∃ r, (if decide (IntKind.i64.wrap (l - (xs.length : Int)) < 0) then (some (-1)) else (some (IntKind.i64.wrap (l - (xs.length : Int))))) = some r ∧ (r < 0 ∨ (0 ≤ r ∧ r ≤ l ∧ Data.sm xs)) := by
  rw [wrapI (by omega) (by omega)]
  by_cases h : l - (xs.length : Int) < 0
  · exact ⟨-1, by rw [if_pos (decide_eq_true h)], .inl (by decide)⟩
  · exact ⟨_, by rw [if_neg (by simpa using h)], .inr ⟨by omega, by omega, by omega, fun x _ => hf x⟩⟩
theorem eqGo {α : Type} [DecidableEq α] {f : Int → Option (Out Bool Int)} (xs ys : List α) (hl : xs.length = ys.length)
    (hstep : ∀ i (h : i < xs.length) (h' : i < ys.length), f (i : Int) = some (if xs[i] = ys[i] then .nxt ((i + 1 : Nat) : Int) else .ret false)) (hend : f (xs.length : Int) = some (.brk (xs.length : Int))) : ∀ (m i k : Nat), i + m = xs.length → m < k →
      loopM f k (i : Int) = some (if xs.drop i = ys.drop i then .brk (xs.length : Int) else .ret false)
  | 0, i, k, e, hk => by
    obtain ⟨k, rfl⟩ : ∃ q, k = q + 1 := ⟨k - 1, by omega⟩
    obtain rfl : i = xs.length := by omega
    rw [loopM, hend, List.drop_of_length_le (Nat.le_refl _), List.drop_of_length_le (by omega), if_pos rfl]
  | m + 1, i, k, e, hk => by
    obtain ⟨k, rfl⟩ : ∃ q, k = q + 1 := ⟨k - 1, by omega⟩
    have hi : i < xs.length := by omega
    have hi' : i < ys.length := by omega
    have d1 := List.drop_eq_getElem_cons hi
    have d2 := List.drop_eq_getElem_cons hi'
    rw [loopM, hstep i hi hi', d1, d2]
    by_cases h : xs[i] = ys[i]
    · rw [if_pos h]
      simp only
      rw [eqGo xs ys hl hstep hend m (i + 1) k (by omega) (by omega)]
      simp only [List.cons.injEq, h, true_and]
    · rw [if_neg h]
      simp only [List.cons.injEq, h, false_and, if_false]
theorem eqL {α : Type} [DecidableEq α] {f : Int → Option (Out Bool Int)} (xs ys : List α) (hN : xs.length ≤ 9223372036854775807)
    (hstep : ∀ i (h : i < xs.length) (h' : i < ys.length), f (i : Int) = some (if xs[i] = ys[i] then .nxt ((i + 1 : Nat) : Int) else .ret false)) (hend : f (xs.length : Int) = some (.brk (xs.length : Int))) :
    (if (xs.length : Int) != (ys.length : Int) then (some false) else (bindL (loopM f FUEL 0) (fun r => some r) (fun s4 => some true))) = some (decide (xs = ys)) := by
  by_cases hl : xs.length = ys.length
  · rw [if_neg (by rw [hl]; simp), show ((0 : Int)) = ((0 : Nat) : Int) from rfl, eqGo xs ys hl hstep hend xs.length 0 FUEL (by omega) (fuelUp _ hN)]
    by_cases h : xs = ys
    · subst h; simp [bindL]
    · simp [bindL, h]
  · have : xs ≠ ys := fun e => hl (by rw [e])
    rw [if_pos (by simp; omega)]; simp [this]
theorem iteOpt {α : Type} {c d : Prop} [Decidable c] [Decidable d] {a b : α} (h : c ↔ d) : (if c then some a else some b) = some (if d then a else b) := by
  by_cases k : c
  · rw [if_pos k, if_pos (h.1 k)]
  · rw [if_neg k, if_neg (fun e => k (h.2 e))]
theorem iteOptN {α : Type} {c d : Prop} [Decidable c] [Decidable d] {a b : α} (h : c ↔ ¬ d) : (if c then some b else some a) = some (if d then a else b) := by
  by_cases k : d
  · rw [if_neg (fun e => h.1 e k), if_pos k]
  · rw [if_pos (h.2 k), if_neg k]
theorem eqB {α : Type} [DecidableEq α] {f : Int → Option (Out Bool Int)} {K : Option Bool} (xs ys : List α) (hN : xs.length ≤ 9223372036854775807) (hl : xs.length = ys.length)
    (hstep : ∀ i (h : i < xs.length) (h' : i < ys.length), f (i : Int) = some (if xs[i] = ys[i] then .nxt ((i + 1 : Nat) : Int) else .ret false)) (hend : f (xs.length : Int) = some (.brk (xs.length : Int))) :
    bindL (loopM f FUEL 0) (fun r => some r) (fun s4 => K) = (if xs = ys then K else some false) := by
  rw [show ((0 : Int)) = ((0 : Nat) : Int) from rfl, eqGo xs ys hl hstep hend xs.length 0 FUEL (by omega) (fuelUp _ hN)]
  by_cases h : xs = ys
  · subst h; simp [bindL]
  · simp [bindL, h]
theorem cmpGo {f : Int → Option (Out Int Int)} (xs ys : List Int)
    (hstep : ∀ i (h : i < xs.length) (h' : i < ys.length), f (i : Int) = some (if xs[i] < ys[i] then .ret (-1) else if xs[i] > ys[i] then .ret 1 else .nxt ((i + 1 : Nat) : Int))) (hend : ∀ i, xs.length ≤ i ∨ ys.length ≤ i → f (i : Int) = some (.brk (i : Int))) : ∀ (m i k : Nat), i + m = xs.length → m < k →
      (∃ r, loopM f k (i : Int) = some (.ret r) ∧ r ≠ 0 ∧ xs ≠ ys) ∨ ∃ s, loopM f k (i : Int) = some (.brk s) ∧ (xs.length = ys.length → xs.drop i = ys.drop i)
  | 0, i, k, e, hk => by
    obtain ⟨k, rfl⟩ : ∃ q, k = q + 1 := ⟨k - 1, by omega⟩
    exact .inr ⟨_, by rw [loopM, hend i (.inl (by omega))], fun h => by rw [List.drop_of_length_le (by omega), List.drop_of_length_le (by omega)]⟩
  | m + 1, i, k, e, hk => by
    obtain ⟨k, rfl⟩ : ∃ q, k = q + 1 := ⟨k - 1, by omega⟩
    have hi : i < xs.length := by omega
    by_cases hi' : i < ys.length
    · have hne : ∀ h : xs[i] ≠ ys[i], xs ≠ ys := fun h e => h (by subst e; rfl)
      rw [loopM, hstep i hi hi']
      by_cases h1 : xs[i] < ys[i]
      · rw [if_pos h1]; exact .inl ⟨-1, rfl, by decide, hne (by omega)⟩
      · rw [if_neg h1]
        by_cases h2 : xs[i] > ys[i]
        · rw [if_pos h2]; exact .inl ⟨1, rfl, by decide, hne (by omega)⟩
        · rw [if_neg h2]
          rcases cmpGo xs ys hstep hend m (i + 1) k (by omega) (by omega) with h | ⟨s, g1, g2⟩
          · exact .inl h
          · refine .inr ⟨s, g1, fun hl => ?_⟩
            have h3 : xs[i] = ys[i] := by omega
            rw [List.drop_eq_getElem_cons hi, List.drop_eq_getElem_cons hi', g2 hl, h3]
    · exact .inr ⟨_, by rw [loopM, hend i (.inr (by omega))], fun h => by omega⟩
instance : LawfulBEq ByteArray where
  eq_of_beq {a b} h := ByteArray.ext (eq_of_beq (show (a.data == b.data) = true from h))
  rfl {a} := beq_self_eq_true a.data
theorem peq4 {α β γ δ : Type} {a b : α × β × γ × δ} : (a.1 = b.1 ∧ a.2.1 = b.2.1 ∧ a.2.2.1 = b.2.2.1 ∧ a.2.2.2 = b.2.2.2) ↔ a = b := by rw [Prod.ext_iff, Prod.ext_iff, Prod.ext_iff]
theorem peta {α β : Type} (p : α × β) : (p.1, p.2) = p := rfl
theorem sm_list {α : Type} [Data α] {xs : List α} (h : Data.sm xs) : xs.length ≤ 1048576 ∧ ∀ x, x ∈ xs → Data.sm x := h
theorem lim_list {α : Type} [Data α] {xs : List α} (h : Data.lim xs) : xs.length ≤ 9223372036854775807 ∧ ∀ x, x ∈ xs → Data.lim x := h
end Go.Proofs.YtimjccbdngajoaaGreat.D
/- Printed by genplain.py: what the helpers of the law FnExactRegisterQuery compute. -/
set_option linter.unusedVariables false
set_option linter.unusedSimpArgs false
set_option linter.unnecessarySimpa false
set_option synthInstance.maxSize 20000
set_option synthInstance.maxHeartbeats 2000000
namespace Go.Proofs.YtimjccbdngajoaaGreat.D
open Go.RowKit
theorem z_szBoolS : SzOk m_w_szBoolS := fun xs l hl h0 h1 => szF xs (lim_list hl).1 (fun _ => trivial) h0 h1
theorem z_szIntS : SzOk m_w_szIntS := fun xs l hl h0 h1 => szF xs (lim_list hl).1 (fun _ => trivial) h0 h1
theorem z_szIntSS : SzOk m_w_szIntSS := fun xs l hl h0 h1 => szL (f := m_w_szIntSS_l0 xs) xs (lim_list hl).1 (fun i h l k0 k1 => by
  obtain ⟨r, e, hr⟩ := z_szIntS xs[i] l ((lim_list hl).2 _ (List.getElem_mem h)) k0 k1
  refine ⟨r, ?_, hr⟩
  simp only [m_w_szIntSS_l0, lt_nat h, if_true, getI_nat h, Option.bind_some, peta, e, wrap_succ (show i < 9223372036854775807 by have := (lim_list hl).1; omega)]
  exact iteOpt (by simp)) (fun l => by simp only [m_w_szIntSS_l0, lt_self]; rfl) h0 h1
theorem z_szAutomaton : SzOk m_w_szAutomaton := by
  intro x l hl h0 h1
  unfold m_w_szAutomaton
  try simp only [peta]
  obtain ⟨r1, e1, k1⟩ := z_szBoolS x.2.1 l hl.2.1 (by omega) (by omega)
  rw [e1]; simp only [Option.bind_some]
  rcases k1 with k1 | ⟨k1, j1, s1⟩
  · exact ⟨-1, by rw [if_pos (decide_eq_true k1)], .inl (by decide)⟩
  rw [if_neg (by simpa using k1)]
  obtain ⟨r2, e2, k2⟩ := z_szIntSS x.2.2 r1 hl.2.2 (by omega) (by omega)
  rw [e2]; simp only [Option.bind_some]
  rcases k2 with k2 | ⟨k2, j2, s2⟩
  · exact ⟨-1, by rw [if_pos (decide_eq_true k2)], .inl (by decide)⟩
  rw [if_neg (by simpa using k2)]
  exact ⟨_, rfl, .inr ⟨by omega, by omega, ⟨trivial, s1, s2⟩⟩⟩
theorem z_szAutomatonS : SzOk m_w_szAutomatonS := fun xs l hl h0 h1 => szL (f := m_w_szAutomatonS_l0 xs) xs (lim_list hl).1 (fun i h l k0 k1 => by
  obtain ⟨r, e, hr⟩ := z_szAutomaton xs[i] l ((lim_list hl).2 _ (List.getElem_mem h)) k0 k1
  refine ⟨r, ?_, hr⟩
  simp only [m_w_szAutomatonS_l0, lt_nat h, if_true, getI_nat h, Option.bind_some, peta, e, wrap_succ (show i < 9223372036854775807 by have := (lim_list hl).1; omega)]
  exact iteOpt (by simp)) (fun l => by simp only [m_w_szAutomatonS_l0, lt_self]; rfl) h0 h1
theorem z_szTokenS : SzOk m_w_szTokenS := fun xs l hl h0 h1 => szF xs (lim_list hl).1 (fun _ => ⟨trivial, trivial, trivial, trivial⟩) h0 h1
theorem z_szExpr : SzOk m_w_szExpr := by
  intro x l hl h0 h1
  unfold m_w_szExpr
  try simp only [peta]
  obtain ⟨r1, e1, k1⟩ := z_szTokenS x l hl (by omega) (by omega)
  rw [e1]; simp only [Option.bind_some]
  rcases k1 with k1 | ⟨k1, j1, s1⟩
  · exact ⟨-1, by rw [if_pos (decide_eq_true k1)], .inl (by decide)⟩
  rw [if_neg (by simpa using k1)]
  exact ⟨_, rfl, .inr ⟨by omega, by omega, s1⟩⟩
theorem z_szRegistered : SzOk m_w_szRegistered := by
  intro x l hl h0 h1
  unfold m_w_szRegistered
  try simp only [peta]
  obtain ⟨r1, e1, k1⟩ := z_szExpr x.2.1 l hl.2.1 (by omega) (by omega)
  rw [e1]; simp only [Option.bind_some]
  rcases k1 with k1 | ⟨k1, j1, s1⟩
  · exact ⟨-1, by rw [if_pos (decide_eq_true k1)], .inl (by decide)⟩
  rw [if_neg (by simpa using k1)]
  exact ⟨_, rfl, .inr ⟨by omega, by omega, ⟨trivial, s1, trivial⟩⟩⟩
theorem z_szRegisteredS : SzOk m_w_szRegisteredS := fun xs l hl h0 h1 => szL (f := m_w_szRegisteredS_l0 xs) xs (lim_list hl).1 (fun i h l k0 k1 => by
  obtain ⟨r, e, hr⟩ := z_szRegistered xs[i] l ((lim_list hl).2 _ (List.getElem_mem h)) k0 k1
  refine ⟨r, ?_, hr⟩
  simp only [m_w_szRegisteredS_l0, lt_nat h, if_true, getI_nat h, Option.bind_some, peta, e, wrap_succ (show i < 9223372036854775807 by have := (lim_list hl).1; omega)]
  exact iteOpt (by simp)) (fun l => by simp only [m_w_szRegisteredS_l0, lt_self]; rfl) h0 h1
theorem z_szRegistry : SzOk m_w_szRegistry := by
  intro x l hl h0 h1
  unfold m_w_szRegistry
  try simp only [peta]
  obtain ⟨r1, e1, k1⟩ := z_szAutomatonS x.1 l hl.1 (by omega) (by omega)
  rw [e1]; simp only [Option.bind_some]
  rcases k1 with k1 | ⟨k1, j1, s1⟩
  · exact ⟨-1, by rw [if_pos (decide_eq_true k1)], .inl (by decide)⟩
  rw [if_neg (by simpa using k1)]
  obtain ⟨r2, e2, k2⟩ := z_szRegisteredS x.2 r1 hl.2 (by omega) (by omega)
  rw [e2]; simp only [Option.bind_some]
  rcases k2 with k2 | ⟨k2, j2, s2⟩
  · exact ⟨-1, by rw [if_pos (decide_eq_true k2)], .inl (by decide)⟩
  rw [if_neg (by simpa using k2)]
  exact ⟨_, rfl, .inr ⟨by omega, by omega, ⟨s1, s2⟩⟩⟩
theorem t_toBoolS : ToOk m_w_toBoolS := by
  intro xs hx
  have hn := (sm_list hx).1
  unfold m_w_toBoolS
  rw [mkI_ok (by omega)]; simp only [Option.bind_some]
  rw [toL (f := m_w_toBoolS_l0 xs) xs (by omega) (fun ys i h hy => by simp only [m_w_toBoolS_l0, lt_nat h, if_true, getI_nat h, getI_nat (show i < ys.length by omega), Option.bind_some, peta, wrap_succ (show i < 9223372036854775807 by omega), Int.toNat_natCast]) (fun ys hy => by simp only [m_w_toBoolS_l0, lt_self]; rfl)]
  rfl
theorem t_toIntS : ToOk m_w_toIntS := by
  intro xs hx
  have hn := (sm_list hx).1
  unfold m_w_toIntS
  rw [mkI_ok (by omega)]; simp only [Option.bind_some]
  rw [toL (f := m_w_toIntS_l0 xs) xs (by omega) (fun ys i h hy => by simp only [m_w_toIntS_l0, lt_nat h, if_true, getI_nat h, getI_nat (show i < ys.length by omega), Option.bind_some, peta, wrap_succ (show i < 9223372036854775807 by omega), Int.toNat_natCast]) (fun ys hy => by simp only [m_w_toIntS_l0, lt_self]; rfl)]
  rfl
theorem t_toIntSS : ToOk m_w_toIntSS := by
  intro xs hx
  have hn := (sm_list hx).1
  unfold m_w_toIntSS
  rw [mkI_ok (by omega)]; simp only [Option.bind_some]
  rw [toL (f := m_w_toIntSS_l0 xs) xs (by omega) (fun ys i h hy => by simp only [m_w_toIntSS_l0, lt_nat h, if_true, getI_nat h, getI_nat (show i < ys.length by omega), Option.bind_some, peta, t_toIntS xs[i] ((sm_list hx).2 _ (List.getElem_mem h)), wrap_succ (show i < 9223372036854775807 by omega), Int.toNat_natCast]) (fun ys hy => by simp only [m_w_toIntSS_l0, lt_self]; rfl)]
  rfl
theorem t_toAutomaton : ToOk m_w_toAutomaton := by
  intro x hx
  unfold m_w_toAutomaton
  simp only [peta, Option.bind_some, t_toBoolS x.2.1 hx.2.1, t_toIntSS x.2.2 hx.2.2]
theorem t_toAutomatonS : ToOk m_w_toAutomatonS := by
  intro xs hx
  have hn := (sm_list hx).1
  unfold m_w_toAutomatonS
  rw [mkI_ok (by omega)]; simp only [Option.bind_some]
  rw [toL (f := m_w_toAutomatonS_l0 xs) xs (by omega) (fun ys i h hy => by simp only [m_w_toAutomatonS_l0, lt_nat h, if_true, getI_nat h, getI_nat (show i < ys.length by omega), Option.bind_some, peta, t_toAutomaton xs[i] ((sm_list hx).2 _ (List.getElem_mem h)), wrap_succ (show i < 9223372036854775807 by omega), Int.toNat_natCast]) (fun ys hy => by simp only [m_w_toAutomatonS_l0, lt_self]; rfl)]
  rfl
theorem t_toToken : ToOk m_w_toToken := by
  intro x hx
  unfold m_w_toToken
  simp only [peta, Option.bind_some]
theorem t_toTokenS : ToOk m_w_toTokenS := by
  intro xs hx
  have hn := (sm_list hx).1
  unfold m_w_toTokenS
  rw [mkI_ok (by omega)]; simp only [Option.bind_some]
  rw [toL (f := m_w_toTokenS_l0 xs) xs (by omega) (fun ys i h hy => by simp only [m_w_toTokenS_l0, lt_nat h, if_true, getI_nat h, getI_nat (show i < ys.length by omega), Option.bind_some, peta, t_toToken xs[i] ((sm_list hx).2 _ (List.getElem_mem h)), wrap_succ (show i < 9223372036854775807 by omega), Int.toNat_natCast]) (fun ys hy => by simp only [m_w_toTokenS_l0, lt_self]; rfl)]
  rfl
theorem t_toExpr : ToOk m_w_toExpr := by
  intro x hx
  unfold m_w_toExpr
  simp only [peta, Option.bind_some, t_toTokenS x hx]
theorem t_toRegistered : ToOk m_w_toRegistered := by
  intro x hx
  unfold m_w_toRegistered
  simp only [peta, Option.bind_some, t_toExpr x.2.1 hx.2.1]
theorem t_toRegisteredS : ToOk m_w_toRegisteredS := by
  intro xs hx
  have hn := (sm_list hx).1
  unfold m_w_toRegisteredS
  rw [mkI_ok (by omega)]; simp only [Option.bind_some]
  rw [toL (f := m_w_toRegisteredS_l0 xs) xs (by omega) (fun ys i h hy => by simp only [m_w_toRegisteredS_l0, lt_nat h, if_true, getI_nat h, getI_nat (show i < ys.length by omega), Option.bind_some, peta, t_toRegistered xs[i] ((sm_list hx).2 _ (List.getElem_mem h)), wrap_succ (show i < 9223372036854775807 by omega), Int.toNat_natCast]) (fun ys hy => by simp only [m_w_toRegisteredS_l0, lt_self]; rfl)]
  rfl
theorem t_toRegistry : ToOk m_w_toRegistry := by
  intro x hx
  unfold m_w_toRegistry
  simp only [peta, Option.bind_some, t_toAutomatonS x.1 hx.1, t_toRegisteredS x.2 hx.2]
theorem q_eqBoolS : EqOk m_w_eqBoolS := fun xs ys hx hy => eqL (f := m_w_eqBoolS_l0 xs ys) xs ys (by have := (sm_list hx).1; omega) (fun i h h' => by
  simp only [m_w_eqBoolS_l0, lt_nat h, if_true, getI_nat h, getI_nat h', Option.bind_some, peta, wrap_succ (show i < 9223372036854775807 by have := (sm_list hx).1; omega)]
  first | exact iteOpt (by simp) | exact iteOptN (by simp) | exact iteOpt (by simp [Prod.ext_iff])) (by simp only [m_w_eqBoolS_l0, lt_self]; rfl)
theorem q_eqIntS : EqOk m_w_eqIntS := fun xs ys hx hy => eqL (f := m_w_eqIntS_l0 xs ys) xs ys (by have := (sm_list hx).1; omega) (fun i h h' => by
  simp only [m_w_eqIntS_l0, lt_nat h, if_true, getI_nat h, getI_nat h', Option.bind_some, peta, wrap_succ (show i < 9223372036854775807 by have := (sm_list hx).1; omega)]
  first | exact iteOpt (by simp) | exact iteOptN (by simp) | exact iteOpt (by simp [Prod.ext_iff])) (by simp only [m_w_eqIntS_l0, lt_self]; rfl)
theorem q_eqIntSS : EqOk m_w_eqIntSS := fun xs ys hx hy => eqL (f := m_w_eqIntSS_l0 xs ys) xs ys (by have := (sm_list hx).1; omega) (fun i h h' => by
  simp only [m_w_eqIntSS_l0, lt_nat h, if_true, getI_nat h, getI_nat h', Option.bind_some, peta, q_eqIntS xs[i] ys[i] ((sm_list hx).2 _ (List.getElem_mem h)) ((sm_list hy).2 _ (List.getElem_mem h')), wrap_succ (show i < 9223372036854775807 by have := (sm_list hx).1; omega)]
  first | exact iteOpt (by simp) | exact iteOptN (by simp) | exact iteOpt (by simp [Prod.ext_iff])) (by simp only [m_w_eqIntSS_l0, lt_self]; rfl)
theorem q_eqAutomaton : EqOk m_w_eqAutomaton := by
  intro x y hx hy
  unfold m_w_eqAutomaton
  try simp only [peta, Option.bind_some, q_eqBoolS x.2.1 y.2.1 hx.2.1 hy.2.1, q_eqIntSS x.2.2 y.2.2 hx.2.2 hy.2.2]
  repeat' split
  all_goals simp_all [Prod.ext_iff]
theorem q_eqAutomatonS : EqOk m_w_eqAutomatonS := fun xs ys hx hy => eqL (f := m_w_eqAutomatonS_l0 xs ys) xs ys (by have := (sm_list hx).1; omega) (fun i h h' => by
  simp only [m_w_eqAutomatonS_l0, lt_nat h, if_true, getI_nat h, getI_nat h', Option.bind_some, peta, q_eqAutomaton xs[i] ys[i] ((sm_list hx).2 _ (List.getElem_mem h)) ((sm_list hy).2 _ (List.getElem_mem h')), wrap_succ (show i < 9223372036854775807 by have := (sm_list hx).1; omega)]
  first | exact iteOpt (by simp) | exact iteOptN (by simp) | exact iteOpt (by simp [Prod.ext_iff])) (by simp only [m_w_eqAutomatonS_l0, lt_self]; rfl)
theorem q_eqToken : EqOk m_w_eqToken := by
  intro x y hx hy
  unfold m_w_eqToken
  try simp only [peta, Option.bind_some]
  repeat' split
  all_goals simp_all [Prod.ext_iff]
theorem q_eqTokenS : EqOk m_w_eqTokenS := fun xs ys hx hy => eqL (f := m_w_eqTokenS_l0 xs ys) xs ys (by have := (sm_list hx).1; omega) (fun i h h' => by
  simp only [m_w_eqTokenS_l0, lt_nat h, if_true, getI_nat h, getI_nat h', Option.bind_some, peta, q_eqToken xs[i] ys[i] ((sm_list hx).2 _ (List.getElem_mem h)) ((sm_list hy).2 _ (List.getElem_mem h')), wrap_succ (show i < 9223372036854775807 by have := (sm_list hx).1; omega)]
  first | exact iteOpt (by simp) | exact iteOptN (by simp) | exact iteOpt (by simp [Prod.ext_iff])) (by simp only [m_w_eqTokenS_l0, lt_self]; rfl)
theorem q_eqExpr : EqOk m_w_eqExpr := by
  intro x y hx hy
  unfold m_w_eqExpr
  try simp only [peta, Option.bind_some, q_eqTokenS x y hx hy]
  repeat' split
  all_goals simp_all [Prod.ext_iff]
theorem q_eqRegistered : EqOk m_w_eqRegistered := by
  intro x y hx hy
  unfold m_w_eqRegistered
  try simp only [peta, Option.bind_some, q_eqExpr x.2.1 y.2.1 hx.2.1 hy.2.1]
  repeat' split
  all_goals simp_all [Prod.ext_iff]
theorem q_eqRegisteredS : EqOk m_w_eqRegisteredS := fun xs ys hx hy => eqL (f := m_w_eqRegisteredS_l0 xs ys) xs ys (by have := (sm_list hx).1; omega) (fun i h h' => by
  simp only [m_w_eqRegisteredS_l0, lt_nat h, if_true, getI_nat h, getI_nat h', Option.bind_some, peta, q_eqRegistered xs[i] ys[i] ((sm_list hx).2 _ (List.getElem_mem h)) ((sm_list hy).2 _ (List.getElem_mem h')), wrap_succ (show i < 9223372036854775807 by have := (sm_list hx).1; omega)]
  first | exact iteOpt (by simp) | exact iteOptN (by simp) | exact iteOpt (by simp [Prod.ext_iff])) (by simp only [m_w_eqRegisteredS_l0, lt_self]; rfl)
theorem q_eqRegistry : EqOk m_w_eqRegistry := by
  intro x y hx hy
  unfold m_w_eqRegistry
  try simp only [peta, Option.bind_some, q_eqAutomatonS x.1 y.1 hx.1 hy.1, q_eqRegisteredS x.2 y.2 hx.2 hy.2]
  repeat' split
  all_goals simp_all [Prod.ext_iff]
end Go.Proofs.YtimjccbdngajoaaGreat.D
/- Loops as steps on invariants; numbering in the order of discovery. No program text is named here. -/
set_option linter.unusedVariables false
set_option linter.unusedSimpArgs false
set_option linter.unnecessarySimpa false
namespace Go.Proofs.YtimjccbdngajoaaGreat.D
open Go.RowKit

/-! ### Loops -/
theorem loopM_go {R S : Type} {f : S → Option (Out R S)} (Inv : Nat → S → Prop) (Q : Out R S → Prop) (N : Nat)
    (h : ∀ i s, i ≤ N → Inv i s → (i < N ∧ ∃ s', f s = some (.nxt s') ∧ Inv (i + 1) s') ∨ ∃ o, f s = some o ∧ (∀ s', o ≠ .nxt s') ∧ Q o) {s : S} (h0 : Inv 0 s) (hN : N < FUEL) : ∃ o, loopM f FUEL s = some o ∧ Q o := by
  have key : ∀ (k i : Nat) (s : S), i ≤ N → N < i + k → Inv i s → ∃ o, loopM f k s = some o ∧ Q o := by
    intro k
    induction k with
    | zero => intro i s h1 h2; omega
    | succ k ih =>
      intro i s h1 h2 hI
      rcases h i s h1 hI with ⟨hi, s', e, hI'⟩ | ⟨o, e, hn, hq⟩
      · obtain ⟨o, e', hq⟩ := ih (i + 1) s' (by omega) (by omega) hI'
        exact ⟨o, by rw [loopM, e]; exact e', hq⟩
      · refine ⟨o, ?_, hq⟩
        rw [loopM, e]
        cases o with
        | nxt s' => exact absurd rfl (hn s')
        | brk s' => rfl
        | ret r => rfl
  exact key FUEL 0 s (by omega) (by omega) h0
theorem loopM_for {R S : Type} {f : S → Option (Out R S)} (Inv : Nat → S → Prop) (N : Nat) (h : ∀ i s, i < N → Inv i s → ∃ s', f s = some (.nxt s') ∧ Inv (i + 1) s') (he : ∀ s, Inv N s → f s = some (.brk s)) {s : S} (h0 : Inv 0 s) (hN : N < FUEL) : ∃ s', loopM f FUEL s = some (.brk s') ∧ Inv N s' := by
  obtain ⟨o, e, s', rfl, h⟩ := loopM_go (f := f) Inv (fun o => ∃ s', o = .brk s' ∧ Inv N s') N (fun i s hi hI => by
    by_cases h1 : i < N
    · exact .inl ⟨h1, h i s h1 hI⟩
    · obtain rfl : i = N := by omega
      exact .inr ⟨_, he s hI, (fun s' e => by cases e), s, rfl, hI⟩) h0 hN
  exact ⟨s', e, h⟩
theorem loopM_at {R S : Type} {f : S → Option (Out R S)} (st : Nat → S) (N : Nat) (h : ∀ i, i < N → f (st i) = some (.nxt (st (i + 1)))) (he : f (st N) = some (.brk (st N))) (hN : N < FUEL) : loopM f FUEL (st 0) = some (.brk (st N)) := loopM_all st N h he hN
theorem up63 {k : Nat} (h : k ≤ 9223372036854775807) : k < FUEL := fuelUp k h
theorem wrap_pred {i : Nat} (h : i ≤ 9223372036854775807) : IntKind.i64.wrap ((i : Int) - 1) = (i : Int) - 1 := wrapI (by omega) (by omega)
theorem appI_ok {α : Type} {b : Nat} {xs ys : List α} (h : (xs.length + ys.length) * b ≤ 140737488355328) : appI b xs ys = some (xs ++ ys) := by unfold appI; rw [if_pos h]
theorem bindL_ret {R S T : Type} {x : Option (Out R S)} {r : R} {kr : R → Option T} {k : S → Option T} (h : x = some (.ret r)) : bindL x kr k = kr r := by rw [h]; rfl
theorem bindL_brk {R S T : Type} {x : Option (Out R S)} {s : S} {kr : R → Option T} {k : S → Option T} (h : x = some (.brk s)) : bindL x kr k = k s := by rw [h]; rfl

/-! ### Places of lists -/
def nth {α : Type} [Inhabited α] (xs : List α) (i : Int) : α := xs.getD i.toNat default
section
variable {α : Type} [Inhabited α] {xs ys : List α}
theorem getI_nth {i : Int} (h0 : 0 ≤ i) (h1 : i < xs.length) : getI xs i = some (nth xs i) := by
  unfold getI nth
  rw [if_pos h0]
  have : i.toNat < xs.length := by omega
  simp [List.getD_eq_getElem?_getD, this]
theorem nth_nat {i : Nat} (h : i < xs.length) : nth xs (i : Int) = xs[i] := by simp [nth, List.getD_eq_getElem?_getD, h]
theorem nth_mem {i : Int} (h0 : 0 ≤ i) (h1 : i < xs.length) : nth xs i ∈ xs := by
  have : i.toNat < xs.length := by omega
  have e : nth xs i = xs[i.toNat] := by simp [nth, List.getD_eq_getElem?_getD, this]
  rw [e]; exact List.getElem_mem this
theorem nth_append_left {i : Int} (h0 : 0 ≤ i) (h1 : i < xs.length) : nth (xs ++ ys) i = nth xs i := by
  have : i.toNat < xs.length := by omega
  simp [nth, List.getD_eq_getElem?_getD, List.getElem?_append_left this]
theorem nth_set_self {i : Int} {x : α} (h0 : 0 ≤ i) (h1 : i < xs.length) : nth (xs.set i.toNat x) i = x := by
  have : i.toNat < xs.length := by omega
  simp [nth, List.getD_eq_getElem?_getD, this]
theorem ext_nth (h : xs.length = ys.length) (k : ∀ i : Nat, i < xs.length → nth xs (i : Int) = nth ys (i : Int)) : xs = ys := by
  refine List.ext_getElem h fun i h1 h2 => ?_
  have := k i h1
  rwa [nth_nat h1, nth_nat h2] at this
end

/-! ### Numbering in the order of discovery -/
section
variable {κ : Type} [DecidableEq κ]
def nbL (l : List κ) : Option κ → List κ
  | none => l
  | some x => if x ∈ l then l else l ++ [x]
def nbI (l : List κ) : Option κ → Int
  | none => -1
  | some x => (l.idxOf x : Int)
def nbS (l : List κ) (os : List (Option κ)) : List κ := os.foldl nbL l
def nbR (l : List κ) : List (Option κ) → List Int
  | [] => []
  | o :: os => nbI l o :: nbR (nbL l o) os
theorem nbS_snoc (l : List κ) (os : List (Option κ)) (o : Option κ) : nbS l (os ++ [o]) = nbL (nbS l os) o := by simp [nbS]
theorem nbR_snoc : ∀ (l : List κ) (os : List (Option κ)) (o : Option κ), nbR l (os ++ [o]) = nbR l os ++ [nbI (nbS l os) o]
  | l, [], o => rfl
  | l, p :: os, o => by
    show nbI l p :: nbR (nbL l p) (os ++ [o]) = nbI l p :: nbR (nbL l p) os ++ [nbI (nbS (nbL l p) os) o]
    rw [nbR_snoc (nbL l p) os o]; rfl
theorem nbR_length : ∀ (l : List κ) (os : List (Option κ)), (nbR l os).length = os.length
  | l, [] => rfl
  | l, o :: os => by show (nbR (nbL l o) os).length + 1 = _; rw [nbR_length]; rfl
theorem nbL_prefix (l : List κ) (o : Option κ) : l <+: nbL l o := by
  cases o with
  | none => exact List.prefix_refl l
  | some x => unfold nbL; simp only; split
              · exact List.prefix_refl l
              · exact List.prefix_append l [x]
theorem nbS_prefix : ∀ (l : List κ) (os : List (Option κ)), l <+: nbS l os
  | l, [] => List.prefix_refl l
  | l, o :: os => (nbL_prefix l o).trans (nbS_prefix (nbL l o) os)
theorem nbL_nodup {l : List κ} {o : Option κ} (h : l.Nodup) : (nbL l o).Nodup := by
  cases o with
  | none => exact h
  | some x => unfold nbL; simp only; split
              · exact h
              · rename_i hx; exact List.nodup_append.2 ⟨h, by simp, by rintro a ha b hb rfl; simp at hb; exact hx (hb ▸ ha)⟩
theorem nbS_nodup : ∀ {l : List κ} {os : List (Option κ)}, l.Nodup → (nbS l os).Nodup
  | l, [], h => h
  | l, o :: os, h => nbS_nodup (l := nbL l o) (os := os) (nbL_nodup h)
theorem mem_nbL {l : List κ} {o : Option κ} {x : κ} : x ∈ nbL l o ↔ x ∈ l ∨ o = some x := by
  cases o with
  | none => simp [nbL]
  | some y => unfold nbL; simp only; split
              · rename_i h; constructor
                · exact .inl
                · rintro (h' | h')
                  · exact h'
                  · simp at h'; exact h' ▸ h
              · simp; exact or_congr Iff.rfl eq_comm
theorem mem_nbS : ∀ {l : List κ} {os : List (Option κ)} {x : κ}, x ∈ nbS l os ↔ x ∈ l ∨ some x ∈ os
  | l, [], x => by simp [nbS]
  | l, o :: os, x => by
    show x ∈ nbS (nbL l o) os ↔ _
    rw [mem_nbS, mem_nbL, List.mem_cons, or_assoc]
    exact or_congr Iff.rfl (or_congr eq_comm Iff.rfl)
theorem nbL_old {l : List κ} {x : κ} (h : x ∈ l) : nbL l (some x) = l := by simp [nbL, h]
theorem nbL_new {l : List κ} {x : κ} (h : x ∉ l) : nbL l (some x) = l ++ [x] := by simp [nbL, h]
theorem idxOf_nbL {l : List κ} {x : κ} (h : x ∉ l) : l.idxOf x = l.length := List.idxOf_eq_length h

def bfS (nx : κ → List (Option κ)) (first : κ) : Nat → List κ
  | 0 => [first]
  | i + 1 => match (bfS nx first i)[i]? with
    | some x => nbS (bfS nx first i) (nx x)
    | none => bfS nx first i
def bfR (nx : κ → List (Option κ)) (first : κ) : Nat → List (List Int)
  | 0 => []
  | i + 1 => bfR nx first i ++ (match (bfS nx first i)[i]? with
    | some x => [nbR (bfS nx first i) (nx x)]
    | none => [])
variable {nx : κ → List (Option κ)} {first : κ}
theorem bfS_succ {i : Nat} (h : i < (bfS nx first i).length) : bfS nx first (i + 1) = nbS (bfS nx first i) (nx ((bfS nx first i)[i])) := by
  rw [bfS, List.getElem?_eq_getElem h]
theorem bfR_succ {i : Nat} (h : i < (bfS nx first i).length) : bfR nx first (i + 1) = bfR nx first i ++ [nbR (bfS nx first i) (nx ((bfS nx first i)[i]))] := by
  rw [bfR, List.getElem?_eq_getElem h]
theorem bfS_step_prefix (i : Nat) : bfS nx first i <+: bfS nx first (i + 1) := by
  rw [bfS]
  split
  · exact nbS_prefix _ _
  · exact List.prefix_refl _
theorem bfS_prefix {i j : Nat} (h : i ≤ j) : bfS nx first i <+: bfS nx first j := by
  induction h with
  | refl => exact List.prefix_refl _
  | step _ ih => exact ih.trans (bfS_step_prefix _)
theorem bfS_nodup : ∀ i, (bfS nx first i).Nodup
  | 0 => by simp [bfS]
  | i + 1 => by
    rw [bfS]
    split
    · exact nbS_nodup (bfS_nodup i)
    · exact bfS_nodup i
theorem bfS_good {G : κ → Prop} (h0 : G first) (h : ∀ x, G x → ∀ y, some y ∈ nx x → G y) : ∀ i, ∀ x ∈ bfS nx first i, G x
  | 0 => by simp [bfS]; exact h0
  | i + 1 => by
    rw [bfS]
    split
    · rename_i y hy
      intro x hx
      rcases mem_nbS.1 hx with hx | hx
      · exact bfS_good h0 h i x hx
      · exact h y (bfS_good h0 h i y (List.mem_of_getElem? hy)) x hx
    · exact bfS_good h0 h i
theorem bfS_first (i : Nat) : (bfS nx first i)[0]? = some first := by
  obtain ⟨t, ht⟩ := bfS_prefix (nx := nx) (first := first) (Nat.zero_le i)
  rw [← ht]; rfl
theorem bfR_length : ∀ {i : Nat}, (∀ j, j < i → j < (bfS nx first j).length) → (bfR nx first i).length = i
  | 0, _ => rfl
  | i + 1, h => by rw [bfR_succ (h i (by omega)), List.length_append, bfR_length fun j hj => h j (by omega)]; rfl
def bfE (nx : κ → List (Option κ)) (first : κ) (N : Nat) : Prop := N = (bfS nx first N).length ∧ ∀ i, i < N → i < (bfS nx first i).length
theorem bfE_ex {B : Nat} (hB : ∀ i, (bfS nx first i).length ≤ B) : ∃ N, N ≤ B ∧ bfE nx first N := by
  have key : ∀ m i, i + m = B → (∀ j, j < i → j < (bfS nx first j).length) → ∃ N, N ≤ B ∧ bfE nx first N := by
    intro m
    induction m with
    | zero =>
      intro i hi hj
      have h1 := hB i
      have h2 : i ≤ (bfS nx first i).length := by
        cases i with
        | zero => omega
        | succ i =>
          have := hj i (by omega)
          have hp := (bfS_step_prefix (nx := nx) (first := first) i).length_le
          omega
      exact ⟨i, by omega, by omega, hj⟩
    | succ m ih =>
      intro i hi hj
      by_cases h : i < (bfS nx first i).length
      · exact ih (i + 1) (by omega) fun j hj' => by
          by_cases e : j = i
          · subst e; exact h
          · exact hj j (by omega)
      · have h2 : i ≤ (bfS nx first i).length := by
          cases i with
          | zero => omega
          | succ i =>
            have := hj i (by omega)
            have hp := (bfS_step_prefix (nx := nx) (first := first) i).length_le
            omega
        exact ⟨i, by omega, by omega, hj⟩
  exact key B 0 (by omega) (by omega)
theorem bfE_uniq {N M : Nat} (h : bfE nx first N) (k : bfE nx first M) : N = M := by
  rcases Nat.lt_trichotomy N M with e | e | e
  · have := k.2 N e; have := h.1; omega
  · exact e
  · have := h.2 M e; have := k.1; omega
end
end Go.Proofs.YtimjccbdngajoaaGreat.D
/- Marks put into a result, and held there. No program text is named here. -/
set_option linter.unusedVariables false
set_option linter.unusedSimpArgs false
set_option linter.unnecessarySimpa false
set_option linter.unusedSectionVars false
namespace Go.Proofs.YtimjccbdngajoaaGreat.D
open Go.RowKit

section
variable {α : Type} [Inhabited α]
def smk (mk : α → Nat) : List α → Nat
  | [] => 0
  | x :: xs => mk x + smk mk xs
def mkd (mk : α → Nat) (m : α → Nat → α) : List α → Nat → List α
  | [], _ => []
  | x :: xs, k => m x k :: mkd mk m xs (k + mk x)
theorem smk_snoc (mk : α → Nat) : ∀ (xs : List α) (x : α), smk mk (xs ++ [x]) = smk mk xs + mk x
  | [], x => by simp [smk]
  | y :: xs, x => by simp [smk, smk_snoc mk xs x, Nat.add_assoc]
theorem mkd_snoc (mk : α → Nat) (m : α → Nat → α) : ∀ (xs : List α) (x : α) (k : Nat), mkd mk m (xs ++ [x]) k = mkd mk m xs k ++ [m x (k + smk mk xs)]
  | [], x, k => by simp [mkd, smk]
  | y :: xs, x, k => by simp [mkd, smk, mkd_snoc mk m xs x, Nat.add_assoc]
theorem mkd_length (mk : α → Nat) (m : α → Nat → α) : ∀ (xs : List α) (k : Nat), (mkd mk m xs k).length = xs.length
  | [], _ => rfl
  | x :: xs, k => by simp [mkd, mkd_length mk m xs]
theorem mkd_take (mk : α → Nat) (m : α → Nat → α) : ∀ (xs : List α) (k i : Nat), (mkd mk m xs k).take i = mkd mk m (xs.take i) k
  | [], _, _ => by simp [mkd]
  | x :: xs, k, 0 => by simp [mkd]
  | x :: xs, k, i + 1 => by simp [mkd, mkd_take mk m xs]
theorem takeS {xs : List α} {k : Nat} (h : k < xs.length) : xs.take (k + 1) = xs.take k ++ [nth xs (k : Int)] := by
  rw [List.take_succ_eq_append_getElem h, nth_nat h]
theorem mkd_at (mk : α → Nat) (m : α → Nat → α) (xs : List α) (k : Nat) {i : Nat} (h : i < xs.length) : nth (mkd mk m xs k) (i : Int) = m (nth xs (i : Int)) (k + smk mk (xs.take i)) := by
  have h' : i < (mkd mk m xs k).length := by rw [mkd_length]; exact h
  have e := takeS h'
  rw [mkd_take, mkd_take, takeS h, mkd_snoc] at e
  have := List.append_cancel_left e
  simpa using this.symm
theorem smk_take (mk : α → Nat) {xs : List α} {i : Nat} (h : i < xs.length) : smk mk (xs.take (i + 1)) = smk mk (xs.take i) + mk (nth xs (i : Int)) := by rw [takeS h, smk_snoc]
theorem smk_le (mk : α → Nat) : ∀ (xs : List α) (i : Nat), smk mk (xs.take i) ≤ smk mk xs
  | [], _ => by simp
  | x :: xs, 0 => by simp [smk]
  | x :: xs, i + 1 => by simp [smk]; exact smk_le mk xs i
theorem smk_bound (mk : α → Nat) {B : Nat} : ∀ (xs : List α), (∀ x ∈ xs, mk x ≤ B) → smk mk xs ≤ xs.length * B
  | [], _ => by simp [smk]
  | x :: xs, h => by
    have h1 := smk_bound mk xs fun y hy => h y (by simp [hy])
    have h2 := h x (by simp)
    simp only [smk, List.length_cons, Nat.add_mul, Nat.one_mul]; omega
theorem set_mid {xs ys : List α} {i : Nat} (hi : i < xs.length) (hl : ys.length = i) (x : α) : (ys ++ xs.drop i).set i x = ys ++ [x] ++ xs.drop (i + 1) := by
  rw [List.set_append_right _ _ (by omega), hl, Nat.sub_self, List.drop_eq_getElem_cons hi, List.set_cons_zero, List.append_assoc]; rfl
theorem markL {R : Type} {f : List α × Int × Int → Option (Out R (List α × Int × Int))} (xs : List α) (mk : α → Nat) (m : α → Nat → α) (hN : xs.length ≤ 9223372036854775807) {k : Nat} (hk : k + smk mk xs ≤ 4611686018427387904)
    (hstep : ∀ ys (i k : Nat), i < xs.length → ys.length = xs.length → nth ys (i : Int) = nth xs (i : Int) → k + mk (nth xs (i : Int)) ≤ 4611686018427387904 → f (ys, (k : Int), (i : Int)) = some (.nxt (ys.set i (m (nth xs (i : Int)) k), ((k + mk (nth xs (i : Int)) : Nat) : Int), ((i + 1 : Nat) : Int))))
    (hend : ∀ ys (k : Nat), ys.length = xs.length → f (ys, (k : Int), (xs.length : Int)) = some (.brk (ys, (k : Int), (xs.length : Int)))) :
    loopM f FUEL (xs, (k : Int), 0) = some (.brk (mkd mk m xs k, ((k + smk mk xs : Nat) : Int), (xs.length : Int))) := by
  have hlen : ∀ i, i ≤ xs.length → (mkd mk m (xs.take i) k ++ xs.drop i).length = xs.length := fun i hi => by
    rw [List.length_append, mkd_length, List.length_take, List.length_drop]; omega
  have := loopM_at (f := f) (fun i => (mkd mk m (xs.take i) k ++ xs.drop i, ((k + smk mk (xs.take i) : Nat) : Int), (i : Int))) xs.length (fun i hi => by
    have hl : (mkd mk m (xs.take i) k).length = i := by rw [mkd_length, List.length_take]; omega
    have hle := smk_le mk xs (i + 1)
    rw [smk_take mk hi] at hle
    rw [hstep _ i (k + smk mk (xs.take i)) hi (hlen i (by omega)) ?_ (by omega), set_mid hi hl, takeS hi, mkd_snoc, smk_snoc, Nat.add_assoc]
    have h' : i < (mkd mk m (xs.take i) k ++ xs.drop i).length := by rw [hlen i (by omega)]; exact hi
    rw [nth_nat h', nth_nat hi, List.getElem_append_right (by omega)]
    simp [hl]) (by
    have := hend (mkd mk m (xs.take xs.length) k ++ xs.drop xs.length) (k + smk mk (xs.take xs.length)) (hlen _ (Nat.le_refl _))
    exact this) (up63 hN)
  simpa [mkd, smk] using this
theorem heldL {f : Int × Int → Option (Out Int (Int × Int))} (xs : List α) (mk : α → Nat) (m : α → Nat → α) (hN : xs.length ≤ 9223372036854775807) {k : Nat} (hk : k + smk mk xs ≤ 4611686018427387904)
    (hstep : ∀ (i k' : Nat), i < xs.length → nth (mkd mk m xs k) (i : Int) = m (nth xs (i : Int)) k' → k' + mk (nth xs (i : Int)) ≤ 4611686018427387904 → f ((k' : Int), (i : Int)) = some (.nxt (((k' + mk (nth xs (i : Int)) : Nat) : Int), ((i + 1 : Nat) : Int))))
    (hend : ∀ (k' : Nat), f ((k' : Int), (xs.length : Int)) = some (.brk ((k' : Int), (xs.length : Int)))) :
    loopM f FUEL ((k : Int), 0) = some (.brk (((k + smk mk xs : Nat) : Int), (xs.length : Int))) := by
  have := loopM_at (f := f) (fun i => (((k + smk mk (xs.take i) : Nat) : Int), (i : Int))) xs.length (fun i hi => by
    have hle := smk_le mk xs (i + 1)
    rw [smk_take mk hi] at hle
    rw [hstep i (k + smk mk (xs.take i)) hi (mkd_at mk m xs k hi) (by omega), smk_take mk hi, Nat.add_assoc]) (hend _) (up63 hN)
  simpa [smk] using this
end
end Go.Proofs.YtimjccbdngajoaaGreat.D
/- Printed by genmark.py: what the helpers of the law that mark and look for marks compute. -/
set_option linter.unusedVariables false
set_option linter.unusedSimpArgs false
set_option linter.unnecessarySimpa false
set_option maxRecDepth 4000
set_option synthInstance.maxSize 20000
set_option synthInstance.maxHeartbeats 2000000
namespace Go.Proofs.YtimjccbdngajoaaGreat.D
open Go.RowKit
theorem getI_setM {α : Type} {xs : List α} {i : Nat} {x : α} (h : i < xs.length) : getI (xs.set i x) (i : Int) = some x := by
  rw [getI_nat (by rw [List.length_set]; exact h)]; simp
theorem ltzM {n : Nat} : decide ((n : Int) < 0) = false := by simp only [decide_eq_false_iff_not]; omega
def c_BoolS (x : Bool) : Nat := 1
def e_BoolS (x : Bool) (k : Nat) : Bool := ((Int.tmod ((k : Nat) : Int) 3) == 0)
theorem cb_BoolS (xs : List Bool) (hx : Data.sm xs) : smk c_BoolS xs ≤ 1048576 * 1 := by
  obtain ⟨h1, h2⟩ := sm_list hx
  have b := smk_bound c_BoolS (B := 1) xs (fun x hx => by
    simp [c_BoolS])
  exact Nat.le_trans b (Nat.mul_le_mul_right _ h1)
theorem mk_BoolS (xs : List Bool) (hx : Data.sm xs) {k : Nat} (hk : k + smk c_BoolS xs ≤ 4611686018427387904) : m_w_markBoolS xs (k : Int) = some (((k + smk c_BoolS xs : Nat) : Int), mkd c_BoolS e_BoolS xs k) := by
  obtain ⟨hN, hs⟩ := sm_list hx
  unfold m_w_markBoolS
  rw [bindL_brk (markL (f := m_w_markBoolS_l0) xs c_BoolS e_BoolS (by omega) hk (fun ys i k hi hl he hk => by
    have hz0 := hs _ (nth_mem (xs := xs) (i := (i : Int)) (by omega) (by omega))
    unfold m_w_markBoolS_l0
    have hi' : i < ys.length := by omega
    generalize hz : nth xs (i : Int) = z at *
    have hk' : k + (1) ≤ 4611686018427387904 := hk
    simp only
    rw [if_pos (by simp; omega), getI_nth (by omega) (by omega), he]
    simp only [Option.bind_some, Int.toNat_natCast, getI_setM hi', List.set_set, wrap_succ (show i < 9223372036854775807 by omega), wrap_succ (show k < 9223372036854775807 by omega)]
    have e : k + c_BoolS z = k + 1 := by unfold c_BoolS; omega
    rw [e]; rfl) (fun ys k hl => by
    unfold m_w_markBoolS_l0
    simp only
    rw [if_neg (by simp; omega)]))]
theorem hd_BoolS (xs : List Bool) (hx : Data.sm xs) {k : Nat} (hk : k + smk c_BoolS xs ≤ 4611686018427387904) : m_w_heldBoolS (mkd c_BoolS e_BoolS xs k) (k : Int) = some ((k + smk c_BoolS xs : Nat) : Int) := by
  obtain ⟨hN, hs⟩ := sm_list hx
  unfold m_w_heldBoolS
  rw [bindL_brk (heldL (f := m_w_heldBoolS_l0 _) xs c_BoolS e_BoolS (by omega) hk (fun i k' hi he hk => by
    have hz0 := hs _ (nth_mem (xs := xs) (i := (i : Int)) (by omega) (by omega))
    unfold m_w_heldBoolS_l0
    generalize hz : nth xs (i : Int) = z at *
    have hk' : k' + (1) ≤ 4611686018427387904 := hk
    simp only
    rw [if_pos (by simp [mkd_length]; omega), getI_nth (by omega) (by rw [mkd_length]; omega), he]
    simp only [e_BoolS, Option.bind_some, bne_self_eq_false, Bool.false_eq_true, if_false, ltzM, wrap_succ (show i < 9223372036854775807 by omega), wrap_succ (show k' < 9223372036854775807 by omega)]
    have e : k' + c_BoolS z = k' + 1 := by unfold c_BoolS; omega
    rw [e]) (fun k' => by
    unfold m_w_heldBoolS_l0
    simp only
    rw [if_neg (by simp [mkd_length])]))]
def c_IntS (x : Int) : Nat := 1
def e_IntS (x : Int) (k : Nat) : Int := ((k : Nat) : Int)
theorem cb_IntS (xs : List Int) (hx : Data.sm xs) : smk c_IntS xs ≤ 1048576 * 1 := by
  obtain ⟨h1, h2⟩ := sm_list hx
  have b := smk_bound c_IntS (B := 1) xs (fun x hx => by
    simp [c_IntS])
  exact Nat.le_trans b (Nat.mul_le_mul_right _ h1)
theorem mk_IntS (xs : List Int) (hx : Data.sm xs) {k : Nat} (hk : k + smk c_IntS xs ≤ 4611686018427387904) : m_w_markIntS xs (k : Int) = some (((k + smk c_IntS xs : Nat) : Int), mkd c_IntS e_IntS xs k) := by
  obtain ⟨hN, hs⟩ := sm_list hx
  unfold m_w_markIntS
  rw [bindL_brk (markL (f := m_w_markIntS_l0) xs c_IntS e_IntS (by omega) hk (fun ys i k hi hl he hk => by
    have hz0 := hs _ (nth_mem (xs := xs) (i := (i : Int)) (by omega) (by omega))
    unfold m_w_markIntS_l0
    have hi' : i < ys.length := by omega
    generalize hz : nth xs (i : Int) = z at *
    have hk' : k + (1) ≤ 4611686018427387904 := hk
    simp only
    rw [if_pos (by simp; omega), getI_nth (by omega) (by omega), he]
    simp only [Option.bind_some, Int.toNat_natCast, getI_setM hi', List.set_set, wrap_succ (show i < 9223372036854775807 by omega), wrap_succ (show k < 9223372036854775807 by omega)]
    have e : k + c_IntS z = k + 1 := by unfold c_IntS; omega
    rw [e]; rfl) (fun ys k hl => by
    unfold m_w_markIntS_l0
    simp only
    rw [if_neg (by simp; omega)]))]
theorem hd_IntS (xs : List Int) (hx : Data.sm xs) {k : Nat} (hk : k + smk c_IntS xs ≤ 4611686018427387904) : m_w_heldIntS (mkd c_IntS e_IntS xs k) (k : Int) = some ((k + smk c_IntS xs : Nat) : Int) := by
  obtain ⟨hN, hs⟩ := sm_list hx
  unfold m_w_heldIntS
  rw [bindL_brk (heldL (f := m_w_heldIntS_l0 _) xs c_IntS e_IntS (by omega) hk (fun i k' hi he hk => by
    have hz0 := hs _ (nth_mem (xs := xs) (i := (i : Int)) (by omega) (by omega))
    unfold m_w_heldIntS_l0
    generalize hz : nth xs (i : Int) = z at *
    have hk' : k' + (1) ≤ 4611686018427387904 := hk
    simp only
    rw [if_pos (by simp [mkd_length]; omega), getI_nth (by omega) (by rw [mkd_length]; omega), he]
    simp only [e_IntS, Option.bind_some, bne_self_eq_false, Bool.false_eq_true, if_false, ltzM, wrap_succ (show i < 9223372036854775807 by omega), wrap_succ (show k' < 9223372036854775807 by omega)]
    have e : k' + c_IntS z = k' + 1 := by unfold c_IntS; omega
    rw [e]) (fun k' => by
    unfold m_w_heldIntS_l0
    simp only
    rw [if_neg (by simp [mkd_length])]))]
def c_IntSS (x : List Int) : Nat := smk c_IntS (x)
def e_IntSS (x : List Int) (k : Nat) : List Int := mkd c_IntS e_IntS x k
theorem cb_IntSS (xs : List (List Int)) (hx : Data.sm xs) : smk c_IntSS xs ≤ 1048576 * 1048576 := by
  obtain ⟨h1, h2⟩ := sm_list hx
  have b := smk_bound c_IntSS (B := 1048576) xs (fun x hx => by
    have hs := h2 x hx
    have q0 := cb_IntS (x) hs
    unfold c_IntSS; omega)
  exact Nat.le_trans b (Nat.mul_le_mul_right _ h1)
theorem mk_IntSS (xs : List (List Int)) (hx : Data.sm xs) {k : Nat} (hk : k + smk c_IntSS xs ≤ 4611686018427387904) : m_w_markIntSS xs (k : Int) = some (((k + smk c_IntSS xs : Nat) : Int), mkd c_IntSS e_IntSS xs k) := by
  obtain ⟨hN, hs⟩ := sm_list hx
  unfold m_w_markIntSS
  rw [bindL_brk (markL (f := m_w_markIntSS_l0) xs c_IntSS e_IntSS (by omega) hk (fun ys i k hi hl he hk => by
    have hz0 := hs _ (nth_mem (xs := xs) (i := (i : Int)) (by omega) (by omega))
    unfold m_w_markIntSS_l0
    have hi' : i < ys.length := by omega
    generalize hz : nth xs (i : Int) = z at *
    have hk' : k + (smk c_IntS (z)) ≤ 4611686018427387904 := hk
    have m0 := mk_IntS (z) hz0 (k := k) (by omega)
    simp only
    rw [if_pos (by simp; omega), getI_nth (by omega) (by omega), he]
    simp only [Option.bind_some, Int.toNat_natCast, getI_setM hi', List.set_set, wrap_succ (show i < 9223372036854775807 by omega), m0]
    have e : k + c_IntSS z = k + smk c_IntS (z) := by unfold c_IntSS; omega
    rw [e]; rfl) (fun ys k hl => by
    unfold m_w_markIntSS_l0
    simp only
    rw [if_neg (by simp; omega)]))]
theorem hd_IntSS (xs : List (List Int)) (hx : Data.sm xs) {k : Nat} (hk : k + smk c_IntSS xs ≤ 4611686018427387904) : m_w_heldIntSS (mkd c_IntSS e_IntSS xs k) (k : Int) = some ((k + smk c_IntSS xs : Nat) : Int) := by
  obtain ⟨hN, hs⟩ := sm_list hx
  unfold m_w_heldIntSS
  rw [bindL_brk (heldL (f := m_w_heldIntSS_l0 _) xs c_IntSS e_IntSS (by omega) hk (fun i k' hi he hk => by
    have hz0 := hs _ (nth_mem (xs := xs) (i := (i : Int)) (by omega) (by omega))
    unfold m_w_heldIntSS_l0
    generalize hz : nth xs (i : Int) = z at *
    have hk' : k' + (smk c_IntS (z)) ≤ 4611686018427387904 := hk
    have m0 := hd_IntS (z) hz0 (k := k') (by omega)
    simp only
    rw [if_pos (by simp [mkd_length]; omega), getI_nth (by omega) (by rw [mkd_length]; omega), he]
    simp only [e_IntSS, Option.bind_some, bne_self_eq_false, Bool.false_eq_true, if_false, ltzM, wrap_succ (show i < 9223372036854775807 by omega), m0]
    have e : k' + c_IntSS z = k' + smk c_IntS (z) := by unfold c_IntSS; omega
    rw [e]) (fun k' => by
    unfold m_w_heldIntSS_l0
    simp only
    rw [if_neg (by simp [mkd_length])]))]
def c_AutomatonS (x : Int × (List Bool) × (List (List Int))) : Nat := 1 + smk c_BoolS (x.2.1) + smk c_IntSS (x.2.2)
def e_AutomatonS (x : Int × (List Bool) × (List (List Int))) (k : Nat) : Int × (List Bool) × (List (List Int)) := (((k : Nat) : Int), mkd c_BoolS e_BoolS (x.2.1) (k + 1), mkd c_IntSS e_IntSS (x.2.2) (k + 1 + smk c_BoolS (x.2.1)))
theorem cb_AutomatonS (xs : List (Int × (List Bool) × (List (List Int)))) (hx : Data.sm xs) : smk c_AutomatonS xs ≤ 1048576 * 1099512676353 := by
  obtain ⟨h1, h2⟩ := sm_list hx
  have b := smk_bound c_AutomatonS (B := 1099512676353) xs (fun x hx => by
    have hs := h2 x hx
    have q0 := cb_BoolS (x.2.1) hs.2.1
    have q1 := cb_IntSS (x.2.2) hs.2.2
    unfold c_AutomatonS; omega)
  exact Nat.le_trans b (Nat.mul_le_mul_right _ h1)
theorem mk_AutomatonS (xs : List (Int × (List Bool) × (List (List Int)))) (hx : Data.sm xs) {k : Nat} (hk : k + smk c_AutomatonS xs ≤ 4611686018427387904) : m_w_markAutomatonS xs (k : Int) = some (((k + smk c_AutomatonS xs : Nat) : Int), mkd c_AutomatonS e_AutomatonS xs k) := by
  obtain ⟨hN, hs⟩ := sm_list hx
  unfold m_w_markAutomatonS
  rw [bindL_brk (markL (f := m_w_markAutomatonS_l0) xs c_AutomatonS e_AutomatonS (by omega) hk (fun ys i k hi hl he hk => by
    have hz0 := hs _ (nth_mem (xs := xs) (i := (i : Int)) (by omega) (by omega))
    unfold m_w_markAutomatonS_l0
    have hi' : i < ys.length := by omega
    generalize hz : nth xs (i : Int) = z at *
    have hk' : k + (1 + smk c_BoolS (z.2.1) + smk c_IntSS (z.2.2)) ≤ 4611686018427387904 := hk
    have m0 := mk_BoolS (z.2.1) hz0.2.1 (k := k + 1) (by omega)
    have m1 := mk_IntSS (z.2.2) hz0.2.2 (k := k + 1 + smk c_BoolS (z.2.1)) (by omega)
    simp only
    rw [if_pos (by simp; omega), getI_nth (by omega) (by omega), he]
    simp only [Option.bind_some, Int.toNat_natCast, getI_setM hi', List.set_set, wrap_succ (show i < 9223372036854775807 by omega), wrap_succ (show k < 9223372036854775807 by omega), m0, m1]
    have e : k + c_AutomatonS z = k + 1 + smk c_BoolS (z.2.1) + smk c_IntSS (z.2.2) := by unfold c_AutomatonS; omega
    rw [e]; rfl) (fun ys k hl => by
    unfold m_w_markAutomatonS_l0
    simp only
    rw [if_neg (by simp; omega)]))]
theorem hd_AutomatonS (xs : List (Int × (List Bool) × (List (List Int)))) (hx : Data.sm xs) {k : Nat} (hk : k + smk c_AutomatonS xs ≤ 4611686018427387904) : m_w_heldAutomatonS (mkd c_AutomatonS e_AutomatonS xs k) (k : Int) = some ((k + smk c_AutomatonS xs : Nat) : Int) := by
  obtain ⟨hN, hs⟩ := sm_list hx
  unfold m_w_heldAutomatonS
  rw [bindL_brk (heldL (f := m_w_heldAutomatonS_l0 _) xs c_AutomatonS e_AutomatonS (by omega) hk (fun i k' hi he hk => by
    have hz0 := hs _ (nth_mem (xs := xs) (i := (i : Int)) (by omega) (by omega))
    unfold m_w_heldAutomatonS_l0
    generalize hz : nth xs (i : Int) = z at *
    have hk' : k' + (1 + smk c_BoolS (z.2.1) + smk c_IntSS (z.2.2)) ≤ 4611686018427387904 := hk
    have m0 := hd_BoolS (z.2.1) hz0.2.1 (k := k' + 1) (by omega)
    have m1 := hd_IntSS (z.2.2) hz0.2.2 (k := k' + 1 + smk c_BoolS (z.2.1)) (by omega)
    simp only
    rw [if_pos (by simp [mkd_length]; omega), getI_nth (by omega) (by rw [mkd_length]; omega), he]
    simp only [e_AutomatonS, Option.bind_some, bne_self_eq_false, Bool.false_eq_true, if_false, ltzM, wrap_succ (show i < 9223372036854775807 by omega), wrap_succ (show k' < 9223372036854775807 by omega), m0, m1]
    have e : k' + c_AutomatonS z = k' + 1 + smk c_BoolS (z.2.1) + smk c_IntSS (z.2.2) := by unfold c_AutomatonS; omega
    rw [e]) (fun k' => by
    unfold m_w_heldAutomatonS_l0
    simp only
    rw [if_neg (by simp [mkd_length])]))]
def c_TokenS (x : Int × Int × Int × Int) : Nat := 1 + 1 + 1 + 1
def e_TokenS (x : Int × Int × Int × Int) (k : Nat) : Int × Int × Int × Int := (((k : Nat) : Int), ((k + 1 : Nat) : Int), ((k + 1 + 1 : Nat) : Int), ((k + 1 + 1 + 1 : Nat) : Int))
theorem cb_TokenS (xs : List (Int × Int × Int × Int)) (hx : Data.sm xs) : smk c_TokenS xs ≤ 1048576 * 4 := by
  obtain ⟨h1, h2⟩ := sm_list hx
  have b := smk_bound c_TokenS (B := 4) xs (fun x hx => by
    simp [c_TokenS])
  exact Nat.le_trans b (Nat.mul_le_mul_right _ h1)
theorem mk_TokenS (xs : List (Int × Int × Int × Int)) (hx : Data.sm xs) {k : Nat} (hk : k + smk c_TokenS xs ≤ 4611686018427387904) : m_w_markTokenS xs (k : Int) = some (((k + smk c_TokenS xs : Nat) : Int), mkd c_TokenS e_TokenS xs k) := by
  obtain ⟨hN, hs⟩ := sm_list hx
  unfold m_w_markTokenS
  rw [bindL_brk (markL (f := m_w_markTokenS_l0) xs c_TokenS e_TokenS (by omega) hk (fun ys i k hi hl he hk => by
    have hz0 := hs _ (nth_mem (xs := xs) (i := (i : Int)) (by omega) (by omega))
    unfold m_w_markTokenS_l0
    have hi' : i < ys.length := by omega
    generalize hz : nth xs (i : Int) = z at *
    have hk' : k + (1 + 1 + 1 + 1) ≤ 4611686018427387904 := hk
    simp only
    rw [if_pos (by simp; omega), getI_nth (by omega) (by omega), he]
    simp only [Option.bind_some, Int.toNat_natCast, getI_setM hi', List.set_set, wrap_succ (show i < 9223372036854775807 by omega), wrap_succ (show k < 9223372036854775807 by omega), wrap_succ (show k + 1 < 9223372036854775807 by omega), wrap_succ (show k + 1 + 1 < 9223372036854775807 by omega), wrap_succ (show k + 1 + 1 + 1 < 9223372036854775807 by omega)]
    have e : k + c_TokenS z = k + 1 + 1 + 1 + 1 := by unfold c_TokenS; omega
    rw [e]; rfl) (fun ys k hl => by
    unfold m_w_markTokenS_l0
    simp only
    rw [if_neg (by simp; omega)]))]
theorem hd_TokenS (xs : List (Int × Int × Int × Int)) (hx : Data.sm xs) {k : Nat} (hk : k + smk c_TokenS xs ≤ 4611686018427387904) : m_w_heldTokenS (mkd c_TokenS e_TokenS xs k) (k : Int) = some ((k + smk c_TokenS xs : Nat) : Int) := by
  obtain ⟨hN, hs⟩ := sm_list hx
  unfold m_w_heldTokenS
  rw [bindL_brk (heldL (f := m_w_heldTokenS_l0 _) xs c_TokenS e_TokenS (by omega) hk (fun i k' hi he hk => by
    have hz0 := hs _ (nth_mem (xs := xs) (i := (i : Int)) (by omega) (by omega))
    unfold m_w_heldTokenS_l0
    generalize hz : nth xs (i : Int) = z at *
    have hk' : k' + (1 + 1 + 1 + 1) ≤ 4611686018427387904 := hk
    simp only
    rw [if_pos (by simp [mkd_length]; omega), getI_nth (by omega) (by rw [mkd_length]; omega), he]
    simp only [e_TokenS, Option.bind_some, bne_self_eq_false, Bool.false_eq_true, if_false, ltzM, wrap_succ (show i < 9223372036854775807 by omega), wrap_succ (show k' < 9223372036854775807 by omega), wrap_succ (show k' + 1 < 9223372036854775807 by omega), wrap_succ (show k' + 1 + 1 < 9223372036854775807 by omega), wrap_succ (show k' + 1 + 1 + 1 < 9223372036854775807 by omega)]
    have e : k' + c_TokenS z = k' + 1 + 1 + 1 + 1 := by unfold c_TokenS; omega
    rw [e]) (fun k' => by
    unfold m_w_heldTokenS_l0
    simp only
    rw [if_neg (by simp [mkd_length])]))]
def c_RegisteredS (x : Int × ((List (Int × Int × Int × Int))) × Int) : Nat := 1 + smk c_TokenS (x.2.1) + 1
def e_RegisteredS (x : Int × ((List (Int × Int × Int × Int))) × Int) (k : Nat) : Int × ((List (Int × Int × Int × Int))) × Int := (((k : Nat) : Int), mkd c_TokenS e_TokenS (x.2.1) (k + 1), ((k + 1 + smk c_TokenS (x.2.1) : Nat) : Int))
theorem cb_RegisteredS (xs : List (Int × ((List (Int × Int × Int × Int))) × Int)) (hx : Data.sm xs) : smk c_RegisteredS xs ≤ 1048576 * 4194306 := by
  obtain ⟨h1, h2⟩ := sm_list hx
  have b := smk_bound c_RegisteredS (B := 4194306) xs (fun x hx => by
    have hs := h2 x hx
    have q0 := cb_TokenS (x.2.1) hs.2.1
    unfold c_RegisteredS; omega)
  exact Nat.le_trans b (Nat.mul_le_mul_right _ h1)
theorem mk_RegisteredS (xs : List (Int × ((List (Int × Int × Int × Int))) × Int)) (hx : Data.sm xs) {k : Nat} (hk : k + smk c_RegisteredS xs ≤ 4611686018427387904) : m_w_markRegisteredS xs (k : Int) = some (((k + smk c_RegisteredS xs : Nat) : Int), mkd c_RegisteredS e_RegisteredS xs k) := by
  obtain ⟨hN, hs⟩ := sm_list hx
  unfold m_w_markRegisteredS
  rw [bindL_brk (markL (f := m_w_markRegisteredS_l0) xs c_RegisteredS e_RegisteredS (by omega) hk (fun ys i k hi hl he hk => by
    have hz0 := hs _ (nth_mem (xs := xs) (i := (i : Int)) (by omega) (by omega))
    unfold m_w_markRegisteredS_l0
    have hi' : i < ys.length := by omega
    generalize hz : nth xs (i : Int) = z at *
    have hk' : k + (1 + smk c_TokenS (z.2.1) + 1) ≤ 4611686018427387904 := hk
    have m0 := mk_TokenS (z.2.1) hz0.2.1 (k := k + 1) (by omega)
    simp only
    rw [if_pos (by simp; omega), getI_nth (by omega) (by omega), he]
    simp only [Option.bind_some, Int.toNat_natCast, getI_setM hi', List.set_set, wrap_succ (show i < 9223372036854775807 by omega), wrap_succ (show k < 9223372036854775807 by omega), wrap_succ (show k + 1 + smk c_TokenS (z.2.1) < 9223372036854775807 by omega), m0]
    have e : k + c_RegisteredS z = k + 1 + smk c_TokenS (z.2.1) + 1 := by unfold c_RegisteredS; omega
    rw [e]; rfl) (fun ys k hl => by
    unfold m_w_markRegisteredS_l0
    simp only
    rw [if_neg (by simp; omega)]))]
theorem hd_RegisteredS (xs : List (Int × ((List (Int × Int × Int × Int))) × Int)) (hx : Data.sm xs) {k : Nat} (hk : k + smk c_RegisteredS xs ≤ 4611686018427387904) : m_w_heldRegisteredS (mkd c_RegisteredS e_RegisteredS xs k) (k : Int) = some ((k + smk c_RegisteredS xs : Nat) : Int) := by
  obtain ⟨hN, hs⟩ := sm_list hx
  unfold m_w_heldRegisteredS
  rw [bindL_brk (heldL (f := m_w_heldRegisteredS_l0 _) xs c_RegisteredS e_RegisteredS (by omega) hk (fun i k' hi he hk => by
    have hz0 := hs _ (nth_mem (xs := xs) (i := (i : Int)) (by omega) (by omega))
    unfold m_w_heldRegisteredS_l0
    generalize hz : nth xs (i : Int) = z at *
    have hk' : k' + (1 + smk c_TokenS (z.2.1) + 1) ≤ 4611686018427387904 := hk
    have m0 := hd_TokenS (z.2.1) hz0.2.1 (k := k' + 1) (by omega)
    simp only
    rw [if_pos (by simp [mkd_length]; omega), getI_nth (by omega) (by rw [mkd_length]; omega), he]
    simp only [e_RegisteredS, Option.bind_some, bne_self_eq_false, Bool.false_eq_true, if_false, ltzM, wrap_succ (show i < 9223372036854775807 by omega), wrap_succ (show k' < 9223372036854775807 by omega), wrap_succ (show k' + 1 + smk c_TokenS (z.2.1) < 9223372036854775807 by omega), m0]
    have e : k' + c_RegisteredS z = k' + 1 + smk c_TokenS (z.2.1) + 1 := by unfold c_RegisteredS; omega
    rw [e]) (fun k' => by
    unfold m_w_heldRegisteredS_l0
    simp only
    rw [if_neg (by simp [mkd_length])]))]
def n_Registry (x : (List (Int × (List Bool) × (List (List Int)))) × (List (Int × ((List (Int × Int × Int × Int))) × Int))) : Nat := smk c_AutomatonS (x.1) + smk c_RegisteredS (x.2)
def d_Registry (x : (List (Int × (List Bool) × (List (List Int)))) × (List (Int × ((List (Int × Int × Int × Int))) × Int))) (k : Nat) : (List (Int × (List Bool) × (List (List Int)))) × (List (Int × ((List (Int × Int × Int × Int))) × Int)) := (mkd c_AutomatonS e_AutomatonS (x.1) (k), mkd c_RegisteredS e_RegisteredS (x.2) (k + smk c_AutomatonS (x.1)))
theorem nb_Registry (x : (List (Int × (List Bool) × (List (List Int)))) × (List (Int × ((List (Int × Int × Int × Int))) × Int))) (hx : Data.sm x) : n_Registry x ≤ 1152927002168131584 := by
  have q0 := cb_AutomatonS (x.1) hx.1
  have q1 := cb_RegisteredS (x.2) hx.2
  unfold n_Registry; omega
theorem mk_Registry (x : (List (Int × (List Bool) × (List (List Int)))) × (List (Int × ((List (Int × Int × Int × Int))) × Int))) (hx : Data.sm x) {k : Nat} (hk : k + n_Registry x ≤ 4611686018427387904) : m_w_markRegistry x (k : Int) = some (((k + n_Registry x : Nat) : Int), d_Registry x k) := by
  unfold n_Registry at hk
  have m0 := mk_AutomatonS (x.1) hx.1 (k := k) (by omega)
  have m1 := mk_RegisteredS (x.2) hx.2 (k := k + smk c_AutomatonS (x.1)) (by omega)
  unfold m_w_markRegistry
  simp only [peta, Option.bind_some, m0, m1]
  have e : k + n_Registry x = k + smk c_AutomatonS (x.1) + smk c_RegisteredS (x.2) := by unfold n_Registry; omega
  rw [e]; rfl
theorem hd_Registry (x : (List (Int × (List Bool) × (List (List Int)))) × (List (Int × ((List (Int × Int × Int × Int))) × Int))) (hx : Data.sm x) {k : Nat} (hk : k + n_Registry x ≤ 4611686018427387904) : m_w_heldRegistry (d_Registry x k) (k : Int) = some ((k + n_Registry x : Nat) : Int) := by
  unfold n_Registry at hk
  have m0 := hd_AutomatonS (x.1) hx.1 (k := k) (by omega)
  have m1 := hd_RegisteredS (x.2) hx.2 (k := k + smk c_AutomatonS (x.1)) (by omega)
  unfold m_w_heldRegistry d_Registry
  simp only [peta, Option.bind_some, Bool.false_eq_true, if_false, ltzM, m0, m1]
  have e : k + n_Registry x = k + smk c_AutomatonS (x.1) + smk c_RegisteredS (x.2) := by unfold n_Registry; omega
  rw [e]
def n_Expr (x : (List (Int × Int × Int × Int))) : Nat := smk c_TokenS (x)
def d_Expr (x : (List (Int × Int × Int × Int))) (k : Nat) : (List (Int × Int × Int × Int)) := mkd c_TokenS e_TokenS (x) (k)
theorem nb_Expr (x : (List (Int × Int × Int × Int))) (hx : Data.sm x) : n_Expr x ≤ 4194304 := by
  have q0 := cb_TokenS (x) hx
  unfold n_Expr; omega
theorem mk_Expr (x : (List (Int × Int × Int × Int))) (hx : Data.sm x) {k : Nat} (hk : k + n_Expr x ≤ 4611686018427387904) : m_w_markExpr x (k : Int) = some (((k + n_Expr x : Nat) : Int), d_Expr x k) := by
  unfold n_Expr at hk
  have m0 := mk_TokenS (x) hx (k := k) (by omega)
  unfold m_w_markExpr
  simp only [peta, Option.bind_some, m0]
  have e : k + n_Expr x = k + smk c_TokenS (x) := by unfold n_Expr; omega
  rw [e]; rfl
end Go.Proofs.YtimjccbdngajoaaGreat.D
/- Automata: what is valid, the moves, what is live, by the reference and by the program. -/
set_option linter.unusedVariables false
set_option linter.unusedSimpArgs false
set_option linter.unnecessarySimpa false
namespace Go.Proofs.YtimjccbdngajoaaGreat.D
open Go.RowKit

abbrev AutT := Int × (List Bool) × (List (List Int))
/-- an automaton with n states -/
structure VA (a : AutT) (n : Nat) : Prop where
  len : a.2.1.length = n
  start : 0 ≤ a.1 ∧ a.1 < n
  nlen : a.2.2.length = n
  row : ∀ r ∈ a.2.2, r.length = 9
  ent : ∀ r ∈ a.2.2, ∀ t ∈ r, -1 ≤ t ∧ t < n
def mv (a : AutT) (s : Int) (k : Nat) : Int := nth (nth a.2.2 s) k
theorem s_in (x l h : Int) : m_s_l1In x l h = some (decide (l ≤ x ∧ x ≤ h)) := by
  unfold m_s_l1In
  by_cases c : l ≤ x
  · simp [c]
  · have : ¬ l ≤ x ∧ True := ⟨c, trivial⟩
    simp [c]
theorem i_in (x l h : Int) : m_i_within x l h = some (decide (l ≤ x ∧ x ≤ h)) := by
  unfold m_i_within
  by_cases c : l ≤ x
  · simp [c]
  · simp [c]
section
variable {a : AutT} {n : Nat} (V : VA a n)
include V
theorem VA.rowAt {s : Int} (h0 : 0 ≤ s) (h1 : s < n) : (nth a.2.2 s).length = 9 := V.row _ (nth_mem h0 (by rw [V.nlen]; exact h1))
theorem VA.mv {s : Int} {k : Nat} (h0 : 0 ≤ s) (h1 : s < n) (hk : k < 9) : -1 ≤ mv a s k ∧ mv a s k < n :=
  V.ent _ (nth_mem h0 (by rw [V.nlen]; exact h1)) _ (nth_mem (by omega) (by rw [V.rowAt h0 h1]; omega))
theorem VA.get {s : Int} (h0 : 0 ≤ s) (h1 : s < n) : getI a.2.2 s = some (nth a.2.2 s) := getI_nth h0 (by rw [V.nlen]; exact h1)
theorem VA.get2 {s : Int} {k : Nat} (h0 : 0 ≤ s) (h1 : s < n) (hk : k < 9) : getI (nth a.2.2 s) (k : Int) = some (D.mv a s k) := getI_nth (by omega) (by rw [V.rowAt h0 h1]; omega)
theorem VA.acc {s : Int} (h0 : 0 ≤ s) (h1 : s < n) : getI a.2.1 s = some (nth a.2.1 s) := getI_nth h0 (by rw [V.len]; exact h1)
theorem i_move {s : Int} {k : Nat} (h0 : 0 ≤ s) (h1 : s < n) (hk : k < 9) : m_i_Automaton_move a s (k : Int) = some (mv a s k) := by
  unfold m_i_Automaton_move m_i_isLetter
  rw [if_neg (by simp; omega), i_in]; simp only [Option.bind_some]
  rw [if_pos (by simp; omega), V.get h0 h1]; simp only [Option.bind_some]
  rw [V.get2 h0 h1 hk]; rfl
end
end Go.Proofs.YtimjccbdngajoaaGreat.D
/- Expressions: words of tokens and trees; where an operand starts; sizes. By the reference and by the program. -/
set_option linter.unusedVariables false
set_option linter.unusedSimpArgs false
set_option linter.unnecessarySimpa false
set_option linter.unusedSectionVars false
namespace Go.Proofs.YtimjccbdngajoaaGreat.D
open Go.RowKit

/-! ### Tokens -/
abbrev Tok := Int × Int × Int × Int
def ar (t : Tok) : Int :=
  if t.1 = 1 ∨ t.1 = 2 then (if t.2.1 = 0 ∧ t.2.2.1 = 0 ∧ t.2.2.2 = 0 then 0 else -1)
  else if t.1 = 3 then (if (0 ≤ t.2.1 ∧ t.2.1 ≤ 8) ∧ t.2.2.1 = 0 ∧ t.2.2.2 = 0 then 0 else -1)
  else if t.1 = 4 ∨ t.1 = 5 then (if t.2.1 = 0 ∧ t.2.2.1 = 0 ∧ t.2.2.2 = 0 then 2 else -1)
  else if t.1 = 6 then (if t.2.1 = 0 ∧ t.2.2.1 = 0 ∧ t.2.2.2 = 0 then 1 else -1)
  else if t.1 = 7 then (if t.2.1 = 0 ∧ (0 ≤ t.2.2.1 ∧ t.2.2.1 ≤ t.2.2.2) ∧ (1 ≤ t.2.2.2 ∧ t.2.2.2 ≤ 3) then 1 else -1)
  else -1
theorem s_letter (x : Int) : m_s_l2Letter x = some (decide (0 ≤ x ∧ x ≤ 8)) := by unfold m_s_l2Letter; rw [s_in]; rfl
theorem i_letter (x : Int) : m_i_isLetter x = some (decide (0 ≤ x ∧ x ≤ 8)) := by unfold m_i_isLetter; rw [i_in]; rfl
theorem s_ar (t : Tok) : m_s_l8Arity t = some (ar t) := by
  obtain ⟨k, l, lo, hi⟩ := t
  unfold m_s_l8Arity ar
  simp only [s_letter, s_in, Option.bind_some]
  by_cases h1 : k = 1
  · subst h1; simp; grind
  by_cases h2 : k = 2
  · subst h2; simp; grind
  by_cases h3 : k = 3
  · subst h3; simp; grind
  by_cases h4 : k = 4
  · subst h4; simp; grind
  by_cases h5 : k = 5
  · subst h5; simp; grind
  by_cases h6 : k = 6
  · subst h6; simp; grind
  by_cases h7 : k = 7
  · subst h7; simp; grind
  simp [h1, h2, h3, h4, h5, h6, h7]
theorem i_tok (t : Tok) : m_i_tokenOk t = some (decide (0 ≤ ar t)) := by
  obtain ⟨k, l, lo, hi⟩ := t
  unfold m_i_tokenOk ar
  simp only [i_letter, i_in, Option.bind_some]
  by_cases h1 : k = 1
  · subst h1; simp; grind
  by_cases h2 : k = 2
  · subst h2; simp; grind
  by_cases h3 : k = 3
  · subst h3; simp only []
    by_cases a : 0 ≤ l ∧ l ≤ 8 <;> by_cases b : lo = 0 <;> by_cases c : hi = 0 <;> simp [a, b, c]
  by_cases h4 : k = 4
  · subst h4; simp; grind
  by_cases h5 : k = 5
  · subst h5; simp; grind
  by_cases h6 : k = 6
  · subst h6; simp; grind
  by_cases h7 : k = 7
  · subst h7; simp only []
    by_cases a : l = 0 <;> by_cases b : 0 ≤ lo ∧ lo ≤ hi <;> by_cases c : 1 ≤ hi ∧ hi ≤ 3 <;> simp [a, b, c]
  simp [h1, h2, h3, h4, h5, h6, h7]
theorem ar_range (t : Tok) : -1 ≤ ar t ∧ ar t ≤ 2 := by
  unfold ar
  grind
theorem ar_kind {t : Tok} (h : 0 ≤ ar t) : (ar t = 2 ∧ (t.1 = 4 ∨ t.1 = 5)) ∨ (ar t = 1 ∧ (t.1 = 6 ∨ t.1 = 7)) ∨ (ar t = 0 ∧ (t.1 = 1 ∨ t.1 = 2 ∨ t.1 = 3)) := by
  unfold ar at h ⊢
  grind
theorem ar_rep {t : Tok} (h : 0 ≤ ar t) (k : t.1 = 7) : (0 ≤ t.2.2.1 ∧ t.2.2.1 ≤ t.2.2.2) ∧ (1 ≤ t.2.2.2 ∧ t.2.2.2 ≤ 3) := by
  unfold ar at h
  grind
/-! ### Trees -/
mutual
def flat : Tr Tok → List Tok
  | .nil => []
  | .node t ks => flatL ks ++ [t]
def flatL : List (Tr Tok) → List Tok
  | [] => []
  | k :: ks => flat k ++ flatL ks
end
inductive WT : Tr Tok → Prop
  | node {t : Tok} {ks : List (Tr Tok)} : ar t = (ks.length : Int) → (∀ k, k ∈ ks → WT k) → WT (.node t ks)
theorem flatL_app : ∀ (a b : List (Tr Tok)), flatL (a ++ b) = flatL a ++ flatL b
  | [], b => rfl
  | k :: a, b => by rw [List.cons_append, flatL, flatL, flatL_app a b, List.append_assoc]
theorem flatL_one (x : Tr Tok) : flatL [x] = flat x := by rw [flatL, flatL, List.append_nil]
theorem flatL_two (x y : Tr Tok) : flatL [x, y] = flat x ++ flat y := by rw [flatL, flatL_one]
theorem WT.cases {x : Tr Tok} (h : WT x) : (∃ t, x = .node t [] ∧ ar t = 0) ∨ (∃ t a, x = .node t [a] ∧ ar t = 1 ∧ WT a) ∨ ∃ t a b, x = .node t [a, b] ∧ ar t = 2 ∧ WT a ∧ WT b := by
  cases h with
  | @node t ks h1 h2 =>
    have := (ar_range t).2
    match ks, h1, h2 with
    | [], h1, h2 => exact .inl ⟨t, rfl, h1⟩
    | [a], h1, h2 => exact .inr (.inl ⟨t, a, rfl, h1, h2 a (by simp)⟩)
    | [a, b], h1, h2 => exact .inr (.inr ⟨t, a, b, rfl, h1, h2 a (by simp), h2 b (by simp)⟩)
    | _ :: _ :: _ :: _, h1, h2 => simp at h1; omega
theorem WT.ind {p : Tr Tok → Prop} (h0 : ∀ t, ar t = 0 → p (.node t [])) (h1 : ∀ t a, ar t = 1 → WT a → p a → p (.node t [a])) (h2 : ∀ t a b, ar t = 2 → WT a → WT b → p a → p b → p (.node t [a, b])) {x : Tr Tok} (h : WT x) : p x := by
  induction h with
  | @node t ks e k ih =>
    have := (ar_range t).2
    match ks, e, k, ih with
    | [], e, k, ih => exact h0 t e
    | [a], e, k, ih => exact h1 t a e (k a (by simp)) (ih a (by simp))
    | [a, b], e, k, ih => exact h2 t a b e (k a (by simp)) (k b (by simp)) (ih a (by simp)) (ih b (by simp))
    | _ :: _ :: _ :: _, e, _, _ => simp at e; omega
theorem flat0 (t : Tok) : flat (.node t []) = [t] := by rw [flat, flatL]; rfl
theorem flat1 (t : Tok) (a : Tr Tok) : flat (.node t [a]) = flat a ++ [t] := by rw [flat, flatL_one]
theorem flat2 (t : Tok) (a b : Tr Tok) : flat (.node t [a, b]) = (flat a ++ flat b) ++ [t] := by rw [flat, flatL_two]
theorem WT.pos {x : Tr Tok} (h : WT x) : 1 ≤ (flat x).length := by
  cases h with
  | node h1 h2 => rw [flat]; simp
/-! ### Read by a stack -/
def stp (s : List (Tr Tok)) (t : Tok) : Option (List (Tr Tok)) := if ar t < 0 ∨ (s.length : Int) < ar t then none else some (s.take (s.length - (ar t).toNat) ++ [.node t (s.drop (s.length - (ar t).toNat))])
def run : List (Tr Tok) → List Tok → Option (List (Tr Tok))
  | s, [] => some s
  | s, t :: l => (stp s t).bind fun s' => run s' l
theorem run_app : ∀ (a : List Tok) {b : List Tok} {s : List (Tr Tok)}, run s (a ++ b) = (run s a).bind fun s' => run s' b
  | [], b, s => rfl
  | t :: a, b, s => by
    rw [List.cons_append, run, run]
    cases stp s t with
    | none => rfl
    | some s' => exact run_app a
theorem run_snoc {a : List Tok} {t : Tok} {s : List (Tr Tok)} : run s (a ++ [t]) = (run s a).bind fun s' => stp s' t := by
  rw [run_app]
  congr 1
  funext s'
  rw [run]
  cases stp s' t <;> rfl
theorem run_ok : ∀ {l : List Tok} {s s' : List (Tr Tok)}, run s l = some s' → (∀ k, k ∈ s → WT k) → (∀ k, k ∈ s' → WT k) ∧ flatL s' = flatL s ++ l
  | [], s, s', h, hs => by
    obtain rfl := Option.some.inj h
    exact ⟨hs, by simp⟩
  | t :: l, s, s', h, hs => by
    rw [run] at h
    unfold stp at h
    by_cases c : ar t < 0 ∨ (s.length : Int) < ar t
    · rw [if_pos c] at h; cases h
    · rw [if_neg c] at h
      have hlen : (s.drop (s.length - (ar t).toNat)).length = (ar t).toNat := by rw [List.length_drop]; omega
      obtain ⟨k1, k2⟩ := run_ok (show run _ l = some s' from h) fun k hk => by
        rcases List.mem_append.1 hk with hk | hk
        · exact hs k (List.mem_of_mem_take hk)
        · obtain rfl := List.mem_singleton.1 hk
          exact .node (by rw [hlen]; omega) fun k hk => hs k (List.mem_of_mem_drop hk)
      refine ⟨k1, ?_⟩
      rw [k2, flatL_app, flatL_one, flat, ← List.append_assoc, ← flatL_app, List.take_append_drop]
      simp
theorem run_flat {x : Tr Tok} (h : WT x) : ∀ s, run s (flat x) = some (s ++ [x]) := by
  refine WT.ind (p := fun x => ∀ s, run s (flat x) = some (s ++ [x])) ?_ ?_ ?_ h
  · intro t e s
    rw [flat0, run, stp, if_neg (by omega), e]
    simp [run]
  · intro t a e _ ia s
    rw [flat1, run_snoc, ia]
    show stp (s ++ [a]) t = _
    rw [stp, if_neg (by simp; omega), e]
    simp
  · intro t a b e _ _ ia ib s
    rw [flat2, run_snoc, run_app, ia]
    show ((run (s ++ [a]) (flat b)).bind fun s' => stp s' t) = _
    rw [ib]
    show stp (s ++ [a] ++ [b]) t = _
    rw [stp, if_neg (by simp; omega), e]
    have : (s ++ [a] ++ [b]).length - (2 : Int).toNat = s.length := by simp
    rw [this]
    simp
def isX (e : List Tok) : Bool := match run [] e with
  | some [_] => true
  | _ => false
theorem isX_ok {e : List Tok} (h : isX e = true) : ∃ x, run [] e = some [x] ∧ WT x ∧ flat x = e := by
  unfold isX at h
  split at h
  · rename_i x hx
    obtain ⟨k1, k2⟩ := run_ok hx (fun k hk => by cases hk)
    refine ⟨x, hx, k1 x (by simp), ?_⟩
    rw [flatL_one] at k2
    rw [k2]; rfl
  · cases h
theorem run_len {l : List Tok} : ∀ {s s' : List (Tr Tok)}, run s l = some s' → s'.length ≤ s.length + l.length := by
  induction l with
  | nil => intro s s' h; obtain rfl := Option.some.inj h; simp
  | cons t l ih =>
    intro s s' h
    rw [run] at h
    obtain ⟨s1, h1, h2⟩ := Option.bind_eq_some_iff.1 h
    have h3 := ih h2
    unfold stp at h1
    split at h1
    · cases h1
    · obtain rfl := Option.some.inj h1
      simp only [List.length_append, List.length_take, List.length_cons, List.length_nil] at h3 ⊢
      omega
theorem take_snoc {e : List Tok} {i : Nat} (h : i < e.length) : e.take (i + 1) = e.take i ++ [nth e (i : Int)] := by
  rw [List.take_succ_eq_append_getElem h, nth_nat h]
theorem run_stop {e : List Tok} {i : Nat} (h : i < e.length) {st : List (Tr Tok)} (h1 : run [] (e.take i) = some st) (h2 : stp st (nth e (i : Int)) = none) : run [] e = none := by
  have : run [] (e.take (i + 1)) = none := by rw [take_snoc h, run_snoc, h1]; exact h2
  rw [← List.take_append_drop (i + 1) e, run_app, this]; rfl
theorem s_isExpr {e : List Tok} (he : e.length ≤ 1048576) : m_s_IsExpr e = some (isX e) := by
  obtain ⟨o, eo, hq⟩ := loopM_go (f := m_s_IsExpr_l0 e) (fun i s => ∃ st, s = ((st.length : Int), (i : Int)) ∧ run [] (e.take i) = some st) (fun o => (o = .ret false ∧ run [] e = none) ∨ ∃ st, o = .brk ((st.length : Int), (e.length : Int)) ∧ run [] e = some st) e.length (s := (0, 0)) (by
    rintro i s hi ⟨st, rfl, hst⟩
    have hl := run_len hst
    simp only [List.length_nil, List.length_take] at hl
    unfold m_s_IsExpr_l0
    simp only [peta]
    by_cases c : i < e.length
    · rw [if_pos (by simp; omega), getI_nth (by omega) (by omega)]; simp only [Option.bind_some]
      rw [s_ar]; simp only [Option.bind_some]
      have hr := ar_range (nth e (i : Int))
      by_cases c1 : ar (nth e (i : Int)) < 0
      · refine .inr ⟨_, by rw [if_pos (by simpa using c1)], (fun s' e => by cases e), .inl ⟨rfl, run_stop c hst ?_⟩⟩
        rw [stp, if_pos (.inl c1)]
      · rw [if_neg (by simpa using c1)]
        by_cases c2 : ar (nth e (i : Int)) > (st.length : Int)
        · refine .inr ⟨_, by rw [if_pos (by simpa using c2)], (fun s' e => by cases e), .inl ⟨rfl, run_stop c hst ?_⟩⟩
          rw [stp, if_pos (.inr c2)]
        · rw [if_neg (by simpa using c2)]
          refine .inl ⟨c, _, rfl, st.take (st.length - (ar (nth e (i : Int))).toNat) ++ [.node (nth e (i : Int)) (st.drop (st.length - (ar (nth e (i : Int))).toNat))], ?_, ?_⟩
          · rw [wrapI (n := (st.length : Int) - ar (nth e (i : Int))) (by omega) (by omega), wrapI (by omega) (by omega), wrap_succ (by omega)]
            congr 1
            simp only [List.length_append, List.length_take, List.length_cons, List.length_nil]
            omega
          · rw [take_snoc c, run_snoc, hst]
            show stp st _ = _
            rw [stp, if_neg (by omega)]
    · obtain rfl : i = e.length := by omega
      rw [List.take_of_length_le (by omega)] at hst
      exact .inr ⟨_, by rw [if_neg (by simp)], (fun s' e => by cases e), .inr ⟨st, rfl, hst⟩⟩) ⟨[], rfl, rfl⟩ (up63 (by omega))
  unfold m_s_IsExpr
  rcases hq with ⟨rfl, h⟩ | ⟨st, rfl, h⟩
  · rw [bindL_ret eo]; unfold isX; rw [h]
  · rw [bindL_brk eo]; unfold isX; rw [h]
    match st with
    | [] => rfl
    | [_] => rfl
    | _ :: _ :: _ => simp; omega
theorem ar_if {t : Tok} (h : 0 ≤ ar t) : (Option.bind ((if t.1 == 4 then (some (t.1 == 4)) else (some (t.1 == 5)) : Option Bool)) (fun s3 => if s3 then (some 2) else (Option.bind ((if t.1 == 6 then (some (t.1 == 6)) else (some (t.1 == 7)) : Option Bool)) (fun s4 => if s4 then (some 1) else (some 0)))) : Option Int) = some (ar t) := by
  rcases ar_kind h with ⟨e, k | k⟩ | ⟨e, k | k⟩ | ⟨e, k | k | k⟩ <;> rw [e] <;> simp [k]
theorem kind_if (t : Tok) : ∃ n : Int, (Option.bind ((if t.1 == 4 then (some (t.1 == 4)) else (some (t.1 == 5)) : Option Bool)) (fun s3 => if s3 then (some 2) else (Option.bind ((if t.1 == 6 then (some (t.1 == 6)) else (some (t.1 == 7)) : Option Bool)) (fun s4 => if s4 then (some 1) else (some 0)))) : Option Int) = some n := by
  by_cases h4 : t.1 = 4
  · exact ⟨2, by simp [h4]⟩
  by_cases h5 : t.1 = 5
  · exact ⟨2, by simp [h5]⟩
  by_cases h6 : t.1 = 6
  · exact ⟨1, by simp [h6]⟩
  by_cases h7 : t.1 = 7
  · exact ⟨1, by simp [h7]⟩
  exact ⟨0, by simp [h4, h5, h6, h7]⟩
def treeX (e : List Tok) : Tr Tok := match run [] e with
  | some [x] => x
  | _ => .nil
theorem i_treeOf {e : List Tok} (he : e.length ≤ 1048576) : m_i_treeOf e = some (treeX e) := by
  obtain ⟨o, eo, hq⟩ := loopM_go (f := m_i_treeOf_l0 e) (fun i s => ∃ st, s = (st, (i : Int)) ∧ run [] (e.take i) = some st) (fun o => (o = .ret Tr.nil ∧ run [] e = none) ∨ ∃ st, o = .brk (st, (e.length : Int)) ∧ run [] e = some st) e.length (s := ([], 0)) (by
    rintro i s hi ⟨st, rfl, hst⟩
    have hl := run_len hst
    simp only [List.length_nil, List.length_take] at hl
    unfold m_i_treeOf_l0
    simp only [peta]
    by_cases c : i < e.length
    · rw [if_pos (by simp; omega), getI_nth (by omega) (by omega)]; simp only [Option.bind_some]
      have hr := ar_range (nth e (i : Int))
      by_cases c1 : ar (nth e (i : Int)) < 0
      · obtain ⟨n, hn⟩ := kind_if (nth e (i : Int))
        rw [hn]; simp only [Option.bind_some]
        rw [i_tok]; simp only [Option.bind_some]
        refine .inr ⟨_, by rw [if_neg (by simp; omega)], (fun s' e => by cases e), .inl ⟨rfl, run_stop c hst ?_⟩⟩
        rw [stp, if_pos (.inl c1)]
      · rw [ar_if (by omega)]; simp only [Option.bind_some]
        rw [i_tok]; simp only [Option.bind_some]
        rw [if_pos (by simp; omega), wrapI (n := (st.length : Int) - ar (nth e (i : Int))) (by omega) (by omega)]
        by_cases c2 : ar (nth e (i : Int)) > (st.length : Int)
        · refine .inr ⟨_, by rw [if_pos (by simp; omega)], (fun s' e => by cases e), .inl ⟨rfl, run_stop c hst ?_⟩⟩
          rw [stp, if_pos (.inr c2)]
        · rw [if_neg (by simp; omega), show ∀ p : Prop, ∀ [Decidable p], p → chk p = some () from fun p _ hp => by unfold chk; rw [if_pos hp]]
          · simp only [Option.bind_some]
            have e1 : ((st.length : Int) - ar (nth e (i : Int))).toNat = st.length - (ar (nth e (i : Int))).toNat := by omega
            rw [e1, appI_ok (by simp; omega)]; simp only [Option.bind_some]
            rw [appI_ok (by simp; omega)]; simp only [Option.bind_some, List.nil_append, wrap_succ (show i < 9223372036854775807 by omega)]
            refine .inl ⟨c, _, rfl, _, rfl, ?_⟩
            rw [take_snoc c, run_snoc, hst]
            show stp st _ = _
            rw [stp, if_neg (by omega)]
          · omega
    · obtain rfl : i = e.length := by omega
      rw [List.take_of_length_le (by omega)] at hst
      exact .inr ⟨_, by rw [if_neg (by simp)], (fun s' e => by cases e), .inr ⟨st, rfl, hst⟩⟩) ⟨[], rfl, rfl⟩ (up63 (by omega))
  unfold m_i_treeOf
  rcases hq with ⟨rfl, h⟩ | ⟨st, rfl, h⟩
  · rw [bindL_ret eo]; unfold treeX; rw [h]
  · rw [bindL_brk eo]; unfold treeX; rw [h]
    match st with
    | [] => rfl
    | [x] => rfl
    | _ :: _ :: _ =>
      simp only
      rw [if_pos (by simp; omega)]
theorem treeX_flat {x : Tr Tok} (h : WT x) : treeX (flat x) = x := by unfold treeX; rw [run_flat h]; rfl
theorem i_isExpr {e : List Tok} (he : e.length ≤ 1048576) : m_i_IsExpr e = some (isX e) := by
  unfold m_i_IsExpr
  rw [i_treeOf he]; simp only [Option.bind_some]
  congr 1
  by_cases h : isX e = true
  · rw [h]
    obtain ⟨x, h1, h2, h3⟩ := isX_ok h
    have : treeX e = x := by unfold treeX; rw [h1]
    rw [this]
    cases h2 with
    | node _ _ => rfl
  · have : treeX e = .nil := by
      unfold treeX
      unfold isX at h
      split
      · rename_i x hx; rw [hx] at h; exact absurd rfl h
      · rfl
    rw [this, Bool.eq_false_iff.2 h]; rfl
theorem s_validExpr {e : List Tok} (he : e.length ≤ 1048576) : m_s_IsValidExpr e = some (decide (e.length ≤ 24) && isX e) := by
  unfold m_s_IsValidExpr
  rw [s_isExpr he]
  by_cases c : e.length ≤ 24
  · rw [if_pos (by simp; omega)]; simp [c]
  · rw [if_neg (by simp; omega)]; simp [c]
theorem i_validExpr {e : List Tok} (he : e.length ≤ 1048576) : m_i_IsValidExpr e = some (decide (e.length ≤ 24) && isX e) := by
  unfold m_i_IsValidExpr
  rw [i_isExpr he]
  by_cases c : e.length ≤ 24
  · rw [if_pos (by simp; omega)]; simp [c]
  · rw [if_neg (by simp; omega)]; simp [c]
/-! ### Where an operand starts -/
theorem chk_of {p : Prop} [Decidable p] (h : p) : chk p = some () := by unfold chk; rw [if_pos h]
theorem s_start {A : List Tok} {x : Tr Tok} (hx : WT x) (hl : (A ++ flat x).length ≤ 1000000) : m_s_l8Start (A ++ flat x) = some (A.length : Int) := by
  obtain ⟨s', e, ks, q1, q2, q3⟩ : ∃ s', loopM (m_s_l8Start_l0 (A ++ flat x)) FUEL (1, ((A ++ flat x).length : Int)) = some (.brk s') ∧ ∃ ks : List (Tr Tok), ks = [] ∧ s'.2 = (A.length : Int) ∧ True := by
    obtain ⟨o, eo, hq⟩ := loopM_go (f := m_s_l8Start_l0 (A ++ flat x)) (fun i s => ∃ ks : List (Tr Tok), (∀ k, k ∈ ks → WT k) ∧ s = ((ks.length : Int), (((A ++ flatL ks).length : Nat) : Int)) ∧ i + (flatL ks).length = (flat x).length ∧ (A ++ flat x).take (A ++ flatL ks).length = A ++ flatL ks) (fun o => ∃ s', o = .brk s' ∧ s'.2 = (A.length : Int)) (flat x).length (s := (1, ((A ++ flat x).length : Int))) (by
      rintro i s hi ⟨ks, hw, rfl, hlen, htk⟩
      unfold m_s_l8Start_l0
      simp only [peta]
      rcases List.eq_nil_or_concat ks with rfl | ⟨ks', y, rfl⟩
      · refine .inr ⟨_, by rw [if_neg (by simp)], (fun s' e => by cases e), _, rfl, ?_⟩
        simp [flatL]
      · have hy := hw y (by simp)
        cases hy with
        | @node t cs h1 h2 =>
          have hfl : flatL (ks' ++ [.node t cs]) = flatL (ks' ++ cs) ++ [t] := by rw [flatL_app, flatL_one, flat, flatL_app, List.append_assoc]
          rw [List.concat_eq_append, hfl] at hlen htk ⊢
          simp only [List.length_append, List.length_cons, List.length_nil] at hlen htk hl ⊢
          rw [if_pos (by simp <;> omega)]
          have hpos : IntKind.i64.wrap (((A.length + ((flatL (ks' ++ cs)).length + 1) : Nat) : Int) - 1) = ((A.length + (flatL (ks' ++ cs)).length : Nat) : Int) := by
            rw [wrapI (by omega) (by omega)]; omega
          have hget : nth (A ++ flat x) ((A.length + (flatL (ks' ++ cs)).length : Nat) : Int) = t := by
            have hlt : A.length + (flatL (ks' ++ cs)).length < (A ++ flat x).length := by rw [List.length_append]; omega
            have e1 := congrArg (fun l : List Tok => l[A.length + (flatL (ks' ++ cs)).length]?) htk
            rw [List.getElem?_take_of_lt (by omega), List.getElem?_eq_getElem hlt, ← List.append_assoc, List.getElem?_append_right (by rw [List.length_append]; omega), List.length_append] at e1
            rw [nth_nat hlt]
            simpa using e1
          rw [hpos, getI_nth (by omega) (by simp only [List.length_append]; omega), hget]; simp only [Option.bind_some]
          rw [s_ar, h1]; simp only [Option.bind_some]
          have hcl : (cs.length : Int) ≤ 2 := by rw [← h1]; exact (ar_range t).2
          have hkl : ks'.length ≤ (flatL (ks' ++ cs)).length + 1000000 := by
            have : ∀ l : List (Tr Tok), (∀ k, k ∈ l → WT k) → l.length ≤ (flatL l).length := by
              intro l
              induction l with
              | nil => intro _; simp
              | cons k l ih =>
                intro h
                have h1 := (h k (by simp)).pos
                have h2 := ih fun k hk => h k (by simp [hk])
                rw [flatL]; simp only [List.length_cons, List.length_append]; omega
            have := this ks' fun k hk => hw k (by simp [hk])
            rw [flatL_app, List.length_append]; omega
          refine .inl ⟨by omega, _, rfl, ks' ++ cs, fun k hk => ?_, ?_, by omega, ?_⟩
          · rcases List.mem_append.1 hk with hk | hk
            · exact hw k (by simp [hk])
            · exact h2 k hk
          · rw [wrapI (n := ((ks'.length + 1 : Nat) : Int) - 1) (by omega) (by omega), wrapI (by omega) (by omega)]
            congr 1
            (simp only [List.length_append]) <;> omega
          · have e1 := congrArg (List.take (A ++ flatL (ks' ++ cs)).length) htk
            rw [List.take_take, Nat.min_eq_left (by rw [List.length_append]; omega), ← List.append_assoc, List.take_left] at e1
            rw [List.length_append] at e1
            exact e1) ⟨[x], fun k hk => by (obtain rfl := List.mem_singleton.1 hk; exact hx), by rw [flatL_one]; rfl, by rw [flatL_one]; omega, by rw [flatL_one, List.take_length]⟩ (up63 (by rw [List.length_append] at hl; omega))
    obtain ⟨s', rfl, h2⟩ := hq
    exact ⟨s', eo, [], rfl, h2, trivial⟩
  unfold m_s_l8Start
  rw [bindL_brk e, q2]
end Go.Proofs.YtimjccbdngajoaaGreat.D
/- Expressions: sizes, repetitions written out. By the reference and by the program. -/
set_option linter.unusedVariables false
set_option linter.unusedSimpArgs false
set_option linter.unnecessarySimpa false
set_option linter.unusedSectionVars false
namespace Go.Proofs.YtimjccbdngajoaaGreat.D
open Go.RowKit

instance trInh {α : Type} : Inhabited (Tr α) := ⟨.nil⟩
/-! ### Sizes -/
def szX : Tr Tok → Int
  | .nil => 0
  | .node t ks => min (szL t 1 ks) 100000
where szL (t : Tok) (acc : Int) : List (Tr Tok) → Int
  | [] => acc
  | k :: ks => szL t (acc + (if t.1 = 7 then (szX k + 3) * t.2.2.2 else szX k)) ks
theorem szX_range {x : Tr Tok} (h : WT x) : 1 ≤ szX x ∧ szX x ≤ 100000 := by
  refine WT.ind (p := fun x => 1 ≤ szX x ∧ szX x ≤ 100000) ?_ ?_ ?_ h
  · intro t _
    show 1 ≤ min (1 : Int) 100000 ∧ min (1 : Int) 100000 ≤ 100000
    omega
  · intro t a e _ ih
    show 1 ≤ min ((1 : Int) + (if t.1 = 7 then (szX a + 3) * t.2.2.2 else szX a)) 100000 ∧ min ((1 : Int) + (if t.1 = 7 then (szX a + 3) * t.2.2.2 else szX a)) 100000 ≤ 100000
    split
    · rename_i k
      have hr := ar_rep (show 0 ≤ ar t by omega) k
      have : 0 ≤ (szX a + 3) * t.2.2.2 := Int.mul_nonneg (by omega) (by omega)
      omega
    · omega
  · intro t a b e _ _ iha ihb
    have k : t.1 ≠ 7 := by
      rcases ar_kind (show 0 ≤ ar t by omega) with ⟨_, k⟩ | ⟨k, _⟩ | ⟨k, _⟩ <;> omega
    show 1 ≤ min ((1 : Int) + (if t.1 = 7 then (szX a + 3) * t.2.2.2 else szX a) + (if t.1 = 7 then (szX b + 3) * t.2.2.2 else szX b)) 100000 ∧ min ((1 : Int) + (if t.1 = 7 then (szX a + 3) * t.2.2.2 else szX a) + (if t.1 = 7 then (szX b + 3) * t.2.2.2 else szX b)) 100000 ≤ 100000
    rw [if_neg k, if_neg k]
    omega
theorem wrap_mul3 {a h : Int} (h1 : 1 ≤ a ∧ a ≤ 100000) (h2 : 1 ≤ h ∧ h ≤ 3) : IntKind.i64.wrap ((IntKind.i64.wrap (a + 3)) * h) = (a + 3) * h := by
  rw [wrapI (n := a + 3) (by omega) (by omega)]
  have k1 : 0 ≤ (a + 3) * h := Int.mul_nonneg (by omega) (by omega)
  have k2 : (a + 3) * h ≤ 100003 * 3 := Int.mul_le_mul (by omega) (by omega) (by omega) (by omega)
  exact wrapI (by omega) (by omega)
theorem mul3_le {a h : Int} (h1 : 1 ≤ a ∧ a ≤ 100000) (h2 : 1 ≤ h ∧ h ≤ 3) : 0 ≤ (a + 3) * h ∧ (a + 3) * h ≤ 300009 := by
  have k1 : 0 ≤ (a + 3) * h := Int.mul_nonneg (by omega) (by omega)
  have k2 : (a + 3) * h ≤ 100003 * 3 := Int.mul_le_mul (by omega) (by omega) (by omega) (by omega)
  omega
theorem tr_get {t : Tok} {ks : List (Tr Tok)} : Tr.get (.node t ks) = some (t, ks) := rfl
theorem bound_step {f : Tr Tok → Option Int} {t : Tok} {ks : List (Tr Tok)} {i : Nat} {acc : Int} (hi : i < ks.length) (hf : f (nth ks (i : Int)) = some (szX (nth ks (i : Int)))) (hw : WT (nth ks (i : Int))) (ht : 0 ≤ ar t) (ha : 0 ≤ acc ∧ acc ≤ 1000000) (hik : i ≤ 1000000) :
    m_i_tree_bound_l0 f (.node t ks) (t, ks) (acc, (i : Int)) = some (.nxt (acc + (if t.1 = 7 then (szX (nth ks (i : Int)) + 3) * t.2.2.2 else szX (nth ks (i : Int))), ((i + 1 : Nat) : Int))) := by
  unfold m_i_tree_bound_l0
  simp only [tr_get]
  have hr := szX_range hw
  rw [if_pos (by simp <;> omega), getI_nth (by omega) (by omega)]; simp only [Option.bind_some]
  by_cases k : t.1 = 7
  · have h7 := ar_rep ht k
    have hm := mul3_le hr h7.2
    rw [if_pos (by simpa using k), if_pos k, hf]; simp only [Option.bind_some]
    rw [wrap_mul3 hr h7.2, wrapI (by omega) (by omega), wrap_succ (by omega)]
  · rw [if_neg (by simpa using k), if_neg k, hf]; simp only [Option.bind_some]
    rw [wrapI (by omega) (by omega), wrap_succ (by omega)]
theorem nth_zero {α : Type} [Inhabited α] {a : α} {l : List α} : nth (a :: l) ((0 : Nat) : Int) = a := rfl
theorem nth_one {α : Type} [Inhabited α] {a b : α} {l : List α} : nth (a :: b :: l) ((1 : Nat) : Int) = b := rfl
theorem i_bound {x : Tr Tok} (h : WT x) : ∀ n, (flat x).length ≤ n → m_i_tree_bound n x = some (szX x) := by
  refine WT.ind (p := fun x => ∀ n, (flat x).length ≤ n → m_i_tree_bound n x = some (szX x)) ?_ ?_ ?_ h
  · intro t e n hn
    rw [flat0] at hn
    match n, hn with
    | n + 1, _ =>
      rw [m_i_tree_bound]; simp only [tr_get, Option.bind_some]
      have hL : loopM (m_i_tree_bound_l0 (m_i_tree_bound n) (.node t []) (t, [])) FUEL (1, 0) = some (.brk (1, 0)) := loopM_at (f := m_i_tree_bound_l0 (m_i_tree_bound n) (.node t []) (t, [])) (fun i => (1, (i : Int))) 0 (fun i hi => by omega) (by unfold m_i_tree_bound_l0; simp) (by unfold FUEL; omega)
      rw [bindL_brk hL]
      all_goals rfl
  · intro t a e wa ih n hn
    rw [flat1, List.length_append] at hn
    match n, hn with
    | n + 1, hn =>
      have hr := szX_range wa
      rw [m_i_tree_bound]; simp only [tr_get, Option.bind_some]
      have hL : loopM (m_i_tree_bound_l0 (m_i_tree_bound n) (.node t [a]) (t, [a])) FUEL (1, 0) = some (.brk (szX.szL t 1 [a], 1)) := loopM_at (f := m_i_tree_bound_l0 (m_i_tree_bound n) (.node t [a]) (t, [a])) (fun i => (szX.szL t 1 ([a].take i), (i : Int))) 1 (fun i hi => by
        obtain rfl : i = 0 := by omega
        exact bound_step (acc := 1) (i := 0) (by simp) (ih n (by simp at hn; omega)) wa (by omega) (by omega) (by omega)) (by unfold m_i_tree_bound_l0; simp) (by unfold FUEL; omega)
      rw [bindL_brk hL]
      all_goals rfl
  · intro t a b e wa wb iha ihb n hn
    rw [flat2, List.length_append, List.length_append] at hn
    match n, hn with
    | n + 1, hn =>
      have hra := szX_range wa
      have hrb := szX_range wb
      have k : t.1 ≠ 7 := by
        rcases ar_kind (show 0 ≤ ar t by omega) with ⟨_, k⟩ | ⟨k, _⟩ | ⟨k, _⟩ <;> omega
      rw [m_i_tree_bound]; simp only [tr_get, Option.bind_some]
      have hL : loopM (m_i_tree_bound_l0 (m_i_tree_bound n) (.node t [a, b]) (t, [a, b])) FUEL (1, 0) = some (.brk (szX.szL t 1 [a, b], 2)) := loopM_at (f := m_i_tree_bound_l0 (m_i_tree_bound n) (.node t [a, b]) (t, [a, b])) (fun i => (szX.szL t 1 ([a, b].take i), (i : Int))) 2 (fun i hi => by
        have : i = 0 ∨ i = 1 := by omega
        rcases this with rfl | rfl
        · exact bound_step (acc := 1) (i := 0) (by simp) (iha n (by simp at hn; omega)) wa (by omega) (by omega) (by omega)
        · exact bound_step (acc := 1 + (if t.1 = 7 then (szX a + 3) * t.2.2.2 else szX a)) (i := 1) (by simp) (ihb n (by simp at hn; omega)) wb (by omega) (by rw [if_neg k]; omega) (by omega)) (by unfold m_i_tree_bound_l0; simp) (by unfold FUEL; omega)
      rw [bindL_brk hL]
      all_goals rfl
/-! ### The reference's walk over words -/
theorem last_tok {A : List Tok} {t : Tok} (h : A.length ≤ 1000000) : getI (A ++ [t]) (IntKind.i64.wrap (((A ++ [t]).length : Int) - 1)) = some t ∧ IntKind.i64.wrap (((A ++ [t]).length : Int) - 1) = (A.length : Int) := by
  have e : IntKind.i64.wrap (((A ++ [t]).length : Int) - 1) = (A.length : Int) := by
    rw [wrapI (by simp only [List.length_append, List.length_cons, List.length_nil]; omega) (by simp only [List.length_append, List.length_cons, List.length_nil]; omega)]
    simp only [List.length_append, List.length_cons, List.length_nil]; omega
  refine ⟨?_, e⟩
  rw [e, getI_nth (by omega) (by simp only [List.length_append, List.length_cons, List.length_nil]; omega), nth_nat (by simp)]
  simp
theorem if45 {t : Tok} (h : ar t = 2) : (if t.1 == 4 then (some (t.1 == 4)) else (some (t.1 == 5)) : Option Bool) = some true := by
  rcases ar_kind (show 0 ≤ ar t by omega) with ⟨_, k | k⟩ | ⟨e, _⟩ | ⟨e, _⟩
  · simp [k]
  · simp [k]
  · omega
  · omega
theorem if45n {t : Tok} (h : ar t = 1 ∨ ar t = 0) : (if t.1 == 4 then (some (t.1 == 4)) else (some (t.1 == 5)) : Option Bool) = some false := by
  rcases ar_kind (show 0 ≤ ar t by omega) with ⟨e, k⟩ | ⟨e, k | k⟩ | ⟨e, k | k | k⟩
  · omega
  all_goals simp [k]
theorem kind0 {t : Tok} (h : ar t = 0) : (t.1 == 6) = false ∧ (t.1 == 7) = false := by
  rcases ar_kind (show 0 ≤ ar t by omega) with ⟨e, k⟩ | ⟨e, k | k⟩ | ⟨e, k | k | k⟩
  · omega
  · omega
  · omega
  all_goals simp [k]
theorem kind1 {t : Tok} (h : ar t = 1) : ((t.1 == 6) = true ∧ t.1 = 6) ∨ ((t.1 == 6) = false ∧ (t.1 == 7) = true ∧ t.1 = 7) := by
  rcases ar_kind (show 0 ≤ ar t by omega) with ⟨e, k⟩ | ⟨e, k | k⟩ | ⟨e, k | k | k⟩
  · omega
  · left; simp [k]
  · right; simp [k]
  all_goals omega
theorem two_parts {a b : Tr Tok} {t : Tok} (wb : WT b) (hl : ((flat a ++ flat b) ++ [t]).length ≤ 1000000) :
    (((flat a ++ flat b) ++ [t]).take ((((flat a ++ flat b).length : Nat) : Int)).toNat) = flat a ++ flat b ∧
    m_s_l8Start (flat a ++ flat b) = some (((flat a).length : Nat) : Int) ∧
    (((flat a ++ flat b) ++ [t]).take ((((flat a).length : Nat) : Int)).toNat) = flat a ∧
    (flat a ++ flat b).drop ((((flat a).length : Nat) : Int)).toNat = flat b := by
  refine ⟨?_, s_start wb (by simp only [List.length_append, List.length_cons, List.length_nil] at hl ⊢; omega), ?_, ?_⟩
  · rw [Int.toNat_natCast, List.take_left]
  · rw [Int.toNat_natCast, List.append_assoc, List.take_left]
  · rw [Int.toNat_natCast, List.drop_left]
theorem s_size {x : Tr Tok} (h : WT x) : ∀ n, (flat x).length ≤ n → (flat x).length ≤ 1000000 → m_s_l10Size n (flat x) = some (szX x) := by
  refine WT.ind (p := fun x => ∀ n, (flat x).length ≤ n → (flat x).length ≤ 1000000 → m_s_l10Size n (flat x) = some (szX x)) ?_ ?_ ?_ h
  · intro t e n hn hl
    rw [flat0] at hn hl ⊢
    match n, hn with
    | n + 1, _ =>
      have hk := kind0 e
      rw [m_s_l10Size]
      have := (last_tok (A := []) (t := t) (by simp)).1
      rw [List.nil_append] at this
      rw [this]; simp only [Option.bind_some]
      rw [if45n (.inr e)]; simp only [Option.bind_some, hk.1, hk.2, Bool.false_eq_true, if_false]
      rfl
  · intro t a e wa ih n hn hl
    rw [flat1] at hn hl ⊢
    simp only [List.length_append, List.length_cons, List.length_nil] at hn hl
    match n, hn with
    | n + 1, hn =>
      have hr := szX_range wa
      rw [m_s_l10Size]
      obtain ⟨l1, l2⟩ := last_tok (A := flat a) (t := t) (by omega)
      rw [l1]; simp only [Option.bind_some]
      rw [if45n (.inl e)]; simp only [Option.bind_some, Bool.false_eq_true, if_false]
      rw [l2, Int.toNat_natCast, List.take_left, chk_of (by simp only [List.length_append, List.length_cons, List.length_nil]; omega)]; simp only [Option.bind_some]
      rw [ih n (by omega) (by omega)]; simp only [Option.bind_some]
      rcases kind1 e with ⟨k1, k2⟩ | ⟨k1, k2, k3⟩
      · rw [if_pos k1, wrapI (by omega) (by omega)]
        show some (min 100000 (szX a + 1)) = some (min ((1 : Int) + (if t.1 = 7 then (szX a + 3) * t.2.2.2 else szX a)) 100000)
        rw [if_neg (by omega)]
        congr 1; omega
      · have h7 := ar_rep (show 0 ≤ ar t by omega) k3
        have hm := mul3_le hr h7.2
        rw [if_neg (by simp [k1]), if_pos k2, wrap_mul3 hr h7.2, wrapI (by omega) (by omega)]
        show some (min 100000 ((szX a + 3) * t.2.2.2 + 1)) = some (min ((1 : Int) + (if t.1 = 7 then (szX a + 3) * t.2.2.2 else szX a)) 100000)
        rw [if_pos k3]
        congr 1; omega
  · intro t a b e wa wb iha ihb n hn hl
    rw [flat2] at hn hl ⊢
    obtain ⟨p1, p2, p3, p4⟩ := two_parts (a := a) (t := t) wb hl
    simp only [List.length_append, List.length_cons, List.length_nil] at hn hl
    match n, hn with
    | n + 1, hn =>
      have hra := szX_range wa
      have hrb := szX_range wb
      have k : t.1 ≠ 7 := by
        rcases ar_kind (show 0 ≤ ar t by omega) with ⟨_, k⟩ | ⟨k, _⟩ | ⟨k, _⟩ <;> omega
      rw [m_s_l10Size]
      obtain ⟨l1, l2⟩ := last_tok (A := flat a ++ flat b) (t := t) (by rw [List.length_append]; omega)
      rw [l1]; simp only [Option.bind_some]
      rw [if45 e]; simp only [Option.bind_some, if_true]
      rw [l2, p1, p2, chk_of (by simp only [List.length_append, List.length_cons, List.length_nil]; omega)]; simp only [Option.bind_some]
      rw [chk_of (by simp only [List.length_append, List.length_cons, List.length_nil]; omega), p3, p4]; simp only [Option.bind_some]
      rw [iha n (by omega) (by omega), chk_of (by simp only [List.length_append, List.length_cons, List.length_nil]; omega)]; simp only [Option.bind_some]
      rw [ihb n (by have := wa.pos; omega) (by omega)]; simp only [Option.bind_some]
      rw [wrapI (n := szX a + szX b) (by omega) (by omega), wrapI (by omega) (by omega)]
      show some (min 100000 (szX a + szX b + 1)) = some (min ((1 : Int) + (if t.1 = 7 then (szX a + 3) * t.2.2.2 else szX a) + (if t.1 = 7 then (szX b + 3) * t.2.2.2 else szX b)) 100000)
      rw [if_neg k, if_neg k]
      congr 1; omega
/-! ### Repetitions written out -/
def leafX : Tr Tok := .node (2, 0, 0, 0) []
def repX (x : Tr Tok) : Nat → Int → Tr Tok
  | 0, _ => leafX
  | h + 1, low => if 0 < low then .node (4, 0, 0, 0) [x, repX x h (max 0 (low - 1))] else .node (5, 0, 0, 0) [.node (4, 0, 0, 0) [x, repX x h (max 0 (low - 1))], leafX]
mutual
def expX : Tr Tok → Tr Tok
  | .nil => .nil
  | .node t ks => if t.1 = 7 then repX ((expL ks).headD .nil) t.2.2.2.toNat t.2.2.1 else .node t (expL ks)
def expL : List (Tr Tok) → List (Tr Tok)
  | [] => []
  | k :: ks => expX k :: expL ks
end
theorem ar4 : ar (4, 0, 0, 0) = 2 := by decide
theorem ar5 : ar (5, 0, 0, 0) = 2 := by decide
theorem ar2 : ar (2, 0, 0, 0) = 0 := by decide
theorem leaf_ok : WT leafX := .node ar2 fun k hk => by cases hk
theorem leaf_flat : flat leafX = [(2, 0, 0, 0)] := flat0 _
theorem WT.two {t : Tok} {a b : Tr Tok} (h : ar t = 2) (ha : WT a) (hb : WT b) : WT (.node t [a, b]) := .node h fun k hk => by
  rcases List.mem_cons.1 hk with rfl | hk
  · exact ha
  · obtain rfl := List.mem_singleton.1 hk
    exact hb
theorem WT.one {t : Tok} {a : Tr Tok} (h : ar t = 1) (ha : WT a) : WT (.node t [a]) := .node h fun k hk => by
  obtain rfl := List.mem_singleton.1 hk
  exact ha
theorem repX_ok {x : Tr Tok} (hx : WT x) : ∀ (h : Nat) (low : Int), WT (repX x h low)
  | 0, _ => leaf_ok
  | h + 1, low => by
    rw [repX]
    split
    · exact .two ar4 hx (repX_ok hx h _)
    · exact .two ar5 (.two ar4 hx (repX_ok hx h _)) leaf_ok
theorem repX_len (x : Tr Tok) : ∀ (h : Nat) (low : Int), (flat (repX x h low)).length ≤ ((flat x).length + 3) * h + 1
  | 0, _ => by rw [repX, leaf_flat]; simp
  | h + 1, low => by
    have ih := repX_len x h (max 0 (low - 1))
    rw [repX]
    split
    · rw [flat2]; simp only [List.length_append, List.length_cons, List.length_nil]
      rw [Nat.mul_succ]; omega
    · rw [flat2, flat2, leaf_flat]; simp only [List.length_append, List.length_cons, List.length_nil]
      rw [Nat.mul_succ]; omega
theorem exp1 {t : Tok} {a : Tr Tok} : expX (.node t [a]) = if t.1 = 7 then repX (expX a) t.2.2.2.toNat t.2.2.1 else .node t [expX a] := by rw [expX, expL, expL]; rfl
theorem exp2 {t : Tok} {a b : Tr Tok} (h : t.1 ≠ 7) : expX (.node t [a, b]) = .node t [expX a, expX b] := by rw [expX, if_neg h, expL, expL, expL]
theorem exp0 {t : Tok} (h : t.1 ≠ 7) : expX (.node t []) = .node t [] := by rw [expX, if_neg h, expL]
theorem no7 {t : Tok} (h : ar t = 2 ∨ ar t = 0) : t.1 ≠ 7 := by
  rcases ar_kind (show 0 ≤ ar t by omega) with ⟨_, k⟩ | ⟨k, _⟩ | ⟨_, k⟩ <;> omega
theorem exp_ok {x : Tr Tok} (h : WT x) : WT (expX x) := by
  refine WT.ind (p := fun x => WT (expX x)) ?_ ?_ ?_ h
  · intro t e
    rw [exp0 (no7 (.inr e))]
    exact .node e fun k hk => by cases hk
  · intro t a e _ ih
    rw [exp1]
    split
    · exact repX_ok ih _ _
    · exact .one e ih
  · intro t a b e _ _ iha ihb
    rw [exp2 (no7 (.inl e))]
    exact .two e iha ihb
theorem exp_len {x : Tr Tok} (h : WT x) : szX x < 100000 → ((flat (expX x)).length : Int) ≤ szX x := by
  refine WT.ind (p := fun x => szX x < 100000 → ((flat (expX x)).length : Int) ≤ szX x) ?_ ?_ ?_ h
  · intro t e _
    rw [exp0 (no7 (.inr e)), flat0]
    show (1 : Int) ≤ min 1 100000
    omega
  · intro t a e wa ih hs
    have hr := szX_range wa
    have hs' : min ((1 : Int) + (if t.1 = 7 then (szX a + 3) * t.2.2.2 else szX a)) 100000 < 100000 := hs
    show _ ≤ min ((1 : Int) + (if t.1 = 7 then (szX a + 3) * t.2.2.2 else szX a)) 100000
    rw [exp1]
    by_cases k : t.1 = 7
    · rw [if_pos k] at hs' ⊢
      rw [if_pos k]
      have h7 := ar_rep (show 0 ≤ ar t by omega) k
      have hge : szX a + 3 ≤ (szX a + 3) * t.2.2.2 := by
        have := Int.mul_le_mul_of_nonneg_left (c := szX a + 3) h7.2.1 (by omega)
        omega
      have h1 := ih (by omega)
      have h2 := repX_len (expX a) t.2.2.2.toNat t.2.2.1
      have h3 : (((flat (expX a)).length + 3) * t.2.2.2.toNat : Int) ≤ (szX a + 3) * t.2.2.2 := by
        rw [Int.toNat_of_nonneg (by omega)]
        exact Int.mul_le_mul_of_nonneg_right (by omega) (by omega)
      have h4 : ((flat (repX (expX a) t.2.2.2.toNat t.2.2.1)).length : Int) ≤ (((flat (expX a)).length + 3) * t.2.2.2.toNat : Int) + 1 := by exact_mod_cast h2
      omega
    · rw [if_neg k] at hs' ⊢
      rw [if_neg k, flat1]
      have h1 := ih (by omega)
      simp only [List.length_append, List.length_cons, List.length_nil]
      omega
  · intro t a b e wa wb iha ihb hs
    have hra := szX_range wa
    have hrb := szX_range wb
    have k := no7 (.inl e)
    have hs' : min ((1 : Int) + (if t.1 = 7 then (szX a + 3) * t.2.2.2 else szX a) + (if t.1 = 7 then (szX b + 3) * t.2.2.2 else szX b)) 100000 < 100000 := hs
    show _ ≤ min ((1 : Int) + (if t.1 = 7 then (szX a + 3) * t.2.2.2 else szX a) + (if t.1 = 7 then (szX b + 3) * t.2.2.2 else szX b)) 100000
    rw [if_neg k, if_neg k] at hs' ⊢
    rw [exp2 k, flat2]
    have h1 := iha (by omega)
    have h2 := ihb (by omega)
    simp only [List.length_append, List.length_cons, List.length_nil]
    omega
theorem i_repeated {x : Tr Tok} : ∀ (h n : Nat) (low : Int), h < n → h ≤ 3 → 0 ≤ low → low ≤ 3 → m_i_repeated n x low (h : Int) = some (repX x h low)
  | 0, n + 1, low, _, _, _, _ => by
    rw [m_i_repeated, if_pos (by rfl)]; rfl
  | h + 1, n + 1, low, h1, h2, h3, h4 => by
    rw [m_i_repeated, if_neg (by simp; omega), wrapI (n := low - 1) (by omega) (by omega), wrapI (n := ((h + 1 : Nat) : Int) - 1) (by omega) (by omega)]
    rw [show ((h + 1 : Nat) : Int) - 1 = (h : Int) from by omega, i_repeated h n (max 0 (low - 1)) (by omega) (by omega) (by omega) (by omega)]; simp only [Option.bind_some]
    rw [repX]
    by_cases c : 0 < low
    · rw [if_pos (by simpa using c), if_pos c]
    · rw [if_neg (by simpa using c), if_neg c]; rfl
theorem s_join {a b : List Tok} {t : Tok} (h : a.length + b.length ≤ 1000000) : m_s_l8Join a b t = some ((a ++ b) ++ [t]) := by
  unfold m_s_l8Join m_s_l8Copy
  rw [appI_ok (by simp only [List.length_append, List.length_cons, List.length_nil]; omega)]; simp only [Option.bind_some, List.nil_append]
  rw [appI_ok (by omega)]; simp only [Option.bind_some]
  rw [appI_ok (by simp only [List.length_append, List.length_cons, List.length_nil]; omega)]; rfl
theorem s_times {x : Tr Tok} : ∀ (h n : Nat) (low : Int), h < n → h ≤ 3 → 0 ≤ low → low ≤ 3 → (flat x).length ≤ 100000 → m_s_l10Times n (flat x) low (h : Int) = some (flat (repX x h low))
  | 0, n + 1, low, _, _, _, _, _ => by
    rw [m_s_l10Times, if_pos (by rfl), repX, leaf_flat]; rfl
  | h + 1, n + 1, low, h1, h2, h3, h4, h5 => by
    rw [m_s_l10Times, if_neg (by simp; omega), wrapI (n := low - 1) (by omega) (by omega), wrapI (n := ((h + 1 : Nat) : Int) - 1) (by omega) (by omega)]
    rw [show ((h + 1 : Nat) : Int) - 1 = (h : Int) from by omega, s_times h n (max 0 (low - 1)) (by omega) (by omega) (by omega) (by omega) h5]; simp only [Option.bind_some]
    have hl := repX_len x h (max 0 (low - 1))
    have hl3 : ((flat x).length + 3) * h ≤ 100003 * 3 := Nat.mul_le_mul (by omega) (by omega)
    rw [s_join (by omega), repX]; simp only [Option.bind_some]
    by_cases c : 0 < low
    · rw [if_pos (by simpa using c), if_pos c, flat2]
    · rw [if_neg (by simpa using c), if_neg c, flat2, flat2, leaf_flat]
      show (m_s_l8Leaf 2).bind _ = _
      unfold m_s_l8Leaf; simp only [Option.bind_some]
      rw [s_join (by simp only [List.length_append, List.length_cons, List.length_nil]; omega)]; rfl
theorem FUELR_big : 1000000000000 ≤ FUELR := by rw [FUELR_eq]; unfold FUEL; omega
theorem i_expand {x : Tr Tok} (h : WT x) : ∀ n, (flat x).length ≤ n → m_i_tree_expand n x = some (expX x) := by
  have hF := FUELR_big
  refine WT.ind (p := fun x => ∀ n, (flat x).length ≤ n → m_i_tree_expand n x = some (expX x)) ?_ ?_ ?_ h
  · intro t e n hn
    rw [flat0] at hn
    have k := no7 (.inr e)
    match n, hn with
    | n + 1, _ =>
      rw [m_i_tree_expand]; simp only [tr_get, Option.bind_some]
      rw [if_neg (by simpa using k), exp0 k]
      have hL : loopM (m_i_tree_expand_l0 (m_i_tree_expand n) (t, [])) FUEL (0, t.1, t.2.1, t.2.2.1, t.2.2.2, []) = some (.brk (0, t.1, t.2.1, t.2.2.1, t.2.2.2, [])) := loopM_at (f := m_i_tree_expand_l0 (m_i_tree_expand n) (t, [])) (fun i => ((i : Int), t.1, t.2.1, t.2.2.1, t.2.2.2, expL (([] : List (Tr Tok)).take i))) 0 (fun i hi => by omega) (by unfold m_i_tree_expand_l0; simp) (by unfold FUEL; omega)
      rw [bindL_brk hL]
      all_goals rfl
  · intro t a e wa ih n hn
    rw [flat1, List.length_append] at hn
    match n, hn with
    | n + 1, hn =>
      have ia := ih n (by simp at hn; omega)
      rw [m_i_tree_expand, exp1]; simp only [tr_get, Option.bind_some]
      rcases kind1 e with ⟨k1, k2⟩ | ⟨k1, k2, k3⟩
      · rw [if_neg (by simp; omega), if_neg (by omega)]
        have hL : loopM (m_i_tree_expand_l0 (m_i_tree_expand n) (t, [a])) FUEL (0, t.1, t.2.1, t.2.2.1, t.2.2.2, []) = some (.brk (1, t.1, t.2.1, t.2.2.1, t.2.2.2, [expX a])) := loopM_at (f := m_i_tree_expand_l0 (m_i_tree_expand n) (t, [a])) (fun i => ((i : Int), t.1, t.2.1, t.2.2.1, t.2.2.2, [expX a].take i)) 1 (fun i hi => by
          obtain rfl : i = 0 := by omega
          unfold m_i_tree_expand_l0
          simp only
          rw [if_pos (by simp), getI_nth (by omega) (by simp), nth_zero]; simp only [Option.bind_some]
          rw [ia]; simp only [Option.bind_some]
          rw [appI_ok (by simp)]; rfl) (by unfold m_i_tree_expand_l0; simp) (by unfold FUEL; omega)
        rw [bindL_brk hL]
        all_goals rfl
      · have h7 := ar_rep (show 0 ≤ ar t by omega) k3
        rw [if_pos k2, if_pos k3, show getI [a] 0 = some a from rfl]; simp only [Option.bind_some]
        rw [ia]; simp only [Option.bind_some]
        have := i_repeated (x := expX a) t.2.2.2.toNat FUELR t.2.2.1 (by omega) (by omega) (by omega) (by omega)
        rw [Int.toNat_of_nonneg (by omega)] at this
        rw [this]; rfl
  · intro t a b e wa wb iha ihb n hn
    rw [flat2, List.length_append, List.length_append] at hn
    have k := no7 (.inl e)
    match n, hn with
    | n + 1, hn =>
      have ia := iha n (by simp at hn; omega)
      have ib := ihb n (by simp at hn; omega)
      rw [m_i_tree_expand, exp2 k]; simp only [tr_get, Option.bind_some]
      rw [if_neg (by simpa using k)]
      have hL : loopM (m_i_tree_expand_l0 (m_i_tree_expand n) (t, [a, b])) FUEL (0, t.1, t.2.1, t.2.2.1, t.2.2.2, []) = some (.brk (2, t.1, t.2.1, t.2.2.1, t.2.2.2, [expX a, expX b])) := loopM_at (f := m_i_tree_expand_l0 (m_i_tree_expand n) (t, [a, b])) (fun i => ((i : Int), t.1, t.2.1, t.2.2.1, t.2.2.2, [expX a, expX b].take i)) 2 (fun i hi => by
        have : i = 0 ∨ i = 1 := by omega
        rcases this with rfl | rfl
        · unfold m_i_tree_expand_l0
          simp only
          rw [if_pos (by simp), getI_nth (by omega) (by simp), nth_zero]; simp only [Option.bind_some]
          rw [ia]; simp only [Option.bind_some]
          rw [appI_ok (by simp)]; rfl
        · unfold m_i_tree_expand_l0
          simp only
          rw [if_pos (by simp), getI_nth (by omega) (by simp), nth_one]; simp only [Option.bind_some]
          rw [ib]; simp only [Option.bind_some]
          rw [appI_ok (by simp)]; rfl) (by unfold m_i_tree_expand_l0; simp) (by unfold FUEL; omega)
      rw [bindL_brk hL]
      all_goals rfl
theorem i_collect {x : Tr Tok} (h : WT x) : ∀ n out, (flat x).length ≤ n → out.length + (flat x).length ≤ 1000000 → m_i_tree_collect n x out = some (out ++ flat x) := by
  refine WT.ind (p := fun x => ∀ n out, (flat x).length ≤ n → out.length + (flat x).length ≤ 1000000 → m_i_tree_collect n x out = some (out ++ flat x)) ?_ ?_ ?_ h
  · intro t e n out hn hl
    rw [flat0] at hn hl ⊢
    simp only [List.length_cons, List.length_nil] at hl
    match n, hn with
    | n + 1, _ =>
      rw [m_i_tree_collect]; simp only [tr_get, Option.bind_some]
      have hL : loopM (m_i_tree_collect_l0 (m_i_tree_collect n) (t, [])) FUEL (0, out) = some (.brk (0, out)) := loopM_at (f := m_i_tree_collect_l0 (m_i_tree_collect n) (t, [])) (fun i => ((i : Int), out)) 0 (fun i hi => by omega) (by unfold m_i_tree_collect_l0; simp) (by unfold FUEL; omega)
      rw [bindL_brk hL]
      simp only
      rw [appI_ok (by simp; omega)]; rfl
  · intro t a e wa ih n out hn hl
    rw [flat1] at hn hl ⊢
    simp only [List.length_append, List.length_cons, List.length_nil] at hn hl
    match n, hn with
    | n + 1, hn =>
      rw [m_i_tree_collect]; simp only [tr_get, Option.bind_some]
      have hL : loopM (m_i_tree_collect_l0 (m_i_tree_collect n) (t, [a])) FUEL (0, out) = some (.brk (1, out ++ flat a)) := loopM_at (f := m_i_tree_collect_l0 (m_i_tree_collect n) (t, [a])) (fun i => ((i : Int), if i = 0 then out else out ++ flat a)) 1 (fun i hi => by
        obtain rfl : i = 0 := by omega
        unfold m_i_tree_collect_l0
        simp only
        rw [if_pos (by simp), getI_nth (by omega) (by simp), nth_zero]; simp only [Option.bind_some, if_true]
        rw [ih n _ (by omega) (by omega)]; rfl) (by unfold m_i_tree_collect_l0; simp) (by unfold FUEL; omega)
      rw [bindL_brk hL]
      simp only
      rw [appI_ok (by simp; omega)]; simp
  · intro t a b e wa wb iha ihb n out hn hl
    rw [flat2] at hn hl ⊢
    simp only [List.length_append, List.length_cons, List.length_nil] at hn hl
    match n, hn with
    | n + 1, hn =>
      rw [m_i_tree_collect]; simp only [tr_get, Option.bind_some]
      have hL : loopM (m_i_tree_collect_l0 (m_i_tree_collect n) (t, [a, b])) FUEL (0, out) = some (.brk (2, (out ++ flat a) ++ flat b)) := loopM_at (f := m_i_tree_collect_l0 (m_i_tree_collect n) (t, [a, b])) (fun i => ((i : Int), if i = 0 then out else if i = 1 then out ++ flat a else (out ++ flat a) ++ flat b)) 2 (fun i hi => by
        have : i = 0 ∨ i = 1 := by omega
        rcases this with rfl | rfl
        · unfold m_i_tree_collect_l0
          simp only
          rw [if_pos (by simp), getI_nth (by omega) (by simp), nth_zero]; simp only [Option.bind_some, if_true]
          rw [iha n _ (by omega) (by omega)]; rfl
        · unfold m_i_tree_collect_l0
          simp only
          rw [if_pos (by simp), getI_nth (by omega) (by simp), nth_one]; simp only [Option.bind_some, if_true]
          rw [ihb n _ (by omega) (by simp; omega)]; rfl) (by unfold m_i_tree_collect_l0; simp) (by unfold FUEL; omega)
      rw [bindL_brk hL]
      simp only
      rw [appI_ok (by simp; omega)]; simp
theorem s_expand {x : Tr Tok} (h : WT x) : ∀ n, (flat x).length ≤ n → (flat x).length ≤ 1000000 → szX x ≤ 50000 → m_s_l10Expand n (flat x) = some (flat (expX x)) := by
  have hF := FUELR_big
  refine WT.ind (p := fun x => ∀ n, (flat x).length ≤ n → (flat x).length ≤ 1000000 → szX x ≤ 50000 → m_s_l10Expand n (flat x) = some (flat (expX x))) ?_ ?_ ?_ h
  · intro t e n hn hl hs
    rw [flat0] at hn hl ⊢
    match n, hn with
    | n + 1, _ =>
      have hk := kind0 e
      rw [m_s_l10Expand]
      have := (last_tok (A := []) (t := t) (by simp)).1
      rw [List.nil_append] at this
      rw [this]; simp only [Option.bind_some]
      rw [if45n (.inr e)]; simp only [Option.bind_some, hk.1, hk.2, Bool.false_eq_true, if_false]
      rw [exp0 (no7 (.inr e)), flat0]
  · intro t a e wa ih n hn hl hs
    have hs' : min ((1 : Int) + (if t.1 = 7 then (szX a + 3) * t.2.2.2 else szX a)) 100000 ≤ 50000 := hs
    rw [flat1] at hn hl ⊢
    simp only [List.length_append, List.length_cons, List.length_nil] at hn hl
    match n, hn with
    | n + 1, hn =>
      have hr := szX_range wa
      have hsa : szX a ≤ 50000 := by
        by_cases k : t.1 = 7
        · rw [if_pos k] at hs'
          have h7 := ar_rep (show 0 ≤ ar t by omega) k
          have hge : szX a + 3 ≤ (szX a + 3) * t.2.2.2 := by
            have := Int.mul_le_mul_of_nonneg_left (c := szX a + 3) h7.2.1 (by omega)
            omega
          omega
        · rw [if_neg k] at hs'; omega
      have hla := exp_len wa (by omega)
      rw [m_s_l10Expand]
      obtain ⟨l1, l2⟩ := last_tok (A := flat a) (t := t) (by omega)
      rw [l1]; simp only [Option.bind_some]
      rw [if45n (.inl e)]; simp only [Option.bind_some, Bool.false_eq_true, if_false]
      rw [l2, Int.toNat_natCast, List.take_left, chk_of (by simp only [List.length_append, List.length_cons, List.length_nil]; omega)]; simp only [Option.bind_some]
      rw [ih n (by omega) (by omega) hsa, exp1]; simp only [Option.bind_some]
      rcases kind1 e with ⟨k1, k2⟩ | ⟨k1, k2, k3⟩
      · rw [if_pos k1, if_neg (by omega), s_join (by simp; omega), flat1]; simp
      · have h7 := ar_rep (show 0 ≤ ar t by omega) k3
        rw [if_neg (by simp [k1]), if_pos k2, if_pos k3]
        have := s_times (x := expX a) t.2.2.2.toNat FUELR t.2.2.1 (by omega) (by omega) (by omega) (by omega) (by omega)
        rw [Int.toNat_of_nonneg (by omega)] at this
        rw [this]; rfl
  · intro t a b e wa wb iha ihb n hn hl hs
    have k := no7 (.inl e)
    have hs' : min ((1 : Int) + (if t.1 = 7 then (szX a + 3) * t.2.2.2 else szX a) + (if t.1 = 7 then (szX b + 3) * t.2.2.2 else szX b)) 100000 ≤ 50000 := hs
    rw [if_neg k, if_neg k] at hs'
    rw [flat2] at hn hl ⊢
    obtain ⟨p1, p2, p3, p4⟩ := two_parts (a := a) (t := t) wb hl
    simp only [List.length_append, List.length_cons, List.length_nil] at hn hl
    match n, hn with
    | n + 1, hn =>
      have hra := szX_range wa
      have hrb := szX_range wb
      have hla := exp_len wa (by omega)
      have hlb := exp_len wb (by omega)
      rw [m_s_l10Expand]
      obtain ⟨l1, l2⟩ := last_tok (A := flat a ++ flat b) (t := t) (by rw [List.length_append]; omega)
      rw [l1]; simp only [Option.bind_some]
      rw [if45 e]; simp only [Option.bind_some, if_true]
      rw [l2, p1, p2, chk_of (by simp only [List.length_append, List.length_cons, List.length_nil]; omega)]; simp only [Option.bind_some]
      rw [chk_of (by simp only [List.length_append, List.length_cons, List.length_nil]; omega), p3, p4]; simp only [Option.bind_some]
      rw [iha n (by omega) (by omega) (by omega), chk_of (by simp only [List.length_append, List.length_cons, List.length_nil]; omega)]; simp only [Option.bind_some]
      rw [ihb n (by have := wa.pos; omega) (by omega) (by omega)]; simp only [Option.bind_some]
      rw [s_join (by omega), exp2 k, flat2]; rfl
def expR (e : List Tok) : List Tok × Bool :=
  if decide (e.length ≤ 24) && isX e then (if 5000 < szX (treeX e) then ([], false) else (if 400 < (flat (expX (treeX e))).length then ([], false) else (flat (expX (treeX e)), true))) else ([], false)
theorem expand_both {e : List Tok} (he : e.length ≤ 1048576) : m_s_ExpandExpr e = some (expR e) ∧ m_i_ExpandExpr e = some (expR e) := by
  have hF := FUELR_big
  unfold m_s_ExpandExpr m_i_ExpandExpr expR
  rw [s_validExpr he, i_validExpr he]; simp only [Option.bind_some]
  by_cases c : (decide (e.length ≤ 24) && isX e) = true
  · rw [if_pos c, if_pos c, if_pos c, i_treeOf he]; simp only [Option.bind_some]
    rw [Bool.and_eq_true] at c
    obtain ⟨x, h1, hw, rfl⟩ := isX_ok c.2
    have h24 : (flat x).length ≤ 24 := by simpa using c.1
    have hr := szX_range hw
    rw [treeX_flat hw, s_size hw FUELR (by omega) (by omega), i_bound hw FUELR (by omega)]; simp only [Option.bind_some]
    by_cases c2 : 5000 < szX x
    · have c2' : decide (szX x > 5000) = true := by simpa using c2
      simp only [gt_iff_lt, c2, decide_true, if_true, and_self]
    · have c2' : decide (szX x > 5000) = false := by simpa using c2
      simp only [gt_iff_lt, c2, decide_false, if_false, Bool.false_eq_true]
      have hl := exp_len hw (by omega)
      rw [s_expand hw FUELR (by omega) (by omega) (by omega), i_expand hw FUELR (by omega)]; simp only [Option.bind_some]
      unfold m_i_tree_expr
      rw [i_collect (exp_ok hw) FUELR [] (by omega) (by simp; omega)]; simp only [Option.bind_some, List.nil_append]
      by_cases c3 : 400 < (flat (expX x)).length
      · have c3' : decide (((flat (expX x)).length : Int) > 400) = true := decide_eq_true (by omega)
        simp only [c3', c3, decide_true, if_true, and_self]
      · have c3' : decide (((flat (expX x)).length : Int) > 400) = false := decide_eq_false (by omega)
        simp only [c3', c3, decide_false, if_false, Bool.false_eq_true, and_self]
  · rw [if_neg c, if_neg c, if_neg c]; exact ⟨rfl, rfl⟩
theorem expR_ok {e : List Tok} (h : (expR e).2 = true) : ∃ y, WT y ∧ (expR e).1 = flat y ∧ (flat y).length ≤ 400 := by
  unfold expR at h ⊢
  split at h
  · rename_i c
    rw [if_pos c]
    rw [Bool.and_eq_true] at c
    obtain ⟨x, h1, hw, rfl⟩ := isX_ok c.2
    rw [treeX_flat hw] at h ⊢
    split at h
    · cases h
    · rename_i c2
      rw [if_neg c2]
      split at h
      · cases h
      · rename_i c3
        rw [if_neg c3]
        exact ⟨_, exp_ok hw, rfl, by omega⟩
  · cases h
end Go.Proofs.YtimjccbdngajoaaGreat.D
/- The states from which an accepting state is reached: by rounds, and until nothing turns. -/
set_option linter.unusedVariables false
set_option linter.unusedSimpArgs false
set_option linter.unnecessarySimpa false
set_option linter.unusedSectionVars false
namespace Go.Proofs.YtimjccbdngajoaaGreat.D
open Go.RowKit

def hitT (out : List Bool) (t : Int) : Bool := decide (t ≥ 0) && nth out t
def hit (out : List Bool) (row : List Int) : Bool := row.any (hitT out)
def passAt (a : AutT) (out : List Bool) (s : Nat) : List Bool := if hit out (nth a.2.2 s) then out.set s true else out
def passTo (a : AutT) (out : List Bool) : Nat → List Bool
  | 0 => out
  | s + 1 => passAt a (passTo a out s) s
def cnt (out : List Bool) : Nat := out.count true
theorem cnt_le (out : List Bool) : cnt out ≤ out.length := List.count_le_length
theorem set_same {out : List Bool} {s : Nat} (h : s < out.length) (k : out[s] = true) : out.set s true = out := by
  refine List.ext_getElem (by simp) fun i h1 h2 => ?_
  rw [List.getElem_set]
  split
  · rename_i e; subst e; exact k.symm
  · rfl
theorem cnt_set {out : List Bool} {s : Nat} (h : s < out.length) (k : out[s] = false) : cnt (out.set s true) = cnt out + 1 := by
  unfold cnt
  rw [List.count_set h]; simp [k]
section
variable {a : AutT} {n : Nat}
theorem passAt_length (a : AutT) (out : List Bool) (s : Nat) : (passAt a out s).length = out.length := by unfold passAt; split <;> simp
theorem passTo_length (a : AutT) (out : List Bool) : ∀ s, (passTo a out s).length = out.length
  | 0 => rfl
  | s + 1 => by rw [passTo, passAt_length, passTo_length a out s]
theorem passAt_cases {out : List Bool} {s : Nat} (h : s < out.length) : (passAt a out s = out ∧ ¬ (hit out (nth a.2.2 s) = true ∧ nth out s = false)) ∨ (cnt (passAt a out s) = cnt out + 1 ∧ hit out (nth a.2.2 s) = true ∧ nth out s = false) := by
  unfold passAt
  rw [nth_nat h]
  cases hh : hit out (nth a.2.2 s) with
  | false => exact .inl ⟨by simp, by simp⟩
  | true =>
    cases hk : out[s] with
    | true => exact .inl ⟨by simp [set_same h hk], by simp⟩
    | false => exact .inr ⟨by simp [cnt_set h hk], rfl, rfl⟩
theorem passTo_cnt {out : List Bool} : ∀ s, s ≤ out.length → (passTo a out s = out ∧ cnt (passTo a out s) = cnt out) ∨ cnt out < cnt (passTo a out s)
  | 0, _ => .inl ⟨rfl, rfl⟩
  | s + 1, hs => by
    have hl : s < (passTo a out s).length := by rw [passTo_length]; omega
    have ih := passTo_cnt (out := out) s (by omega)
    rw [passTo]
    rcases passAt_cases (a := a) hl with ⟨e, -⟩ | ⟨e, -, -⟩
    · rw [e]; exact ih
    · rcases ih with ⟨-, h2⟩ | h
      · exact .inr (by omega)
      · exact .inr (by omega)
def it (a : AutT) : Nat → List Bool
  | 0 => a.2.1
  | j + 1 => passTo a (it a j) a.2.1.length
theorem it_length (a : AutT) : ∀ j, (it a j).length = a.2.1.length
  | 0 => rfl
  | j + 1 => by rw [it, passTo_length, it_length a j]
theorem it_cnt (a : AutT) (j : Nat) : cnt (it a j) ≤ a.2.1.length := by rw [← it_length a j]; exact cnt_le _
theorem it_step (a : AutT) (j : Nat) : (it a (j + 1) = it a j) ∨ cnt (it a j) < cnt (it a (j + 1)) := by
  rcases passTo_cnt (a := a) (out := it a j) a.2.1.length (by rw [it_length]; exact Nat.le_refl _) with h | h
  · exact .inl h.1
  · exact .inr h
theorem it_fix {j k : Nat} (h : it a (j + 1) = it a j) (hk : j ≤ k) : it a k = it a j := by
  induction hk with
  | refl => rfl
  | step _ ih => rw [it, ih]; exact h
theorem it_fix_eq {j k : Nat} (h : it a (j + 1) = it a j) (h' : it a (k + 1) = it a k) : it a j = it a k := by
  rcases Nat.le_total j k with e | e
  · exact (it_fix h e).symm
  · exact it_fix h' e
theorem it_done (a : AutT) : it a (a.2.1.length + 1) = it a a.2.1.length := by
  have key : ∀ j, it a (j + 1) = it a j ∨ j + 1 ≤ cnt (it a (j + 1)) := by
    intro j
    induction j with
    | zero => rcases it_step a 0 with h | h
              · exact .inl h
              · exact .inr (by omega)
    | succ j ih =>
      rcases it_step a (j + 1) with h | h
      · exact .inl h
      · rcases ih with h' | h'
        · left; rw [it, h']; exact h'
        · exact .inr (by omega)
  rcases key a.2.1.length with h | h
  · exact h
  · have := it_cnt a (a.2.1.length + 1); omega
def live (a : AutT) : List Bool := it a a.2.1.length
theorem live_length (a : AutT) : (live a).length = a.2.1.length := it_length a _
theorem any_take {α : Type} [Inhabited α] {row : List α} {p : α → Bool} {k : Nat} (h : k < row.length) : (row.take (k + 1)).any p = ((row.take k).any p || p (nth row (k : Int))) := by
  rw [List.take_succ_eq_append_getElem h, List.any_append, nth_nat h]; simp
section
variable (V : VA a n) (hn : n ≤ 1000000)
include V hn
theorem s_live_in {out : List Bool} {s : Nat} (hs : s < n) (hl : out.length = n) : loopM (m_s_l11Live_l2 a (out, (s : Int))) FUEL (out, 0) = some (.brk (passAt a out s, 9)) := by
  have hr := V.rowAt (s := s) (by omega) (by omega)
  have hls : s < out.length := by omega
  have := loopM_at (f := m_s_l11Live_l2 a (out, (s : Int))) (fun k => (if ((nth a.2.2 (s : Int)).take k).any (hitT out) then out.set s true else out, (k : Int))) 9 (fun k hk => by
    unfold m_s_l11Live_l2
    simp only
    rw [if_pos (by simp; omega), V.get (by omega) (by omega)]; simp only [Option.bind_some]
    rw [V.get2 (by omega) (by omega) hk]; simp only [Option.bind_some]
    rw [any_take (by omega), show nth (nth a.2.2 (s : Int)) (k : Int) = mv a s k from rfl]
    simp only [wrap_succ (show k < 9223372036854775807 by omega)]
    by_cases c : mv a s k ≥ 0
    · have hset : (out.set s true).length = n := by simp [hl]
      have hm := (V.mv (s := s) (k := k) (by omega) (by omega) hk).2
      rw [if_pos (by simpa using c)]
      by_cases q : ((nth a.2.2 (s : Int)).take k).any (hitT out) = true
      · simp only [q, if_true, Bool.true_or]
        rw [getI_nth c (by rw [hset]; exact hm), getI_nth (by omega) (by rw [hset]; omega)]; simp only [Option.bind_some, Int.toNat_natCast]
        split <;> simp
      · simp only [q, Bool.false_eq_true, if_false, Bool.false_or, hitT]
        rw [getI_nth c (by rw [hl]; exact hm), getI_nth (by omega) (by rw [hl]; omega)]; simp only [Option.bind_some, Int.toNat_natCast]
        cases hc : nth out (mv a s k) <;> simp [hc, c]
    · rw [if_neg (by simpa using c)]
      simp [hitT, c]) (by unfold m_s_l11Live_l2; simp) (by unfold FUEL; omega)
  have e9 : (nth a.2.2 (s : Int)).take 9 = nth a.2.2 (s : Int) := List.take_of_length_le (by omega)
  rw [e9] at this
  exact this
theorem s_live_round {out : List Bool} (hl : out.length = n) : loopM (m_s_l11Live_l1 a) FUEL (out, 0) = some (.brk (passTo a out n, (n : Int))) := by
  have hlen := V.len
  refine loopM_at (f := m_s_l11Live_l1 a) (fun s => (passTo a out s, (s : Int))) n (fun s hs => ?_) ?_ (up63 (by omega))
  · unfold m_s_l11Live_l1
    simp only
    rw [if_pos (by simp; omega), bindL_brk (s_live_in V hn hs (by rw [passTo_length]; exact hl)), wrap_succ (by omega)]
    rfl
  · unfold m_s_l11Live_l1
    simp only
    rw [if_neg (by simp; omega)]
theorem s_live : m_s_l11Live a = some (live a) := by
  have hlen := V.len
  unfold m_s_l11Live
  rw [appI_ok (by simp; omega)]; simp only [Option.bind_some, List.nil_append]
  have := loopM_at (f := m_s_l11Live_l0 a) (fun j => (it a j, (j : Int))) n (fun j hj => by
    unfold m_s_l11Live_l0
    simp only
    rw [if_pos (by simp; omega), bindL_brk (s_live_round V hn (by rw [it_length]; exact hlen)), wrap_succ (by omega), it, hlen]) (by
    unfold m_s_l11Live_l0
    simp only
    rw [if_neg (by simp; omega)]) (up63 (by omega))
  exact (bindL_brk this).trans (by simp [live, hlen])
theorem i_live_in {out : List Bool} {g : Bool} {s : Nat} (hs : s < n) (hl : out.length = n) : loopM (m_i_Automaton_live_l2 (g, (s : Int), out) (nth a.2.2 (s : Int))) FUEL (g, 0, out) = some (.brk (g || (hit out (nth a.2.2 (s : Int)) && !nth out (s : Int)), 9, passAt a out s)) := by
  have hr := V.rowAt (s := s) (by omega) (by omega)
  have hls : s < out.length := by omega
  have := loopM_at (f := m_i_Automaton_live_l2 (g, (s : Int), out) (nth a.2.2 (s : Int))) (fun k => (g || (((nth a.2.2 (s : Int)).take k).any (hitT out) && !nth out (s : Int)), (k : Int), if ((nth a.2.2 (s : Int)).take k).any (hitT out) then out.set s true else out)) 9 (fun k hk => by
    unfold m_i_Automaton_live_l2
    simp only
    rw [if_pos (by simp [hr]; omega), V.get2 (by omega) (by omega) hk]; simp only [Option.bind_some]
    rw [any_take (by omega), show nth (nth a.2.2 (s : Int)) (k : Int) = mv a s k from rfl]
    simp only [wrap_succ (show k < 9223372036854775807 by omega)]
    by_cases c : mv a s k ≥ 0
    · have hset : (out.set s true).length = n := by simp [hl]
      have hm := (V.mv (s := s) (k := k) (by omega) (by omega) hk).2
      rw [if_pos (by simpa using c)]
      by_cases q : ((nth a.2.2 (s : Int)).take k).any (hitT out) = true
      · simp only [q, if_true, Bool.true_or]
        have hself : nth (out.set s true) (s : Int) = true := by
          have := nth_set_self (xs := out) (i := (s : Int)) (x := true) (by omega) (by omega)
          simpa using this
        rw [getI_nth c (by rw [hset]; exact hm), getI_nth (by omega) (by rw [hset]; omega)]; simp only [Option.bind_some, Int.toNat_natCast, hself, if_true]
        split <;> simp
      · simp only [q, Bool.false_eq_true, if_false, Bool.false_or, hitT, Bool.false_and, Bool.or_false]
        rw [getI_nth c (by rw [hl]; exact hm), getI_nth (by omega) (by rw [hl]; omega)]; simp only [Option.bind_some, Int.toNat_natCast]
        cases hc : nth out (mv a s k) with
        | false => simp [c]
        | true =>
          cases hd : nth out (s : Int) with
          | false => simp [c]
          | true =>
            rw [nth_nat hls] at hd
            simp [c, set_same hls hd]
    · rw [if_neg (by simpa using c)]
      simp [hitT, c]) (by unfold m_i_Automaton_live_l2; simp [hr]) (by unfold FUEL; omega)
  have e9 : (nth a.2.2 (s : Int)).take 9 = nth a.2.2 (s : Int) := List.take_of_length_le (by omega)
  rw [e9] at this
  have e0 : (g || (((nth a.2.2 (s : Int)).take 0).any (hitT out) && !nth out (s : Int))) = g := by simp
  rw [e0] at this
  exact this
theorem i_live_round {out : List Bool} (hl : out.length = n) : ∃ g, loopM (m_i_Automaton_live_l1 a) FUEL (false, 0, out) = some (.brk (g, (n : Int), passTo a out n)) ∧ (g = true ↔ cnt out < cnt (passTo a out n)) := by
  have hlen := V.len
  have hnl := V.nlen
  obtain ⟨s', e, ⟨g, rfl, hg⟩⟩ := loopM_for (f := m_i_Automaton_live_l1 a) (fun s st => ∃ g, st = (g, (s : Int), passTo a out s) ∧ (g = true ↔ cnt out < cnt (passTo a out s))) n (by
    rintro s st hs ⟨g, rfl, hg⟩
    have hpl : (passTo a out s).length = n := by rw [passTo_length]; exact hl
    unfold m_i_Automaton_live_l1
    simp only
    rw [if_pos (by simp; omega), V.get (by omega) (by omega)]; simp only [Option.bind_some]
    rw [bindL_brk (i_live_in V hn hs hpl), wrap_succ (by omega)]
    refine ⟨_, rfl, _, rfl, ?_⟩
    rw [Bool.or_eq_true, Bool.and_eq_true, Bool.not_eq_true', hg, passTo]
    have hc := passTo_cnt (a := a) (out := out) s (by omega)
    rcases passAt_cases (a := a) (out := passTo a out s) (s := s) (by omega) with ⟨e, k⟩ | ⟨e, k⟩
    · rw [e]; exact ⟨fun h => h.elim id fun h => absurd h k, .inl⟩
    · rw [e]
      exact ⟨fun _ => by rcases hc with ⟨-, h⟩ | h <;> omega, fun _ => .inr k⟩) (by
    rintro s ⟨g, rfl, hg⟩
    unfold m_i_Automaton_live_l1
    simp only
    rw [if_neg (by simp; omega)]) ⟨false, rfl, by simp [passTo]⟩ (up63 (by omega))
  exact ⟨g, e, hg⟩
theorem i_live : m_i_Automaton_live a = some (live a) := by
  have hlen := V.len
  unfold m_i_Automaton_live
  rw [appI_ok (by simp; omega)]; simp only [Option.bind_some, List.nil_append]
  obtain ⟨o, e, i, rfl, hi⟩ := loopM_go (f := m_i_Automaton_live_l0 a) (fun i s => ∃ b, s = (b, it a i) ∧ (b = true → i ≤ cnt (it a i)) ∧ (b = false → it a (i + 1) = it a i)) (fun o => ∃ i, o = .brk (false, it a i) ∧ it a (i + 1) = it a i) (n + 1) (s := (true, a.2.1)) (by
    rintro i s hi ⟨b, rfl, h1, h2⟩
    unfold m_i_Automaton_live_l0
    simp only
    cases b with
    | false => exact .inr ⟨_, by rw [if_neg (by simp)], (fun s' e => by cases e), i, rfl, h2 rfl⟩
    | true =>
      have hc := it_cnt a i
      have h1 := h1 rfl
      obtain ⟨g, e, hg⟩ := i_live_round V hn (out := it a i) (by rw [it_length]; exact hlen)
      have ee : passTo a (it a i) n = it a (i + 1) := by rw [it, hlen]
      rw [ee] at e hg
      refine .inl ⟨by omega, (g, it a (i + 1)), by rw [if_pos rfl, bindL_brk e], g, rfl, fun h => ?_, fun h => ?_⟩
      · have := hg.1 h; omega
      · have hs : it a (i + 1) = it a i := by
          rcases it_step a i with h' | h'
          · exact h'
          · rw [← hg, h] at h'; cases h'
        rw [it, hs]; exact hs) ⟨true, rfl, fun _ => Nat.zero_le _, fun h => by cases h⟩ (up63 (by omega))
  rw [bindL_brk e]
  have := it_fix_eq hi (it_done a)
  simp [live, this]
end
end
end Go.Proofs.YtimjccbdngajoaaGreat.D
/- Automata numbered from their first state on: by the program over a map, by the reference over representatives. -/
set_option linter.unusedVariables false
set_option linter.unusedSimpArgs false
set_option linter.unnecessarySimpa false
set_option linter.unusedSectionVars false
namespace Go.Proofs.YtimjccbdngajoaaGreat.D
open Go.RowKit

def nothing : AutT := (0, [false], [[-1, -1, -1, -1, -1, -1, -1, -1, -1]])
theorem s_nothing : m_s_l11Nothing = some nothing := by kernel_rfl
theorem i_nothing : m_i_nothing = some nothing := by kernel_rfl
theorem iOk_nat {n : Nat} (h : n ≤ 1000000) : iOk (n : Int) = true := by
  have h1 : IntKind.i64.min = -9223372036854775808 := by decide
  have h2 : IntKind.i64.max = 9223372036854775807 := by decide
  simp only [iOk, Lit.wf, h1, h2, Bool.and_eq_true, decide_eq_true_eq]
  omega
theorem take_one {α : Type} [Inhabited α] {xs : List α} {k : Nat} (h : k < xs.length) : xs.take (k + 1) = xs.take k ++ [nth xs (k : Int)] := by
  rw [List.take_succ_eq_append_getElem h, nth_nat h]
theorem prefix_nth {α : Type} [Inhabited α] {xs ys : List α} (h : xs <+: ys) {i : Int} (h0 : 0 ≤ i) (h1 : i < xs.length) : nth ys i = nth xs i := by
  obtain ⟨t, rfl⟩ := h
  exact nth_append_left h0 h1
/-- keys to be numbered: at most B of them -/
structure NumOk {κ : Type} [DecidableEq κ] (nx : κ → List (Option κ)) (first : κ) (G : κ → Prop) (B : Nat) : Prop where
  g0 : G first
  gn : ∀ x, G x → ∀ y, some y ∈ nx x → G y
  len : ∀ x, G x → (nx x).length = 9
  bound : ∀ l : List κ, l.Nodup → (∀ x ∈ l, G x) → l.length ≤ B
section
variable {κ : Type} [DecidableEq κ] [Inhabited κ] {nx : κ → List (Option κ)} {first : κ} {G : κ → Prop} {B : Nat}
theorem NumOk.le (H : NumOk nx first G B) (i : Nat) : (bfS nx first i).length ≤ B := H.bound _ (bfS_nodup i) (bfS_good H.g0 H.gn i)
theorem NumOk.at (H : NumOk nx first G B) {i : Nat} (h : i < (bfS nx first i).length) : G (nth (bfS nx first i) (i : Int)) := bfS_good H.g0 H.gn i _ (nth_mem (by omega) (by omega))
theorem bfS_succ' {i : Nat} (h : i < (bfS nx first i).length) : bfS nx first (i + 1) = nbS (bfS nx first i) (nx (nth (bfS nx first i) (i : Int))) := by rw [bfS_succ h, nth_nat h]
theorem bfR_succ' {i : Nat} (h : i < (bfS nx first i).length) : bfR nx first (i + 1) = bfR nx first i ++ [nbR (bfS nx first i) (nx (nth (bfS nx first i) (i : Int)))] := by rw [bfR_succ h, nth_nat h]
theorem acc_succ {β : Type} {acc : κ → β} {i : Nat} (h : i < (bfS nx first i).length) : ((bfS nx first (i + 1)).take (i + 1)).map acc = ((bfS nx first i).take i).map acc ++ [acc (nth (bfS nx first i) (i : Int))] := by
  have hp := bfS_step_prefix (nx := nx) (first := first) i
  have hl := hp.length_le
  have e : (bfS nx first (i + 1)).take i = (bfS nx first i).take i := by
    obtain ⟨t, ht⟩ := hp
    rw [← ht, List.take_append_of_le_length (by omega)]
  rw [take_one (by omega), List.map_append, e, prefix_nth hp (by omega) (by omega)]; rfl
def MapOf (M : List (κ × Int)) (l : List κ) : Prop := M.length = l.length ∧ ∀ x, M.lookup x = if x ∈ l then some (l.idxOf x : Int) else none
theorem MapOf.one (x : κ) : MapOf [(x, 0)] [x] := by
  refine ⟨rfl, fun y => ?_⟩
  rw [List.lookup_cons]
  by_cases e : y = x
  · subst e; simp
  · simp only [show (y == x) = false from by simp [e]]; simp [e]
theorem MapOf.put {M : List (κ × Int)} {l : List κ} (h : MapOf M l) {x : κ} (hx : x ∉ l) : MapOf ((x, (l.length : Int)) :: M) (l ++ [x]) := by
  refine ⟨by simp [h.1], fun y => ?_⟩
  rw [List.lookup_cons]
  by_cases e : y = x
  · subst e
    simp [List.idxOf_append, hx]
  · simp only [show (y == x) = false from by simp [e], h.2 y, List.mem_append, List.mem_singleton, e, or_false]
    by_cases k : y ∈ l
    · simp [k, List.idxOf_append]
    · simp [k]
end

/-! ### The program: keys that are ints -/
section
variable {nx : Int → List (Option Int)} {first : Int} {G : Int → Prop} {B : Nat}
theorem i_numb_in {p3 : Int → Int → Option (Int × Bool)} {l : List Int} {M : List (Int × Int)} {os : List (Option Int)} {acs : List Bool} {rws : List (List Int)} {i : Nat}
    (hi : i < l.length) (hos : os.length = 9) (hM : MapOf M l) (hok : ∀ y, some y ∈ os → iOk y = true) (hB : ∀ k, (nbS l (os.take k)).length ≤ 1000000)
    (hp : ∀ (k : Nat) (hk : k < 9), ∃ j, p3 (nth l (i : Int)) (k : Int) = some (match nth os (k : Int) with | some y => (y, true) | none => (j, false))) :
    ∃ M', loopM (m_i_numbered_int_l1 p3 (l, M, (i : Int), 0, acs, rws)) FUEL (l, M, [], 0) = some (.brk (nbS l os, M', nbR l os, 9)) ∧ MapOf M' (nbS l os) := by
  obtain ⟨s', e, M', rfl, hM'⟩ := loopM_for (f := m_i_numbered_int_l1 p3 (l, M, (i : Int), 0, acs, rws)) (fun k s => ∃ M', s = (nbS l (os.take k), M', nbR l (os.take k), (k : Int)) ∧ MapOf M' (nbS l (os.take k))) 9 (by
    rintro k s hk ⟨M1, rfl, hM1⟩
    have hpre := nbS_prefix l (os.take k)
    have hlen := hpre.length_le
    have hBk := hB k
    obtain ⟨j, hj⟩ := hp k hk
    have hrl : (nbR l (os.take k)).length ≤ 9 := by rw [nbR_length, List.length_take]; omega
    unfold m_i_numbered_int_l1
    simp only
    rw [if_pos (by simp; omega), getI_nth (by omega) (by omega)]; simp only [Option.bind_some]
    rw [prefix_nth hpre (by omega) (by omega), hj, take_one (by omega), nbS_snoc, nbR_snoc]
    simp only [Option.bind_some, wrap_succ (show k < 9223372036854775807 by omega)]
    cases ho : nth os (k : Int) with
    | none =>
      simp only [Bool.false_eq_true, if_false]
      rw [appI_ok (by simp; omega)]
      exact ⟨_, rfl, M1, rfl, hM1⟩
    | some y =>
      have hy : iOk y = true := hok y (ho ▸ nth_mem (by omega) (by omega))
      simp only [if_true]
      rw [show chk (iOk y = true) = some () from by unfold chk; rw [if_pos hy]]; simp only [Option.bind_some]
      rw [show lkM M1 y = _ from hM1.2 y]
      by_cases c : y ∈ nbS l (os.take k)
      · simp only [c, if_true, Option.isSome_some, Option.getD_some, Option.bind_some]
        rw [appI_ok (by simp; omega)]
        exact ⟨_, rfl, M1, by rw [nbL_old c]; rfl, by rw [nbL_old c]; exact hM1⟩
      · have hput : putM M1 iOk iOk y ((nbS l (os.take k)).length : Int) = some ((y, ((nbS l (os.take k)).length : Int)) :: M1) := by
          unfold putM
          rw [if_pos ⟨by have := hM1.1; omega, hy, iOk_nat hBk⟩]
        simp only [c, if_false, Option.isSome_none, Bool.false_eq_true, hput, Option.bind_some]
        rw [appI_ok (by simp; omega)]; simp only [Option.bind_some]
        rw [appI_ok (by simp; omega)]
        refine ⟨_, rfl, (y, ((nbS l (os.take k)).length : Int)) :: M1, ?_, ?_⟩
        · rw [nbL_new c]; simp only [nbI, idxOf_nbL c]
        · rw [nbL_new c]; exact hM1.put c) (by
    rintro s ⟨M1, rfl, hM1⟩
    unfold m_i_numbered_int_l1
    simp) (s := (l, M, [], 0)) ⟨M, rfl, hM⟩ (by unfold FUEL; omega)
  rw [List.take_of_length_le (by omega)] at e hM'
  exact ⟨M', e, hM'⟩
theorem i_numb {most : Int} {p2 : Int → Option Bool} {p3 : Int → Int → Option (Int × Bool)} {acc : Int → Bool} (H : NumOk nx first G B) (hB : B ≤ 1000000) (hmost : (B : Int) ≤ most) (hok : ∀ x, G x → iOk x = true)
    (h2 : ∀ x, G x → p2 x = some (acc x)) (h3 : ∀ x (k : Nat), G x → k < 9 → ∃ j, p3 x (k : Int) = some (match nth (nx x) (k : Int) with | some y => (y, true) | none => (j, false))) :
    ∃ N, bfE nx first N ∧ m_i_numbered_int first most p2 p3 = some ((0, (bfS nx first N).map acc, bfR nx first N), true) := by
  obtain ⟨N, hNB, hN⟩ := bfE_ex (nx := nx) (first := first) (H.le)
  refine ⟨N, hN, ?_⟩
  unfold m_i_numbered_int
  rw [show putM ([] : List (Int × Int)) iOk iOk first 0 = some [(first, 0)] from by unfold putM; rw [if_pos ⟨by simp, hok _ H.g0, by decide⟩]]; simp only [Option.bind_some]
  obtain ⟨s', e, M', rfl, hM'⟩ := loopM_for (f := m_i_numbered_int_l0 most p2 p3) (fun i s => ∃ M, s = (bfS nx first i, M, (i : Int), 0, ((bfS nx first i).take i).map acc, bfR nx first i) ∧ MapOf M (bfS nx first i)) N (by
    rintro i s hi ⟨M, rfl, hM⟩
    have hlt := hN.2 i hi
    have hG := H.at hlt
    have hle := H.le i
    have hle' := H.le (i + 1)
    obtain ⟨M', e, hM'⟩ := i_numb_in (p3 := p3) (l := bfS nx first i) (M := M) (os := nx (nth (bfS nx first i) (i : Int))) (acs := ((bfS nx first i).take i).map acc) (rws := bfR nx first i) hlt (H.len _ hG) hM (fun y hy => hok y (H.gn _ hG y hy))
      (fun k => by
        have : (nbS (bfS nx first i) ((nx (nth (bfS nx first i) (i : Int))).take k)).length ≤ B := H.bound _ (nbS_nodup (bfS_nodup i)) fun x hx => by
          rcases mem_nbS.1 hx with hx | hx
          · exact bfS_good H.g0 H.gn i x hx
          · exact H.gn _ hG x (List.mem_of_mem_take hx)
        omega) (fun k hk => h3 _ k hG hk)
    unfold m_i_numbered_int_l0
    simp only
    rw [if_pos (by simp; omega), bindL_brk e, ← bfS_succ' hlt]
    rw [← bfS_succ' hlt] at hM'
    have hl2 := (bfS_step_prefix (nx := nx) (first := first) i).length_le
    simp only
    rw [if_neg (by simp; omega), getI_nth (by omega) (by omega)]; simp only [Option.bind_some]
    rw [prefix_nth (bfS_step_prefix i) (by omega) (by omega), h2 _ hG]; simp only [Option.bind_some]
    have hr : (bfR nx first i).length = i := bfR_length fun j hj => hN.2 j (by omega)
    rw [appI_ok (by simp; omega)]; simp only [Option.bind_some]
    rw [appI_ok (by simp; omega)]; simp only [Option.bind_some, wrap_succ (show i < 9223372036854775807 by omega)]
    exact ⟨_, rfl, M', by rw [acc_succ hlt, bfR_succ' hlt], hM'⟩) (by
    rintro s ⟨M, rfl, hM⟩
    unfold m_i_numbered_int_l0
    simp only
    rw [if_neg (by have := hN.1; simp; omega)]) (s := ([first], [(first, 0)], 0, 0, [], [])) ⟨_, rfl, MapOf.one first⟩ (up63 (by omega))
  rw [bindL_brk e]
  simp only
  rw [List.take_of_length_le (by have := hN.1; omega)]
end

/-! ### The reference: classes and their representatives -/
theorem s_find {l : List Int} {x : Int} (h : l.length ≤ 9223372036854775807) : m_s_l11Find l x = some (if x ∈ l then (l.idxOf x : Int) else -1) := by
  unfold m_s_l11Find
  obtain ⟨o, e, hq⟩ := loopM_go (f := m_s_l11Find_l0 l x) (fun i s => s = (i : Int) ∧ x ∉ l.take i) (fun o => (x ∈ l ∧ o = .ret (l.idxOf x : Int)) ∨ (x ∉ l ∧ ∃ s, o = .brk s)) l.length (s := 0) (by
    rintro i s hi ⟨rfl, hx⟩
    unfold m_s_l11Find_l0
    by_cases hl : i < l.length
    · rw [if_pos (by simp; omega), getI_nth (by omega) (by omega)]; simp only [Option.bind_some]
      by_cases c : nth l (i : Int) = x
      · refine .inr ⟨_, by rw [if_pos (by simpa using c)], (fun s' e => by cases e), .inl ?_⟩
        have e : l = l.take i ++ (x :: l.drop (i + 1)) := by
          rw [← c, nth_nat hl, ← List.drop_eq_getElem_cons hl, List.take_append_drop]
        refine ⟨by rw [e]; simp, ?_⟩
        congr 1
        conv => rhs; rw [e, List.idxOf_append, if_neg hx, List.idxOf_cons_self]
        simp [List.length_take]; first | done | omega
      · refine .inl ⟨hl, _, by rw [if_neg (by simpa using c)], by rw [wrap_succ (by omega)], ?_⟩
        rw [take_one hl, List.mem_append, List.mem_singleton]
        rintro (h | h)
        · exact hx h
        · exact c h.symm
    · refine .inr ⟨_, by rw [if_neg (by simp; omega)], (fun s' e => by cases e), .inr ⟨?_, _, rfl⟩⟩
      rwa [List.take_of_length_le (by omega)] at hx) ⟨rfl, by simp⟩ (up63 h)
  rcases hq with ⟨hx, rfl⟩ | ⟨hx, s, rfl⟩
  · rw [bindL_ret e, if_pos hx]
  · rw [bindL_brk e, if_neg hx]
section
variable {a : AutT} {n : Nat} {c : List Int} {lv : List Bool} {nx : Int → List (Option Int)} {G : Int → Prop} {B : Nat} {acc : Int → Bool}
def good (n : Nat) (lv : List Bool) (r : Int) : Prop := 0 ≤ r ∧ r < n ∧ nth lv r = true
def succs (a : AutT) (c : List Int) (lv : List Bool) (r : Int) : List (Option Int) := (List.range 9).map fun k => if mv a r k ≥ 0 ∧ nth lv (mv a r k) = true then some (nth c (mv a r k)) else none
theorem succs_at {r : Int} {k : Nat} (hk : k < 9) : nth (succs a c lv r) (k : Int) = if mv a r k ≥ 0 ∧ nth lv (mv a r k) = true then some (nth c (mv a r k)) else none := by
  have : k < (succs a c lv r).length := by simp [succs]; omega
  rw [nth_nat this]; simp [succs]
def RepsOf (n : Nat) (lv : List Bool) (c : List Int) (rs l : List Int) : Prop := rs.length = l.length ∧ ∀ j : Nat, j < l.length → good n lv (nth rs j) ∧ nth c (nth rs j) = nth l (j : Int)
theorem RepsOf.snoc {rs l : List Int} (h : RepsOf n lv c rs l) {t : Int} (ht : good n lv t) : RepsOf n lv c (rs ++ [t]) (l ++ [nth c t]) := by
  refine ⟨by simp [h.1], fun j hj => ?_⟩
  by_cases e : j < l.length
  · rw [nth_append_left (by omega) (by have := h.1; omega), nth_append_left (by omega) (by omega)]; exact h.2 j e
  · have e : j = l.length := by simp at hj; omega
    subst e
    have h1 : nth (rs ++ [t]) (l.length : Int) = t := by rw [nth_nat (by simp [h.1])]; simp [← h.1]
    have h2 : nth (l ++ [nth c t]) (l.length : Int) = nth c t := by rw [nth_nat (by simp)]; simp
    rw [h1, h2]; exact ⟨ht, rfl⟩
theorem s_numb_in (V : VA a n) (hn : n ≤ 1000000) (hc : c.length = n) (hlv : lv.length = n) {l rs : List Int} {acs : List Bool} {rws : List (List Int)} {i : Nat} (hi : i < l.length) (hR : RepsOf n lv c rs l) {os : List (Option Int)} (hos : os.length = 9)
    (ho : ∀ r, good n lv r → nth c r = nth l (i : Int) → succs a c lv r = os) (hB : ∀ k, (nbS l (os.take k)).length ≤ 1000000) :
    ∃ rs', loopM (m_s_l11Number_l1 a c lv (l, rs, (i : Int), 0, acs, rws)) FUEL (l, rs, [], 0) = some (.brk (nbS l os, rs', nbR l os, 9)) ∧ RepsOf n lv c rs' (nbS l os) := by
  obtain ⟨s', e, rs', rfl, hR'⟩ := loopM_for (f := m_s_l11Number_l1 a c lv (l, rs, (i : Int), 0, acs, rws)) (fun k s => ∃ rs', s = (nbS l (os.take k), rs', nbR l (os.take k), (k : Int)) ∧ RepsOf n lv c rs' (nbS l (os.take k))) 9 (by
    rintro k s hk ⟨r1, rfl, hR1⟩
    have hpre := nbS_prefix l (os.take k)
    have hlen := hpre.length_le
    have hBk := hB k
    have hrl : (nbR l (os.take k)).length ≤ 9 := by rw [nbR_length, List.length_take]; omega
    have hr1 := hR1.1
    obtain ⟨⟨g0, g1, g2⟩, gc⟩ := hR1.2 i (by omega)
    rw [prefix_nth hpre (by omega) (by omega)] at gc
    have hsu := ho _ ⟨g0, g1, g2⟩ gc
    have hok : nth os (k : Int) = if mv a (nth r1 (i : Int)) k ≥ 0 ∧ nth lv (mv a (nth r1 (i : Int)) k) = true then some (nth c (mv a (nth r1 (i : Int)) k)) else none := by
      rw [← hsu]; exact succs_at hk
    have hmv := V.mv (s := nth r1 (i : Int)) (k := k) g0 g1 hk
    unfold m_s_l11Number_l1
    simp only
    rw [if_pos (by simp; omega), getI_nth (xs := r1) (by omega) (by omega)]; simp only [Option.bind_some]
    rw [V.get g0 g1]; simp only [Option.bind_some]
    rw [V.get2 g0 g1 hk, take_one (by omega), nbS_snoc, nbR_snoc]
    simp only [Option.bind_some, wrap_succ (show k < 9223372036854775807 by omega)]
    by_cases c1 : mv a (nth r1 (i : Int)) k ≥ 0
    · rw [if_pos (by simpa using c1), getI_nth (xs := lv) c1 (by omega)]; simp only [Option.bind_some]
      by_cases c2 : nth lv (mv a (nth r1 (i : Int)) k) = true
      · rw [if_pos ⟨c1, c2⟩] at hok
        rw [if_pos c2, getI_nth (xs := c) c1 (by omega), hok]; simp only [Option.bind_some]
        rw [s_find (by omega)]; simp only [Option.bind_some]
        by_cases c3 : nth c (mv a (nth r1 (i : Int)) k) ∈ nbS l (os.take k)
        · rw [if_pos c3, if_neg (by simp)]; simp only [Option.bind_some]
          rw [appI_ok (by simp; omega)]
          exact ⟨_, rfl, r1, by rw [nbL_old c3]; rfl, by rw [nbL_old c3]; exact hR1⟩
        · rw [if_neg c3, if_pos (by decide)]
          rw [appI_ok (by simp; omega)]; simp only [Option.bind_some]
          rw [appI_ok (by simp; omega)]; simp only [Option.bind_some]
          rw [appI_ok (by simp; omega)]; simp only [Option.bind_some]
          refine ⟨_, rfl, r1 ++ [mv a (nth r1 (i : Int)) k], ?_, ?_⟩
          · rw [nbL_new c3]; simp only [nbI, idxOf_nbL c3]
          · rw [nbL_new c3]; exact hR1.snoc ⟨c1, hmv.2, c2⟩
      · rw [if_neg (fun h => c2 h.2)] at hok
        rw [if_neg c2, hok]; simp only [Option.bind_some]
        rw [appI_ok (by simp; omega)]
        exact ⟨_, rfl, r1, rfl, hR1⟩
    · rw [if_neg (fun h => c1 h.1)] at hok
      rw [if_neg (by simpa using c1), hok]; simp only [Option.bind_some]
      rw [appI_ok (by simp; omega)]
      exact ⟨_, rfl, r1, rfl, hR1⟩) (by
    rintro s ⟨r1, rfl, hR1⟩
    unfold m_s_l11Number_l1
    simp) (s := (l, rs, [], 0)) ⟨rs, rfl, hR⟩ (by unfold FUEL; omega)
  rw [List.take_of_length_le (by omega)] at e hR'
  exact ⟨rs', e, hR'⟩
theorem s_numb (V : VA a n) (hn : n ≤ 1000000) (hc : c.length = n) (hlv : lv.length = n) (hs : nth lv a.1 = true) (H : NumOk nx (nth c a.1) G B) (hB : B ≤ 1000000)
    (hnx : ∀ r, good n lv r → nx (nth c r) = succs a c lv r) (hacc : ∀ r, good n lv r → acc (nth c r) = nth a.2.1 r) :
    ∃ N, bfE nx (nth c a.1) N ∧ m_s_l11Number a c lv = some (0, (bfS nx (nth c a.1) N).map acc, bfR nx (nth c a.1) N) := by
  obtain ⟨N, hNB, hN⟩ := bfE_ex (nx := nx) (first := nth c a.1) (H.le)
  refine ⟨N, hN, ?_⟩
  have hst := V.start
  have hlen := V.len
  unfold m_s_l11Number
  rw [getI_nth hst.1 (by omega)]; simp only [Option.bind_some]
  rw [if_pos hs, getI_nth hst.1 (by omega)]; simp only [Option.bind_some]
  obtain ⟨s', e, rs, rfl, hR⟩ := loopM_for (f := m_s_l11Number_l0 a c lv) (fun i s => ∃ rs, s = (bfS nx (nth c a.1) i, rs, (i : Int), 0, ((bfS nx (nth c a.1) i).take i).map acc, bfR nx (nth c a.1) i) ∧ RepsOf n lv c rs (bfS nx (nth c a.1) i)) N (by
    rintro i s hi ⟨rs, rfl, hR⟩
    have hlt := hN.2 i hi
    have hG := H.at hlt
    have hle := H.le i
    have hle' := H.le (i + 1)
    obtain ⟨rs', e, hR'⟩ := s_numb_in (acs := ((bfS nx (nth c a.1) i).take i).map acc) (rws := bfR nx (nth c a.1) i) V hn hc hlv hlt hR (os := nx (nth (bfS nx (nth c a.1) i) (i : Int))) (H.len _ hG) (fun r hr e => by rw [← hnx r hr, e]) (fun k => by
        have : (nbS (bfS nx (nth c a.1) i) ((nx (nth (bfS nx (nth c a.1) i) (i : Int))).take k)).length ≤ B := H.bound _ (nbS_nodup (bfS_nodup i)) fun x hx => by
          rcases mem_nbS.1 hx with hx | hx
          · exact bfS_good H.g0 H.gn i x hx
          · exact H.gn _ hG x (List.mem_of_mem_take hx)
        omega)
    unfold m_s_l11Number_l0
    simp only
    rw [if_pos (by simp; omega), bindL_brk e]
    rw [← bfS_succ' hlt] at hR'
    have hl2 := (bfS_step_prefix (nx := nx) (first := nth c a.1) i).length_le
    have hr1 := hR'.1
    obtain ⟨⟨g0, g1, g2⟩, gc⟩ := hR'.2 i (by omega)
    rw [prefix_nth (bfS_step_prefix i) (by omega) (by omega)] at gc
    rw [getI_nth (xs := rs') (by omega) (by omega)]; simp only [Option.bind_some]
    rw [V.acc g0 g1, ← hacc _ ⟨g0, g1, g2⟩, gc]; simp only [Option.bind_some]
    have hr : (bfR nx (nth c a.1) i).length = i := bfR_length fun j hj => hN.2 j (by omega)
    rw [appI_ok (by simp; omega)]; simp only [Option.bind_some]
    rw [appI_ok (by simp; omega)]; simp only [Option.bind_some, wrap_succ (show i < 9223372036854775807 by omega)]
    exact ⟨_, rfl, rs', by rw [← bfS_succ' hlt, acc_succ hlt, bfR_succ' hlt], hR'⟩) (by
    rintro s ⟨rs, rfl, hR⟩
    unfold m_s_l11Number_l0
    simp only
    rw [if_neg (by have := hN.1; simp; omega)]) (s := ([nth c a.1], [a.1], 0, 0, [], [])) ⟨[a.1], rfl, rfl, fun j hj => by
      obtain rfl : j = 0 := by simpa [bfS] using hj
      exact ⟨⟨hst.1, hst.2, hs⟩, rfl⟩⟩ (up63 (by omega))
  rw [bindL_brk e]
  simp only
  rw [List.take_of_length_le (by have := hN.1; omega)]
theorem s_numb_dead (V : VA a n) (hlv : lv.length = n) (hs : nth lv a.1 = false) : m_s_l11Number a c lv = some nothing := by
  have hst := V.start
  unfold m_s_l11Number
  rw [getI_nth hst.1 (by omega)]; simp only [Option.bind_some]
  rw [hs, s_nothing]; rfl
end
end Go.Proofs.YtimjccbdngajoaaGreat.D
