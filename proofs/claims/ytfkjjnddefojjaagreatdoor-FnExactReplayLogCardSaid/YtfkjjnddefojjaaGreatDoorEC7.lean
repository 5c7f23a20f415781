/- FnExactReplayLog: for every input the law returns true and changes nothing that was there. Part 8 of 9. -/
import Derived.Test.YtfkjjnddefojjaaGreatDoorEC6
set_option linter.unusedVariables false
set_option linter.unusedSimpArgs false
set_option linter.unnecessarySimpa false
set_option linter.unusedSectionVars false
/- Printed by lp.py: what is known of the types and of the functions. -/
set_option linter.unusedVariables false
set_option maxRecDepth 1000000
namespace Go.Proofs.YtfkjjnddefojjaaGreatDoor.R
open Go.RowKit
open Go.Proofs.YtfkjjnddefojjaaGreatDoor.D
abbrev y3 : Ty := .int .i64
abbrev y102 : Ty := .prod y3 (.prod y3 (.prod y3 y3))
abbrev y5 : Ty := .int .u8
abbrev y108 : Ty := .sl 5 y5
abbrev y38 : Ty := .sl 3 y3
abbrev y55 : Ty := .sl 102 y102
abbrev y57 : Ty := .prod y38 y55
abbrev y22 : Ty := .sl 57 y57
abbrev y24 : Ty := .prod y3 y22
abbrev y77 : Ty := .prod y3 (.prod y3 (.prod y3 y3))
abbrev y58 : Ty := .sl 77 y77
abbrev y60 : Ty := .prod y38 y58
abbrev y26 : Ty := .sl 60 y60
abbrev y28 : Ty := .prod y3 y26
abbrev y4 : Ty := .bool
abbrev y90 : Ty := .prod y4 y77
abbrev y45 : Ty := .sl 90 y90
abbrev y47 : Ty := .wr y45
abbrev y39 : Ty := .sl 47 y47
abbrev y9 : Ty := .str
abbrev y78 : Ty := .sl 9 y9
theorem ti3 : TI Tryz.prog 3 false 1 := ⟨⟨_, Tryz.underlying3, rfl⟩, by kernel_rfl⟩
theorem eqt77 (a0 : Int) (a1 : Int) (a2 : Int) (a3 : Int) (b0 : Int) (b1 : Int) (b2 : Int) (b3 : Int) (w : World) : EqT Tryz.prog 77 (.agg #[.int .i64 a0, .int .i64 a1, .int .i64 a2, .int .i64 a3]) (.agg #[.int .i64 b0, .int .i64 b1, .int .i64 b2, .int .i64 b3]) ((a0 == b0) && ((a1 == b1) && ((a2 == b2) && ((a3 == b3) && true)))) w := eqT_of w Tryz.underlying77 (by kernel_rfl) (by kernel_rfl) (eqF_cons rfl (part_1 ti3 rfl) (part_1 ti3 rfl) (run_equalIn_int w 9998 3 _ _ _ _ Tryz.underlying3) (eqF_cons rfl (part_1 ti3 rfl) (part_1 ti3 rfl) (run_equalIn_int w 9998 3 _ _ _ _ Tryz.underlying3) (eqF_cons rfl (part_1 ti3 rfl) (part_1 ti3 rfl) (run_equalIn_int w 9998 3 _ _ _ _ Tryz.underlying3) (eqF_cons rfl (part_1 ti3 rfl) (part_1 ti3 rfl) (run_equalIn_int w 9998 3 _ _ _ _ Tryz.underlying3) (eqF_nil w)))))
def tt : TT := [(3, ⟨false, 1, none, y3, [], some 8, none, false, none, none, some (some .i64), false, none⟩),
  (4, ⟨false, 1, none, y4, [], some 1, none, true, none, none, none, false, none⟩),
  (5, ⟨false, 1, none, y5, [], some 1, none, false, none, none, some (some .u8), false, none⟩),
  (9, ⟨false, 1, none, y9, [], some 16, none, false, none, none, some none, false, none⟩),
  (22, ⟨false, 1, some 57, y22, [], some 24, none, false, none, none, none, false, none⟩),
  (24, ⟨true, 2, none, y24, [(0, 0), (1, 0)], some 32, some [(0, 1), (1, 1)], false, none, none, none, false, none⟩),
  (26, ⟨false, 1, some 60, y26, [], some 24, none, false, none, none, none, false, none⟩),
  (28, ⟨true, 2, none, y28, [(0, 0), (1, 0)], some 32, some [(0, 1), (1, 1)], false, none, none, none, false, none⟩),
  (38, ⟨false, 1, some 3, y38, [], some 24, none, false, none, none, none, false, none⟩),
  (39, ⟨false, 1, some 47, y39, [], some 24, none, false, none, none, none, false, none⟩),
  (45, ⟨false, 1, some 90, y45, [], some 24, none, false, none, none, none, false, none⟩),
  (47, ⟨true, 1, none, y47, [(0, 0)], some 24, some [(0, 1)], false, none, none, none, false, none⟩),
  (50, ⟨false, 1, none, .bool, [], none, none, false, none, none, none, true, none⟩),
  (51, ⟨false, 1, none, .bool, [], none, none, false, none, none, none, true, none⟩),
  (55, ⟨false, 1, some 102, y55, [], some 24, none, false, none, none, none, false, none⟩),
  (57, ⟨true, 2, none, y57, [(0, 0), (1, 0)], some 48, some [(0, 1), (1, 1)], false, none, none, none, false, none⟩),
  (58, ⟨false, 1, some 77, y58, [], some 24, none, false, none, none, none, false, none⟩),
  (60, ⟨true, 2, none, y60, [(0, 0), (1, 0)], some 48, some [(0, 1), (1, 1)], false, none, none, none, false, none⟩),
  (77, ⟨true, 4, none, y77, [(0, 0), (1, 0), (2, 0), (3, 0)], some 32, some [(0, 1), (1, 1), (2, 1), (3, 1)], false, some [some .i64, some .i64, some .i64, some .i64], none, none, false, none⟩),
  (78, ⟨false, 1, some 9, y78, [], some 24, none, false, none, none, none, false, none⟩),
  (90, ⟨true, 5, none, y90, [(0, 0), (1, 3)], some 40, some [(0, 1), (1, 4)], false, none, none, none, false, none⟩),
  (102, ⟨true, 4, none, y102, [(0, 0), (1, 0), (2, 0), (3, 0)], some 32, some [(0, 1), (1, 1), (2, 1), (3, 1)], false, none, none, none, false, none⟩),
  (108, ⟨false, 1, some 5, y108, [], some 24, none, false, none, none, none, false, none⟩),
  (116, ⟨false, 1, none, .bool, [], none, none, false, none, none, none, true, none⟩)]
theorem tt_ok : TTok Tryz.prog tt := ⟨td_flat (n := 1) (z := .int .i64 0) ⟨⟨_, Tryz.underlying3, rfl⟩, by kernel_rfl⟩ rfl (by unfold TZ; kernel_rfl) rfl (Nat.le_of_ble_eq_true rfl) (fun h => by cases h) (fun k h => by obtain rfl := Option.some.inj h; exact Tryz.underlying3),
  td_flat (n := 1) (z := .bool false) ⟨⟨_, Tryz.underlying4, rfl⟩, by kernel_rfl⟩ rfl (by unfold TZ; kernel_rfl) rfl (Nat.le_of_ble_eq_true rfl) (fun h => Tryz.underlying4) (fun k h => by cases h),
  td_flat (n := 1) (z := .int .u8 0) ⟨⟨_, Tryz.underlying5, rfl⟩, by kernel_rfl⟩ rfl (by unfold TZ; kernel_rfl) rfl (Nat.le_of_ble_eq_true rfl) (fun h => by cases h) (fun k h => by obtain rfl := Option.some.inj h; exact Tryz.underlying5),
  td_flat (n := 1) (z := .string ⟨#[]⟩) ⟨⟨_, Tryz.underlying9, rfl⟩, by kernel_rfl⟩ rfl (by unfold TZ; kernel_rfl) rfl (Nat.le_of_ble_eq_true rfl) (fun h => by cases h) (fun k h => by obtain rfl := Option.some.inj h; exact Tryz.underlying9),
  td_sl ⟨⟨_, Tryz.underlying22, rfl⟩, by kernel_rfl⟩ Tryz.underlying22 (by unfold TZ; kernel_rfl),
  td_st (z := .agg #[.int .i64 0, .slice none 0 0]) ⟨⟨_, Tryz.underlying24, rfl⟩, by kernel_rfl⟩ rfl ⟨⟨_, _, Tryz.underlying24, rfl, rfl, by kernel_rfl⟩, ⟨_, _, Tryz.underlying24, rfl, rfl, by kernel_rfl⟩, trivial⟩ (by unfold TZ; kernel_rfl) rfl (Nat.le_of_ble_eq_true rfl) ⟨_, Tryz.underlying24, by kernel_rfl⟩ (fun ks h => by cases h),
  td_sl ⟨⟨_, Tryz.underlying26, rfl⟩, by kernel_rfl⟩ Tryz.underlying26 (by unfold TZ; kernel_rfl),
  td_st (z := .agg #[.int .i64 0, .slice none 0 0]) ⟨⟨_, Tryz.underlying28, rfl⟩, by kernel_rfl⟩ rfl ⟨⟨_, _, Tryz.underlying28, rfl, rfl, by kernel_rfl⟩, ⟨_, _, Tryz.underlying28, rfl, rfl, by kernel_rfl⟩, trivial⟩ (by unfold TZ; kernel_rfl) rfl (Nat.le_of_ble_eq_true rfl) ⟨_, Tryz.underlying28, by kernel_rfl⟩ (fun ks h => by cases h),
  td_sl ⟨⟨_, Tryz.underlying38, rfl⟩, by kernel_rfl⟩ Tryz.underlying38 (by unfold TZ; kernel_rfl),
  td_sl ⟨⟨_, Tryz.underlying39, rfl⟩, by kernel_rfl⟩ Tryz.underlying39 (by unfold TZ; kernel_rfl),
  td_sl ⟨⟨_, Tryz.underlying45, rfl⟩, by kernel_rfl⟩ Tryz.underlying45 (by unfold TZ; kernel_rfl),
  td_st (z := .agg #[.slice none 0 0]) ⟨⟨_, Tryz.underlying47, rfl⟩, by kernel_rfl⟩ rfl ⟨⟨_, _, Tryz.underlying47, rfl, rfl, by kernel_rfl⟩, trivial⟩ (by unfold TZ; kernel_rfl) rfl (Nat.le_of_ble_eq_true rfl) ⟨_, Tryz.underlying47, by kernel_rfl⟩ (fun ks h => by cases h),
  td_fn (ty := .bool) (b := 8) ⟨⟨_, Tryz.underlying50, rfl⟩, by kernel_rfl⟩ rfl (by unfold TZ; kernel_rfl),
  td_fn (ty := .bool) (b := 8) ⟨⟨_, Tryz.underlying51, rfl⟩, by kernel_rfl⟩ rfl (by unfold TZ; kernel_rfl),
  td_sl ⟨⟨_, Tryz.underlying55, rfl⟩, by kernel_rfl⟩ Tryz.underlying55 (by unfold TZ; kernel_rfl),
  td_st (z := .agg #[.slice none 0 0, .slice none 0 0]) ⟨⟨_, Tryz.underlying57, rfl⟩, by kernel_rfl⟩ rfl ⟨⟨_, _, Tryz.underlying57, rfl, rfl, by kernel_rfl⟩, ⟨_, _, Tryz.underlying57, rfl, rfl, by kernel_rfl⟩, trivial⟩ (by unfold TZ; kernel_rfl) rfl (Nat.le_of_ble_eq_true rfl) ⟨_, Tryz.underlying57, by kernel_rfl⟩ (fun ks h => by cases h),
  td_sl ⟨⟨_, Tryz.underlying58, rfl⟩, by kernel_rfl⟩ Tryz.underlying58 (by unfold TZ; kernel_rfl),
  td_st (z := .agg #[.slice none 0 0, .slice none 0 0]) ⟨⟨_, Tryz.underlying60, rfl⟩, by kernel_rfl⟩ rfl ⟨⟨_, _, Tryz.underlying60, rfl, rfl, by kernel_rfl⟩, ⟨_, _, Tryz.underlying60, rfl, rfl, by kernel_rfl⟩, trivial⟩ (by unfold TZ; kernel_rfl) rfl (Nat.le_of_ble_eq_true rfl) ⟨_, Tryz.underlying60, by kernel_rfl⟩ (fun ks h => by cases h),
  td_st (z := .agg #[.int .i64 0, .int .i64 0, .int .i64 0, .int .i64 0]) ⟨⟨_, Tryz.underlying77, rfl⟩, by kernel_rfl⟩ rfl ⟨⟨_, _, Tryz.underlying77, rfl, rfl, by kernel_rfl⟩, ⟨_, _, Tryz.underlying77, rfl, rfl, by kernel_rfl⟩, ⟨_, _, Tryz.underlying77, rfl, rfl, by kernel_rfl⟩, ⟨_, _, Tryz.underlying77, rfl, rfl, by kernel_rfl⟩, trivial⟩ (by unfold TZ; kernel_rfl) rfl (Nat.le_of_ble_eq_true rfl) ⟨_, Tryz.underlying77, by kernel_rfl⟩ (fun ks h => by obtain rfl := Option.some.inj h; exact fun w a0 b0 a1 b1 a2 b2 a3 b3 => eqt77 a0 a1 a2 a3 b0 b1 b2 b3 w),
  td_sl ⟨⟨_, Tryz.underlying78, rfl⟩, by kernel_rfl⟩ Tryz.underlying78 (by unfold TZ; kernel_rfl),
  td_st (z := .agg #[.bool false, .int .i64 0, .int .i64 0, .int .i64 0, .int .i64 0]) ⟨⟨_, Tryz.underlying90, rfl⟩, by kernel_rfl⟩ rfl ⟨⟨_, _, Tryz.underlying90, rfl, rfl, by kernel_rfl⟩, ⟨_, _, Tryz.underlying90, rfl, rfl, by kernel_rfl⟩, trivial⟩ (by unfold TZ; kernel_rfl) rfl (Nat.le_of_ble_eq_true rfl) ⟨_, Tryz.underlying90, by kernel_rfl⟩ (fun ks h => by cases h),
  td_st (z := .agg #[.int .i64 0, .int .i64 0, .int .i64 0, .int .i64 0]) ⟨⟨_, Tryz.underlying102, rfl⟩, by kernel_rfl⟩ rfl ⟨⟨_, _, Tryz.underlying102, rfl, rfl, by kernel_rfl⟩, ⟨_, _, Tryz.underlying102, rfl, rfl, by kernel_rfl⟩, ⟨_, _, Tryz.underlying102, rfl, rfl, by kernel_rfl⟩, ⟨_, _, Tryz.underlying102, rfl, rfl, by kernel_rfl⟩, trivial⟩ (by unfold TZ; kernel_rfl) rfl (Nat.le_of_ble_eq_true rfl) ⟨_, Tryz.underlying102, by kernel_rfl⟩ (fun ks h => by cases h),
  td_sl ⟨⟨_, Tryz.underlying108, rfl⟩, by kernel_rfl⟩ Tryz.underlying108 (by unfold TZ; kernel_rfl),
  td_fn (ty := .bool) (b := 8) ⟨⟨_, Tryz.underlying116, rfl⟩, by kernel_rfl⟩ rfl (by unfold TZ; kernel_rfl), trivial⟩
theorem mixed : Tryz.prog.follows .mixedOrders = true := by kernel_rfl
def bodyOf (fn : Func) : Code := match fn.body with
  | some c => c
  | none => .skip
theorem fk {k : FuncId} {fn : Func} {f : FS} (ft : FT) (hF : FTok Tryz.prog ft) (hf : Tryz.prog.funcs[k]? = some fn) (ann : Ann) (an : List (Nat × Ty) := []) (tr : Trs := []) (hb : fn.body = some (bodyOf fn) := by rfl) (he : (fn.name == "runtime.NumGoroutine") = false := by kernel_rfl) (hcl : f.cl = none := by rfl) (hm : Nat.ble f.ps.length fn.ntmps = true := by rfl) (hdp : (backR f.rs && outDp f.ps) = true := by rfl)
    (hmod : ∀ d, appP f.ps f.m d = interp ⟨tt, ft, an, fn.ntmps, tr⟩ (rtOf ⟨tt, ft, an, fn.ntmps, tr⟩ fn.results.toList f.rs f.ps d) (bodyOf fn) ann (fun r => some r) (fun _ _ => none) (rtOf ⟨tt, ft, an, fn.ntmps, tr⟩ fn.results.toList f.rs f.ps d) (openA (startS f.ps d)) := by intro d; kernel_rfl) : FOk Tryz.prog k f :=
  fok (V := ⟨tt, ft, an, fn.ntmps, tr⟩) tt_ok hF mixed hf hb rfl (enters_of hf he hb) hcl (Nat.le_of_ble_eq_true hm) hdp ann hmod
def F_w_szIntS : FS := ⟨[.rd y38, .rd y3], [y3], m_w_szIntS, none⟩
def F_w_szEdgeS : FS := ⟨[.rd y55, .rd y3], [y3], m_w_szEdgeS, none⟩
def F_w_szGraph : FS := ⟨[.rd y57, .rd y3], [y3], m_w_szGraph, none⟩
def F_w_szGraphS : FS := ⟨[.rd y22, .rd y3], [y3], m_w_szGraphS, none⟩
def F_w_szHistory : FS := ⟨[.rd y24, .rd y3], [y3], m_w_szHistory, none⟩
def F_s_l3Copy : FS := ⟨[.rd y60], [y60], m_s_l3Copy, none⟩
def F_s_l7Copy : FS := ⟨[.rd y28], [y28], m_s_l7Copy, none⟩
def F_s_l1In : FS := ⟨[.rd y3, .rd y3, .rd y3], [y4], m_s_l1In, none⟩
def F_s_l3Edge : FS := ⟨[.rd y60, .rd y77], [y4], m_s_l3Edge, none⟩
def F_s_IsValidGraph : FS := ⟨[.rd y60], [y4], m_s_IsValidGraph, none⟩
def F_s_l2Cmp : FS := ⟨[.rd y38, .rd y38], [y3], m_s_l2Cmp, none⟩
def F_s_IsValidHistory : FS := ⟨[.rd y28], [y4], m_s_IsValidHistory, none⟩
def F_s_l2Cut : FS := ⟨[.rd y9, .rd y5], [y78], m_s_l2Cut, none⟩
def F_s_FormatInt : FS := ⟨[.rd y3], [y9], m_s_FormatInt, none⟩
def F_s_ParseInt : FS := ⟨[.rd y9], [y3, y4], m_s_ParseInt, none⟩
def F_s_l2Letter : FS := ⟨[.rd y3], [y4], m_s_l2Letter, none⟩
def F_s_FormatLetter : FS := ⟨[.rd y3], [y9], m_s_FormatLetter, none⟩
def F_s_ParseLetter : FS := ⟨[.rd y9], [y3, y4], m_s_ParseLetter, none⟩
def F_s_FormatEdge : FS := ⟨[.rd y77], [y9], m_s_FormatEdge, none⟩
def F_s_ParseEdge : FS := ⟨[.rd y9], [y77, y4], m_s_ParseEdge, none⟩
def F_s_FormatBatch : FS := ⟨[.rd y47], [y9], m_s_FormatBatch, none⟩
def F_s_ParseBatch : FS := ⟨[.rd y9], [y47, y4], m_s_ParseBatch, none⟩
def F_s_Checksum : FS := ⟨[.rd y9], [y3], m_s_Checksum, none⟩
def F_s_EncodeRecord : FS := ⟨[.rd y3, .rd y47], [y9], m_s_EncodeRecord, none⟩
def F_s_DecodeRecord : FS := ⟨[.rd y9], [y3, y47, y4], m_s_DecodeRecord, none⟩
def F_s_ScanLog : FS := ⟨[.rd y9], [y38, .sl 47 (.bag y47), y3], m_s_ScanLog, none⟩
def F_s_LatestVersion : FS := ⟨[.rd y28], [y3], m_s_LatestVersion, none⟩
def F_s_EdgeIndex : FS := ⟨[.rd y60, .rd y3], [y3], m_s_EdgeIndex, none⟩
def F_s_InsertEdge : FS := ⟨[.rd y60, .rd y77], [y60, y4], m_s_InsertEdge, none⟩
def F_s_DeleteEdge : FS := ⟨[.rd y60, .rd y3], [y60, y4], m_s_DeleteEdge, none⟩
def F_s_l6Apply : FS := ⟨[.rd y60, .rd y47], [y60, y4], m_s_l6Apply, none⟩
def F_s_ApplyBatch : FS := ⟨[.rd y60, .rd y47], [y60, y4], m_s_ApplyBatch, none⟩
def F_s_AppendBatch : FS := ⟨[.rd y28, .rd y47], [y28, y4], m_s_AppendBatch, none⟩
def F_s_ReplayLog : FS := ⟨[.rd y28, .rd y9], [y28, y3], m_s_ReplayLog, none⟩
def F_w_toIntS : FS := ⟨[.rd y38], [y38], m_w_toIntS, none⟩
def F_w_toEdge : FS := ⟨[.rd y102], [y77], m_w_toEdge, none⟩
def F_w_toEdgeS : FS := ⟨[.rd y55], [y58], m_w_toEdgeS, none⟩
def F_w_toGraph : FS := ⟨[.rd y57], [y60], m_w_toGraph, none⟩
def F_w_toGraphS : FS := ⟨[.rd y22], [y26], m_w_toGraphS, none⟩
def F_w_toHistory : FS := ⟨[.rd y24], [y28], m_w_toHistory, none⟩
def F_i_copyInts : FS := ⟨[.rd y38], [y38], m_i_copyInts, none⟩
def F_i_copyGraph : FS := ⟨[.rd y60], [y60], m_i_copyGraph, none⟩
def F_i_copyHistory : FS := ⟨[.rd y28], [y28], m_i_copyHistory, none⟩
def F_i_within : FS := ⟨[.rd y3, .rd y3, .rd y3], [y4], m_i_within, none⟩
def F_i_edgeOk : FS := ⟨[.rd y77, .rd y3], [y4], m_i_edgeOk, none⟩
def F_i_IsValidGraph : FS := ⟨[.rd y60], [y4], m_i_IsValidGraph, none⟩
def F_g_slices_Equal_S_int_int : FS := ⟨[.rd y38, .rd y38], [y4], m_g_slices_Equal_S_int_int, none⟩
def F_i_IsValidHistory : FS := ⟨[.rd y28], [y4], m_i_IsValidHistory, none⟩
def F_i_LatestVersion : FS := ⟨[.rd y28], [y3], m_i_LatestVersion, none⟩
def F_i_ReplayLog_1 : FS := ⟨[.ptr 28 y28], [y3], m_i_ReplayLog_1, none⟩
def F_g_slices_IndexFunc_S_Edge_Edge : FS := ⟨[.rd y58, .fn [y77] [y4]], [y3], m_g_slices_IndexFunc_S_Edge_Edge, none⟩
def F_i_EdgeIndex_1 : FS := ⟨[.rd y77, .cap 3 y3], [y4], m_i_EdgeIndex_1, none⟩
def F_i_EdgeIndex : FS := ⟨[.rd y60, .rd y3], [y3], m_i_EdgeIndex, none⟩
def F_g_slices_Insert_S_Edge_Edge : FS := ⟨[.eat (.sl 77 y77), .rd y3, .ow (.sl 77 y77)], [.sl 77 y77], m_g_slices_Insert_S_Edge_Edge, none⟩
def F_i_InsertEdge : FS := ⟨[.rd y60, .rd y77], [y60, y4], m_i_InsertEdge, none⟩
def F_g_slices_Index_S_Edge_Edge : FS := ⟨[.rd y58, .rd y77], [y3], m_g_slices_Index_S_Edge_Edge, none⟩
def F_g_slices_Contains_S_Edge_Edge : FS := ⟨[.rd y58, .rd y77], [y4], m_g_slices_Contains_S_Edge_Edge, none⟩
def F_g_slices_Delete_S_Edge_Edge : FS := ⟨[.eat (.sl 77 y77), .rd y3, .rd y3], [.sl 77 y77], m_g_slices_Delete_S_Edge_Edge, none⟩
def F_i_DeleteEdge : FS := ⟨[.rd y60, .rd y3], [y60, y4], m_i_DeleteEdge, none⟩
def F_i_ApplyBatch : FS := ⟨[.rd y60, .rd y47], [y60, y4], m_i_ApplyBatch, none⟩
def F_i_AppendBatch : FS := ⟨[.rd y28, .rd y47], [y28, y4], m_i_AppendBatch, none⟩
def F_i_ReplayLog_2 : FS := ⟨[.rd y47, .ptr 28 y28], [y4], m_i_ReplayLog_2, none⟩
def F_g_strings_IndexByte : FS := ⟨[.rd y9, .rd y5], [.int .i64], m_g_strings_IndexByte, none⟩
def F_g_strings_Split : FS := ⟨[.rd y9, .rd y9], [.sl 9 .str], m_g_strings_Split, none⟩
def F_i_ParseInt : FS := ⟨[.rd y9], [.int .i64, .bool], m_i_ParseInt, none⟩
def F_g_strings_Cut : FS := ⟨[.rd y9, .rd y9], [.str, .str, .bool], m_g_strings_Cut, none⟩
def F_g_strconv_Itoa : FS := ⟨[.rd y3], [.str], m_g_strconv_Itoa, none⟩
def F_i_FormatInt : FS := ⟨[.rd y3], [y9], m_i_FormatInt, none⟩
def F_i_FormatEdge : FS := ⟨[.rd y77], [y9], m_i_FormatEdge, none⟩
def F_i_ParseEdge : FS := ⟨[.rd y9], [y77, y4], m_i_ParseEdge, none⟩
def F_g_strings_Join : FS := ⟨[.rd y78, .rd y9], [.str], m_g_strings_Join, none⟩
def F_i_FormatBatch : FS := ⟨[.rd y47], [y9], m_i_FormatBatch, none⟩
def F_i_ParseBatch : FS := ⟨[.rd y9], [y47, y4], m_i_ParseBatch, none⟩
def F_i_Checksum : FS := ⟨[.rd y9], [y3], m_i_Checksum, none⟩
def F_i_EncodeRecord : FS := ⟨[.rd y3, .rd y47], [y9], m_i_EncodeRecord, none⟩
def F_i_DecodeRecord : FS := ⟨[.rd y9], [y3, y47, y4], m_i_DecodeRecord, none⟩
def F_i_ScanLog : FS := ⟨[.rd y9], [y38, .sl 47 (.bag y47), y3], m_i_ScanLog, none⟩
def F_i_replay : FS := ⟨[.rd y9, .kb 21 28 y28, .kc 23], [y3], m_i_replay, none⟩
def F_i_ReplayLog : FS := ⟨[.rd y28, .rd y9], [y28, y3], m_i_ReplayLog, none⟩
def F_w_eqIntS : FS := ⟨[.rd y38, .rd y38], [y4], m_w_eqIntS, none⟩
def F_w_eqEdge : FS := ⟨[.rd y77, .rd y77], [y4], m_w_eqEdge, none⟩
def F_w_eqEdgeS : FS := ⟨[.rd y58, .rd y58], [y4], m_w_eqEdgeS, none⟩
def F_w_eqGraph : FS := ⟨[.rd y60, .rd y60], [y4], m_w_eqGraph, none⟩
def F_w_eqGraphS : FS := ⟨[.rd y26, .rd y26], [y4], m_w_eqGraphS, none⟩
def F_w_eqHistory : FS := ⟨[.rd y28, .rd y28], [y4], m_w_eqHistory, none⟩
def F_w_markIntS : FS := ⟨[.ow y38, .rd y3], [y3], m_w_markIntS, none⟩
def F_w_markEdgeS : FS := ⟨[.ow y58, .rd y3], [y3], m_w_markEdgeS, none⟩
def F_w_markGraphS : FS := ⟨[.ow y26, .rd y3], [y3], m_w_markGraphS, none⟩
def F_w_markHistory : FS := ⟨[.ow y28, .rd y3], [y3], m_w_markHistory, none⟩
def F_w_heldIntS : FS := ⟨[.rd y38, .rd y3], [y3], m_w_heldIntS, none⟩
def F_w_heldEdgeS : FS := ⟨[.rd y58, .rd y3], [y3], m_w_heldEdgeS, none⟩
def F_w_heldGraphS : FS := ⟨[.rd y26, .rd y3], [y3], m_w_heldGraphS, none⟩
def F_w_heldHistory : FS := ⟨[.rd y28, .rd y3], [y3], m_w_heldHistory, none⟩
def F_w_FnExactReplayLog : FS := ⟨[.rd y24, .rd y9], [y4], m_w_FnExactReplayLog, none⟩
end Go.Proofs.YtfkjjnddefojjaaGreatDoor.R
/- Printed by lp.py: each function computes what its model says; the code is run, and the two are compared. -/
set_option linter.unusedVariables false
set_option maxRecDepth 1000000
namespace Go.Proofs.YtfkjjnddefojjaaGreatDoor.R
open Go.RowKit
open Go.Proofs.YtfkjjnddefojjaaGreatDoor.D
theorem k_w_szIntS : FOk Tryz.prog 47 F_w_szIntS := fk [] trivial Tryz.func47 .no
theorem k_w_szEdgeS : FOk Tryz.prog 48 F_w_szEdgeS := fk [] trivial Tryz.func48 .no
theorem k_w_szGraph : FOk Tryz.prog 28 F_w_szGraph := fk [(47, F_w_szIntS), (48, F_w_szEdgeS)] ⟨k_w_szIntS, k_w_szEdgeS, trivial⟩ Tryz.func28 .no
theorem k_w_szGraphS : FOk Tryz.prog 11 F_w_szGraphS := fk [(28, F_w_szGraph)] ⟨k_w_szGraph, trivial⟩ Tryz.func11 (.two .no (.two .no (.two .no (.two (.two .no (.loop [.slot 1 (.num .i64), .slot 5 (.num .i64)] .no)) .no))))
theorem k_w_szHistory : FOk Tryz.prog 4 F_w_szHistory := fk [(11, F_w_szGraphS)] ⟨k_w_szGraphS, trivial⟩ Tryz.func4 .no
theorem k_s_l3Copy : FOk Tryz.prog 29 F_s_l3Copy := fk [] trivial Tryz.func29 .no
theorem k_s_l7Copy : FOk Tryz.prog 12 F_s_l7Copy := fk [(29, F_s_l3Copy)] ⟨k_s_l3Copy, trivial⟩ Tryz.func12 (.two .no (.two .no (.two (.two .no (.loop [.slot 4 (.num .i64), .box 3 [(.num .i64), (.own 60 y60)]] .no)) .no)))
theorem k_s_l1In : FOk Tryz.prog 32 F_s_l1In := fk [] trivial Tryz.func32 .no
theorem k_s_l3Edge : FOk Tryz.prog 49 F_s_l3Edge := fk [(32, F_s_l1In)] ⟨k_s_l1In, trivial⟩ Tryz.func49 .no
theorem k_s_IsValidGraph : FOk Tryz.prog 30 F_s_IsValidGraph := fk [(32, F_s_l1In), (49, F_s_l3Edge)] ⟨k_s_l1In, k_s_l3Edge, trivial⟩ Tryz.func30 (.two .no (.two (.two .no (.loop [.slot 3 (.num .i64)] .no)) (.two (.two .no (.loop [.slot 4 (.num .i64)] .no)) .no)))
theorem k_s_l2Cmp : FOk Tryz.prog 31 F_s_l2Cmp := fk [] trivial Tryz.func31 (.two .no (.two (.two .no (.loop [.slot 5 (.num .i64)] .no)) .no))
theorem k_s_IsValidHistory : FOk Tryz.prog 13 F_s_IsValidHistory := fk [(30, F_s_IsValidGraph), (31, F_s_l2Cmp), (32, F_s_l1In)] ⟨k_s_IsValidGraph, k_s_l2Cmp, k_s_l1In, trivial⟩ Tryz.func13 (.two .no (.two (.two .no (.loop [.slot 3 (.num .i64)] .no)) .no))
theorem k_s_l2Cut : FOk Tryz.prog 50 F_s_l2Cut := fk [] trivial Tryz.func50 (.two .no (.two .no (.two .no (.two (.two .no (.loop [.slot 5 (.own 9 y9), .slot 6 (.num .i64), .slot 7 (.num .i64)] (.two .no (.two (.at [.slot 5 (.own 9 y9), .slot 6 (.num .i64)] .no) .no)))) .no))))
theorem k_s_FormatInt : FOk Tryz.prog 66 F_s_FormatInt := fk [] trivial Tryz.func66 (.two .no (.two .no (.two .no (.two .no (.two (.loop [.slot 0 (.num .i64), .slot 3 .str] (.two .no (.two .no (.two (.two .no (.at [.slot 5 (.num .i64)] .no)) .no)))) .no)))))
theorem k_s_ParseInt : FOk Tryz.prog 51 F_s_ParseInt := fk [(66, F_s_FormatInt)] ⟨k_s_FormatInt, trivial⟩ Tryz.func51 (.two .no (.two .no (.two .no (.two (.two .no (.loop [.slot 4 (.num .i64), .slot 5 (.num .i64), .slot 6 (.num .i64)] (.two .no (.two (.at [.slot 4 (.num .i64), .slot 5 (.num .i64)] .no) .no)))) (.two (.two .no (.at [.slot 4 (.num .i64)] .no)) .no)))))
theorem k_s_l2Letter : FOk Tryz.prog 109 F_s_l2Letter := fk [(32, F_s_l1In)] ⟨k_s_l1In, trivial⟩ Tryz.func109 .no
theorem k_s_FormatLetter : FOk Tryz.prog 98 F_s_FormatLetter := fk [(109, F_s_l2Letter)] ⟨k_s_l2Letter, trivial⟩ Tryz.func98 .no
end Go.Proofs.YtfkjjnddefojjaaGreatDoor.R
/- Printed by lp.py: each function computes what its model says; the code is run, and the two are compared. -/
set_option linter.unusedVariables false
set_option maxRecDepth 1000000
namespace Go.Proofs.YtfkjjnddefojjaaGreatDoor.R
open Go.RowKit
open Go.Proofs.YtfkjjnddefojjaaGreatDoor.D
theorem k_s_ParseLetter : FOk Tryz.prog 84 F_s_ParseLetter := fk [(98, F_s_FormatLetter)] ⟨k_s_FormatLetter, trivial⟩ Tryz.func84 (.two .no (.two (.two .no (.loop [.slot 4 (.num .i64)] .no)) .no))
theorem k_s_FormatEdge : FOk Tryz.prog 85 F_s_FormatEdge := fk [(32, F_s_l1In), (66, F_s_FormatInt), (98, F_s_FormatLetter)] ⟨k_s_l1In, k_s_FormatInt, k_s_FormatLetter, trivial⟩ Tryz.func85 .no
theorem k_s_ParseEdge : FOk Tryz.prog 67 F_s_ParseEdge := fk [(50, F_s_l2Cut), (51, F_s_ParseInt), (84, F_s_ParseLetter), (85, F_s_FormatEdge)] ⟨k_s_l2Cut, k_s_ParseInt, k_s_ParseLetter, k_s_FormatEdge, trivial⟩ Tryz.func67 .no
theorem k_s_FormatBatch : FOk Tryz.prog 68 F_s_FormatBatch := fk [(85, F_s_FormatEdge)] ⟨k_s_FormatEdge, trivial⟩ Tryz.func68 (.two .no (.two .no (.two .no (.two (.two .no (.loop [.slot 3 .str, .slot 4 (.num .i64)] (.two .no (.two (.atX [.slot 3 .str] (.two .no (.two .no (.two (.two .no (.at [.slot 3 .str] .no)) .no)))) .no)))) .no))))
theorem k_s_ParseBatch : FOk Tryz.prog 52 F_s_ParseBatch := fk [(50, F_s_l2Cut), (67, F_s_ParseEdge), (68, F_s_FormatBatch)] ⟨k_s_l2Cut, k_s_ParseEdge, k_s_FormatBatch, trivial⟩ Tryz.func52 (.two .no (.two .no (.two .no (.two .no (.two (.two .no (.loop [.slot 6 (.num .i64), .box 4 [(.own 90 (.prod y4 y77))]] .no)) .no)))))
theorem k_s_Checksum : FOk Tryz.prog 69 F_s_Checksum := fk [] trivial Tryz.func69 (.two .no (.two .no (.two (.two .no (.loop [.slot 3 (.num .i64), .slot 4 (.num .i64)] .no)) .no)))
theorem k_s_EncodeRecord : FOk Tryz.prog 53 F_s_EncodeRecord := fk [(32, F_s_l1In), (66, F_s_FormatInt), (68, F_s_FormatBatch), (69, F_s_Checksum)] ⟨k_s_l1In, k_s_FormatInt, k_s_FormatBatch, k_s_Checksum, trivial⟩ Tryz.func53 .no
theorem k_s_DecodeRecord : FOk Tryz.prog 33 F_s_DecodeRecord := fk [(50, F_s_l2Cut), (51, F_s_ParseInt), (52, F_s_ParseBatch), (53, F_s_EncodeRecord)] ⟨k_s_l2Cut, k_s_ParseInt, k_s_ParseBatch, k_s_EncodeRecord, trivial⟩ Tryz.func33 .no
theorem k_s_ScanLog : FOk Tryz.prog 14 F_s_ScanLog := fok_bag3 (ps := [.rd y9]) (A := y38) (E := 47) (t := y47) (B := y3) (m := m_s_ScanLog) (fk [(33, F_s_DecodeRecord)] ⟨k_s_DecodeRecord, trivial⟩ Tryz.func14 (.two .no (.two .no (.two .no (.two .no (.two (.two .no (.loop [.slot 5 (.own 3 y3), .slot 6 (.own 47 y47), .slot 7 (.num .i64), .slot 8 (.num .i64)] (.two .no (.two (.atX [.slot 5 (.own 3 y3), .slot 6 (.own 47 y47), .slot 7 (.num .i64)] .no) .no)))) .no))))))
theorem k_s_LatestVersion : FOk Tryz.prog 15 F_s_LatestVersion := fk [(13, F_s_IsValidHistory)] ⟨k_s_IsValidHistory, trivial⟩ Tryz.func15 .no
theorem k_s_EdgeIndex : FOk Tryz.prog 71 F_s_EdgeIndex := fk [] trivial Tryz.func71 (.two .no (.two (.two .no (.loop [.slot 5 (.num .i64)] .no)) .no))
theorem k_s_InsertEdge : FOk Tryz.prog 70 F_s_InsertEdge := fk [(29, F_s_l3Copy), (30, F_s_IsValidGraph), (49, F_s_l3Edge), (71, F_s_EdgeIndex)] ⟨k_s_l3Copy, k_s_IsValidGraph, k_s_l3Edge, k_s_EdgeIndex, trivial⟩ Tryz.func70 (.two .no (.two .no (.two .no (.two (.loop [.slot 6 (.num .i64)] .no) .no))))
theorem k_s_DeleteEdge : FOk Tryz.prog 72 F_s_DeleteEdge := fk [(29, F_s_l3Copy), (30, F_s_IsValidGraph), (71, F_s_EdgeIndex)] ⟨k_s_l3Copy, k_s_IsValidGraph, k_s_EdgeIndex, trivial⟩ Tryz.func72 .no
theorem k_s_l6Apply : FOk Tryz.prog 54 F_s_l6Apply := fk [(29, F_s_l3Copy), (70, F_s_InsertEdge), (71, F_s_EdgeIndex), (72, F_s_DeleteEdge)] ⟨k_s_l3Copy, k_s_InsertEdge, k_s_EdgeIndex, k_s_DeleteEdge, trivial⟩ Tryz.func54 (.two .no (.two .no (.two (.two .no (.loop [.slot 7 (.num .i64), .box 6 [(.own 3 y3), (.own 77 y77)]] (.two .no (.joinX [.box 6 [(.own 3 y3), (.own 77 y77)]] .no .no)))) .no)))
theorem k_s_ApplyBatch : FOk Tryz.prog 34 F_s_ApplyBatch := fk [(29, F_s_l3Copy), (30, F_s_IsValidGraph), (54, F_s_l6Apply)] ⟨k_s_l3Copy, k_s_IsValidGraph, k_s_l6Apply, trivial⟩ Tryz.func34 .no
theorem k_s_AppendBatch : FOk Tryz.prog 16 F_s_AppendBatch := fk [(12, F_s_l7Copy), (13, F_s_IsValidHistory), (15, F_s_LatestVersion), (34, F_s_ApplyBatch)] ⟨k_s_l7Copy, k_s_IsValidHistory, k_s_LatestVersion, k_s_ApplyBatch, trivial⟩ Tryz.func16 (.two .no (.two .no (.two .no (.two .no (.two .no (.two .no (.two (.two .no (.at [.box 6 [(.num .i64), (.own 60 y60)]] .no)) .no))))))) (an := [(48, .bool)])
theorem k_s_ReplayLog : FOk Tryz.prog 5 F_s_ReplayLog := fk [(12, F_s_l7Copy), (13, F_s_IsValidHistory), (14, F_s_ScanLog), (15, F_s_LatestVersion), (16, F_s_AppendBatch)] ⟨k_s_l7Copy, k_s_IsValidHistory, k_s_ScanLog, k_s_LatestVersion, k_s_AppendBatch, trivial⟩ Tryz.func5 (.two .no (.two .no (.two .no (.two .no (.two .no (.two (.two .no (.loop [.slot 7 (.num .i64), .slot 11 (.num .i64), .row 9 47 (.bag y47), .box 6 [(.num .i64), (.own 60 y60)]] (.two .no (.two (.atX [.slot 7 (.num .i64), .row 9 47 (.bag y47), .box 6 [(.num .i64), (.own 60 y60)]] .no) .no)))) .no))))))
end Go.Proofs.YtfkjjnddefojjaaGreatDoor.R
/- Printed by lp.py: each function computes what its model says; the code is run, and the two are compared. -/
set_option linter.unusedVariables false
set_option maxRecDepth 1000000
namespace Go.Proofs.YtfkjjnddefojjaaGreatDoor.R
open Go.RowKit
open Go.Proofs.YtfkjjnddefojjaaGreatDoor.D
theorem k_w_toIntS : FOk Tryz.prog 55 F_w_toIntS := fk [] trivial Tryz.func55 (.two .no (.two .no (.two (.two .no (.loop [.row 3 3 y3, .slot 4 (.num .i64)] .no)) .no)))
theorem k_w_toEdge : FOk Tryz.prog 73 F_w_toEdge := fk [] trivial Tryz.func73 .no
theorem k_w_toEdgeS : FOk Tryz.prog 56 F_w_toEdgeS := fk [(73, F_w_toEdge)] ⟨k_w_toEdge, trivial⟩ Tryz.func56 (.two .no (.two .no (.two (.two .no (.loop [.row 3 77 y77, .slot 4 (.num .i64)] .no)) .no)))
theorem k_w_toGraph : FOk Tryz.prog 35 F_w_toGraph := fk [(55, F_w_toIntS), (56, F_w_toEdgeS)] ⟨k_w_toIntS, k_w_toEdgeS, trivial⟩ Tryz.func35 .no
theorem k_w_toGraphS : FOk Tryz.prog 17 F_w_toGraphS := fk [(35, F_w_toGraph)] ⟨k_w_toGraph, trivial⟩ Tryz.func17 (.two .no (.two .no (.two (.two .no (.loop [.row 3 60 y60, .slot 4 (.num .i64)] .no)) .no)))
theorem k_w_toHistory : FOk Tryz.prog 6 F_w_toHistory := fk [(17, F_w_toGraphS)] ⟨k_w_toGraphS, trivial⟩ Tryz.func6 .no
theorem k_i_copyInts : FOk Tryz.prog 57 F_i_copyInts := fk [] trivial Tryz.func57 .no
theorem k_i_copyGraph : FOk Tryz.prog 36 F_i_copyGraph := fk [(57, F_i_copyInts)] ⟨k_i_copyInts, trivial⟩ Tryz.func36 .no
theorem k_i_copyHistory : FOk Tryz.prog 18 F_i_copyHistory := fk [(36, F_i_copyGraph)] ⟨k_i_copyGraph, trivial⟩ Tryz.func18 (.two .no (.two .no (.two (.two .no (.loop [.slot 12 (.num .i64), .box 3 [(.num .i64), (.own 60 y60)]] .no)) .no)))
theorem k_i_within : FOk Tryz.prog 37 F_i_within := fk [] trivial Tryz.func37 .no
theorem k_i_edgeOk : FOk Tryz.prog 58 F_i_edgeOk := fk [(37, F_i_within)] ⟨k_i_within, trivial⟩ Tryz.func58 .no
theorem k_i_IsValidGraph : FOk Tryz.prog 38 F_i_IsValidGraph := fk [(37, F_i_within), (58, F_i_edgeOk)] ⟨k_i_within, k_i_edgeOk, trivial⟩ Tryz.func38 (.two .no (.two .no (.two (.two .no (.loop [.slot 14 (.num .i64)] .no)) (.two (.two .no (.loop [.slot 25 (.num .i64)] .no)) .no))))
theorem k_g_slices_Equal_S_int_int : FOk Tryz.prog 39 F_g_slices_Equal_S_int_int := fk [] trivial Tryz.func39 (.two .no (.two .no (.two (.two .no (.loop [.slot 13 (.num .i64)] .no)) .no)))
theorem k_i_IsValidHistory : FOk Tryz.prog 19 F_i_IsValidHistory := fk [(37, F_i_within), (38, F_i_IsValidGraph), (39, F_g_slices_Equal_S_int_int)] ⟨k_i_within, k_i_IsValidGraph, k_g_slices_Equal_S_int_int, trivial⟩ Tryz.func19 (.two .no (.two .no (.two .no (.two (.two .no (.loop [.slot 24 (.num .i64)] .no)) .no))))
theorem k_i_LatestVersion : FOk Tryz.prog 22 F_i_LatestVersion := fk [(19, F_i_IsValidHistory)] ⟨k_i_IsValidHistory, trivial⟩ Tryz.func22 .no
theorem k_i_ReplayLog_1 : FOk Tryz.prog 21 F_i_ReplayLog_1 := fk [(22, F_i_LatestVersion)] ⟨k_i_LatestVersion, trivial⟩ Tryz.func21 .no
theorem k_g_slices_IndexFunc_S_Edge_Edge : FOk Tryz.prog 94 F_g_slices_IndexFunc_S_Edge_Edge := fk [] trivial Tryz.func94 (.two .no (.two (.two .no (.loop [.slot 8 (.num .i64)] .no)) .no))
end Go.Proofs.YtfkjjnddefojjaaGreatDoor.R
/- Printed by lp.py: each function computes what its model says; the code is run, and the two are compared. -/
set_option linter.unusedVariables false
set_option maxRecDepth 1000000
namespace Go.Proofs.YtfkjjnddefojjaaGreatDoor.R
open Go.RowKit
open Go.Proofs.YtfkjjnddefojjaaGreatDoor.D
theorem k_i_EdgeIndex_1 : FOk Tryz.prog 95 F_i_EdgeIndex_1 := fk [] trivial Tryz.func95 .no
theorem k_i_EdgeIndex : FOk Tryz.prog 79 F_i_EdgeIndex := fk [(94, F_g_slices_IndexFunc_S_Edge_Edge), (95, F_i_EdgeIndex_1)] ⟨k_g_slices_IndexFunc_S_Edge_Edge, k_i_EdgeIndex_1, trivial⟩ Tryz.func79 .no
theorem k_g_slices_Insert_S_Edge_Edge : FOk Tryz.prog 80 F_g_slices_Insert_S_Edge_Edge := fok_ins (n := 3) (z := (⟨.int .i64 0, rfl⟩, ⟨.int .i64 0, rfl⟩, ⟨.int .i64 0, rfl⟩, ⟨.int .i64 0, rfl⟩)) rfl rfl (fok (V := ⟨tt, [(96, ⟨[], [], none, some (77, 0)⟩)], [(12, .raw), (34, .raw), (43, .raw), (50, .raw), (53, .raw), (60, .str), (66, .raw), (73, .raw), (76, .raw), (80, .raw), (86, .raw), (91, .raw)], 95, []⟩) tt_ok ⟨fok_ov (ov_ok (fn := Tryz.f96) (tS := 58) (tR := 4) (E := 77) Tryz.func96 (by kernel_rfl) (by kernel_rfl) (by kernel_rfl) (by kernel_rfl) Tryz.underlying58 (TTok.get tt_ok rfl).ti), trivial⟩ mixed Tryz.func80 rfl rfl (enters_of Tryz.func80 (by kernel_rfl) rfl) rfl (Nat.le_of_ble_eq_true rfl) rfl .no (fun d => by kernel_rfl))
theorem k_i_InsertEdge : FOk Tryz.prog 61 F_i_InsertEdge := fk [(36, F_i_copyGraph), (38, F_i_IsValidGraph), (58, F_i_edgeOk), (79, F_i_EdgeIndex), (80, F_g_slices_Insert_S_Edge_Edge)] ⟨k_i_copyGraph, k_i_IsValidGraph, k_i_edgeOk, k_i_EdgeIndex, k_g_slices_Insert_S_Edge_Edge, trivial⟩ Tryz.func61 (.two .no (.two .no (.two .no (.two .no (.two (.loop [.slot 7 (.num .i64)] .no) .no)))))
theorem k_g_slices_Index_S_Edge_Edge : FOk Tryz.prog 81 F_g_slices_Index_S_Edge_Edge := fk [] trivial Tryz.func81 (.two .no (.two (.two .no (.loop [.slot 8 (.num .i64)] .no)) .no))
theorem k_g_slices_Contains_S_Edge_Edge : FOk Tryz.prog 62 F_g_slices_Contains_S_Edge_Edge := fk [(81, F_g_slices_Index_S_Edge_Edge)] ⟨k_g_slices_Index_S_Edge_Edge, trivial⟩ Tryz.func62 .no
theorem k_g_slices_Delete_S_Edge_Edge : FOk Tryz.prog 82 F_g_slices_Delete_S_Edge_Edge := fok_del (n := 3) (z := (⟨.int .i64 0, rfl⟩, ⟨.int .i64 0, rfl⟩, ⟨.int .i64 0, rfl⟩, ⟨.int .i64 0, rfl⟩)) rfl rfl (fok (V := ⟨tt, [], [(13, .raw), (22, .raw), (25, .raw), (31, .raw)], 33, []⟩) tt_ok trivial mixed Tryz.func82 rfl rfl (enters_of Tryz.func82 (by kernel_rfl) rfl) rfl (Nat.le_of_ble_eq_true rfl) rfl .no (fun d => by kernel_rfl))
theorem k_i_DeleteEdge : FOk Tryz.prog 63 F_i_DeleteEdge := fk [(36, F_i_copyGraph), (38, F_i_IsValidGraph), (79, F_i_EdgeIndex), (82, F_g_slices_Delete_S_Edge_Edge)] ⟨k_i_copyGraph, k_i_IsValidGraph, k_i_EdgeIndex, k_g_slices_Delete_S_Edge_Edge, trivial⟩ Tryz.func63 .no
theorem k_i_ApplyBatch : FOk Tryz.prog 41 F_i_ApplyBatch := fk [(36, F_i_copyGraph), (38, F_i_IsValidGraph), (61, F_i_InsertEdge), (62, F_g_slices_Contains_S_Edge_Edge), (63, F_i_DeleteEdge)] ⟨k_i_copyGraph, k_i_IsValidGraph, k_i_InsertEdge, k_g_slices_Contains_S_Edge_Edge, k_i_DeleteEdge, trivial⟩ Tryz.func41 (.two .no (.two .no (.two .no (.two (.two .no (.loop [.slot 25 (.num .i64), .box 6 [(.own 3 y3), (.own 77 y77)]] (.two .no (.two .no (.two (.two .no (.two .no (.join [.slot 9 .boo, .box 6 [(.own 3 y3), (.own 77 y77)]] .no .no))) .no))))) .no))))
theorem k_i_AppendBatch : FOk Tryz.prog 24 F_i_AppendBatch := fk [(18, F_i_copyHistory), (22, F_i_LatestVersion), (41, F_i_ApplyBatch)] ⟨k_i_copyHistory, k_i_LatestVersion, k_i_ApplyBatch, trivial⟩ Tryz.func24 (.two .no (.two .no (.two .no (.two .no (.two .no (.two .no (.two .no (.two (.two .no (.at [.box 6 [(.num .i64), (.own 60 y60)]] .no)) .no)))))))) (an := [(49, .bool)])
theorem k_i_ReplayLog_2 : FOk Tryz.prog 23 F_i_ReplayLog_2 := fk [(24, F_i_AppendBatch)] ⟨k_i_AppendBatch, trivial⟩ Tryz.func23 .no
theorem k_g_strings_IndexByte : FOk Tryz.prog 59 F_g_strings_IndexByte := fok_indexByte laysIndexByte (enters_of Tryz.func59 (by kernel_rfl) rfl)
theorem k_g_strings_Split : FOk Tryz.prog 75 F_g_strings_Split := fok_split laysSplit (by kernel_rfl) (by kernel_rfl) (enters_of Tryz.func75 (by kernel_rfl) rfl)
theorem wp_within (n a b : Int) (w : World) : Calls Tryz.prog 37 #[.int .i64 n, .int .i64 a, .int .i64 b] w fun e w' => e = .returned (.bool (decide (a ≤ n ∧ n ≤ b))) ∧ w' = w := by
  by_cases h : a ≤ n
  · go_enter Tryz.func37, Tryz.ntmps37
    go_wp2
    go_ret
    simp [h]
  · go_enter Tryz.func37, Tryz.ntmps37
    go_wp2
    go_ret
    simp
    try (intro k; omega)
theorem wp_ParseInt (s : ByteArray) (r : Int × Bool) (w : World) (hr : parseIntS s = some r) (hL : LayW Tryz.prog w) : Calls Tryz.prog 76 #[.string s] w fun e w' => e = .returned (.tuple #[.int .i64 r.1, .bool r.2]) ∧ Below w.heap.size w w' := by
  unfold parseIntS at hr
  by_cases h10 : 10 < s.size
  · rw [if_pos h10] at hr
    obtain rfl := Option.some.inj hr
    go_enter Tryz.func76, Tryz.ntmps76
    go_wp2
    go_ret2
    exact ⟨rfl, Below.refl _ _⟩
  · rw [if_neg h10] at hr
    have h18 : s.size ≤ 18 := by omega
    cases ha : Lib.atoi s.data.toList with
    | none =>
      rw [ha] at hr
      obtain rfl := Option.some.inj hr
      obtain ⟨tp, p, hv⟩ := hL.syn
      have hcon := Any.strconv_Atoi_err_var laysAtoi s h18 ha tp p w hv
      go_enter Tryz.func76, Tryz.ntmps76
      go_wp2_with (go_at_call 88; refine hcon.mono ?_; rintro e w' ⟨N, rfl, hN, hh, hb⟩)
      go_ret2
      exact ⟨rfl, hb⟩
    | some n =>
      rw [ha] at hr
      have hB := Lib.atoi_bound ha (by simpa using h18)
      have hA := Any.strconv_Atoi { laysAtoi with } s n h18 ha w
      have hI := fun t => Any.strconv_Itoa laysItoa n (by omega) (by omega) (Lib.bytesWorld w 5 t) (Lib.bytesWorld_var w 5 t hL.tab)
      have hz : ∀ t k os, Below w.heap.size w (Go.Sort.grow ((Lib.bytesWorld w 5 t).drewN k) os) := fun t k os => by
        have h1 := Lib.bytesWorld_below w 5 t
        exact ⟨h1.os, h1.tape, h1.output, by have := h1.size; simp only [Go.Sort.grow, Array.size_append]; exact Nat.le_trans this (Nat.le_add_right _ _), fun b hb => (Go.Sort.heap_grow_old ((Lib.bytesWorld w 5 t).drewN k) os (Nat.lt_of_lt_of_le hb h1.size : b < ((Lib.bytesWorld w 5 t).drewN k).heap.size)).trans (h1.block b hb)⟩
      replace hr : (if (⟨(Lib.itoa n).toArray⟩ : ByteArray) = s ∧ -999999999 ≤ n ∧ n ≤ 999999999 then some (n, true) else some (0, false)) = some r := hr
      generalize (⟨(Lib.itoa n).toArray⟩ : ByteArray) = q at hr hI
      by_cases e1 : q = s
      · subst e1
        by_cases e2 : -999999999 ≤ n ∧ n ≤ 999999999
        · rw [if_pos ⟨rfl, e2.1, e2.2⟩] at hr
          obtain rfl := Option.some.inj hr
          go_enter Tryz.func76, Tryz.ntmps76
          go_wp2_with (first | (go_at_call 88; refine hA.mono ?_; rintro e w' ⟨rfl, t, rfl⟩) | (go_at_call 89; refine (hI _).mono ?_; rintro e w' ⟨rfl, k, os, rfl⟩) | (go_at_call 37; refine (wp_within _ _ _ _).mono ?_; rintro e w' ⟨rfl, rfl⟩))
          go_ret2
          exact ⟨rfl, hz _ _ _⟩
        · rw [if_neg fun k => e2 k.2] at hr
          obtain rfl := Option.some.inj hr
          go_enter Tryz.func76, Tryz.ntmps76
          go_wp2_with (first | (go_at_call 88; refine hA.mono ?_; rintro e w' ⟨rfl, t, rfl⟩) | (go_at_call 89; refine (hI _).mono ?_; rintro e w' ⟨rfl, k, os, rfl⟩) | (go_at_call 37; refine (wp_within _ _ _ _).mono ?_; rintro e w' ⟨rfl, rfl⟩))
          go_ret2
          exact ⟨rfl, hz _ _ _⟩
      · rw [if_neg fun k => e1 k.1] at hr
        obtain rfl := Option.some.inj hr
        have e2 : ¬ q.toList = s.toList := fun k => e1 (Go.WideShapes.bytes_inj (by rw [← ByteArray.toList_eq, ← ByteArray.toList_eq]; exact k))
        go_enter Tryz.func76, Tryz.ntmps76
        go_wp2_with (first | (go_at_call 88; refine hA.mono ?_; rintro e w' ⟨rfl, t, rfl⟩) | (go_at_call 89; refine (hI _).mono ?_; rintro e w' ⟨rfl, k, os, rfl⟩) | (go_at_call 37; refine (wp_within _ _ _ _).mono ?_; rintro e w' ⟨rfl, rfl⟩))
        go_ret2
        exact ⟨rfl, hz _ _ _⟩
theorem k_i_ParseInt : FOk Tryz.prog 76 F_i_ParseInt := fok_parse (enters_of Tryz.func76 (by kernel_rfl) rfl) wp_ParseInt
theorem k_g_strings_Cut : FOk Tryz.prog 105 F_g_strings_Cut := fok_cut laysCut (by kernel_rfl) (enters_of Tryz.func105 (by kernel_rfl) rfl)
theorem k_g_strconv_Itoa : FOk Tryz.prog 89 F_g_strconv_Itoa := fok_itoa laysItoa (enters_of Tryz.func89 (by kernel_rfl) rfl)
theorem k_i_FormatInt : FOk Tryz.prog 92 F_i_FormatInt := fk [(89, F_g_strconv_Itoa)] ⟨k_g_strconv_Itoa, trivial⟩ Tryz.func92 .no
end Go.Proofs.YtfkjjnddefojjaaGreatDoor.R
/- Printed by lp.py: each function computes what its model says; the code is run, and the two are compared. -/
set_option linter.unusedVariables false
set_option maxRecDepth 1000000
namespace Go.Proofs.YtfkjjnddefojjaaGreatDoor.R
open Go.RowKit
open Go.Proofs.YtfkjjnddefojjaaGreatDoor.D
theorem k_i_FormatEdge : FOk Tryz.prog 106 F_i_FormatEdge := fk [(58, F_i_edgeOk), (92, F_i_FormatInt)] ⟨k_i_edgeOk, k_i_FormatInt, trivial⟩ Tryz.func106 .no
theorem k_i_ParseEdge : FOk Tryz.prog 90 F_i_ParseEdge := fk [(76, F_i_ParseInt), (105, F_g_strings_Cut), (106, F_i_FormatEdge)] ⟨k_i_ParseInt, k_g_strings_Cut, k_i_FormatEdge, trivial⟩ Tryz.func90 .no
theorem k_g_strings_Join : FOk Tryz.prog 107 F_g_strings_Join := fok_join laysJoin extraJoin 9 (enters_of Tryz.func107 (by kernel_rfl) rfl)
theorem k_i_FormatBatch : FOk Tryz.prog 91 F_i_FormatBatch := fk [(106, F_i_FormatEdge), (107, F_g_strings_Join)] ⟨k_i_FormatEdge, k_g_strings_Join, trivial⟩ Tryz.func91 (.two .no (.two .no (.two .no (.two (.two .no (.loop [.slot 3 (.own 9 y9), .slot 15 (.num .i64)] (.two .no (.two .no (.two (.atX [.slot 3 (.own 9 y9)] .no) .no))))) .no))))
theorem k_i_ParseBatch : FOk Tryz.prog 77 F_i_ParseBatch := fk [(75, F_g_strings_Split), (90, F_i_ParseEdge), (91, F_i_FormatBatch)] ⟨k_g_strings_Split, k_i_ParseEdge, k_i_FormatBatch, trivial⟩ Tryz.func77 (.two .no (.two .no (.two .no (.two (.two .no (.loop [.slot 16 (.num .i64), .box 4 [(.own 90 (.prod y4 y77))]] .no)) .no))))
theorem k_i_Checksum : FOk Tryz.prog 93 F_i_Checksum := fk [] trivial Tryz.func93 (.two .no (.two .no (.two (.two .no (.loop [.slot 3 (.num .i64), .slot 4 (.num .i64)] .no)) .no)))
theorem k_i_EncodeRecord : FOk Tryz.prog 78 F_i_EncodeRecord := fk [(37, F_i_within), (91, F_i_FormatBatch), (92, F_i_FormatInt), (93, F_i_Checksum)] ⟨k_i_within, k_i_FormatBatch, k_i_FormatInt, k_i_Checksum, trivial⟩ Tryz.func78 .no
theorem k_i_DecodeRecord : FOk Tryz.prog 60 F_i_DecodeRecord := fk [(75, F_g_strings_Split), (76, F_i_ParseInt), (77, F_i_ParseBatch), (78, F_i_EncodeRecord)] ⟨k_g_strings_Split, k_i_ParseInt, k_i_ParseBatch, k_i_EncodeRecord, trivial⟩ Tryz.func60 .no
theorem k_i_ScanLog : FOk Tryz.prog 40 F_i_ScanLog := fok_bag3 (ps := [.rd y9]) (A := y38) (E := 47) (t := y47) (B := y3) (m := m_i_ScanLog) (fk [(59, F_g_strings_IndexByte), (60, F_i_DecodeRecord)] ⟨k_g_strings_IndexByte, k_i_DecodeRecord, trivial⟩ Tryz.func40 (.two .no (.two .no (.two .no (.two .no (.two (.loop [.slot 5 (.own 3 y3), .slot 6 (.own 47 y47), .slot 7 (.num .i64)] .no) .no))))))
theorem k_i_replay : FOk Tryz.prog 20 F_i_replay := fk [(21, F_i_ReplayLog_1), (23, F_i_ReplayLog_2), (40, F_i_ScanLog)] ⟨k_i_ReplayLog_1, k_i_ReplayLog_2, k_i_ScanLog, trivial⟩ Tryz.func20 (.two .no (.two .no (.two .no (.two (.two .no (.loop [.slot 10 (.num .i64), .slot 21 (.num .i64), .row 8 47 (.bag y47), .pbx 3 [(.num .i64), (.own 60 y60)]] (.two .no (.two .no (.two (.atX [.slot 10 (.num .i64), .row 8 47 (.bag y47), .pbx 3 [(.num .i64), (.own 60 y60)]] .no) .no))))) .no))))
theorem k_i_ReplayLog : FOk Tryz.prog 7 F_i_ReplayLog := fk [(18, F_i_copyHistory), (19, F_i_IsValidHistory), (20, F_i_replay), (21, F_i_ReplayLog_1), (23, F_i_ReplayLog_2)] ⟨k_i_copyHistory, k_i_IsValidHistory, k_i_replay, k_i_ReplayLog_1, k_i_ReplayLog_2, trivial⟩ Tryz.func7 .no
theorem k_w_eqIntS : FOk Tryz.prog 64 F_w_eqIntS := fk [] trivial Tryz.func64 (.two .no (.two .no (.two (.two .no (.loop [.slot 5 (.num .i64)] .no)) .no)))
theorem k_w_eqEdge : FOk Tryz.prog 83 F_w_eqEdge := fk [] trivial Tryz.func83 .no
theorem k_w_eqEdgeS : FOk Tryz.prog 65 F_w_eqEdgeS := fk [(83, F_w_eqEdge)] ⟨k_w_eqEdge, trivial⟩ Tryz.func65 (.two .no (.two .no (.two (.two .no (.loop [.slot 5 (.num .i64)] .no)) .no)))
theorem k_w_eqGraph : FOk Tryz.prog 42 F_w_eqGraph := fk [(64, F_w_eqIntS), (65, F_w_eqEdgeS)] ⟨k_w_eqIntS, k_w_eqEdgeS, trivial⟩ Tryz.func42 .no
theorem k_w_eqGraphS : FOk Tryz.prog 25 F_w_eqGraphS := fk [(42, F_w_eqGraph)] ⟨k_w_eqGraph, trivial⟩ Tryz.func25 (.two .no (.two .no (.two (.two .no (.loop [.slot 5 (.num .i64)] .no)) .no)))
theorem k_w_eqHistory : FOk Tryz.prog 8 F_w_eqHistory := fk [(25, F_w_eqGraphS)] ⟨k_w_eqGraphS, trivial⟩ Tryz.func8 .no
end Go.Proofs.YtfkjjnddefojjaaGreatDoor.R
/- Printed by lp.py: each function computes what its model says; the code is run, and the two are compared. -/
set_option linter.unusedVariables false
set_option maxRecDepth 1000000
namespace Go.Proofs.YtfkjjnddefojjaaGreatDoor.R
open Go.RowKit
open Go.Proofs.YtfkjjnddefojjaaGreatDoor.D
theorem k_w_markIntS : FOk Tryz.prog 43 F_w_markIntS := fk [] trivial Tryz.func43 (.two .no (.two (.two .no (.loop [.par 0 [] 3 y3, .slot 1 (.num .i64), .slot 5 (.num .i64)] .no)) .no))
theorem k_w_markEdgeS : FOk Tryz.prog 44 F_w_markEdgeS := fk [] trivial Tryz.func44 (.two .no (.two (.two .no (.loop [.par 0 [] 77 y77, .slot 1 (.num .i64), .slot 5 (.num .i64)] .no)) .no))
theorem k_w_markGraphS : FOk Tryz.prog 26 F_w_markGraphS := fk [(43, F_w_markIntS), (44, F_w_markEdgeS)] ⟨k_w_markIntS, k_w_markEdgeS, trivial⟩ Tryz.func26 (.two .no (.two (.two .no (.loop [.par 0 [] 60 y60, .slot 1 (.num .i64), .slot 5 (.num .i64)] .no)) .no))
theorem k_w_markHistory : FOk Tryz.prog 9 F_w_markHistory := fk [(26, F_w_markGraphS)] ⟨k_w_markGraphS, trivial⟩ Tryz.func9 .no
theorem k_w_heldIntS : FOk Tryz.prog 45 F_w_heldIntS := fk [] trivial Tryz.func45 (.two .no (.two (.two .no (.loop [.slot 1 (.num .i64), .slot 5 (.num .i64)] .no)) .no))
theorem k_w_heldEdgeS : FOk Tryz.prog 46 F_w_heldEdgeS := fk [] trivial Tryz.func46 (.two .no (.two (.two .no (.loop [.slot 1 (.num .i64), .slot 5 (.num .i64)] .no)) .no))
theorem k_w_heldGraphS : FOk Tryz.prog 27 F_w_heldGraphS := fk [(45, F_w_heldIntS), (46, F_w_heldEdgeS)] ⟨k_w_heldIntS, k_w_heldEdgeS, trivial⟩ Tryz.func27 (.two .no (.two (.two .no (.loop [.slot 1 (.num .i64), .slot 5 (.num .i64)] .no)) .no))
theorem k_w_heldHistory : FOk Tryz.prog 10 F_w_heldHistory := fk [(27, F_w_heldGraphS)] ⟨k_w_heldGraphS, trivial⟩ Tryz.func10 .no
theorem k_w_FnExactReplayLog : FOk Tryz.prog 3 F_w_FnExactReplayLog := fk [(4, F_w_szHistory), (5, F_s_ReplayLog), (6, F_w_toHistory), (7, F_i_ReplayLog), (8, F_w_eqHistory), (9, F_w_markHistory), (10, F_w_heldHistory)] ⟨k_w_szHistory, k_s_ReplayLog, k_w_toHistory, k_i_ReplayLog, k_w_eqHistory, k_w_markHistory, k_w_heldHistory, trivial⟩ Tryz.func3 .no
end Go.Proofs.YtfkjjnddefojjaaGreatDoor.R
namespace Go.Proofs.YtfkjjnddefojjaaGreatDoor.D
open Go.RowKit
theorem c_w_FnExactReplayLog (x0 : Int × (List ((List Int) × (List (Int × Int × Int × Int))))) (x1 : ByteArray) (r : Bool) (hm : m_w_FnExactReplayLog x0 x1 = some r) {I : Hp} {w0 : World} (v0_0 : Value) (r0_0 : (rSlice 57 (rProd (rSlice 3 rInt) (rSlice 102 (rProd rInt (rProd rInt (rProd rInt rInt)))))).rd I [v0_0] x0.2) (hL : Lay Tryz.prog I) : Con Tryz.prog 3 #[.agg #[.int .i64 x0.1, v0_0], .string x1] I w0 [] (fun v => v = .bool r) (fun _ => []) := fun w C hs =>
  ((R.k_w_FnExactReplayLog).con rfl w0 I undef [.agg #[.int .i64 x0.1, v0_0], .string x1] (x0, (x1, ())) r hL ⟨_, _, rfl, ⟨[.int .i64 x0.1, v0_0], rfl, ⟨_, _, rfl, rfl, r0_0⟩⟩, ⟨_, _, rfl, ⟨[.string x1], rfl, rfl⟩, rfl⟩⟩ hm w C hs).mono fun e w' ⟨v, he, _, hst⟩ => by
    obtain ⟨h1, h2⟩ := R.own_flat (h1 := fun _ => rfl) (show St I w0 w' (Ch.own R.Ty.bool.rep [v] r :: C) from hst)
    exact ⟨v, he, (List.cons.inj h1).1, h2⟩
end Go.Proofs.YtfkjjnddefojjaaGreatDoor.D
/- From the form's reading of an argument to a representation: every data type of the program is opened by these laws. No program text is named here. -/
set_option linter.unusedVariables false
set_option linter.unusedSimpArgs false
set_option linter.unnecessarySimpa false
namespace Go.Proofs.YtfkjjnddefojjaaGreatDoor.D
open Go.RowKit

def I64 (n : Int) : Prop := -9223372036854775808 ≤ n ∧ n ≤ 9223372036854775807
class Data (α : Type) where
  lim : α → Prop
  sm : α → Prop
instance : Data Int := ⟨I64, fun _ => True⟩
instance : Data Bool := ⟨fun _ => True, fun _ => True⟩
instance : Data ByteArray := ⟨fun s => s.size ≤ 9223372036854775807, fun s => s.size ≤ 1048576⟩
instance {α β : Type} [Data α] [Data β] : Data (α × β) := ⟨fun x => Data.lim x.1 ∧ Data.lim x.2, fun x => Data.sm x.1 ∧ Data.sm x.2⟩
instance {α : Type} [Data α] : Data (List α) := ⟨fun xs => xs.length ≤ 9223372036854775807 ∧ ∀ x, x ∈ xs → Data.lim x, fun xs => xs.length ≤ 1048576 ∧ ∀ x, x ∈ xs → Data.sm x⟩
structure Opens (P : Program) (t : TypeId) {α : Type} [Data α] (R : Rep α) : Prop where
  out : ∀ {H : Type} (enc : TypeId × Value → H) (w : World) (fuel : Nat) (cs : List Value) (x : DataW H × List MemPlace), DataW.trod enc P w 0 (fun _ => true) true fuel t cs = some x → ∃ a : α, R.rd (hp w) cs a ∧ Data.lim a

theorem opens_int {P : Program} {t : TypeId} (h : P.underlying t = some (.int .i64)) : Opens P t rInt := by
  constructor
  intro H enc w fuel cs x hx
  obtain ⟨n, rfl, -, hw⟩ := DataW.trod_int h hx
  refine ⟨n, rfl, show I64 n from ?_⟩
  simp [Lit.wf, IntKind.min, IntKind.max, IntKind.signed, IntKind.bits] at hw
  unfold I64
  omega
theorem opens_string {P : Program} {t : TypeId} (h : P.underlying t = some .string) : Opens P t rStr := by
  constructor
  intro H enc w fuel cs x hx
  obtain ⟨n, rfl, -, hm⟩ := DataW.trod_string h hx
  exact ⟨n, rfl, show n.size ≤ _ by unfold maxLen at hm; omega⟩
theorem opens_slice {P : Program} {t e : TypeId} {α : Type} [Data α] {R : Rep α} {E : TypeId} (h : P.underlying t = some (.slice e)) (hc : P.cellsOf e = R.size) (h0 : 0 < R.size) (he : Opens P e R) : Opens P t (rSlice E R) := by
  constructor
  intro H enc w fuel cs x hx
  rcases Go.Deep.open_slice h hx with ⟨rfl, -⟩ | ⟨a, len, cap, m, n, D, Pl, rfl, -, hl, hm, hmm, -, hel⟩
  · exact ⟨[], ⟨none, 0, rfl, by simp, .inl rfl⟩, Nat.zero_le _, fun x hx => by cases hx⟩
  have hlm : m = cap := by simpa using hmm
  subst hlm
  rw [hc] at hel
  by_cases hz : len = 0
  · subst hz
    exact ⟨[], ⟨some a, m, rfl, by simp, .inl rfl⟩, Nat.zero_le _, fun x hx => by cases hx⟩
  · have hone : ∀ i, i < len → ∃ c : List Value, ∃ y : α, c.length = R.size ∧ (∀ j, j < R.size → w.cell? ((a.add (i * R.size)).add j) = c[j]?) ∧ R.rd (hp w) c y ∧ Data.lim y := by
      intro i hi
      obtain ⟨c, h1, h2⟩ := hel i (by omega)
      obtain ⟨-, h3, h4⟩ := World.cells?_some h1
      obtain ⟨y, hy⟩ := he.out enc w _ _ _ h2
      exact ⟨c, y, h3, h4, hy⟩
    obtain ⟨c0, y0, hc0, hr0, -⟩ := hone 0 (by omega)
    have h00 := hr0 0 h0
    have hsome : ∃ v, c0[0]? = some v := ⟨_, List.getElem?_eq_getElem (by omega)⟩
    obtain ⟨v, hv⟩ := hsome
    rw [hv] at h00
    have ha : (a.add (0 * R.size)).add 0 = a := by simp [Addr.add]
    rw [ha] at h00
    obtain ⟨b, off, spot⟩ := a
    have hb : ∃ ccs T fr, w.heap[b]? = some (.cells ccs T fr) ∧ spot = none := by
      simp only [World.cell?] at h00
      split at h00
      · rename_i ccs T fr heq
        cases spot with
        | none => exact ⟨ccs, T, fr, heq, rfl⟩
        | some s => simp at h00
      · simp at h00
    obtain ⟨ccs, T, fr, hh, rfl⟩ := hb
    have hadd : ∀ i j, (Addr.add ⟨b, off, none⟩ i).add j = ⟨b, off + i + j, none⟩ := by
      intro i j
      by_cases h1 : i = 0 <;> by_cases h2 : j = 0 <;> simp [Addr.add, h1, h2, Nat.add_assoc]
    haveI : Inhabited α := ⟨y0⟩
    obtain ⟨X, hX⟩ := Go.Deep.choose_lt (α := α) (n := len) (p := fun i y => ∃ c : List Value, c.length = R.size ∧ (∀ j, j < R.size → ccs.toList[off + i * R.size + j]? = c[j]?) ∧ R.rd (hp w) c y ∧ Data.lim y) (fun i hi => by
      obtain ⟨c, y, h1, h2, h3⟩ := hone i hi
      refine ⟨y, c, h1, fun j hj => ?_, h3⟩
      have := h2 j hj
      rw [hadd] at this
      simp only [World.cell?, hh] at this
      simpa using this)
    have hlen : ((List.range len).map X).length = len := by simp
    have hel2 : ∀ i y, ((List.range len).map X)[i]? = some y → i < len ∧ y = X i := fun i y hy => by
      have hi : i < len := by have := (List.getElem?_eq_some_iff.1 hy).1; omega
      exact ⟨hi, by simpa [hi] using hy.symm⟩
    refine ⟨(List.range len).map X, ⟨some ⟨b, off, none⟩, m, by rw [hlen], by rw [hlen]; unfold maxLen at hm; unfold lim; omega, .inr ⟨b, off, ccs, T, fr, rfl, hh, fun i y hy => ?_⟩⟩, by rw [hlen]; unfold maxLen at hm; omega, fun y hy => ?_⟩
    · obtain ⟨hi, rfl⟩ := hel2 i y hy
      obtain ⟨c, e1, e2, e3, -⟩ := hX i hi
      exact ⟨c, e1, e2, e3⟩
    · obtain ⟨i, hi, he⟩ := List.mem_iff_getElem?.1 hy |>.imp fun i hi => hel2 i y hi
      obtain ⟨-, -, -, -, e4⟩ := hX i hi
      rw [he]; exact e4

structure OpensFs (P : Program) (fs : List Field) (o : Nat) {α : Type} [Data α] (R : Rep α) : Prop where
  out : ∀ {H : Type} (enc : TypeId × Value → H) (w : World) (fuel : Nat) (cs : List Value) , cs.length = o + R.size →
    (∀ f ∈ fs, ∃ x, DataW.trod enc P w 0 (fun _ => true) true fuel f.type ((cs.drop f.offset).take (P.cellsOf f.type)) = some x) → ∃ a : α, R.rd (hp w) (cs.drop o) a ∧ Data.lim a
theorem opens_last {P : Program} {f : Field} {o : Nat} {α : Type} [Data α] {R : Rep α} (ho : f.offset = o) (hc : P.cellsOf f.type = R.size) (h : Opens P f.type R) : OpensFs P [f] o R := by
  constructor
  intro H enc w fuel cs hl hx
  obtain ⟨x, hx⟩ := hx f (by simp)
  rw [ho, hc, List.take_of_length_le (by rw [List.length_drop]; omega)] at hx
  exact h.out enc w _ _ _ hx
theorem opens_next {P : Program} {f : Field} {fs : List Field} {o : Nat} {α β : Type} [Data α] [Data β] {R : Rep α} {S : Rep β} (ho : f.offset = o) (hc : P.cellsOf f.type = R.size) (h : Opens P f.type R) (hs : OpensFs P fs (o + R.size) S) : OpensFs P (f :: fs) o (rProd R S) := by
  constructor
  intro H enc w fuel cs hl hx
  have hl' : cs.length = o + (R.size + S.size) := hl
  obtain ⟨b, hb, hlb⟩ := hs.out enc w fuel cs (by omega) (fun g hg => hx g (by simp [hg]))
  obtain ⟨x, hx⟩ := hx f (by simp)
  rw [ho, hc] at hx
  obtain ⟨a, ha, hla⟩ := h.out enc w _ _ _ hx
  refine ⟨(a, b), ⟨(cs.drop o).take R.size, cs.drop (o + R.size), ?_, ha, hb⟩, hla, hlb⟩
  rw [← List.drop_drop, List.take_append_drop]
theorem opens_struct {P : Program} {t : TypeId} {fs : Array Field} {α : Type} [Data α] {R : Rep α} (h : P.underlying t = some (.struct fs)) (hc : P.cellsOf t = R.size) (hf : OpensFs P fs.toList 0 R) : Opens P t R := by
  constructor
  intro H enc w fuel cs x hx
  obtain ⟨xs, n, -, -, hl, hn, hel⟩ := DataW.trod_struct h hx
  have := hf.out enc w n cs (by omega) (fun f hm => by
    obtain ⟨i, hi, rfl⟩ := List.getElem_of_mem hm
    have h1 : fs[i]? = some fs.toList[i] := by simp
    exact ⟨_, (hel i _ h1).trans (List.getElem?_eq_getElem (by simp at hi; omega))⟩)
  simpa using this
theorem St.below {w0 w : World} {cs : List Ch} (h : St (hp w0) w0 w cs) : Below w0.heap.size w0 w := by
  obtain ⟨⟨h1, h2, h3, h4⟩, h5, -⟩ := h
  refine ⟨h1, h2, h3, h4, fun b hb => ?_⟩
  have e : w0.heap[b]? = some w0.heap[b] := Array.getElem?_eq_getElem hb
  rw [e]; exact h5 b _ e
end Go.Proofs.YtfkjjnddefojjaaGreatDoor.D
/- Loops of models: what rows are looked through, copied, counted, compared. No program text is named here. -/
set_option linter.unusedVariables false
set_option linter.unusedSimpArgs false
set_option linter.unnecessarySimpa false
namespace Go.Proofs.YtfkjjnddefojjaaGreatDoor.D
open Go.RowKit

theorem wrapI {n : Int} (h1 : -9223372036854775808 ≤ n) (h2 : n ≤ 9223372036854775807) : IntKind.i64.wrap n = n := by
  simp only [IntKind.wrap, IntKind.bits, IntKind.signed, Bool.true_and]
  split <;> rename_i h <;> simp at h <;> omega
theorem wrap_succ {i : Nat} (h : i < 9223372036854775807) : IntKind.i64.wrap ((i : Int) + 1) = ((i + 1 : Nat) : Int) := by
  rw [wrapI (by omega) (by omega)]; rfl
theorem getI_nat {α : Type} {xs : List α} {i : Nat} (h : i < xs.length) : getI xs (i : Int) = some (xs[i]) := by
  unfold getI
  rw [if_pos (Int.natCast_nonneg _)]
  simp [h]
theorem lt_nat {i n : Nat} (h : i < n) : decide ((i : Int) < (n : Int)) = true := by simp [h]
theorem lt_self {n : Nat} : decide ((n : Int) < (n : Int)) = false := by simp
theorem fuelUp (k : Nat) (h : k ≤ 9223372036854775807) : k < FUEL := by unfold FUEL; omega
theorem mkI_ok {α : Type} {b n : Nat} {z : α} (h : n * b ≤ 140737488355328) : mkI b (n : Int) z = some (List.replicate n z) := by
  unfold mkI
  rw [if_pos ⟨Int.natCast_nonneg _, by simpa using h⟩]; simp
theorem loopM_nxt {R S : Type} {f : S → Option (Out R S)} (inv : Nat → S) (N : Nat) (h : ∀ i, i < N → f (inv i) = some (.nxt (inv (i + 1)))) : ∀ (m i k : Nat), i + m = N → loopM f (k + m) (inv i) = loopM f k (inv N)
  | 0, i, k, e => by rw [show i = N by omega]; rfl
  | m + 1, i, k, e => by
    rw [← Nat.add_assoc, loopM, h i (by omega)]
    exact loopM_nxt inv N h m (i + 1) k (by omega)
theorem loopM_all {R S : Type} {f : S → Option (Out R S)} (inv : Nat → S) (N : Nat) {s : S} (h : ∀ i, i < N → f (inv i) = some (.nxt (inv (i + 1)))) (he : f (inv N) = some (.brk s)) (hN : N < FUEL) : loopM f FUEL (inv 0) = some (.brk s) := by
  have e : FUEL = (FUEL - N - 1) + 1 + N := by omega
  rw [e, loopM_nxt inv N h N 0 _ (by omega), loopM, he]
theorem toL {R α : Type} {f : List α × Int → Option (Out R (List α × Int))} {z : α} (xs : List α) (hN : xs.length ≤ 9223372036854775807)
    (hstep : ∀ ys i (h : i < xs.length), ys.length = xs.length → f (ys, (i : Int)) = some (.nxt (ys.set i xs[i], ((i + 1 : Nat) : Int)))) (hend : ∀ ys, ys.length = xs.length → f (ys, (xs.length : Int)) = some (.brk (ys, (xs.length : Int)))) :
    loopM f FUEL (List.replicate xs.length z, 0) = some (.brk (xs, (xs.length : Int))) := by
  have h0 : (List.replicate xs.length z, (0 : Int)) = (fun i : Nat => (xs.take i ++ (List.replicate xs.length z).drop i, (i : Int))) 0 := by simp
  rw [h0]
  refine loopM_all (fun i : Nat => (xs.take i ++ (List.replicate xs.length z).drop i, (i : Int))) xs.length (fun i hi => ?_) ?_ (fuelUp _ hN)
  · have hl : (xs.take i ++ (List.replicate xs.length z).drop i).length = xs.length := by
      rw [List.length_append, List.length_take, List.length_drop, List.length_replicate]; omega
    rw [hstep _ i hi hl]
    congr 3
    have ht : (xs.take i).length = i := by rw [List.length_take]; omega
    rw [List.set_append_right _ _ (by omega), ht, Nat.sub_self, List.drop_eq_getElem_cons (by rw [List.length_replicate]; exact hi), List.set_cons_zero, List.take_succ_eq_append_getElem hi, List.append_assoc]
    rfl
  · have := hend xs rfl
    rw [List.take_of_length_le (Nat.le_refl _), List.drop_of_length_le (by rw [List.length_replicate]; exact Nat.le_refl _), List.append_nil]
    exact this
def SzOk {α : Type} [Data α] (m : α → Int → Option Int) : Prop := ∀ x l, Data.lim x → 0 ≤ l → l ≤ 1048576 → ∃ r, m x l = some r ∧ (r < 0 ∨ (0 ≤ r ∧ r ≤ l ∧ Data.sm x))
def ToOk {α : Type} [Data α] (m : α → Option α) : Prop := ∀ x, Data.sm x → m x = some x
def EqOk {α : Type} [Data α] [DecidableEq α] (m : α → α → Option Bool) : Prop := ∀ x y, Data.sm x → Data.sm y → m x y = some (decide (x = y))
theorem szGo {α : Type} [Data α] {f : Int × Int → Option (Out Int (Int × Int))} (xs : List α)
    (hstep : ∀ i (h : i < xs.length) l, 0 ≤ l → l ≤ 1048576 → ∃ r, f (l, (i : Int)) = some (if r < 0 then .ret (-1) else .nxt (r, ((i + 1 : Nat) : Int))) ∧ (r < 0 ∨ (0 ≤ r ∧ r ≤ l ∧ Data.sm xs[i])))
    (hend : ∀ l, f (l, (xs.length : Int)) = some (.brk (l, (xs.length : Int)))) : ∀ (m i k : Nat) (l : Int), i + m = xs.length → m < k → 0 ≤ l → l ≤ 1048576 →
      loopM f k (l, (i : Int)) = some (.ret (-1)) ∨ ∃ r, loopM f k (l, (i : Int)) = some (.brk (r, (xs.length : Int))) ∧ 0 ≤ r ∧ r ≤ l ∧ ∀ j (h : j < xs.length), i ≤ j → Data.sm xs[j]
  | 0, i, k, l, e, hk, h0, h1 => by
    obtain ⟨k, rfl⟩ : ∃ q, k = q + 1 := ⟨k - 1, by omega⟩
    obtain rfl : i = xs.length := by omega
    exact .inr ⟨l, by rw [loopM, hend], h0, Int.le_refl _, fun j hj hi => by omega⟩
  | m + 1, i, k, l, e, hk, h0, h1 => by
    obtain ⟨k, rfl⟩ : ∃ q, k = q + 1 := ⟨k - 1, by omega⟩
    obtain ⟨r, e1, e2⟩ := hstep i (by omega) l h0 h1
    rw [loopM, e1]
    rcases e2 with e2 | ⟨e2, e3, e4⟩
    · rw [if_pos e2]; exact .inl rfl
    · rw [if_neg (by omega)]
      rcases szGo xs hstep hend m (i + 1) k r (by omega) (by omega) e2 (by omega) with h | ⟨q, g1, g2, g3, g4⟩
      · exact .inl h
      · refine .inr ⟨q, g1, g2, by omega, fun j hj hi => ?_⟩
        by_cases hji : j = i
        · subst hji; exact e4
        · exact g4 j hj (by omega)
theorem szL {α : Type} [Data α] {f : Int × Int → Option (Out Int (Int × Int))} (xs : List α) {l : Int} (hN : xs.length ≤ 9223372036854775807)
    (hstep : ∀ i (h : i < xs.length) l, 0 ≤ l → l ≤ 1048576 → ∃ r, f (l, (i : Int)) = some (if r < 0 then .ret (-1) else .nxt (r, ((i + 1 : Nat) : Int))) ∧ (r < 0 ∨ (0 ≤ r ∧ r ≤ l ∧ Data.sm xs[i])))
    (hend : ∀ l, f (l, (xs.length : Int)) = some (.brk (l, (xs.length : Int)))) (h0 : 0 ≤ l) (h1 : l ≤ 1048576) :
    ∃ r, (if decide (IntKind.i64.wrap (l - (xs.length : Int)) < 0) then (some (-1)) else (bindL (loopM f FUEL (IntKind.i64.wrap (l - (xs.length : Int)), 0)) (fun r => some r) (fun s4 => some s4.1))) = some r ∧ (r < 0 ∨ (0 ≤ r ∧ r ≤ l ∧ Data.sm xs)) := by
  rw [wrapI (by omega) (by omega)]
  by_cases h : l - (xs.length : Int) < 0
  · exact ⟨-1, by rw [if_pos (decide_eq_true h)], .inl (by decide)⟩
  · rw [if_neg (by simpa using h)]
    rcases szGo xs hstep hend xs.length 0 FUEL (l - xs.length) (by omega) (fuelUp _ hN) (by omega) (by omega) with e | ⟨r, e, g1, g2, g3⟩
    · exact ⟨-1, by rw [show ((0 : Int)) = ((0 : Nat) : Int) from rfl, e]; rfl, .inl (by decide)⟩
    · refine ⟨r, by rw [show ((0 : Int)) = ((0 : Nat) : Int) from rfl, e]; rfl, .inr ⟨g1, by omega, by omega, fun x hx => ?_⟩⟩
      obtain ⟨j, hj, rfl⟩ := List.getElem_of_mem hx
      exact g3 j hj (Nat.zero_le _)
theorem szF {α : Type} [Data α] (xs : List α) {l : Int} (hN : xs.length ≤ 9223372036854775807) (hf : ∀ x : α, Data.sm x) (h0 : 0 ≤ l) (h1 : l ≤ 1048576) :
    ∃ r, (if decide (IntKind.i64.wrap (l - (xs.length : Int)) < 0) then (some (-1)) else (some (IntKind.i64.wrap (l - (xs.length : Int))))) = some r ∧ (r < 0 ∨ (0 ≤ r ∧ r ≤ l ∧ Data.sm xs)) := by
  rw [wrapI (by omega) (by omega)]
  by_cases h : l - (xs.length : Int) < 0
  · exact ⟨-1, by rw [if_pos (decide_eq_true h)], .inl (by decide)⟩
  · exact ⟨_, by rw [if_neg (by simpa using h)], .inr ⟨by omega, by omega, by omega, fun x _ => hf x⟩⟩
theorem eqGo {α : Type} [DecidableEq α] {f : Int → Option (Out Bool Int)} (xs ys : List α) (hl : xs.length = ys.length)
    (hstep : ∀ i (h : i < xs.length) (h' : i < ys.length), f (i : Int) = some (if xs[i] = ys[i] then .nxt ((i + 1 : Nat) : Int) else .ret false)) (hend : f (xs.length : Int) = some (.brk (xs.length : Int))) : ∀ (m i k : Nat), i + m = xs.length → m < k →
      loopM f k (i : Int) = some (if xs.drop i = ys.drop i then .brk (xs.length : Int) else .ret false)
  | 0, i, k, e, hk => by
    obtain ⟨k, rfl⟩ : ∃ q, k = q + 1 := ⟨k - 1, by omega⟩
    obtain rfl : i = xs.length := by omega
    rw [loopM, hend, List.drop_of_length_le (Nat.le_refl _), List.drop_of_length_le (by omega), if_pos rfl]
  | m + 1, i, k, e, hk => by
    obtain ⟨k, rfl⟩ : ∃ q, k = q + 1 := ⟨k - 1, by omega⟩
    have hi : i < xs.length := by omega
    have hi' : i < ys.length := by omega
    have d1 := List.drop_eq_getElem_cons hi
    have d2 := List.drop_eq_getElem_cons hi'
    rw [loopM, hstep i hi hi', d1, d2]
    by_cases h : xs[i] = ys[i]
    · rw [if_pos h]
      simp only
      rw [eqGo xs ys hl hstep hend m (i + 1) k (by omega) (by omega)]
      simp only [List.cons.injEq, h, true_and]
    · rw [if_neg h]
      simp only [List.cons.injEq, h, false_and, if_false]
theorem eqL {α : Type} [DecidableEq α] {f : Int → Option (Out Bool Int)} (xs ys : List α) (hN : xs.length ≤ 9223372036854775807)
    (hstep : ∀ i (h : i < xs.length) (h' : i < ys.length), f (i : Int) = some (if xs[i] = ys[i] then .nxt ((i + 1 : Nat) : Int) else .ret false)) (hend : f (xs.length : Int) = some (.brk (xs.length : Int))) :
    (if (xs.length : Int) != (ys.length : Int) then (some false) else (bindL (loopM f FUEL 0) (fun r => some r) (fun s4 => some true))) = some (decide (xs = ys)) := by
  by_cases hl : xs.length = ys.length
  · rw [if_neg (by rw [hl]; simp), show ((0 : Int)) = ((0 : Nat) : Int) from rfl, eqGo xs ys hl hstep hend xs.length 0 FUEL (by omega) (fuelUp _ hN)]
    by_cases h : xs = ys
    · subst h; simp [bindL]
    · simp [bindL, h]
  · have : xs ≠ ys := fun e => hl (by rw [e])
    rw [if_pos (by simp; omega)]; simp [this]
theorem iteOpt {α : Type} {c d : Prop} [Decidable c] [Decidable d] {a b : α} (h : c ↔ d) : (if c then some a else some b) = some (if d then a else b) := by
  by_cases k : c
  · rw [if_pos k, if_pos (h.1 k)]
  · rw [if_neg k, if_neg (fun e => k (h.2 e))]
theorem iteOptN {α : Type} {c d : Prop} [Decidable c] [Decidable d] {a b : α} (h : c ↔ ¬ d) : (if c then some b else some a) = some (if d then a else b) := by
  by_cases k : d
  · rw [if_neg (fun e => h.1 e k), if_pos k]
  · rw [if_pos (h.2 k), if_neg k]
theorem cmpGo {f : Int → Option (Out Int Int)} (xs ys : List Int)
    (hstep : ∀ i (h : i < xs.length) (h' : i < ys.length), f (i : Int) = some (if xs[i] < ys[i] then .ret (-1) else if xs[i] > ys[i] then .ret 1 else .nxt ((i + 1 : Nat) : Int))) (hend : ∀ i, xs.length ≤ i ∨ ys.length ≤ i → f (i : Int) = some (.brk (i : Int))) : ∀ (m i k : Nat), i + m = xs.length → m < k →
      (∃ r, loopM f k (i : Int) = some (.ret r) ∧ r ≠ 0 ∧ xs ≠ ys) ∨ ∃ s, loopM f k (i : Int) = some (.brk s) ∧ (xs.length = ys.length → xs.drop i = ys.drop i)
  | 0, i, k, e, hk => by
    obtain ⟨k, rfl⟩ : ∃ q, k = q + 1 := ⟨k - 1, by omega⟩
    exact .inr ⟨_, by rw [loopM, hend i (.inl (by omega))], fun h => by rw [List.drop_of_length_le (by omega), List.drop_of_length_le (by omega)]⟩
  | m + 1, i, k, e, hk => by
    obtain ⟨k, rfl⟩ : ∃ q, k = q + 1 := ⟨k - 1, by omega⟩
    have hi : i < xs.length := by omega
    by_cases hi' : i < ys.length
    · have hne : ∀ h : xs[i] ≠ ys[i], xs ≠ ys := fun h e => h (by subst e; rfl)
      rw [loopM, hstep i hi hi']
      by_cases h1 : xs[i] < ys[i]
      · rw [if_pos h1]; exact .inl ⟨-1, rfl, by decide, hne (by omega)⟩
      · rw [if_neg h1]
        by_cases h2 : xs[i] > ys[i]
        · rw [if_pos h2]; exact .inl ⟨1, rfl, by decide, hne (by omega)⟩
        · rw [if_neg h2]
          rcases cmpGo xs ys hstep hend m (i + 1) k (by omega) (by omega) with h | ⟨s, g1, g2⟩
          · exact .inl h
          · refine .inr ⟨s, g1, fun hl => ?_⟩
            have h3 : xs[i] = ys[i] := by omega
            rw [List.drop_eq_getElem_cons hi, List.drop_eq_getElem_cons hi', g2 hl, h3]
    · exact .inr ⟨_, by rw [loopM, hend i (.inr (by omega))], fun h => by omega⟩
instance : LawfulBEq ByteArray where
  eq_of_beq {a b} h := ByteArray.ext (eq_of_beq (show (a.data == b.data) = true from h))
  rfl {a} := beq_self_eq_true a.data
theorem peta {α β : Type} (p : α × β) : (p.1, p.2) = p := rfl
theorem sm_list {α : Type} [Data α] {xs : List α} (h : Data.sm xs) : xs.length ≤ 1048576 ∧ ∀ x, x ∈ xs → Data.sm x := h
theorem lim_list {α : Type} [Data α] {xs : List α} (h : Data.lim xs) : xs.length ≤ 9223372036854775807 ∧ ∀ x, x ∈ xs → Data.lim x := h
end Go.Proofs.YtfkjjnddefojjaaGreatDoor.D
/- Printed by genplain.py: what the helpers of the law FnExactReplayLog compute. -/
set_option linter.unusedVariables false
set_option linter.unusedSimpArgs false
set_option linter.unnecessarySimpa false
set_option synthInstance.maxSize 20000
set_option synthInstance.maxHeartbeats 2000000
namespace Go.Proofs.YtfkjjnddefojjaaGreatDoor.D
open Go.RowKit
theorem z_szIntS : SzOk m_w_szIntS := fun xs l hl h0 h1 => szF xs (lim_list hl).1 (fun _ => trivial) h0 h1
theorem z_szEdgeS : SzOk m_w_szEdgeS := fun xs l hl h0 h1 => szF xs (lim_list hl).1 (fun _ => ⟨trivial, trivial, trivial, trivial⟩) h0 h1
theorem z_szGraph : SzOk m_w_szGraph := by
  intro x l hl h0 h1
  unfold m_w_szGraph
  try simp only [peta]
  obtain ⟨r1, e1, k1⟩ := z_szIntS x.1 l hl.1 (by omega) (by omega)
  rw [e1]; simp only [Option.bind_some]
  rcases k1 with k1 | ⟨k1, j1, s1⟩
  · exact ⟨-1, by rw [if_pos (decide_eq_true k1)], .inl (by decide)⟩
  rw [if_neg (by simpa using k1)]
  obtain ⟨r2, e2, k2⟩ := z_szEdgeS x.2 r1 hl.2 (by omega) (by omega)
  rw [e2]; simp only [Option.bind_some]
  rcases k2 with k2 | ⟨k2, j2, s2⟩
  · exact ⟨-1, by rw [if_pos (decide_eq_true k2)], .inl (by decide)⟩
  rw [if_neg (by simpa using k2)]
  exact ⟨_, rfl, .inr ⟨by omega, by omega, ⟨s1, s2⟩⟩⟩
theorem z_szGraphS : SzOk m_w_szGraphS := fun xs l hl h0 h1 => szL (f := m_w_szGraphS_l0 xs) xs (lim_list hl).1 (fun i h l k0 k1 => by
  obtain ⟨r, e, hr⟩ := z_szGraph xs[i] l ((lim_list hl).2 _ (List.getElem_mem h)) k0 k1
  refine ⟨r, ?_, hr⟩
  simp only [m_w_szGraphS_l0, lt_nat h, if_true, getI_nat h, Option.bind_some, peta, e, wrap_succ (show i < 9223372036854775807 by have := (lim_list hl).1; omega)]
  exact iteOpt (by simp)) (fun l => by simp only [m_w_szGraphS_l0, lt_self]; rfl) h0 h1
theorem z_szHistory : SzOk m_w_szHistory := by
  intro x l hl h0 h1
  unfold m_w_szHistory
  try simp only [peta]
  obtain ⟨r1, e1, k1⟩ := z_szGraphS x.2 l hl.2 (by omega) (by omega)
  rw [e1]; simp only [Option.bind_some]
  rcases k1 with k1 | ⟨k1, j1, s1⟩
  · exact ⟨-1, by rw [if_pos (decide_eq_true k1)], .inl (by decide)⟩
  rw [if_neg (by simpa using k1)]
  exact ⟨_, rfl, .inr ⟨by omega, by omega, ⟨trivial, s1⟩⟩⟩
theorem t_toIntS : ToOk m_w_toIntS := by
  intro xs hx
  have hn := (sm_list hx).1
  unfold m_w_toIntS
  rw [mkI_ok (by omega)]; simp only [Option.bind_some]
  rw [toL (f := m_w_toIntS_l0 xs) xs (by omega) (fun ys i h hy => by simp only [m_w_toIntS_l0, lt_nat h, if_true, getI_nat h, getI_nat (show i < ys.length by omega), Option.bind_some, peta, wrap_succ (show i < 9223372036854775807 by omega), Int.toNat_natCast]) (fun ys hy => by simp only [m_w_toIntS_l0, lt_self]; rfl)]
  rfl
theorem t_toEdge : ToOk m_w_toEdge := by
  intro x hx
  unfold m_w_toEdge
  simp only [peta, Option.bind_some]
theorem t_toEdgeS : ToOk m_w_toEdgeS := by
  intro xs hx
  have hn := (sm_list hx).1
  unfold m_w_toEdgeS
  rw [mkI_ok (by omega)]; simp only [Option.bind_some]
  rw [toL (f := m_w_toEdgeS_l0 xs) xs (by omega) (fun ys i h hy => by simp only [m_w_toEdgeS_l0, lt_nat h, if_true, getI_nat h, getI_nat (show i < ys.length by omega), Option.bind_some, peta, t_toEdge xs[i] ((sm_list hx).2 _ (List.getElem_mem h)), wrap_succ (show i < 9223372036854775807 by omega), Int.toNat_natCast]) (fun ys hy => by simp only [m_w_toEdgeS_l0, lt_self]; rfl)]
  rfl
theorem t_toGraph : ToOk m_w_toGraph := by
  intro x hx
  unfold m_w_toGraph
  simp only [peta, Option.bind_some, t_toIntS x.1 hx.1, t_toEdgeS x.2 hx.2]
theorem t_toGraphS : ToOk m_w_toGraphS := by
  intro xs hx
  have hn := (sm_list hx).1
  unfold m_w_toGraphS
  rw [mkI_ok (by omega)]; simp only [Option.bind_some]
  rw [toL (f := m_w_toGraphS_l0 xs) xs (by omega) (fun ys i h hy => by simp only [m_w_toGraphS_l0, lt_nat h, if_true, getI_nat h, getI_nat (show i < ys.length by omega), Option.bind_some, peta, t_toGraph xs[i] ((sm_list hx).2 _ (List.getElem_mem h)), wrap_succ (show i < 9223372036854775807 by omega), Int.toNat_natCast]) (fun ys hy => by simp only [m_w_toGraphS_l0, lt_self]; rfl)]
  rfl
theorem t_toHistory : ToOk m_w_toHistory := by
  intro x hx
  unfold m_w_toHistory
  simp only [peta, Option.bind_some, t_toGraphS x.2 hx.2]
theorem q_eqIntS : EqOk m_w_eqIntS := fun xs ys hx hy => eqL (f := m_w_eqIntS_l0 xs ys) xs ys (by have := (sm_list hx).1; omega) (fun i h h' => by
  simp only [m_w_eqIntS_l0, lt_nat h, if_true, getI_nat h, getI_nat h', Option.bind_some, peta, wrap_succ (show i < 9223372036854775807 by have := (sm_list hx).1; omega)]
  first | exact iteOpt (by simp) | exact iteOptN (by simp) | exact iteOpt (by simp [Prod.ext_iff])) (by simp only [m_w_eqIntS_l0, lt_self]; rfl)
theorem q_eqEdge : EqOk m_w_eqEdge := by
  intro x y hx hy
  unfold m_w_eqEdge
  try simp only [peta, Option.bind_some]
  repeat' split
  all_goals simp_all [Prod.ext_iff]
theorem q_eqEdgeS : EqOk m_w_eqEdgeS := fun xs ys hx hy => eqL (f := m_w_eqEdgeS_l0 xs ys) xs ys (by have := (sm_list hx).1; omega) (fun i h h' => by
  simp only [m_w_eqEdgeS_l0, lt_nat h, if_true, getI_nat h, getI_nat h', Option.bind_some, peta, q_eqEdge xs[i] ys[i] ((sm_list hx).2 _ (List.getElem_mem h)) ((sm_list hy).2 _ (List.getElem_mem h')), wrap_succ (show i < 9223372036854775807 by have := (sm_list hx).1; omega)]
  first | exact iteOpt (by simp) | exact iteOptN (by simp) | exact iteOpt (by simp [Prod.ext_iff])) (by simp only [m_w_eqEdgeS_l0, lt_self]; rfl)
theorem q_eqGraph : EqOk m_w_eqGraph := by
  intro x y hx hy
  unfold m_w_eqGraph
  try simp only [peta, Option.bind_some, q_eqIntS x.1 y.1 hx.1 hy.1, q_eqEdgeS x.2 y.2 hx.2 hy.2]
  repeat' split
  all_goals simp_all [Prod.ext_iff]
theorem q_eqGraphS : EqOk m_w_eqGraphS := fun xs ys hx hy => eqL (f := m_w_eqGraphS_l0 xs ys) xs ys (by have := (sm_list hx).1; omega) (fun i h h' => by
  simp only [m_w_eqGraphS_l0, lt_nat h, if_true, getI_nat h, getI_nat h', Option.bind_some, peta, q_eqGraph xs[i] ys[i] ((sm_list hx).2 _ (List.getElem_mem h)) ((sm_list hy).2 _ (List.getElem_mem h')), wrap_succ (show i < 9223372036854775807 by have := (sm_list hx).1; omega)]
  first | exact iteOpt (by simp) | exact iteOptN (by simp) | exact iteOpt (by simp [Prod.ext_iff])) (by simp only [m_w_eqGraphS_l0, lt_self]; rfl)
theorem q_eqHistory : EqOk m_w_eqHistory := by
  intro x y hx hy
  unfold m_w_eqHistory
  try simp only [peta, Option.bind_some, q_eqGraphS x.2 y.2 hx.2 hy.2]
  repeat' split
  all_goals simp_all [Prod.ext_iff]
end Go.Proofs.YtfkjjnddefojjaaGreatDoor.D
/- Loops as steps on invariants; numbering in the order of discovery. No program text is named here. -/
set_option linter.unusedVariables false
set_option linter.unusedSimpArgs false
set_option linter.unnecessarySimpa false
namespace Go.Proofs.YtfkjjnddefojjaaGreatDoor.D
open Go.RowKit

/-! ### Loops -/
theorem loopM_go {R S : Type} {f : S → Option (Out R S)} (Inv : Nat → S → Prop) (Q : Out R S → Prop) (N : Nat)
    (h : ∀ i s, i ≤ N → Inv i s → (i < N ∧ ∃ s', f s = some (.nxt s') ∧ Inv (i + 1) s') ∨ ∃ o, f s = some o ∧ (∀ s', o ≠ .nxt s') ∧ Q o) {s : S} (h0 : Inv 0 s) (hN : N < FUEL) : ∃ o, loopM f FUEL s = some o ∧ Q o := by
  have key : ∀ (k i : Nat) (s : S), i ≤ N → N < i + k → Inv i s → ∃ o, loopM f k s = some o ∧ Q o := by
    intro k
    induction k with
    | zero => intro i s h1 h2; omega
    | succ k ih =>
      intro i s h1 h2 hI
      rcases h i s h1 hI with ⟨hi, s', e, hI'⟩ | ⟨o, e, hn, hq⟩
      · obtain ⟨o, e', hq⟩ := ih (i + 1) s' (by omega) (by omega) hI'
        exact ⟨o, by rw [loopM, e]; exact e', hq⟩
      · refine ⟨o, ?_, hq⟩
        rw [loopM, e]
        cases o with
        | nxt s' => exact absurd rfl (hn s')
        | brk s' => rfl
        | ret r => rfl
  exact key FUEL 0 s (by omega) (by omega) h0
theorem loopM_for {R S : Type} {f : S → Option (Out R S)} (Inv : Nat → S → Prop) (N : Nat) (h : ∀ i s, i < N → Inv i s → ∃ s', f s = some (.nxt s') ∧ Inv (i + 1) s') (he : ∀ s, Inv N s → f s = some (.brk s)) {s : S} (h0 : Inv 0 s) (hN : N < FUEL) : ∃ s', loopM f FUEL s = some (.brk s') ∧ Inv N s' := by
  obtain ⟨o, e, s', rfl, h⟩ := loopM_go (f := f) Inv (fun o => ∃ s', o = .brk s' ∧ Inv N s') N (fun i s hi hI => by
    by_cases h1 : i < N
    · exact .inl ⟨h1, h i s h1 hI⟩
    · obtain rfl : i = N := by omega
      exact .inr ⟨_, he s hI, (fun s' e => by cases e), s, rfl, hI⟩) h0 hN
  exact ⟨s', e, h⟩
theorem loopM_at {R S : Type} {f : S → Option (Out R S)} (st : Nat → S) (N : Nat) (h : ∀ i, i < N → f (st i) = some (.nxt (st (i + 1)))) (he : f (st N) = some (.brk (st N))) (hN : N < FUEL) : loopM f FUEL (st 0) = some (.brk (st N)) := loopM_all st N h he hN
theorem up63 {k : Nat} (h : k ≤ 9223372036854775807) : k < FUEL := fuelUp k h
theorem wrap_pred {i : Nat} (h : i ≤ 9223372036854775807) : IntKind.i64.wrap ((i : Int) - 1) = (i : Int) - 1 := wrapI (by omega) (by omega)
theorem appI_ok {α : Type} {b : Nat} {xs ys : List α} (h : (xs.length + ys.length) * b ≤ 140737488355328) : appI b xs ys = some (xs ++ ys) := by unfold appI; rw [if_pos h]
theorem bindL_ret {R S T : Type} {x : Option (Out R S)} {r : R} {kr : R → Option T} {k : S → Option T} (h : x = some (.ret r)) : bindL x kr k = kr r := by rw [h]; rfl
theorem bindL_brk {R S T : Type} {x : Option (Out R S)} {s : S} {kr : R → Option T} {k : S → Option T} (h : x = some (.brk s)) : bindL x kr k = k s := by rw [h]; rfl

/-! ### Places of lists -/
def nth {α : Type} [Inhabited α] (xs : List α) (i : Int) : α := xs.getD i.toNat default
section
variable {α : Type} [Inhabited α] {xs ys : List α}
theorem getI_nth {i : Int} (h0 : 0 ≤ i) (h1 : i < xs.length) : getI xs i = some (nth xs i) := by
  unfold getI nth
  rw [if_pos h0]
  have : i.toNat < xs.length := by omega
  simp [List.getD_eq_getElem?_getD, this]
theorem nth_nat {i : Nat} (h : i < xs.length) : nth xs (i : Int) = xs[i] := by simp [nth, List.getD_eq_getElem?_getD, h]
theorem nth_mem {i : Int} (h0 : 0 ≤ i) (h1 : i < xs.length) : nth xs i ∈ xs := by
  have : i.toNat < xs.length := by omega
  have e : nth xs i = xs[i.toNat] := by simp [nth, List.getD_eq_getElem?_getD, this]
  rw [e]; exact List.getElem_mem this
theorem nth_append_left {i : Int} (h0 : 0 ≤ i) (h1 : i < xs.length) : nth (xs ++ ys) i = nth xs i := by
  have : i.toNat < xs.length := by omega
  simp [nth, List.getD_eq_getElem?_getD, List.getElem?_append_left this]
theorem mem_nth {x : α} (h : x ∈ xs) : ∃ i : Nat, i < xs.length ∧ nth xs (i : Int) = x := by
  obtain ⟨i, hi, rfl⟩ := List.getElem_of_mem h
  exact ⟨i, hi, nth_nat hi⟩
end

/-! ### Numbering in the order of discovery -/
section
variable {κ : Type} [DecidableEq κ]
variable {nx : κ → List (Option κ)} {first : κ}
end
end Go.Proofs.YtfkjjnddefojjaaGreatDoor.D
/- Marks put into a result, and held there. No program text is named here. -/
set_option linter.unusedVariables false
set_option linter.unusedSimpArgs false
set_option linter.unnecessarySimpa false
set_option linter.unusedSectionVars false
namespace Go.Proofs.YtfkjjnddefojjaaGreatDoor.D
open Go.RowKit

section
variable {α : Type} [Inhabited α]
def smk (mk : α → Nat) : List α → Nat
  | [] => 0
  | x :: xs => mk x + smk mk xs
def mkd (mk : α → Nat) (m : α → Nat → α) : List α → Nat → List α
  | [], _ => []
  | x :: xs, k => m x k :: mkd mk m xs (k + mk x)
theorem smk_snoc (mk : α → Nat) : ∀ (xs : List α) (x : α), smk mk (xs ++ [x]) = smk mk xs + mk x
  | [], x => by simp [smk]
  | y :: xs, x => by simp [smk, smk_snoc mk xs x, Nat.add_assoc]
theorem mkd_snoc (mk : α → Nat) (m : α → Nat → α) : ∀ (xs : List α) (x : α) (k : Nat), mkd mk m (xs ++ [x]) k = mkd mk m xs k ++ [m x (k + smk mk xs)]
  | [], x, k => by simp [mkd, smk]
  | y :: xs, x, k => by simp [mkd, smk, mkd_snoc mk m xs x, Nat.add_assoc]
theorem mkd_length (mk : α → Nat) (m : α → Nat → α) : ∀ (xs : List α) (k : Nat), (mkd mk m xs k).length = xs.length
  | [], _ => rfl
  | x :: xs, k => by simp [mkd, mkd_length mk m xs]
theorem mkd_take (mk : α → Nat) (m : α → Nat → α) : ∀ (xs : List α) (k i : Nat), (mkd mk m xs k).take i = mkd mk m (xs.take i) k
  | [], _, _ => by simp [mkd]
  | x :: xs, k, 0 => by simp [mkd]
  | x :: xs, k, i + 1 => by simp [mkd, mkd_take mk m xs]
theorem takeS {xs : List α} {k : Nat} (h : k < xs.length) : xs.take (k + 1) = xs.take k ++ [nth xs (k : Int)] := by
  rw [List.take_succ_eq_append_getElem h, nth_nat h]
theorem mkd_at (mk : α → Nat) (m : α → Nat → α) (xs : List α) (k : Nat) {i : Nat} (h : i < xs.length) : nth (mkd mk m xs k) (i : Int) = m (nth xs (i : Int)) (k + smk mk (xs.take i)) := by
  have h' : i < (mkd mk m xs k).length := by rw [mkd_length]; exact h
  have e := takeS h'
  rw [mkd_take, mkd_take, takeS h, mkd_snoc] at e
  have := List.append_cancel_left e
  simpa using this.symm
theorem smk_take (mk : α → Nat) {xs : List α} {i : Nat} (h : i < xs.length) : smk mk (xs.take (i + 1)) = smk mk (xs.take i) + mk (nth xs (i : Int)) := by rw [takeS h, smk_snoc]
theorem smk_le (mk : α → Nat) : ∀ (xs : List α) (i : Nat), smk mk (xs.take i) ≤ smk mk xs
  | [], _ => by simp
  | x :: xs, 0 => by simp [smk]
  | x :: xs, i + 1 => by simp [smk]; exact smk_le mk xs i
theorem smk_bound (mk : α → Nat) {B : Nat} : ∀ (xs : List α), (∀ x ∈ xs, mk x ≤ B) → smk mk xs ≤ xs.length * B
  | [], _ => by simp [smk]
  | x :: xs, h => by
    have h1 := smk_bound mk xs fun y hy => h y (by simp [hy])
    have h2 := h x (by simp)
    simp only [smk, List.length_cons, Nat.add_mul, Nat.one_mul]; omega
theorem set_mid {xs ys : List α} {i : Nat} (hi : i < xs.length) (hl : ys.length = i) (x : α) : (ys ++ xs.drop i).set i x = ys ++ [x] ++ xs.drop (i + 1) := by
  rw [List.set_append_right _ _ (by omega), hl, Nat.sub_self, List.drop_eq_getElem_cons hi, List.set_cons_zero, List.append_assoc]; rfl
theorem markL {R : Type} {f : List α × Int × Int → Option (Out R (List α × Int × Int))} (xs : List α) (mk : α → Nat) (m : α → Nat → α) (hN : xs.length ≤ 9223372036854775807) {k : Nat} (hk : k + smk mk xs ≤ 4611686018427387904)
    (hstep : ∀ ys (i k : Nat), i < xs.length → ys.length = xs.length → nth ys (i : Int) = nth xs (i : Int) → k + mk (nth xs (i : Int)) ≤ 4611686018427387904 → f (ys, (k : Int), (i : Int)) = some (.nxt (ys.set i (m (nth xs (i : Int)) k), ((k + mk (nth xs (i : Int)) : Nat) : Int), ((i + 1 : Nat) : Int))))
    (hend : ∀ ys (k : Nat), ys.length = xs.length → f (ys, (k : Int), (xs.length : Int)) = some (.brk (ys, (k : Int), (xs.length : Int)))) :
    loopM f FUEL (xs, (k : Int), 0) = some (.brk (mkd mk m xs k, ((k + smk mk xs : Nat) : Int), (xs.length : Int))) := by
  have hlen : ∀ i, i ≤ xs.length → (mkd mk m (xs.take i) k ++ xs.drop i).length = xs.length := fun i hi => by
    rw [List.length_append, mkd_length, List.length_take, List.length_drop]; omega
  have := loopM_at (f := f) (fun i => (mkd mk m (xs.take i) k ++ xs.drop i, ((k + smk mk (xs.take i) : Nat) : Int), (i : Int))) xs.length (fun i hi => by
    have hl : (mkd mk m (xs.take i) k).length = i := by rw [mkd_length, List.length_take]; omega
    have hle := smk_le mk xs (i + 1)
    rw [smk_take mk hi] at hle
    rw [hstep _ i (k + smk mk (xs.take i)) hi (hlen i (by omega)) ?_ (by omega), set_mid hi hl, takeS hi, mkd_snoc, smk_snoc, Nat.add_assoc]
    have h' : i < (mkd mk m (xs.take i) k ++ xs.drop i).length := by rw [hlen i (by omega)]; exact hi
    rw [nth_nat h', nth_nat hi, List.getElem_append_right (by omega)]
    simp [hl]) (by
    have := hend (mkd mk m (xs.take xs.length) k ++ xs.drop xs.length) (k + smk mk (xs.take xs.length)) (hlen _ (Nat.le_refl _))
    exact this) (up63 hN)
  simpa [mkd, smk] using this
theorem heldL {f : Int × Int → Option (Out Int (Int × Int))} (xs : List α) (mk : α → Nat) (m : α → Nat → α) (hN : xs.length ≤ 9223372036854775807) {k : Nat} (hk : k + smk mk xs ≤ 4611686018427387904)
    (hstep : ∀ (i k' : Nat), i < xs.length → nth (mkd mk m xs k) (i : Int) = m (nth xs (i : Int)) k' → k' + mk (nth xs (i : Int)) ≤ 4611686018427387904 → f ((k' : Int), (i : Int)) = some (.nxt (((k' + mk (nth xs (i : Int)) : Nat) : Int), ((i + 1 : Nat) : Int))))
    (hend : ∀ (k' : Nat), f ((k' : Int), (xs.length : Int)) = some (.brk ((k' : Int), (xs.length : Int)))) :
    loopM f FUEL ((k : Int), 0) = some (.brk (((k + smk mk xs : Nat) : Int), (xs.length : Int))) := by
  have := loopM_at (f := f) (fun i => (((k + smk mk (xs.take i) : Nat) : Int), (i : Int))) xs.length (fun i hi => by
    have hle := smk_le mk xs (i + 1)
    rw [smk_take mk hi] at hle
    rw [hstep i (k + smk mk (xs.take i)) hi (mkd_at mk m xs k hi) (by omega), smk_take mk hi, Nat.add_assoc]) (hend _) (up63 hN)
  simpa [smk] using this
end
end Go.Proofs.YtfkjjnddefojjaaGreatDoor.D
/- Printed by genmark.py: what the helpers of the law that mark and look for marks compute. -/
set_option linter.unusedVariables false
set_option linter.unusedSimpArgs false
set_option linter.unnecessarySimpa false
set_option maxRecDepth 4000
set_option synthInstance.maxSize 20000
set_option synthInstance.maxHeartbeats 2000000
namespace Go.Proofs.YtfkjjnddefojjaaGreatDoor.D
open Go.RowKit
theorem getI_setM {α : Type} {xs : List α} {i : Nat} {x : α} (h : i < xs.length) : getI (xs.set i x) (i : Int) = some x := by
  rw [getI_nat (by rw [List.length_set]; exact h)]; simp
theorem ltzM {n : Nat} : decide ((n : Int) < 0) = false := by simp only [decide_eq_false_iff_not]; omega
def c_IntS (x : Int) : Nat := 1
def e_IntS (x : Int) (k : Nat) : Int := ((k : Nat) : Int)
theorem cb_IntS (xs : List Int) (hx : Data.sm xs) : smk c_IntS xs ≤ 1048576 * 1 := by
  obtain ⟨h1, h2⟩ := sm_list hx
  have b := smk_bound c_IntS (B := 1) xs (fun x hx => by
    simp [c_IntS])
  exact Nat.le_trans b (Nat.mul_le_mul_right _ h1)
theorem mk_IntS (xs : List Int) (hx : Data.sm xs) {k : Nat} (hk : k + smk c_IntS xs ≤ 4611686018427387904) : m_w_markIntS xs (k : Int) = some (((k + smk c_IntS xs : Nat) : Int), mkd c_IntS e_IntS xs k) := by
  obtain ⟨hN, hs⟩ := sm_list hx
  unfold m_w_markIntS
  rw [bindL_brk (markL (f := m_w_markIntS_l0) xs c_IntS e_IntS (by omega) hk (fun ys i k hi hl he hk => by
    have hz0 := hs _ (nth_mem (xs := xs) (i := (i : Int)) (by omega) (by omega))
    unfold m_w_markIntS_l0
    have hi' : i < ys.length := by omega
    generalize hz : nth xs (i : Int) = z at *
    have hk' : k + (1) ≤ 4611686018427387904 := hk
    simp only
    rw [if_pos (by simp; omega), getI_nth (by omega) (by omega), he]
    simp only [Option.bind_some, Int.toNat_natCast, getI_setM hi', List.set_set, wrap_succ (show i < 9223372036854775807 by omega), wrap_succ (show k < 9223372036854775807 by omega)]
    have e : k + c_IntS z = k + 1 := by unfold c_IntS; omega
    rw [e]; rfl) (fun ys k hl => by
    unfold m_w_markIntS_l0
    simp only
    rw [if_neg (by simp; omega)]))]
theorem hd_IntS (xs : List Int) (hx : Data.sm xs) {k : Nat} (hk : k + smk c_IntS xs ≤ 4611686018427387904) : m_w_heldIntS (mkd c_IntS e_IntS xs k) (k : Int) = some ((k + smk c_IntS xs : Nat) : Int) := by
  obtain ⟨hN, hs⟩ := sm_list hx
  unfold m_w_heldIntS
  rw [bindL_brk (heldL (f := m_w_heldIntS_l0 _) xs c_IntS e_IntS (by omega) hk (fun i k' hi he hk => by
    have hz0 := hs _ (nth_mem (xs := xs) (i := (i : Int)) (by omega) (by omega))
    unfold m_w_heldIntS_l0
    generalize hz : nth xs (i : Int) = z at *
    have hk' : k' + (1) ≤ 4611686018427387904 := hk
    simp only
    rw [if_pos (by simp [mkd_length]; omega), getI_nth (by omega) (by rw [mkd_length]; omega), he]
    simp only [e_IntS, Option.bind_some, bne_self_eq_false, Bool.false_eq_true, if_false, ltzM, wrap_succ (show i < 9223372036854775807 by omega), wrap_succ (show k' < 9223372036854775807 by omega)]
    have e : k' + c_IntS z = k' + 1 := by unfold c_IntS; omega
    rw [e]) (fun k' => by
    unfold m_w_heldIntS_l0
    simp only
    rw [if_neg (by simp [mkd_length])]))]
def c_EdgeS (x : Int × Int × Int × Int) : Nat := 1 + 1 + 1 + 1
def e_EdgeS (x : Int × Int × Int × Int) (k : Nat) : Int × Int × Int × Int := (((k : Nat) : Int), ((k + 1 : Nat) : Int), ((k + 1 + 1 : Nat) : Int), ((k + 1 + 1 + 1 : Nat) : Int))
theorem cb_EdgeS (xs : List (Int × Int × Int × Int)) (hx : Data.sm xs) : smk c_EdgeS xs ≤ 1048576 * 4 := by
  obtain ⟨h1, h2⟩ := sm_list hx
  have b := smk_bound c_EdgeS (B := 4) xs (fun x hx => by
    simp [c_EdgeS])
  exact Nat.le_trans b (Nat.mul_le_mul_right _ h1)
theorem mk_EdgeS (xs : List (Int × Int × Int × Int)) (hx : Data.sm xs) {k : Nat} (hk : k + smk c_EdgeS xs ≤ 4611686018427387904) : m_w_markEdgeS xs (k : Int) = some (((k + smk c_EdgeS xs : Nat) : Int), mkd c_EdgeS e_EdgeS xs k) := by
  obtain ⟨hN, hs⟩ := sm_list hx
  unfold m_w_markEdgeS
  rw [bindL_brk (markL (f := m_w_markEdgeS_l0) xs c_EdgeS e_EdgeS (by omega) hk (fun ys i k hi hl he hk => by
    have hz0 := hs _ (nth_mem (xs := xs) (i := (i : Int)) (by omega) (by omega))
    unfold m_w_markEdgeS_l0
    have hi' : i < ys.length := by omega
    generalize hz : nth xs (i : Int) = z at *
    have hk' : k + (1 + 1 + 1 + 1) ≤ 4611686018427387904 := hk
    simp only
    rw [if_pos (by simp; omega), getI_nth (by omega) (by omega), he]
    simp only [Option.bind_some, Int.toNat_natCast, getI_setM hi', List.set_set, wrap_succ (show i < 9223372036854775807 by omega), wrap_succ (show k < 9223372036854775807 by omega), wrap_succ (show k + 1 < 9223372036854775807 by omega), wrap_succ (show k + 1 + 1 < 9223372036854775807 by omega), wrap_succ (show k + 1 + 1 + 1 < 9223372036854775807 by omega)]
    have e : k + c_EdgeS z = k + 1 + 1 + 1 + 1 := by unfold c_EdgeS; omega
    rw [e]; rfl) (fun ys k hl => by
    unfold m_w_markEdgeS_l0
    simp only
    rw [if_neg (by simp; omega)]))]
theorem hd_EdgeS (xs : List (Int × Int × Int × Int)) (hx : Data.sm xs) {k : Nat} (hk : k + smk c_EdgeS xs ≤ 4611686018427387904) : m_w_heldEdgeS (mkd c_EdgeS e_EdgeS xs k) (k : Int) = some ((k + smk c_EdgeS xs : Nat) : Int) := by
  obtain ⟨hN, hs⟩ := sm_list hx
  unfold m_w_heldEdgeS
  rw [bindL_brk (heldL (f := m_w_heldEdgeS_l0 _) xs c_EdgeS e_EdgeS (by omega) hk (fun i k' hi he hk => by
    have hz0 := hs _ (nth_mem (xs := xs) (i := (i : Int)) (by omega) (by omega))
    unfold m_w_heldEdgeS_l0
    generalize hz : nth xs (i : Int) = z at *
    have hk' : k' + (1 + 1 + 1 + 1) ≤ 4611686018427387904 := hk
    simp only
    rw [if_pos (by simp [mkd_length]; omega), getI_nth (by omega) (by rw [mkd_length]; omega), he]
    simp only [e_EdgeS, Option.bind_some, bne_self_eq_false, Bool.false_eq_true, if_false, ltzM, wrap_succ (show i < 9223372036854775807 by omega), wrap_succ (show k' < 9223372036854775807 by omega), wrap_succ (show k' + 1 < 9223372036854775807 by omega), wrap_succ (show k' + 1 + 1 < 9223372036854775807 by omega), wrap_succ (show k' + 1 + 1 + 1 < 9223372036854775807 by omega)]
    have e : k' + c_EdgeS z = k' + 1 + 1 + 1 + 1 := by unfold c_EdgeS; omega
    rw [e]) (fun k' => by
    unfold m_w_heldEdgeS_l0
    simp only
    rw [if_neg (by simp [mkd_length])]))]
def c_GraphS (x : (List Int) × (List (Int × Int × Int × Int))) : Nat := smk c_IntS (x.1) + smk c_EdgeS (x.2)
def e_GraphS (x : (List Int) × (List (Int × Int × Int × Int))) (k : Nat) : (List Int) × (List (Int × Int × Int × Int)) := (mkd c_IntS e_IntS (x.1) (k), mkd c_EdgeS e_EdgeS (x.2) (k + smk c_IntS (x.1)))
theorem cb_GraphS (xs : List ((List Int) × (List (Int × Int × Int × Int)))) (hx : Data.sm xs) : smk c_GraphS xs ≤ 1048576 * 5242880 := by
  obtain ⟨h1, h2⟩ := sm_list hx
  have b := smk_bound c_GraphS (B := 5242880) xs (fun x hx => by
    have hs := h2 x hx
    have q0 := cb_IntS (x.1) hs.1
    have q1 := cb_EdgeS (x.2) hs.2
    unfold c_GraphS; omega)
  exact Nat.le_trans b (Nat.mul_le_mul_right _ h1)
theorem mk_GraphS (xs : List ((List Int) × (List (Int × Int × Int × Int)))) (hx : Data.sm xs) {k : Nat} (hk : k + smk c_GraphS xs ≤ 4611686018427387904) : m_w_markGraphS xs (k : Int) = some (((k + smk c_GraphS xs : Nat) : Int), mkd c_GraphS e_GraphS xs k) := by
  obtain ⟨hN, hs⟩ := sm_list hx
  unfold m_w_markGraphS
  rw [bindL_brk (markL (f := m_w_markGraphS_l0) xs c_GraphS e_GraphS (by omega) hk (fun ys i k hi hl he hk => by
    have hz0 := hs _ (nth_mem (xs := xs) (i := (i : Int)) (by omega) (by omega))
    unfold m_w_markGraphS_l0
    have hi' : i < ys.length := by omega
    generalize hz : nth xs (i : Int) = z at *
    have hk' : k + (smk c_IntS (z.1) + smk c_EdgeS (z.2)) ≤ 4611686018427387904 := hk
    have m0 := mk_IntS (z.1) hz0.1 (k := k) (by omega)
    have m1 := mk_EdgeS (z.2) hz0.2 (k := k + smk c_IntS (z.1)) (by omega)
    simp only
    rw [if_pos (by simp; omega), getI_nth (by omega) (by omega), he]
    simp only [Option.bind_some, Int.toNat_natCast, getI_setM hi', List.set_set, wrap_succ (show i < 9223372036854775807 by omega), m0, m1]
    have e : k + c_GraphS z = k + smk c_IntS (z.1) + smk c_EdgeS (z.2) := by unfold c_GraphS; omega
    rw [e]; rfl) (fun ys k hl => by
    unfold m_w_markGraphS_l0
    simp only
    rw [if_neg (by simp; omega)]))]
theorem hd_GraphS (xs : List ((List Int) × (List (Int × Int × Int × Int)))) (hx : Data.sm xs) {k : Nat} (hk : k + smk c_GraphS xs ≤ 4611686018427387904) : m_w_heldGraphS (mkd c_GraphS e_GraphS xs k) (k : Int) = some ((k + smk c_GraphS xs : Nat) : Int) := by
  obtain ⟨hN, hs⟩ := sm_list hx
  unfold m_w_heldGraphS
  rw [bindL_brk (heldL (f := m_w_heldGraphS_l0 _) xs c_GraphS e_GraphS (by omega) hk (fun i k' hi he hk => by
    have hz0 := hs _ (nth_mem (xs := xs) (i := (i : Int)) (by omega) (by omega))
    unfold m_w_heldGraphS_l0
    generalize hz : nth xs (i : Int) = z at *
    have hk' : k' + (smk c_IntS (z.1) + smk c_EdgeS (z.2)) ≤ 4611686018427387904 := hk
    have m0 := hd_IntS (z.1) hz0.1 (k := k') (by omega)
    have m1 := hd_EdgeS (z.2) hz0.2 (k := k' + smk c_IntS (z.1)) (by omega)
    simp only
    rw [if_pos (by simp [mkd_length]; omega), getI_nth (by omega) (by rw [mkd_length]; omega), he]
    simp only [e_GraphS, Option.bind_some, bne_self_eq_false, Bool.false_eq_true, if_false, ltzM, wrap_succ (show i < 9223372036854775807 by omega), m0, m1]
    have e : k' + c_GraphS z = k' + smk c_IntS (z.1) + smk c_EdgeS (z.2) := by unfold c_GraphS; omega
    rw [e]) (fun k' => by
    unfold m_w_heldGraphS_l0
    simp only
    rw [if_neg (by simp [mkd_length])]))]
def n_History (x : Int × (List ((List Int) × (List (Int × Int × Int × Int))))) : Nat := smk c_GraphS (x.2)
def d_History (x : Int × (List ((List Int) × (List (Int × Int × Int × Int))))) (k : Nat) : Int × (List ((List Int) × (List (Int × Int × Int × Int)))) := (x.1, mkd c_GraphS e_GraphS (x.2) (k))
theorem nb_History (x : Int × (List ((List Int) × (List (Int × Int × Int × Int))))) (hx : Data.sm x) : n_History x ≤ 5497558138880 := by
  have q0 := cb_GraphS (x.2) hx.2
  unfold n_History; omega
theorem mk_History (x : Int × (List ((List Int) × (List (Int × Int × Int × Int))))) (hx : Data.sm x) {k : Nat} (hk : k + n_History x ≤ 4611686018427387904) : m_w_markHistory x (k : Int) = some (((k + n_History x : Nat) : Int), d_History x k) := by
  unfold n_History at hk
  have m0 := mk_GraphS (x.2) hx.2 (k := k) (by omega)
  unfold m_w_markHistory
  simp only [peta, Option.bind_some, m0]
  have e : k + n_History x = k + smk c_GraphS (x.2) := by unfold n_History; omega
  rw [e]; rfl
theorem hd_History (x : Int × (List ((List Int) × (List (Int × Int × Int × Int))))) (hx : Data.sm x) {k : Nat} (hk : k + n_History x ≤ 4611686018427387904) : m_w_heldHistory (d_History x k) (k : Int) = some ((k + n_History x : Nat) : Int) := by
  unfold n_History at hk
  have m0 := hd_GraphS (x.2) hx.2 (k := k) (by omega)
  unfold m_w_heldHistory d_History
  simp only [peta, Option.bind_some, Bool.false_eq_true, if_false, ltzM, m0]
  have e : k + n_History x = k + smk c_GraphS (x.2) := by unfold n_History; omega
  rw [e]
end Go.Proofs.YtfkjjnddefojjaaGreatDoor.D
/- Lists of pairs in strict order: one for each set; insertion, sorting, leaving out what is alike. No program in sight. -/
set_option linter.unusedVariables false
set_option linter.unusedSimpArgs false
set_option linter.unnecessarySimpa false
namespace Go.Proofs.YtfkjjnddefojjaaGreatDoor.D
abbrev Pr := Int × Int
def ltP (a b : Pr) : Prop := a.1 < b.1 ∨ a.1 = b.1 ∧ a.2 < b.2
instance (a b : Pr) : Decidable (ltP a b) := inferInstanceAs (Decidable (_ ∨ _))
end Go.Proofs.YtfkjjnddefojjaaGreatDoor.D
/- Sets of pairs: what both programs reckon. -/
set_option linter.unusedVariables false
set_option linter.unusedSimpArgs false
set_option linter.unnecessarySimpa false
set_option linter.unusedSectionVars false
namespace Go.Proofs.YtfkjjnddefojjaaGreatDoor.D
open Go.RowKit

theorem find_go {α R : Type} {f : Int → Option (Out R Int)} (l : List α) (b : α → Bool) (r : Nat → R) (hN : l.length ≤ 9223372036854775807) (h : ∀ i (hi : i < l.length), f (i : Int) = some (if b l[i] then .ret (r i) else .nxt ((i + 1 : Nat) : Int))) (he : f (l.length : Int) = some (.brk (l.length : Int))) :
    (∃ (i : Nat) (hi : i < l.length), b l[i] = true ∧ (∀ j (hj : j < i), b (l[j]'(by omega)) = false) ∧ loopM f FUEL 0 = some (.ret (r i))) ∨ ((∀ x, x ∈ l → b x = false) ∧ loopM f FUEL 0 = some (.brk (l.length : Int))) := by
  obtain ⟨o, e, hQ⟩ := loopM_go (f := f) (fun i s => s = (i : Int) ∧ ∀ j (hj : j < l.length), j < i → b l[j] = false) (fun o => (∃ (i : Nat) (hi : i < l.length), b l[i] = true ∧ (∀ j (hj : j < i), b (l[j]'(by omega)) = false) ∧ o = .ret (r i)) ∨ ((∀ x, x ∈ l → b x = false) ∧ o = .brk (l.length : Int))) l.length (fun i s hi hI => by
    obtain ⟨rfl, hI⟩ := hI
    by_cases h1 : i < l.length
    · cases hb : b l[i] with
      | true => exact .inr ⟨_, by rw [h i h1, hb, if_pos rfl], fun s' hh => by simp at hh, .inl ⟨i, h1, hb, fun j hj => hI j (by omega) hj, by simp⟩⟩
      | false => exact .inl ⟨h1, _, by rw [h i h1, hb, if_neg (by simp)], rfl, fun j hj hji => by
          by_cases c : j = i
          · subst c; exact hb
          · exact hI j hj (by omega)⟩
    · obtain rfl : i = l.length := by omega
      exact .inr ⟨_, he, fun s' hh => by simp at hh, .inr ⟨fun x hx => by
        obtain ⟨j, hj, rfl⟩ := List.getElem_of_mem hx
        exact hI j hj hj, rfl⟩⟩) (s := 0) ⟨rfl, fun j hj h0 => by omega⟩ (fuelUp _ hN)
  rcases hQ with ⟨i, hi, h1, h2, rfl⟩ | ⟨h1, rfl⟩
  · exact .inl ⟨i, hi, h1, h2, e⟩
  · exact .inr ⟨h1, e⟩
section
variable {l m : List Pr} {p : Pr}
end
end Go.Proofs.YtfkjjnddefojjaaGreatDoor.D
/- ArePairs always answers. -/
set_option linter.unusedVariables false
set_option linter.unusedSimpArgs false
set_option linter.unnecessarySimpa false
set_option linter.unusedSectionVars false
namespace Go.Proofs.YtfkjjnddefojjaaGreatDoor.D
open Go.RowKit

end Go.Proofs.YtfkjjnddefojjaaGreatDoor.D
/- IsDelta: both programs answer alike; sizes of messages. -/
set_option linter.unusedVariables false
set_option linter.unusedSimpArgs false
set_option linter.unnecessarySimpa false
set_option linter.unusedSectionVars false
set_option synthInstance.maxSize 20000
set_option synthInstance.maxHeartbeats 2000000
namespace Go.Proofs.YtfkjjnddefojjaaGreatDoor.D
open Go.RowKit

end Go.Proofs.YtfkjjnddefojjaaGreatDoor.D
/- Numerals, lists of pairs and messages as text: both programs write the same. -/
set_option linter.unusedVariables false
set_option linter.unusedSimpArgs false
set_option linter.unnecessarySimpa false
set_option linter.unusedSectionVars false
set_option synthInstance.maxSize 20000
set_option synthInstance.maxHeartbeats 2000000
namespace Go.Proofs.YtfkjjnddefojjaaGreatDoor.D
open Go.RowKit

def mkB (l : List UInt8) : ByteArray := ⟨l.toArray⟩
theorem mkB_app (a b : List UInt8) : mkB a ++ mkB b = mkB (a ++ b) := ByteArray.ext (by simp [mkB])
theorem mkB_size (a : List UInt8) : (mkB a).size = a.length := by simp [mkB, ByteArray.size]
theorem mkB_list (a : List UInt8) : (mkB a).data.toList = a := by simp [mkB]
theorem catM (a b : List UInt8) (h : a.length + b.length ≤ 9223372036854775807) : catS (mkB a) (mkB b) = some (mkB (a ++ b)) := by
  unfold catS chk
  rw [mkB_size, mkB_size, if_pos h, Option.bind_some, mkB_app]
theorem digW : ∀ d : Fin 10, IntKind.u8.wrap (IntKind.i64.wrap (48 + (d.val : Int))) = 48 + (d.val : Int) := by decide
theorem digB {d : Nat} (h : d < 10) : bytesS [IntKind.u8.wrap (IntKind.i64.wrap (48 + (d : Int)))] = mkB [UInt8.ofNat (48 + d)] := by
  rw [digW ⟨d, h⟩]
  show ByteArray.empty.push (UInt8.ofNat (48 + (d : Int)).toNat) = _
  rw [show (48 + (d : Int)).toNat = 48 + d by omega]; rfl
theorem digA (m : Int) : (if decide ((Int.tmod m 10) < 0) then (some (IntKind.i64.wrap (-(Int.tmod m 10)))) else (some (Int.tmod m 10)) : Option Int) = some ((m.natAbs % 10 : Nat) : Int) := by
  by_cases h : m < 0
  · obtain ⟨k, rfl⟩ : ∃ k : Nat, m = -(k : Int) := ⟨m.natAbs, by omega⟩
    have e : Int.tmod (-(k : Int)) 10 = -((k % 10 : Nat) : Int) := by rw [Int.neg_tmod]; rfl
    rw [e, Int.natAbs_neg, Int.natAbs_natCast]
    by_cases h0 : k % 10 = 0
    · rw [h0]; rfl
    · rw [if_pos (decide_eq_true (by omega)), Int.neg_neg, wrapI (by omega) (by omega)]
  · obtain ⟨k, rfl⟩ : ∃ k : Nat, m = (k : Int) := ⟨m.natAbs, by omega⟩
    have e : Int.tmod (k : Int) 10 = ((k % 10 : Nat) : Int) := rfl
    rw [e, if_neg (by simp; omega), Int.natAbs_natCast]
theorem quoA {m : Int} (h : I64 m) : quoI m 10 = m.tdiv 10 ∧ (m.tdiv 10).natAbs = m.natAbs / 10 := by
  have k : (m.tdiv 10).natAbs = m.natAbs / 10 := Int.natAbs_tdiv m 10
  unfold I64 at h
  refine ⟨?_, k⟩
  unfold quoI
  exact wrapI (by omega) (by omega)
theorem fmtStep {m : Int} {out : List UInt8} (h0 : m ≠ 0) (h : I64 m) (hl : out.length ≤ 1000) : m_s_FormatInt_l0 (m, mkB out) = some (.nxt (m.tdiv 10, mkB (UInt8.ofNat (48 + m.natAbs % 10) :: out))) := by
  unfold m_s_FormatInt_l0
  simp only []
  rw [if_pos (by simpa using h0), digA, Option.bind_some, digB (Nat.mod_lt _ (by omega)), catM _ _ (by simp; omega), Option.bind_some, (quoA h).1]; rfl
theorem nD_pos (u : Nat) : 1 ≤ Lib.nDigits u := by
  by_cases h : u < 10
  · rw [Lib.nDigits_small h]; omega
  · rw [Lib.nDigits_big h]; omega
theorem fmtLoop : ∀ (k : Nat) (m : Int) (out : List UInt8), m ≠ 0 → I64 m → Lib.nDigits m.natAbs ≤ k → out.length + Lib.nDigits m.natAbs ≤ 100 → loopM m_s_FormatInt_l0 (k + 1) (m, mkB out) = some (.brk (0, mkB (Lib.decDigits m.natAbs ++ out)))
  | 0, m, out, _, _, h, _ => by have := nD_pos m.natAbs; omega
  | k + 1, m, out, h0, hm, h, hl => by
    rw [loopM, fmtStep h0 hm (by omega)]
    show loopM m_s_FormatInt_l0 (k + 1) (m.tdiv 10, _) = _
    have hq := (quoA hm).2
    by_cases h1 : m.natAbs < 10
    · have hz : m.tdiv 10 = 0 := by
        have : (m.tdiv 10).natAbs = 0 := by rw [hq]; omega
        omega
      rw [hz, loopM]
      have : m_s_FormatInt_l0 (0, mkB (UInt8.ofNat (48 + m.natAbs % 10) :: out)) = some (.brk (0, mkB (UInt8.ofNat (48 + m.natAbs % 10) :: out))) := rfl
      rw [this, Lib.decDigits_one h1, Nat.mod_eq_of_lt h1]; rfl
    · have hz : m.tdiv 10 ≠ 0 := by
        intro e
        rw [e] at hq
        have : m.natAbs / 10 = 0 := by simpa using hq.symm
        omega
      have hn := Lib.nDigits_big h1
      have hi : I64 (m.tdiv 10) := by unfold I64 at hm ⊢; omega
      rw [fmtLoop k _ _ hz hi (by rw [hq]; omega) (by rw [hq, List.length_cons]; omega), hq]
      have : Lib.decDigits m.natAbs = Lib.decDigits (m.natAbs / 10) ++ [UInt8.ofNat (48 + m.natAbs % 10)] := by rw [Lib.decDigits, dif_neg h1]
      rw [this, List.append_assoc]; rfl
theorem it_len {n : Int} (h : I64 n) : (Lib.itoa n).length ≤ 21 := Lib.itoa_length_le n h.1 h.2
theorem nD_le {n : Int} (h : I64 n) : Lib.nDigits n.natAbs ≤ 21 := by
  have := it_len h
  unfold Lib.itoa at this
  split at this
  · rw [List.length_cons, Lib.decDigits_length] at this; omega
  · rw [Lib.decDigits_length] at this
    rw [show n.natAbs = n.toNat by omega]; exact this
theorem fmtInt_s {n : Int} (h : I64 n) : m_s_FormatInt n = some (mkB (Lib.itoa n)) := by
  unfold m_s_FormatInt
  by_cases h0 : n = 0
  · subst h0
    rw [if_pos (by rfl : ((0 : Int) == 0) = true)]
    have : Lib.itoa 0 = [48] := by unfold Lib.itoa; rw [if_neg (by decide)]; exact Lib.decDigits_one (by decide)
    rw [this]; rfl
  rw [if_neg (by simpa using h0)]
  have hn := nD_le h
  have hf := fuelUp 100 (by omega)
  obtain ⟨k, hk⟩ : ∃ k, FUEL = k + 1 := ⟨FUEL - 1, by omega⟩
  have hL : loopM m_s_FormatInt_l0 FUEL (n, (⟨#[]⟩ : ByteArray)) = some (.brk (0, mkB (Lib.decDigits n.natAbs ++ []))) := by
    rw [hk]; exact fmtLoop k n [] h0 h (by omega) (by simp; omega)
  rw [bindL_brk hL, List.append_nil]
  have hd : (Lib.decDigits n.natAbs).length ≤ 21 := by rw [Lib.decDigits_length]; exact hn
  unfold Lib.itoa
  by_cases h1 : n < 0
  · rw [if_pos (decide_eq_true h1), if_pos h1]
    show (catS (mkB [45]) _).bind _ = _
    rw [catM _ _ (by simp; omega)]; rfl
  · rw [if_neg (by simpa using h1), if_neg h1, show n.natAbs = n.toNat by omega]
theorem fmtInt_i {n : Int} (h : I64 n) : m_i_FormatInt n = some (mkB (Lib.itoa n)) := by
  unfold m_i_FormatInt m_g_strconv_Itoa R.itoaS chk
  rw [if_pos (show -9223372036854775808 ≤ n ∧ n ≤ 9223372036854775807 from h)]; rfl
theorem join_snoc (xs : List (List UInt8)) (y sep : List UInt8) : Lib.join (xs ++ [y]) sep = if xs = [] then y else Lib.join xs sep ++ sep ++ y := by
  cases xs with
  | nil => rw [if_pos rfl]; exact Lib.join_one _ _
  | cons x r =>
    rw [if_neg (by simp), List.cons_append, Lib.join_cons, Lib.join_cons]
    simp [Lib.joinTail, List.append_assoc]
end Go.Proofs.YtfkjjnddefojjaaGreatDoor.D
/- Numerals read back: both programs read the same numbers. -/
set_option linter.unusedVariables false
set_option linter.unusedSimpArgs false
set_option linter.unnecessarySimpa false
set_option linter.unusedSectionVars false
namespace Go.Proofs.YtfkjjnddefojjaaGreatDoor.D
open Go.RowKit

theorem decFrom_app : ∀ (a : List UInt8) (acc : Nat) (b : List UInt8), Lib.decFrom acc (a ++ b) = (Lib.decFrom acc a).bind fun m => Lib.decFrom m b
  | [], acc, b => rfl
  | x :: a, acc, b => by
    rw [List.cons_append, Lib.decFrom, Lib.decFrom]
    cases Lib.digitVal x with
    | none => rfl
    | some d => exact decFrom_app a _ b
theorem dig_val {d : Nat} (h : d < 10) : Lib.digitVal (UInt8.ofNat (48 + d)) = some d := by
  have e : (UInt8.ofNat (48 + d)).toNat = 48 + d := by simp; omega
  unfold Lib.digitVal
  rw [e, if_pos ⟨by omega, by omega⟩]
  congr 1; omega
theorem dec_step {u : Nat} (h : ¬ u < 10) : Lib.decDigits u = Lib.decDigits (u / 10) ++ [UInt8.ofNat (48 + u % 10)] := by rw [Lib.decDigits, dif_neg h]
theorem decFrom_dig (u : Nat) : Lib.decFrom 0 (Lib.decDigits u) = some u := by
  induction u using Nat.strongRecOn with
  | _ u ih =>
    by_cases h : u < 10
    · rw [Lib.decDigits_one h, Lib.decFrom, dig_val h]
      simp [Lib.decFrom]
    · rw [dec_step h, decFrom_app, ih (u / 10) (by omega), Option.bind_some, Lib.decFrom, dig_val (Nat.mod_lt _ (by omega))]
      simp only [Lib.decFrom]
      congr 1; omega
theorem dec_ne (u : Nat) : Lib.decDigits u ≠ [] := fun h => by
  have := Lib.decDigits_length u
  rw [h] at this
  have := nD_pos u
  simp at *; omega
theorem decNat_dig (u : Nat) : Lib.decNat (Lib.decDigits u) = some u := by
  unfold Lib.decNat
  rw [if_neg (by simpa using dec_ne u), decFrom_dig]
theorem dec_head (u : Nat) : ∃ d r, d < 10 ∧ Lib.decDigits u = UInt8.ofNat (48 + d) :: r := by
  induction u using Nat.strongRecOn with
  | _ u ih =>
    by_cases h : u < 10
    · exact ⟨u, [], h, Lib.decDigits_one h⟩
    · obtain ⟨d, r, hd, e⟩ := ih (u / 10) (by omega)
      exact ⟨d, _, hd, by rw [dec_step h, e]; rfl⟩
theorem dig_not {d : Nat} (h : d < 10) : (UInt8.ofNat (48 + d) == 45) = false ∧ (UInt8.ofNat (48 + d) == 43) = false := by
  have : ∀ d : Fin 10, (UInt8.ofNat (48 + d.val) == 45) = false ∧ (UInt8.ofNat (48 + d.val) == 43) = false := by decide
  exact this ⟨d, h⟩
theorem atoi_itoa (n : Int) : Lib.atoi (Lib.itoa n) = some n := by
  unfold Lib.itoa
  by_cases h : n < 0
  · rw [if_pos h]
    show (Lib.decNat (Lib.decDigits n.natAbs)).map (fun (m : Nat) => -(m : Int)) = _
    rw [decNat_dig]
    simp; omega
  · rw [if_neg h]
    obtain ⟨d, r, hd, e⟩ := dec_head n.toNat
    have k := decNat_dig n.toNat
    rw [e] at k ⊢
    show (if (UInt8.ofNat (48 + d) == 45) = true then _ else if (UInt8.ofNat (48 + d) == 43) = true then _ else _) = _
    rw [if_neg (by rw [(dig_not hd).1]; decide), if_neg (by rw [(dig_not hd).2]; decide), k]
    simp; omega
def dst (p : Nat × Nat) (b : UInt8) : Nat × Nat := if 48 ≤ b.toNat ∧ b.toNat ≤ 57 then (p.1 * 10 + (b.toNat - 48), p.2 + 1) else p
theorem dst_dig {d : Nat} (h : d < 10) (p : Nat × Nat) : dst p (UInt8.ofNat (48 + d)) = (p.1 * 10 + d, p.2 + 1) := by
  have e : (UInt8.ofNat (48 + d)).toNat = 48 + d := by simp; omega
  unfold dst
  rw [e, if_pos ⟨by omega, by omega⟩, show 48 + d - 48 = d by omega]
theorem dst_dec (u : Nat) : (Lib.decDigits u).foldl dst (0, 0) = (u, Lib.nDigits u) := by
  induction u using Nat.strongRecOn with
  | _ u ih =>
    by_cases h : u < 10
    · rw [Lib.decDigits_one h, List.foldl_cons, List.foldl_nil, dst_dig h, Lib.nDigits_small h]; simp
    · rw [dec_step h, List.foldl_append, ih (u / 10) (by omega), List.foldl_cons, List.foldl_nil, dst_dig (Nat.mod_lt _ (by omega)), Lib.nDigits_big h]
      congr 1
      show u / 10 * 10 + u % 10 = u
      omega
theorem dst_itoa (n : Int) : (Lib.itoa n).foldl dst (0, 0) = (n.natAbs, Lib.nDigits n.natAbs) := by
  unfold Lib.itoa
  split
  · rw [List.foldl_cons, show dst (0, 0) 45 = (0, 0) from rfl, dst_dec]
  · rw [dst_dec, show n.toNat = n.natAbs by omega]
theorem dst_lt : ∀ (l : List UInt8) (p : Nat × Nat), p.1 < 10 ^ p.2 → (l.foldl dst p).1 < 10 ^ (l.foldl dst p).2
  | [], p, h => h
  | b :: l, p, h => by
    rw [List.foldl_cons]
    refine dst_lt l _ ?_
    unfold dst
    split
    · rename_i k
      show p.1 * 10 + (b.toNat - 48) < 10 ^ (p.2 + 1)
      rw [Nat.pow_succ]; omega
    · exact h
theorem dst_le : ∀ (l : List UInt8) (p : Nat × Nat), (l.foldl dst p).2 ≤ p.2 + l.length
  | [], p => by simp
  | b :: l, p => by
    rw [List.foldl_cons]
    have := dst_le l (dst p b)
    have h : (dst p b).2 ≤ p.2 + 1 := by unfold dst; split <;> simp
    rw [List.length_cons]; omega
end Go.Proofs.YtfkjjnddefojjaaGreatDoor.D
/- ParseInt: both programs answer alike. -/
set_option linter.unusedVariables false
set_option linter.unusedSimpArgs false
set_option linter.unnecessarySimpa false
set_option linter.unusedSectionVars false
namespace Go.Proofs.YtfkjjnddefojjaaGreatDoor.D
open Go.RowKit

theorem nD_lt : ∀ (k u : Nat), 1 ≤ k → u < 10 ^ k → Lib.nDigits u ≤ k
  | 0, u, h, _ => by omega
  | k + 1, u, _, h => by
    by_cases h1 : u < 10
    · rw [Lib.nDigits_small h1]; omega
    · rw [Lib.nDigits_big h1]
      rw [Nat.pow_succ] at h
      have hk : 1 ≤ k := by
        rcases k with _ | k
        · simp at h; omega
        · omega
      have := nD_lt k (u / 10) hk (by omega)
      omega
theorem u8W : ∀ d : Fin 10, IntKind.i64.wrap (IntKind.u8.wrap (d.val : Int)) = (d.val : Int) := by decide
theorem strAt_ok {s : ByteArray} {i : Nat} (h : i < s.size) : strAt s (i : Int) = some (((s.data.toList[i]'(by simpa using h)).toNat : Nat) : Int) := by
  unfold strAt chk
  rw [if_pos ⟨by omega, by omega⟩]
  simp only [Option.bind_some]
  rw [show (i : Int).toNat = i by omega, List.getD_eq_getElem?_getD, List.getElem?_eq_getElem (by simpa using h)]
  rfl
def dtk (s : ByteArray) (i : Nat) : Nat × Nat := (s.data.toList.take i).foldl dst (0, 0)
theorem dtk_lt (s : ByteArray) (i : Nat) : (dtk s i).1 < 10 ^ (dtk s i).2 ∧ (dtk s i).2 ≤ i := by
  refine ⟨dst_lt _ _ (by decide), ?_⟩
  have := dst_le (s.data.toList.take i) (0, 0)
  rw [List.length_take] at this
  unfold dtk
  omega
theorem pi_loop (s : ByteArray) : loopM (m_s_ParseInt_l0 s) FUEL (0, 0, 0) = some (.brk (((dtk s (min s.size 11)).1 : Int), ((dtk s (min s.size 11)).2 : Int), ((min s.size 11 : Nat) : Int))) := by
  refine loopM_at (f := m_s_ParseInt_l0 s) (fun i => (((dtk s i).1 : Int), ((dtk s i).2 : Int), (i : Int))) (min s.size 11) (fun i hi => ?_) ?_ (fuelUp _ (by omega))
  · have h1 : i < s.size := by omega
    have hl : i < s.data.toList.length := by simpa using h1
    have hd : dtk s (i + 1) = dst (dtk s i) (s.data.toList[i]) := by
      unfold dtk
      rw [List.take_succ_eq_append_getElem hl, List.foldl_append]; rfl
    obtain ⟨b1, b2⟩ := dtk_lt s i
    have b3 : 10 ^ (dtk s i).2 ≤ 10 ^ 10 := Nat.pow_le_pow_right (by omega) (by omega)
    unfold m_s_ParseInt_l0
    simp only []
    rw [if_pos (decide_eq_true (by omega)), if_pos (decide_eq_true (by omega)), strAt_ok h1, hd]
    generalize s.data.toList[i] = b
    generalize dtk s i = p at *
    simp only [Option.bind_some]
    unfold dst
    by_cases c1 : 48 ≤ b.toNat
    · rw [if_pos (decide_eq_true (by omega))]
      by_cases c2 : b.toNat ≤ 57
      · rw [if_pos (decide_eq_true (by omega)), if_pos ⟨c1, c2⟩]
        obtain ⟨d, hd, e⟩ : ∃ d, d < 10 ∧ b.toNat = 48 + d := ⟨b.toNat - 48, by omega, by omega⟩
        rw [e, show ((48 + d : Nat) : Int) - 48 = (d : Int) by omega, u8W ⟨d, hd⟩]
        simp only [Option.bind_some]
        rw [wrapI (n := (p.1 : Int) * 10) (by omega) (by omega), wrapI (by show _ ≤ _ + (d : Int); omega) (by show _ + (d : Int) ≤ _; omega), wrap_succ (by omega), wrap_succ (by omega)]
        congr 4
        show (p.1 : Int) * 10 + (d : Int) = ((p.1 * 10 + (48 + d - 48) : Nat) : Int)
        omega
      · rw [if_neg (by simp; omega), if_neg (by omega)]
        simp only [Option.bind_some]
        rw [wrap_succ (by omega)]
    · rw [if_neg (by simp; omega), if_neg (by omega)]
      simp only [Option.bind_some]
      rw [wrap_succ (by omega)]
  · unfold m_s_ParseInt_l0
    simp only []
    by_cases h : s.size ≤ 11
    · rw [Nat.min_eq_left h, if_neg (by simp)]
    · rw [Nat.min_eq_right (by omega), if_pos (decide_eq_true (by omega)), if_neg (by simp)]
def sgn (s : ByteArray) : Int := if s.data.toList.head? = some 45 then -((dtk s (min s.size 11)).1 : Int) else ((dtk s (min s.size 11)).1 : Int)
theorem sgn_lt (s : ByteArray) : (sgn s).natAbs < 10 ^ (dtk s (min s.size 11)).2 ∧ (sgn s).natAbs < 10 ^ 11 := by
  obtain ⟨b1, b2⟩ := dtk_lt s (min s.size 11)
  have b3 : 10 ^ (dtk s (min s.size 11)).2 ≤ 10 ^ 11 := Nat.pow_le_pow_right (by omega) (by omega)
  have : (sgn s).natAbs = (dtk s (min s.size 11)).1 := by unfold sgn; split <;> omega
  omega
theorem ps_val (s : ByteArray) : m_s_ParseInt s = if 9 < (dtk s (min s.size 11)).2 ∨ 10 < s.size then some (0, false) else if mkB (Lib.itoa (sgn s)) = s then some (sgn s, true) else some (0, false) := by
  have hs := (sgn_lt s).2
  have hi : I64 (sgn s) := by unfold I64; omega
  obtain ⟨b1, b2⟩ := dtk_lt s (min s.size 11)
  have b3 : 10 ^ (dtk s (min s.size 11)).2 ≤ 10 ^ 11 := Nat.pow_le_pow_right (by omega) (by omega)
  have fin : ∀ z : Int, z = sgn s → (if decide (((dtk s (min s.size 11)).2 : Int) > 9) then (some (0, false)) else (if decide (((s.size : Nat) : Int) > 10) then (some (0, false)) else ((m_s_FormatInt z).bind fun r10 => if r10 != s then (some (0, false)) else (some (z, true)))) : Option (Int × Bool)) = if 9 < (dtk s (min s.size 11)).2 ∨ 10 < s.size then some (0, false) else if mkB (Lib.itoa (sgn s)) = s then some (sgn s, true) else some (0, false) := by
    rintro z rfl
    by_cases c1 : 9 < (dtk s (min s.size 11)).2
    · rw [if_pos (decide_eq_true (by omega)), if_pos (Or.inl c1)]
    · rw [if_neg (by simp; omega)]
      by_cases c2 : 10 < s.size
      · rw [if_pos (decide_eq_true (by omega)), if_pos (Or.inr c2)]
      · rw [if_neg (by simp; omega), if_neg (by omega), fmtInt_s hi, Option.bind_some]
        by_cases c3 : mkB (Lib.itoa (sgn s)) = s
        · rw [if_pos c3, if_neg (by simp [c3])]
        · rw [if_neg c3, if_pos (by simpa using c3)]
  unfold m_s_ParseInt
  rw [bindL_brk (pi_loop s)]
  simp only []
  by_cases h0 : 0 < s.size
  · rw [if_pos (decide_eq_true (by omega))]
    have hl : 0 < s.data.toList.length := by simpa using h0
    have e0 : strAt s 0 = some (((s.data.toList[0]).toNat : Nat) : Int) := strAt_ok (i := 0) h0
    have eh : s.data.toList.head? = some s.data.toList[0] := by rw [List.head?_eq_getElem?, List.getElem?_eq_getElem hl]
    rw [e0, Option.bind_some]
    by_cases c : s.data.toList[0] = 45
    · rw [if_pos (by rw [c]; rfl), Option.bind_some, wrapI (by omega) (by omega)]
      exact fin _ (by unfold sgn; rw [eh, if_pos (by rw [c])])
    · have hn : (s.data.toList[0]).toNat ≠ 45 := fun e => c (UInt8.toNat_inj.1 e)
      rw [if_neg (fun e => hn (by have := eq_of_beq e; omega)), Option.bind_some]
      exact fin _ (by unfold sgn; rw [eh, if_neg (by simpa using c)])
  · rw [if_neg (by rw [decide_eq_true_eq]; omega)]
    have he : s.data.toList.head? = none := by
      have : s.data.toList = [] := List.eq_nil_of_length_eq_zero (by
        have : s.data.toList.length = s.size := by simp
        omega)
      rw [this]; rfl
    exact fin _ (by unfold sgn; rw [he, if_neg (by simp)])
theorem it_len10 {n : Int} (h : -999999999 ≤ n ∧ n ≤ 999999999) : Lib.nDigits n.natAbs ≤ 9 ∧ (Lib.itoa n).length ≤ 10 := by
  have k : Lib.nDigits n.natAbs ≤ 9 := nD_lt 9 _ (by omega) (by omega)
  refine ⟨k, ?_⟩
  unfold Lib.itoa
  split
  · rw [List.length_cons, Lib.decDigits_length]; omega
  · rw [Lib.decDigits_length, show n.toNat = n.natAbs by omega]; omega
theorem it_head (n : Int) : ((Lib.itoa n).head? = some 45) ↔ n < 0 := by
  unfold Lib.itoa
  split
  · rename_i h; simp [h]
  · rename_i h
    obtain ⟨d, r, hd, e⟩ := dec_head n.toNat
    rw [e]
    have := (dig_not hd).1
    simp only [List.head?_cons, Option.some.injEq]
    constructor
    · intro k; rw [k] at this; simp at this
    · intro k; omega
theorem parse_at {n : Int} (h : -999999999 ≤ n ∧ n ≤ 999999999) : m_s_ParseInt (mkB (Lib.itoa n)) = some (n, true) ∧ m_i_ParseInt (mkB (Lib.itoa n)) = some (n, true) := by
  obtain ⟨h9, h10⟩ := it_len10 h
  constructor
  · have ed : dtk (mkB (Lib.itoa n)) (min (mkB (Lib.itoa n)).size 11) = (n.natAbs, Lib.nDigits n.natAbs) := by
      unfold dtk
      rw [mkB_list, mkB_size, Nat.min_eq_left (by omega), List.take_length, dst_itoa]
    have es : sgn (mkB (Lib.itoa n)) = n := by
      unfold sgn
      rw [ed, mkB_list]
      by_cases c : n < 0
      · rw [if_pos ((it_head n).2 c)]; show -(n.natAbs : Int) = n; omega
      · rw [if_neg fun k => c ((it_head n).1 k)]; show (n.natAbs : Int) = n; omega
    rw [ps_val, ed, es, mkB_size, if_neg (by show ¬ (9 < Lib.nDigits n.natAbs ∨ _); omega), if_pos rfl]
  · unfold m_i_ParseInt R.parseIntS
    rw [mkB_size, mkB_list, if_neg (by omega), atoi_itoa]
    show (if _ then _ else _) = _
    rw [if_pos ⟨rfl, h.1, h.2⟩]
theorem parse_no {s : ByteArray} (h : ¬ ∃ n : Int, (-999999999 ≤ n ∧ n ≤ 999999999) ∧ s = mkB (Lib.itoa n)) : m_s_ParseInt s = some (0, false) ∧ m_i_ParseInt s = some (0, false) := by
  constructor
  · rw [ps_val]
    by_cases c : 9 < (dtk s (min s.size 11)).2 ∨ 10 < s.size
    · rw [if_pos c]
    · rw [if_neg c, if_neg]
      intro e
      have b1 := (sgn_lt s).1
      have b3 : 10 ^ (dtk s (min s.size 11)).2 ≤ 10 ^ 9 := Nat.pow_le_pow_right (by omega) (by omega)
      exact h ⟨sgn s, by omega, e.symm⟩
  · unfold m_i_ParseInt R.parseIntS
    by_cases c : 10 < s.size
    · rw [if_pos c]
    · rw [if_neg c]
      cases ha : Lib.atoi s.data.toList with
      | none => rfl
      | some n =>
        show (if _ then _ else _) = _
        rw [if_neg fun k => h ⟨n, k.2, k.1.symm⟩]
theorem parseInt_both (s : ByteArray) : ∃ r : Int × Bool, m_s_ParseInt s = some r ∧ m_i_ParseInt s = some r ∧ ((r.2 = true ∧ (-999999999 ≤ r.1 ∧ r.1 ≤ 999999999) ∧ s = mkB (Lib.itoa r.1)) ∨ r = (0, false)) := by
  by_cases h : ∃ n : Int, (-999999999 ≤ n ∧ n ≤ 999999999) ∧ s = mkB (Lib.itoa n)
  · obtain ⟨n, hn, rfl⟩ := h
    exact ⟨_, (parse_at hn).1, (parse_at hn).2, .inl ⟨rfl, hn, rfl⟩⟩
  · exact ⟨_, (parse_no h).1, (parse_no h).2, .inr rfl⟩
end Go.Proofs.YtfkjjnddefojjaaGreatDoor.D
/- Automata: what is valid, the moves, what is live, by the reference and by the program. -/
set_option linter.unusedVariables false
set_option linter.unusedSimpArgs false
set_option linter.unnecessarySimpa false
namespace Go.Proofs.YtfkjjnddefojjaaGreatDoor.D
open Go.RowKit

abbrev AutT := Int × (List Bool) × (List (List Int))
structure VA (a : AutT) (n : Nat) : Prop where
  len : a.2.1.length = n
  start : 0 ≤ a.1 ∧ a.1 < n
  nlen : a.2.2.length = n
  row : ∀ r ∈ a.2.2, r.length = 9
  ent : ∀ r ∈ a.2.2, ∀ t ∈ r, -1 ≤ t ∧ t < n
def mv (a : AutT) (s : Int) (k : Nat) : Int := nth (nth a.2.2 s) k
theorem s_in (x l h : Int) : m_s_l1In x l h = some (decide (l ≤ x ∧ x ≤ h)) := by
  unfold m_s_l1In
  by_cases c : l ≤ x
  · simp [c]
  · have : ¬ l ≤ x ∧ True := ⟨c, trivial⟩
    simp [c]
theorem i_in (x l h : Int) : m_i_within x l h = some (decide (l ≤ x ∧ x ≤ h)) := by
  unfold m_i_within
  by_cases c : l ≤ x
  · simp [c]
  · simp [c]
theorem scan {α R : Type} [Inhabited α] {f : Int → Option (Out R Int)} (xs : List α) (p : α → Prop) [DecidablePred p] (r : R) (hN : xs.length ≤ 9223372036854775807)
    (h : ∀ i : Nat, i < xs.length → f (i : Int) = some (if p (nth xs i) then .nxt ((i + 1 : Nat) : Int) else .ret r)) (he : f (xs.length : Int) = some (.brk (xs.length : Int))) :
    (loopM f FUEL 0 = some (.brk (xs.length : Int)) ∧ ∀ x ∈ xs, p x) ∨ (loopM f FUEL 0 = some (.ret r) ∧ ¬ ∀ x ∈ xs, p x) := by
  obtain ⟨o, e, hq⟩ := loopM_go (f := f) (fun i s => s = (i : Int) ∧ ∀ j : Nat, j < i → p (nth xs j)) (fun o => (o = .brk (xs.length : Int) ∧ ∀ x ∈ xs, p x) ∨ (o = .ret r ∧ ¬ ∀ x ∈ xs, p x)) xs.length (s := 0) (by
    rintro i s hi ⟨rfl, hp⟩
    by_cases hl : i < xs.length
    · by_cases c : p (nth xs i)
      · refine .inl ⟨hl, _, by rw [h i hl, if_pos c], rfl, fun j hj => ?_⟩
        by_cases e : j = i
        · subst e; exact c
        · exact hp j (by omega)
      · refine .inr ⟨_, by rw [h i hl, if_neg c], (fun s' e => by cases e), .inr ⟨rfl, fun hx => c (hx _ (nth_mem (by omega) (by omega)))⟩⟩
    · obtain rfl : i = xs.length := by omega
      refine .inr ⟨_, he, (fun s' e => by cases e), .inl ⟨rfl, fun x hx => ?_⟩⟩
      obtain ⟨j, hj, rfl⟩ := mem_nth hx
      exact hp j hj) ⟨rfl, by omega⟩ (up63 hN)
  rcases hq with ⟨rfl, hq⟩ | ⟨rfl, hq⟩
  · exact .inl ⟨e, hq⟩
  · exact .inr ⟨e, hq⟩
section
variable {a : AutT} {n : Nat} (V : VA a n)
include V
end
end Go.Proofs.YtfkjjnddefojjaaGreatDoor.D
/- Edges as text, checksums: both programs write the same. -/
set_option linter.unusedVariables false
set_option linter.unusedSimpArgs false
set_option linter.unnecessarySimpa false
set_option linter.unusedSectionVars false
namespace Go.Proofs.YtfkjjnddefojjaaGreatDoor.D
open Go.RowKit

theorem checksum_same (s : ByteArray) : m_s_Checksum s = m_i_Checksum s := by
  have e : m_s_Checksum_l0 s = m_i_Checksum_l0 s := by
    funext p
    unfold m_s_Checksum_l0 m_i_Checksum_l0
    rw [Int.mul_comm p.1 257]
  unfold m_s_Checksum m_i_Checksum
  rw [e]
theorem checksum_tot (s : ByteArray) (h : s.size ≤ 9223372036854775806) : ∃ r : Int, m_s_Checksum s = some r ∧ m_i_Checksum s = some r ∧ 0 ≤ r ∧ r ≤ 9972 := by
  obtain ⟨p, e, h1, h2, h3⟩ := loopM_for (f := m_s_Checksum_l0 s) (fun i p => p.2 = (i : Int) ∧ 0 ≤ p.1 ∧ p.1 ≤ 9972) s.size (fun i p hi hI => by
    obtain ⟨n, j⟩ := p
    obtain ⟨h1, h2, h3⟩ := hI
    simp only at h1 h2 h3
    subst h1
    unfold m_s_Checksum_l0
    simp only []
    rw [if_pos (decide_eq_true (by omega)), strAt_ok hi]
    simp only [Option.bind_some]
    generalize s.data.toList[i] = b
    have hb : b.toNat < 256 := b.toNat_lt
    rw [wrapI (n := ((b.toNat : Nat) : Int)) (by omega) (by omega), wrapI (n := n * 257) (by omega) (by omega), wrapI (n := n * 257 + (b.toNat : Int)) (by omega) (by omega), wrapI (n := n * 257 + (b.toNat : Int) + 1) (by omega) (by omega), wrap_succ (by omega)]
    refine ⟨_, rfl, rfl, ?_, ?_⟩
    · exact Int.tmod_nonneg _ (by omega)
    · have : Int.tmod (n * 257 + (b.toNat : Int) + 1) 9973 < 9973 := Int.tmod_lt_of_pos _ (by decide)
      show Int.tmod (n * 257 + (b.toNat : Int) + 1) 9973 ≤ 9972
      omega) (fun p hI => by
    obtain ⟨n, j⟩ := p
    obtain ⟨h1, -⟩ := hI
    simp only at h1
    subst h1
    unfold m_s_Checksum_l0
    simp only []
    rw [if_neg (by simp)]) (s := (1, 0)) ⟨rfl, by decide, by decide⟩ (fuelUp _ (by omega))
  have k : m_s_Checksum s = some p.1 := by
    unfold m_s_Checksum
    rw [bindL_brk e]
  exact ⟨p.1, k, by rw [← checksum_same]; exact k, h2, h3⟩
def edOk (e : Int × Int × Int × Int) : Prop := (1 ≤ e.1 ∧ e.1 ≤ 99) ∧ (0 ≤ e.2.1 ∧ e.2.1 ≤ 4) ∧ (0 ≤ e.2.2.1 ∧ e.2.2.1 ≤ 4) ∧ (0 ≤ e.2.2.2 ∧ e.2.2.2 ≤ 2)
instance (e : Int × Int × Int × Int) : Decidable (edOk e) := inferInstanceAs (Decidable (_ ∧ _))
def edTx (e : Int × Int × Int × Int) : List UInt8 := Lib.itoa e.1 ++ [58] ++ Lib.itoa e.2.1 ++ [UInt8.ofNat (97 + e.2.2.2.toNat)] ++ Lib.itoa e.2.2.1
theorem letter_s : ∀ k : Fin 3, m_s_FormatLetter (IntKind.i64.wrap (2 * (k.val : Int))) = some (mkB [UInt8.ofNat (97 + k.val)]) := by
  intro k
  match k with
  | ⟨0, _⟩ => rfl
  | ⟨1, _⟩ => rfl
  | ⟨2, _⟩ => rfl
theorem letter_i : ∀ k : Fin 3, strSl (⟨#[97, 98, 99]⟩) (k.val : Int) (IntKind.i64.wrap ((k.val : Int) + 1)) = some (mkB [UInt8.ofNat (97 + k.val)]) := by
  intro k
  match k with
  | ⟨0, _⟩ => rfl
  | ⟨1, _⟩ => rfl
  | ⟨2, _⟩ => rfl
theorem edge_s (e : Int × Int × Int × Int) : m_s_FormatEdge e = some (if edOk e then mkB (edTx e) else mkB []) := by
  unfold m_s_FormatEdge
  rw [s_in, s_in, s_in, s_in]
  simp only [Option.bind_some]
  by_cases h : edOk e
  · obtain ⟨h1, h2, h3, h4⟩ := h
    rw [if_pos (decide_eq_true h1), if_pos (decide_eq_true h2), if_pos (decide_eq_true h3), if_pos (decide_eq_true h4), if_pos ⟨h1, h2, h3, h4⟩]
    have i1 : I64 e.1 := by unfold I64; omega
    have i2 : I64 e.2.1 := by unfold I64; omega
    have i3 : I64 e.2.2.1 := by unfold I64; omega
    have n1 := it_len i1
    have n2 := it_len i2
    have n3 := it_len i3
    obtain ⟨k, hk, ek⟩ : ∃ k : Nat, k < 3 ∧ e.2.2.2 = (k : Int) := ⟨e.2.2.2.toNat, by omega, by omega⟩
    rw [fmtInt_s i1, fmtInt_s i2, fmtInt_s i3, ek, letter_s ⟨k, hk⟩]
    simp only [Option.bind_some]
    have c1 : catS (mkB (Lib.itoa e.1)) (⟨#[58]⟩) = some (mkB (Lib.itoa e.1 ++ [58])) := catM _ [58] (by simp; omega)
    rw [c1]
    simp only [Option.bind_some]
    rw [catM _ _ (by simp; omega)]
    simp only [Option.bind_some]
    rw [catM _ _ (by simp; omega)]
    simp only [Option.bind_some]
    rw [catM _ _ (by simp; omega)]
    simp only [Option.bind_some]
    unfold edTx
    rw [ek]; rfl
  · rw [if_neg h]
    split
    · split
      · split
        · split
          · rename_i a b c d
            exact absurd ⟨of_decide_eq_true a, of_decide_eq_true b, of_decide_eq_true c, of_decide_eq_true d⟩ h
          · rfl
        · rfl
      · rfl
    · rfl
theorem edge_i (e : Int × Int × Int × Int) : m_i_FormatEdge e = some (if edOk e then mkB (edTx e) else mkB []) := by
  have h5 : IntKind.i64.wrap (5 - 1) = 4 := by decide
  have hok : m_i_edgeOk (e.1, e.2.1, e.2.2.1, e.2.2.2) 5 = some (decide (edOk e)) := by
    unfold m_i_edgeOk
    rw [h5, i_in, i_in, i_in, i_in]
    simp only [Option.bind_some]
    by_cases h1 : 1 ≤ e.1 ∧ e.1 ≤ 99
    · rw [if_pos (decide_eq_true h1)]
      by_cases h2 : 0 ≤ e.2.1 ∧ e.2.1 ≤ 4
      · rw [if_pos (decide_eq_true h2)]
        by_cases h3 : 0 ≤ e.2.2.1 ∧ e.2.2.1 ≤ 4
        · rw [if_pos (decide_eq_true h3)]
          congr 1
          exact decide_eq_decide.2 ⟨fun h4 => ⟨h1, h2, h3, h4⟩, fun h => h.2.2.2⟩
        · rw [if_neg (by simpa using h3), decide_eq_false (fun h : edOk e => h3 h.2.2.1)]
      · rw [if_neg (by simpa using h2), decide_eq_false (fun h : edOk e => h2 h.2.1)]
    · rw [if_neg (by simpa using h1), decide_eq_false (fun h : edOk e => h1 h.1)]
  unfold m_i_FormatEdge
  rw [hok]
  simp only [Option.bind_some]
  by_cases h : edOk e
  · rw [if_pos (decide_eq_true h), if_pos h]
    obtain ⟨h1, h2, h3, h4⟩ := h
    have i1 : I64 e.1 := by unfold I64; omega
    have i2 : I64 e.2.1 := by unfold I64; omega
    have i3 : I64 e.2.2.1 := by unfold I64; omega
    have n1 := it_len i1
    have n2 := it_len i2
    have n3 := it_len i3
    obtain ⟨k, hk, ek⟩ : ∃ k : Nat, k < 3 ∧ e.2.2.2 = (k : Int) := ⟨e.2.2.2.toNat, by omega, by omega⟩
    rw [fmtInt_i i1, fmtInt_i i2, fmtInt_i i3, ek, letter_i ⟨k, hk⟩]
    simp only [Option.bind_some]
    have c1 : catS (mkB (Lib.itoa e.1)) (⟨#[58]⟩) = some (mkB (Lib.itoa e.1 ++ [58])) := catM _ [58] (by simp; omega)
    rw [c1]
    simp only [Option.bind_some]
    rw [catM _ _ (by simp; omega)]
    simp only [Option.bind_some]
    rw [catM _ _ (by simp; omega)]
    simp only [Option.bind_some]
    rw [catM _ _ (by simp; omega)]
    simp only [Option.bind_some]
    unfold edTx
    rw [ek]; rfl
  · rw [if_neg (by simpa using h), if_neg h]; rfl
end Go.Proofs.YtfkjjnddefojjaaGreatDoor.D
/- Batches as text: both programs write the same. -/
set_option linter.unusedVariables false
set_option linter.unusedSimpArgs false
set_option linter.unnecessarySimpa false
set_option linter.unusedSectionVars false
namespace Go.Proofs.YtfkjjnddefojjaaGreatDoor.D
open Go.RowKit

abbrev ChT : Type := Bool × Int × Int × Int × Int
def chTx (c : ChT) : List UInt8 := (if c.1 then 43 else 45) :: edTx c.2
def btx (l : List ChT) : List UInt8 := Lib.join (l.map chTx) [32]
def chOk (l : List ChT) : Prop := ∀ c, c ∈ l → edOk c.2
theorem edTx_len {e : Int × Int × Int × Int} (h : edOk e) : (edTx e).length ≤ 70 := by
  obtain ⟨h1, h2, h3, h4⟩ := h
  have n1 := it_len (n := e.1) (by unfold I64; omega)
  have n2 := it_len (n := e.2.1) (by unfold I64; omega)
  have n3 := it_len (n := e.2.2.1) (by unfold I64; omega)
  unfold edTx
  simp only [List.length_append, List.length_cons, List.length_nil]; omega
theorem edTx_ne (e : Int × Int × Int × Int) : (mkB (edTx e) == (⟨#[]⟩ : ByteArray)) = false := by
  rw [beq_eq_false_iff_ne]
  intro k
  have := congrArg ByteArray.size k
  rw [mkB_size] at this
  unfold edTx at this
  simp only [List.length_append, List.length_cons, List.length_nil] at this
  have e0 : (⟨#[]⟩ : ByteArray).size = 0 := rfl
  omega
theorem ctl_len : ∀ (r : List ChT), chOk r → (Lib.joinTail [32] (r.map chTx)).length ≤ 72 * r.length
  | [], _ => by simp [Lib.joinTail]
  | c :: r, h => by
    have h1 := ctl_len r fun q hq => h q (List.mem_cons_of_mem _ hq)
    have h2 := edTx_len (h c (by simp))
    have e : Lib.joinTail [32] ((c :: r).map chTx) = ([32] ++ chTx c) ++ Lib.joinTail [32] (r.map chTx) := by simp [Lib.joinTail]
    rw [e, List.length_append, List.length_append, List.length_cons]
    unfold chTx
    simp only [List.length_cons, List.length_nil]
    unfold chTx at h1
    omega
theorem btx_len {l : List ChT} (h : chOk l) : (btx l).length ≤ 72 * l.length := by
  cases l with
  | nil => simp [btx, Lib.join_nil]
  | cons c r =>
    have h1 := ctl_len r fun q hq => h q (List.mem_cons_of_mem _ hq)
    have h2 := edTx_len (h c (by simp))
    unfold btx
    rw [List.map_cons, Lib.join_cons, List.length_append, List.length_cons]
    have : (chTx c).length = (edTx c.2).length + 1 := by unfold chTx; rw [List.length_cons]
    omega
theorem btx_snoc {l : List ChT} {i : Nat} (hi : i < l.length) : btx (l.take (i + 1)) = if i = 0 then chTx l[i] else btx (l.take i) ++ [32] ++ chTx l[i] := by
  unfold btx
  rw [List.take_succ_eq_append_getElem hi, List.map_append, List.map_cons, List.map_nil, join_snoc]
  by_cases h : i = 0
  · subst h; rw [if_pos (by simp), if_pos rfl]
  · rw [if_neg (by
      intro e
      have := congrArg List.length e
      rw [List.length_map, List.length_take, List.length_nil] at this
      omega), if_neg h]
theorem chOk_snoc {l : List ChT} {i : Nat} (hi : i < l.length) (h : chOk (l.take i)) (k : edOk l[i].2) : chOk (l.take (i + 1)) := by
  rw [List.take_succ_eq_append_getElem hi]
  intro c hc
  rcases List.mem_append.1 hc with hc | hc
  · exact h c hc
  · obtain rfl := List.mem_singleton.1 hc; exact k
theorem batch_i {l : List ChT} (hl : l.length ≤ 6) : (chOk l ∧ loopM (m_i_FormatBatch_l0 l) FUEL (([] : List ByteArray), 0) = some (.brk (l.map (fun c => mkB (chTx c)), (l.length : Int)))) ∨ (¬ chOk l ∧ loopM (m_i_FormatBatch_l0 l) FUEL (([] : List ByteArray), 0) = some (.ret (mkB []))) := by
  obtain ⟨o, e, hQ⟩ := loopM_go (f := m_i_FormatBatch_l0 l) (fun i s => s = ((l.take i).map (fun c => mkB (chTx c)), (i : Int)) ∧ chOk (l.take i)) (fun o => (chOk l ∧ o = .brk (l.map (fun c => mkB (chTx c)), (l.length : Int))) ∨ (¬ chOk l ∧ o = .ret (mkB []))) l.length (fun i s hi hI => by
    obtain ⟨rfl, hb⟩ := hI
    unfold m_i_FormatBatch_l0
    simp only []
    by_cases h1 : i < l.length
    · rw [lt_nat h1, if_pos rfl, getI_nat h1]
      simp only [Option.bind_some]
      rw [edge_i]
      simp only [Option.bind_some]
      by_cases k : edOk l[i].2
      · have n1 := edTx_len k
        have c1 : catS (⟨#[43]⟩) (mkB (edTx l[i].2)) = some (mkB (43 :: edTx l[i].2)) := catM [43] _ (by simp; omega)
        have c2 : catS (⟨#[45]⟩) (mkB (edTx l[i].2)) = some (mkB (45 :: edTx l[i].2)) := catM [45] _ (by simp; omega)
        have hx : ∀ z : ByteArray, appI 16 ((l.take i).map (fun c => mkB (chTx c))) [z] = some ((l.take i).map (fun c => mkB (chTx c)) ++ [z]) := fun z => appI_ok (by rw [List.length_map, List.length_take]; simp only [List.length_cons, List.length_nil]; omega)
        refine .inl ⟨h1, ((l.take (i + 1)).map (fun c => mkB (chTx c)), ((i + 1 : Nat) : Int)), ?_, rfl, chOk_snoc h1 hb k⟩
        rw [if_pos k, if_neg (by rw [edTx_ne]; decide), c1, c2]
        simp only [Option.bind_some]
        rw [hx, hx, List.take_succ_eq_append_getElem h1, List.map_append, List.map_cons, List.map_nil, ← wrap_succ (show i < 9223372036854775807 by omega)]
        have ec : chTx l[i] = (if l[i].1 = true then 43 else 45) :: edTx l[i].2 := rfl
        rw [ec]
        generalize l[i].1 = t
        cases t <;> rfl
      · refine .inr ⟨.ret (mkB []), ?_, fun s' h => (by simp at h), .inr ⟨fun h => k (h _ (List.getElem_mem h1)), rfl⟩⟩
        rw [if_neg k]; rfl
    · obtain rfl : i = l.length := by omega
      rw [List.take_length] at hb
      refine .inr ⟨_, by rw [lt_self]; rfl, fun s' h => (by simp at h), .inl ⟨hb, by rw [List.take_length]⟩⟩) (s := ([], 0)) ⟨rfl, fun c hc => by simp at hc⟩ (fuelUp _ (by omega))
  rcases hQ with ⟨h, rfl⟩ | ⟨h, rfl⟩
  · exact .inl ⟨h, e⟩
  · exact .inr ⟨h, e⟩
theorem batch_s {l : List ChT} (hl : l.length ≤ 6) : (chOk l ∧ loopM (m_s_FormatBatch_l0 l) FUEL ((⟨#[]⟩ : ByteArray), 0) = some (.brk (mkB (btx l), (l.length : Int)))) ∨ (¬ chOk l ∧ loopM (m_s_FormatBatch_l0 l) FUEL ((⟨#[]⟩ : ByteArray), 0) = some (.ret (mkB []))) := by
  obtain ⟨o, e, hQ⟩ := loopM_go (f := m_s_FormatBatch_l0 l) (fun i s => s = (mkB (btx (l.take i)), (i : Int)) ∧ chOk (l.take i)) (fun o => (chOk l ∧ o = .brk (mkB (btx l), (l.length : Int))) ∨ (¬ chOk l ∧ o = .ret (mkB []))) l.length (fun i s hi hI => by
    obtain ⟨rfl, hb⟩ := hI
    have hn := btx_len hb
    rw [List.length_take] at hn
    unfold m_s_FormatBatch_l0
    simp only []
    by_cases h1 : i < l.length
    · rw [lt_nat h1, if_pos rfl, getI_nat h1]
      simp only [Option.bind_some]
      rw [edge_s]
      simp only [Option.bind_some]
      by_cases k : edOk l[i].2
      · have n1 := edTx_len k
        refine .inl ⟨h1, (mkB (btx (l.take (i + 1))), ((i + 1 : Nat) : Int)), ?_, rfl, chOk_snoc h1 hb k⟩
        rw [if_pos k, if_neg (by rw [edTx_ne]; decide), btx_snoc h1, ← wrap_succ (show i < 9223372036854775807 by omega)]
        have ec : chTx l[i] = (if l[i].1 = true then 43 else 45) :: edTx l[i].2 := rfl
        rw [ec]
        generalize l[i].1 = t
        have g1 : ∀ (a : List UInt8) (b : UInt8), a.length ≤ 1000 → catS (mkB a) (mkB [b]) = some (mkB (a ++ [b])) := fun a b ha => catM _ _ (by simp; omega)
        have g2 : ∀ (a : List UInt8) (b : UInt8), a.length ≤ 1000 → catS (mkB (a ++ [b])) (mkB (edTx l[i].2)) = some (mkB (a ++ b :: edTx l[i].2)) := fun a b ha => by
          rw [catM _ _ (by simp; omega), List.append_assoc]; rfl
        by_cases h0 : i = 0
        · subst h0
          have eb : btx (l.take 0) = [] := rfl
          have q1 := g1 [] 43 (by simp)
          have q2 := g1 [] 45 (by simp)
          have q3 := g2 [] 43 (by simp)
          have q4 := g2 [] 45 (by simp)
          have l1 : (⟨#[43]⟩ : ByteArray) = mkB [43] := rfl
          have l2 : (⟨#[45]⟩ : ByteArray) = mkB [45] := rfl
          rw [eb, if_pos rfl, if_neg (by simp)]
          simp only [Option.bind_some]
          rw [l1, l2, q1, q2]
          simp only [Option.bind_some]
          rw [q3, q4]
          cases t <;> rfl
        · have hs := g1 (btx (l.take i)) 32 (by omega)
          have q1 := g1 (btx (l.take i) ++ [32]) 43 (by simp; omega)
          have q2 := g1 (btx (l.take i) ++ [32]) 45 (by simp; omega)
          have q3 := g2 (btx (l.take i) ++ [32]) 43 (by simp; omega)
          have q4 := g2 (btx (l.take i) ++ [32]) 45 (by simp; omega)
          have l1 : (⟨#[43]⟩ : ByteArray) = mkB [43] := rfl
          have l2 : (⟨#[45]⟩ : ByteArray) = mkB [45] := rfl
          have l3 : (⟨#[32]⟩ : ByteArray) = mkB [32] := rfl
          rw [if_neg h0, if_pos (decide_eq_true (by omega)), l1, l2, l3, hs]
          simp only [Option.bind_some]
          rw [q1, q2]
          simp only [Option.bind_some]
          rw [q3, q4]
          cases t <;> rfl
      · refine .inr ⟨.ret (mkB []), ?_, fun s' h => (by simp at h), .inr ⟨fun h => k (h _ (List.getElem_mem h1)), rfl⟩⟩
        rw [if_neg k]; rfl
    · obtain rfl : i = l.length := by omega
      rw [List.take_length] at hb
      refine .inr ⟨_, by rw [lt_self]; rfl, fun s' h => (by simp at h), .inl ⟨hb, by rw [List.take_length]⟩⟩) (s := ((⟨#[]⟩ : ByteArray), 0)) ⟨rfl, fun c hc => by simp at hc⟩ (fuelUp _ (by omega))
  rcases hQ with ⟨h, rfl⟩ | ⟨h, rfl⟩
  · exact .inl ⟨h, e⟩
  · exact .inr ⟨h, e⟩
open Classical in
theorem batch_both (l : List ChT) : m_s_FormatBatch l = some (if l.length ≤ 6 ∧ chOk l then mkB (btx l) else mkB []) ∧ m_i_FormatBatch l = some (if l.length ≤ 6 ∧ chOk l then mkB (btx l) else mkB []) := by
  unfold m_s_FormatBatch m_i_FormatBatch
  by_cases h6 : l.length ≤ 6
  · have hd : ¬ decide ((l.length : Int) > 6) = true := by rw [decide_eq_true_eq]; omega
    constructor
    · rw [if_neg hd]
      rcases batch_s h6 with ⟨h, e⟩ | ⟨h, e⟩
      · rw [bindL_brk e, if_pos ⟨h6, h⟩]
      · rw [bindL_ret e, if_neg fun k => h k.2]
    · rw [if_neg hd]
      rcases batch_i h6 with ⟨h, e⟩ | ⟨h, e⟩
      · have hn := btx_len h
        rw [bindL_brk e, if_pos ⟨h6, h⟩]
        show (m_g_strings_Join (l.map fun p => mkB (chTx p)) (mkB [32])).bind _ = _
        unfold m_g_strings_Join R.joinS chk
        have e : (l.map fun p => mkB (chTx p)).map (·.data.toList) = l.map chTx := by
          rw [List.map_map]
          exact List.map_congr_left fun p _ => mkB_list _
        rw [e, mkB_list, List.length_map, if_pos ⟨by omega, by show (btx l).length ≤ _; omega⟩]; rfl
      · rw [bindL_ret e, if_neg fun k => h k.2]
  · have hd : decide ((l.length : Int) > 6) = true := decide_eq_true (by omega)
    constructor
    · rw [if_pos hd, if_neg fun k => h6 k.1]; rfl
    · rw [if_pos hd, if_neg fun k => h6 k.1]; rfl
end Go.Proofs.YtfkjjnddefojjaaGreatDoor.D
/- Records as text: both programs write the same. -/
set_option linter.unusedVariables false
set_option linter.unusedSimpArgs false
set_option linter.unnecessarySimpa false
set_option linter.unusedSectionVars false
namespace Go.Proofs.YtfkjjnddefojjaaGreatDoor.D
open Go.RowKit

theorem record_both (v : Int) (l : List ChT) : ∃ r : ByteArray, m_s_EncodeRecord v l = some r ∧ m_i_EncodeRecord v l = some r ∧ r.size ≤ 1000 := by
  obtain ⟨es, ei⟩ := batch_both l
  obtain ⟨t, et, hn⟩ : ∃ t : List UInt8, (m_s_FormatBatch l = some (mkB t) ∧ m_i_FormatBatch l = some (mkB t)) ∧ t.length ≤ 432 := by
    by_cases h : l.length ≤ 6 ∧ chOk l
    · have := btx_len h.2
      refine ⟨btx l, ⟨?_, ?_⟩, by omega⟩
      · rw [es, if_pos h]
      · rw [ei, if_pos h]
    · refine ⟨[], ⟨?_, ?_⟩, by simp⟩
      · rw [es, if_neg h]
      · rw [ei, if_neg h]
  obtain ⟨e1, e2⟩ := et
  unfold m_s_EncodeRecord m_i_EncodeRecord
  rw [e1, e2, s_in, i_in]
  simp only [Option.bind_some]
  by_cases hv : 1 ≤ v ∧ v ≤ 999
  · have iv : I64 v := by unfold I64; omega
    have nv := it_len iv
    have c1 : catS (mkB (Lib.itoa v)) (⟨#[59]⟩) = some (mkB (Lib.itoa v ++ [59])) := catM _ [59] (by simp; omega)
    have c2 : catS (mkB (Lib.itoa v ++ [59])) (mkB t) = some (mkB (Lib.itoa v ++ [59] ++ t)) := catM _ _ (by simp; omega)
    have c3 : catS (mkB (Lib.itoa v ++ [59] ++ t)) (⟨#[59]⟩) = some (mkB (Lib.itoa v ++ [59] ++ t ++ [59])) := catM _ [59] (by simp; omega)
    obtain ⟨q, k1, k2, q1, q2⟩ := checksum_tot (mkB (Lib.itoa v ++ [59] ++ t ++ [59])) (by rw [mkB_size]; simp; omega)
    have iq : I64 q := by unfold I64; omega
    have nq := it_len iq
    have c4 : catS (mkB (Lib.itoa v ++ [59] ++ t ++ [59])) (mkB (Lib.itoa q)) = some (mkB (Lib.itoa v ++ [59] ++ t ++ [59] ++ Lib.itoa q)) := catM _ _ (by simp; omega)
    have c5 : catS (mkB (Lib.itoa v ++ [59] ++ t ++ [59] ++ Lib.itoa q)) (⟨#[10]⟩) = some (mkB (Lib.itoa v ++ [59] ++ t ++ [59] ++ Lib.itoa q ++ [10])) := catM _ [10] (by simp; omega)
    have hs : (mkB (Lib.itoa v ++ [59] ++ t ++ [59] ++ Lib.itoa q ++ [10])).size ≤ 1000 := by rw [mkB_size]; simp; omega
    have h0 : ((⟨#[]⟩ : ByteArray)).size ≤ 1000 := by decide
    rw [decide_eq_true hv]
    simp only [if_true, fmtInt_s iv, fmtInt_i iv, fmtInt_s iq, fmtInt_i iq, c1, c2, c3, k1, k2, c4, c5, Option.bind_some]
    by_cases a : decide ((l.length : Int) > 0) = true
    · by_cases b : (mkB t == (⟨#[]⟩ : ByteArray)) = true
      · simp only [if_pos a, if_pos b]; exact ⟨_, rfl, rfl, h0⟩
      · simp only [if_pos a, if_neg b]; exact ⟨_, rfl, rfl, hs⟩
    · by_cases b : (mkB t == (⟨#[]⟩ : ByteArray)) = true
      · simp only [if_neg a, if_pos b]; exact ⟨_, rfl, rfl, hs⟩
      · simp only [if_neg a, if_neg b]; exact ⟨_, rfl, rfl, hs⟩
  · rw [decide_eq_false hv]
    exact ⟨_, rfl, rfl, by decide⟩
end Go.Proofs.YtfkjjnddefojjaaGreatDoor.D
/- Texts cut at a byte: l2Cut, strings.Split, strings.Cut, strings.IndexByte. -/
set_option linter.unusedVariables false
set_option linter.unusedSimpArgs false
set_option linter.unnecessarySimpa false
set_option linter.unusedSectionVars false
namespace Go.Proofs.YtfkjjnddefojjaaGreatDoor.D
open Go.RowKit

def cutF (c : UInt8) (cur : List UInt8) : List UInt8 → List (List UInt8)
  | [] => [cur]
  | b :: l => if b = c then cur :: cutF c [] l else cutF c (cur ++ [b]) l
theorem cutF_none {c : UInt8} : ∀ {l cur : List UInt8}, c ∉ l → cutF c cur l = [cur ++ l]
  | [], cur, _ => by simp [cutF]
  | b :: l, cur, h => by
    have hb : b ≠ c := fun e => h (by simp [e])
    rw [cutF, if_neg hb, cutF_none fun k => h (List.mem_cons_of_mem _ k)]
    simp
theorem cutF_app {c : UInt8} : ∀ {a cur r : List UInt8}, c ∉ a → cutF c cur (a ++ c :: r) = (cur ++ a) :: cutF c [] r
  | [], cur, r, _ => by simp [cutF]
  | b :: a, cur, r, h => by
    have hb : b ≠ c := fun e => h (by simp [e])
    rw [List.cons_append, cutF, if_neg hb, cutF_app fun k => h (List.mem_cons_of_mem _ k)]
    simp
theorem cutF_len (c : UInt8) : ∀ (l cur : List UInt8), (cutF c cur l).length ≤ l.length + 1
  | [], cur => by simp [cutF]
  | b :: l, cur => by
    rw [cutF]
    split
    · have := cutF_len c l []; simp only [List.length_cons]; omega
    · have := cutF_len c l (cur ++ [b]); simp only [List.length_cons]; omega
theorem cutF_part (c : UInt8) : ∀ (l cur : List UInt8), ∀ x ∈ cutF c cur l, x.length ≤ cur.length + l.length
  | [], cur, x, h => by simp [cutF] at h; subst h; simp
  | b :: l, cur, x, h => by
    rw [cutF] at h
    split at h
    · rcases List.mem_cons.1 h with rfl | h
      · simp
      · have := cutF_part c l [] x h; simp at this; simp; omega
    · have := cutF_part c l _ x h; simp at this; simp; omega
theorem cases_at (c : UInt8) (l : List UInt8) : c ∉ l ∨ ∃ a r, l = a ++ c :: r ∧ c ∉ a := by
  by_cases h : c ∈ l
  · obtain ⟨a, r, e, k⟩ := List.eq_append_cons_of_mem h
    exact .inr ⟨a, r, e, k⟩
  · exact .inl h
theorem mkB_data (s : ByteArray) : mkB s.data.toList = s := by simp [mkB]
theorem mkB_ex (s : ByteArray) : ∃ l : List UInt8, s = mkB l := ⟨_, (mkB_data s).symm⟩
theorem mkB_inj {a b : List UInt8} (h : mkB a = mkB b) : a = b := by rw [← mkB_list a, h, mkB_list]
theorem slB {l : List UInt8} {a b : Nat} (h1 : a ≤ b) (h2 : b ≤ l.length) : strSl (mkB l) (a : Int) (b : Int) = some (mkB ((l.take b).drop a)) := by
  unfold strSl chk
  rw [mkB_size, if_pos ⟨by omega, by omega, by omega⟩, Option.bind_some]
  congr 1
  refine ByteArray.ext ?_
  simp [mkB, List.drop_take]
theorem atB {l : List UInt8} {i : Nat} (h : i < l.length) : strAt (mkB l) (i : Int) = some ((l[i].toNat : Nat) : Int) := by
  rw [strAt_ok (by rw [mkB_size]; exact h)]
  simp [mkB]
theorem l2Cut_ok (l : List UInt8) (c : UInt8) (hl : l.length ≤ 1000000) : m_s_l2Cut (mkB l) ((c.toNat : Nat) : Int) = some ((cutF c [] l).map mkB) := by
  obtain ⟨s, e, fr, done, rfl, h1, h2, h3⟩ := loopM_for (f := m_s_l2Cut_l0 (mkB l) ((c.toNat : Nat) : Int)) (fun i s => ∃ (fr : Nat) (done : List (List UInt8)), s = (done.map mkB, (fr : Int), (i : Int)) ∧ fr ≤ i ∧ done.length ≤ i ∧ done ++ cutF c ((l.take i).drop fr) (l.drop i) = cutF c [] l) l.length (fun i s hi hI => by
    obtain ⟨fr, done, rfl, h1, h2, h3⟩ := hI
    unfold m_s_l2Cut_l0
    simp only []
    rw [if_pos (decide_eq_true (by rw [mkB_size]; omega)), atB hi]
    simp only [Option.bind_some]
    rw [List.drop_eq_getElem_cons hi, cutF] at h3
    by_cases k : l[i] = c
    · rw [if_pos k] at h3
      rw [if_pos (by rw [k]; simp), slB h1 (by omega)]
      simp only [Option.bind_some]
      have hx : appI 16 (done.map mkB) [mkB ((l.take i).drop fr)] = some (done.map mkB ++ [mkB ((l.take i).drop fr)]) := appI_ok (by rw [List.length_map]; simp only [List.length_cons, List.length_nil]; omega)
      rw [hx]
      simp only [Option.bind_some]
      refine ⟨_, rfl, i + 1, done ++ [(l.take i).drop fr], ?_, Nat.le_refl _, by simp; omega, ?_⟩
      · rw [List.map_append, List.map_cons, List.map_nil, wrap_succ (by omega)]
      · rw [← h3, List.append_assoc, List.drop_of_length_le (l := l.take (i + 1)) (by rw [List.length_take]; omega)]; rfl
    · rw [if_neg k] at h3
      rw [if_neg (fun e => k (UInt8.toNat_inj.1 (by have := eq_of_beq e; omega)))]
      simp only [Option.bind_some]
      refine ⟨_, rfl, fr, done, ?_, by omega, by omega, ?_⟩
      · rw [wrap_succ (by omega)]
      · rw [← h3, List.take_succ_eq_append_getElem hi, List.drop_append_of_le_length (by rw [List.length_take]; omega)]) (fun s hI => by
    obtain ⟨fr, done, rfl, h1, h2, h3⟩ := hI
    unfold m_s_l2Cut_l0
    simp only []
    rw [if_neg (by rw [mkB_size]; simp)]) (s := (([] : List ByteArray), 0, 0)) ⟨0, [], rfl, Nat.le_refl _, Nat.le_refl _, by simp⟩ (fuelUp _ (by omega))
  unfold m_s_l2Cut
  rw [bindL_brk e, mkB_size]
  simp only []
  rw [slB h1 (Nat.le_refl _)]
  simp only [Option.bind_some]
  have hx : appI 16 (done.map mkB) [mkB ((l.take l.length).drop fr)] = some (done.map mkB ++ [mkB ((l.take l.length).drop fr)]) := appI_ok (by rw [List.length_map]; simp only [List.length_cons, List.length_nil]; omega)
  rw [hx, ← h3, List.drop_length, cutF]
  simp
theorem index_no {c : UInt8} : ∀ {l : List UInt8}, c ∉ l → Lib.index l [c] = -1
  | [], _ => rfl
  | b :: l, h => by
    have hb : c ≠ b := fun e => h (by simp [e])
    have k : ([c] : List UInt8).isPrefixOf (b :: l) = false := by simp [List.isPrefixOf, hb]
    rw [Lib.index, k, index_no fun k => h (List.mem_cons_of_mem _ k)]; rfl
theorem index_at {c : UInt8} : ∀ {a r : List UInt8}, c ∉ a → Lib.index (a ++ c :: r) [c] = (a.length : Int)
  | [], r, _ => by simp [Lib.index, List.isPrefixOf]
  | b :: a, r, h => by
    have hb : c ≠ b := fun e => h (by simp [e])
    have k : ([c] : List UInt8).isPrefixOf (b :: (a ++ c :: r)) = false := by simp [List.isPrefixOf, hb]
    rw [List.cons_append, Lib.index, k, index_at fun k => h (List.mem_cons_of_mem _ k)]
    rw [if_neg (by decide), if_neg (by rw [beq_iff_eq]; omega), List.length_cons]; omega
theorem splitK_ok (c : UInt8) : ∀ (n : Nat) (l : List UInt8), l.length ≤ n → Lib.splitK [c] 0 (Lib.count l [c]) l = cutF c [] l
  | n, l, h => by
    rcases cases_at c l with k | ⟨a, r, rfl, k⟩
    · have e := index_no k
      rw [Lib.count_miss e, cutF_none k]; rfl
    · have e := index_at (r := r) k
      have hd : (a ++ c :: r).drop (a.length + 1) = r := by
        rw [← List.drop_drop, List.drop_left]; rfl
      rw [Lib.count_hit (by simp) e, cutF_app k, Nat.add_comm 1, Lib.splitK, e, if_neg (by rw [beq_iff_eq]; omega)]
      show List.take (a.length + 0) _ :: Lib.splitK [c] 0 (Lib.count ((a ++ c :: r).drop (a.length + 1)) [c]) ((a ++ c :: r).drop (a.length + 1)) = _
      rw [hd, Nat.add_zero, List.take_left]
      cases n with
      | zero => simp at h
      | succ n => rw [splitK_ok c n r (by simp at h; omega)]; rfl
theorem split_ok (l : List UInt8) (c : UInt8) (hl : l.length ≤ 1000000) : m_g_strings_Split (mkB l) (mkB [c]) = some ((cutF c [] l).map mkB) := by
  unfold m_g_strings_Split R.splitS chk
  rw [mkB_size, mkB_size, if_pos ⟨by omega, by simp⟩, Option.bind_some]
  congr 1
  have e := Lib.splitB_data (mkB [c]) 0 (Lib.countB (mkB l) (mkB [c])) (mkB l)
  rw [mkB_list, mkB_list] at e
  have e2 : Lib.countB (mkB l) (mkB [c]) = Lib.count l [c] := by unfold Lib.countB; rw [mkB_list, mkB_list]
  rw [e2, splitK_ok c l.length l (Nat.le_refl _)] at e
  rw [e2, ← e, List.map_map]
  conv => lhs; rw [← List.map_id (Lib.splitB _ _ _ _)]
  exact List.map_congr_left fun x _ => (mkB_data x).symm
theorem cut_none {l : List UInt8} {c : UInt8} (hl : l.length ≤ 1000000) (h : c ∉ l) : m_g_strings_Cut (mkB l) (mkB [c]) = some (mkB l, mkB [], false) := by
  unfold m_g_strings_Cut R.cutS chk
  rw [mkB_size, if_pos (by omega), Option.bind_some, mkB_list, mkB_list]
  have : Lib.cut l [c] = (l, [], false) := by unfold Lib.cut; rw [index_no h, if_neg (by decide)]
  rw [this]; rfl
theorem cut_at {a r : List UInt8} {c : UInt8} (hl : (a ++ c :: r).length ≤ 1000000) (h : c ∉ a) : m_g_strings_Cut (mkB (a ++ c :: r)) (mkB [c]) = some (mkB a, mkB r, true) := by
  unfold m_g_strings_Cut R.cutS chk
  rw [mkB_size, if_pos (by omega), Option.bind_some, mkB_list, mkB_list]
  have : Lib.cut (a ++ c :: r) [c] = (a, r, true) := by
    unfold Lib.cut
    rw [index_at h, if_pos (by omega)]
    have hd : (a ++ c :: r).drop (a.length + 1) = r := by
      rw [← List.drop_drop, List.drop_left]; rfl
    show (List.take a.length _, List.drop (a.length + 1) _, true) = _
    rw [List.take_left, hd]
  rw [this]; rfl
theorem ixb_none {c : UInt8} : ∀ {l : List UInt8}, c ∉ l → Lib.indexByte l c = -1
  | [], _ => rfl
  | b :: l, h => by
    have hb : b ≠ c := fun e => h (by simp [e])
    rw [Lib.indexByte, if_neg (by simpa using hb), ixb_none fun k => h (List.mem_cons_of_mem _ k)]; rfl
theorem ixb_at {c : UInt8} : ∀ {a r : List UInt8}, c ∉ a → Lib.indexByte (a ++ c :: r) c = (a.length : Int)
  | [], r, _ => by simp [Lib.indexByte]
  | b :: a, r, h => by
    have hb : b ≠ c := fun e => h (by simp [e])
    rw [List.cons_append, Lib.indexByte, if_neg (by simpa using hb), ixb_at fun k => h (List.mem_cons_of_mem _ k), if_neg (by rw [beq_iff_eq]; omega), List.length_cons]; omega
end Go.Proofs.YtfkjjnddefojjaaGreatDoor.D
/- Edges read back: both programs read the same edges. -/
set_option linter.unusedVariables false
set_option linter.unusedSimpArgs false
set_option linter.unnecessarySimpa false
set_option linter.unusedSectionVars false
namespace Go.Proofs.YtfkjjnddefojjaaGreatDoor.D
open Go.RowKit

theorem len3 {α : Type} {l : List α} (h : l.length = 3) : ∃ a b c, l = [a, b, c] := by
  match l, h with
  | [a, b, c], _ => exact ⟨a, b, c, rfl⟩
abbrev EgT : Type := Int × Int × Int × Int
theorem cutF_pos (c : UInt8) (cur l : List UInt8) : 1 ≤ (cutF c cur l).length := by
  rcases cases_at c l with k | ⟨a, r, rfl, k⟩
  · rw [cutF_none k]; simp
  · rw [cutF_app k]; simp
theorem dec_bytes (u : Nat) : ∀ b ∈ Lib.decDigits u, 48 ≤ b.toNat ∧ b.toNat ≤ 57 := by
  induction u using Nat.strongRecOn with
  | _ u ih =>
    intro b hb
    have k : ∀ d, d < 10 → 48 ≤ (UInt8.ofNat (48 + d)).toNat ∧ (UInt8.ofNat (48 + d)).toNat ≤ 57 := fun d hd => by
      have e : (UInt8.ofNat (48 + d)).toNat = 48 + d := by simp; omega
      omega
    by_cases h : u < 10
    · rw [Lib.decDigits_one h] at hb
      obtain rfl := List.mem_singleton.1 hb
      exact k u h
    · rw [dec_step h] at hb
      rcases List.mem_append.1 hb with hb | hb
      · exact ih (u / 10) (by omega) b hb
      · obtain rfl := List.mem_singleton.1 hb
        exact k _ (Nat.mod_lt _ (by omega))
theorem it_bytes (n : Int) : ∀ b ∈ Lib.itoa n, b.toNat = 45 ∨ 48 ≤ b.toNat ∧ b.toNat ≤ 57 := by
  intro b hb
  unfold Lib.itoa at hb
  split at hb
  · rcases List.mem_cons.1 hb with rfl | hb
    · exact .inl rfl
    · exact .inr (dec_bytes _ b hb)
  · exact .inr (dec_bytes _ b hb)
theorem it_not {n : Int} {c : UInt8} (h1 : c.toNat ≠ 45) (h2 : c.toNat < 48 ∨ 57 < c.toNat) : c ∉ Lib.itoa n := fun h => by
  rcases it_bytes n c h with k | k <;> omega
theorem it_one {n : Int} (h : 0 ≤ n ∧ n ≤ 9) : Lib.itoa n = [UInt8.ofNat (48 + n.toNat)] := by
  unfold Lib.itoa
  rw [if_neg (by omega), Lib.decDigits_one (by omega)]
theorem edTx_eq {e : EgT} (h : edOk e) : edTx e = Lib.itoa e.1 ++ 58 :: [UInt8.ofNat (48 + e.2.1.toNat), UInt8.ofNat (97 + e.2.2.2.toNat), UInt8.ofNat (48 + e.2.2.1.toNat)] := by
  obtain ⟨-, h2, h3, -⟩ := h
  unfold edTx
  rw [it_one (n := e.2.1) (by omega), it_one (n := e.2.2.1) (by omega)]
  simp
theorem fl_tot : ∀ k : Fin 9, ∃ x, m_s_FormatLetter (k.val : Int) = some x := by
  intro k
  match k with
  | ⟨0, _⟩ => exact ⟨_, rfl⟩
  | ⟨1, _⟩ => exact ⟨_, rfl⟩
  | ⟨2, _⟩ => exact ⟨_, rfl⟩
  | ⟨3, _⟩ => exact ⟨_, rfl⟩
  | ⟨4, _⟩ => exact ⟨_, rfl⟩
  | ⟨5, _⟩ => exact ⟨_, rfl⟩
  | ⟨6, _⟩ => exact ⟨_, rfl⟩
  | ⟨7, _⟩ => exact ⟨_, rfl⟩
  | ⟨8, _⟩ => exact ⟨_, rfl⟩
theorem letter_tot (z : ByteArray) : ∃ r, m_s_ParseLetter z = some r := by
  obtain ⟨o, e, h⟩ := loopM_go (f := m_s_ParseLetter_l0 z) (fun i s => s = (i : Int)) (fun o => ∀ s, o ≠ .nxt s) 9 (fun i s hi hI => by
    subst hI
    unfold m_s_ParseLetter_l0
    by_cases h1 : i < 9
    · obtain ⟨x, ex⟩ := fl_tot ⟨i, h1⟩
      have ex : m_s_FormatLetter (i : Int) = some x := ex
      rw [if_pos (decide_eq_true (by omega)), ex]
      simp only [Option.bind_some]
      by_cases c : (x == z) = true
      · rw [if_pos c]; exact .inr ⟨_, rfl, fun s' h => (by simp at h), fun s' h => (by simp at h)⟩
      · rw [if_neg c]; exact .inl ⟨h1, _, rfl, wrap_succ (by omega)⟩
    · obtain rfl : i = 9 := by omega
      rw [if_neg (by decide)]; exact .inr ⟨_, rfl, fun s' h => (by simp at h), fun s' h => (by simp at h)⟩) (s := (0 : Int)) rfl (fuelUp _ (by omega))
  unfold m_s_ParseLetter
  rw [e]
  cases o with
  | nxt s => exact absurd rfl (h s)
  | brk s => exact ⟨_, rfl⟩
  | ret r => exact ⟨_, rfl⟩
theorem letter_at : ∀ k : Fin 3, m_s_ParseLetter (mkB [UInt8.ofNat (97 + k.val)]) = some (2 * (k.val : Int), true) := by
  intro k
  have hf := fuelUp 100 (by omega)
  obtain ⟨n, hn⟩ : ∃ n, FUEL = n + 6 := ⟨FUEL - 6, by omega⟩
  unfold m_s_ParseLetter
  rw [hn]
  match k with
  | ⟨0, _⟩ => rfl
  | ⟨1, _⟩ => rfl
  | ⟨2, _⟩ => rfl
theorem digV : ∀ d : Fin 5, IntKind.i64.wrap ((IntKind.i64.wrap (((UInt8.ofNat (48 + d.val)).toNat : Nat) : Int)) - 48) = (d.val : Int) := by decide
theorem letV : ∀ d : Fin 3, IntKind.i64.wrap ((IntKind.i64.wrap (((UInt8.ofNat (97 + d.val)).toNat : Nat) : Int)) - 97) = (d.val : Int) := by decide
theorem letQ : ∀ d : Fin 3, quoI (2 * (d.val : Int)) 2 = (d.val : Int) := by decide
def EdIs (s : List UInt8) (r : EgT × Bool) : Prop := r = ((0, 0, 0, 0), false) ∨ r.2 = true ∧ edOk r.1 ∧ s = edTx r.1
theorem ed_fin {e : EgT} {s : List UInt8} (h : s ≠ []) : ∃ r : EgT × Bool, (if (if edOk e then mkB (edTx e) else mkB []) != mkB s then (some ((0, 0, 0, 0), false)) else (some (e, true)) : Option (EgT × Bool)) = some r ∧ EdIs s r := by
  by_cases k : edOk e
  · rw [if_pos k]
    by_cases c : mkB (edTx e) = mkB s
    · rw [if_neg (by simp [c])]; exact ⟨_, rfl, .inr ⟨rfl, k, (mkB_inj c).symm⟩⟩
    · rw [if_pos (by simpa using c)]; exact ⟨_, rfl, .inl rfl⟩
  · rw [if_neg k, if_pos (by
      rw [bne_iff_ne]
      exact fun c => h (mkB_inj c).symm)]
    exact ⟨_, rfl, .inl rfl⟩
theorem pe_s (l : List UInt8) (hl : l.length ≤ 1000000) : ∃ r, m_s_ParseEdge (mkB l) = some r ∧ EdIs l r := by
  unfold m_s_ParseEdge
  have ec : m_s_l2Cut (mkB l) 58 = some ((cutF 58 [] l).map mkB) := l2Cut_ok l 58 hl
  rw [ec]; simp only [Option.bind_some]
  rcases cases_at 58 l with k | ⟨a, r, rfl, k⟩
  · rw [cutF_none k]; exact ⟨_, rfl, .inl rfl⟩
  · rw [cutF_app k]
    rcases cases_at 58 r with k2 | ⟨b, q, rfl, k2⟩
    · rw [cutF_none k2]
      simp only [List.nil_append, List.map_cons, List.map_nil]
      have g0 : getI [mkB a, mkB r] 0 = some (mkB a) := rfl
      have g1 : getI [mkB a, mkB r] 1 = some (mkB r) := rfl
      rw [if_neg (by simp)]
      simp only [g0, g1, Option.bind_some, mkB_size]
      by_cases h3 : r.length = 3
      · obtain ⟨x, y, z, rfl⟩ := len3 h3
        obtain ⟨n, en, -, -⟩ := parseInt_both (mkB a)
        obtain ⟨t, et⟩ := letter_tot (mkB [y])
        have s1 : strSl (mkB [x, y, z]) 1 2 = some (mkB [y]) := slB (l := [x, y, z]) (a := 1) (b := 2) (by decide) (by simp)
        have a0 : strAt (mkB [x, y, z]) 0 = some ((x.toNat : Nat) : Int) := atB (l := [x, y, z]) (i := 0) (by simp)
        have a2 : strAt (mkB [x, y, z]) 2 = some ((z.toNat : Nat) : Int) := atB (l := [x, y, z]) (i := 2) (by simp)
        rw [if_neg (by simp), en, s1]
        simp only [Option.bind_some]
        rw [et, a0, a2]
        simp only [Option.bind_some]
        rw [edge_s]
        simp only [Option.bind_some]
        exact ed_fin (by simp)
      · rw [if_pos (by rw [bne_iff_ne]; omega)]; exact ⟨_, rfl, .inl rfl⟩
    · rw [cutF_app k2]
      have := cutF_pos 58 [] q
      rw [if_pos (by rw [bne_iff_ne]; simp only [List.length_map, List.length_cons]; omega)]
      exact ⟨_, rfl, .inl rfl⟩
theorem pe_i (l : List UInt8) (hl : l.length ≤ 1000000) : ∃ r, m_i_ParseEdge (mkB l) = some r ∧ EdIs l r := by
  unfold m_i_ParseEdge
  rcases cases_at 58 l with k | ⟨a, r, rfl, k⟩
  · have ec : m_g_strings_Cut (mkB l) (⟨#[58]⟩) = some (mkB l, mkB [], false) := cut_none hl k
    rw [ec]; exact ⟨_, rfl, .inl rfl⟩
  · have ec : m_g_strings_Cut (mkB (a ++ 58 :: r)) (⟨#[58]⟩) = some (mkB a, mkB r, true) := cut_at hl k
    rw [ec]
    simp only [Option.bind_some, mkB_size]
    by_cases h3 : r.length = 3
    · obtain ⟨x, y, z, rfl⟩ := len3 h3
      obtain ⟨n, -, en, -⟩ := parseInt_both (mkB a)
      have a0 : strAt (mkB [x, y, z]) 0 = some ((x.toNat : Nat) : Int) := atB (l := [x, y, z]) (i := 0) (by simp)
      have a1 : strAt (mkB [x, y, z]) 1 = some ((y.toNat : Nat) : Int) := atB (l := [x, y, z]) (i := 1) (by simp)
      have a2 : strAt (mkB [x, y, z]) 2 = some ((z.toNat : Nat) : Int) := atB (l := [x, y, z]) (i := 2) (by simp)
      rw [if_neg (by simp), en, a0, a1, a2]
      simp only [Option.bind_some]
      rw [edge_i]
      simp only [Option.bind_some]
      exact ed_fin (by simp)
    · rw [if_pos (by rw [bne_iff_ne]; omega)]; exact ⟨_, rfl, .inl rfl⟩
theorem pe_at {e : EgT} (h : edOk e) : m_s_ParseEdge (mkB (edTx e)) = some (e, true) ∧ m_i_ParseEdge (mkB (edTx e)) = some (e, true) := by
  have hn := edTx_len h
  have he := edTx_eq h
  have hl : (edTx e).length ≤ 1000000 := by omega
  obtain ⟨h1, h2, h3, h4⟩ := id h
  obtain ⟨p1, p2⟩ := parse_at (n := e.1) (by omega)
  have k : (58 : UInt8) ∉ Lib.itoa e.1 := it_not (by decide) (by decide)
  obtain ⟨f, hf, ef⟩ : ∃ k : Nat, k < 5 ∧ e.2.1 = (k : Int) := ⟨e.2.1.toNat, by omega, by omega⟩
  obtain ⟨t, ht, et⟩ : ∃ k : Nat, k < 5 ∧ e.2.2.1 = (k : Int) := ⟨e.2.2.1.toNat, by omega, by omega⟩
  obtain ⟨q, hq, eq⟩ : ∃ k : Nat, k < 3 ∧ e.2.2.2 = (k : Int) := ⟨e.2.2.2.toNat, by omega, by omega⟩
  have hx : edTx e = Lib.itoa e.1 ++ 58 :: [UInt8.ofNat (48 + f), UInt8.ofNat (97 + q), UInt8.ofNat (48 + t)] := by
    rw [he, ef, et, eq]; rfl
  have k2 : (58 : UInt8) ∉ [UInt8.ofNat (48 + f), UInt8.ofNat (97 + q), UInt8.ofNat (48 + t)] := by
    have e1 : (UInt8.ofNat (48 + f)).toNat = 48 + f := by simp; omega
    have e2 : (UInt8.ofNat (97 + q)).toNat = 97 + q := by simp; omega
    have e3 : (UInt8.ofNat (48 + t)).toNat = 48 + t := by simp; omega
    have e4 : (58 : UInt8).toNat = 58 := rfl
    intro hm
    simp only [List.mem_cons, List.not_mem_nil, or_false] at hm
    rcases hm with hm | hm | hm <;> (have := congrArg UInt8.toNat hm; omega)
  have a0 : strAt (mkB [UInt8.ofNat (48 + f), UInt8.ofNat (97 + q), UInt8.ofNat (48 + t)]) 0 = some (((UInt8.ofNat (48 + f)).toNat : Nat) : Int) := atB (l := [UInt8.ofNat (48 + f), UInt8.ofNat (97 + q), UInt8.ofNat (48 + t)]) (i := 0) (by simp)
  have a1 : strAt (mkB [UInt8.ofNat (48 + f), UInt8.ofNat (97 + q), UInt8.ofNat (48 + t)]) 1 = some (((UInt8.ofNat (97 + q)).toNat : Nat) : Int) := atB (l := [UInt8.ofNat (48 + f), UInt8.ofNat (97 + q), UInt8.ofNat (48 + t)]) (i := 1) (by simp)
  have a2 : strAt (mkB [UInt8.ofNat (48 + f), UInt8.ofNat (97 + q), UInt8.ofNat (48 + t)]) 2 = some (((UInt8.ofNat (48 + t)).toNat : Nat) : Int) := atB (l := [UInt8.ofNat (48 + f), UInt8.ofNat (97 + q), UInt8.ofNat (48 + t)]) (i := 2) (by simp)
  have s1 : strSl (mkB [UInt8.ofNat (48 + f), UInt8.ofNat (97 + q), UInt8.ofNat (48 + t)]) 1 2 = some (mkB [UInt8.ofNat (97 + q)]) := slB (l := [UInt8.ofNat (48 + f), UInt8.ofNat (97 + q), UInt8.ofNat (48 + t)]) (a := 1) (b := 2) (by decide) (by simp)
  have v1 := digV ⟨f, hf⟩
  have v2 := digV ⟨t, ht⟩
  have v3 := letV ⟨q, hq⟩
  have v4 := letQ ⟨q, hq⟩
  have v5 := letter_at ⟨q, hq⟩
  simp only at v1 v2 v3 v4 v5
  have ee : (e.1, (f : Int), (t : Int), (q : Int)) = e := by rw [← ef, ← et, ← eq]
  constructor
  · unfold m_s_ParseEdge
    have ec : m_s_l2Cut (mkB (edTx e)) 58 = some ((cutF 58 [] (edTx e)).map mkB) := l2Cut_ok _ 58 hl
    rw [ec]; simp only [Option.bind_some]
    rw [hx, cutF_app k, cutF_none k2]
    simp only [List.nil_append, List.map_cons, List.map_nil]
    rw [if_neg (by simp)]
    have g0 : ∀ a b : ByteArray, getI [a, b] 0 = some a := fun a b => rfl
    have g1 : ∀ a b : ByteArray, getI [a, b] 1 = some b := fun a b => rfl
    simp only [g0, g1, Option.bind_some, mkB_size]
    rw [if_neg (by simp), p1, s1]
    simp only [Option.bind_some]
    rw [v5, a0, a2]
    simp only [Option.bind_some]
    rw [v1, v2, v4, ee, edge_s, if_pos h, ← hx]
    simp
  · unfold m_i_ParseEdge
    have ec : m_g_strings_Cut (mkB (edTx e)) (⟨#[58]⟩) = some (mkB (Lib.itoa e.1), mkB [UInt8.ofNat (48 + f), UInt8.ofNat (97 + q), UInt8.ofNat (48 + t)], true) := by
      rw [hx] at hl ⊢
      exact cut_at hl k
    rw [ec]
    simp only [Option.bind_some, mkB_size]
    rw [if_neg (by simp), p2, a0, a1, a2]
    simp only [Option.bind_some]
    rw [v1, v2, v3, ee, edge_i, if_pos h]
    simp
theorem pe_both (l : List UInt8) (hl : l.length ≤ 1000000) : ∃ r, m_s_ParseEdge (mkB l) = some r ∧ m_i_ParseEdge (mkB l) = some r ∧ EdIs l r := by
  by_cases h : ∃ e : EgT, edOk e ∧ l = edTx e
  · obtain ⟨e, he, rfl⟩ := h
    exact ⟨_, (pe_at he).1, (pe_at he).2, .inr ⟨rfl, he, rfl⟩⟩
  · obtain ⟨r1, e1, k1⟩ := pe_s l hl
    obtain ⟨r2, e2, k2⟩ := pe_i l hl
    rcases k1 with rfl | ⟨-, a, b⟩
    · rcases k2 with rfl | ⟨-, a, b⟩
      · exact ⟨_, e1, e2, .inl rfl⟩
      · exact absurd ⟨_, a, b⟩ h
    · exact absurd ⟨_, a, b⟩ h
end Go.Proofs.YtfkjjnddefojjaaGreatDoor.D
/- Batches read back: both programs read the same batches. -/
set_option linter.unusedVariables false
set_option linter.unusedSimpArgs false
set_option linter.unnecessarySimpa false
set_option linter.unusedSectionVars false
namespace Go.Proofs.YtfkjjnddefojjaaGreatDoor.D
open Go.RowKit

theorem edTx_not {e : EgT} (h : edOk e) {c : UInt8} (h1 : c.toNat ≠ 45) (h2 : c.toNat < 48) : c ∉ edTx e := by
  obtain ⟨-, -, -, h4⟩ := id h
  rw [edTx_eq h]
  intro hm
  rcases List.mem_append.1 hm with hm | hm
  · exact it_not h1 (.inl h2) hm
  · have e1 : (UInt8.ofNat (48 + e.2.1.toNat)).toNat = 48 + e.2.1.toNat := by have := h.2.1; simp; omega
    have e2 : (UInt8.ofNat (97 + e.2.2.2.toNat)).toNat = 97 + e.2.2.2.toNat := by simp; omega
    have e3 : (UInt8.ofNat (48 + e.2.2.1.toNat)).toNat = 48 + e.2.2.1.toNat := by have := h.2.2.1; simp; omega
    have e4 : (58 : UInt8).toNat = 58 := rfl
    simp only [List.mem_cons, List.not_mem_nil, or_false] at hm
    rcases hm with hm | hm | hm | hm <;> (have := congrArg UInt8.toNat hm; omega)
theorem chTx_not {c : ChT} (h : edOk c.2) {b : UInt8} (h1 : b.toNat ≠ 45) (h2 : b.toNat < 48) (h3 : b.toNat ≠ 43) : b ∉ chTx c := by
  unfold chTx
  intro hm
  rcases List.mem_cons.1 hm with hm | hm
  · have := congrArg UInt8.toNat hm
    split at this
    · exact h3 this
    · exact h1 this
  · exact edTx_not h h1 h2 hm
theorem cut_joinTail {c : UInt8} : ∀ {r : List (List UInt8)} {x : List UInt8}, c ∉ x → (∀ y ∈ r, c ∉ y) → cutF c [] (x ++ Lib.joinTail [c] r) = x :: r
  | [], x, hx, _ => by
    have : Lib.joinTail [c] [] = [] := by simp [Lib.joinTail]
    rw [this, List.append_nil, cutF_none hx]; rfl
  | y :: r, x, hx, hr => by
    have : Lib.joinTail [c] (y :: r) = c :: (y ++ Lib.joinTail [c] r) := by simp [Lib.joinTail]
    rw [this, cutF_app hx, cut_joinTail (hr y (by simp)) fun z hz => hr z (List.mem_cons_of_mem _ hz)]; rfl
theorem cut_btx {l : List ChT} (h : chOk l) (h0 : l ≠ []) : cutF 32 [] (btx l) = l.map chTx := by
  cases l with
  | nil => exact absurd rfl h0
  | cons c r =>
    unfold btx
    rw [List.map_cons, Lib.join_cons]
    refine cut_joinTail (chTx_not (h c (by simp)) (by decide) (by decide) (by decide)) fun y hy => ?_
    obtain ⟨d, hd, rfl⟩ := List.mem_map.1 hy
    exact chTx_not (h d (List.mem_cons_of_mem _ hd)) (by decide) (by decide) (by decide)
theorem btx_nil : btx [] = [] := by simp [btx, Lib.join_nil]
theorem btx_ne {l : List ChT} (h0 : l ≠ []) : btx l ≠ [] := by
  cases l with
  | nil => exact absurd rfl h0
  | cons c r => unfold btx; rw [List.map_cons, Lib.join_cons]; simp [chTx]
def BaIs (s : List UInt8) (r : (List ChT) × Bool) : Prop := r = ([], false) ∨ r.2 = true ∧ r.1.length ≤ 6 ∧ chOk r.1 ∧ s = btx r.1
theorem slTail {p : List UInt8} (h : 1 ≤ p.length) : strSl (mkB p) 1 (p.length : Int) = some (mkB (p.drop 1)) := by
  have := slB (l := p) (a := 1) (b := p.length) h (Nat.le_refl _)
  rw [List.take_length] at this
  exact this
theorem mkB_nil (p : List UInt8) : (mkB p == (⟨#[]⟩ : ByteArray)) = decide (p = []) := by
  by_cases h : p = []
  · subst h; rfl
  · rw [decide_eq_false h, beq_eq_false_iff_ne]
    intro k
    exact h (mkB_inj (b := []) k)
open Classical in
theorem ba_fin {f : List ChT → Option ByteArray} (hf : ∀ l, f l = some (if l.length ≤ 6 ∧ chOk l then mkB (btx l) else mkB [])) {b : List ChT} {s : List UInt8} (h : s ≠ []) : ∃ r : (List ChT) × Bool, ((f b).bind fun r16 => if r16 != mkB s then (some (([] : List ChT), false)) else (some (b, true)) : Option ((List ChT) × Bool)) = some r ∧ BaIs s r := by
  rw [hf]
  simp only [Option.bind_some]
  by_cases k : b.length ≤ 6 ∧ chOk b
  · rw [if_pos k]
    by_cases c : mkB (btx b) = mkB s
    · rw [if_neg (by simp [c])]; exact ⟨_, rfl, .inr ⟨rfl, k.1, k.2, (mkB_inj c).symm⟩⟩
    · rw [if_pos (by simpa using c)]; exact ⟨_, rfl, .inl rfl⟩
  · rw [if_neg k, if_pos (by
      rw [bne_iff_ne]
      exact fun c => h (mkB_inj c).symm)]
    exact ⟨_, rfl, .inl rfl⟩
theorem pb_s (l : List UInt8) (hl : l.length ≤ 1000000) : ∃ r, m_s_ParseBatch (mkB l) = some r ∧ (l = [] ∨ BaIs l r) := by
  unfold m_s_ParseBatch
  by_cases h0 : l = []
  · rw [mkB_nil, if_pos (decide_eq_true h0)]; exact ⟨_, rfl, .inl h0⟩
  rw [mkB_nil, if_neg (by simpa using h0)]
  have ec : m_s_l2Cut (mkB l) 32 = some ((cutF 32 [] l).map mkB) := l2Cut_ok l 32 hl
  rw [ec]; simp only [Option.bind_some]
  obtain ⟨o, e, hQ⟩ := loopM_go (f := m_s_ParseBatch_l0 ((cutF 32 [] l).map mkB)) (fun i s => ∃ b : List ChT, s = ((i : Int), b) ∧ b.length = i) (fun o => o = .ret (([] : List ChT), false) ∨ ∃ s, o = .brk s) 7 (fun i s hi hI => by
    obtain ⟨b, rfl, hb⟩ := hI
    unfold m_s_ParseBatch_l0
    simp only []
    by_cases h1 : i < ((cutF 32 [] l).map mkB).length
    · rw [lt_nat h1, if_pos rfl]
      by_cases h7 : i ≤ 6
      · rw [if_pos (decide_eq_true (by omega)), getI_nat h1]
        simp only [Option.bind_some]
        rw [List.length_map] at h1
        have hp := cutF_part 32 l [] _ (List.getElem_mem h1)
        rw [List.getElem_map]
        generalize (cutF 32 [] l)[i] = p at hp ⊢
        rw [List.length_nil] at hp
        rw [mkB_size]
        by_cases h2 : p.length < 2
        · rw [if_pos (decide_eq_true (by omega))]
          exact .inr ⟨_, rfl, fun s' h => (by simp at h), .inl rfl⟩
        · rw [if_neg (by simp; omega), slTail (by omega)]
          simp only [Option.bind_some]
          obtain ⟨r, er, -, -⟩ := pe_both (p.drop 1) (by rw [List.length_drop]; omega)
          rw [er]
          simp only [Option.bind_some]
          have a0 : strAt (mkB p) 0 = some ((p[0].toNat : Nat) : Int) := atB (l := p) (i := 0) (by omega)
          by_cases h3 : r.2 = true
          · rw [if_pos h3, a0]
            simp only [Option.bind_some]
            have hx : ∀ z : ChT, appI 40 b [z] = some (b ++ [z]) := fun z => appI_ok (by simp only [List.length_cons, List.length_nil]; omega)
            rw [hx]
            simp only [Option.bind_some]
            exact .inl ⟨by omega, _, rfl, _, by rw [wrap_succ (by omega)], by simp; omega⟩
          · rw [if_neg h3]
            exact .inr ⟨_, rfl, fun s' h => (by simp at h), .inl rfl⟩
      · rw [if_neg (by simp; omega)]
        exact .inr ⟨_, rfl, fun s' h => (by simp at h), .inr ⟨_, rfl⟩⟩
    · rw [if_neg (by simp only [decide_eq_true_eq]; omega)]
      exact .inr ⟨_, rfl, fun s' h => (by simp at h), .inr ⟨_, rfl⟩⟩) (s := (0, ([] : List ChT))) ⟨[], rfl, rfl⟩ (fuelUp _ (by omega))
  rcases hQ with rfl | ⟨s, rfl⟩
  · rw [bindL_ret e]; exact ⟨_, rfl, .inr (.inl rfl)⟩
  · rw [bindL_brk e]
    obtain ⟨r, er, k⟩ := ba_fin (f := m_s_FormatBatch) (fun l => (batch_both l).1) (b := s.2) h0
    exact ⟨r, er, .inr k⟩
theorem pb_i (l : List UInt8) (hl : l.length ≤ 1000000) : ∃ r, m_i_ParseBatch (mkB l) = some r ∧ (l = [] ∨ BaIs l r) := by
  unfold m_i_ParseBatch
  by_cases h0 : l = []
  · rw [mkB_nil, if_pos (decide_eq_true h0)]; exact ⟨_, rfl, .inl h0⟩
  rw [mkB_nil, if_neg (by simpa using h0)]
  have ec : m_g_strings_Split (mkB l) (⟨#[32]⟩) = some ((cutF 32 [] l).map mkB) := split_ok l 32 hl
  rw [ec]; simp only [Option.bind_some]
  have hn := cutF_len 32 l []
  obtain ⟨o, e, hQ⟩ := loopM_go (f := m_i_ParseBatch_l0 ((cutF 32 [] l).map mkB)) (fun i s => ∃ b : List ChT, s = ((i : Int), b) ∧ b.length = i) (fun o => o = .ret (([] : List ChT), false) ∨ ∃ s, o = .brk s) (cutF 32 [] l).length (fun i s hi hI => by
    obtain ⟨b, rfl, hb⟩ := hI
    unfold m_i_ParseBatch_l0
    simp only []
    by_cases h1 : i < ((cutF 32 [] l).map mkB).length
    · rw [lt_nat h1, if_pos rfl, getI_nat h1]
      simp only [Option.bind_some]
      rw [List.length_map] at h1
      have hp := cutF_part 32 l [] _ (List.getElem_mem h1)
      rw [List.getElem_map]
      generalize (cutF 32 [] l)[i] = p at hp ⊢
      rw [List.length_nil] at hp
      rw [mkB_nil, mkB_size]
      by_cases h2 : p = []
      · rw [if_pos (decide_eq_true h2)]
        exact .inr ⟨_, rfl, fun s' h => (by simp at h), .inl rfl⟩
      · have h2' : 1 ≤ p.length := List.length_pos_iff.2 h2
        rw [if_neg (by simpa using h2), slTail h2']
        simp only [Option.bind_some]
        obtain ⟨r, -, er, -⟩ := pe_both (p.drop 1) (by rw [List.length_drop]; omega)
        rw [er]
        simp only [Option.bind_some]
        have a0 : strAt (mkB p) 0 = some ((p[0].toNat : Nat) : Int) := atB (l := p) (i := 0) (by omega)
        by_cases h3 : r.2 = true
        · rw [if_pos h3, a0]
          simp only [Option.bind_some]
          have hx : ∀ z : ChT, appI 40 b [z] = some (b ++ [z]) := fun z => appI_ok (by simp only [List.length_cons, List.length_nil]; omega)
          rw [hx]
          simp only [Option.bind_some]
          exact .inl ⟨by omega, _, rfl, _, by rw [wrap_succ (by omega)], by simp; omega⟩
        · rw [if_neg h3]
          exact .inr ⟨_, rfl, fun s' h => (by simp at h), .inl rfl⟩
    · rw [if_neg (by simp only [decide_eq_true_eq]; omega)]
      exact .inr ⟨_, rfl, fun s' h => (by simp at h), .inr ⟨_, rfl⟩⟩) (s := (0, ([] : List ChT))) ⟨[], rfl, rfl⟩ (fuelUp _ (by omega))
  rcases hQ with rfl | ⟨s, rfl⟩
  · rw [bindL_ret e]; exact ⟨_, rfl, .inr (.inl rfl)⟩
  · rw [bindL_brk e]
    obtain ⟨r, er, k⟩ := ba_fin (f := m_i_FormatBatch) (fun l => (batch_both l).2) (b := s.2) h0
    exact ⟨r, er, .inr k⟩
theorem pb_step {L : List ChT} (h : chOk L) (h6 : L.length ≤ 6) {i : Nat} (hi : i < L.length) : m_s_ParseBatch_l0 ((L.map chTx).map mkB) ((i : Int), L.take i) = some (.nxt (((i + 1 : Nat) : Int), L.take (i + 1))) ∧ m_i_ParseBatch_l0 ((L.map chTx).map mkB) ((i : Int), L.take i) = some (.nxt (((i + 1 : Nat) : Int), L.take (i + 1))) := by
  have hl : i < ((L.map chTx).map mkB).length := by rw [List.length_map, List.length_map]; exact hi
  have hk : edOk L[i].2 := h _ (List.getElem_mem hi)
  have hp := edTx_len hk
  have eg : ((L.map chTx).map mkB)[i] = mkB (chTx L[i]) := by simp
  obtain ⟨p1, p2⟩ := pe_at hk
  have hs : (chTx L[i]).length = (edTx L[i].2).length + 1 := by unfold chTx; rw [List.length_cons]
  have h4 : 4 ≤ (edTx L[i].2).length := by rw [edTx_eq hk]; simp
  have ed : (chTx L[i]).drop 1 = edTx L[i].2 := rfl
  have a0 : strAt (mkB (chTx L[i])) 0 = some (((if L[i].1 then (43 : UInt8) else 45).toNat : Nat) : Int) := atB (l := chTx L[i]) (i := 0) (by omega)
  have hz : ((((if L[i].1 then (43 : UInt8) else 45).toNat : Nat) : Int) == 43) = L[i].1 := by
    generalize L[i].1 = t
    cases t <;> rfl
  have hx : ∀ z : ChT, appI 40 (L.take i) [z] = some (L.take i ++ [z]) := fun z => appI_ok (by rw [List.length_take]; simp only [List.length_cons, List.length_nil]; omega)
  have et := List.take_succ_eq_append_getElem hi
  have st := slTail (p := chTx L[i]) (by omega)
  constructor
  · unfold m_s_ParseBatch_l0
    simp only []
    rw [lt_nat hl, if_pos rfl, if_pos (decide_eq_true (by omega)), getI_nat hl, eg]
    simp only [Option.bind_some]
    rw [mkB_size, if_neg (by simp; omega), st, ed]
    simp only [Option.bind_some]
    rw [p1]
    simp only [Option.bind_some]
    rw [if_pos trivial, a0]
    simp only [Option.bind_some]
    rw [hz, hx, wrap_succ (by omega), et]; rfl
  · unfold m_i_ParseBatch_l0
    simp only []
    rw [lt_nat hl, if_pos rfl, getI_nat hl, eg]
    simp only [Option.bind_some]
    rw [mkB_nil, if_neg (by simp [chTx]), mkB_size, st, ed]
    simp only [Option.bind_some]
    rw [p2]
    simp only [Option.bind_some]
    rw [if_pos trivial, a0]
    simp only [Option.bind_some]
    rw [hz, hx, wrap_succ (by omega), et]; rfl
theorem pb_at {L : List ChT} (h : chOk L) (h6 : L.length ≤ 6) : m_s_ParseBatch (mkB (btx L)) = some (L, true) ∧ m_i_ParseBatch (mkB (btx L)) = some (L, true) := by
  by_cases h0 : L = []
  · subst h0
    unfold m_s_ParseBatch m_i_ParseBatch
    rw [btx_nil]
    exact ⟨rfl, rfl⟩
  have hn := btx_len h
  have hl : (btx L).length ≤ 1000000 := by omega
  have eb : ∀ s i : Option ByteArray, True := fun _ _ => trivial
  obtain ⟨b1, b2⟩ := batch_both L
  rw [if_pos ⟨h6, h⟩] at b1 b2
  have hs := loopM_at (f := m_s_ParseBatch_l0 ((L.map chTx).map mkB)) (fun i => ((i : Int), L.take i)) L.length (fun i hi => (pb_step h h6 hi).1) (by
    unfold m_s_ParseBatch_l0
    simp only []
    rw [if_neg (by simp)]) (fuelUp _ (by omega))
  have hi := loopM_at (f := m_i_ParseBatch_l0 ((L.map chTx).map mkB)) (fun i => ((i : Int), L.take i)) L.length (fun i hi => (pb_step h h6 hi).2) (by
    unfold m_i_ParseBatch_l0
    simp only []
    rw [if_neg (by simp)]) (fuelUp _ (by omega))
  rw [List.take_length] at hs hi
  constructor
  · unfold m_s_ParseBatch
    have ec : m_s_l2Cut (mkB (btx L)) 32 = some ((cutF 32 [] (btx L)).map mkB) := l2Cut_ok _ 32 hl
    rw [mkB_nil, if_neg (by simpa using btx_ne h0), ec, cut_btx h h0]
    simp only [Option.bind_some]
    have hs : loopM (m_s_ParseBatch_l0 ((L.map chTx).map mkB)) FUEL (0, ([] : List ChT)) = _ := hs
    rw [bindL_brk hs]
    simp only []
    rw [b1]
    simp
  · unfold m_i_ParseBatch
    have ec : m_g_strings_Split (mkB (btx L)) (⟨#[32]⟩) = some ((cutF 32 [] (btx L)).map mkB) := split_ok _ 32 hl
    rw [mkB_nil, if_neg (by simpa using btx_ne h0), ec, cut_btx h h0]
    simp only [Option.bind_some]
    have hi : loopM (m_i_ParseBatch_l0 ((L.map chTx).map mkB)) FUEL (0, ([] : List ChT)) = _ := hi
    rw [bindL_brk hi]
    simp only []
    rw [b2]
    simp
theorem pb_both (l : List UInt8) (hl : l.length ≤ 1000000) : ∃ r, m_s_ParseBatch (mkB l) = some r ∧ m_i_ParseBatch (mkB l) = some r ∧ BaIs l r := by
  by_cases h : ∃ L : List ChT, L.length ≤ 6 ∧ chOk L ∧ l = btx L
  · obtain ⟨L, h6, hk, rfl⟩ := h
    exact ⟨_, (pb_at hk h6).1, (pb_at hk h6).2, .inr ⟨rfl, h6, hk, rfl⟩⟩
  · have hne : l ≠ [] := fun e => h ⟨[], by simp, fun c hc => by simp at hc, by rw [e, btx_nil]⟩
    obtain ⟨r1, e1, k1⟩ := pb_s l hl
    obtain ⟨r2, e2, k2⟩ := pb_i l hl
    rcases k1 with k | rfl | ⟨-, a, b, c⟩
    · exact absurd k hne
    · rcases k2 with k | rfl | ⟨-, a, b, c⟩
      · exact absurd k hne
      · exact ⟨_, e1, e2, .inl rfl⟩
      · exact absurd ⟨_, a, b, c⟩ h
    · exact absurd ⟨_, a, b, c⟩ h
end Go.Proofs.YtfkjjnddefojjaaGreatDoor.D
/- Records and logs read back: both programs read the same. -/
set_option linter.unusedVariables false
set_option linter.unusedSimpArgs false
set_option linter.unnecessarySimpa false
set_option linter.unusedSectionVars false
namespace Go.Proofs.YtfkjjnddefojjaaGreatDoor.D
open Go.RowKit

def recT (v : Int) (b : List ChT) : List UInt8 := ((m_s_EncodeRecord v b).getD ByteArray.empty).data.toList
theorem rec_ok (v : Int) (b : List ChT) : m_s_EncodeRecord v b = some (mkB (recT v b)) ∧ m_i_EncodeRecord v b = some (mkB (recT v b)) ∧ (recT v b).length ≤ 1000 := by
  obtain ⟨r, e1, e2, h⟩ := record_both v b
  have e : mkB (recT v b) = r := by unfold recT; rw [e1]; exact mkB_data r
  rw [← e, mkB_size] at h
  rw [e]
  exact ⟨e1, e2, h⟩
def totL (r : List Int) (q : List (List ChT)) : Nat → Nat
  | 0 => 0
  | i + 1 => totL r q i + (recT (nth r (i : Int)) (nth q (i : Int))).length
theorem totL_app {r : List Int} {q : List (List ChT)} (h : q.length = r.length) (x : List Int) (y : List (List ChT)) : ∀ i, i ≤ r.length → totL (r ++ x) (q ++ y) i = totL r q i
  | 0, _ => rfl
  | i + 1, hi => by
    rw [totL, totL, totL_app h x y i (by omega), nth_append_left (by omega) (by omega), nth_append_left (by omega) (by omega)]
theorem totL_push {r : List Int} {q : List (List ChT)} (h : q.length = r.length) (v : Int) (b : List ChT) : totL (r ++ [v]) (q ++ [b]) (r ++ [v]).length = totL r q r.length + (recT v b).length := by
  have e1 : nth (r ++ [v]) ((r.length : Nat) : Int) = v := by rw [nth_nat (by simp)]; simp
  have e2 : nth (q ++ [b]) ((r.length : Nat) : Int) = b := by rw [← h, nth_nat (by simp)]; simp
  rw [List.length_append, List.length_cons, List.length_nil, Nat.zero_add, totL, totL_app h _ _ _ (Nat.le_refl _), e1, e2]
theorem decr_both (l : List UInt8) (hl : l.length ≤ 1000000) : ∃ r : Int × List ChT × Bool, m_s_DecodeRecord (mkB l) = some r ∧ m_i_DecodeRecord (mkB l) = some r ∧ r.2.1.length ≤ 6 ∧ (-999999999 ≤ r.1 ∧ r.1 ≤ 999999999) ∧ (r.2.2 = true → recT r.1 r.2.1 = l) := by
  unfold m_s_DecodeRecord m_i_DecodeRecord
  have ec : m_s_l2Cut (mkB l) 59 = some ((cutF 59 [] l).map mkB) := l2Cut_ok l 59 hl
  have ei : m_g_strings_Split (mkB l) (⟨#[59]⟩) = some ((cutF 59 [] l).map mkB) := split_ok l 59 hl
  rw [ec, ei]; simp only [Option.bind_some]
  by_cases h3 : (cutF 59 [] l).length = 3
  · have hp := cutF_part 59 l []
    obtain ⟨a, b, c, e⟩ := len3 h3
    rw [e] at hp ⊢
    have hb := hp b (by simp)
    rw [List.length_nil] at hb
    simp only [List.map_cons, List.map_nil]
    have g0 : getI [mkB a, mkB b, mkB c] 0 = some (mkB a) := rfl
    have g1 : getI [mkB a, mkB b, mkB c] 1 = some (mkB b) := rfl
    rw [if_neg (by simp), if_neg (by simp)]
    obtain ⟨v, v1, v2, kv⟩ := parseInt_both (mkB a)
    obtain ⟨q, q1, q2, k⟩ := pb_both b (by omega)
    obtain ⟨t, t1, t2, -⟩ := record_both v.1 q.1
    have hq : q.1.length ≤ 6 := by
      rcases k with rfl | ⟨-, k, -⟩
      · simp
      · exact k
    have hv : -999999999 ≤ v.1 ∧ v.1 ≤ 999999999 := by
      rcases kv with ⟨-, k, -⟩ | rfl
      · exact k
      · decide
    simp only [g0, g1, v1, v2, q1, q2, t1, t2, Option.bind_some]
    by_cases c1 : v.2 = true
    · by_cases c2 : q.2 = true
      · by_cases c3 : (t != mkB l) = true
        · simp only [if_pos c1, if_pos c2, if_pos c3]; exact ⟨_, rfl, rfl, by simp, by decide, fun c => by cases c⟩
        · simp only [if_pos c1, if_pos c2, if_neg c3]; exact ⟨_, rfl, rfl, hq, hv, fun _ => by
            have e : t = mkB l := by simpa using c3
            have e2 := (rec_ok v.1 q.1).1
            rw [t1, e] at e2
            exact (mkB_inj (Option.some.inj e2)).symm⟩
      · simp only [if_pos c1, if_neg c2]; exact ⟨_, rfl, rfl, by simp, by decide, fun c => by cases c⟩
    · simp only [if_neg c1]; exact ⟨_, rfl, rfl, by simp, by decide, fun c => by cases c⟩
  · have k : (((List.map mkB (cutF 59 [] l)).length : Int) != 3) = true := by
      rw [bne_iff_ne, List.length_map]; omega
    rw [if_pos k, if_pos k]
    exact ⟨_, rfl, rfl, by simp, by decide, fun c => by cases c⟩
def ScOk (vs : List Int) (bs : List (List ChT)) : Prop := bs.length = vs.length ∧ (∀ b ∈ bs, b.length ≤ 6) ∧ ∀ v ∈ vs, (-999999999 ≤ v ∧ v ≤ 999999999) ∧ v ≤ nth vs ((vs.length : Int) - 1)
theorem nth_last (vs : List Int) (v : Int) : nth (vs ++ [v]) (((vs ++ [v]).length : Int) - 1) = v := by
  have e : (((vs ++ [v]).length : Int) - 1) = ((vs.length : Nat) : Int) := by simp
  rw [e, nth_nat (by simp)]; simp
theorem ScOk.push {vs : List Int} {bs : List (List ChT)} (h : ScOk vs bs) {v : Int} {b : List ChT} (hb : b.length ≤ 6) (hv : -999999999 ≤ v ∧ v ≤ 999999999) (hx : 0 < vs.length → v = IntKind.i64.wrap (nth vs ((vs.length : Int) - 1) + 1)) : ScOk (vs ++ [v]) (bs ++ [b]) := by
  obtain ⟨h1, h2, h3⟩ := h
  refine ⟨by simp; omega, fun d hd => ?_, fun d hd => ?_⟩
  · rcases List.mem_append.1 hd with q | q
    · exact h2 d q
    · obtain rfl := List.mem_singleton.1 q; exact hb
  · rw [nth_last]
    rcases List.mem_append.1 hd with q | q
    · have h0 : 0 < vs.length := List.length_pos_of_mem q
      obtain ⟨k1, k2⟩ := h3 d q
      obtain ⟨k3, -⟩ := h3 _ (nth_mem (xs := vs) (i := (vs.length : Int) - 1) (by omega) (by omega))
      have := hx h0
      rw [wrapI (by omega) (by omega)] at this
      exact ⟨k1, by omega⟩
    · obtain rfl := List.mem_singleton.1 q; exact ⟨hv, Int.le_refl _⟩
theorem sc_skip {l : List UInt8} (hl : l.length ≤ 4000) {vs : List Int} {bs : List (List ChT)} {u : Int} : ∀ (a r : List UInt8) (i k : Nat), (10 : UInt8) ∉ a → l.drop i = a ++ r → i ≤ l.length → loopM (m_s_ScanLog_l0 (mkB l)) (k + a.length) (vs, bs, u, (i : Int)) = loopM (m_s_ScanLog_l0 (mkB l)) k (vs, bs, u, ((i + a.length : Nat) : Int))
  | [], r, i, k, _, _, _ => rfl
  | x :: a, r, i, k, hx, e, hi => by
    have h1 : i < l.length := by
      have := congrArg List.length e
      rw [List.length_drop, List.length_append, List.length_cons] at this; omega
    have e0 := List.drop_eq_getElem_cons h1
    rw [e0, List.cons_append] at e
    obtain ⟨e1, e2⟩ := List.cons.inj e
    have hn : x.toNat ≠ 10 := fun q => hx (by
      have : x = 10 := UInt8.toNat_inj.1 q
      rw [this]; simp)
    have st : m_s_ScanLog_l0 (mkB l) (vs, bs, u, (i : Int)) = some (.nxt (vs, bs, u, ((i + 1 : Nat) : Int))) := by
      unfold m_s_ScanLog_l0
      simp only []
      rw [mkB_size, lt_nat h1, if_pos rfl, if_pos (decide_eq_true (by omega)), atB h1, e1]
      simp only [Option.bind_some]
      rw [if_pos (by rw [bne_iff_ne]; omega), wrap_succ (by omega)]; rfl
    rw [List.length_cons, show k + (a.length + 1) = (k + a.length) + 1 by omega, loopM, st]
    show loopM _ (k + a.length) _ = _
    rw [sc_skip hl a r (i + 1) k (fun q => hx (List.mem_cons_of_mem _ q)) e2 h1, show i + 1 + a.length = i + (a.length + 1) by omega]
theorem sc_both {l : List UInt8} (hl : l.length ≤ 4000) : ∀ (m p : Nat) (vs : List Int) (bs : List (List ChT)), l.length - p < m → p ≤ l.length → vs.length ≤ p → ScOk vs bs → totL vs bs vs.length ≤ p → ∃ (r : List Int) (q : List (List ChT)) (n : Nat), (∀ k, l.length - p + 1 ≤ k → (loopM (m_s_ScanLog_l0 (mkB l)) k (vs, bs, (p : Int), (p : Int)) = some (.ret (r, q, (n : Int))) ∨ ∃ i, loopM (m_s_ScanLog_l0 (mkB l)) k (vs, bs, (p : Int), (p : Int)) = some (.brk (r, q, (n : Int), i))) ∧ loopM (m_i_ScanLog_l0 (mkB l)) k (vs, bs, (p : Int)) = some (.brk (r, q, (n : Int)))) ∧ n ≤ l.length ∧ r.length ≤ n ∧ ScOk r q ∧ totL r q r.length ≤ n := by
  intro m
  induction m with
  | zero => intro p vs bs hm; omega
  | succ m ih =>
    intro p vs bs hm hp hv hb ht
    have hbl := hb.1
    have hsl : strSl (mkB l) (p : Int) (l.length : Int) = some (mkB (l.drop p)) := by
      rw [slB hp (Nat.le_refl _), List.take_length]
    rcases cases_at 10 (l.drop p) with k | ⟨a, t, e, k⟩
    · refine ⟨vs, bs, p, fun j hj => ⟨.inr ⟨(l.length : Int), ?_⟩, ?_⟩, hp, hv, hb, ht⟩
      · have hd : (l.drop p).length = l.length - p := List.length_drop ..
        obtain ⟨j, rfl⟩ : ∃ j', j = (j' + 1) + (l.drop p).length := ⟨j - 1 - (l.length - p), by omega⟩
        rw [sc_skip hl (l.drop p) [] p (j + 1) k (by simp) hp, loopM, hd, show p + (l.length - p) = l.length by omega]
        have : m_s_ScanLog_l0 (mkB l) (vs, bs, (p : Int), (l.length : Int)) = some (.brk (vs, bs, (p : Int), (l.length : Int))) := by
          unfold m_s_ScanLog_l0
          simp only []
          rw [mkB_size, if_neg (by simp)]
        rw [this]
      · obtain ⟨j, rfl⟩ : ∃ j', j = j' + 1 := ⟨j - 1, by omega⟩
        have : m_i_ScanLog_l0 (mkB l) (vs, bs, (p : Int)) = some (.brk (vs, bs, (p : Int))) := by
          unfold m_i_ScanLog_l0
          simp only []
          have ei : m_g_strings_IndexByte (mkB (l.drop p)) 10 = some (-1) := by
            show some (Lib.indexByte _ 10) = _
            rw [mkB_list, ixb_none k]
          rw [mkB_size, if_pos (decide_eq_true (by omega)), hsl]
          simp only [Option.bind_some]
          rw [ei]
          simp only [Option.bind_some]
          rw [if_pos (by decide)]
        rw [loopM, this]
    · have hlen : (l.drop p).length = l.length - p := List.length_drop ..
      rw [e, List.length_append, List.length_cons] at hlen
      have hn : p + a.length < l.length := by omega
      have hx : l[p + a.length] = 10 := by
        have : (l.drop p)[a.length]? = some 10 := by rw [e]; simp
        rw [List.getElem?_drop, List.getElem?_eq_getElem hn] at this
        exact Option.some.inj this
      obtain ⟨r, r1, r2, h6, h9, h8⟩ := decr_both ((l.take (p + a.length + 1)).drop p) (by rw [List.length_drop, List.length_take]; omega)
      have es : strSl (mkB l) (p : Int) ((p + a.length + 1 : Nat) : Int) = some (mkB ((l.take (p + a.length + 1)).drop p)) := slB (by omega) (by omega)
      have ei : m_g_strings_IndexByte (mkB (l.drop p)) 10 = some (a.length : Int) := by
        show some (Lib.indexByte _ 10) = _
        rw [mkB_list, e, ixb_at k]
      have w1 : IntKind.i64.wrap ((IntKind.i64.wrap ((p : Int) + (a.length : Int))) + 1) = ((p + a.length + 1 : Nat) : Int) := by
        rw [wrapI (n := (p : Int) + (a.length : Int)) (by omega) (by omega), wrapI (by omega) (by omega)]; omega
      have w2 : IntKind.i64.wrap ((p : Int) + (IntKind.i64.wrap ((a.length : Int) + 1))) = ((p + a.length + 1 : Nat) : Int) := by
        rw [wrapI (n := (a.length : Int) + 1) (by omega) (by omega), wrapI (by omega) (by omega)]; omega
      have step : (m_s_ScanLog_l0 (mkB l) (vs, bs, (p : Int), ((p + a.length : Nat) : Int)) = some (.ret (vs, bs, (p : Int))) ∧ m_i_ScanLog_l0 (mkB l) (vs, bs, (p : Int)) = some (.brk (vs, bs, (p : Int)))) ∨ (m_s_ScanLog_l0 (mkB l) (vs, bs, (p : Int), ((p + a.length : Nat) : Int)) = some (.nxt (vs ++ [r.1], bs ++ [r.2.1], ((p + a.length + 1 : Nat) : Int), ((p + a.length + 1 : Nat) : Int))) ∧ m_i_ScanLog_l0 (mkB l) (vs, bs, (p : Int)) = some (.nxt (vs ++ [r.1], bs ++ [r.2.1], ((p + a.length + 1 : Nat) : Int))) ∧ (0 < vs.length → r.1 = IntKind.i64.wrap (nth vs ((vs.length : Int) - 1) + 1)) ∧ r.2.2 = true) := by
        have x1 : appI 8 vs [r.1] = some (vs ++ [r.1]) := appI_ok (by simp only [List.length_cons, List.length_nil]; omega)
        have x2 : appI 24 bs [r.2.1] = some (bs ++ [r.2.1]) := appI_ok (by simp only [List.length_cons, List.length_nil]; omega)
        unfold m_s_ScanLog_l0 m_i_ScanLog_l0
        simp only []
        rw [mkB_size, lt_nat hn, if_pos rfl, if_pos (decide_eq_true (by omega)), if_pos (decide_eq_true (by omega)), atB hn, hx, hsl]
        simp only [Option.bind_some]
        rw [if_neg (by decide), ei, wrap_succ (show p + a.length < 9223372036854775807 by omega), es]
        simp only [Option.bind_some]
        rw [r1, if_neg (by simp), w1, w2, es]
        simp only [Option.bind_some]
        rw [r2]
        simp only [Option.bind_some]
        by_cases c1 : r.2.2 = true
        · rw [if_pos c1, if_pos c1]
          by_cases c2 : decide ((vs.length : Int) > 0) = true
          · rw [if_pos c2, if_pos c2]
            have h0 : 0 < vs.length := by simpa using c2
            rw [wrap_pred (by omega), getI_nth (xs := vs) (by omega) (by omega)]
            simp only [Option.bind_some]
            by_cases c3 : (r.1 != IntKind.i64.wrap (nth vs ((vs.length : Int) - 1) + 1)) = true
            · rw [if_pos c3, if_pos c3]; exact .inl ⟨rfl, rfl⟩
            · rw [if_neg c3, if_neg c3, x1, x2]; exact .inr ⟨rfl, rfl, (fun _ => by simpa using c3), c1⟩
          · rw [if_neg c2, if_neg c2, x1, x2]; exact .inr ⟨rfl, rfl, (fun h => absurd (decide_eq_true (show (vs.length : Int) > 0 by omega)) c2), c1⟩
        · rw [if_neg c1, if_neg c1]; exact .inl ⟨rfl, rfl⟩
      rcases step with ⟨s1, s2⟩ | ⟨s1, s2, s3, s4⟩
      · refine ⟨vs, bs, p, fun j hj => ⟨.inl ?_, ?_⟩, hp, hv, hb, ht⟩
        · obtain ⟨j, rfl⟩ : ∃ j', j = (j' + 1) + a.length := ⟨j - 1 - a.length, by omega⟩
          rw [sc_skip hl a (10 :: t) p (j + 1) k e hp, loopM, s1]
        · obtain ⟨j, rfl⟩ : ∃ j', j = j' + 1 := ⟨j - 1, by omega⟩
          rw [loopM, s2]
      · have hT : totL (vs ++ [r.1]) (bs ++ [r.2.1]) (vs ++ [r.1]).length ≤ p + a.length + 1 := by
          rw [totL_push hbl, h8 s4, List.length_drop, List.length_take]; omega
        obtain ⟨R, Q, n, h1, h2, h3, h4⟩ := ih (p + a.length + 1) (vs ++ [r.1]) (bs ++ [r.2.1]) (by omega) (by omega) (by simp; omega) (hb.push h6 h9 s3) hT
        refine ⟨R, Q, n, fun j hj => ⟨?_, ?_⟩, h2, h3, h4⟩
        · obtain ⟨j, rfl⟩ : ∃ j', j = (j' + 1) + a.length := ⟨j - 1 - a.length, by omega⟩
          rw [sc_skip hl a (10 :: t) p (j + 1) k e hp, loopM, s1]
          exact (h1 j (by omega)).1
        · obtain ⟨j, rfl⟩ : ∃ j', j = j' + 1 := ⟨j - 1, by omega⟩
          rw [loopM, s2]
          exact (h1 j (by omega)).2
theorem scanlog_both (l : List UInt8) (hl : l.length ≤ 1000000000) : ∃ (r : List Int) (q : List (List ChT)) (n : Nat), m_s_ScanLog (mkB l) = some (r, q, (n : Int)) ∧ m_i_ScanLog (mkB l) = some (r, q, (n : Int)) ∧ n ≤ l.length ∧ r.length ≤ 4000 ∧ ScOk r q ∧ totL r q r.length ≤ n := by
  unfold m_s_ScanLog m_i_ScanLog
  by_cases h : l.length ≤ 4000
  · obtain ⟨r, q, n, h1, h2, h3, h4⟩ := sc_both h (l.length + 1) 0 [] [] (by omega) (by omega) (by simp) ⟨rfl, fun b hb => (by cases hb), fun b hb => (by cases hb)⟩ (Nat.zero_le _)
    obtain ⟨k1, k2⟩ := h1 FUEL (fuelUp _ (by omega))
    have k2 : loopM (m_i_ScanLog_l0 (mkB l)) FUEL (([] : List Int), ([] : List (List ChT)), 0) = some (.brk (r, q, (n : Int))) := k2
    refine ⟨r, q, n, ?_, ?_, h2, by omega, h4⟩
    · rcases k1 with k1 | ⟨i, k1⟩
      · have k1 : loopM (m_s_ScanLog_l0 (mkB l)) FUEL (([] : List Int), ([] : List (List ChT)), 0, 0) = _ := k1
        rw [bindL_ret k1]
      · have k1 : loopM (m_s_ScanLog_l0 (mkB l)) FUEL (([] : List Int), ([] : List (List ChT)), 0, 0) = _ := k1
        rw [bindL_brk k1]
    · rw [bindL_brk k2]
  · have hf := fuelUp 100 (by omega)
    obtain ⟨k, hk⟩ : ∃ k, FUEL = k + 1 := ⟨FUEL - 1, by omega⟩
    have k1 : loopM (m_s_ScanLog_l0 (mkB l)) FUEL (([] : List Int), ([] : List (List ChT)), 0, 0) = some (.brk ([], [], 0, 0)) := by
      rw [hk, loopM]
      have : m_s_ScanLog_l0 (mkB l) (([] : List Int), ([] : List (List ChT)), 0, 0) = some (.brk ([], [], 0, 0)) := by
        unfold m_s_ScanLog_l0
        simp only []
        rw [mkB_size, if_pos (decide_eq_true (by omega)), if_neg (by simp; omega)]
      rw [this]
    have k2 : loopM (m_i_ScanLog_l0 (mkB l)) FUEL (([] : List Int), ([] : List (List ChT)), 0) = some (.brk ([], [], 0)) := by
      rw [hk, loopM]
      have : m_i_ScanLog_l0 (mkB l) (([] : List Int), ([] : List (List ChT)), 0) = some (.brk ([], [], 0)) := by
        unfold m_i_ScanLog_l0
        simp only []
        rw [mkB_size, if_neg (by simp; omega)]
      rw [this]
    rw [bindL_brk k1, bindL_brk k2]
    exact ⟨[], [], 0, rfl, rfl, by omega, by simp, ⟨rfl, fun b hb => (by cases hb), fun b hb => (by cases hb)⟩, Nat.le_refl _⟩
end Go.Proofs.YtfkjjnddefojjaaGreatDoor.D
