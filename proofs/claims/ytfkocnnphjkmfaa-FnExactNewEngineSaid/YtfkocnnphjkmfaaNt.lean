/- Printed by rclaim.py: what is known of the types and of the functions. -/
import Derived.Test.YtfkocnnphjkmfaaRP
import Derived.Test.YtfkocnnphjkmfaaRV
import Derived.Test.YtfkocnnphjkmfaaNm
set_option linter.unusedVariables false
set_option maxRecDepth 1000000
namespace Go.Proofs.Ytfkocnnphjkmfaa.R
open Go.RowKit
open Go.Proofs.Ytfkocnnphjkmfaa.D
abbrev y3 : Ty := .int .i64
abbrev y104 : Ty := .prod y3 (.prod y3 (.prod y3 y3))
abbrev y106 : Ty := .prod y3 (.prod y3 (.prod y3 y3))
abbrev y112 : Ty := .prod y3 (.prod y3 y3)
abbrev y4 : Ty := .bool
abbrev y125 : Ty := .sl 4 y4
abbrev y43 : Ty := .sl 3 y3
abbrev y126 : Ty := .sl 43 y43
abbrev y128 : Ty := .prod y3 (.prod y125 y126)
abbrev y147 : Ty := .prod y3 (.prod y3 (.prod y3 y3))
abbrev y130 : Ty := .sl 147 y147
abbrev y132 : Ty := .wr y130
abbrev y134 : Ty := .prod y3 (.prod y132 y3)
abbrev y44 : Ty := .sl 106 y106
abbrev y46 : Ty := .prod y43 y44
abbrev y60 : Ty := .sl 104 y104
abbrev y62 : Ty := .prod y43 y60
abbrev y48 : Ty := .sl 62 y62
abbrev y50 : Ty := .prod y3 y48
abbrev y51 : Ty := .sl 128 y128
abbrev y52 : Ty := .sl 134 y134
abbrev y54 : Ty := .prod y51 y52
abbrev y55 : Ty := .sl 112 y112
abbrev y9 : Ty := .str
abbrev y57 : Ty := .prod y50 (.prod y54 (.prod y55 y9))
def tt : TT := [(3, ⟨false, 1, none, y3, [], some 8, none, false, none⟩),
  (4, ⟨false, 1, none, y4, [], some 1, none, true, none⟩),
  (9, ⟨false, 1, none, y9, [], some 16, none, false, none⟩),
  (43, ⟨false, 1, some 3, y43, [], some 24, none, false, none⟩),
  (44, ⟨false, 1, some 106, y44, [], some 24, none, false, none⟩),
  (46, ⟨true, 2, none, y46, [(0, 0), (1, 0)], some 48, some [(0, 1), (1, 1)], false, none⟩),
  (48, ⟨false, 1, some 62, y48, [], some 24, none, false, none⟩),
  (50, ⟨true, 2, none, y50, [(0, 0), (1, 0)], some 32, some [(0, 1), (1, 1)], false, none⟩),
  (51, ⟨false, 1, some 128, y51, [], some 24, none, false, none⟩),
  (52, ⟨false, 1, some 134, y52, [], some 24, none, false, none⟩),
  (54, ⟨true, 2, none, y54, [(0, 0), (1, 0)], some 48, some [(0, 1), (1, 1)], false, none⟩),
  (55, ⟨false, 1, some 112, y55, [], some 24, none, false, none⟩),
  (57, ⟨true, 6, none, y57, [(0, 1), (2, 1), (4, 0), (5, 0)], some 120, some [(0, 2), (2, 2), (4, 1), (5, 1)], false, none⟩),
  (60, ⟨false, 1, some 104, y60, [], some 24, none, false, none⟩),
  (62, ⟨true, 2, none, y62, [(0, 0), (1, 0)], some 48, some [(0, 1), (1, 1)], false, none⟩),
  (104, ⟨true, 4, none, y104, [(0, 0), (1, 0), (2, 0), (3, 0)], some 32, some [(0, 1), (1, 1), (2, 1), (3, 1)], false, none⟩),
  (106, ⟨true, 4, none, y106, [(0, 0), (1, 0), (2, 0), (3, 0)], some 32, some [(0, 1), (1, 1), (2, 1), (3, 1)], false, none⟩),
  (112, ⟨true, 3, none, y112, [(0, 0), (1, 0), (2, 0)], some 24, some [(0, 1), (1, 1), (2, 1)], false, none⟩),
  (125, ⟨false, 1, some 4, y125, [], some 24, none, false, none⟩),
  (126, ⟨false, 1, some 43, y126, [], some 24, none, false, none⟩),
  (128, ⟨true, 3, none, y128, [(0, 0), (1, 0), (2, 0)], some 56, some [(0, 1), (1, 1), (2, 1)], false, none⟩),
  (130, ⟨false, 1, some 147, y130, [], some 24, none, false, none⟩),
  (132, ⟨true, 1, none, y132, [(0, 0)], some 24, some [(0, 1)], false, none⟩),
  (134, ⟨true, 3, none, y134, [(0, 0), (1, 0), (2, 0)], some 40, some [(0, 1), (1, 1), (2, 1)], false, none⟩),
  (147, ⟨true, 4, none, y147, [(0, 0), (1, 0), (2, 0), (3, 0)], some 32, some [(0, 1), (1, 1), (2, 1), (3, 1)], false, none⟩)]
theorem tt_ok : TTok Try.prog tt := ⟨td_flat (n := 1) (z := .int .i64 0) ⟨⟨_, Try.underlying3, rfl⟩, by kernel_rfl⟩ rfl (by unfold TZ; kernel_rfl) rfl (Nat.le_of_ble_eq_true rfl) (fun h => by cases h),
  td_flat (n := 1) (z := .bool false) ⟨⟨_, Try.underlying4, rfl⟩, by kernel_rfl⟩ rfl (by unfold TZ; kernel_rfl) rfl (Nat.le_of_ble_eq_true rfl) (fun h => Try.underlying4),
  td_flat (n := 1) (z := .string ⟨#[]⟩) ⟨⟨_, Try.underlying9, rfl⟩, by kernel_rfl⟩ rfl (by unfold TZ; kernel_rfl) rfl (Nat.le_of_ble_eq_true rfl) (fun h => by cases h),
  td_sl ⟨⟨_, Try.underlying43, rfl⟩, by kernel_rfl⟩ Try.underlying43 (by unfold TZ; kernel_rfl),
  td_sl ⟨⟨_, Try.underlying44, rfl⟩, by kernel_rfl⟩ Try.underlying44 (by unfold TZ; kernel_rfl),
  td_st (z := .agg #[.slice none 0 0, .slice none 0 0]) ⟨⟨_, Try.underlying46, rfl⟩, by kernel_rfl⟩ rfl ⟨⟨_, _, Try.underlying46, rfl, rfl, by kernel_rfl⟩, ⟨_, _, Try.underlying46, rfl, rfl, by kernel_rfl⟩, trivial⟩ (by unfold TZ; kernel_rfl) rfl (Nat.le_of_ble_eq_true rfl) ⟨_, Try.underlying46, by kernel_rfl⟩ (fun ks h => by cases h),
  td_sl ⟨⟨_, Try.underlying48, rfl⟩, by kernel_rfl⟩ Try.underlying48 (by unfold TZ; kernel_rfl),
  td_st (z := .agg #[.int .i64 0, .slice none 0 0]) ⟨⟨_, Try.underlying50, rfl⟩, by kernel_rfl⟩ rfl ⟨⟨_, _, Try.underlying50, rfl, rfl, by kernel_rfl⟩, ⟨_, _, Try.underlying50, rfl, rfl, by kernel_rfl⟩, trivial⟩ (by unfold TZ; kernel_rfl) rfl (Nat.le_of_ble_eq_true rfl) ⟨_, Try.underlying50, by kernel_rfl⟩ (fun ks h => by cases h),
  td_sl ⟨⟨_, Try.underlying51, rfl⟩, by kernel_rfl⟩ Try.underlying51 (by unfold TZ; kernel_rfl),
  td_sl ⟨⟨_, Try.underlying52, rfl⟩, by kernel_rfl⟩ Try.underlying52 (by unfold TZ; kernel_rfl),
  td_st (z := .agg #[.slice none 0 0, .slice none 0 0]) ⟨⟨_, Try.underlying54, rfl⟩, by kernel_rfl⟩ rfl ⟨⟨_, _, Try.underlying54, rfl, rfl, by kernel_rfl⟩, ⟨_, _, Try.underlying54, rfl, rfl, by kernel_rfl⟩, trivial⟩ (by unfold TZ; kernel_rfl) rfl (Nat.le_of_ble_eq_true rfl) ⟨_, Try.underlying54, by kernel_rfl⟩ (fun ks h => by cases h),
  td_sl ⟨⟨_, Try.underlying55, rfl⟩, by kernel_rfl⟩ Try.underlying55 (by unfold TZ; kernel_rfl),
  td_st (z := .agg #[.int .i64 0, .slice none 0 0, .slice none 0 0, .slice none 0 0, .slice none 0 0, .string ⟨#[]⟩]) ⟨⟨_, Try.underlying57, rfl⟩, by kernel_rfl⟩ rfl ⟨⟨_, _, Try.underlying57, rfl, rfl, by kernel_rfl⟩, ⟨_, _, Try.underlying57, rfl, rfl, by kernel_rfl⟩, ⟨_, _, Try.underlying57, rfl, rfl, by kernel_rfl⟩, ⟨_, _, Try.underlying57, rfl, rfl, by kernel_rfl⟩, trivial⟩ (by unfold TZ; kernel_rfl) rfl (Nat.le_of_ble_eq_true rfl) ⟨_, Try.underlying57, by kernel_rfl⟩ (fun ks h => by cases h),
  td_sl ⟨⟨_, Try.underlying60, rfl⟩, by kernel_rfl⟩ Try.underlying60 (by unfold TZ; kernel_rfl),
  td_st (z := .agg #[.slice none 0 0, .slice none 0 0]) ⟨⟨_, Try.underlying62, rfl⟩, by kernel_rfl⟩ rfl ⟨⟨_, _, Try.underlying62, rfl, rfl, by kernel_rfl⟩, ⟨_, _, Try.underlying62, rfl, rfl, by kernel_rfl⟩, trivial⟩ (by unfold TZ; kernel_rfl) rfl (Nat.le_of_ble_eq_true rfl) ⟨_, Try.underlying62, by kernel_rfl⟩ (fun ks h => by cases h),
  td_st (z := .agg #[.int .i64 0, .int .i64 0, .int .i64 0, .int .i64 0]) ⟨⟨_, Try.underlying104, rfl⟩, by kernel_rfl⟩ rfl ⟨⟨_, _, Try.underlying104, rfl, rfl, by kernel_rfl⟩, ⟨_, _, Try.underlying104, rfl, rfl, by kernel_rfl⟩, ⟨_, _, Try.underlying104, rfl, rfl, by kernel_rfl⟩, ⟨_, _, Try.underlying104, rfl, rfl, by kernel_rfl⟩, trivial⟩ (by unfold TZ; kernel_rfl) rfl (Nat.le_of_ble_eq_true rfl) ⟨_, Try.underlying104, by kernel_rfl⟩ (fun ks h => by cases h),
  td_st (z := .agg #[.int .i64 0, .int .i64 0, .int .i64 0, .int .i64 0]) ⟨⟨_, Try.underlying106, rfl⟩, by kernel_rfl⟩ rfl ⟨⟨_, _, Try.underlying106, rfl, rfl, by kernel_rfl⟩, ⟨_, _, Try.underlying106, rfl, rfl, by kernel_rfl⟩, ⟨_, _, Try.underlying106, rfl, rfl, by kernel_rfl⟩, ⟨_, _, Try.underlying106, rfl, rfl, by kernel_rfl⟩, trivial⟩ (by unfold TZ; kernel_rfl) rfl (Nat.le_of_ble_eq_true rfl) ⟨_, Try.underlying106, by kernel_rfl⟩ (fun ks h => by cases h),
  td_st (z := .agg #[.int .i64 0, .int .i64 0, .int .i64 0]) ⟨⟨_, Try.underlying112, rfl⟩, by kernel_rfl⟩ rfl ⟨⟨_, _, Try.underlying112, rfl, rfl, by kernel_rfl⟩, ⟨_, _, Try.underlying112, rfl, rfl, by kernel_rfl⟩, ⟨_, _, Try.underlying112, rfl, rfl, by kernel_rfl⟩, trivial⟩ (by unfold TZ; kernel_rfl) rfl (Nat.le_of_ble_eq_true rfl) ⟨_, Try.underlying112, by kernel_rfl⟩ (fun ks h => by cases h),
  td_sl ⟨⟨_, Try.underlying125, rfl⟩, by kernel_rfl⟩ Try.underlying125 (by unfold TZ; kernel_rfl),
  td_sl ⟨⟨_, Try.underlying126, rfl⟩, by kernel_rfl⟩ Try.underlying126 (by unfold TZ; kernel_rfl),
  td_st (z := .agg #[.int .i64 0, .slice none 0 0, .slice none 0 0]) ⟨⟨_, Try.underlying128, rfl⟩, by kernel_rfl⟩ rfl ⟨⟨_, _, Try.underlying128, rfl, rfl, by kernel_rfl⟩, ⟨_, _, Try.underlying128, rfl, rfl, by kernel_rfl⟩, ⟨_, _, Try.underlying128, rfl, rfl, by kernel_rfl⟩, trivial⟩ (by unfold TZ; kernel_rfl) rfl (Nat.le_of_ble_eq_true rfl) ⟨_, Try.underlying128, by kernel_rfl⟩ (fun ks h => by cases h),
  td_sl ⟨⟨_, Try.underlying130, rfl⟩, by kernel_rfl⟩ Try.underlying130 (by unfold TZ; kernel_rfl),
  td_st (z := .agg #[.slice none 0 0]) ⟨⟨_, Try.underlying132, rfl⟩, by kernel_rfl⟩ rfl ⟨⟨_, _, Try.underlying132, rfl, rfl, by kernel_rfl⟩, trivial⟩ (by unfold TZ; kernel_rfl) rfl (Nat.le_of_ble_eq_true rfl) ⟨_, Try.underlying132, by kernel_rfl⟩ (fun ks h => by cases h),
  td_st (z := .agg #[.int .i64 0, .slice none 0 0, .int .i64 0]) ⟨⟨_, Try.underlying134, rfl⟩, by kernel_rfl⟩ rfl ⟨⟨_, _, Try.underlying134, rfl, rfl, by kernel_rfl⟩, ⟨_, _, Try.underlying134, rfl, rfl, by kernel_rfl⟩, ⟨_, _, Try.underlying134, rfl, rfl, by kernel_rfl⟩, trivial⟩ (by unfold TZ; kernel_rfl) rfl (Nat.le_of_ble_eq_true rfl) ⟨_, Try.underlying134, by kernel_rfl⟩ (fun ks h => by cases h),
  td_st (z := .agg #[.int .i64 0, .int .i64 0, .int .i64 0, .int .i64 0]) ⟨⟨_, Try.underlying147, rfl⟩, by kernel_rfl⟩ rfl ⟨⟨_, _, Try.underlying147, rfl, rfl, by kernel_rfl⟩, ⟨_, _, Try.underlying147, rfl, rfl, by kernel_rfl⟩, ⟨_, _, Try.underlying147, rfl, rfl, by kernel_rfl⟩, ⟨_, _, Try.underlying147, rfl, rfl, by kernel_rfl⟩, trivial⟩ (by unfold TZ; kernel_rfl) rfl (Nat.le_of_ble_eq_true rfl) ⟨_, Try.underlying147, by kernel_rfl⟩ (fun ks h => by cases h), trivial⟩
theorem mixed : Try.prog.follows .mixedOrders = true := by kernel_rfl
def F_w_szIntS : FS := ⟨[.rd y43, .rd y3], [y3], m_w_szIntS⟩
def F_w_szEdgeS : FS := ⟨[.rd y44, .rd y3], [y3], m_w_szEdgeS⟩
def F_w_szGraph : FS := ⟨[.rd y46, .rd y3], [y3], m_w_szGraph⟩
def F_s_l3Copy : FS := ⟨[.rd y62], [y62], m_s_l3Copy⟩
def F_s_l1In : FS := ⟨[.rd y3, .rd y3, .rd y3], [y4], m_s_l1In⟩
def F_s_l3Edge : FS := ⟨[.rd y62, .rd y104], [y4], m_s_l3Edge⟩
def F_s_IsValidGraph : FS := ⟨[.rd y62], [y4], m_s_IsValidGraph⟩
def F_s_l2Cmp : FS := ⟨[.rd y43, .rd y43], [y3], m_s_l2Cmp⟩
def F_s_IsValidHistory : FS := ⟨[.rd y50], [y4], m_s_IsValidHistory⟩
def F_s_NewHistory : FS := ⟨[.rd y62, .rd y3], [y50, y4], m_s_NewHistory⟩
def F_s_NewEngine : FS := ⟨[.rd y62], [y57, y4], m_s_NewEngine⟩
def F_w_toIntS : FS := ⟨[.rd y43], [y43], m_w_toIntS⟩
def F_w_toEdge : FS := ⟨[.rd y106], [y104], m_w_toEdge⟩
def F_w_toEdgeS : FS := ⟨[.rd y44], [y60], m_w_toEdgeS⟩
def F_w_toGraph : FS := ⟨[.rd y46], [y62], m_w_toGraph⟩
def F_i_copyInts : FS := ⟨[.rd y43], [y43], m_i_copyInts⟩
def F_i_copyGraph : FS := ⟨[.rd y62], [y62], m_i_copyGraph⟩
def F_i_within : FS := ⟨[.rd y3, .rd y3, .rd y3], [y4], m_i_within⟩
def F_i_edgeOk : FS := ⟨[.rd y104, .rd y3], [y4], m_i_edgeOk⟩
def F_i_IsValidGraph : FS := ⟨[.rd y62], [y4], m_i_IsValidGraph⟩
def F_g_slices_Equal_S_int_int : FS := ⟨[.rd y43, .rd y43], [y4], m_g_slices_Equal_S_int_int⟩
def F_i_IsValidHistory : FS := ⟨[.rd y50], [y4], m_i_IsValidHistory⟩
def F_i_NewHistory : FS := ⟨[.rd y62, .rd y3], [y50, y4], m_i_NewHistory⟩
def F_i_NewEngine : FS := ⟨[.rd y62], [y57, y4], m_i_NewEngine⟩
def F_w_eqIntS : FS := ⟨[.rd y43, .rd y43], [y4], m_w_eqIntS⟩
def F_w_eqEdge : FS := ⟨[.rd y104, .rd y104], [y4], m_w_eqEdge⟩
def F_w_eqEdgeS : FS := ⟨[.rd y60, .rd y60], [y4], m_w_eqEdgeS⟩
def F_w_eqGraph : FS := ⟨[.rd y62, .rd y62], [y4], m_w_eqGraph⟩
def F_w_eqGraphS : FS := ⟨[.rd y48, .rd y48], [y4], m_w_eqGraphS⟩
def F_w_eqHistory : FS := ⟨[.rd y50, .rd y50], [y4], m_w_eqHistory⟩
def F_w_eqBoolS : FS := ⟨[.rd y125, .rd y125], [y4], m_w_eqBoolS⟩
def F_w_eqIntSS : FS := ⟨[.rd y126, .rd y126], [y4], m_w_eqIntSS⟩
def F_w_eqAutomaton : FS := ⟨[.rd y128, .rd y128], [y4], m_w_eqAutomaton⟩
def F_w_eqAutomatonS : FS := ⟨[.rd y51, .rd y51], [y4], m_w_eqAutomatonS⟩
def F_w_eqToken : FS := ⟨[.rd y147, .rd y147], [y4], m_w_eqToken⟩
def F_w_eqTokenS : FS := ⟨[.rd y130, .rd y130], [y4], m_w_eqTokenS⟩
def F_w_eqExpr : FS := ⟨[.rd y132, .rd y132], [y4], m_w_eqExpr⟩
def F_w_eqRegistered : FS := ⟨[.rd y134, .rd y134], [y4], m_w_eqRegistered⟩
def F_w_eqRegisteredS : FS := ⟨[.rd y52, .rd y52], [y4], m_w_eqRegisteredS⟩
def F_w_eqRegistry : FS := ⟨[.rd y54, .rd y54], [y4], m_w_eqRegistry⟩
def F_w_eqSubscriber : FS := ⟨[.rd y112, .rd y112], [y4], m_w_eqSubscriber⟩
def F_w_eqSubscriberS : FS := ⟨[.rd y55, .rd y55], [y4], m_w_eqSubscriberS⟩
def F_w_eqEngine : FS := ⟨[.rd y57, .rd y57], [y4], m_w_eqEngine⟩
def F_w_markIntS : FS := ⟨[.ow y43, .rd y3], [y3], m_w_markIntS⟩
def F_w_markEdgeS : FS := ⟨[.ow y60, .rd y3], [y3], m_w_markEdgeS⟩
def F_w_markGraph : FS := ⟨[.ow y62, .rd y3], [y3], m_w_markGraph⟩
def F_w_markGraphS : FS := ⟨[.ow y48, .rd y3], [y3], m_w_markGraphS⟩
def F_w_markHistory : FS := ⟨[.ow y50, .rd y3], [y3], m_w_markHistory⟩
def F_w_markBoolS : FS := ⟨[.ow y125, .rd y3], [y3], m_w_markBoolS⟩
def F_w_markIntSS : FS := ⟨[.ow y126, .rd y3], [y3], m_w_markIntSS⟩
def F_w_markAutomatonS : FS := ⟨[.ow y51, .rd y3], [y3], m_w_markAutomatonS⟩
def F_w_markTokenS : FS := ⟨[.ow y130, .rd y3], [y3], m_w_markTokenS⟩
def F_w_markRegisteredS : FS := ⟨[.ow y52, .rd y3], [y3], m_w_markRegisteredS⟩
def F_w_markRegistry : FS := ⟨[.ow y54, .rd y3], [y3], m_w_markRegistry⟩
def F_w_markSubscriberS : FS := ⟨[.ow y55, .rd y3], [y3], m_w_markSubscriberS⟩
def F_w_markEngine : FS := ⟨[.ow y57, .rd y3], [y3], m_w_markEngine⟩
def F_w_heldIntS : FS := ⟨[.rd y43, .rd y3], [y3], m_w_heldIntS⟩
def F_w_heldEdgeS : FS := ⟨[.rd y60, .rd y3], [y3], m_w_heldEdgeS⟩
def F_w_heldGraphS : FS := ⟨[.rd y48, .rd y3], [y3], m_w_heldGraphS⟩
def F_w_heldHistory : FS := ⟨[.rd y50, .rd y3], [y3], m_w_heldHistory⟩
def F_w_heldBoolS : FS := ⟨[.rd y125, .rd y3], [y3], m_w_heldBoolS⟩
def F_w_heldIntSS : FS := ⟨[.rd y126, .rd y3], [y3], m_w_heldIntSS⟩
def F_w_heldAutomatonS : FS := ⟨[.rd y51, .rd y3], [y3], m_w_heldAutomatonS⟩
def F_w_heldTokenS : FS := ⟨[.rd y130, .rd y3], [y3], m_w_heldTokenS⟩
def F_w_heldRegisteredS : FS := ⟨[.rd y52, .rd y3], [y3], m_w_heldRegisteredS⟩
def F_w_heldRegistry : FS := ⟨[.rd y54, .rd y3], [y3], m_w_heldRegistry⟩
def F_w_heldSubscriberS : FS := ⟨[.rd y55, .rd y3], [y3], m_w_heldSubscriberS⟩
def F_w_heldEngine : FS := ⟨[.rd y57, .rd y3], [y3], m_w_heldEngine⟩
def F_w_FnExactNewEngine : FS := ⟨[.rd y46], [y4], m_w_FnExactNewEngine⟩
end Go.Proofs.Ytfkocnnphjkmfaa.R
