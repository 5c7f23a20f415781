/- FnExactApplyMessage: for every input the law returns true and changes nothing that was there. Part 6 of 6. -/
import Derived.Test.YtakjhbbbjbebdaaAC4
/- Printed by lp.py: what the functions compute, as data. -/
set_option linter.unusedVariables false
set_option maxRecDepth 1000000
namespace Go.Proofs.Ytakjhbbbjbebdaa.D
open Go.RowKit
def m_w_szPairS (p0a : List (Int × Int)) (p1left : Int) : Option Int :=
  if decide (IntKind.i64.wrap (p1left - (p0a.length : Int)) < 0) then (some (-1)) else (some (IntKind.i64.wrap (p1left - (p0a.length : Int))))
def m_w_szDelta (p0a : (List (Int × Int)) × (List (Int × Int))) (p1left : Int) : Option Int :=
  (m_w_szPairS p0a.1 p1left).bind fun r1 => if decide (r1 < 0) then (some (-1)) else ((m_w_szPairS p0a.2 r1).bind fun r2 => if decide (r2 < 0) then (some (-1)) else (some r2))
def m_w_szMessage (p0a : Int × Bool × ((List (Int × Int)) × (List (Int × Int)))) (p1left : Int) : Option Int :=
  (m_w_szDelta (p0a.2.2.1, p0a.2.2.2) p1left).bind fun r1 => if decide (r1 < 0) then (some (-1)) else (some r1)
def m_s_l1In (p0x : Int) (p1low : Int) (p2high : Int) : Option Bool :=
  if decide (p0x ≥ p1low) then (some (decide (p0x ≤ p2high))) else (some false)
def m_s_l15Less (p0a : Int × Int) (p1b : Int × Int) : Option Bool :=
  if decide (p0a.1 < p1b.1) then (some true) else (if p0a.1 == p1b.1 then (some (decide (p0a.2 < p1b.2))) else (some false))
def m_s_ArePairs_l0 (p0l : List (Int × Int)) (s3 : Int) : Option (Out Bool Int) :=
  if decide (s3 < (p0l.length : Int)) then ((getI p0l s3).bind fun x9 => (m_s_l1In x9.1 0 4).bind fun r7 => if r7 then ((getI p0l s3).bind fun x10 => (m_s_l1In x10.2 0 4).bind fun r8 => if r8 then (if decide (s3 > 0) then ((getI p0l (IntKind.i64.wrap (s3 - 1))).bind fun x11 => (getI p0l s3).bind fun x12 => (m_s_l15Less (x11.1, x11.2) (x12.1, x12.2)).bind fun r9 => if r9 then (some (.nxt (IntKind.i64.wrap (s3 + 1)))) else (some (.ret false))) else (some (.nxt (IntKind.i64.wrap (s3 + 1))))) else (some (.ret false))) else (some (.ret false))) else (some (.brk s3))
def m_s_ArePairs (p0l : List (Int × Int)) : Option Bool :=
  bindL (loopM (m_s_ArePairs_l0 p0l) FUEL 0) (fun r => some r) (fun s4 => some true)
def m_s_l15Has_l0 (p0l : List (Int × Int)) (p1p : Int × Int) (s3 : Int) : Option (Out Bool Int) :=
  if decide (s3 < (p0l.length : Int)) then ((getI p0l s3).bind fun x3 => if ((x3.1 == p1p.1) && ((x3.2 == p1p.2) && true)) then (some (.ret true)) else (some (.nxt (IntKind.i64.wrap (s3 + 1))))) else (some (.brk s3))
def m_s_l15Has (p0l : List (Int × Int)) (p1p : Int × Int) : Option Bool :=
  bindL (loopM (m_s_l15Has_l0 p0l p1p) FUEL 0) (fun r => some r) (fun s4 => some false)
def m_s_IsDelta_l0 (p0d : (List (Int × Int)) × (List (Int × Int))) (s3 : Int) : Option (Out Bool Int) :=
  if decide (s3 < (p0d.1.length : Int)) then ((getI p0d.1 s3).bind fun x3 => (m_s_l15Has p0d.2 (x3.1, x3.2)).bind fun r3 => if r3 then (some (.ret false)) else (some (.nxt (IntKind.i64.wrap (s3 + 1))))) else (some (.brk s3))
def m_s_IsDelta (p0d : (List (Int × Int)) × (List (Int × Int))) : Option Bool :=
  bindL (loopM (m_s_IsDelta_l0 p0d) FUEL 0) (fun r => some r) (fun s4 => (m_s_ArePairs p0d.1).bind fun r4 => if r4 then ((m_s_ArePairs p0d.2).bind fun r5 => some r5) else (some false))
def m_s_l15Put_l0 (p0l : List (Int × Int)) (p1p : Int × Int) (s1 : Int) : Option (Out (List (Int × Int)) Int) :=
  if decide (s1 < (p0l.length : Int)) then ((getI p0l s1).bind fun x4 => (m_s_l15Less (x4.1, x4.2) (p1p.1, p1p.2)).bind fun r5 => if r5 then (some (.nxt (IntKind.i64.wrap (s1 + 1)))) else (some (.brk s1))) else (some (.brk s1))
def m_s_l15Put (p0l : List (Int × Int)) (p1p : Int × Int) : Option (List (Int × Int)) :=
  bindL (loopM (m_s_l15Put_l0 p0l p1p) FUEL 0) (fun r6 => some r6) (fun s7 => if decide (s7 < (p0l.length : Int)) then ((getI p0l s7).bind fun x9 => if Bool.and.match_1 (fun (u10 : Bool) => Bool) (x9.1 == p1p.1) (fun (u11 : Unit) => false) (fun (u12 : Unit) => Bool.and.match_1 (fun (u13 : Bool) => Bool) (x9.2 == p1p.2) (fun (u14 : Unit) => false) (fun (u15 : Unit) => true)) then (some p0l) else ((chk (And (0 ≤ s7) (s7 ≤ (p0l.length : Int)))).bind fun _ => (appI 16 ([] : List (Int × Int)) ((p0l.take s7.toNat).drop 0)).bind fun z22 => (appI 16 z22 ([(p1p.1, p1p.2)])).bind fun z23 => (chk (And (0 ≤ s7) (s7 ≤ (p0l.length : Int)))).bind fun _ => (appI 16 z23 ((p0l.take p0l.length).drop s7.toNat)).bind fun z25 => some z25)) else ((chk (And (0 ≤ s7) (s7 ≤ (p0l.length : Int)))).bind fun _ => (appI 16 ([] : List (Int × Int)) ((p0l.take s7.toNat).drop 0)).bind fun z32 => (appI 16 z32 ([(p1p.1, p1p.2)])).bind fun z33 => (chk (And (0 ≤ s7) (s7 ≤ (p0l.length : Int)))).bind fun _ => (appI 16 z33 ((p0l.take p0l.length).drop s7.toNat)).bind fun z35 => some z35))
def m_s_MergePairs_l0 (p0a : List (Int × Int)) (s3 : (List (Int × Int)) × Int) : Option (Out (List (Int × Int)) ((List (Int × Int)) × Int)) :=
  if decide (s3.2 < (p0a.length : Int)) then ((getI p0a s3.2).bind fun x3 => (m_s_l15Put s3.1 (x3.1, x3.2)).bind fun r3 => some (.nxt (r3, IntKind.i64.wrap (s3.2 + 1)))) else (some (.brk (s3.1, s3.2)))
def m_s_MergePairs_l1 (p1b : List (Int × Int)) (s7 : (List (Int × Int)) × Int) : Option (Out (List (Int × Int)) ((List (Int × Int)) × Int)) :=
  if decide (s7.2 < (p1b.length : Int)) then ((getI p1b s7.2).bind fun x6 => (m_s_l15Put s7.1 (x6.1, x6.2)).bind fun r6 => some (.nxt (r6, IntKind.i64.wrap (s7.2 + 1)))) else (some (.brk (s7.1, s7.2)))
def m_s_MergePairs (p0a : List (Int × Int)) (p1b : List (Int × Int)) : Option (List (Int × Int)) :=
  bindL (loopM (m_s_MergePairs_l0 p0a) FUEL (([] : List (Int × Int)), 0)) (fun r => some r) (fun s4 => bindL (loopM (m_s_MergePairs_l1 p1b) FUEL (s4.1, 0)) (fun r => some r) (fun s8 => some s8.1))
def m_s_SubtractPairs_l0 (p0a : List (Int × Int)) (p1b : List (Int × Int)) (s5 : (List (Int × Int)) × Int) : Option (Out (List (Int × Int)) ((List (Int × Int)) × Int)) :=
  if decide (s5.2 < (p0a.length : Int)) then (Option.bind (((getI p0a s5.2).bind fun x11 => (m_s_l15Has p1b (x11.1, x11.2)).bind fun r11 => if r11 then (some s5.1) else ((getI p0a s5.2).bind fun x12 => (m_s_l15Put s5.1 (x12.1, x12.2)).bind fun r12 => some r12) : Option (List (Int × Int)))) (fun s7 => some (.nxt (s7, IntKind.i64.wrap (s5.2 + 1))))) else (some (.brk (s5.1, s5.2)))
def m_s_SubtractPairs (p0a : List (Int × Int)) (p1b : List (Int × Int)) : Option (List (Int × Int)) :=
  bindL (loopM (m_s_SubtractPairs_l0 p0a p1b) FUEL (([] : List (Int × Int)), 0)) (fun r => some r) (fun s6 => some s6.1)
def m_s_ApplyDelta_l0 (p0l : List (Int × Int)) (p1d : (List (Int × Int)) × (List (Int × Int))) (s4 : Bool × Int) : Option (Out ((List (Int × Int)) × Bool) (Bool × Int)) :=
  if decide (s4.2 < (p1d.1.length : Int)) then (if s4.1 then ((getI p1d.1 s4.2).bind fun x3 => (m_s_l15Has p0l (x3.1, x3.2)).bind fun r7 => some (.nxt (!r7, IntKind.i64.wrap (s4.2 + 1)))) else (some (.nxt (false, IntKind.i64.wrap (s4.2 + 1))))) else (some (.brk (s4.1, s4.2)))
def m_s_ApplyDelta_l1 (p0l : List (Int × Int)) (p1d : (List (Int × Int)) × (List (Int × Int))) (s8 : Bool × Int) : Option (Out ((List (Int × Int)) × Bool) (Bool × Int)) :=
  if decide (s8.2 < (p1d.2.length : Int)) then (if s8.1 then ((getI p1d.2 s8.2).bind fun x6 => (m_s_l15Has p0l (x6.1, x6.2)).bind fun r10 => some (.nxt (r10, IntKind.i64.wrap (s8.2 + 1)))) else (some (.nxt (false, IntKind.i64.wrap (s8.2 + 1))))) else (some (.brk (s8.1, s8.2)))
def m_s_ApplyDelta (p0l : List (Int × Int)) (p1d : (List (Int × Int)) × (List (Int × Int))) : Option ((List (Int × Int)) × Bool) :=
  Option.bind (((m_s_IsDelta (p1d.1, p1d.2)).bind fun r3 => if r3 then ((m_s_ArePairs p0l).bind fun r4 => some r4) else (some false) : Option Bool)) (fun s1 => bindL (loopM (m_s_ApplyDelta_l0 p0l p1d) FUEL (s1, 0)) (fun r => some r) (fun s5 => bindL (loopM (m_s_ApplyDelta_l1 p0l p1d) FUEL (s5.1, 0)) (fun r => some r) (fun s9 => if s9.1 then ((m_s_SubtractPairs p0l p1d.2).bind fun r11 => (m_s_MergePairs r11 p1d.1).bind fun r12 => some (r12, true)) else ((appI 16 ([] : List (Int × Int)) p0l).bind fun z1 => some (z1, false)))))
def m_s_ApplyMessage (p0l : List (Int × Int)) (p1m : Int × Bool × ((List (Int × Int)) × (List (Int × Int)))) : Option ((List (Int × Int)) × Bool) :=
  if p1m.2.1 then ((m_s_ArePairs p1m.2.2.1).bind fun r2 => if r2 then (if decide ((p1m.2.2.2.length : Int) > 0) then ((appI 16 ([] : List (Int × Int)) p0l).bind fun z3 => some (z3, false)) else ((appI 16 ([] : List (Int × Int)) p1m.2.2.1).bind fun z2 => some (z2, true))) else ((appI 16 ([] : List (Int × Int)) p0l).bind fun z1 => some (z1, false))) else ((m_s_ApplyDelta p0l (p1m.2.2.1, p1m.2.2.2)).bind fun r1 => some (r1.1, r1.2))
def m_w_toPair (p0a : Int × Int) : Option (Int × Int) :=
  some (p0a.1, p0a.2)
def m_w_toPairS_l0 (p0a : List (Int × Int)) (s3 : (List (Int × Int)) × Int) : Option (Out (List (Int × Int)) ((List (Int × Int)) × Int)) :=
  if decide (s3.2 < (p0a.length : Int)) then ((getI p0a s3.2).bind fun x6 => (m_w_toPair (x6.1, x6.2)).bind fun r3 => (getI s3.1 s3.2).bind fun x7 => some (.nxt (s3.1.set s3.2.toNat (r3.1, r3.2), IntKind.i64.wrap (s3.2 + 1)))) else (some (.brk (s3.1, s3.2)))
def m_w_toPairS (p0a : List (Int × Int)) : Option (List (Int × Int)) :=
  (mkI 16 (p0a.length : Int) ((0, 0) : Int × Int)).bind fun x1 => bindL (loopM (m_w_toPairS_l0 p0a) FUEL (x1, 0)) (fun r => some r) (fun s4 => some s4.1)
def m_w_toDelta (p0a : (List (Int × Int)) × (List (Int × Int))) : Option ((List (Int × Int)) × (List (Int × Int))) :=
  (m_w_toPairS p0a.1).bind fun r1 => (m_w_toPairS p0a.2).bind fun r2 => some (r1, r2)
def m_w_toMessage (p0a : Int × Bool × ((List (Int × Int)) × (List (Int × Int)))) : Option (Int × Bool × ((List (Int × Int)) × (List (Int × Int)))) :=
  (m_w_toDelta (p0a.2.2.1, p0a.2.2.2)).bind fun r1 => some (p0a.1, p0a.2.1, (r1.1, r1.2))
def m_i_within (p0n : Int) (p1a : Int) (p2b : Int) : Option Bool :=
  if decide (p0n ≥ p1a) then (some (decide (p0n ≤ p2b))) else (some false)
def m_i_compareInts (p0a : Int) (p1b : Int) : Option Int :=
  if decide (p0a < p1b) then (some (-1)) else (if decide (p0a > p1b) then (some 1) else (some 0))
def m_i_comparePairs (p0a : Int × Int) (p1b : Int × Int) : Option Int :=
  if p0a.1 != p1b.1 then ((m_i_compareInts p0a.1 p1b.1).bind fun r2 => some r2) else ((m_i_compareInts p0a.2 p1b.2).bind fun r1 => some r1)
def m_i_ArePairs_l0 (p0l : List (Int × Int)) (s3 : Int) : Option (Out Bool Int) :=
  if decide (s3 < (p0l.length : Int)) then ((getI p0l s3).bind fun x5 => (m_i_within x5.1 0 4).bind fun r7 => if r7 then ((m_i_within x5.2 0 4).bind fun r8 => if r8 then (if decide (s3 > 0) then ((getI p0l (IntKind.i64.wrap (s3 - 1))).bind fun x6 => (m_i_comparePairs (x6.1, x6.2) (x5.1, x5.2)).bind fun r9 => if decide (r9 ≥ 0) then (some (.ret false)) else (some (.nxt (IntKind.i64.wrap (s3 + 1))))) else (some (.nxt (IntKind.i64.wrap (s3 + 1))))) else (some (.ret false))) else (some (.ret false))) else (some (.brk s3))
def m_i_ArePairs (p0l : List (Int × Int)) : Option Bool :=
  bindL (loopM (m_i_ArePairs_l0 p0l) FUEL 0) (fun r => some r) (fun s4 => some true)
def m_i_copyPairs (p0l : List (Int × Int)) : Option (List (Int × Int)) :=
  (appI 16 ([] : List (Int × Int)) p0l).bind fun z1 => some z1
def m_g_slices_IndexFunc_S_Pair_Pair_l0 (p0s : List (Int × Int)) (p1f : (Int × Int) → Option Bool) (s3 : Int) : Option (Out Int Int) :=
  if decide (s3 < (p0s.length : Int)) then ((getI p0s s3).bind fun x3 => (p1f (x3.1, x3.2)).bind fun r3 => if r3 then (some (.ret s3)) else (some (.nxt (IntKind.i64.wrap (s3 + 1))))) else (some (.brk s3))
def m_g_slices_IndexFunc_S_Pair_Pair (p0s : List (Int × Int)) (p1f : (Int × Int) → Option Bool) : Option Int :=
  bindL (loopM (m_g_slices_IndexFunc_S_Pair_Pair_l0 p0s p1f) FUEL 0) (fun r => some r) (fun s4 => some (-1))
def m_g_slices_ContainsFunc_S_Pair_Pair (p0s : List (Int × Int)) (p1f : (Int × Int) → Option Bool) : Option Bool :=
  (m_g_slices_IndexFunc_S_Pair_Pair p0s p1f).bind fun r1 => some (decide (r1 ≥ 0))
def m_g_slices_Index_S_Pair_Pair_l0 (p0s : List (Int × Int)) (p1v : Int × Int) (s3 : Int) : Option (Out Int Int) :=
  if decide (s3 < (p0s.length : Int)) then ((getI p0s s3).bind fun x3 => if ((p1v.1 == x3.1) && ((p1v.2 == x3.2) && true)) then (some (.ret s3)) else (some (.nxt (IntKind.i64.wrap (s3 + 1))))) else (some (.brk s3))
def m_g_slices_Index_S_Pair_Pair (p0s : List (Int × Int)) (p1v : Int × Int) : Option Int :=
  bindL (loopM (m_g_slices_Index_S_Pair_Pair_l0 p0s p1v) FUEL 0) (fun r => some r) (fun s4 => some (-1))
def m_g_slices_Contains_S_Pair_Pair (p0s : List (Int × Int)) (p1v : Int × Int) : Option Bool :=
  (m_g_slices_Index_S_Pair_Pair p0s (p1v.1, p1v.2)).bind fun r1 => some (decide (r1 ≥ 0))
def m_i_commonPair_1 (p0p : Int × Int) (q0 : List (Int × Int)) : Option Bool :=
  (m_g_slices_Contains_S_Pair_Pair q0 (p0p.1, p0p.2)).bind fun r1 => some r1
def m_i_commonPair (p0a : List (Int × Int)) (p1b : List (Int × Int)) : Option Bool :=
  (m_g_slices_ContainsFunc_S_Pair_Pair p0a (fun a0 => m_i_commonPair_1 a0 p1b)).bind fun r1 => some r1
def m_i_IsDelta (p0d : (List (Int × Int)) × (List (Int × Int))) : Option Bool :=
  (m_i_ArePairs p0d.1).bind fun r1 => if r1 then ((m_i_ArePairs p0d.2).bind fun r2 => if r2 then ((m_i_commonPair p0d.1 p0d.2).bind fun r3 => some (!r3)) else (some false)) else (some false)
def m_g_slices_DeleteFunc_S_Pair_Pair_l0 (p1del : (Int × Int) → Option Bool) (s3 : Int × Int × List (Int × Int)) : Option (Out (List (Int × Int)) (Int × Int × List (Int × Int))) :=
  if decide (s3.2.1 < (s3.2.2.length : Int)) then (Option.bind (((getI s3.2.2 s3.2.1).bind fun x4 => (p1del (x4.1, x4.2)).bind fun r5 => if r5 then (some (s3.1, s3.2.2)) else ((getI s3.2.2 s3.1).bind fun x6 => some (IntKind.i64.wrap (s3.1 + 1), s3.2.2.set s3.1.toNat (x4.1, x4.2))) : Option (Int × List (Int × Int)))) (fun s7 => some (.nxt (s7.1, IntKind.i64.wrap (s3.2.1 + 1), s7.2)))) else (some (.brk (s3.1, s3.2.1, s3.2.2)))
def m_g_slices_DeleteFunc_S_Pair_Pair (p0s : List (Int × Int)) (p1del : (Int × Int) → Option Bool) : Option (List (Int × Int)) :=
  (m_g_slices_IndexFunc_S_Pair_Pair p0s p1del).bind fun r0 => if r0 == (-1) then (some p0s) else (bindL (loopM (m_g_slices_DeleteFunc_S_Pair_Pair_l0 p1del) FUEL (r0, IntKind.i64.wrap (r0 + 1), p0s)) (fun r8 => some r8) (fun s9 => (chk (And (0 ≤ s9.1) (And (s9.1 ≤ ((s9.2.2.length : Int) - 0)) ((0 + ((s9.2.2.length : Int) - 0)) ≤ (s9.2.2.length : Int))))).bind fun _ => (chk (And ((0 + s9.1) ≤ (0 + ((s9.2.2.length : Int) - 0))) ((0 + ((s9.2.2.length : Int) - 0)) ≤ (s9.2.2.length : Int)))).bind fun _ => (chk (And ((0 : Int) ≤ 0) (And (0 ≤ s9.1) ((0 + s9.1) ≤ ((zeroM s9.2.2 ((0 + s9.1).toNat) ((0 + ((s9.2.2.length : Int) - 0)).toNat) (0, 0)).length : Int))))).bind fun _ => some (((zeroM s9.2.2 ((0 + s9.1).toNat) ((0 + ((s9.2.2.length : Int) - 0)).toNat) (0, 0)).take ((0 + s9.1).toNat)).drop 0)))
def m_g_slices_SortFunc_S_Pair_Pair (p0 : List (Int × Int)) (p1 : Unit) : Option (List (Int × Int)) := R.sortM R.cmpP p0
def m_g_slices_Compact_S_Pair_Pair_l1 (p0s : List (Int × Int)) (s1 : Int) (s15 : Int × Int × List (Int × Int)) : Option (Out (List (Int × Int)) (Int × Int × List (Int × Int))) :=
  if decide (s15.2.1 < ((0 + ((p0s.length : Int) - 0)) - (0 + s1))) then (Option.bind (((chk (And (0 ≤ s15.2.1) (s15.2.1 < ((0 + ((p0s.length : Int) - 0)) - (0 + s1))))).bind fun _ => (getI s15.2.2 ((0 + s1) + s15.2.1)).bind fun x21 => (chk (And (0 ≤ (IntKind.i64.wrap (s15.2.1 - 1))) ((IntKind.i64.wrap (s15.2.1 - 1)) < ((0 + ((p0s.length : Int) - 0)) - (0 + s1))))).bind fun _ => (getI s15.2.2 ((0 + s1) + (IntKind.i64.wrap (s15.2.1 - 1)))).bind fun x23 => if Bool.and.match_1 (fun (u24 : Bool) => Bool) (x21.1 == x23.1) (fun (u25 : Unit) => false) (fun (u26 : Unit) => Bool.and.match_1 (fun (u27 : Bool) => Bool) (x21.2 == x23.2) (fun (u28 : Unit) => false) (fun (u29 : Unit) => true)) then (some (s15.1, s15.2.2)) else ((chk (And (0 ≤ s15.2.1) (s15.2.1 < ((0 + ((p0s.length : Int) - 0)) - (0 + s1))))).bind fun _ => (getI s15.2.2 ((0 + s1) + s15.2.1)).bind fun x31 => (getI s15.2.2 s15.1).bind fun x32 => some (IntKind.i64.wrap (s15.1 + 1), s15.2.2.set s15.1.toNat (x31.1, x31.2))) : Option (Int × List (Int × Int)))) (fun s33 => some (.nxt (s33.1, IntKind.i64.wrap (s15.2.1 + 1), s33.2)))) else (some (.brk (s15.1, s15.2.1, s15.2.2)))
def m_g_slices_Compact_S_Pair_Pair_l0 (p0s : List (Int × Int)) (s1 : Int) : Option (Out (List (Int × Int)) Int) :=
  if decide (s1 < (p0s.length : Int)) then ((getI p0s s1).bind fun x4 => (getI p0s (IntKind.i64.wrap (s1 - 1))).bind fun x5 => if Bool.and.match_1 (fun (u6 : Bool) => Bool) (x4.1 == x5.1) (fun (u7 : Unit) => false) (fun (u8 : Unit) => Bool.and.match_1 (fun (u9 : Bool) => Bool) (x4.2 == x5.2) (fun (u10 : Unit) => false) (fun (u11 : Unit) => true)) then ((chk (And (0 ≤ s1) (And (s1 ≤ ((p0s.length : Int) - 0)) ((0 + ((p0s.length : Int) - 0)) ≤ (p0s.length : Int))))).bind fun _ => bindL (loopM (m_g_slices_Compact_S_Pair_Pair_l1 p0s s1) FUEL (s1, 1, p0s)) (fun r34 => some (.ret r34)) (fun s35 => (chk (And (0 ≤ s35.1) (And (s35.1 ≤ ((s35.2.2.length : Int) - 0)) ((0 + ((s35.2.2.length : Int) - 0)) ≤ (s35.2.2.length : Int))))).bind fun _ => (chk (And ((0 + s35.1) ≤ (0 + ((s35.2.2.length : Int) - 0))) ((0 + ((s35.2.2.length : Int) - 0)) ≤ (s35.2.2.length : Int)))).bind fun _ => (chk (And ((0 : Int) ≤ 0) (And (0 ≤ s35.1) ((0 + s35.1) ≤ ((zeroM s35.2.2 ((0 + s35.1).toNat) ((0 + ((s35.2.2.length : Int) - 0)).toNat) (0, 0)).length : Int))))).bind fun _ => some (.ret (((zeroM s35.2.2 ((0 + s35.1).toNat) ((0 + ((s35.2.2.length : Int) - 0)).toNat) (0, 0)).take ((0 + s35.1).toNat)).drop 0)))) else (some (.nxt (IntKind.i64.wrap (s1 + 1))))) else (some (.brk s1))
def m_g_slices_Compact_S_Pair_Pair (p0s : List (Int × Int)) : Option (List (Int × Int)) :=
  if decide ((p0s.length : Int) < 2) then (some p0s) else (bindL (loopM (m_g_slices_Compact_S_Pair_Pair_l0 p0s) FUEL 1) (fun r39 => some r39) (fun s40 => some p0s))
def m_i_pairSet (p0l : List (Int × Int)) : Option (List (Int × Int)) :=
  (appI 16 ([] : List (Int × Int)) p0l).bind fun z0 => (m_g_slices_SortFunc_S_Pair_Pair z0 ()).bind fun r1 => (m_g_slices_Compact_S_Pair_Pair r1).bind fun r2 => some r2
def m_i_SubtractPairs_1 (p0p : Int × Int) (q0 : List (Int × Int)) : Option Bool :=
  (m_g_slices_Contains_S_Pair_Pair q0 (p0p.1, p0p.2)).bind fun r1 => some r1
def m_i_SubtractPairs (p0a : List (Int × Int)) (p1b : List (Int × Int)) : Option (List (Int × Int)) :=
  (m_i_pairSet p0a).bind fun r0 => (m_g_slices_DeleteFunc_S_Pair_Pair r0 (fun (u1 : Int × Int) => m_i_SubtractPairs_1 u1 p1b)).bind fun r2 => some r2
def m_i_MergePairs (p0a : List (Int × Int)) (p1b : List (Int × Int)) : Option (List (Int × Int)) :=
  (appI 16 ([] : List (Int × Int)) p0a).bind fun z1 => (appI 16 z1 p1b).bind fun z2 => (m_i_pairSet z2).bind fun r1 => some r1
def m_i_ApplyDelta (p0l : List (Int × Int)) (p1d : (List (Int × Int)) × (List (Int × Int))) : Option ((List (Int × Int)) × Bool) :=
  (m_i_IsDelta (p1d.1, p1d.2)).bind fun r1 => if r1 then ((m_i_ArePairs p0l).bind fun r3 => if r3 then ((m_i_commonPair p0l p1d.1).bind fun r5 => if r5 then ((m_i_copyPairs p0l).bind fun r10 => some (r10, false)) else ((m_i_SubtractPairs p1d.2 p0l).bind fun r6 => if decide ((r6.length : Int) > 0) then ((m_i_copyPairs p0l).bind fun r9 => some (r9, false)) else ((m_i_SubtractPairs p0l p1d.2).bind fun r7 => (m_i_MergePairs r7 p1d.1).bind fun r8 => some (r8, true)))) else ((m_i_copyPairs p0l).bind fun r4 => some (r4, false))) else ((m_i_copyPairs p0l).bind fun r2 => some (r2, false))
def m_i_ApplyMessage (p0l : List (Int × Int)) (p1m : Int × Bool × ((List (Int × Int)) × (List (Int × Int)))) : Option ((List (Int × Int)) × Bool) :=
  if p1m.2.1 then ((m_i_ArePairs p1m.2.2.1).bind fun r2 => if r2 then (if decide ((p1m.2.2.2.length : Int) > 0) then ((m_i_copyPairs p0l).bind fun r5 => some (r5, false)) else ((m_i_copyPairs p1m.2.2.1).bind fun r4 => some (r4, true))) else ((m_i_copyPairs p0l).bind fun r3 => some (r3, false))) else ((m_i_ApplyDelta p0l (p1m.2.2.1, p1m.2.2.2)).bind fun r1 => some (r1.1, r1.2))
def m_w_eqPair (p0a : Int × Int) (p1b : Int × Int) : Option Bool :=
  if p0a.1 != p1b.1 then (some false) else (if p0a.2 != p1b.2 then (some false) else (some true))
def m_w_eqPairS_l0 (p0a : List (Int × Int)) (p1b : List (Int × Int)) (s3 : Int) : Option (Out Bool Int) :=
  if decide (s3 < (p0a.length : Int)) then ((getI p0a s3).bind fun x5 => (getI p1b s3).bind fun x6 => (m_w_eqPair (x5.1, x5.2) (x6.1, x6.2)).bind fun r3 => if r3 then (some (.nxt (IntKind.i64.wrap (s3 + 1)))) else (some (.ret false))) else (some (.brk s3))
def m_w_eqPairS (p0a : List (Int × Int)) (p1b : List (Int × Int)) : Option Bool :=
  if (p0a.length : Int) != (p1b.length : Int) then (some false) else (bindL (loopM (m_w_eqPairS_l0 p0a p1b) FUEL 0) (fun r => some r) (fun s4 => some true))
def m_w_eqDelta (p0a : (List (Int × Int)) × (List (Int × Int))) (p1b : (List (Int × Int)) × (List (Int × Int))) : Option Bool :=
  (m_w_eqPairS p0a.1 p1b.1).bind fun r1 => if r1 then ((m_w_eqPairS p0a.2 p1b.2).bind fun r2 => if r2 then (some true) else (some false)) else (some false)
def m_w_eqMessage (p0a : Int × Bool × ((List (Int × Int)) × (List (Int × Int)))) (p1b : Int × Bool × ((List (Int × Int)) × (List (Int × Int)))) : Option Bool :=
  if p0a.1 != p1b.1 then (some false) else (if p0a.2.1 != p1b.2.1 then (some false) else ((m_w_eqDelta (p0a.2.2.1, p0a.2.2.2) (p1b.2.2.1, p1b.2.2.2)).bind fun r1 => if r1 then (some true) else (some false)))
def m_w_markPairS_l0 (s3 : (List (Int × Int)) × Int × Int) : Option (Out (Int × (List (Int × Int))) ((List (Int × Int)) × Int × Int)) :=
  if decide (s3.2.2 < (s3.1.length : Int)) then ((getI s3.1 s3.2.2).bind fun x5 => (getI (s3.1.set s3.2.2.toNat (s3.2.1, x5.2)) s3.2.2).bind fun x6 => some (.nxt ((s3.1.set s3.2.2.toNat (s3.2.1, x5.2)).set s3.2.2.toNat (x6.1, IntKind.i64.wrap (s3.2.1 + 1)), IntKind.i64.wrap ((IntKind.i64.wrap (s3.2.1 + 1)) + 1), IntKind.i64.wrap (s3.2.2 + 1)))) else (some (.brk (s3.1, s3.2.1, s3.2.2)))
def m_w_markPairS (p0a : List (Int × Int)) (p1k : Int) : Option (Int × (List (Int × Int))) :=
  bindL (loopM (m_w_markPairS_l0) FUEL (p0a, p1k, 0)) (fun r => some r) (fun s4 => some (s4.2.1, s4.1))
def m_w_markDelta (p0a : (List (Int × Int)) × (List (Int × Int))) (p1k : Int) : Option (Int × ((List (Int × Int)) × (List (Int × Int)))) :=
  (m_w_markPairS p0a.1 p1k).bind fun r1 => (m_w_markPairS p0a.2 r1.1).bind fun r2 => some (r2.1, (r1.2, r2.2))
def m_w_markMessage (p0a : Int × Bool × ((List (Int × Int)) × (List (Int × Int)))) (p1k : Int) : Option (Int × (Int × Bool × ((List (Int × Int)) × (List (Int × Int))))) :=
  (m_w_markDelta (p0a.2.2.1, p0a.2.2.2) p1k).bind fun r1 => some (r1.1, (p0a.1, p0a.2.1, (r1.2.1, r1.2.2)))
def m_w_heldPairS_l0 (p0a : List (Int × Int)) (s3 : Int × Int) : Option (Out Int (Int × Int)) :=
  if decide (s3.2 < (p0a.length : Int)) then ((getI p0a s3.2).bind fun x5 => if x5.1 != s3.1 then (some (.ret (-1))) else ((getI p0a s3.2).bind fun x6 => if x6.2 != (IntKind.i64.wrap (s3.1 + 1)) then (some (.ret (-1))) else (some (.nxt (IntKind.i64.wrap ((IntKind.i64.wrap (s3.1 + 1)) + 1), IntKind.i64.wrap (s3.2 + 1)))))) else (some (.brk (s3.1, s3.2)))
def m_w_heldPairS (p0a : List (Int × Int)) (p1k : Int) : Option Int :=
  bindL (loopM (m_w_heldPairS_l0 p0a) FUEL (p1k, 0)) (fun r => some r) (fun s4 => some s4.1)
def m_w_FnExactApplyMessage (p0 : List (Int × Int)) (p1 : Int × Bool × ((List (Int × Int)) × (List (Int × Int)))) : Option Bool :=
  (m_w_szPairS p0 1048576).bind fun r1 => if decide (r1 < 0) then (some true) else ((m_w_szMessage (p1.1, p1.2.1, (p1.2.2.1, p1.2.2.2)) r1).bind fun r2 => if decide (r2 < 0) then (some true) else ((m_w_toPairS p0).bind fun r3 => (m_w_toMessage (p1.1, p1.2.1, (p1.2.2.1, p1.2.2.2))).bind fun r4 => (m_s_ApplyMessage r3 (r4.1, r4.2.1, (r4.2.2.1, r4.2.2.2))).bind fun r5 => (m_w_toPairS p0).bind fun r6 => (m_w_toMessage (p1.1, p1.2.1, (p1.2.2.1, p1.2.2.2))).bind fun r7 => (m_i_ApplyMessage r6 (r7.1, r7.2.1, (r7.2.2.1, r7.2.2.2))).bind fun r8 => (m_w_eqPairS r8.1 r5.1).bind fun r9 => if r9 then (if r8.2 != r5.2 then (some false) else ((m_w_toPairS p0).bind fun r10 => (m_w_eqPairS r6 r10).bind fun r11 => if r11 then ((m_w_toMessage (p1.1, p1.2.1, (p1.2.2.1, p1.2.2.2))).bind fun r12 => (m_w_eqMessage (r7.1, r7.2.1, (r7.2.2.1, r7.2.2.2)) (r12.1, r12.2.1, (r12.2.2.1, r12.2.2.2))).bind fun r13 => if r13 then ((m_w_markPairS r6 1).bind fun r14 => (m_w_markMessage (r7.1, r7.2.1, (r7.2.2.1, r7.2.2.2)) r14.1).bind fun r15 => if decide (r15.1 < 0) then (some false) else ((m_w_eqPairS r8.1 r5.1).bind fun r16 => if r16 then (if r8.2 != r5.2 then (some false) else ((m_w_markPairS r8.1 1).bind fun r17 => (m_w_heldPairS r17.2 1).bind fun r18 => if decide (r18 < 0) then (some false) else (if r18 != r17.1 then (some false) else ((m_w_toPairS p0).bind fun r19 => (m_w_toMessage (p1.1, p1.2.1, (p1.2.2.1, p1.2.2.2))).bind fun r20 => (m_i_ApplyMessage r19 (r20.1, r20.2.1, (r20.2.2.1, r20.2.2.2))).bind fun r21 => (m_w_eqPairS r21.1 r5.1).bind fun r22 => if r22 then (if r21.2 != r5.2 then (some false) else ((m_w_heldPairS r17.2 1).bind fun r23 => if decide (r23 < 0) then (some false) else (if r23 != r17.1 then (some false) else (some true)))) else (some false))))) else (some false))) else (some false)) else (some false))) else (some false)))
end Go.Proofs.Ytakjhbbbjbebdaa.D
/- Printed by lp.py: what is known of the types and of the functions. -/
set_option linter.unusedVariables false
set_option maxRecDepth 1000000
namespace Go.Proofs.Ytakjhbbbjbebdaa.R
open Go.RowKit
open Go.Proofs.Ytakjhbbbjbebdaa.D
abbrev y3 : Ty := .int .i64
abbrev y49 : Ty := .prod y3 y3
abbrev y22 : Ty := .sl 49 y49
abbrev y24 : Ty := .prod y22 y22
abbrev y4 : Ty := .bool
abbrev y26 : Ty := .prod y3 (.prod y4 y24)
abbrev y47 : Ty := .prod y3 y3
abbrev y29 : Ty := .sl 47 y47
abbrev y34 : Ty := .prod y29 y29
abbrev y36 : Ty := .prod y3 (.prod y4 y34)
abbrev y70 : Ty := .int .u64
theorem ti3 : TI Try.prog 3 false 1 := ⟨⟨_, Try.underlying3, rfl⟩, by kernel_rfl⟩
theorem eqt47 (a0 : Int) (a1 : Int) (b0 : Int) (b1 : Int) (w : World) : EqT Try.prog 47 (.agg #[.int .i64 a0, .int .i64 a1]) (.agg #[.int .i64 b0, .int .i64 b1]) ((a0 == b0) && ((a1 == b1) && true)) w := eqT_of w Try.underlying47 (by kernel_rfl) (by kernel_rfl) (eqF_cons rfl (part_1 ti3 rfl) (part_1 ti3 rfl) (run_equalIn_int w 9998 3 _ _ _ _ Try.underlying3) (eqF_cons rfl (part_1 ti3 rfl) (part_1 ti3 rfl) (run_equalIn_int w 9998 3 _ _ _ _ Try.underlying3) (eqF_nil w)))
def tt : TT := [(3, ⟨false, 1, none, y3, [], some 8, none, false, none, none, some (some .i64), false, none⟩),
  (4, ⟨false, 1, none, y4, [], some 1, none, true, none, none, none, false, none⟩),
  (22, ⟨false, 1, some 49, y22, [], some 24, none, false, none, none, none, false, none⟩),
  (24, ⟨true, 2, none, y24, [(0, 0), (1, 0)], some 48, some [(0, 1), (1, 1)], false, none, none, none, false, none⟩),
  (26, ⟨true, 4, none, y26, [(0, 0), (1, 0), (2, 1)], some 64, some [(0, 1), (1, 1), (2, 2)], false, none, none, none, false, none⟩),
  (29, ⟨false, 1, some 47, y29, [], some 24, none, false, none, none, none, false, none⟩),
  (34, ⟨true, 2, none, y34, [(0, 0), (1, 0)], some 48, some [(0, 1), (1, 1)], false, none, none, none, false, none⟩),
  (36, ⟨true, 4, none, y36, [(0, 0), (1, 0), (2, 1)], some 64, some [(0, 1), (1, 1), (2, 2)], false, none, none, none, false, none⟩),
  (47, ⟨true, 2, none, y47, [(0, 0), (1, 0)], some 16, some [(0, 1), (1, 1)], false, some [some .i64, some .i64], none, none, false, none⟩),
  (49, ⟨true, 2, none, y49, [(0, 0), (1, 0)], some 16, some [(0, 1), (1, 1)], false, none, none, none, false, none⟩),
  (59, ⟨false, 1, none, .bool, [], none, none, false, none, none, none, true, none⟩),
  (62, ⟨false, 1, none, .bool, [], none, none, false, none, none, none, true, none⟩),
  (70, ⟨false, 1, none, y70, [], some 8, none, false, none, none, some (some .u64), false, none⟩)]
theorem tt_ok : TTok Try.prog tt := ⟨td_flat (n := 1) (z := .int .i64 0) ⟨⟨_, Try.underlying3, rfl⟩, by kernel_rfl⟩ rfl (by unfold TZ; kernel_rfl) rfl (Nat.le_of_ble_eq_true rfl) (fun h => by cases h) (fun k h => by obtain rfl := Option.some.inj h; exact Try.underlying3),
  td_flat (n := 1) (z := .bool false) ⟨⟨_, Try.underlying4, rfl⟩, by kernel_rfl⟩ rfl (by unfold TZ; kernel_rfl) rfl (Nat.le_of_ble_eq_true rfl) (fun h => Try.underlying4) (fun k h => by cases h),
  td_sl ⟨⟨_, Try.underlying22, rfl⟩, by kernel_rfl⟩ Try.underlying22 (by unfold TZ; kernel_rfl),
  td_st (z := .agg #[.slice none 0 0, .slice none 0 0]) ⟨⟨_, Try.underlying24, rfl⟩, by kernel_rfl⟩ rfl ⟨⟨_, _, Try.underlying24, rfl, rfl, by kernel_rfl⟩, ⟨_, _, Try.underlying24, rfl, rfl, by kernel_rfl⟩, trivial⟩ (by unfold TZ; kernel_rfl) rfl (Nat.le_of_ble_eq_true rfl) ⟨_, Try.underlying24, by kernel_rfl⟩ (fun ks h => by cases h),
  td_st (z := .agg #[.int .i64 0, .bool false, .slice none 0 0, .slice none 0 0]) ⟨⟨_, Try.underlying26, rfl⟩, by kernel_rfl⟩ rfl ⟨⟨_, _, Try.underlying26, rfl, rfl, by kernel_rfl⟩, ⟨_, _, Try.underlying26, rfl, rfl, by kernel_rfl⟩, ⟨_, _, Try.underlying26, rfl, rfl, by kernel_rfl⟩, trivial⟩ (by unfold TZ; kernel_rfl) rfl (Nat.le_of_ble_eq_true rfl) ⟨_, Try.underlying26, by kernel_rfl⟩ (fun ks h => by cases h),
  td_sl ⟨⟨_, Try.underlying29, rfl⟩, by kernel_rfl⟩ Try.underlying29 (by unfold TZ; kernel_rfl),
  td_st (z := .agg #[.slice none 0 0, .slice none 0 0]) ⟨⟨_, Try.underlying34, rfl⟩, by kernel_rfl⟩ rfl ⟨⟨_, _, Try.underlying34, rfl, rfl, by kernel_rfl⟩, ⟨_, _, Try.underlying34, rfl, rfl, by kernel_rfl⟩, trivial⟩ (by unfold TZ; kernel_rfl) rfl (Nat.le_of_ble_eq_true rfl) ⟨_, Try.underlying34, by kernel_rfl⟩ (fun ks h => by cases h),
  td_st (z := .agg #[.int .i64 0, .bool false, .slice none 0 0, .slice none 0 0]) ⟨⟨_, Try.underlying36, rfl⟩, by kernel_rfl⟩ rfl ⟨⟨_, _, Try.underlying36, rfl, rfl, by kernel_rfl⟩, ⟨_, _, Try.underlying36, rfl, rfl, by kernel_rfl⟩, ⟨_, _, Try.underlying36, rfl, rfl, by kernel_rfl⟩, trivial⟩ (by unfold TZ; kernel_rfl) rfl (Nat.le_of_ble_eq_true rfl) ⟨_, Try.underlying36, by kernel_rfl⟩ (fun ks h => by cases h),
  td_st (z := .agg #[.int .i64 0, .int .i64 0]) ⟨⟨_, Try.underlying47, rfl⟩, by kernel_rfl⟩ rfl ⟨⟨_, _, Try.underlying47, rfl, rfl, by kernel_rfl⟩, ⟨_, _, Try.underlying47, rfl, rfl, by kernel_rfl⟩, trivial⟩ (by unfold TZ; kernel_rfl) rfl (Nat.le_of_ble_eq_true rfl) ⟨_, Try.underlying47, by kernel_rfl⟩ (fun ks h => by obtain rfl := Option.some.inj h; exact fun w a0 b0 a1 b1 => eqt47 a0 a1 b0 b1 w),
  td_st (z := .agg #[.int .i64 0, .int .i64 0]) ⟨⟨_, Try.underlying49, rfl⟩, by kernel_rfl⟩ rfl ⟨⟨_, _, Try.underlying49, rfl, rfl, by kernel_rfl⟩, ⟨_, _, Try.underlying49, rfl, rfl, by kernel_rfl⟩, trivial⟩ (by unfold TZ; kernel_rfl) rfl (Nat.le_of_ble_eq_true rfl) ⟨_, Try.underlying49, by kernel_rfl⟩ (fun ks h => by cases h),
  td_fn (ty := .bool) (b := 8) ⟨⟨_, Try.underlying59, rfl⟩, by kernel_rfl⟩ rfl (by unfold TZ; kernel_rfl),
  td_fn (ty := .bool) (b := 8) ⟨⟨_, Try.underlying62, rfl⟩, by kernel_rfl⟩ rfl (by unfold TZ; kernel_rfl),
  td_flat (n := 1) (z := .int .u64 0) ⟨⟨_, Try.underlying70, rfl⟩, by kernel_rfl⟩ rfl (by unfold TZ; kernel_rfl) rfl (Nat.le_of_ble_eq_true rfl) (fun h => by cases h) (fun k h => by obtain rfl := Option.some.inj h; exact Try.underlying70), trivial⟩
theorem mixed : Try.prog.follows .mixedOrders = true := by kernel_rfl
def F_w_szPairS : FS := ⟨[.rd y22, .rd y3], [y3], m_w_szPairS, none⟩
def F_w_szDelta : FS := ⟨[.rd y24, .rd y3], [y3], m_w_szDelta, none⟩
def F_w_szMessage : FS := ⟨[.rd y26, .rd y3], [y3], m_w_szMessage, none⟩
def F_s_l1In : FS := ⟨[.rd y3, .rd y3, .rd y3], [y4], m_s_l1In, none⟩
def F_s_l15Less : FS := ⟨[.rd y47, .rd y47], [y4], m_s_l15Less, none⟩
def F_s_ArePairs : FS := ⟨[.rd y29], [y4], m_s_ArePairs, none⟩
def F_s_l15Has : FS := ⟨[.rd y29, .rd y47], [y4], m_s_l15Has, none⟩
def F_s_IsDelta : FS := ⟨[.rd y34], [y4], m_s_IsDelta, none⟩
def F_s_l15Put : FS := ⟨[.eat (.sl 47 y47), .rd y47], [y29], m_s_l15Put, none⟩
def F_s_MergePairs : FS := ⟨[.rd y29, .rd y29], [y29], m_s_MergePairs, none⟩
def F_s_SubtractPairs : FS := ⟨[.rd y29, .rd y29], [y29], m_s_SubtractPairs, none⟩
def F_s_ApplyDelta : FS := ⟨[.rd y29, .rd y34], [y29, y4], m_s_ApplyDelta, none⟩
def F_s_ApplyMessage : FS := ⟨[.rd y29, .rd y36], [y29, y4], m_s_ApplyMessage, none⟩
def F_w_toPair : FS := ⟨[.rd y49], [y47], m_w_toPair, none⟩
def F_w_toPairS : FS := ⟨[.rd y22], [y29], m_w_toPairS, none⟩
def F_w_toDelta : FS := ⟨[.rd y24], [y34], m_w_toDelta, none⟩
def F_w_toMessage : FS := ⟨[.rd y26], [y36], m_w_toMessage, none⟩
def F_i_within : FS := ⟨[.rd y3, .rd y3, .rd y3], [y4], m_i_within, none⟩
def F_i_compareInts : FS := ⟨[.rd y3, .rd y3], [y3], m_i_compareInts, none⟩
def F_i_comparePairs : FS := ⟨[.rd y47, .rd y47], [y3], m_i_comparePairs, none⟩
def F_i_ArePairs : FS := ⟨[.rd y29], [y4], m_i_ArePairs, none⟩
def F_i_copyPairs : FS := ⟨[.rd y29], [y29], m_i_copyPairs, none⟩
def F_g_slices_IndexFunc_S_Pair_Pair : FS := ⟨[.rd y29, .fn [y47] [y4]], [y3], m_g_slices_IndexFunc_S_Pair_Pair, none⟩
def F_g_slices_ContainsFunc_S_Pair_Pair : FS := ⟨[.rd y29, .fn [y47] [y4]], [y4], m_g_slices_ContainsFunc_S_Pair_Pair, none⟩
def F_g_slices_Index_S_Pair_Pair : FS := ⟨[.rd y29, .rd y47], [y3], m_g_slices_Index_S_Pair_Pair, none⟩
def F_g_slices_Contains_S_Pair_Pair : FS := ⟨[.rd y29, .rd y47], [y4], m_g_slices_Contains_S_Pair_Pair, none⟩
def F_i_commonPair_1 : FS := ⟨[.rd y47, .cap 29 y29], [y4], m_i_commonPair_1, none⟩
def F_i_commonPair : FS := ⟨[.rd y29, .rd y29], [y4], m_i_commonPair, none⟩
def F_i_IsDelta : FS := ⟨[.rd y34], [y4], m_i_IsDelta, none⟩
def F_g_slices_DeleteFunc_S_Pair_Pair : FS := ⟨[.eat (.sl 47 y47), .fn [y47] [y4]], [.sl 47 y47], m_g_slices_DeleteFunc_S_Pair_Pair, none⟩
def F_g_slices_SortFunc_S_Pair_Pair : FS := ⟨[.ow (.sl 47 y47), .fk 37], [], m_g_slices_SortFunc_S_Pair_Pair, none⟩
def F_g_slices_Compact_S_Pair_Pair : FS := ⟨[.eat (.sl 47 y47)], [.sl 47 y47], m_g_slices_Compact_S_Pair_Pair, none⟩
def F_i_pairSet : FS := ⟨[.rd y29], [y29], m_i_pairSet, none⟩
def F_i_SubtractPairs_1 : FS := ⟨[.rd y47, .cap 29 y29], [y4], m_i_SubtractPairs_1, none⟩
def F_i_SubtractPairs : FS := ⟨[.rd y29, .rd y29], [y29], m_i_SubtractPairs, none⟩
def F_i_MergePairs : FS := ⟨[.rd y29, .rd y29], [y29], m_i_MergePairs, none⟩
def F_i_ApplyDelta : FS := ⟨[.rd y29, .rd y34], [y29, y4], m_i_ApplyDelta, none⟩
def F_i_ApplyMessage : FS := ⟨[.rd y29, .rd y36], [y29, y4], m_i_ApplyMessage, none⟩
def F_w_eqPair : FS := ⟨[.rd y47, .rd y47], [y4], m_w_eqPair, none⟩
def F_w_eqPairS : FS := ⟨[.rd y29, .rd y29], [y4], m_w_eqPairS, none⟩
def F_w_eqDelta : FS := ⟨[.rd y34, .rd y34], [y4], m_w_eqDelta, none⟩
def F_w_eqMessage : FS := ⟨[.rd y36, .rd y36], [y4], m_w_eqMessage, none⟩
def F_w_markPairS : FS := ⟨[.ow y29, .rd y3], [y3], m_w_markPairS, none⟩
def F_w_markDelta : FS := ⟨[.ow y34, .rd y3], [y3], m_w_markDelta, none⟩
def F_w_markMessage : FS := ⟨[.ow y36, .rd y3], [y3], m_w_markMessage, none⟩
def F_w_heldPairS : FS := ⟨[.rd y29, .rd y3], [y3], m_w_heldPairS, none⟩
def F_w_FnExactApplyMessage : FS := ⟨[.rd y22, .rd y26], [y4], m_w_FnExactApplyMessage, none⟩
end Go.Proofs.Ytakjhbbbjbebdaa.R
/- Printed by lp.py: each function computes what its model says; the code is run, and the two are compared. -/
set_option linter.unusedVariables false
set_option maxRecDepth 1000000
namespace Go.Proofs.Ytakjhbbbjbebdaa.R
open Go.RowKit
open Go.Proofs.Ytakjhbbbjbebdaa.D
theorem k_w_szPairS : FOk Try.prog 4 F_w_szPairS := fok (V := ⟨tt, [], [], 12, []⟩) tt_ok trivial mixed Try.func4 rfl rfl (enters_of Try.func4 (by kernel_rfl) rfl) rfl (Nat.le_of_ble_eq_true rfl) rfl .no (fun d => by kernel_rfl)
theorem k_w_szDelta : FOk Try.prog 15 F_w_szDelta := fok (V := ⟨tt, [(4, F_w_szPairS)], [], 18, []⟩) tt_ok ⟨k_w_szPairS, trivial⟩ mixed Try.func15 rfl rfl (enters_of Try.func15 (by kernel_rfl) rfl) rfl (Nat.le_of_ble_eq_true rfl) rfl .no (fun d => by kernel_rfl)
theorem k_w_szMessage : FOk Try.prog 5 F_w_szMessage := fok (V := ⟨tt, [(15, F_w_szDelta)], [], 12, []⟩) tt_ok ⟨k_w_szDelta, trivial⟩ mixed Try.func5 rfl rfl (enters_of Try.func5 (by kernel_rfl) rfl) rfl (Nat.le_of_ble_eq_true rfl) rfl .no (fun d => by kernel_rfl)
theorem k_s_l1In : FOk Try.prog 26 F_s_l1In := fok (V := ⟨tt, [], [], 15, []⟩) tt_ok trivial mixed Try.func26 rfl rfl (enters_of Try.func26 (by kernel_rfl) rfl) rfl (Nat.le_of_ble_eq_true rfl) rfl .no (fun d => by kernel_rfl)
theorem k_s_l15Less : FOk Try.prog 27 F_s_l15Less := fok (V := ⟨tt, [], [], 24, []⟩) tt_ok trivial mixed Try.func27 rfl rfl (enters_of Try.func27 (by kernel_rfl) rfl) rfl (Nat.le_of_ble_eq_true rfl) rfl .no (fun d => by kernel_rfl)
theorem k_s_ArePairs : FOk Try.prog 16 F_s_ArePairs := fok (V := ⟨tt, [(26, F_s_l1In), (27, F_s_l15Less)], [], 43, []⟩) tt_ok ⟨k_s_l1In, k_s_l15Less, trivial⟩ mixed Try.func16 rfl rfl (enters_of Try.func16 (by kernel_rfl) rfl) rfl (Nat.le_of_ble_eq_true rfl) rfl (.two .no (.two (.two .no (.loop [.slot 3 (.num .i64)] .no)) .no)) (fun d => by kernel_rfl)
theorem k_s_l15Has : FOk Try.prog 29 F_s_l15Has := fok (V := ⟨tt, [], [], 18, []⟩) tt_ok trivial mixed Try.func29 rfl rfl (enters_of Try.func29 (by kernel_rfl) rfl) rfl (Nat.le_of_ble_eq_true rfl) rfl (.two .no (.two (.two .no (.loop [.slot 5 (.num .i64)] .no)) .no)) (fun d => by kernel_rfl)
theorem k_s_IsDelta : FOk Try.prog 28 F_s_IsDelta := fok (V := ⟨tt, [(16, F_s_ArePairs), (29, F_s_l15Has)], [], 27, []⟩) tt_ok ⟨k_s_ArePairs, k_s_l15Has, trivial⟩ mixed Try.func28 rfl rfl (enters_of Try.func28 (by kernel_rfl) rfl) rfl (Nat.le_of_ble_eq_true rfl) rfl (.two .no (.two (.two .no (.loop [.slot 3 (.num .i64)] .no)) .no)) (fun d => by kernel_rfl)
theorem k_s_l15Put : FOk Try.prog 38 F_s_l15Put := fok (V := ⟨tt, [(27, F_s_l15Less)], [(36, .bool)], 45, []⟩) tt_ok ⟨k_s_l15Less, trivial⟩ mixed Try.func38 rfl rfl (enters_of Try.func38 (by kernel_rfl) rfl) rfl (Nat.le_of_ble_eq_true rfl) rfl (.two .no (.two .no (.two (.loop [.slot 5 (.num .i64)] .no) .no))) (fun d => by kernel_rfl)
theorem k_s_MergePairs : FOk Try.prog 30 F_s_MergePairs := fok (V := ⟨tt, [(38, F_s_l15Put)], [], 34, []⟩) tt_ok ⟨k_s_l15Put, trivial⟩ mixed Try.func30 rfl rfl (enters_of Try.func30 (by kernel_rfl) rfl) rfl (Nat.le_of_ble_eq_true rfl) rfl (.two .no (.two .no (.two (.two .no (.loop [.slot 5 (.own 47 y47), .slot 6 (.num .i64)] .no)) (.two (.two .no (.loop [.slot 5 (.own 47 y47), .slot 7 (.num .i64)] .no)) .no)))) (fun d => by kernel_rfl)
theorem k_s_SubtractPairs : FOk Try.prog 31 F_s_SubtractPairs := fok (V := ⟨tt, [(29, F_s_l15Has), (38, F_s_l15Put)], [], 28, []⟩) tt_ok ⟨k_s_l15Has, k_s_l15Put, trivial⟩ mixed Try.func31 rfl rfl (enters_of Try.func31 (by kernel_rfl) rfl) rfl (Nat.le_of_ble_eq_true rfl) rfl (.two .no (.two .no (.two (.two .no (.loop [.slot 5 (.own 47 y47), .slot 6 (.num .i64)] (.two .no (.join [.slot 5 (.own 47 y47)] .no .no)))) .no))) (fun d => by kernel_rfl)
theorem k_s_ApplyDelta : FOk Try.prog 17 F_s_ApplyDelta := fok (V := ⟨tt, [(16, F_s_ArePairs), (28, F_s_IsDelta), (29, F_s_l15Has), (30, F_s_MergePairs), (31, F_s_SubtractPairs)], [], 62, []⟩) tt_ok ⟨k_s_ArePairs, k_s_IsDelta, k_s_l15Has, k_s_MergePairs, k_s_SubtractPairs, trivial⟩ mixed Try.func17 rfl rfl (enters_of Try.func17 (by kernel_rfl) rfl) rfl (Nat.le_of_ble_eq_true rfl) rfl (.two .no (.join [.slot 6 .boo] .no (.two (.two .no (.loop [.slot 6 .boo, .slot 7 (.num .i64)] .no)) (.two (.two .no (.loop [.slot 6 .boo, .slot 8 (.num .i64)] .no)) .no)))) (fun d => by kernel_rfl)
theorem k_s_ApplyMessage : FOk Try.prog 6 F_s_ApplyMessage := fok (V := ⟨tt, [(16, F_s_ArePairs), (17, F_s_ApplyDelta)], [], 39, []⟩) tt_ok ⟨k_s_ArePairs, k_s_ApplyDelta, trivial⟩ mixed Try.func6 rfl rfl (enters_of Try.func6 (by kernel_rfl) rfl) rfl (Nat.le_of_ble_eq_true rfl) rfl .no (fun d => by kernel_rfl)
theorem k_w_toPair : FOk Try.prog 18 F_w_toPair := fok (V := ⟨tt, [], [], 11, []⟩) tt_ok trivial mixed Try.func18 rfl rfl (enters_of Try.func18 (by kernel_rfl) rfl) rfl (Nat.le_of_ble_eq_true rfl) rfl .no (fun d => by kernel_rfl)
theorem k_w_toPairS : FOk Try.prog 7 F_w_toPairS := fok (V := ⟨tt, [(18, F_w_toPair)], [], 23, []⟩) tt_ok ⟨k_w_toPair, trivial⟩ mixed Try.func7 rfl rfl (enters_of Try.func7 (by kernel_rfl) rfl) rfl (Nat.le_of_ble_eq_true rfl) rfl (.two .no (.two .no (.two (.two .no (.loop [.row 3 47 y47, .slot 4 (.num .i64)] .no)) .no))) (fun d => by kernel_rfl)
theorem k_w_toDelta : FOk Try.prog 19 F_w_toDelta := fok (V := ⟨tt, [(7, F_w_toPairS)], [], 13, []⟩) tt_ok ⟨k_w_toPairS, trivial⟩ mixed Try.func19 rfl rfl (enters_of Try.func19 (by kernel_rfl) rfl) rfl (Nat.le_of_ble_eq_true rfl) rfl .no (fun d => by kernel_rfl)
theorem k_w_toMessage : FOk Try.prog 8 F_w_toMessage := fok (V := ⟨tt, [(19, F_w_toDelta)], [], 15, []⟩) tt_ok ⟨k_w_toDelta, trivial⟩ mixed Try.func8 rfl rfl (enters_of Try.func8 (by kernel_rfl) rfl) rfl (Nat.le_of_ble_eq_true rfl) rfl .no (fun d => by kernel_rfl)
end Go.Proofs.Ytakjhbbbjbebdaa.R
/- Printed by lp.py: each function computes what its model says; the code is run, and the two are compared. -/
set_option linter.unusedVariables false
set_option maxRecDepth 1000000
namespace Go.Proofs.Ytakjhbbbjbebdaa.R
open Go.RowKit
open Go.Proofs.Ytakjhbbbjbebdaa.D
theorem k_i_within : FOk Try.prog 36 F_i_within := fok (V := ⟨tt, [], [], 15, []⟩) tt_ok trivial mixed Try.func36 rfl rfl (enters_of Try.func36 (by kernel_rfl) rfl) rfl (Nat.le_of_ble_eq_true rfl) rfl .no (fun d => by kernel_rfl)
theorem k_i_compareInts : FOk Try.prog 45 F_i_compareInts := fok (V := ⟨tt, [], [], 13, []⟩) tt_ok trivial mixed Try.func45 rfl rfl (enters_of Try.func45 (by kernel_rfl) rfl) rfl (Nat.le_of_ble_eq_true rfl) rfl .no (fun d => by kernel_rfl)
theorem k_i_comparePairs : FOk Try.prog 37 F_i_comparePairs := fok (V := ⟨tt, [(45, F_i_compareInts)], [], 20, []⟩) tt_ok ⟨k_i_compareInts, trivial⟩ mixed Try.func37 rfl rfl (enters_of Try.func37 (by kernel_rfl) rfl) rfl (Nat.le_of_ble_eq_true rfl) rfl .no (fun d => by kernel_rfl)
theorem k_i_ArePairs : FOk Try.prog 21 F_i_ArePairs := fok (V := ⟨tt, [(36, F_i_within), (37, F_i_comparePairs)], [], 37, []⟩) tt_ok ⟨k_i_within, k_i_comparePairs, trivial⟩ mixed Try.func21 rfl rfl (enters_of Try.func21 (by kernel_rfl) rfl) rfl (Nat.le_of_ble_eq_true rfl) rfl (.two .no (.two (.two .no (.loop [.slot 7 (.num .i64)] .no)) .no)) (fun d => by kernel_rfl)
theorem k_i_copyPairs : FOk Try.prog 22 F_i_copyPairs := fok (V := ⟨tt, [], [], 6, []⟩) tt_ok trivial mixed Try.func22 rfl rfl (enters_of Try.func22 (by kernel_rfl) rfl) rfl (Nat.le_of_ble_eq_true rfl) rfl .no (fun d => by kernel_rfl)
theorem k_g_slices_IndexFunc_S_Pair_Pair : FOk Try.prog 46 F_g_slices_IndexFunc_S_Pair_Pair := fok (V := ⟨tt, [], [], 19, []⟩) tt_ok trivial mixed Try.func46 rfl rfl (enters_of Try.func46 (by kernel_rfl) rfl) rfl (Nat.le_of_ble_eq_true rfl) rfl (.two .no (.two (.two .no (.loop [.slot 8 (.num .i64)] .no)) .no)) (fun d => by kernel_rfl)
theorem k_g_slices_ContainsFunc_S_Pair_Pair : FOk Try.prog 39 F_g_slices_ContainsFunc_S_Pair_Pair := fok (V := ⟨tt, [(46, F_g_slices_IndexFunc_S_Pair_Pair)], [], 9, []⟩) tt_ok ⟨k_g_slices_IndexFunc_S_Pair_Pair, trivial⟩ mixed Try.func39 rfl rfl (enters_of Try.func39 (by kernel_rfl) rfl) rfl (Nat.le_of_ble_eq_true rfl) rfl .no (fun d => by kernel_rfl)
theorem k_g_slices_Index_S_Pair_Pair : FOk Try.prog 47 F_g_slices_Index_S_Pair_Pair := fok (V := ⟨tt, [], [], 19, []⟩) tt_ok trivial mixed Try.func47 rfl rfl (enters_of Try.func47 (by kernel_rfl) rfl) rfl (Nat.le_of_ble_eq_true rfl) rfl (.two .no (.two (.two .no (.loop [.slot 8 (.num .i64)] .no)) .no)) (fun d => by kernel_rfl)
theorem k_g_slices_Contains_S_Pair_Pair : FOk Try.prog 41 F_g_slices_Contains_S_Pair_Pair := fok (V := ⟨tt, [(47, F_g_slices_Index_S_Pair_Pair)], [], 9, []⟩) tt_ok ⟨k_g_slices_Index_S_Pair_Pair, trivial⟩ mixed Try.func41 rfl rfl (enters_of Try.func41 (by kernel_rfl) rfl) rfl (Nat.le_of_ble_eq_true rfl) rfl .no (fun d => by kernel_rfl)
theorem k_i_commonPair_1 : FOk Try.prog 40 F_i_commonPair_1 := fok (V := ⟨tt, [(41, F_g_slices_Contains_S_Pair_Pair)], [], 7, []⟩) tt_ok ⟨k_g_slices_Contains_S_Pair_Pair, trivial⟩ mixed Try.func40 rfl rfl (enters_of Try.func40 (by kernel_rfl) rfl) rfl (Nat.le_of_ble_eq_true rfl) rfl .no (fun d => by kernel_rfl)
theorem k_i_commonPair : FOk Try.prog 33 F_i_commonPair := fok (V := ⟨tt, [(39, F_g_slices_ContainsFunc_S_Pair_Pair), (40, F_i_commonPair_1)], [], 8, []⟩) tt_ok ⟨k_g_slices_ContainsFunc_S_Pair_Pair, k_i_commonPair_1, trivial⟩ mixed Try.func33 rfl rfl (enters_of Try.func33 (by kernel_rfl) rfl) rfl (Nat.le_of_ble_eq_true rfl) rfl .no (fun d => by kernel_rfl)
theorem k_i_IsDelta : FOk Try.prog 32 F_i_IsDelta := fok (V := ⟨tt, [(21, F_i_ArePairs), (33, F_i_commonPair)], [], 19, []⟩) tt_ok ⟨k_i_ArePairs, k_i_commonPair, trivial⟩ mixed Try.func32 rfl rfl (enters_of Try.func32 (by kernel_rfl) rfl) rfl (Nat.le_of_ble_eq_true rfl) rfl .no (fun d => by kernel_rfl)
theorem k_g_slices_DeleteFunc_S_Pair_Pair : FOk Try.prog 42 F_g_slices_DeleteFunc_S_Pair_Pair := fok (V := ⟨tt, [(46, F_g_slices_IndexFunc_S_Pair_Pair)], [(38, .raw), (41, .raw)], 42, []⟩) tt_ok ⟨k_g_slices_IndexFunc_S_Pair_Pair, trivial⟩ mixed Try.func42 rfl rfl (enters_of Try.func42 (by kernel_rfl) rfl) rfl (Nat.le_of_ble_eq_true rfl) rfl (.two .no (.two .no (.two .no (.two (.two .no (.loop [.slot 5 (.num .i64), .slot 6 (.num .i64), .row 0 47 y47] (.two .no (.two (.at [.slot 5 (.num .i64), .row 0 47 y47] .no) .no)))) .no)))) (fun d => by kernel_rfl)
theorem wi_g_slices_SortFunc_S_Pair_Pair (a b : Int) (W : World) : Calls Try.prog 45 #[.int .i64 a, .int .i64 b] W fun e w' => e = .returned (.int .i64 (cmpI a b)) ∧ w' = W := by
  unfold cmpI
  by_cases h : a < b
  · go_enter Try.func45, Try.ntmps45
    go_wp2
    go_ret
    simp [h]
  · by_cases k : b < a
    · go_enter Try.func45, Try.ntmps45
      go_wp2
      go_ret
      simp [h, k]
    · go_enter Try.func45, Try.ntmps45
      go_wp2
      go_ret
      simp [h, k]
theorem wp_g_slices_SortFunc_S_Pair_Pair (x y : Int × Int) (W : World) : Calls Try.prog 37 #[.agg #[.int .i64 x.1, .int .i64 x.2], .agg #[.int .i64 y.1, .int .i64 y.2]] W fun e w' => e = .returned (.int .i64 (cmpP x y)) ∧ ∃ q os', w' = Go.Sort.grow (W.drewN q) os' := by
  unfold cmpP
  have hcon := wi_g_slices_SortFunc_S_Pair_Pair
  generalize cmpI = cf at hcon ⊢
  by_cases h : x.1 = y.1
  · rw [if_pos h]
    go_enter Try.func37, Try.ntmps37
    go_wp2_with (go_at_call 45; refine (hcon _ _ _).mono ?_; rintro e w' ⟨rfl, rfl⟩)
    go_ret
    exact ⟨rfl, 0, _, by rw [Go.Sort.alloc_eq_grow, Go.Sort.alloc_eq_grow, Go.Sort.grow_grow]; rfl⟩
  · rw [if_neg h]
    go_enter Try.func37, Try.ntmps37
    go_wp2_with (go_at_call 45; refine (hcon _ _ _).mono ?_; rintro e w' ⟨rfl, rfl⟩)
    go_ret
    exact ⟨rfl, 0, _, by rw [Go.Sort.alloc_eq_grow, Go.Sort.alloc_eq_grow, Go.Sort.grow_grow]; rfl⟩
theorem k_g_slices_SortFunc_S_Pair_Pair : FOk Try.prog 48 F_g_slices_SortFunc_S_Pair_Pair := fok_sortf laysSlF06_f48 (by intro w; kernel_rfl) (by intro w; kernel_rfl) swo_cmpP tot_cmpP (enters_of Try.func37 (by kernel_rfl) rfl) (fun _ _ _ _ _ _ _ _ x y => wp_g_slices_SortFunc_S_Pair_Pair x y _) (enters_of Try.func48 (by kernel_rfl) rfl) 47
theorem k_g_slices_Compact_S_Pair_Pair : FOk Try.prog 49 F_g_slices_Compact_S_Pair_Pair := fok (V := ⟨tt, [], [(28, .raw), (56, .raw), (59, .raw)], 61, []⟩) tt_ok trivial mixed Try.func49 rfl rfl (enters_of Try.func49 (by kernel_rfl) rfl) rfl (Nat.le_of_ble_eq_true rfl) rfl (.two .no (.two .no (.two (.two .no (.loop [.slot 3 (.num .i64)] (.two .no (.two (.two .no (.two (.two .no (.two (.two .no (.loop [.slot 3 (.num .i64), .slot 5 (.num .i64), .row 0 47 y47] (.two .no (.two (.at [.slot 3 (.num .i64), .row 0 47 y47] .no) .no)))) .no)) .no)) .no)))) .no))) (fun d => by kernel_rfl)
theorem k_i_pairSet : FOk Try.prog 43 F_i_pairSet := fok (V := ⟨tt, [(37, F_i_comparePairs), (48, F_g_slices_SortFunc_S_Pair_Pair), (49, F_g_slices_Compact_S_Pair_Pair)], [], 11, []⟩) tt_ok ⟨k_i_comparePairs, k_g_slices_SortFunc_S_Pair_Pair, k_g_slices_Compact_S_Pair_Pair, trivial⟩ mixed Try.func43 rfl rfl (enters_of Try.func43 (by kernel_rfl) rfl) rfl (Nat.le_of_ble_eq_true rfl) rfl .no (fun d => by kernel_rfl)
theorem k_i_SubtractPairs_1 : FOk Try.prog 44 F_i_SubtractPairs_1 := fok (V := ⟨tt, [(41, F_g_slices_Contains_S_Pair_Pair)], [], 7, []⟩) tt_ok ⟨k_g_slices_Contains_S_Pair_Pair, trivial⟩ mixed Try.func44 rfl rfl (enters_of Try.func44 (by kernel_rfl) rfl) rfl (Nat.le_of_ble_eq_true rfl) rfl .no (fun d => by kernel_rfl)
end Go.Proofs.Ytakjhbbbjbebdaa.R
/- Printed by lp.py: each function computes what its model says; the code is run, and the two are compared. -/
set_option linter.unusedVariables false
set_option maxRecDepth 1000000
namespace Go.Proofs.Ytakjhbbbjbebdaa.R
open Go.RowKit
open Go.Proofs.Ytakjhbbbjbebdaa.D
theorem k_i_SubtractPairs : FOk Try.prog 34 F_i_SubtractPairs := fok (V := ⟨tt, [(42, F_g_slices_DeleteFunc_S_Pair_Pair), (43, F_i_pairSet), (44, F_i_SubtractPairs_1)], [], 9, []⟩) tt_ok ⟨k_g_slices_DeleteFunc_S_Pair_Pair, k_i_pairSet, k_i_SubtractPairs_1, trivial⟩ mixed Try.func34 rfl rfl (enters_of Try.func34 (by kernel_rfl) rfl) rfl (Nat.le_of_ble_eq_true rfl) rfl .no (fun d => by kernel_rfl)
theorem k_i_MergePairs : FOk Try.prog 35 F_i_MergePairs := fok (V := ⟨tt, [(43, F_i_pairSet)], [], 11, []⟩) tt_ok ⟨k_i_pairSet, trivial⟩ mixed Try.func35 rfl rfl (enters_of Try.func35 (by kernel_rfl) rfl) rfl (Nat.le_of_ble_eq_true rfl) rfl .no (fun d => by kernel_rfl)
theorem k_i_ApplyDelta : FOk Try.prog 20 F_i_ApplyDelta := fok (V := ⟨tt, [(21, F_i_ArePairs), (22, F_i_copyPairs), (32, F_i_IsDelta), (33, F_i_commonPair), (34, F_i_SubtractPairs), (35, F_i_MergePairs)], [], 37, []⟩) tt_ok ⟨k_i_ArePairs, k_i_copyPairs, k_i_IsDelta, k_i_commonPair, k_i_SubtractPairs, k_i_MergePairs, trivial⟩ mixed Try.func20 rfl rfl (enters_of Try.func20 (by kernel_rfl) rfl) rfl (Nat.le_of_ble_eq_true rfl) rfl .no (fun d => by kernel_rfl)
theorem k_i_ApplyMessage : FOk Try.prog 9 F_i_ApplyMessage := fok (V := ⟨tt, [(20, F_i_ApplyDelta), (21, F_i_ArePairs), (22, F_i_copyPairs)], [], 33, []⟩) tt_ok ⟨k_i_ApplyDelta, k_i_ArePairs, k_i_copyPairs, trivial⟩ mixed Try.func9 rfl rfl (enters_of Try.func9 (by kernel_rfl) rfl) rfl (Nat.le_of_ble_eq_true rfl) rfl .no (fun d => by kernel_rfl)
theorem k_w_eqPair : FOk Try.prog 23 F_w_eqPair := fok (V := ⟨tt, [], [], 15, []⟩) tt_ok trivial mixed Try.func23 rfl rfl (enters_of Try.func23 (by kernel_rfl) rfl) rfl (Nat.le_of_ble_eq_true rfl) rfl .no (fun d => by kernel_rfl)
theorem k_w_eqPairS : FOk Try.prog 10 F_w_eqPairS := fok (V := ⟨tt, [(23, F_w_eqPair)], [], 27, []⟩) tt_ok ⟨k_w_eqPair, trivial⟩ mixed Try.func10 rfl rfl (enters_of Try.func10 (by kernel_rfl) rfl) rfl (Nat.le_of_ble_eq_true rfl) rfl (.two .no (.two .no (.two (.two .no (.loop [.slot 5 (.num .i64)] .no)) .no))) (fun d => by kernel_rfl)
theorem k_w_eqDelta : FOk Try.prog 24 F_w_eqDelta := fok (V := ⟨tt, [(10, F_w_eqPairS)], [], 17, []⟩) tt_ok ⟨k_w_eqPairS, trivial⟩ mixed Try.func24 rfl rfl (enters_of Try.func24 (by kernel_rfl) rfl) rfl (Nat.le_of_ble_eq_true rfl) rfl .no (fun d => by kernel_rfl)
theorem k_w_eqMessage : FOk Try.prog 11 F_w_eqMessage := fok (V := ⟨tt, [(24, F_w_eqDelta)], [], 21, []⟩) tt_ok ⟨k_w_eqDelta, trivial⟩ mixed Try.func11 rfl rfl (enters_of Try.func11 (by kernel_rfl) rfl) rfl (Nat.le_of_ble_eq_true rfl) rfl .no (fun d => by kernel_rfl)
theorem k_w_markPairS : FOk Try.prog 12 F_w_markPairS := fok (V := ⟨tt, [], [], 27, []⟩) tt_ok trivial mixed Try.func12 rfl rfl (enters_of Try.func12 (by kernel_rfl) rfl) rfl (Nat.le_of_ble_eq_true rfl) rfl (.two .no (.two (.two .no (.loop [.par 0 [] 47 y47, .slot 1 (.num .i64), .slot 5 (.num .i64)] .no)) .no)) (fun d => by kernel_rfl)
theorem k_w_markDelta : FOk Try.prog 25 F_w_markDelta := fok (V := ⟨tt, [(12, F_w_markPairS)], [], 14, []⟩) tt_ok ⟨k_w_markPairS, trivial⟩ mixed Try.func25 rfl rfl (enters_of Try.func25 (by kernel_rfl) rfl) rfl (Nat.le_of_ble_eq_true rfl) rfl .no (fun d => by kernel_rfl)
theorem k_w_markMessage : FOk Try.prog 13 F_w_markMessage := fok (V := ⟨tt, [(25, F_w_markDelta)], [], 10, []⟩) tt_ok ⟨k_w_markDelta, trivial⟩ mixed Try.func13 rfl rfl (enters_of Try.func13 (by kernel_rfl) rfl) rfl (Nat.le_of_ble_eq_true rfl) rfl .no (fun d => by kernel_rfl)
theorem k_w_heldPairS : FOk Try.prog 14 F_w_heldPairS := fok (V := ⟨tt, [], [], 31, []⟩) tt_ok trivial mixed Try.func14 rfl rfl (enters_of Try.func14 (by kernel_rfl) rfl) rfl (Nat.le_of_ble_eq_true rfl) rfl (.two .no (.two (.two .no (.loop [.slot 1 (.num .i64), .slot 5 (.num .i64)] .no)) .no)) (fun d => by kernel_rfl)
theorem k_w_FnExactApplyMessage : FOk Try.prog 3 F_w_FnExactApplyMessage := fok (V := ⟨tt, [(4, F_w_szPairS), (5, F_w_szMessage), (6, F_s_ApplyMessage), (7, F_w_toPairS), (8, F_w_toMessage), (9, F_i_ApplyMessage), (10, F_w_eqPairS), (11, F_w_eqMessage), (12, F_w_markPairS), (13, F_w_markMessage), (14, F_w_heldPairS)], [], 119, []⟩) tt_ok ⟨k_w_szPairS, k_w_szMessage, k_s_ApplyMessage, k_w_toPairS, k_w_toMessage, k_i_ApplyMessage, k_w_eqPairS, k_w_eqMessage, k_w_markPairS, k_w_markMessage, k_w_heldPairS, trivial⟩ mixed Try.func3 rfl rfl (enters_of Try.func3 (by kernel_rfl) rfl) rfl (Nat.le_of_ble_eq_true rfl) rfl .no (fun d => by kernel_rfl)
end Go.Proofs.Ytakjhbbbjbebdaa.R
namespace Go.Proofs.Ytakjhbbbjbebdaa.D
open Go.RowKit
theorem c_w_FnExactApplyMessage (x0 : List (Int × Int)) (x1 : Int × Bool × ((List (Int × Int)) × (List (Int × Int)))) (r : Bool) (hm : m_w_FnExactApplyMessage x0 x1 = some r) {I : Hp} {w0 : World} (v0_0 : Value) (v1_0 : Value) (v1_1 : Value) (r0_0 : (rSlice 49 (rProd rInt rInt)).rd I [v0_0] x0) (r1_0 : (rSlice 49 (rProd rInt rInt)).rd I [v1_0] x1.2.2.1) (r1_1 : (rSlice 49 (rProd rInt rInt)).rd I [v1_1] x1.2.2.2) : Con Try.prog 3 #[v0_0, .agg #[.int .i64 x1.1, .bool x1.2.1, v1_0, v1_1]] I w0 [] (fun v => v = .bool r) (fun _ => []) := fun w C hs =>
  ((R.k_w_FnExactApplyMessage).con w0 I [v0_0, .agg #[.int .i64 x1.1, .bool x1.2.1, v1_0, v1_1]] (x0, (x1, ())) r ⟨_, _, rfl, ⟨[v0_0], rfl, r0_0⟩, ⟨_, _, rfl, ⟨[.int .i64 x1.1, .bool x1.2.1, v1_0, v1_1], rfl, ⟨_, _, rfl, rfl, ⟨_, _, rfl, rfl, ⟨_, _, rfl, r1_0, r1_1⟩⟩⟩⟩, rfl⟩⟩ hm w C hs).mono fun e w' ⟨v, he, _, hst⟩ => by
    obtain ⟨h1, h2⟩ := R.own_flat (h1 := fun _ => rfl) (show St I w0 w' (Ch.own R.Ty.bool.rep [v] r :: C) from hst)
    exact ⟨v, he, (List.cons.inj h1).1, h2⟩
end Go.Proofs.Ytakjhbbbjbebdaa.D
/- From the form's reading of an argument to a representation: every data type of the program is opened by these laws. No program text is named here. -/
set_option linter.unusedVariables false
set_option linter.unusedSimpArgs false
set_option linter.unnecessarySimpa false
namespace Go.Proofs.Ytakjhbbbjbebdaa.D
open Go.RowKit

def I64 (n : Int) : Prop := -9223372036854775808 ≤ n ∧ n ≤ 9223372036854775807
/-- data within the bounds of the machine ('lim'), and small data, as the laws let through ('sm') -/
class Data (α : Type) where
  lim : α → Prop
  sm : α → Prop
instance : Data Int := ⟨I64, fun _ => True⟩
instance : Data Bool := ⟨fun _ => True, fun _ => True⟩
instance : Data ByteArray := ⟨fun s => s.size ≤ 9223372036854775807, fun s => s.size ≤ 1048576⟩
instance {α β : Type} [Data α] [Data β] : Data (α × β) := ⟨fun x => Data.lim x.1 ∧ Data.lim x.2, fun x => Data.sm x.1 ∧ Data.sm x.2⟩
instance {α : Type} [Data α] : Data (List α) := ⟨fun xs => xs.length ≤ 9223372036854775807 ∧ ∀ x, x ∈ xs → Data.lim x, fun xs => xs.length ≤ 1048576 ∧ ∀ x, x ∈ xs → Data.sm x⟩
/-- What the form reads as a value of the type t, R reads too. -/
structure Opens (P : Program) (t : TypeId) {α : Type} [Data α] (R : Rep α) : Prop where
  out : ∀ {H : Type} (enc : TypeId × Value → H) (w : World) (fuel : Nat) (cs : List Value) (x : DataW H × List MemPlace), DataW.trod enc P w 0 (fun _ => true) true fuel t cs = some x → ∃ a : α, R.rd (hp w) cs a ∧ Data.lim a

theorem opens_int {P : Program} {t : TypeId} (h : P.underlying t = some (.int .i64)) : Opens P t rInt := by
  constructor
  intro H enc w fuel cs x hx
  obtain ⟨n, rfl, -, hw⟩ := DataW.trod_int h hx
  refine ⟨n, rfl, show I64 n from ?_⟩
  simp [Lit.wf, IntKind.min, IntKind.max, IntKind.signed, IntKind.bits] at hw
  unfold I64
  omega
theorem opens_bool {P : Program} {t : TypeId} (h : P.underlying t = some .bool) : Opens P t rBool := by
  constructor
  intro H enc w fuel cs x hx
  obtain ⟨n, rfl, -⟩ := DataW.trod_bool h hx
  exact ⟨n, rfl, trivial⟩
theorem opens_slice {P : Program} {t e : TypeId} {α : Type} [Data α] {R : Rep α} {E : TypeId} (h : P.underlying t = some (.slice e)) (hc : P.cellsOf e = R.size) (h0 : 0 < R.size) (he : Opens P e R) : Opens P t (rSlice E R) := by
  constructor
  intro H enc w fuel cs x hx
  rcases Go.Deep.open_slice h hx with ⟨rfl, -⟩ | ⟨a, len, cap, m, n, D, Pl, rfl, -, hl, hm, hmm, -, hel⟩
  · exact ⟨[], ⟨none, 0, rfl, by simp, .inl rfl⟩, Nat.zero_le _, fun x hx => by cases hx⟩
  have hlm : m = cap := by simpa using hmm
  subst hlm
  rw [hc] at hel
  by_cases hz : len = 0
  · subst hz
    exact ⟨[], ⟨some a, m, rfl, by simp, .inl rfl⟩, Nat.zero_le _, fun x hx => by cases hx⟩
  · have hone : ∀ i, i < len → ∃ c : List Value, ∃ y : α, c.length = R.size ∧ (∀ j, j < R.size → w.cell? ((a.add (i * R.size)).add j) = c[j]?) ∧ R.rd (hp w) c y ∧ Data.lim y := by
      intro i hi
      obtain ⟨c, h1, h2⟩ := hel i (by omega)
      obtain ⟨-, h3, h4⟩ := World.cells?_some h1
      obtain ⟨y, hy⟩ := he.out enc w _ _ _ h2
      exact ⟨c, y, h3, h4, hy⟩
    obtain ⟨c0, y0, hc0, hr0, -⟩ := hone 0 (by omega)
    have h00 := hr0 0 h0
    have hsome : ∃ v, c0[0]? = some v := ⟨_, List.getElem?_eq_getElem (by omega)⟩
    obtain ⟨v, hv⟩ := hsome
    rw [hv] at h00
    have ha : (a.add (0 * R.size)).add 0 = a := by simp [Addr.add]
    rw [ha] at h00
    obtain ⟨b, off, spot⟩ := a
    have hb : ∃ ccs T fr, w.heap[b]? = some (.cells ccs T fr) ∧ spot = none := by
      simp only [World.cell?] at h00
      split at h00
      · rename_i ccs T fr heq
        cases spot with
        | none => exact ⟨ccs, T, fr, heq, rfl⟩
        | some s => simp at h00
      · simp at h00
    obtain ⟨ccs, T, fr, hh, rfl⟩ := hb
    have hadd : ∀ i j, (Addr.add ⟨b, off, none⟩ i).add j = ⟨b, off + i + j, none⟩ := by
      intro i j
      by_cases h1 : i = 0 <;> by_cases h2 : j = 0 <;> simp [Addr.add, h1, h2, Nat.add_assoc]
    haveI : Inhabited α := ⟨y0⟩
    obtain ⟨X, hX⟩ := Go.Deep.choose_lt (α := α) (n := len) (p := fun i y => ∃ c : List Value, c.length = R.size ∧ (∀ j, j < R.size → ccs.toList[off + i * R.size + j]? = c[j]?) ∧ R.rd (hp w) c y ∧ Data.lim y) (fun i hi => by
      obtain ⟨c, y, h1, h2, h3⟩ := hone i hi
      refine ⟨y, c, h1, fun j hj => ?_, h3⟩
      have := h2 j hj
      rw [hadd] at this
      simp only [World.cell?, hh] at this
      simpa using this)
    have hlen : ((List.range len).map X).length = len := by simp
    have hel2 : ∀ i y, ((List.range len).map X)[i]? = some y → i < len ∧ y = X i := fun i y hy => by
      have hi : i < len := by have := (List.getElem?_eq_some_iff.1 hy).1; omega
      exact ⟨hi, by simpa [hi] using hy.symm⟩
    refine ⟨(List.range len).map X, ⟨some ⟨b, off, none⟩, m, by rw [hlen], by rw [hlen]; unfold maxLen at hm; unfold lim; omega, .inr ⟨b, off, ccs, T, fr, rfl, hh, fun i y hy => ?_⟩⟩, by rw [hlen]; unfold maxLen at hm; omega, fun y hy => ?_⟩
    · obtain ⟨hi, rfl⟩ := hel2 i y hy
      obtain ⟨c, e1, e2, e3, -⟩ := hX i hi
      exact ⟨c, e1, e2, e3⟩
    · obtain ⟨i, hi, he⟩ := List.mem_iff_getElem?.1 hy |>.imp fun i hi => hel2 i y hi
      obtain ⟨-, -, -, -, e4⟩ := hX i hi
      rw [he]; exact e4

/-- .. of the fields of a struct, from the offset o on. -/
structure OpensFs (P : Program) (fs : List Field) (o : Nat) {α : Type} [Data α] (R : Rep α) : Prop where
  out : ∀ {H : Type} (enc : TypeId × Value → H) (w : World) (fuel : Nat) (cs : List Value) , cs.length = o + R.size →
    (∀ f ∈ fs, ∃ x, DataW.trod enc P w 0 (fun _ => true) true fuel f.type ((cs.drop f.offset).take (P.cellsOf f.type)) = some x) → ∃ a : α, R.rd (hp w) (cs.drop o) a ∧ Data.lim a
theorem opens_last {P : Program} {f : Field} {o : Nat} {α : Type} [Data α] {R : Rep α} (ho : f.offset = o) (hc : P.cellsOf f.type = R.size) (h : Opens P f.type R) : OpensFs P [f] o R := by
  constructor
  intro H enc w fuel cs hl hx
  obtain ⟨x, hx⟩ := hx f (by simp)
  rw [ho, hc, List.take_of_length_le (by rw [List.length_drop]; omega)] at hx
  exact h.out enc w _ _ _ hx
theorem opens_next {P : Program} {f : Field} {fs : List Field} {o : Nat} {α β : Type} [Data α] [Data β] {R : Rep α} {S : Rep β} (ho : f.offset = o) (hc : P.cellsOf f.type = R.size) (h : Opens P f.type R) (hs : OpensFs P fs (o + R.size) S) : OpensFs P (f :: fs) o (rProd R S) := by
  constructor
  intro H enc w fuel cs hl hx
  have hl' : cs.length = o + (R.size + S.size) := hl
  obtain ⟨b, hb, hlb⟩ := hs.out enc w fuel cs (by omega) (fun g hg => hx g (by simp [hg]))
  obtain ⟨x, hx⟩ := hx f (by simp)
  rw [ho, hc] at hx
  obtain ⟨a, ha, hla⟩ := h.out enc w _ _ _ hx
  refine ⟨(a, b), ⟨(cs.drop o).take R.size, cs.drop (o + R.size), ?_, ha, hb⟩, hla, hlb⟩
  rw [← List.drop_drop, List.take_append_drop]
theorem opens_struct {P : Program} {t : TypeId} {fs : Array Field} {α : Type} [Data α] {R : Rep α} (h : P.underlying t = some (.struct fs)) (hc : P.cellsOf t = R.size) (hf : OpensFs P fs.toList 0 R) : Opens P t R := by
  constructor
  intro H enc w fuel cs x hx
  obtain ⟨xs, n, -, -, hl, hn, hel⟩ := DataW.trod_struct h hx
  have := hf.out enc w n cs (by omega) (fun f hm => by
    obtain ⟨i, hi, rfl⟩ := List.getElem_of_mem hm
    have h1 : fs[i]? = some fs.toList[i] := by simp
    exact ⟨_, (hel i _ h1).trans (List.getElem?_eq_getElem (by simp at hi; omega))⟩)
  simpa using this
theorem St.below {w0 w : World} {cs : List Ch} (h : St (hp w0) w0 w cs) : Below w0.heap.size w0 w := by
  obtain ⟨⟨h1, h2, h3, h4⟩, h5, -⟩ := h
  refine ⟨h1, h2, h3, h4, fun b hb => ?_⟩
  have e : w0.heap[b]? = some w0.heap[b] := Array.getElem?_eq_getElem hb
  rw [e]; exact h5 b _ e
end Go.Proofs.Ytakjhbbbjbebdaa.D
/- Loops of models: what rows are looked through, copied, counted, compared. No program text is named here. -/
set_option linter.unusedVariables false
set_option linter.unusedSimpArgs false
set_option linter.unnecessarySimpa false
namespace Go.Proofs.Ytakjhbbbjbebdaa.D
open Go.RowKit

theorem wrapI {n : Int} (h1 : -9223372036854775808 ≤ n) (h2 : n ≤ 9223372036854775807) : IntKind.i64.wrap n = n := by
  simp only [IntKind.wrap, IntKind.bits, IntKind.signed, Bool.true_and]
  split <;> rename_i h <;> simp at h <;> omega
theorem wrap_succ {i : Nat} (h : i < 9223372036854775807) : IntKind.i64.wrap ((i : Int) + 1) = ((i + 1 : Nat) : Int) := by
  rw [wrapI (by omega) (by omega)]; rfl
theorem getI_nat {α : Type} {xs : List α} {i : Nat} (h : i < xs.length) : getI xs (i : Int) = some (xs[i]) := by
  unfold getI
  rw [if_pos (Int.natCast_nonneg _)]
  simp [h]
theorem lt_nat {i n : Nat} (h : i < n) : decide ((i : Int) < (n : Int)) = true := by simp [h]
theorem lt_self {n : Nat} : decide ((n : Int) < (n : Int)) = false := by simp
theorem fuelUp (k : Nat) (h : k ≤ 9223372036854775807) : k < FUEL := by unfold FUEL; omega
theorem mkI_ok {α : Type} {b n : Nat} {z : α} (h : n * b ≤ 140737488355328) : mkI b (n : Int) z = some (List.replicate n z) := by
  unfold mkI
  rw [if_pos ⟨Int.natCast_nonneg _, by simpa using h⟩]; simp
theorem loopM_nxt {R S : Type} {f : S → Option (Out R S)} (inv : Nat → S) (N : Nat) (h : ∀ i, i < N → f (inv i) = some (.nxt (inv (i + 1)))) : ∀ (m i k : Nat), i + m = N → loopM f (k + m) (inv i) = loopM f k (inv N)
  | 0, i, k, e => by rw [show i = N by omega]; rfl
  | m + 1, i, k, e => by
    rw [← Nat.add_assoc, loopM, h i (by omega)]
    exact loopM_nxt inv N h m (i + 1) k (by omega)
theorem loopM_all {R S : Type} {f : S → Option (Out R S)} (inv : Nat → S) (N : Nat) {s : S} (h : ∀ i, i < N → f (inv i) = some (.nxt (inv (i + 1)))) (he : f (inv N) = some (.brk s)) (hN : N < FUEL) : loopM f FUEL (inv 0) = some (.brk s) := by
  have e : FUEL = (FUEL - N - 1) + 1 + N := by omega
  rw [e, loopM_nxt inv N h N 0 _ (by omega), loopM, he]
theorem toL {R α : Type} {f : List α × Int → Option (Out R (List α × Int))} {z : α} (xs : List α) (hN : xs.length ≤ 9223372036854775807)
    (hstep : ∀ ys i (h : i < xs.length), ys.length = xs.length → f (ys, (i : Int)) = some (.nxt (ys.set i xs[i], ((i + 1 : Nat) : Int)))) (hend : ∀ ys, ys.length = xs.length → f (ys, (xs.length : Int)) = some (.brk (ys, (xs.length : Int)))) :
    loopM f FUEL (List.replicate xs.length z, 0) = some (.brk (xs, (xs.length : Int))) := by
  have h0 : (List.replicate xs.length z, (0 : Int)) = (fun i : Nat => (xs.take i ++ (List.replicate xs.length z).drop i, (i : Int))) 0 := by simp
  rw [h0]
  refine loopM_all (fun i : Nat => (xs.take i ++ (List.replicate xs.length z).drop i, (i : Int))) xs.length (fun i hi => ?_) ?_ (fuelUp _ hN)
  · have hl : (xs.take i ++ (List.replicate xs.length z).drop i).length = xs.length := by
      rw [List.length_append, List.length_take, List.length_drop, List.length_replicate]; omega
    rw [hstep _ i hi hl]
    congr 3
    have ht : (xs.take i).length = i := by rw [List.length_take]; omega
    rw [List.set_append_right _ _ (by omega), ht, Nat.sub_self, List.drop_eq_getElem_cons (by rw [List.length_replicate]; exact hi), List.set_cons_zero, List.take_succ_eq_append_getElem hi, List.append_assoc]
    rfl
  · have := hend xs rfl
    rw [List.take_of_length_le (Nat.le_refl _), List.drop_of_length_le (by rw [List.length_replicate]; exact Nat.le_refl _), List.append_nil]
    exact this
def ToOk {α : Type} [Data α] (m : α → Option α) : Prop := ∀ x, Data.sm x → m x = some x
def EqOk {α : Type} [Data α] [DecidableEq α] (m : α → α → Option Bool) : Prop := ∀ x y, Data.sm x → Data.sm y → m x y = some (decide (x = y))
theorem eqGo {α : Type} [DecidableEq α] {f : Int → Option (Out Bool Int)} (xs ys : List α) (hl : xs.length = ys.length)
    (hstep : ∀ i (h : i < xs.length) (h' : i < ys.length), f (i : Int) = some (if xs[i] = ys[i] then .nxt ((i + 1 : Nat) : Int) else .ret false)) (hend : f (xs.length : Int) = some (.brk (xs.length : Int))) : ∀ (m i k : Nat), i + m = xs.length → m < k →
      loopM f k (i : Int) = some (if xs.drop i = ys.drop i then .brk (xs.length : Int) else .ret false)
  | 0, i, k, e, hk => by
    obtain ⟨k, rfl⟩ : ∃ q, k = q + 1 := ⟨k - 1, by omega⟩
    obtain rfl : i = xs.length := by omega
    rw [loopM, hend, List.drop_of_length_le (Nat.le_refl _), List.drop_of_length_le (by omega), if_pos rfl]
  | m + 1, i, k, e, hk => by
    obtain ⟨k, rfl⟩ : ∃ q, k = q + 1 := ⟨k - 1, by omega⟩
    have hi : i < xs.length := by omega
    have hi' : i < ys.length := by omega
    have d1 := List.drop_eq_getElem_cons hi
    have d2 := List.drop_eq_getElem_cons hi'
    rw [loopM, hstep i hi hi', d1, d2]
    by_cases h : xs[i] = ys[i]
    · rw [if_pos h]
      simp only
      rw [eqGo xs ys hl hstep hend m (i + 1) k (by omega) (by omega)]
      simp only [List.cons.injEq, h, true_and]
    · rw [if_neg h]
      simp only [List.cons.injEq, h, false_and, if_false]
theorem eqL {α : Type} [DecidableEq α] {f : Int → Option (Out Bool Int)} (xs ys : List α) (hN : xs.length ≤ 9223372036854775807)
    (hstep : ∀ i (h : i < xs.length) (h' : i < ys.length), f (i : Int) = some (if xs[i] = ys[i] then .nxt ((i + 1 : Nat) : Int) else .ret false)) (hend : f (xs.length : Int) = some (.brk (xs.length : Int))) :
    (if (xs.length : Int) != (ys.length : Int) then (some false) else (bindL (loopM f FUEL 0) (fun r => some r) (fun s4 => some true))) = some (decide (xs = ys)) := by
  by_cases hl : xs.length = ys.length
  · rw [if_neg (by rw [hl]; simp), show ((0 : Int)) = ((0 : Nat) : Int) from rfl, eqGo xs ys hl hstep hend xs.length 0 FUEL (by omega) (fuelUp _ hN)]
    by_cases h : xs = ys
    · subst h; simp [bindL]
    · simp [bindL, h]
  · have : xs ≠ ys := fun e => hl (by rw [e])
    rw [if_pos (by simp; omega)]; simp [this]
theorem iteOpt {α : Type} {c d : Prop} [Decidable c] [Decidable d] {a b : α} (h : c ↔ d) : (if c then some a else some b) = some (if d then a else b) := by
  by_cases k : c
  · rw [if_pos k, if_pos (h.1 k)]
  · rw [if_neg k, if_neg (fun e => k (h.2 e))]
theorem iteOptN {α : Type} {c d : Prop} [Decidable c] [Decidable d] {a b : α} (h : c ↔ ¬ d) : (if c then some b else some a) = some (if d then a else b) := by
  by_cases k : d
  · rw [if_neg (fun e => h.1 e k), if_pos k]
  · rw [if_pos (h.2 k), if_neg k]
theorem eqB {α : Type} [DecidableEq α] {f : Int → Option (Out Bool Int)} {K : Option Bool} (xs ys : List α) (hN : xs.length ≤ 9223372036854775807) (hl : xs.length = ys.length)
    (hstep : ∀ i (h : i < xs.length) (h' : i < ys.length), f (i : Int) = some (if xs[i] = ys[i] then .nxt ((i + 1 : Nat) : Int) else .ret false)) (hend : f (xs.length : Int) = some (.brk (xs.length : Int))) :
    bindL (loopM f FUEL 0) (fun r => some r) (fun s4 => K) = (if xs = ys then K else some false) := by
  rw [show ((0 : Int)) = ((0 : Nat) : Int) from rfl, eqGo xs ys hl hstep hend xs.length 0 FUEL (by omega) (fuelUp _ hN)]
  by_cases h : xs = ys
  · subst h; simp [bindL]
  · simp [bindL, h]
instance : LawfulBEq ByteArray where
  eq_of_beq {a b} h := ByteArray.ext (eq_of_beq (show (a.data == b.data) = true from h))
  rfl {a} := beq_self_eq_true a.data
theorem peta {α β : Type} (p : α × β) : (p.1, p.2) = p := rfl
theorem sm_list {α : Type} [Data α] {xs : List α} (h : Data.sm xs) : xs.length ≤ 1048576 ∧ ∀ x, x ∈ xs → Data.sm x := h
theorem lim_list {α : Type} [Data α] {xs : List α} (h : Data.lim xs) : xs.length ≤ 9223372036854775807 ∧ ∀ x, x ∈ xs → Data.lim x := h
end Go.Proofs.Ytakjhbbbjbebdaa.D
/- Printed by genplain.py: what the helpers of the law FnExactApplyMessage compute. -/
set_option linter.unusedVariables false
set_option linter.unusedSimpArgs false
set_option linter.unnecessarySimpa false
set_option synthInstance.maxSize 20000
set_option synthInstance.maxHeartbeats 2000000
namespace Go.Proofs.Ytakjhbbbjbebdaa.D
open Go.RowKit
theorem t_toPair : ToOk m_w_toPair := by
  intro x hx
  unfold m_w_toPair
  simp only [peta, Option.bind_some]
theorem t_toPairS : ToOk m_w_toPairS := by
  intro xs hx
  have hn := (sm_list hx).1
  unfold m_w_toPairS
  rw [mkI_ok (by omega)]; simp only [Option.bind_some]
  rw [toL (f := m_w_toPairS_l0 xs) xs (by omega) (fun ys i h hy => by simp only [m_w_toPairS_l0, lt_nat h, if_true, getI_nat h, getI_nat (show i < ys.length by omega), Option.bind_some, peta, t_toPair xs[i] ((sm_list hx).2 _ (List.getElem_mem h)), wrap_succ (show i < 9223372036854775807 by omega), Int.toNat_natCast]) (fun ys hy => by simp only [m_w_toPairS_l0, lt_self]; rfl)]
  rfl
theorem t_toDelta : ToOk m_w_toDelta := by
  intro x hx
  unfold m_w_toDelta
  simp only [peta, Option.bind_some, t_toPairS x.1 hx.1, t_toPairS x.2 hx.2]
theorem t_toMessage : ToOk m_w_toMessage := by
  intro x hx
  unfold m_w_toMessage
  simp only [peta, Option.bind_some, t_toDelta x.2.2 hx.2.2]
theorem q_eqPair : EqOk m_w_eqPair := by
  intro x y hx hy
  unfold m_w_eqPair
  try simp only [peta, Option.bind_some]
  repeat' split
  all_goals simp_all [Prod.ext_iff]
theorem q_eqPairS : EqOk m_w_eqPairS := fun xs ys hx hy => eqL (f := m_w_eqPairS_l0 xs ys) xs ys (by have := (sm_list hx).1; omega) (fun i h h' => by
  simp only [m_w_eqPairS_l0, lt_nat h, if_true, getI_nat h, getI_nat h', Option.bind_some, peta, q_eqPair xs[i] ys[i] ((sm_list hx).2 _ (List.getElem_mem h)) ((sm_list hy).2 _ (List.getElem_mem h')), wrap_succ (show i < 9223372036854775807 by have := (sm_list hx).1; omega)]
  first | exact iteOpt (by simp) | exact iteOptN (by simp) | exact iteOpt (by simp [Prod.ext_iff])) (by simp only [m_w_eqPairS_l0, lt_self]; rfl)
theorem q_eqDelta : EqOk m_w_eqDelta := by
  intro x y hx hy
  unfold m_w_eqDelta
  try simp only [peta, Option.bind_some, q_eqPairS x.1 y.1 hx.1 hy.1, q_eqPairS x.2 y.2 hx.2 hy.2]
  repeat' split
  all_goals simp_all [Prod.ext_iff]
theorem q_eqMessage : EqOk m_w_eqMessage := by
  intro x y hx hy
  unfold m_w_eqMessage
  try simp only [peta, Option.bind_some, q_eqDelta x.2.2 y.2.2 hx.2.2 hy.2.2]
  repeat' split
  all_goals simp_all [Prod.ext_iff]
end Go.Proofs.Ytakjhbbbjbebdaa.D
/- Loops as steps on invariants; numbering in the order of discovery. No program text is named here. -/
set_option linter.unusedVariables false
set_option linter.unusedSimpArgs false
set_option linter.unnecessarySimpa false
namespace Go.Proofs.Ytakjhbbbjbebdaa.D
open Go.RowKit

/-! ### Loops -/
theorem loopM_go {R S : Type} {f : S → Option (Out R S)} (Inv : Nat → S → Prop) (Q : Out R S → Prop) (N : Nat)
    (h : ∀ i s, i ≤ N → Inv i s → (i < N ∧ ∃ s', f s = some (.nxt s') ∧ Inv (i + 1) s') ∨ ∃ o, f s = some o ∧ (∀ s', o ≠ .nxt s') ∧ Q o) {s : S} (h0 : Inv 0 s) (hN : N < FUEL) : ∃ o, loopM f FUEL s = some o ∧ Q o := by
  have key : ∀ (k i : Nat) (s : S), i ≤ N → N < i + k → Inv i s → ∃ o, loopM f k s = some o ∧ Q o := by
    intro k
    induction k with
    | zero => intro i s h1 h2; omega
    | succ k ih =>
      intro i s h1 h2 hI
      rcases h i s h1 hI with ⟨hi, s', e, hI'⟩ | ⟨o, e, hn, hq⟩
      · obtain ⟨o, e', hq⟩ := ih (i + 1) s' (by omega) (by omega) hI'
        exact ⟨o, by rw [loopM, e]; exact e', hq⟩
      · refine ⟨o, ?_, hq⟩
        rw [loopM, e]
        cases o with
        | nxt s' => exact absurd rfl (hn s')
        | brk s' => rfl
        | ret r => rfl
  exact key FUEL 0 s (by omega) (by omega) h0
theorem loopM_for {R S : Type} {f : S → Option (Out R S)} (Inv : Nat → S → Prop) (N : Nat) (h : ∀ i s, i < N → Inv i s → ∃ s', f s = some (.nxt s') ∧ Inv (i + 1) s') (he : ∀ s, Inv N s → f s = some (.brk s)) {s : S} (h0 : Inv 0 s) (hN : N < FUEL) : ∃ s', loopM f FUEL s = some (.brk s') ∧ Inv N s' := by
  obtain ⟨o, e, s', rfl, h⟩ := loopM_go (f := f) Inv (fun o => ∃ s', o = .brk s' ∧ Inv N s') N (fun i s hi hI => by
    by_cases h1 : i < N
    · exact .inl ⟨h1, h i s h1 hI⟩
    · obtain rfl : i = N := by omega
      exact .inr ⟨_, he s hI, (fun s' e => by cases e), s, rfl, hI⟩) h0 hN
  exact ⟨s', e, h⟩
theorem loopM_at {R S : Type} {f : S → Option (Out R S)} (st : Nat → S) (N : Nat) (h : ∀ i, i < N → f (st i) = some (.nxt (st (i + 1)))) (he : f (st N) = some (.brk (st N))) (hN : N < FUEL) : loopM f FUEL (st 0) = some (.brk (st N)) := loopM_all st N h he hN
theorem up63 {k : Nat} (h : k ≤ 9223372036854775807) : k < FUEL := fuelUp k h
theorem appI_ok {α : Type} {b : Nat} {xs ys : List α} (h : (xs.length + ys.length) * b ≤ 140737488355328) : appI b xs ys = some (xs ++ ys) := by unfold appI; rw [if_pos h]
theorem bindL_ret {R S T : Type} {x : Option (Out R S)} {r : R} {kr : R → Option T} {k : S → Option T} (h : x = some (.ret r)) : bindL x kr k = kr r := by rw [h]; rfl
theorem bindL_brk {R S T : Type} {x : Option (Out R S)} {s : S} {kr : R → Option T} {k : S → Option T} (h : x = some (.brk s)) : bindL x kr k = k s := by rw [h]; rfl

/-! ### Places of lists -/
def nth {α : Type} [Inhabited α] (xs : List α) (i : Int) : α := xs.getD i.toNat default
section
variable {α : Type} [Inhabited α] {xs ys : List α}
theorem getI_nth {i : Int} (h0 : 0 ≤ i) (h1 : i < xs.length) : getI xs i = some (nth xs i) := by
  unfold getI nth
  rw [if_pos h0]
  have : i.toNat < xs.length := by omega
  simp [List.getD_eq_getElem?_getD, this]
theorem nth_nat {i : Nat} (h : i < xs.length) : nth xs (i : Int) = xs[i] := by simp [nth, List.getD_eq_getElem?_getD, h]
theorem nth_mem {i : Int} (h0 : 0 ≤ i) (h1 : i < xs.length) : nth xs i ∈ xs := by
  have : i.toNat < xs.length := by omega
  have e : nth xs i = xs[i.toNat] := by simp [nth, List.getD_eq_getElem?_getD, this]
  rw [e]; exact List.getElem_mem this
end

/-! ### Numbering in the order of discovery -/
section
variable {κ : Type} [DecidableEq κ]
variable {nx : κ → List (Option κ)} {first : κ}
end
end Go.Proofs.Ytakjhbbbjbebdaa.D
/- Marks put into a result, and held there. No program text is named here. -/
set_option linter.unusedVariables false
set_option linter.unusedSimpArgs false
set_option linter.unnecessarySimpa false
set_option linter.unusedSectionVars false
namespace Go.Proofs.Ytakjhbbbjbebdaa.D
open Go.RowKit

section
variable {α : Type} [Inhabited α]
def smk (mk : α → Nat) : List α → Nat
  | [] => 0
  | x :: xs => mk x + smk mk xs
def mkd (mk : α → Nat) (m : α → Nat → α) : List α → Nat → List α
  | [], _ => []
  | x :: xs, k => m x k :: mkd mk m xs (k + mk x)
theorem smk_snoc (mk : α → Nat) : ∀ (xs : List α) (x : α), smk mk (xs ++ [x]) = smk mk xs + mk x
  | [], x => by simp [smk]
  | y :: xs, x => by simp [smk, smk_snoc mk xs x, Nat.add_assoc]
theorem mkd_snoc (mk : α → Nat) (m : α → Nat → α) : ∀ (xs : List α) (x : α) (k : Nat), mkd mk m (xs ++ [x]) k = mkd mk m xs k ++ [m x (k + smk mk xs)]
  | [], x, k => by simp [mkd, smk]
  | y :: xs, x, k => by simp [mkd, smk, mkd_snoc mk m xs x, Nat.add_assoc]
theorem mkd_length (mk : α → Nat) (m : α → Nat → α) : ∀ (xs : List α) (k : Nat), (mkd mk m xs k).length = xs.length
  | [], _ => rfl
  | x :: xs, k => by simp [mkd, mkd_length mk m xs]
theorem mkd_take (mk : α → Nat) (m : α → Nat → α) : ∀ (xs : List α) (k i : Nat), (mkd mk m xs k).take i = mkd mk m (xs.take i) k
  | [], _, _ => by simp [mkd]
  | x :: xs, k, 0 => by simp [mkd]
  | x :: xs, k, i + 1 => by simp [mkd, mkd_take mk m xs]
theorem takeS {xs : List α} {k : Nat} (h : k < xs.length) : xs.take (k + 1) = xs.take k ++ [nth xs (k : Int)] := by
  rw [List.take_succ_eq_append_getElem h, nth_nat h]
theorem mkd_at (mk : α → Nat) (m : α → Nat → α) (xs : List α) (k : Nat) {i : Nat} (h : i < xs.length) : nth (mkd mk m xs k) (i : Int) = m (nth xs (i : Int)) (k + smk mk (xs.take i)) := by
  have h' : i < (mkd mk m xs k).length := by rw [mkd_length]; exact h
  have e := takeS h'
  rw [mkd_take, mkd_take, takeS h, mkd_snoc] at e
  have := List.append_cancel_left e
  simpa using this.symm
theorem smk_take (mk : α → Nat) {xs : List α} {i : Nat} (h : i < xs.length) : smk mk (xs.take (i + 1)) = smk mk (xs.take i) + mk (nth xs (i : Int)) := by rw [takeS h, smk_snoc]
theorem smk_le (mk : α → Nat) : ∀ (xs : List α) (i : Nat), smk mk (xs.take i) ≤ smk mk xs
  | [], _ => by simp
  | x :: xs, 0 => by simp [smk]
  | x :: xs, i + 1 => by simp [smk]; exact smk_le mk xs i
theorem smk_bound (mk : α → Nat) {B : Nat} : ∀ (xs : List α), (∀ x ∈ xs, mk x ≤ B) → smk mk xs ≤ xs.length * B
  | [], _ => by simp [smk]
  | x :: xs, h => by
    have h1 := smk_bound mk xs fun y hy => h y (by simp [hy])
    have h2 := h x (by simp)
    simp only [smk, List.length_cons, Nat.add_mul, Nat.one_mul]; omega
theorem set_mid {xs ys : List α} {i : Nat} (hi : i < xs.length) (hl : ys.length = i) (x : α) : (ys ++ xs.drop i).set i x = ys ++ [x] ++ xs.drop (i + 1) := by
  rw [List.set_append_right _ _ (by omega), hl, Nat.sub_self, List.drop_eq_getElem_cons hi, List.set_cons_zero, List.append_assoc]; rfl
theorem markL {R : Type} {f : List α × Int × Int → Option (Out R (List α × Int × Int))} (xs : List α) (mk : α → Nat) (m : α → Nat → α) (hN : xs.length ≤ 9223372036854775807) {k : Nat} (hk : k + smk mk xs ≤ 4611686018427387904)
    (hstep : ∀ ys (i k : Nat), i < xs.length → ys.length = xs.length → nth ys (i : Int) = nth xs (i : Int) → k + mk (nth xs (i : Int)) ≤ 4611686018427387904 → f (ys, (k : Int), (i : Int)) = some (.nxt (ys.set i (m (nth xs (i : Int)) k), ((k + mk (nth xs (i : Int)) : Nat) : Int), ((i + 1 : Nat) : Int))))
    (hend : ∀ ys (k : Nat), ys.length = xs.length → f (ys, (k : Int), (xs.length : Int)) = some (.brk (ys, (k : Int), (xs.length : Int)))) :
    loopM f FUEL (xs, (k : Int), 0) = some (.brk (mkd mk m xs k, ((k + smk mk xs : Nat) : Int), (xs.length : Int))) := by
  have hlen : ∀ i, i ≤ xs.length → (mkd mk m (xs.take i) k ++ xs.drop i).length = xs.length := fun i hi => by
    rw [List.length_append, mkd_length, List.length_take, List.length_drop]; omega
  have := loopM_at (f := f) (fun i => (mkd mk m (xs.take i) k ++ xs.drop i, ((k + smk mk (xs.take i) : Nat) : Int), (i : Int))) xs.length (fun i hi => by
    have hl : (mkd mk m (xs.take i) k).length = i := by rw [mkd_length, List.length_take]; omega
    have hle := smk_le mk xs (i + 1)
    rw [smk_take mk hi] at hle
    rw [hstep _ i (k + smk mk (xs.take i)) hi (hlen i (by omega)) ?_ (by omega), set_mid hi hl, takeS hi, mkd_snoc, smk_snoc, Nat.add_assoc]
    have h' : i < (mkd mk m (xs.take i) k ++ xs.drop i).length := by rw [hlen i (by omega)]; exact hi
    rw [nth_nat h', nth_nat hi, List.getElem_append_right (by omega)]
    simp [hl]) (by
    have := hend (mkd mk m (xs.take xs.length) k ++ xs.drop xs.length) (k + smk mk (xs.take xs.length)) (hlen _ (Nat.le_refl _))
    exact this) (up63 hN)
  simpa [mkd, smk] using this
theorem heldL {f : Int × Int → Option (Out Int (Int × Int))} (xs : List α) (mk : α → Nat) (m : α → Nat → α) (hN : xs.length ≤ 9223372036854775807) {k : Nat} (hk : k + smk mk xs ≤ 4611686018427387904)
    (hstep : ∀ (i k' : Nat), i < xs.length → nth (mkd mk m xs k) (i : Int) = m (nth xs (i : Int)) k' → k' + mk (nth xs (i : Int)) ≤ 4611686018427387904 → f ((k' : Int), (i : Int)) = some (.nxt (((k' + mk (nth xs (i : Int)) : Nat) : Int), ((i + 1 : Nat) : Int))))
    (hend : ∀ (k' : Nat), f ((k' : Int), (xs.length : Int)) = some (.brk ((k' : Int), (xs.length : Int)))) :
    loopM f FUEL ((k : Int), 0) = some (.brk (((k + smk mk xs : Nat) : Int), (xs.length : Int))) := by
  have := loopM_at (f := f) (fun i => (((k + smk mk (xs.take i) : Nat) : Int), (i : Int))) xs.length (fun i hi => by
    have hle := smk_le mk xs (i + 1)
    rw [smk_take mk hi] at hle
    rw [hstep i (k + smk mk (xs.take i)) hi (mkd_at mk m xs k hi) (by omega), smk_take mk hi, Nat.add_assoc]) (hend _) (up63 hN)
  simpa [smk] using this
end
end Go.Proofs.Ytakjhbbbjbebdaa.D
/- Printed by genmark.py: what the helpers of the law that mark and look for marks compute. -/
set_option linter.unusedVariables false
set_option linter.unusedSimpArgs false
set_option linter.unnecessarySimpa false
set_option maxRecDepth 4000
set_option synthInstance.maxSize 20000
set_option synthInstance.maxHeartbeats 2000000
namespace Go.Proofs.Ytakjhbbbjbebdaa.D
open Go.RowKit
theorem getI_setM {α : Type} {xs : List α} {i : Nat} {x : α} (h : i < xs.length) : getI (xs.set i x) (i : Int) = some x := by
  rw [getI_nat (by rw [List.length_set]; exact h)]; simp
theorem ltzM {n : Nat} : decide ((n : Int) < 0) = false := by simp only [decide_eq_false_iff_not]; omega
def c_PairS (x : Int × Int) : Nat := 1 + 1
def e_PairS (x : Int × Int) (k : Nat) : Int × Int := (((k : Nat) : Int), ((k + 1 : Nat) : Int))
theorem cb_PairS (xs : List (Int × Int)) (hx : Data.sm xs) : smk c_PairS xs ≤ 1048576 * 2 := by
  obtain ⟨h1, h2⟩ := sm_list hx
  have b := smk_bound c_PairS (B := 2) xs (fun x hx => by
    simp [c_PairS])
  exact Nat.le_trans b (Nat.mul_le_mul_right _ h1)
theorem mk_PairS (xs : List (Int × Int)) (hx : Data.sm xs) {k : Nat} (hk : k + smk c_PairS xs ≤ 4611686018427387904) : m_w_markPairS xs (k : Int) = some (((k + smk c_PairS xs : Nat) : Int), mkd c_PairS e_PairS xs k) := by
  obtain ⟨hN, hs⟩ := sm_list hx
  unfold m_w_markPairS
  rw [bindL_brk (markL (f := m_w_markPairS_l0) xs c_PairS e_PairS (by omega) hk (fun ys i k hi hl he hk => by
    have hz0 := hs _ (nth_mem (xs := xs) (i := (i : Int)) (by omega) (by omega))
    unfold m_w_markPairS_l0
    have hi' : i < ys.length := by omega
    generalize hz : nth xs (i : Int) = z at *
    have hk' : k + (1 + 1) ≤ 4611686018427387904 := hk
    simp only
    rw [if_pos (by simp; omega), getI_nth (by omega) (by omega), he]
    simp only [Option.bind_some, Int.toNat_natCast, getI_setM hi', List.set_set, wrap_succ (show i < 9223372036854775807 by omega), wrap_succ (show k < 9223372036854775807 by omega), wrap_succ (show k + 1 < 9223372036854775807 by omega)]
    have e : k + c_PairS z = k + 1 + 1 := by unfold c_PairS; omega
    rw [e]; rfl) (fun ys k hl => by
    unfold m_w_markPairS_l0
    simp only
    rw [if_neg (by simp; omega)]))]
theorem hd_PairS (xs : List (Int × Int)) (hx : Data.sm xs) {k : Nat} (hk : k + smk c_PairS xs ≤ 4611686018427387904) : m_w_heldPairS (mkd c_PairS e_PairS xs k) (k : Int) = some ((k + smk c_PairS xs : Nat) : Int) := by
  obtain ⟨hN, hs⟩ := sm_list hx
  unfold m_w_heldPairS
  rw [bindL_brk (heldL (f := m_w_heldPairS_l0 _) xs c_PairS e_PairS (by omega) hk (fun i k' hi he hk => by
    have hz0 := hs _ (nth_mem (xs := xs) (i := (i : Int)) (by omega) (by omega))
    unfold m_w_heldPairS_l0
    generalize hz : nth xs (i : Int) = z at *
    have hk' : k' + (1 + 1) ≤ 4611686018427387904 := hk
    simp only
    rw [if_pos (by simp [mkd_length]; omega), getI_nth (by omega) (by rw [mkd_length]; omega), he]
    simp only [e_PairS, Option.bind_some, bne_self_eq_false, Bool.false_eq_true, if_false, ltzM, wrap_succ (show i < 9223372036854775807 by omega), wrap_succ (show k' < 9223372036854775807 by omega), wrap_succ (show k' + 1 < 9223372036854775807 by omega)]
    have e : k' + c_PairS z = k' + 1 + 1 := by unfold c_PairS; omega
    rw [e]) (fun k' => by
    unfold m_w_heldPairS_l0
    simp only
    rw [if_neg (by simp [mkd_length])]))]
def n_Delta (x : (List (Int × Int)) × (List (Int × Int))) : Nat := smk c_PairS (x.1) + smk c_PairS (x.2)
def d_Delta (x : (List (Int × Int)) × (List (Int × Int))) (k : Nat) : (List (Int × Int)) × (List (Int × Int)) := (mkd c_PairS e_PairS (x.1) (k), mkd c_PairS e_PairS (x.2) (k + smk c_PairS (x.1)))
theorem nb_Delta (x : (List (Int × Int)) × (List (Int × Int))) (hx : Data.sm x) : n_Delta x ≤ 4194304 := by
  have q0 := cb_PairS (x.1) hx.1
  have q1 := cb_PairS (x.2) hx.2
  unfold n_Delta; omega
theorem mk_Delta (x : (List (Int × Int)) × (List (Int × Int))) (hx : Data.sm x) {k : Nat} (hk : k + n_Delta x ≤ 4611686018427387904) : m_w_markDelta x (k : Int) = some (((k + n_Delta x : Nat) : Int), d_Delta x k) := by
  unfold n_Delta at hk
  have m0 := mk_PairS (x.1) hx.1 (k := k) (by omega)
  have m1 := mk_PairS (x.2) hx.2 (k := k + smk c_PairS (x.1)) (by omega)
  unfold m_w_markDelta
  simp only [peta, Option.bind_some, m0, m1]
  have e : k + n_Delta x = k + smk c_PairS (x.1) + smk c_PairS (x.2) := by unfold n_Delta; omega
  rw [e]; rfl
def n_Message (x : Int × Bool × ((List (Int × Int)) × (List (Int × Int)))) : Nat := n_Delta (x.2.2)
def d_Message (x : Int × Bool × ((List (Int × Int)) × (List (Int × Int)))) (k : Nat) : Int × Bool × ((List (Int × Int)) × (List (Int × Int))) := (x.1, x.2.1, d_Delta (x.2.2) (k))
theorem nb_Message (x : Int × Bool × ((List (Int × Int)) × (List (Int × Int)))) (hx : Data.sm x) : n_Message x ≤ 4194304 := by
  have q0 := nb_Delta (x.2.2) hx.2.2
  unfold n_Message; omega
theorem mk_Message (x : Int × Bool × ((List (Int × Int)) × (List (Int × Int)))) (hx : Data.sm x) {k : Nat} (hk : k + n_Message x ≤ 4611686018427387904) : m_w_markMessage x (k : Int) = some (((k + n_Message x : Nat) : Int), d_Message x k) := by
  unfold n_Message at hk
  have m0 := mk_Delta (x.2.2) hx.2.2 (k := k) (by omega)
  unfold m_w_markMessage
  simp only [peta, Option.bind_some, m0]
  have e : k + n_Message x = k + n_Delta (x.2.2) := by unfold n_Message; omega
  rw [e]; rfl
end Go.Proofs.Ytakjhbbbjbebdaa.D
/- Lists of pairs in strict order: one for each set; insertion, sorting, leaving out what is alike. No program in sight. -/
set_option linter.unusedVariables false
set_option linter.unusedSimpArgs false
set_option linter.unnecessarySimpa false
namespace Go.Proofs.Ytakjhbbbjbebdaa.D
abbrev Pr := Int × Int
def ltP (a b : Pr) : Prop := a.1 < b.1 ∨ a.1 = b.1 ∧ a.2 < b.2
instance (a b : Pr) : Decidable (ltP a b) := inferInstanceAs (Decidable (_ ∨ _))
theorem ltP_irr (a : Pr) : ¬ ltP a a := by unfold ltP; omega
theorem ltP_trans {a b c : Pr} (h : ltP a b) (k : ltP b c) : ltP a c := by unfold ltP at *; omega
theorem ltP_asymm {a b : Pr} (h : ltP a b) : ¬ ltP b a := by unfold ltP at *; omega
theorem ltP_tri (a b : Pr) : ltP a b ∨ a = b ∨ ltP b a := by
  unfold ltP
  by_cases h : a = b
  · exact .inr (.inl h)
  · have : ¬ (a.1 = b.1 ∧ a.2 = b.2) := fun e => h (Prod.ext e.1 e.2)
    omega
abbrev Str (l : List Pr) : Prop := l.Pairwise ltP
theorem str_uniq : ∀ {l m : List Pr}, Str l → Str m → (∀ x, x ∈ l ↔ x ∈ m) → l = m
  | [], [], _, _, _ => rfl
  | [], b :: m, _, _, h => absurd ((h b).2 (List.mem_cons_self ..)) (by simp)
  | a :: l, [], _, _, h => absurd ((h a).1 (List.mem_cons_self ..)) (by simp)
  | a :: l, b :: m, hl, hm, h => by
    obtain ⟨l1, l2⟩ := List.pairwise_cons.1 hl
    obtain ⟨m1, m2⟩ := List.pairwise_cons.1 hm
    have hab : a = b := by
      rcases List.mem_cons.1 ((h a).1 (List.mem_cons_self ..)) with e | e
      · exact e
      · rcases List.mem_cons.1 ((h b).2 (List.mem_cons_self ..)) with f | f
        · exact f.symm
        · exact absurd (m1 a e) (ltP_asymm (l1 b f))
    subst hab
    rw [str_uniq l2 m2 fun x => ?_]
    constructor
    · intro hx
      rcases List.mem_cons.1 ((h x).1 (List.mem_cons_of_mem _ hx)) with e | e
      · subst e; exact absurd (l1 x hx) (ltP_irr x)
      · exact e
    · intro hx
      rcases List.mem_cons.1 ((h x).2 (List.mem_cons_of_mem _ hx)) with e | e
      · subst e; exact absurd (m1 x hx) (ltP_irr x)
      · exact e
def ahd (p : Pr) : List Pr → Nat
  | [] => 0
  | a :: l => if ltP a p then ahd p l + 1 else 0
theorem ahd_le (p : Pr) : ∀ l : List Pr, ahd p l ≤ l.length
  | [] => Nat.le_refl _
  | a :: l => by
    unfold ahd
    split
    · have := ahd_le p l; rw [List.length_cons]; omega
    · exact Nat.zero_le _
theorem ahd_lt (p : Pr) : ∀ (l : List Pr) (i : Nat), i < ahd p l → ∃ x, l[i]? = some x ∧ ltP x p
  | [], i, h => by simp [ahd] at h
  | a :: l, i, h => by
    unfold ahd at h
    split at h
    · rename_i ha
      cases i with
      | zero => exact ⟨a, rfl, ha⟩
      | succ i =>
        obtain ⟨x, h1, h2⟩ := ahd_lt p l i (by omega)
        exact ⟨x, by simpa using h1, h2⟩
    · omega
theorem ahd_at (p : Pr) : ∀ (l : List Pr) x, l[ahd p l]? = some x → ¬ ltP x p
  | [], x, h => by simp at h
  | a :: l, x, h => by
    unfold ahd at h
    split at h
    · exact ahd_at p l x (by simpa using h)
    · rename_i ha
      simp at h
      subst h; exact ha
def put (l : List Pr) (p : Pr) : List Pr := if l[ahd p l]? = some p then l else l.take (ahd p l) ++ p :: l.drop (ahd p l)
theorem put_cons (a : Pr) (l : List Pr) (p : Pr) : put (a :: l) p = if ltP a p then a :: put l p else if a = p then a :: l else p :: a :: l := by
  unfold put
  by_cases h : ltP a p
  · have e : ahd p (a :: l) = ahd p l + 1 := by rw [ahd, if_pos h]
    rw [e, if_pos h]
    by_cases k : l[ahd p l]? = some p
    · rw [if_pos (by simpa using k), if_pos k]
    · rw [if_neg (by simpa using k), if_neg k]; rfl
  · have e : ahd p (a :: l) = 0 := by rw [ahd, if_neg h]
    rw [e, if_neg h]
    by_cases k : a = p
    · rw [if_pos (by simp [k]), if_pos k]
    · rw [if_neg (by simpa using k), if_neg k]; rfl
theorem put_mem {x p : Pr} : ∀ l : List Pr, x ∈ put l p ↔ x = p ∨ x ∈ l
  | [] => by simp [put, ahd]
  | a :: l => by
    rw [put_cons]
    split
    · rw [List.mem_cons, put_mem l, List.mem_cons]; grind
    · split
      · rename_i e; subst e; rw [List.mem_cons]; grind
      · rw [List.mem_cons]
theorem put_str {p : Pr} : ∀ {l : List Pr}, Str l → Str (put l p)
  | [], _ => by simp [put, ahd]
  | a :: l, h => by
    obtain ⟨h1, h2⟩ := List.pairwise_cons.1 h
    rw [put_cons]
    split
    · rename_i ha
      refine List.pairwise_cons.2 ⟨fun x hx => ?_, put_str h2⟩
      rcases (put_mem l).1 hx with rfl | hx
      · exact ha
      · exact h1 x hx
    · rename_i ha
      split
      · exact h
      · rename_i hn
        have hp : ltP p a := by
          rcases ltP_tri p a with c | c | c
          · exact c
          · exact absurd c.symm hn
          · exact absurd c ha
        refine List.pairwise_cons.2 ⟨fun x hx => ?_, h⟩
        rcases List.mem_cons.1 hx with rfl | hx
        · exact hp
        · exact ltP_trans hp (h1 x hx)
def puts (l m : List Pr) : List Pr := m.foldl put l
theorem puts_str : ∀ {m l : List Pr}, Str l → Str (puts l m)
  | [], l, h => h
  | p :: m, l, h => puts_str (m := m) (put_str h)
theorem puts_mem {x : Pr} : ∀ {m l : List Pr}, x ∈ puts l m ↔ x ∈ l ∨ x ∈ m
  | [], l => by simp [puts]
  | p :: m, l => by
    show x ∈ puts (put l p) m ↔ _
    rw [puts_mem, put_mem, List.mem_cons]; grind
def nub : List Pr → List Pr
  | [] => []
  | [a] => [a]
  | a :: b :: l => if a = b then nub (b :: l) else a :: nub (b :: l)
theorem nub_mem {x : Pr} : ∀ {l : List Pr}, x ∈ nub l ↔ x ∈ l
  | [] => Iff.rfl
  | [a] => Iff.rfl
  | a :: b :: l => by
    rw [nub]
    split
    · rename_i e; subst e; rw [nub_mem]; simp
    · rw [List.mem_cons, nub_mem, List.mem_cons (l := b :: l)]
theorem nub_str : ∀ {l : List Pr}, l.Pairwise (fun a b => ¬ ltP b a) → Str (nub l)
  | [], _ => List.Pairwise.nil
  | [a], _ => by simp [nub]
  | a :: b :: l, h => by
    obtain ⟨h1, h2⟩ := List.pairwise_cons.1 h
    rw [nub]
    split
    · exact nub_str h2
    · rename_i hn
      refine List.pairwise_cons.2 ⟨fun x hx => ?_, nub_str h2⟩
      have hab : ltP a b := by
        rcases ltP_tri a b with c | c | c
        · exact c
        · exact absurd c hn
        · exact absurd c (h1 b (List.mem_cons_self ..))
      rcases List.mem_cons.1 (nub_mem.1 hx) with rfl | hx
      · exact hab
      · rcases ltP_tri b x with c | c | c
        · exact ltP_trans hab c
        · subst c; exact hab
        · exact absurd c ((List.pairwise_cons.1 h2).1 x hx)
theorem filter_str {l : List Pr} {f : Pr → Bool} (h : Str l) : Str (l.filter f) := List.Pairwise.filter _ h
end Go.Proofs.Ytakjhbbbjbebdaa.D
/- Sets of pairs: what both programs reckon. -/
set_option linter.unusedVariables false
set_option linter.unusedSimpArgs false
set_option linter.unnecessarySimpa false
set_option linter.unusedSectionVars false
namespace Go.Proofs.Ytakjhbbbjbebdaa.D
open Go.RowKit

theorem find_go {α R : Type} {f : Int → Option (Out R Int)} (l : List α) (b : α → Bool) (r : Nat → R) (hN : l.length ≤ 9223372036854775807) (h : ∀ i (hi : i < l.length), f (i : Int) = some (if b l[i] then .ret (r i) else .nxt ((i + 1 : Nat) : Int))) (he : f (l.length : Int) = some (.brk (l.length : Int))) :
    (∃ (i : Nat) (hi : i < l.length), b l[i] = true ∧ (∀ j (hj : j < i), b (l[j]'(by omega)) = false) ∧ loopM f FUEL 0 = some (.ret (r i))) ∨ ((∀ x, x ∈ l → b x = false) ∧ loopM f FUEL 0 = some (.brk (l.length : Int))) := by
  obtain ⟨o, e, hQ⟩ := loopM_go (f := f) (fun i s => s = (i : Int) ∧ ∀ j (hj : j < l.length), j < i → b l[j] = false) (fun o => (∃ (i : Nat) (hi : i < l.length), b l[i] = true ∧ (∀ j (hj : j < i), b (l[j]'(by omega)) = false) ∧ o = .ret (r i)) ∨ ((∀ x, x ∈ l → b x = false) ∧ o = .brk (l.length : Int))) l.length (fun i s hi hI => by
    obtain ⟨rfl, hI⟩ := hI
    by_cases h1 : i < l.length
    · cases hb : b l[i] with
      | true => exact .inr ⟨_, by rw [h i h1, hb, if_pos rfl], fun s' hh => by simp at hh, .inl ⟨i, h1, hb, fun j hj => hI j (by omega) hj, by simp⟩⟩
      | false => exact .inl ⟨h1, _, by rw [h i h1, hb, if_neg (by simp)], rfl, fun j hj hji => by
          by_cases c : j = i
          · subst c; exact hb
          · exact hI j hj (by omega)⟩
    · obtain rfl : i = l.length := by omega
      exact .inr ⟨_, he, fun s' hh => by simp at hh, .inr ⟨fun x hx => by
        obtain ⟨j, hj, rfl⟩ := List.getElem_of_mem hx
        exact hI j hj hj, rfl⟩⟩) (s := 0) ⟨rfl, fun j hj h0 => by omega⟩ (fuelUp _ hN)
  rcases hQ with ⟨i, hi, h1, h2, rfl⟩ | ⟨h1, rfl⟩
  · exact .inl ⟨i, hi, h1, h2, e⟩
  · exact .inr ⟨h1, e⟩
section
variable {l m : List Pr} {p : Pr}
theorem eqB2 {a b : Pr} : ((a.1 == b.1) && ((a.2 == b.2) && true)) = decide (a = b) := by
  rw [Bool.eq_iff_iff]; simp [Prod.ext_iff]
theorem eqB3 {a b : Pr} : (Bool.and.match_1 (fun (_ : Bool) => Bool) (a.1 == b.1) (fun (_ : Unit) => false) (fun (_ : Unit) => Bool.and.match_1 (fun (_ : Bool) => Bool) (a.2 == b.2) (fun (_ : Unit) => false) (fun (_ : Unit) => true))) = decide (a = b) := eqB2
theorem has_s (hl : l.length ≤ 1073741824) : m_s_l15Has l p = some (decide (p ∈ l)) := by
  unfold m_s_l15Has
  rcases find_go (f := m_s_l15Has_l0 l p) l (fun x => decide (x = p)) (fun _ => true) (by omega) (fun i hi => by
      unfold m_s_l15Has_l0
      rw [lt_nat hi, if_pos rfl, getI_nat hi]
      simp only [Option.bind_some, eqB2, wrap_succ (show i < 9223372036854775807 by omega)]
      split <;> rfl) (by
      unfold m_s_l15Has_l0
      rw [lt_self]; rfl) with ⟨i, hi, h1, -, e⟩ | ⟨h1, e⟩
  · rw [bindL_ret e, decide_eq_true (by rw [← of_decide_eq_true h1]; exact List.getElem_mem hi)]
  · rw [bindL_brk e, decide_eq_false fun hm => by have := h1 p hm; simp at this]
theorem idx_i (hl : l.length ≤ 1073741824) : ∃ r : Int, m_g_slices_Index_S_Pair_Pair l p = some r ∧ (0 ≤ r ↔ p ∈ l) := by
  unfold m_g_slices_Index_S_Pair_Pair
  rcases find_go (f := m_g_slices_Index_S_Pair_Pair_l0 l p) l (fun x => decide (p = x)) (fun i => (i : Int)) (by omega) (fun i hi => by
      unfold m_g_slices_Index_S_Pair_Pair_l0
      rw [lt_nat hi, if_pos rfl, getI_nat hi]
      simp only [Option.bind_some, eqB2, wrap_succ (show i < 9223372036854775807 by omega)]
      split <;> rfl) (by
      unfold m_g_slices_Index_S_Pair_Pair_l0
      rw [lt_self]; rfl) with ⟨i, hi, h1, -, e⟩ | ⟨h1, e⟩
  · exact ⟨_, bindL_ret e, by
      have : p ∈ l := by rw [of_decide_eq_true h1]; exact List.getElem_mem hi
      simp [this]⟩
  · exact ⟨_, bindL_brk e, by
      have : p ∉ l := fun hm => by have := h1 p hm; simp at this
      simp [this]⟩
theorem has_i (hl : l.length ≤ 1073741824) : m_g_slices_Contains_S_Pair_Pair l p = some (decide (p ∈ l)) := by
  unfold m_g_slices_Contains_S_Pair_Pair
  obtain ⟨r, e, h⟩ := idx_i (l := l) (p := p) hl
  rw [peta, e, Option.bind_some]
  congr 1
  rw [Bool.eq_iff_iff, decide_eq_true_iff, decide_eq_true_iff]
  exact h
theorem idxf_i {d : Pr → Bool} {f : Pr → Option Bool} (hf : ∀ x, f x = some (d x)) (hl : l.length ≤ 1073741824) :
    (∃ (i : Nat) (hi : i < l.length), d l[i] = true ∧ (∀ j (hj : j < i), d (l[j]'(by omega)) = false) ∧ m_g_slices_IndexFunc_S_Pair_Pair l f = some (i : Int)) ∨ ((∀ x, x ∈ l → d x = false) ∧ m_g_slices_IndexFunc_S_Pair_Pair l f = some (-1)) := by
  unfold m_g_slices_IndexFunc_S_Pair_Pair
  rcases find_go (f := m_g_slices_IndexFunc_S_Pair_Pair_l0 l f) l d (fun i => (i : Int)) (by omega) (fun i hi => by
      unfold m_g_slices_IndexFunc_S_Pair_Pair_l0
      rw [lt_nat hi, if_pos rfl, getI_nat hi]
      simp only [Option.bind_some, peta, hf, wrap_succ (show i < 9223372036854775807 by omega)]
      split <;> rfl) (by
      unfold m_g_slices_IndexFunc_S_Pair_Pair_l0
      rw [lt_self]; rfl) with ⟨i, hi, h1, h2, e⟩ | ⟨h1, e⟩
  · exact .inl ⟨i, hi, h1, h2, bindL_ret e⟩
  · exact .inr ⟨h1, bindL_brk e⟩
theorem common_i (hl : l.length ≤ 1073741824) (hm : m.length ≤ 1073741824) : m_i_commonPair l m = some (decide (∃ x, x ∈ l ∧ x ∈ m)) := by
  unfold m_i_commonPair m_g_slices_ContainsFunc_S_Pair_Pair
  rcases idxf_i (l := l) (d := fun x => decide (x ∈ m)) (f := fun a0 => m_i_commonPair_1 a0 m) (fun x => by unfold m_i_commonPair_1; rw [peta, has_i hm]; rfl) hl with ⟨i, hi, h1, -, e⟩ | ⟨h1, e⟩
  · rw [e]
    simp only [Option.bind_some]
    congr 1
    rw [Bool.eq_iff_iff, decide_eq_true_iff, decide_eq_true_iff]
    exact ⟨fun _ => ⟨_, List.getElem_mem hi, of_decide_eq_true h1⟩, fun _ => by omega⟩
  · rw [e]
    simp only [Option.bind_some]
    congr 1
    rw [Bool.eq_iff_iff, decide_eq_true_iff, decide_eq_true_iff]
    exact ⟨fun h => by omega, fun ⟨x, h2, h3⟩ => by have := h1 x h2; simp [h3] at this⟩
theorem less_s (a b : Pr) : m_s_l15Less a b = some (decide (ltP a b)) := by
  unfold m_s_l15Less ltP
  by_cases h : a.1 < b.1
  · simp [h]
  · by_cases k : a.1 = b.1 <;> simp [h, k]
theorem cmp_i (a b : Pr) : ∃ r : Int, m_i_comparePairs a b = some r ∧ (0 ≤ r ↔ ¬ ltP a b) := by
  unfold m_i_comparePairs m_i_compareInts ltP
  by_cases k : a.1 = b.1
  · by_cases h : a.2 < b.2
    · exact ⟨-1, by simp [k, h], by simp [k, h]⟩
    · by_cases h2 : b.2 < a.2
      · exact ⟨1, by simp [k, h, h2], by simp [k, h]⟩
      · exact ⟨0, by simp [k, h, h2], by simp [k, h]⟩
  · by_cases h : a.1 < b.1
    · exact ⟨-1, by simp [k, h], by simp [k, h]⟩
    · have h2 : b.1 < a.1 := by omega
      exact ⟨1, by simp [k, h, h2], by simp [k, h]⟩
theorem are_same : m_s_ArePairs l = m_i_ArePairs l := by
  unfold m_s_ArePairs m_i_ArePairs
  have e : m_s_ArePairs_l0 l = m_i_ArePairs_l0 l := by
    funext s
    unfold m_s_ArePairs_l0 m_i_ArePairs_l0
    have hw : m_s_l1In = m_i_within := rfl
    rw [hw]
    cases hg : getI l s with
    | none => rfl
    | some x =>
      have hk : ∀ y : Pr, ((m_s_l15Less (y.1, y.2) (x.1, x.2)).bind fun r9 => if r9 = true then some (Out.nxt (R := Bool) (IntKind.i64.wrap (s + 1))) else some (Out.ret false)) = ((m_i_comparePairs (y.1, y.2) (x.1, x.2)).bind fun r9 => if decide (r9 ≥ 0) = true then some (Out.ret false) else some (Out.nxt (IntKind.i64.wrap (s + 1)))) := fun y => by
        rw [less_s]
        obtain ⟨r, e, h⟩ := cmp_i (y.1, y.2) (x.1, x.2)
        rw [e]
        simp only [Option.bind_some, peta] at h ⊢
        by_cases c : ltP y x
        · rw [if_pos (decide_eq_true c), if_neg (by simpa using fun q => (h.1 q) c)]
        · rw [if_neg (by simpa using c), if_pos (by simpa using h.2 c)]
      simp only [Option.bind_some, hk]
  rw [e]
end
end Go.Proofs.Ytakjhbbbjbebdaa.D
/- Sets of pairs, put in order by both programs. -/
set_option linter.unusedVariables false
set_option linter.unusedSimpArgs false
set_option linter.unnecessarySimpa false
set_option linter.unusedSectionVars false
namespace Go.Proofs.Ytakjhbbbjbebdaa.D
open Go.RowKit

theorem put_len (l : List Pr) (p : Pr) : (put l p).length ≤ l.length + 1 := by
  have := ahd_le p l
  unfold put
  split
  · omega
  · rw [List.length_append, List.length_take, List.length_cons, List.length_drop]; omega
theorem puts_len : ∀ (m l : List Pr), (puts l m).length ≤ l.length + m.length
  | [], l => Nat.le_refl _
  | p :: m, l => by
    have h1 := puts_len m (put l p)
    have h2 := put_len l p
    show (puts (put l p) m).length ≤ _
    rw [List.length_cons]; omega
theorem puts_snoc (l m : List Pr) (p : Pr) : puts l (m ++ [p]) = put (puts l m) p := by simp [puts]
theorem put_s (l : List Pr) (p : Pr) (hl : l.length ≤ 1073741824) : m_s_l15Put l p = some (put l p) := by
  have hk := ahd_le p l
  have e : loopM (m_s_l15Put_l0 l p) FUEL 0 = some (.brk ((ahd p l : Nat) : Int)) := by
    obtain ⟨o, e, rfl⟩ := loopM_go (f := m_s_l15Put_l0 l p) (fun i s => s = (i : Int)) (fun o => o = .brk ((ahd p l : Nat) : Int)) (ahd p l) (fun i s hi hI => by
      subst hI
      unfold m_s_l15Put_l0
      by_cases h1 : i < ahd p l
      · obtain ⟨x, g1, g2⟩ := ahd_lt p l i h1
        have hil : i < l.length := by omega
        rw [List.getElem?_eq_getElem hil] at g1
        obtain rfl := Option.some.inj g1
        refine .inl ⟨h1, ((i + 1 : Nat) : Int), ?_, rfl⟩
        rw [lt_nat hil, if_pos rfl, getI_nat hil]
        simp only [Option.bind_some, less_s, peta]
        rw [if_pos (decide_eq_true g2), wrap_succ (by omega)]
      · obtain rfl : i = ahd p l := by omega
        refine .inr ⟨_, ?_, fun s' hh => (by simp at hh), rfl⟩
        by_cases hil : ahd p l < l.length
        · have g := ahd_at p l _ (List.getElem?_eq_getElem hil)
          rw [lt_nat hil, if_pos rfl, getI_nat hil]
          simp only [Option.bind_some, less_s, peta]
          rw [if_neg (by simpa using g)]
        · rw [if_neg (by simp; omega)]) (s := 0) rfl (fuelUp _ (by omega))
    exact e
  unfold m_s_l15Put
  rw [bindL_brk e]
  have c1 : chk ((0 : Int) ≤ ((ahd p l : Nat) : Int) ∧ ((ahd p l : Nat) : Int) ≤ (l.length : Int)) = some () := if_pos (by omega)
  have a1 : appI 16 ([] : List Pr) ((l.take (ahd p l)).drop 0) = some (l.take (ahd p l)) := by
    rw [List.drop_zero, appI_ok (by simp only [List.length_nil, List.length_take]; omega)]; rfl
  have a2 : appI 16 (l.take (ahd p l)) [p] = some (l.take (ahd p l) ++ [p]) := appI_ok (by simp only [List.length_singleton, List.length_take]; omega)
  have a3 : appI 16 (l.take (ahd p l) ++ [p]) ((l.take l.length).drop (ahd p l)) = some (l.take (ahd p l) ++ p :: l.drop (ahd p l)) := by
    rw [List.take_of_length_le (Nat.le_refl _), appI_ok (by simp only [List.length_append, List.length_singleton, List.length_take, List.length_drop]; omega), List.append_assoc]; rfl
  simp only [c1, Option.bind_some, Int.toNat_natCast, a1, a2, a3, peta]
  unfold put
  by_cases hil : ahd p l < l.length
  · rw [lt_nat hil, if_pos rfl, getI_nat hil]
    simp only [Option.bind_some, eqB3]
    rw [List.getElem?_eq_getElem hil]
    by_cases h : l[ahd p l] = p
    · rw [if_pos (decide_eq_true h), if_pos (by rw [h])]
    · rw [if_neg (by simpa using h), if_neg (by simpa using h)]
  · rw [if_neg (by simp; omega), List.getElem?_eq_none (by omega), if_neg (by simp)]
theorem merge_s {a b : List Pr} (ha : a.length ≤ 67108864) (hb : b.length ≤ 67108864) : m_s_MergePairs a b = some (puts [] (a ++ b)) := by
  unfold m_s_MergePairs
  obtain ⟨s1, e1, rfl⟩ := loopM_for (f := m_s_MergePairs_l0 a) (fun i s => s = (puts [] (a.take i), (i : Int))) a.length (fun i s hi hI => by
    subst hI
    have hln := puts_len (a.take i) []
    rw [List.length_take] at hln
    refine ⟨_, ?_, rfl⟩
    unfold m_s_MergePairs_l0
    rw [lt_nat hi, if_pos rfl, getI_nat hi]
    simp only [Option.bind_some, peta]
    rw [put_s _ _ (by simp only [List.length_nil] at hln; omega)]
    simp only [Option.bind_some]
    rw [wrap_succ (by omega), List.take_succ_eq_append_getElem hi, puts_snoc]) (fun s hI => by
    subst hI
    unfold m_s_MergePairs_l0
    rw [lt_self]; rfl) (s := (([] : List Pr), 0)) rfl (fuelUp _ (by omega))
  rw [bindL_brk e1, List.take_of_length_le (Nat.le_refl _)]
  obtain ⟨s2, e2, rfl⟩ := loopM_for (f := m_s_MergePairs_l1 b) (fun i s => s = (puts [] (a ++ b.take i), (i : Int))) b.length (fun i s hi hI => by
    subst hI
    have hln := puts_len (a ++ b.take i) []
    rw [List.length_append, List.length_take] at hln
    refine ⟨_, ?_, rfl⟩
    unfold m_s_MergePairs_l1
    rw [lt_nat hi, if_pos rfl, getI_nat hi]
    simp only [Option.bind_some, peta]
    rw [put_s _ _ (by simp only [List.length_nil] at hln; omega)]
    simp only [Option.bind_some]
    rw [wrap_succ (by omega), List.take_succ_eq_append_getElem hi, ← List.append_assoc, puts_snoc]) (fun s hI => by
    subst hI
    unfold m_s_MergePairs_l1
    rw [lt_self]; rfl) (s := (puts [] a, 0)) (by simp) (fuelUp _ (by omega))
  rw [bindL_brk e2, List.take_of_length_le (Nat.le_refl _)]
theorem subtract_s {a b : List Pr} (ha : a.length ≤ 67108864) (hb : b.length ≤ 67108864) : m_s_SubtractPairs a b = some (puts [] (a.filter fun x => !decide (x ∈ b))) := by
  unfold m_s_SubtractPairs
  obtain ⟨s1, e1, rfl⟩ := loopM_for (f := m_s_SubtractPairs_l0 a b) (fun i s => s = (puts [] ((a.take i).filter fun x => !decide (x ∈ b)), (i : Int))) a.length (fun i s hi hI => by
    subst hI
    have hln := puts_len ((a.take i).filter fun x => !decide (x ∈ b)) []
    have hl2 := List.length_filter_le (fun x => !decide (x ∈ b)) (a.take i)
    rw [List.length_take] at hl2
    refine ⟨_, ?_, rfl⟩
    unfold m_s_SubtractPairs_l0
    rw [lt_nat hi, if_pos rfl, getI_nat hi]
    simp only [Option.bind_some, peta]
    rw [has_s (by omega)]
    simp only [Option.bind_some]
    rw [wrap_succ (by omega), List.take_succ_eq_append_getElem hi, List.filter_append]
    by_cases h : a[i] ∈ b
    · rw [if_pos (decide_eq_true h)]
      simp [h]
    · rw [if_neg (by simpa using h), put_s _ _ (by simp only [List.length_nil] at hln; omega)]
      simp only [Option.bind_some]
      rw [show [a[i]].filter (fun x => !decide (x ∈ b)) = [a[i]] from by simp [h], puts_snoc]) (fun s hI => by
    subst hI
    unfold m_s_SubtractPairs_l0
    rw [lt_self]; rfl) (s := (([] : List Pr), 0)) rfl (fuelUp _ (by omega))
  rw [bindL_brk e1, List.take_of_length_le (Nat.le_refl _)]
end Go.Proofs.Ytakjhbbbjbebdaa.D
/- Sets of pairs: sorted, made thin, filtered in place. -/
set_option linter.unusedVariables false
set_option linter.unusedSimpArgs false
set_option linter.unnecessarySimpa false
set_option linter.unusedSectionVars false
namespace Go.Proofs.Ytakjhbbbjbebdaa.D
open Go.RowKit

theorem chk_t {c : Prop} [Decidable c] (h : c) : chk c = some () := if_pos h
theorem take_zeroM {α : Type} {xs : List α} {i n : Nat} {z : α} (h : i ≤ xs.length) : (zeroM xs i n z).take i = xs.take i := by
  unfold zeroM
  rw [List.take_append_of_le_length (by rw [List.length_take]; omega), List.take_take, Nat.min_self]
theorem zeroM_len {α : Type} {xs : List α} {i : Nat} {z : α} (h : i ≤ xs.length) : (zeroM xs i xs.length z).length = xs.length := zeroM_length h (Nat.le_refl _)
theorem set_take {α : Type} {ys : List α} {i : Nat} {x : α} (h : i < ys.length) : (ys.set i x).take (i + 1) = ys.take i ++ [x] := by
  rw [List.take_succ_eq_append_getElem (by simpa using h)]
  simp [List.take_set_of_le]
theorem set_drop {α : Type} {ys : List α} {i j : Nat} {x : α} (h : i < j) : (ys.set i x).drop j = ys.drop j := by
  apply List.ext_getElem?
  intro q
  rw [List.getElem?_drop, List.getElem?_drop, List.getElem?_set_ne (by omega)]
theorem drop_next {α : Type} {ys xs : List α} {j : Nat} (h : ys.drop j = xs.drop j) : ys.drop (j + 1) = xs.drop (j + 1) := by
  rw [← List.drop_drop, h, List.drop_drop]
theorem drop_get {α : Type} {ys xs : List α} {j q : Nat} (h : ys.drop j = xs.drop j) (hq : j ≤ q) (h1 : q < ys.length) (h2 : q < xs.length) : ys[q] = xs[q] := by
  have e := congrArg (fun l => l[q - j]?) h
  simp only [List.getElem?_drop, show j + (q - j) = q from by omega] at e
  rw [List.getElem?_eq_getElem h1, List.getElem?_eq_getElem h2] at e
  exact Option.some.inj e
theorem del_i {d : Pr → Bool} {f : Pr → Option Bool} (hf : ∀ x, f x = some (d x)) (xs : List Pr) (hl : xs.length ≤ 1073741824) : m_g_slices_DeleteFunc_S_Pair_Pair xs f = some (xs.filter fun x => !d x) := by
  unfold m_g_slices_DeleteFunc_S_Pair_Pair
  rcases idxf_i (l := xs) (d := d) (f := f) hf hl with ⟨r, hr, h1, h2, e⟩ | ⟨h1, e⟩
  · rw [e]
    simp only [Option.bind_some]
    have hne : (((r : Nat) : Int) == -1) = false := beq_eq_false_iff_ne.2 (by omega)
    rw [hne]
    simp only [Bool.false_eq_true, if_false]
    rw [wrap_succ (by omega)]
    have hk0 : (xs.take (r + 1)).filter (fun x => !d x) = xs.take r := by
      rw [List.take_succ_eq_append_getElem hr, List.filter_append]
      rw [show [xs[r]].filter (fun x => !d x) = [] from by simp [h1], List.append_nil, List.filter_eq_self]
      intro a ha
      obtain ⟨j, hj, rfl⟩ := List.getElem_of_mem ha
      rw [List.length_take] at hj
      rw [List.getElem_take, h2 j (by omega)]; rfl
    obtain ⟨s, e1, ys, rfl, k1, k2, k3, k4⟩ := loopM_for (f := m_g_slices_DeleteFunc_S_Pair_Pair_l0 f) (fun t s => ∃ ys : List Pr, s = ((((xs.take (r + 1 + t)).filter (fun x => !d x)).length : Int), ((r + 1 + t : Nat) : Int), ys) ∧ ys.length = xs.length ∧ ys.take ((xs.take (r + 1 + t)).filter (fun x => !d x)).length = (xs.take (r + 1 + t)).filter (fun x => !d x) ∧ ys.drop (r + 1 + t) = xs.drop (r + 1 + t) ∧ ((xs.take (r + 1 + t)).filter (fun x => !d x)).length ≤ r + t) (xs.length - (r + 1)) (fun t s ht hI => by
      obtain ⟨ys, rfl, k1, k2, k3, k4⟩ := hI
      have hj : r + 1 + t < xs.length := by omega
      unfold m_g_slices_DeleteFunc_S_Pair_Pair_l0
      rw [show ((ys.length : Nat) : Int) = (xs.length : Int) from by rw [k1], lt_nat hj, if_pos rfl, getI_nat (xs := ys) (by omega), drop_get k3 (Nat.le_refl _) (by omega) hj]
      simp only [Option.bind_some, peta, hf]
      have hnx : (xs.take (r + 1 + (t + 1))).filter (fun x => !d x) = (xs.take (r + 1 + t)).filter (fun x => !d x) ++ [xs[r + 1 + t]].filter (fun x => !d x) := by
        rw [← List.filter_append, ← List.take_succ_eq_append_getElem hj]; rfl
      generalize (xs.take (r + 1 + t)).filter (fun x => !d x) = K at *
      rw [hnx]
      cases hd : d xs[r + 1 + t] with
      | true =>
        rw [if_pos rfl]
        simp only [Option.bind_some]
        rw [wrap_succ (by omega), show [xs[r + 1 + t]].filter (fun x => !d x) = [] from by simp [hd], List.append_nil]
        exact ⟨_, rfl, ys, rfl, k1, k2, drop_next k3, by omega⟩
      | false =>
        rw [if_neg (by simp), getI_nat (xs := ys) (by omega)]
        simp only [Option.bind_some]
        rw [wrap_succ (by omega), wrap_succ (by omega), show [xs[r + 1 + t]].filter (fun x => !d x) = [xs[r + 1 + t]] from by simp [hd]]
        refine ⟨_, rfl, ys.set K.length xs[r + 1 + t], ?_, by simpa using k1, ?_, ?_, ?_⟩
        · rw [List.length_append, List.length_singleton]; rfl
        · rw [List.length_append, List.length_singleton, set_take (by omega), k2]
        · rw [set_drop (by omega)]; exact drop_next k3
        · rw [List.length_append, List.length_singleton]; omega) (fun s hI => by
      obtain ⟨ys, rfl, k1, k2, k3, k4⟩ := hI
      unfold m_g_slices_DeleteFunc_S_Pair_Pair_l0
      rw [if_neg (by simp; omega)]) (s := (((r : Nat) : Int), ((r + 1 : Nat) : Int), xs)) ⟨xs, by rw [Nat.add_zero, hk0, List.length_take, Nat.min_eq_left (by omega)], rfl, by rw [Nat.add_zero, hk0, List.length_take, Nat.min_eq_left (by omega)], rfl, by rw [Nat.add_zero, hk0, List.length_take]; omega⟩ (fuelUp _ (by omega))
    rw [bindL_brk e1]
    have hall : xs.take (r + 1 + (xs.length - (r + 1))) = xs := List.take_of_length_le (by omega)
    rw [hall] at k2 k4 ⊢
    generalize (xs.filter fun x => !d x) = K at *
    have q0 : K.length ≤ ys.length := by omega
    have z1 : ((0 : Int) + ((K.length : Nat) : Int)).toNat = K.length := by omega
    have z2 : ((0 : Int) + (((ys.length : Nat) : Int) - 0)).toNat = ys.length := by omega
    simp only [z1, z2]
    have zl := zeroM_len (z := ((0, 0) : Pr)) q0
    rw [chk_t (by omega), Option.bind_some, chk_t (by omega), Option.bind_some, chk_t (by rw [zl]; omega), Option.bind_some, take_zeroM q0, k2, List.drop_zero]
  · rw [e]
    simp only [Option.bind_some]
    rw [if_pos (by rfl)]
    congr 1
    exact (List.filter_eq_self.2 fun a ha => by rw [h1 a ha]; rfl).symm
theorem nub_snoc : ∀ (l : List Pr) (b : Pr), l ≠ [] → nub (l ++ [b]) = if l.getLast? = some b then nub l else nub l ++ [b]
  | [], b, h => absurd rfl h
  | [a], b, _ => by
    by_cases e : a = b
    · subst e; simp [nub]
    · simp [nub, e]
  | a :: c :: l, b, _ => by
    have ih := nub_snoc (c :: l) b (by simp)
    have hg : (a :: c :: l).getLast? = (c :: l).getLast? := by simp [List.getLast?_cons_cons]
    rw [hg]
    show nub (a :: c :: (l ++ [b])) = _
    rw [nub, nub]
    rw [show c :: (l ++ [b]) = (c :: l) ++ [b] from rfl, ih]
    by_cases e : a = c
    · rw [if_pos e, if_pos e]
    · rw [if_neg e, if_neg e]
      split <;> simp
theorem nub_take {xs : List Pr} {j : Nat} (h0 : 0 < j) (h : j < xs.length) : nub (xs.take (j + 1)) = if xs[j - 1] = xs[j] then nub (xs.take j) else nub (xs.take j) ++ [xs[j]] := by
  rw [List.take_succ_eq_append_getElem h, nub_snoc _ _ (by
    intro e
    have h9 := congrArg List.length e
    rw [List.length_take, Nat.min_eq_left (Nat.le_of_lt h), List.length_nil] at h9
    omega)]
  have hg : (xs.take j).getLast? = some xs[j - 1] := by
    rw [List.getLast?_eq_getElem?, List.length_take, Nat.min_eq_left (Nat.le_of_lt h), List.getElem?_take, if_pos (show j - 1 < j by omega), List.getElem?_eq_getElem (show j - 1 < xs.length by omega)]
  rw [hg]
  by_cases e : xs[j - 1] = xs[j]
  · rw [if_pos (by rw [e]), if_pos e]
  · rw [if_neg (by simpa using e), if_neg e]
theorem nub_self {xs : List Pr} : ∀ (j : Nat), j ≤ xs.length → (∀ q (hq : q < j) (h0 : 0 < q) (hx : j ≤ xs.length), xs[q - 1]'(by omega) ≠ xs[q]'(by omega)) → nub (xs.take j) = xs.take j
  | 0, _, _ => by simp [nub]
  | 1, h, _ => by
    cases xs with
    | nil => simp [nub]
    | cons a l => simp [nub]
  | j + 2, h, hq => by
    rw [nub_take (by omega) (by omega), if_neg (hq (j + 1) (by omega) (by omega) h), nub_self (j + 1) (by omega) (fun q h1 h2 h3 => hq q (by omega) h2 h), ← List.take_succ_eq_append_getElem]
end Go.Proofs.Ytakjhbbbjbebdaa.D
/- Sets of pairs: both programs build the same. -/
set_option linter.unusedVariables false
set_option linter.unusedSimpArgs false
set_option linter.unnecessarySimpa false
set_option linter.unusedSectionVars false
namespace Go.Proofs.Ytakjhbbbjbebdaa.D
open Go.RowKit

theorem compact_i (xs : List Pr) (hl : xs.length ≤ 1073741824) : m_g_slices_Compact_S_Pair_Pair xs = some (nub xs) := by
  unfold m_g_slices_Compact_S_Pair_Pair
  by_cases h2 : xs.length < 2
  · rw [if_pos (by simp; omega)]
    cases xs with
    | nil => rfl
    | cons a l =>
      cases l with
      | nil => rfl
      | cons b l => simp only [List.length_cons] at h2; omega
  rw [if_neg (by simp; omega)]
  have key : (loopM (m_g_slices_Compact_S_Pair_Pair_l0 xs) FUEL 1 = some (.ret (nub xs))) ∨ (∃ s, loopM (m_g_slices_Compact_S_Pair_Pair_l0 xs) FUEL 1 = some (.brk s) ∧ nub xs = xs) := by
    obtain ⟨o, e, hQ⟩ := loopM_go (f := m_g_slices_Compact_S_Pair_Pair_l0 xs) (fun t s => s = ((t + 1 : Nat) : Int) ∧ nub (xs.take (t + 1)) = xs.take (t + 1)) (fun o => o = .ret (nub xs) ∨ ∃ s, o = .brk s ∧ nub xs = xs) (xs.length - 1) (fun t s ht hI => by
      obtain ⟨rfl, hI⟩ := hI
      unfold m_g_slices_Compact_S_Pair_Pair_l0
      by_cases h1 : t + 1 < xs.length
      · have hp : ((t + 1 : Nat) : Int) - 1 = ((t : Nat) : Int) := by omega
        rw [lt_nat h1, if_pos rfl, getI_nat h1, wrapI (n := ((t + 1 : Nat) : Int) - 1) (by omega) (by omega), hp, getI_nat (show t < xs.length by omega)]
        simp only [Option.bind_some, eqB3]
        have hn := nub_take (xs := xs) (j := t + 1) (by omega) h1
        rw [hI] at hn
        simp only [Nat.add_sub_cancel] at hn
        by_cases he : xs[t + 1] = xs[t]
        · rw [if_pos (decide_eq_true he), chk_t (by omega), Option.bind_some]
          rw [if_pos he.symm] at hn
          have hlt : (xs.take (t + 1)).length = t + 1 := by rw [List.length_take]; omega
          obtain ⟨s, e1, ys, rfl, k1, k2, k3, k4⟩ := loopM_for (f := m_g_slices_Compact_S_Pair_Pair_l1 xs ((t + 1 : Nat) : Int)) (fun u s => ∃ ys : List Pr, s = (((nub (xs.take (t + 2 + u))).length : Int), ((u + 1 : Nat) : Int), ys) ∧ ys.length = xs.length ∧ ys.take (nub (xs.take (t + 2 + u))).length = nub (xs.take (t + 2 + u)) ∧ ys.drop (t + 1 + u) = xs.drop (t + 1 + u) ∧ (nub (xs.take (t + 2 + u))).length ≤ t + 1 + u) (xs.length - (t + 2)) (fun u s hu hI => by
            obtain ⟨ys, rfl, k1, k2, k3, k4⟩ := hI
            have hj : t + 2 + u < xs.length := by clear k4 k2; omega
            have hj1 : t + 1 + u < xs.length := by clear k4 k2; omega
            have hj2 : t + 2 + u < ys.length := by clear k4 k2; omega
            have hj3 : t + 1 + u < ys.length := by clear k4 k2; omega
            have a1 : (0 + ((t + 1 : Nat) : Int)) + ((u + 1 : Nat) : Int) = ((t + 2 + u : Nat) : Int) := by omega
            have a2 : ((u + 1 : Nat) : Int) - 1 = ((u : Nat) : Int) := by omega
            have a3 : (0 + ((t + 1 : Nat) : Int)) + ((u : Nat) : Int) = ((t + 1 + u : Nat) : Int) := by omega
            unfold m_g_slices_Compact_S_Pair_Pair_l1
            dsimp only
            rw [if_pos (by simp; omega), chk_t (by omega)]
            simp only [Option.bind_some]
            rw [wrapI (n := ((u + 1 : Nat) : Int) - 1) (by omega) (by omega), a1, a2, a3, getI_nat (xs := ys) hj2, getI_nat (xs := ys) hj3, chk_t (by omega), drop_get k3 (by omega) hj2 hj, drop_get k3 (Nat.le_refl _) hj3 hj1]
            simp only [Option.bind_some, eqB3, peta]
            have e9 : t + 2 + u - 1 = t + 1 + u := by clear k4 k2; omega
            have e8 : 0 < t + 2 + u := by clear k4 k2; omega
            have hnx := nub_take (xs := xs) (j := t + 2 + u) e8 hj
            simp only [e9] at hnx
            have hd := drop_next k3
            rw [show t + 1 + u + 1 = t + 1 + (u + 1) from by omega] at hd
            rw [show t + 2 + (u + 1) = t + 2 + u + 1 from by omega, hnx]
            generalize nub (xs.take (t + 2 + u)) = K at *
            by_cases hq : xs[t + 2 + u] = xs[t + 1 + u]
            · rw [if_pos (decide_eq_true hq), if_pos hq.symm]
              simp only [Option.bind_some]
              rw [wrap_succ (by omega)]
              exact ⟨_, rfl, ys, rfl, k1, k2, hd, by omega⟩
            · rw [if_neg (by simpa using hq), if_neg (fun e => hq e.symm), getI_nat (xs := ys) (show K.length < ys.length by omega)]
              simp only [Option.bind_some]
              rw [wrap_succ (by omega), wrap_succ (by omega)]
              refine ⟨_, rfl, ys.set K.length xs[t + 2 + u], ?_, by simpa using k1, ?_, ?_, ?_⟩
              · rw [List.length_append, List.length_singleton]; rfl
              · rw [List.length_append, List.length_singleton, set_take (by omega), k2]
              · rw [set_drop (by omega)]; exact hd
              · rw [List.length_append, List.length_singleton]; omega) (fun s hI => by
            obtain ⟨ys, rfl, k1, k2, k3, k4⟩ := hI
            unfold m_g_slices_Compact_S_Pair_Pair_l1
            rw [if_neg (by simp; omega)]) (s := (((t + 1 : Nat) : Int), 1, xs)) ⟨xs, by rw [Nat.add_zero, hn, hlt]; rfl, rfl, by rw [Nat.add_zero, hn, hlt], rfl, by rw [Nat.add_zero, hn, hlt]; omega⟩ (fuelUp _ (by omega))
          refine .inr ⟨.ret (nub xs), ?_, fun s' hh => (by simp at hh), .inl rfl⟩
          rw [bindL_brk e1]
          have hall : xs.take (t + 2 + (xs.length - (t + 2))) = xs := List.take_of_length_le (by omega)
          rw [hall] at k2 k4 ⊢
          generalize nub xs = K at *
          have q0 : K.length ≤ ys.length := by omega
          have z1 : ((0 : Int) + ((K.length : Nat) : Int)).toNat = K.length := by omega
          have z2 : ((0 : Int) + (((ys.length : Nat) : Int) - 0)).toNat = ys.length := by omega
          simp only [z1, z2]
          have zl := zeroM_len (z := ((0, 0) : Pr)) q0
          rw [chk_t (by omega), Option.bind_some, chk_t (by omega), Option.bind_some, chk_t (by rw [zl]; omega), Option.bind_some, take_zeroM q0, k2, List.drop_zero]
        · rw [if_neg (by simpa using he), wrap_succ (by omega)]
          rw [if_neg (fun e => he e.symm), ← List.take_succ_eq_append_getElem h1] at hn
          exact .inl ⟨by omega, _, rfl, rfl, hn⟩
      · refine .inr ⟨.brk ((t + 1 : Nat) : Int), ?_, fun s' hh => (by simp at hh), .inr ⟨_, rfl, ?_⟩⟩
        · rw [if_neg (by simp; omega)]
        · rw [List.take_of_length_le (by omega)] at hI; exact hI) (s := 1) ⟨rfl, nub_self 1 (by omega) (fun q h1 h0 => by omega)⟩ (fuelUp _ (by omega))
    rcases hQ with rfl | ⟨s, rfl, h⟩
    · exact .inl e
    · exact .inr ⟨s, e, h⟩
  rcases key with e | ⟨s, e, h⟩
  · rw [bindL_ret e]
  · rw [bindL_brk e, h]
def pset (l : List Pr) : List Pr := nub (R.sortP R.cmpP l)
theorem sort_nlt (l : List Pr) : (R.sortP R.cmpP l).Pairwise (fun a b => ¬ ltP b a) := by
  have hle : ∀ a b : Pr, (!(ltOf R.cmpP b a)) = true ↔ ¬ ltP b a := fun a b => by
    rw [Bool.not_eq_true', R.cmpP_nlt]; rfl
  have h := List.pairwise_mergeSort (le := fun x y => !(ltOf R.cmpP y x)) (fun a b c h1 h2 => by
    rw [hle] at *
    intro h
    unfold ltP at *
    omega) (fun a b => by
    rw [Bool.or_eq_true, hle, hle]
    unfold ltP
    omega) l
  exact h.imp fun {a b} h => (hle a b).1 h
theorem pset_str (l : List Pr) : Str (pset l) := nub_str (sort_nlt l)
theorem pset_mem {l : List Pr} {x : Pr} : x ∈ pset l ↔ x ∈ l := by
  unfold pset
  rw [nub_mem]
  exact List.mem_mergeSort
theorem pset_i (l : List Pr) (hl : l.length ≤ 268435456) : m_i_pairSet l = some (pset l) := by
  unfold m_i_pairSet m_g_slices_SortFunc_S_Pair_Pair R.sortM
  rw [appI_ok (by simp only [List.length_nil]; omega)]
  simp only [Option.bind_some, List.nil_append]
  rw [chk_t (by omega)]
  simp only [Option.bind_some]
  rw [compact_i _ (by rw [R.sortP_len]; omega)]
  rfl
theorem pset_puts (l : List Pr) : pset l = puts [] l := str_uniq (pset_str l) (puts_str List.Pairwise.nil) fun x => by rw [pset_mem, puts_mem]; simp
theorem sub_i {a b : List Pr} (ha : a.length ≤ 67108864) (hb : b.length ≤ 67108864) : m_i_SubtractPairs a b = some (puts [] (a.filter fun x => !decide (x ∈ b))) := by
  have hlen : (pset a).length ≤ a.length := by rw [pset_puts]; have := puts_len a []; simpa using this
  unfold m_i_SubtractPairs
  rw [pset_i a (by omega)]
  simp only [Option.bind_some]
  rw [del_i (d := fun x => decide (x ∈ b)) (fun x => by unfold m_i_SubtractPairs_1; rw [peta, has_i (by omega)]; rfl) _ (by omega)]
  simp only [Option.bind_some]
  congr 1
  refine str_uniq (filter_str (pset_str a)) (puts_str List.Pairwise.nil) fun x => ?_
  rw [puts_mem, List.mem_filter, List.mem_filter, pset_mem]; simp
theorem mer_i {a b : List Pr} (ha : a.length ≤ 67108864) (hb : b.length ≤ 67108864) : m_i_MergePairs a b = some (puts [] (a ++ b)) := by
  unfold m_i_MergePairs
  rw [appI_ok (by simp only [List.length_nil]; omega)]
  simp only [Option.bind_some, List.nil_append]
  rw [appI_ok (by omega)]
  simp only [Option.bind_some]
  rw [pset_i _ (by rw [List.length_append]; omega), pset_puts]; rfl
theorem are_tot (l : List Pr) (hl : l.length ≤ 1073741824) : ∃ b, m_i_ArePairs l = some b := by
  unfold m_i_ArePairs
  obtain ⟨o, e, hQ⟩ := loopM_go (f := m_i_ArePairs_l0 l) (fun i s => s = (i : Int)) (fun o => o = .ret false ∨ ∃ s, o = .brk s) l.length (fun i s hi hI => by
    subst hI
    unfold m_i_ArePairs_l0 m_i_within
    by_cases h1 : i < l.length
    · rw [lt_nat h1, if_pos rfl, getI_nat h1, wrap_succ (by omega)]
      have fin : ∀ c : Prop, [Decidable c] → (i < l.length ∧ ∃ s', (if c then some (.ret false) else some (.nxt ((i + 1 : Nat) : Int)) : Option (Out Bool Int)) = some (.nxt s') ∧ s' = ((i + 1 : Nat) : Int)) ∨ ∃ o, (if c then some (.ret false) else some (.nxt ((i + 1 : Nat) : Int)) : Option (Out Bool Int)) = some o ∧ (∀ s', o ≠ .nxt s') ∧ (o = .ret false ∨ ∃ s, o = .brk s) := by
        intro c _
        split
        · exact .inr ⟨_, rfl, fun s' h => by simp at h, .inl rfl⟩
        · exact .inl ⟨h1, _, rfl, rfl⟩
      have bad : (i < l.length ∧ ∃ s', (some (.ret false) : Option (Out Bool Int)) = some (.nxt s') ∧ s' = ((i + 1 : Nat) : Int)) ∨ ∃ o, (some (.ret false) : Option (Out Bool Int)) = some o ∧ (∀ s', o ≠ .nxt s') ∧ (o = .ret false ∨ ∃ s, o = .brk s) := .inr ⟨_, rfl, fun s' h => by simp at h, .inl rfl⟩
      have good : (i < l.length ∧ ∃ s', (some (.nxt ((i + 1 : Nat) : Int)) : Option (Out Bool Int)) = some (.nxt s') ∧ s' = ((i + 1 : Nat) : Int)) ∨ ∃ o, (some (.nxt ((i + 1 : Nat) : Int)) : Option (Out Bool Int)) = some o ∧ (∀ s', o ≠ .nxt s') ∧ (o = .ret false ∨ ∃ s, o = .brk s) := .inl ⟨h1, _, rfl, rfl⟩
      by_cases c1 : l[i].1 ≥ 0
      · by_cases c2 : l[i].1 ≤ 4
        · by_cases c3 : l[i].2 ≥ 0
          · by_cases c4 : l[i].2 ≤ 4
            · by_cases c5 : (i : Int) > 0
              · have hp : IntKind.i64.wrap ((i : Int) - 1) = ((i - 1 : Nat) : Int) := by rw [wrapI (by omega) (by omega)]; omega
                obtain ⟨r, er, -⟩ := cmp_i l[i - 1] l[i]
                simp only [Option.bind_some, c1, c2, c3, c4, c5, decide_true, if_true, hp, getI_nat (show i - 1 < l.length by omega), peta, er]
                exact fin _
              · simp only [Option.bind_some, c1, c2, c3, c4, c5, decide_true, if_true, decide_false, Bool.false_eq_true, if_false]
                exact good
            · simp only [Option.bind_some, c1, c2, c3, c4, decide_true, if_true, decide_false, Bool.false_eq_true, if_false]
              exact bad
          · simp only [Option.bind_some, c1, c2, c3, decide_true, if_true, decide_false, Bool.false_eq_true, if_false]
            exact bad
        · simp only [Option.bind_some, c1, c2, decide_true, if_true, decide_false, Bool.false_eq_true, if_false]
          exact bad
      · simp only [Option.bind_some, c1, decide_false, Bool.false_eq_true, if_false]
        exact bad
    · obtain rfl : i = l.length := by omega
      rw [lt_self]
      exact .inr ⟨_, rfl, fun s' h => by simp at h, .inr ⟨_, rfl⟩⟩) (s := 0) rfl (fuelUp _ (by omega))
  rcases hQ with rfl | ⟨s, rfl⟩
  · exact ⟨_, bindL_ret e⟩
  · exact ⟨_, bindL_brk e⟩
end Go.Proofs.Ytakjhbbbjbebdaa.D
/- ApplyDelta, ApplyMessage: both programs answer alike. -/
set_option linter.unusedVariables false
set_option linter.unusedSimpArgs false
set_option linter.unnecessarySimpa false
set_option linter.unusedSectionVars false
set_option synthInstance.maxSize 20000
set_option synthInstance.maxHeartbeats 2000000
namespace Go.Proofs.Ytakjhbbbjbebdaa.D
open Go.RowKit

abbrev PsT : Type := List (Int × Int)
theorem sm_prs {l : PsT} (h : l.length ≤ 1048576) : Data.sm l := ⟨h, fun _ _ => ⟨trivial, trivial⟩⟩
theorem all_go {R : Type} {f : Bool × Int → Option (Out R (Bool × Int))} {l : PsT} {d : Pr → Bool} {b0 : Bool} (hN : l.length ≤ 9223372036854775807) (h : ∀ b i (hi : i < l.length), f (b, (i : Int)) = some (.nxt (b && d l[i], ((i + 1 : Nat) : Int)))) (he : ∀ b, f (b, (l.length : Int)) = some (.brk (b, (l.length : Int)))) : loopM f FUEL (b0, 0) = some (.brk (b0 && l.all d, (l.length : Int))) := by
  obtain ⟨s, e, rfl⟩ := loopM_for (f := f) (fun i s => s = (b0 && (l.take i).all d, (i : Int))) l.length (fun i s hi hI => by
    subst hI
    refine ⟨_, h _ i hi, ?_⟩
    rw [List.take_succ_eq_append_getElem hi, List.all_append, Bool.and_assoc]; simp) (fun s hI => by
    subst hI
    rw [he]) (s := (b0, 0)) (by simp) (fuelUp _ hN)
  rw [e, List.take_of_length_le (Nat.le_refl _)]
theorem filt_len (l : List Pr) (f : Pr → Bool) : (puts [] (l.filter f)).length ≤ l.length := by
  have g1 := puts_len (l.filter f) []
  have g2 := List.length_filter_le f l
  rw [List.length_nil] at g1
  omega
theorem isDelta_both {d : PsT × PsT} (h1 : d.1.length ≤ 1048576) (h2 : d.2.length ≤ 1048576) : ∃ b, m_s_IsDelta d = some b ∧ m_i_IsDelta d = some b := by
  obtain ⟨b1, e1⟩ := are_tot d.1 (by omega)
  obtain ⟨b2, e2⟩ := are_tot d.2 (by omega)
  unfold m_s_IsDelta m_i_IsDelta
  rw [are_same, are_same, e1, e2, common_i (by omega) (by omega)]
  rcases find_go (f := m_s_IsDelta_l0 d) d.1 (fun x => decide (x ∈ d.2)) (fun _ => false) (by omega) (fun i hi => by
      unfold m_s_IsDelta_l0
      rw [lt_nat hi, if_pos rfl, getI_nat hi]
      simp only [Option.bind_some, peta]
      rw [has_s (by omega)]
      simp only [Option.bind_some, wrap_succ (show i < 9223372036854775807 by omega)]
      split <;> rfl) (by
      unfold m_s_IsDelta_l0
      rw [lt_self]; rfl) with ⟨i, hi, k1, -, e⟩ | ⟨k1, e⟩
  · rw [bindL_ret e]
    have hc : decide (∃ x, x ∈ d.1 ∧ x ∈ d.2) = true := decide_eq_true ⟨_, List.getElem_mem hi, of_decide_eq_true k1⟩
    rw [hc]
    refine ⟨false, rfl, ?_⟩
    cases b1 <;> cases b2 <;> rfl
  · rw [bindL_brk e]
    have hc : decide (∃ x, x ∈ d.1 ∧ x ∈ d.2) = false := decide_eq_false fun ⟨x, h3, h4⟩ => by have := k1 x h3; simp [h4] at this
    rw [hc]
    cases b1 <;> cases b2 <;> exact ⟨_, rfl, rfl⟩
theorem copy_i (l : PsT) (h : l.length ≤ 1048576) : m_i_copyPairs l = some l := by
  unfold m_i_copyPairs
  rw [appI_ok (by simp only [List.length_nil]; omega)]; rfl
theorem app_i (l : PsT) (h : l.length ≤ 1048576) : appI 16 ([] : PsT) l = some l := by
  rw [appI_ok (by simp only [List.length_nil]; omega)]; rfl
theorem applyDelta_both {l : PsT} {d : PsT × PsT} (hl : l.length ≤ 1048576) (h1 : d.1.length ≤ 1048576) (h2 : d.2.length ≤ 1048576) : ∃ x : PsT × Bool, m_s_ApplyDelta l d = some x ∧ m_i_ApplyDelta l d = some x ∧ x.1.length ≤ l.length + d.1.length := by
  obtain ⟨b, ds, di⟩ := isDelta_both h1 h2
  obtain ⟨c, ei⟩ := are_tot l (by omega)
  have es := are_same (l := l)
  rw [ei] at es
  unfold m_s_ApplyDelta m_i_ApplyDelta
  simp only [peta, ds, di, Option.bind_some, es, ei]
  rw [show ((if b = true then some c else some false : Option Bool).bind fun s1 => bindL (loopM (m_s_ApplyDelta_l0 l d) FUEL (s1, 0)) (fun r => some r) (fun s5 => bindL (loopM (m_s_ApplyDelta_l1 l d) FUEL (s5.1, 0)) (fun r => some r) (fun s9 => if s9.1 then ((m_s_SubtractPairs l d.2).bind fun r11 => (m_s_MergePairs r11 d.1).bind fun r12 => some (r12, true)) else ((appI 16 ([] : List (Int × Int)) l).bind fun z1 => some (z1, false))))) = bindL (loopM (m_s_ApplyDelta_l0 l d) FUEL (b && c, 0)) (fun r => some r) (fun s5 => bindL (loopM (m_s_ApplyDelta_l1 l d) FUEL (s5.1, 0)) (fun r => some r) (fun s9 => if s9.1 then ((m_s_SubtractPairs l d.2).bind fun r11 => (m_s_MergePairs r11 d.1).bind fun r12 => some (r12, true)) else ((appI 16 ([] : List (Int × Int)) l).bind fun z1 => some (z1, false)))) from by cases b <;> rfl]
  have L0 := all_go (f := m_s_ApplyDelta_l0 l d) (l := d.1) (d := fun x => !decide (x ∈ l)) (b0 := b && c) (by omega) (fun b i hi => by
    unfold m_s_ApplyDelta_l0
    rw [lt_nat hi, if_pos rfl]
    cases b with
    | true =>
      rw [if_pos rfl, getI_nat hi]
      simp only [Option.bind_some, peta]
      rw [has_s (by omega)]
      simp only [Option.bind_some, Bool.true_and, wrap_succ (show i < 9223372036854775807 by omega)]
    | false => rw [if_neg (by simp), wrap_succ (by omega), Bool.false_and]) (fun b => by
    unfold m_s_ApplyDelta_l0
    rw [lt_self]; rfl)
  rw [bindL_brk L0]
  have L1 := all_go (f := m_s_ApplyDelta_l1 l d) (l := d.2) (d := fun x => decide (x ∈ l)) (b0 := (b && c) && d.1.all fun x => !decide (x ∈ l)) (by omega) (fun b i hi => by
    unfold m_s_ApplyDelta_l1
    rw [lt_nat hi, if_pos rfl]
    cases b with
    | true =>
      rw [if_pos rfl, getI_nat hi]
      simp only [Option.bind_some, peta]
      rw [has_s (by omega)]
      simp only [Option.bind_some, Bool.true_and, wrap_succ (show i < 9223372036854775807 by omega)]
    | false => rw [if_neg (by simp), wrap_succ (by omega), Bool.false_and]) (fun b => by
    unfold m_s_ApplyDelta_l1
    rw [lt_self]; rfl)
  rw [bindL_brk L1]
  simp only [copy_i l hl, app_i l hl, Option.bind_some, common_i (l := l) (m := d.1) (by omega) (by omega), sub_i (a := d.2) (b := l) (by omega) (by omega), subtract_s (a := l) (b := d.2) (by omega) (by omega), sub_i (a := l) (b := d.2) (by omega) (by omega)]
  have hK0 := filt_len l (fun x => !decide (x ∈ d.2))
  have hK : (puts [] (l.filter fun x => !decide (x ∈ d.2))).length ≤ 1048576 := Nat.le_trans hK0 hl
  rw [merge_s (by omega) (by omega), mer_i (by omega) (by omega)]
  have hM : (puts [] (puts [] (l.filter fun x => !decide (x ∈ d.2)) ++ d.1)).length ≤ l.length + d.1.length := by
    have g1 := puts_len (puts [] (l.filter fun x => !decide (x ∈ d.2)) ++ d.1) []
    rw [List.length_nil, List.length_append] at g1
    omega
  simp only [Option.bind_some]
  cases b with
  | false => exact ⟨(l, false), rfl, rfl, by show l.length ≤ _; omega⟩
  | true =>
    cases c with
    | false => exact ⟨(l, false), rfl, rfl, by show l.length ≤ _; omega⟩
    | true =>
      simp only [Bool.true_and, if_true]
      by_cases hc : ∃ x, x ∈ l ∧ x ∈ d.1
      · have ha : (d.1.all fun x => !decide (x ∈ l)) = false := by
          obtain ⟨x, h3, h4⟩ := hc
          rw [List.all_eq_false]
          exact ⟨x, h4, by simp [h3]⟩
        rw [ha, decide_eq_true hc]
        exact ⟨(l, false), rfl, rfl, by show l.length ≤ _; omega⟩
      · have ha : (d.1.all fun x => !decide (x ∈ l)) = true := by
          rw [List.all_eq_true]
          intro x hx
          have : x ∉ l := fun h => hc ⟨x, h, hx⟩
          simp [this]
        rw [ha, decide_eq_false hc]
        simp only [Bool.true_and, Bool.false_eq_true, if_false]
        by_cases hr : ∀ x, x ∈ d.2 → x ∈ l
        · have h5 : (d.2.all fun x => decide (x ∈ l)) = true := by
            rw [List.all_eq_true]; exact fun x hx => decide_eq_true (hr x hx)
          have h6 : (d.2.filter fun x => !decide (x ∈ l)) = [] := by
            rw [List.filter_eq_nil_iff]
            intro x hx
            simp [hr x hx]
          rw [h5, h6]
          exact ⟨_, rfl, rfl, hM⟩
        · have h5 : (d.2.all fun x => decide (x ∈ l)) = false := by
            rw [List.all_eq_false]
            have : ∃ x, x ∈ d.2 ∧ x ∉ l := Classical.byContradiction fun h => hr fun x hx => Classical.byContradiction fun hn => h ⟨x, hx, hn⟩
            obtain ⟨x, h3, h4⟩ := this
            exact ⟨x, h3, by simp [h4]⟩
          have h6 : ¬ (puts [] (d.2.filter fun x => !decide (x ∈ l))).length = 0 := fun h0 => hr fun x hx => Classical.byContradiction fun hn => by
            have hm : x ∈ puts [] (d.2.filter fun x => !decide (x ∈ l)) := puts_mem.2 (.inr (List.mem_filter.2 ⟨hx, by simp [hn]⟩))
            rw [List.eq_nil_of_length_eq_zero h0] at hm
            cases hm
          rw [h5, if_neg (by simp), if_pos (decide_eq_true (by omega))]
          exact ⟨(l, false), rfl, rfl, by show l.length ≤ _; omega⟩
abbrev MsT : Type := Int × Bool × (PsT × PsT)
theorem message_both {l : PsT} {m : MsT} (hl : l.length ≤ 1048576) (h1 : m.2.2.1.length ≤ 1048576) (h2 : m.2.2.2.length ≤ 1048576) : ∃ x : PsT × Bool, m_s_ApplyMessage l m = some x ∧ m_i_ApplyMessage l m = some x ∧ x.1.length ≤ l.length + m.2.2.1.length := by
  obtain ⟨x, d1, d2, d3⟩ := applyDelta_both (l := l) (d := m.2.2) hl h1 h2
  obtain ⟨c, ei⟩ := are_tot m.2.2.1 (by omega)
  have es := are_same (l := m.2.2.1)
  rw [ei] at es
  unfold m_s_ApplyMessage m_i_ApplyMessage
  simp only [peta, d1, d2, es, ei, copy_i l hl, app_i l hl, copy_i m.2.2.1 h1, app_i m.2.2.1 h1, Option.bind_some]
  split
  · split
    · split
      · exact ⟨_, rfl, rfl, by show l.length ≤ _; omega⟩
      · exact ⟨_, rfl, rfl, by show m.2.2.1.length ≤ _; omega⟩
    · exact ⟨_, rfl, rfl, by show l.length ≤ _; omega⟩
  · exact ⟨_, rfl, rfl, d3⟩
theorem sz_prs {x : PsT} {l : Int} (hx : Data.lim x) (h0 : 0 ≤ l) (h1 : l ≤ 1048576) : m_w_szPairS x l = some (if l < (x.length : Int) then -1 else l - (x.length : Int)) := by
  have := (lim_list hx).1
  unfold m_w_szPairS
  rw [wrapI (by omega) (by omega)]
  by_cases h : l < (x.length : Int)
  · rw [if_pos (decide_eq_true (by omega)), if_pos h]
  · rw [if_neg (by simp; omega), if_neg h]
theorem sz_msg {x : MsT} {l : Int} (hx : Data.lim x) (h0 : 0 ≤ l) (h1 : l ≤ 1048576) : ∃ r, m_w_szMessage x l = some r ∧ (r < 0 ∨ (0 ≤ r ∧ (x.2.2.1.length : Int) + (x.2.2.2.length : Int) ≤ l)) := by
  obtain ⟨-, -, hx1, hx2⟩ := hx
  unfold m_w_szMessage m_w_szDelta
  simp only [peta]
  rw [sz_prs hx1 h0 h1]
  simp only [Option.bind_some]
  by_cases h : l < (x.2.2.1.length : Int)
  · rw [if_pos h]; exact ⟨-1, rfl, .inl (by decide)⟩
  · rw [if_neg h, if_neg (by simp; omega), sz_prs hx2 (by omega) (by omega)]
    simp only [Option.bind_some]
    by_cases k : l - (x.2.2.1.length : Int) < (x.2.2.2.length : Int)
    · rw [if_pos k]; exact ⟨-1, rfl, .inl (by decide)⟩
    · rw [if_neg k, if_neg (by simp; omega)]
      simp only [Option.bind_some]
      rw [if_neg (by simp; omega)]
      exact ⟨_, rfl, .inr ⟨by omega, by omega⟩⟩
end Go.Proofs.Ytakjhbbbjbebdaa.D
/- The plain law of ApplyMessage. -/
set_option linter.unusedVariables false
set_option linter.unusedSimpArgs false
set_option linter.unnecessarySimpa false
set_option linter.unusedSectionVars false
set_option synthInstance.maxSize 20000
set_option synthInstance.maxHeartbeats 2000000
namespace Go.Proofs.Ytakjhbbbjbebdaa.D
open Go.RowKit

theorem lawApplyMessage (l : PsT) (m : MsT) (hl : Data.lim l) (hm : Data.lim m) : m_w_FnExactApplyMessage l m = some true := by
  unfold m_w_FnExactApplyMessage
  simp only [peta]
  rw [sz_prs hl (by decide) (by decide)]; simp only [Option.bind_some]
  by_cases h0 : (1048576 : Int) < (l.length : Int)
  · rw [if_pos h0]; rfl
  rw [if_neg h0, if_neg (by simp; omega)]
  obtain ⟨r, e2, k2⟩ := sz_msg (x := m) (l := 1048576 - (l.length : Int)) hm (by omega) (by omega)
  rw [e2]; simp only [Option.bind_some]
  rcases k2 with k2 | ⟨k2, j2⟩
  · rw [if_pos (decide_eq_true k2)]
  rw [if_neg (by simpa using k2)]
  have sl : Data.sm l := sm_prs (by omega)
  have sm : Data.sm m := ⟨trivial, trivial, sm_prs (by omega), sm_prs (by omega)⟩
  obtain ⟨x, es, ei, hx⟩ := message_both (l := l) (m := m) (by omega) (by omega) (by omega)
  have sx : Data.sm x.1 := sm_prs (by omega)
  have b1 := cb_PairS l sl
  have b2 := nb_Message m sm
  have b3 := cb_PairS x.1 sx
  have em1 : m_w_markPairS l 1 = _ := mk_PairS l sl (k := 1) (by omega)
  have em2 := mk_Message m sm (k := 1 + smk c_PairS l) (by omega)
  have em3 : m_w_markPairS x.1 1 = _ := mk_PairS x.1 sx (k := 1) (by omega)
  have eh3 : m_w_heldPairS (mkd c_PairS e_PairS x.1 1) 1 = _ := hd_PairS x.1 sx (k := 1) (by omega)
  simp only [t_toPairS l sl, t_toMessage m sm, es, ei, q_eqPairS x.1 x.1 sx sx, q_eqPairS l l sl sl, q_eqMessage m m sm sm, Option.bind_some, peta, em1, em2, em3, eh3, decide_true, if_true, ltzM, bne_self_eq_false, Bool.false_eq_true, if_false]
end Go.Proofs.Ytakjhbbbjbebdaa.D
/- From 'the call returns true and changes nothing that was there' to the row's own post, whatever the arguments' types. -/
set_option linter.unusedVariables false
set_option linter.unusedSimpArgs false
namespace Go.Proofs.Ytakjhbbbjbebdaa
open Go.ChangeShapes Go.WideShapes Go.ChangeAt Go.RowKit
theorem own : ownKnob Try.prog.godebug = none := by kernel_rfl
theorem laidOut : laidOutB Try.prog = true := by kernel_rfl
theorem below_trodAll {H : Type} {enc : TypeId × Value → H} {P : Program} (hl : laidOutB P = true) {W W' : World} (hb : Below W.heap.size W W') :
    ∀ {ts : List TypeId} {vs : List Value} {ds : List (DataW H)} {ps : List MemPlace}, (∀ t ∈ ts, P.readableRec t = true ∧ t < P.types.size) →
      DataW.TrodAll enc P W 0 (fun _ => true) true ts vs ds ps → (∀ x ∈ ps, x.block < W.heap.size) → DataW.TrodAll enc P W' 0 (fun b => decide (b < W.heap.size)) true ts vs ds ps
  | [], [], [], ps, _, h, _ => h
  | t :: ts, v :: vs, d :: ds, ps, hr, ⟨p, q, h1, h2, h3⟩, hlt => by
    subst h3
    exact ⟨p, q, Below.trod hl (hr t (by simp)).1 (hr t (by simp)).2 h1 hb fun x hx => hlt x (by simp [hx]), below_trodAll hl hb (fun t ht => hr t (by simp [ht])) h2 fun x hx => hlt x (by simp [hx]), rfl⟩
  | [], _ :: _, _, _, _, h, _ => h.elim
  | [], [], _ :: _, _, _, h, _ => h.elim
  | _ :: _, [], _, _, _, h, _ => h.elim
  | _ :: _, _ :: _, [], _, _, h, _ => h.elim
theorem law_post {H : Type} {enc : TypeId × Value → H} {f : Func} {s : ChangeSpec} {W W' : World} {args : Array Value} {ds : List (DataW H)} {before : List MemPlace} (tb : TypeId)
    (hb : Try.prog.underlying tb = some .bool) (hr : f.resultTypes = #[tb]) (hp : (f.params.toList.all fun t => Try.prog.readableRec t && decide (t < Try.prog.types.size)) = true) (hv : s.vars = [])
    (hW : DataW.Whole enc Try.prog f.params.toList s.vars false W args.toList ds [] before) (hres : (s.fn H (ds ++ [])).results = [.lit (.bool true)]) (hargs : (s.fn H (ds ++ [])).args = ds) (hvars : (s.fn H (ds ++ [])).vars = [])
    (hbel : Below W.heap.size W W') : s.post enc Try.prog f false true false false W args (.bool true) W' := by
  obtain ⟨p, q, h1, h2, h3, h4, h5⟩ := hW
  have hW' : DataW.Whole enc Try.prog f.params.toList s.vars false W args.toList ds [] before := ⟨p, q, h1, h2, h3, h4, h5⟩
  have hq : q = [] := by rw [hv] at h2; exact h2
  subst hq
  simp only [List.append_nil] at h3
  subst h3
  refine ⟨ds, [], before, [], before, [], hW', ?_, ?_, ?_, hbel.frame _, fun h => by cases h⟩
  · rw [hres, hr]
    exact trodAll_mk1 (shut_bool hb true)
  · rw [hargs]
    exact below_trodAll laidOut hbel (fun t ht => by have := List.all_eq_true.1 hp t ht; simpa using this) h1 fun x hx => by simpa using hW'.lt x hx
  · rw [hvars, hv]; rfl
end Go.Proofs.Ytakjhbbbjbebdaa
/- FnExactApplyMessage: for every input the law returns true and changes nothing that was there. (Printed by genrow.py over the walk and the plain law.) -/
set_option linter.unusedVariables false
set_option linter.unusedSimpArgs false
set_option linter.unnecessarySimpa false
set_option maxRecDepth 100000
namespace Go.Proofs.Ytakjhbbbjbebdaa
open Go.ChangeShapes Go.WideShapes Go.ChangeAt Go.RowKit
namespace D
theorem op3 : Opens Try.prog 3 rInt := opens_int Try.underlying3
theorem op49 : Opens Try.prog 49 (rProd rInt rInt) := by
  refine opens_struct Try.underlying49 (by kernel_rfl) ?_
  refine opens_next (R := rInt) (S := rInt) rfl (by kernel_rfl) op3 ?_
  exact opens_last rfl (by kernel_rfl) op3
theorem op22 : Opens Try.prog 22 (rSlice 49 (rProd rInt rInt)) := opens_slice Try.underlying22 (by kernel_rfl) (by decide) op49
theorem rdL22 {W : World} {base : Nat} {z : Value} {H : Type} {enc : TypeId × Value → H} {d : DataW H} {p : List MemPlace} (hv : Value.okWide Try.prog W .any base 22 z) (h : DataW.Trod enc Try.prog W 0 (fun _ => true) true 22 z d p) :
    ∃ (x : List (Int × Int)) (v0 : Value), z = v0 ∧ Data.lim x ∧ (rSlice 49 (rProd rInt rInt)).rd (hp W) [v0] x := by
  obtain ⟨fuel, hf⟩ := h
  obtain ⟨a, l, c, rfl⟩ := okWide_slice Try.underlying22 hv
  obtain ⟨x, hx, hl⟩ := op22.out enc W _ _ _ hf
  exact ⟨x, _, rfl, hl, hx⟩
theorem op4 : Opens Try.prog 4 rBool := opens_bool Try.underlying4
theorem op24 : Opens Try.prog 24 (rProd (rSlice 49 (rProd rInt rInt)) (rSlice 49 (rProd rInt rInt))) := by
  refine opens_struct Try.underlying24 (by kernel_rfl) ?_
  refine opens_next (R := rSlice 49 (rProd rInt rInt)) (S := rSlice 49 (rProd rInt rInt)) rfl (by kernel_rfl) op22 ?_
  exact opens_last rfl (by kernel_rfl) op22
theorem op26 : Opens Try.prog 26 (rProd rInt (rProd rBool (rProd (rSlice 49 (rProd rInt rInt)) (rSlice 49 (rProd rInt rInt))))) := by
  refine opens_struct Try.underlying26 (by kernel_rfl) ?_
  refine opens_next (R := rInt) (S := rProd (rBool) (rProd (rSlice 49 (rProd rInt rInt)) (rSlice 49 (rProd rInt rInt)))) rfl (by kernel_rfl) op3 ?_
  refine opens_next (R := rBool) (S := rProd (rSlice 49 (rProd rInt rInt)) (rSlice 49 (rProd rInt rInt))) rfl (by kernel_rfl) op4 ?_
  exact opens_last rfl (by kernel_rfl) op24
theorem rdL26 {W : World} {base : Nat} {z : Value} {H : Type} {enc : TypeId × Value → H} {d : DataW H} {p : List MemPlace} (hv : Value.okWide Try.prog W .any base 26 z) (h : DataW.Trod enc Try.prog W 0 (fun _ => true) true 26 z d p) :
    ∃ (x : Int × Bool × ((List (Int × Int)) × (List (Int × Int)))) (v0 : Value) (v1 : Value), z = .agg #[.int .i64 x.1, .bool x.2.1, v0, v1] ∧ Data.lim x ∧ (rSlice 49 (rProd rInt rInt)).rd (hp W) [v0] x.2.2.1 ∧ (rSlice 49 (rProd rInt rInt)).rd (hp W) [v1] x.2.2.2 := by
  obtain ⟨fuel, hf⟩ := h
  obtain ⟨⟨cs⟩, rfl, -⟩ := okWide_struct Try.underlying26 hv
  obtain ⟨x, hx, hl⟩ := op26.out enc W _ _ _ hf
  have hx : (rProd rInt (rProd rBool (rProd (rSlice 49 (rProd rInt rInt)) (rSlice 49 (rProd rInt rInt))))).rd (hp W) cs x := hx
  obtain ⟨_, _, rfl, rfl, ⟨_, _, rfl, rfl, ⟨_, _, rfl, r0, r1⟩⟩⟩ := hx
  obtain ⟨v0, rfl⟩ := one_cell r0 rfl
  obtain ⟨v1, rfl⟩ := one_cell r1 rfl
  exact ⟨x, v0, v1, rfl, hl, r0, r1⟩
end D
open D (Data)
theorem rowLApplyMessage (W : World) (args : Array Value) (H : Type) (enc : TypeId × Value → H) (base : Nat) (ds gs : List (DataW H)) (before : List MemPlace)
    (hval : ∀ (j : Nat) t v, Try.f3.params[j]? = some t → args[j]? = some v → Value.okWide Try.prog W .any base t v)
    (hW : DataW.Whole enc Try.prog Try.f3.params.toList Rows.fnExactApplyMessageSpec.vars false W args.toList ds gs before) :
    Calls Try.prog 3 args W fun e W' => ∃ v, e = .returned v ∧ Rows.fnExactApplyMessageSpec.post enc Try.prog Try.f3 false true false false W args v W' := by
  have hW' := hW
  obtain ⟨p, q, hA, hV, rfl, hfz, hnd⟩ := hW
  rw [Try.params3] at hA hval
  obtain ⟨z0, vs0, d0, ds0, p0, q0, hargs, rfl, rfl, h0, r0⟩ := trodAll_cons hA
  obtain ⟨z1, vs1, d1, ds1, p1, q1, rfl, rfl, rfl, h1, r1⟩ := trodAll_cons r0
  obtain ⟨rfl, rfl, rfl⟩ := trodAll_nil r1
  obtain rfl : args = #[z0, z1] := by cases args; simp_all
  obtain ⟨rfl, rfl⟩ := trodVars_none hV
  obtain ⟨x0, v0_0, rfl, l0, r0_0⟩ := D.rdL22 (hval 0 _ _ rfl rfl) h0
  obtain ⟨x1, v1_0, v1_1, rfl, l1, r1_0, r1_1⟩ := D.rdL26 (hval 1 _ _ rfl rfl) h1
  have hc := D.c_w_FnExactApplyMessage x0 x1 true (D.lawApplyMessage x0 x1 l0 l1) (I := D.hp W) (w0 := W) z0 v1_0 v1_1 r0_0 r1_0 r1_1 W [] (D.St.init W)
  refine hc.mono fun e W' ⟨v, he, hv, hs⟩ => ?_
  subst he; subst hv
  exact ⟨_, rfl, law_post (f := Try.f3) (s := Rows.fnExactApplyMessageSpec) 4 Try.underlying4 rfl (by kernel_rfl) rfl hW' rfl rfl rfl (D.St.below hs)⟩
theorem liftedLApplyMessage (os : Os) (started : os.Started) (H : Type) (enc : TypeId × Value → H) :
    ReturnsInHanded {} Try.checked os 3 .any (Rows.fnExactApplyMessageSpec.pre6 enc Try.prog Try.f3 Rows.fnExactApplyMessageRow.domain false) (Rows.fnExactApplyMessageSpec.post enc Try.prog Try.f3 false true false false) := by
  refine returnsInHanded_of_change_sized (C := Try.checked) own started (by kernel_rfl) Try.func3
    (ChangeSpec.witness6 (enc := enc) (C := Try.checked) false ⟨#[], #[.slice none 0 0, .agg #[.int .i64 0, .bool false, .slice none 0 0, .slice none 0 0]], []⟩ 8 (by kernel_rfl) (by kernel_rfl) (by kernel_rfl) (by kernel_rfl)) ?_
  intro W base args ds gs before hval hW hcnd hsz _
  exact rowLApplyMessage W args H enc base ds gs before hval hW
theorem holdsLApplyMessage : Rows.FnExactApplyMessageSaid :=
  OpenClaim.holds_of_wide 3 Try.f3 rfl rfl rfl rfl rfl rfl rfl ⟨rfl, rfl, rfl, rfl, rfl⟩ rfl rfl rfl rfl rfl (by kernel_rfl) Try.func3 (by kernel_rfl)
    (of_decide_eq_true (by kernel_rfl)) (by unfold Func.isWrapper; first | (rw [if_pos (by decide +kernel)]; kernel_rfl) | (rw [if_neg (by decide +kernel)]; exact ⟨rfl, rfl⟩))
    (fun os started H enc _ => liftedLApplyMessage os started H enc)
end Go.Proofs.Ytakjhbbbjbebdaa
