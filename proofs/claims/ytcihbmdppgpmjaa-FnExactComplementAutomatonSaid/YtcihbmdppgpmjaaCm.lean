/- Printed by dec.py: models of functions and the walks that show them. -/
import Derived.Test.YtcihbmdppgpmjaaSub
set_option linter.unusedVariables false
set_option linter.unusedSimpArgs false
set_option linter.unnecessarySimpa false
set_option maxRecDepth 100000
set_option maxHeartbeats 8000000
namespace Go.Proofs.Ytcihbmdppgpmjaa.D
open Go.RowKit
def m_w_szBoolS (p0a : List Bool) (p1left : Int) : Option Int :=
  if decide (IntKind.i64.wrap (p1left - (p0a.length : Int)) < 0) then (some (-1)) else (some (IntKind.i64.wrap (p1left - (p0a.length : Int))))
def m_w_szIntS (p0a : List Int) (p1left : Int) : Option Int :=
  if decide (IntKind.i64.wrap (p1left - (p0a.length : Int)) < 0) then (some (-1)) else (some (IntKind.i64.wrap (p1left - (p0a.length : Int))))
def m_w_szIntSS_l0 (p0a : List (List Int)) (s3 : Int × Int) : Option (Out Int (Int × Int)) :=
  if decide (s3.2 < (p0a.length : Int)) then ((getI p0a s3.2).bind fun x3 => (m_w_szIntS x3 s3.1).bind fun r6 => if decide (r6 < 0) then (some (.ret (-1))) else (some (.nxt (r6, IntKind.i64.wrap (s3.2 + 1))))) else (some (.brk (s3.1, s3.2)))
def m_w_szIntSS (p0a : List (List Int)) (p1left : Int) : Option Int :=
  if decide (IntKind.i64.wrap (p1left - (p0a.length : Int)) < 0) then (some (-1)) else (bindL (loopM (m_w_szIntSS_l0 p0a) FUEL (IntKind.i64.wrap (p1left - (p0a.length : Int)), 0)) (fun r => some r) (fun s4 => some s4.1))
def m_w_szAutomaton (p0a : Int × (List Bool) × (List (List Int))) (p1left : Int) : Option Int :=
  (m_w_szBoolS p0a.2.1 p1left).bind fun r1 => if decide (r1 < 0) then (some (-1)) else ((m_w_szIntSS p0a.2.2 r1).bind fun r2 => if decide (r2 < 0) then (some (-1)) else (some r2))
def m_w_toBoolS_l0 (p0a : List Bool) (s3 : (List Bool) × Int) : Option (Out (List Bool) ((List Bool) × Int)) :=
  if decide (s3.2 < (p0a.length : Int)) then ((getI p0a s3.2).bind fun x6 => (getI s3.1 s3.2).bind fun x7 => some (.nxt (s3.1.set s3.2.toNat x6, IntKind.i64.wrap (s3.2 + 1)))) else (some (.brk (s3.1, s3.2)))
def m_w_toBoolS (p0a : List Bool) : Option (List Bool) :=
  (mkI 1 (p0a.length : Int) (false : Bool)).bind fun x1 => bindL (loopM (m_w_toBoolS_l0 p0a) FUEL (x1, 0)) (fun _ => none) (fun s4 => some s4.1)
def m_w_toIntS_l0 (p0a : List Int) (s3 : (List Int) × Int) : Option (Out (List Int) ((List Int) × Int)) :=
  if decide (s3.2 < (p0a.length : Int)) then ((getI p0a s3.2).bind fun x6 => (getI s3.1 s3.2).bind fun x7 => some (.nxt (s3.1.set s3.2.toNat x6, IntKind.i64.wrap (s3.2 + 1)))) else (some (.brk (s3.1, s3.2)))
def m_w_toIntS (p0a : List Int) : Option (List Int) :=
  (mkI 8 (p0a.length : Int) (0 : Int)).bind fun x1 => bindL (loopM (m_w_toIntS_l0 p0a) FUEL (x1, 0)) (fun _ => none) (fun s4 => some s4.1)
def m_w_toIntSS_l0 (p0a : List (List Int)) (s3 : (List (List Int)) × Int) : Option (Out (List (List Int)) ((List (List Int)) × Int)) :=
  if decide (s3.2 < (p0a.length : Int)) then ((getI p0a s3.2).bind fun x6 => (m_w_toIntS x6).bind fun r6 => (getI s3.1 s3.2).bind fun x7 => some (.nxt (s3.1.set s3.2.toNat r6, IntKind.i64.wrap (s3.2 + 1)))) else (some (.brk (s3.1, s3.2)))
def m_w_toIntSS (p0a : List (List Int)) : Option (List (List Int)) :=
  (mkI 24 (p0a.length : Int) ([] : List Int)).bind fun x1 => bindL (loopM (m_w_toIntSS_l0 p0a) FUEL (x1, 0)) (fun _ => none) (fun s4 => some s4.1)
def m_w_toAutomaton (p0a : Int × (List Bool) × (List (List Int))) : Option (Int × (List Bool) × (List (List Int))) :=
  (m_w_toBoolS p0a.2.1).bind fun r1 => (m_w_toIntSS p0a.2.2).bind fun r2 => some (p0a.1, r1, r2)
def m_w_eqBoolS_l0 (p0a : List Bool) (p1b : List Bool) (s3 : Int) : Option (Out Bool Int) :=
  if decide (s3 < (p0a.length : Int)) then ((getI p0a s3).bind fun x5 => (getI p1b s3).bind fun x6 => if x5 != x6 then (some (.ret false)) else (some (.nxt (IntKind.i64.wrap (s3 + 1))))) else (some (.brk s3))
def m_w_eqBoolS (p0a : List Bool) (p1b : List Bool) : Option Bool :=
  if (p0a.length : Int) != (p1b.length : Int) then (some false) else (bindL (loopM (m_w_eqBoolS_l0 p0a p1b) FUEL 0) (fun r => some r) (fun s4 => some true))
def m_w_eqIntS_l0 (p0a : List Int) (p1b : List Int) (s3 : Int) : Option (Out Bool Int) :=
  if decide (s3 < (p0a.length : Int)) then ((getI p0a s3).bind fun x5 => (getI p1b s3).bind fun x6 => if x5 != x6 then (some (.ret false)) else (some (.nxt (IntKind.i64.wrap (s3 + 1))))) else (some (.brk s3))
def m_w_eqIntS (p0a : List Int) (p1b : List Int) : Option Bool :=
  if (p0a.length : Int) != (p1b.length : Int) then (some false) else (bindL (loopM (m_w_eqIntS_l0 p0a p1b) FUEL 0) (fun r => some r) (fun s4 => some true))
def m_w_eqIntSS_l0 (p0a : List (List Int)) (p1b : List (List Int)) (s3 : Int) : Option (Out Bool Int) :=
  if decide (s3 < (p0a.length : Int)) then ((getI p0a s3).bind fun x5 => (getI p1b s3).bind fun x6 => (m_w_eqIntS x5 x6).bind fun r9 => if r9 then (some (.nxt (IntKind.i64.wrap (s3 + 1)))) else (some (.ret false))) else (some (.brk s3))
def m_w_eqIntSS (p0a : List (List Int)) (p1b : List (List Int)) : Option Bool :=
  if (p0a.length : Int) != (p1b.length : Int) then (some false) else (bindL (loopM (m_w_eqIntSS_l0 p0a p1b) FUEL 0) (fun r => some r) (fun s4 => some true))
def m_w_eqAutomaton (p0a : Int × (List Bool) × (List (List Int))) (p1b : Int × (List Bool) × (List (List Int))) : Option Bool :=
  if p0a.1 != p1b.1 then (some false) else ((m_w_eqBoolS p0a.2.1 p1b.2.1).bind fun r1 => if r1 then ((m_w_eqIntSS p0a.2.2 p1b.2.2).bind fun r2 => if r2 then (some true) else (some false)) else (some false))
def m_w_markBoolS_l0 (s3 : (List Bool) × Int × Int) : Option (Out (Int × (List Bool)) ((List Bool) × Int × Int)) :=
  if decide (s3.2.2 < (s3.1.length : Int)) then ((getI s3.1 s3.2.2).bind fun x3 => some (.nxt (s3.1.set s3.2.2.toNat ((Int.tmod s3.2.1 3) == 0), IntKind.i64.wrap (s3.2.1 + 1), IntKind.i64.wrap (s3.2.2 + 1)))) else (some (.brk (s3.1, s3.2.1, s3.2.2)))
def m_w_markBoolS (p0a : List Bool) (p1k : Int) : Option (Int × (List Bool)) :=
  bindL (loopM (m_w_markBoolS_l0) FUEL (p0a, p1k, 0)) (fun _ => none) (fun s4 => some (s4.2.1, s4.1))
def m_w_markIntS_l0 (s3 : (List Int) × Int × Int) : Option (Out (Int × (List Int)) ((List Int) × Int × Int)) :=
  if decide (s3.2.2 < (s3.1.length : Int)) then ((getI s3.1 s3.2.2).bind fun x3 => some (.nxt (s3.1.set s3.2.2.toNat s3.2.1, IntKind.i64.wrap (s3.2.1 + 1), IntKind.i64.wrap (s3.2.2 + 1)))) else (some (.brk (s3.1, s3.2.1, s3.2.2)))
def m_w_markIntS (p0a : List Int) (p1k : Int) : Option (Int × (List Int)) :=
  bindL (loopM (m_w_markIntS_l0) FUEL (p0a, p1k, 0)) (fun _ => none) (fun s4 => some (s4.2.1, s4.1))
def m_w_markIntSS_l0 (s3 : (List (List Int)) × Int × Int) : Option (Out (Int × (List (List Int))) ((List (List Int)) × Int × Int)) :=
  if decide (s3.2.2 < (s3.1.length : Int)) then ((getI s3.1 s3.2.2).bind fun x3 => (m_w_markIntS x3 s3.2.1).bind fun r6 => some (.nxt (s3.1.set s3.2.2.toNat r6.2, r6.1, IntKind.i64.wrap (s3.2.2 + 1)))) else (some (.brk (s3.1, s3.2.1, s3.2.2)))
def m_w_markIntSS (p0a : List (List Int)) (p1k : Int) : Option (Int × (List (List Int))) :=
  bindL (loopM (m_w_markIntSS_l0) FUEL (p0a, p1k, 0)) (fun _ => none) (fun s4 => some (s4.2.1, s4.1))
def m_w_markAutomaton (p0a : Int × (List Bool) × (List (List Int))) (p1k : Int) : Option (Int × (List Bool) × (List (List Int))) :=
  (m_w_markBoolS p0a.2.1 p1k).bind fun r1 => (m_w_markIntSS p0a.2.2 r1.1).bind fun r2 => some (r2.1, r1.2, r2.2)
def m_w_heldBoolS_l0 (p0a : List Bool) (s3 : Int × Int) : Option (Out Int (Int × Int)) :=
  if decide (s3.2 < (p0a.length : Int)) then ((getI p0a s3.2).bind fun x3 => if x3 != ((Int.tmod s3.1 3) == 0) then (some (.ret (-1))) else (some (.nxt (IntKind.i64.wrap (s3.1 + 1), IntKind.i64.wrap (s3.2 + 1))))) else (some (.brk (s3.1, s3.2)))
def m_w_heldBoolS (p0a : List Bool) (p1k : Int) : Option Int :=
  bindL (loopM (m_w_heldBoolS_l0 p0a) FUEL (p1k, 0)) (fun r => some r) (fun s4 => some s4.1)
def m_w_heldIntS_l0 (p0a : List Int) (s3 : Int × Int) : Option (Out Int (Int × Int)) :=
  if decide (s3.2 < (p0a.length : Int)) then ((getI p0a s3.2).bind fun x3 => if x3 != s3.1 then (some (.ret (-1))) else (some (.nxt (IntKind.i64.wrap (s3.1 + 1), IntKind.i64.wrap (s3.2 + 1))))) else (some (.brk (s3.1, s3.2)))
def m_w_heldIntS (p0a : List Int) (p1k : Int) : Option Int :=
  bindL (loopM (m_w_heldIntS_l0 p0a) FUEL (p1k, 0)) (fun r => some r) (fun s4 => some s4.1)
def m_w_heldIntSS_l0 (p0a : List (List Int)) (s3 : Int × Int) : Option (Out Int (Int × Int)) :=
  if decide (s3.2 < (p0a.length : Int)) then ((getI p0a s3.2).bind fun x3 => (m_w_heldIntS x3 s3.1).bind fun r6 => if decide (r6 < 0) then (some (.ret (-1))) else (some (.nxt (r6, IntKind.i64.wrap (s3.2 + 1))))) else (some (.brk (s3.1, s3.2)))
def m_w_heldIntSS (p0a : List (List Int)) (p1k : Int) : Option Int :=
  bindL (loopM (m_w_heldIntSS_l0 p0a) FUEL (p1k, 0)) (fun r => some r) (fun s4 => some s4.1)
def m_w_heldAutomaton (p0a : Int × (List Bool) × (List (List Int))) (p1k : Int) : Option Int :=
  (m_w_heldBoolS p0a.2.1 p1k).bind fun r1 => if decide (r1 < 0) then (some (-1)) else ((m_w_heldIntSS p0a.2.2 r1).bind fun r2 => if decide (r2 < 0) then (some (-1)) else (some r2))
def m_s_l1In (p0x : Int) (p1low : Int) (p2high : Int) : Option Bool :=
  if decide (p0x ≥ p1low) then (some (decide (p0x ≤ p2high))) else (some false)
def m_s_l11Fits_l1 (p0a : Int × (List Bool) × (List (List Int))) (s11 : Int) (s15 : Int) : Option (Out Bool Int) :=
  if decide (s15 < 9) then ((getI p0a.2.2 s11).bind fun x20 => (getI x20 s15).bind fun x21 => (m_s_l1In x21 (-1) (IntKind.i64.wrap ((p0a.2.1.length : Int) - 1))).bind fun r22 => if r22 then (some (.nxt (IntKind.i64.wrap (s15 + 1)))) else (some (.ret false))) else (some (.brk s15))
def m_s_l11Fits_l0 (p0a : Int × (List Bool) × (List (List Int))) (s11 : Int) : Option (Out Bool Int) :=
  if decide (s11 < (p0a.2.1.length : Int)) then ((getI p0a.2.2 s11).bind fun x15 => if (x15.length : Int) != 9 then (some (.ret false)) else (bindL (loopM (m_s_l11Fits_l1 p0a s11) FUEL 0) (fun r => some (.ret r)) (fun s16 => some (.nxt (IntKind.i64.wrap (s11 + 1)))))) else (some (.brk s11))
def m_s_l11Fits (p0a : Int × (List Bool) × (List (List Int))) : Option Bool :=
  (m_s_l1In p0a.1 0 (IntKind.i64.wrap ((p0a.2.1.length : Int) - 1))).bind fun r1 => if r1 then (if (p0a.2.2.length : Int) != (p0a.2.1.length : Int) then (some false) else (bindL (loopM (m_s_l11Fits_l0 p0a) FUEL 0) (fun r => some r) (fun s12 => some true))) else (some false)
def m_s_IsValidAutomaton (p0a : Int × (List Bool) × (List (List Int))) : Option Bool :=
  if decide ((p0a.2.1.length : Int) ≤ 12) then ((m_s_l11Fits (p0a.1, p0a.2.1, p0a.2.2)).bind fun r1 => some r1) else (some false)
def m_s_l11Nothing_l0 (s3 : (List Int) × Int) : Option (Out (Int × (List Bool) × (List (List Int))) ((List Int) × Int)) :=
  if decide (s3.2 < 9) then ((appI 8 s3.1 ([-1])).bind fun z3 => some (.nxt (z3, IntKind.i64.wrap (s3.2 + 1)))) else (some (.brk (s3.1, s3.2)))
def m_s_l11Nothing : Option (Int × (List Bool) × (List (List Int))) :=
  bindL (loopM (m_s_l11Nothing_l0) FUEL (([] : List Int), 0)) (fun _ => none) (fun s4 => some (0, [false], [s4.1]))
def m_s_l11Find_l0 (p0l : List Int) (p1x : Int) (s3 : Int) : Option (Out Int Int) :=
  if decide (s3 < (p0l.length : Int)) then ((getI p0l s3).bind fun x3 => if x3 == p1x then (some (.ret s3)) else (some (.nxt (IntKind.i64.wrap (s3 + 1))))) else (some (.brk s3))
def m_s_l11Find (p0l : List Int) (p1x : Int) : Option Int :=
  bindL (loopM (m_s_l11Find_l0 p0l p1x) FUEL 0) (fun r => some r) (fun s4 => some (-1))
def m_s_l11Number_l1 (p0 : Int × (List Bool) × (List (List Int))) (p1 : List Int) (p2 : List Bool) (s17 : (List Int) × (List Int) × Int × (List Bool) × (List (List Int))) (s23 : (List Int) × (List Int) × (List Int) × Int) : Option (Out (Int × (List Bool) × (List (List Int))) ((List Int) × (List Int) × (List Int) × Int)) :=
  if decide (s23.2.2.2 < 9) then ((getI s23.2.1 s17.2.2.1).bind fun x79 => (getI p0.2.2 x79).bind fun x80 => (getI x80 s23.2.2.2).bind fun x81 => Option.bind ((if decide (x81 ≥ 0) then ((getI p2 x81).bind fun x85 => if x85 then ((getI p1 x81).bind fun x86 => (m_s_l11Find s23.1 x86).bind fun r28 => if decide (r28 < 0) then ((getI p1 x81).bind fun x87 => (appI 8 s23.1 ([x87])).bind fun z47 => (appI 8 s23.2.1 ([x81])).bind fun z48 => some (z47, z48, (s23.1.length : Int))) else (some (s23.1, s23.2.1, r28))) else (some (s23.1, s23.2.1, -1))) else (some (s23.1, s23.2.1, -1)) : Option ((List Int) × (List Int) × Int))) (fun s25 => (appI 8 s23.2.2.1 ([s25.2.2])).bind fun z49 => some (.nxt (s25.1, s25.2.1, z49, IntKind.i64.wrap (s23.2.2.2 + 1))))) else (some (.brk (s23.1, s23.2.1, s23.2.2.1, s23.2.2.2)))
def m_s_l11Number_l0 (p0 : Int × (List Bool) × (List (List Int))) (p1 : List Int) (p2 : List Bool) (s17 : (List Int) × (List Int) × Int × (List Bool) × (List (List Int))) : Option (Out (Int × (List Bool) × (List (List Int))) ((List Int) × (List Int) × Int × (List Bool) × (List (List Int)))) :=
  if decide (s17.2.2.1 < (s17.1.length : Int)) then (bindL (loopM (m_s_l11Number_l1 p0 p1 p2 s17) FUEL (s17.1, s17.2.1, ([] : List Int), 0)) (fun _ => none) (fun s24 => (getI s24.2.1 s17.2.2.1).bind fun x88 => (getI p0.2.1 x88).bind fun x89 => (appI 1 s17.2.2.2.1 ([x89])).bind fun z50 => (appI 24 s17.2.2.2.2 ([s24.2.2.1])).bind fun z51 => some (.nxt (s24.1, s24.2.1, IntKind.i64.wrap (s17.2.2.1 + 1), z50, z51)))) else (some (.brk (s17.1, s17.2.1, s17.2.2.1, s17.2.2.2.1, s17.2.2.2.2)))
def m_s_l11Number (p0 : Int × (List Bool) × (List (List Int))) (p1 : List Int) (p2 : List Bool) : Option (Int × (List Bool) × (List (List Int))) :=
  (getI p2 p0.1).bind fun x1 => if x1 then ((getI p1 p0.1).bind fun x2 => bindL (loopM (m_s_l11Number_l0 p0 p1 p2) FUEL ([x2], [p0.1], 0, [], [])) (fun _ => none) (fun s18 => some (0, s18.2.2.2.1, s18.2.2.2.2))) else ((m_s_l11Nothing ).bind fun r1 => some (r1.1, r1.2.1, r1.2.2))
def m_s_l11Live_l2 (p0a : Int × (List Bool) × (List (List Int))) (s71 : (List Bool) × Int) (s77 : (List Bool) × Int) : Option (Out (List Bool) ((List Bool) × Int)) :=
  if decide (s77.2 < 9) then (Option.bind (((getI p0a.2.2 s71.2).bind fun x319 => (getI x319 s77.2).bind fun x320 => if decide (x320 ≥ 0) then ((getI p0a.2.2 s71.2).bind fun x321 => (getI x321 s77.2).bind fun x322 => (getI s77.1 x322).bind fun x323 => if x323 then ((getI s77.1 s71.2).bind fun x324 => some (s77.1.set s71.2.toNat true)) else (some s77.1)) else (some s77.1) : Option (List Bool))) (fun s79 => some (.nxt (s79, IntKind.i64.wrap (s77.2 + 1))))) else (some (.brk (s77.1, s77.2)))
def m_s_l11Live_l1 (p0a : Int × (List Bool) × (List (List Int))) (s71 : (List Bool) × Int) : Option (Out (List Bool) ((List Bool) × Int)) :=
  if decide (s71.2 < (p0a.2.1.length : Int)) then (bindL (loopM (m_s_l11Live_l2 p0a s71) FUEL (s71.1, 0)) (fun _ => none) (fun s78 => some (.nxt (s78.1, IntKind.i64.wrap (s71.2 + 1))))) else (some (.brk (s71.1, s71.2)))
def m_s_l11Live_l0 (p0a : Int × (List Bool) × (List (List Int))) (s53 : (List Bool) × Int) : Option (Out (List Bool) ((List Bool) × Int)) :=
  if decide (s53.2 < (p0a.2.1.length : Int)) then (bindL (loopM (m_s_l11Live_l1 p0a) FUEL (s53.1, 0)) (fun _ => none) (fun s72 => some (.nxt (s72.1, IntKind.i64.wrap (s53.2 + 1))))) else (some (.brk (s53.1, s53.2)))
def m_s_l11Live (p0a : Int × (List Bool) × (List (List Int))) : Option (List Bool) :=
  (appI 1 ([] : List Bool) p0a.2.1).bind fun z1 => bindL (loopM (m_s_l11Live_l0 p0a) FUEL (z1, 0)) (fun _ => none) (fun s54 => some s54.1)
def m_s_l2Cmp_l0 (p0a : List Int) (p1b : List Int) (s3 : Int) : Option (Out Int Int) :=
  if decide (s3 < (p0a.length : Int)) then (if decide (s3 < (p1b.length : Int)) then ((getI p0a s3).bind fun x9 => (getI p1b s3).bind fun x10 => if decide (x9 < x10) then (some (.ret (-1))) else ((getI p0a s3).bind fun x11 => (getI p1b s3).bind fun x12 => if decide (x11 > x12) then (some (.ret 1)) else (some (.nxt (IntKind.i64.wrap (s3 + 1)))))) else (some (.brk s3))) else (some (.brk s3))
def m_s_l2Cmp (p0a : List Int) (p1b : List Int) : Option Int :=
  bindL (loopM (m_s_l2Cmp_l0 p0a p1b) FUEL 0) (fun r => some r) (fun s4 => if decide ((p0a.length : Int) < (p1b.length : Int)) then (some (-1)) else (if decide ((p0a.length : Int) > (p1b.length : Int)) then (some 1) else (some 0)))
def m_s_l12Key_l0 (p0a : Int × (List Bool) × (List (List Int))) (p1classes : List Int) (p2s : Int) (s5 : (List Int) × Int) : Option (Out (List Int) ((List Int) × Int)) :=
  if decide (s5.2 < 9) then (Option.bind (((getI p0a.2.2 p2s).bind fun x17 => (getI x17 s5.2).bind fun x18 => if decide (x18 < 0) then ((appI 8 s5.1 ([-1])).bind fun z12 => some z12) else ((getI p1classes x18).bind fun x19 => (appI 8 s5.1 ([x19])).bind fun z11 => some z11) : Option (List Int))) (fun s7 => some (.nxt (s7, IntKind.i64.wrap (s5.2 + 1))))) else (some (.brk (s5.1, s5.2)))
def m_s_l12Key (p0a : Int × (List Bool) × (List (List Int))) (p1classes : List Int) (p2s : Int) : Option (List Int) :=
  (getI p1classes p2s).bind fun x1 => bindL (loopM (m_s_l12Key_l0 p0a p1classes p2s) FUEL ([x1], 0)) (fun _ => none) (fun s6 => some s6.1)
def m_s_l12Classes_l0 (p0 : Int × (List Bool) × (List (List Int))) (r1 : List Bool) (s7 : (List Int) × Int) : Option (Out (List Int) ((List Int) × Int)) :=
  if decide (s7.2 < (p0.2.1.length : Int)) then (Option.bind (((getI p0.2.1 s7.2).bind fun x10 => if x10 then (some 1) else (some 0) : Option Int)) (fun s9 => Option.bind (((getI r1 s7.2).bind fun x12 => if x12 then (some s9) else (some (-1)) : Option Int)) (fun s10 => (appI 8 s7.1 ([s10])).bind fun z3 => some (.nxt (z3, IntKind.i64.wrap (s7.2 + 1)))))) else (some (.brk (s7.1, s7.2)))
def m_s_l12Classes_l3 (r225 : List Int) (s176 : (List (List Int)) × Int × Int) : Option (Out (List Int) ((List (List Int)) × Int × Int)) :=
  if decide (s176.2.2 < (s176.1.length : Int)) then (Option.bind (((getI s176.1 s176.2.2).bind fun x138 => (m_s_l2Cmp x138 r225).bind fun r237 => if r237 == 0 then (some (s176.1.set s176.2.2.toNat x138, s176.2.2)) else (some (s176.1.set s176.2.2.toNat x138, s176.2.1)) : Option ((List (List Int)) × Int))) (fun s178 => some (.nxt (s178.1, s178.2, IntKind.i64.wrap (s176.2.2 + 1))))) else (some (.brk (s176.1, s176.2.1, s176.2.2)))
def m_s_l12Classes_l2 (p0 : Int × (List Bool) × (List (List Int))) (s123 : (List Int) × Int) (s161 : (List (List Int)) × (List Int) × Int) : Option (Out (List Int) ((List (List Int)) × (List Int) × Int)) :=
  if decide (s161.2.2 < (p0.2.1.length : Int)) then (Option.bind (((getI s123.1 s161.2.2).bind fun x132 => if decide (x132 < 0) then ((appI 8 s161.2.1 ([-1])).bind fun z75 => some (s161.1, z75)) else ((m_s_l12Key (p0.1, p0.2.1, p0.2.2) s123.1 s161.2.2).bind fun r225 => bindL (loopM (m_s_l12Classes_l3 r225) FUEL (s161.1, -1, 0)) (fun _ => none) (fun s177 => Option.bind ((if decide (s177.2.1 < 0) then ((appI 24 s177.1 ([r225])).bind fun z73 => some (z73, (s177.1.length : Int))) else (some (s177.1, s177.2.1)) : Option ((List (List Int)) × Int))) (fun s179 => (appI 8 s161.2.1 ([s179.2])).bind fun z74 => some (s179.1, z74)))) : Option ((List (List Int)) × (List Int)))) (fun s171 => some (.nxt (s171.1, s171.2, IntKind.i64.wrap (s161.2.2 + 1))))) else (some (.brk (s161.1, s161.2.1, s161.2.2)))
def m_s_l12Classes_l1 (p0 : Int × (List Bool) × (List (List Int))) (s123 : (List Int) × Int) : Option (Out (List Int) ((List Int) × Int)) :=
  if decide (s123.2 ≤ (p0.2.1.length : Int)) then (bindL (loopM (m_s_l12Classes_l2 p0 s123) FUEL (([] : List (List Int)), ([] : List Int), 0)) (fun _ => none) (fun s162 => (m_s_l2Cmp s162.2.1 s123.1).bind fun r238 => if r238 == 0 then (some (.ret s123.1)) else (some (.nxt (s162.2.1, IntKind.i64.wrap (s123.2 + 1)))))) else (some (.brk (s123.1, s123.2)))
def m_s_l12Classes (p0 : Int × (List Bool) × (List (List Int))) : Option (List Int) :=
  (m_s_l11Live (p0.1, p0.2.1, p0.2.2)).bind fun r1 => bindL (loopM (m_s_l12Classes_l0 p0 r1) FUEL (([] : List Int), 0)) (fun _ => none) (fun s8 => bindL (loopM (m_s_l12Classes_l1 p0) FUEL (s8.1, 0)) (fun r => some r) (fun s124 => some s124.1))
def m_s_l12Minimize (p0a : Int × (List Bool) × (List (List Int))) : Option (Int × (List Bool) × (List (List Int))) :=
  (m_s_l12Classes (p0a.1, p0a.2.1, p0a.2.2)).bind fun r1 => (m_s_l11Live (p0a.1, p0a.2.1, p0a.2.2)).bind fun r2 => (m_s_l11Number (p0a.1, p0a.2.1, p0a.2.2) r1 r2).bind fun r3 => some (r3.1, r3.2.1, r3.2.2)
def m_s_l12Next (p0a : Int × (List Bool) × (List (List Int))) (p1s : Int) (p2k : Int) : Option Int :=
  if decide (p1s < 0) then (some (-1)) else ((getI p0a.2.2 p1s).bind fun x1 => (getI x1 p2k).bind fun x2 => some x2)
def m_s_l13Op (p0op : Int) (p1x : Bool) (p2y : Bool) : Option Bool :=
  if p0op == 1 then (if p1x then (some p2y) else (some false)) else (if p0op == 2 then (if p1x then (some true) else (some p2y)) else (if p1x then (some (!p2y)) else (some false)))
def m_s_l12Accept (p0a : Int × (List Bool) × (List (List Int))) (p1s : Int) : Option Bool :=
  if decide (p1s ≥ 0) then ((getI p0a.2.1 p1s).bind fun x1 => some x1) else (some false)
def m_s_l13Pairs_l2 (s79 : (List Int) × (List Int) × (List Int) × Int) (r23 : Int) (r24 : Int) (s85 : Int × Int) : Option (Out (Int × (List Bool) × (List (List Int))) (Int × Int)) :=
  if decide (s85.2 < (s79.1.length : Int)) then (Option.bind (((getI s79.1 s85.2).bind fun x129 => if x129 == r23 then ((getI s79.2.1 s85.2).bind fun x130 => if x130 == r24 then (some s85.2) else (some s85.1)) else (some s85.1) : Option Int)) (fun s87 => some (.nxt (s87, IntKind.i64.wrap (s85.2 + 1))))) else (some (.brk (s85.1, s85.2)))
def m_s_l13Pairs_l1 (p0 : Int × (List Bool) × (List (List Int))) (p1 : Int × (List Bool) × (List (List Int))) (s59 : (List Int) × (List Int) × Int × (List Bool) × (List (List Int))) (s79 : (List Int) × (List Int) × (List Int) × Int) : Option (Out (Int × (List Bool) × (List (List Int))) ((List Int) × (List Int) × (List Int) × Int)) :=
  if decide (s79.2.2.2 < 9) then ((getI s79.1 s59.2.2.1).bind fun x117 => (m_s_l12Next (p0.1, p0.2.1, p0.2.2) x117 s79.2.2.2).bind fun r23 => (getI s79.2.1 s59.2.2.1).bind fun x118 => (m_s_l12Next (p1.1, p1.2.1, p1.2.2) x118 s79.2.2.2).bind fun r24 => bindL (loopM (m_s_l13Pairs_l2 s79 r23 r24) FUEL (-1, 0)) (fun _ => none) (fun s86 => Option.bind ((if decide (s86.1 < 0) then ((appI 8 s79.1 ([r23])).bind fun z47 => (appI 8 s79.2.1 ([r24])).bind fun z48 => some (z47, z48, (s79.1.length : Int))) else (some (s79.1, s79.2.1, s86.1)) : Option ((List Int) × (List Int) × Int))) (fun s88 => (appI 8 s79.2.2.1 ([s88.2.2])).bind fun z49 => some (.nxt (s88.1, s88.2.1, z49, IntKind.i64.wrap (s79.2.2.2 + 1)))))) else (some (.brk (s79.1, s79.2.1, s79.2.2.1, s79.2.2.2)))
def m_s_l13Pairs_l0 (p0 : Int × (List Bool) × (List (List Int))) (p1 : Int × (List Bool) × (List (List Int))) (p2 : Int) (s59 : (List Int) × (List Int) × Int × (List Bool) × (List (List Int))) : Option (Out (Int × (List Bool) × (List (List Int))) ((List Int) × (List Int) × Int × (List Bool) × (List (List Int)))) :=
  if decide (s59.2.2.1 < (s59.1.length : Int)) then (bindL (loopM (m_s_l13Pairs_l1 p0 p1 s59) FUEL (s59.1, s59.2.1, ([] : List Int), 0)) (fun _ => none) (fun s80 => (getI s80.1 s59.2.2.1).bind fun x131 => (m_s_l12Accept (p0.1, p0.2.1, p0.2.2) x131).bind fun r25 => (getI s80.2.1 s59.2.2.1).bind fun x132 => (m_s_l12Accept (p1.1, p1.2.1, p1.2.2) x132).bind fun r26 => (m_s_l13Op p2 r25 r26).bind fun r27 => (appI 1 s59.2.2.2.1 ([r27])).bind fun z50 => (appI 24 s59.2.2.2.2 ([s80.2.2.1])).bind fun z51 => some (.nxt (s80.1, s80.2.1, IntKind.i64.wrap (s59.2.2.1 + 1), z50, z51)))) else (some (.brk (s59.1, s59.2.1, s59.2.2.1, s59.2.2.2.1, s59.2.2.2.2)))
def m_s_l13Pairs (p0 : Int × (List Bool) × (List (List Int))) (p1 : Int × (List Bool) × (List (List Int))) (p2 : Int) : Option (Int × (List Bool) × (List (List Int))) :=
  bindL (loopM (m_s_l13Pairs_l0 p0 p1 p2) FUEL ([p0.1], [p1.1], 0, [], [])) (fun _ => none) (fun s60 => some (0, s60.2.2.2.1, s60.2.2.2.2))
def m_s_l13Make (p0a : Int × (List Bool) × (List (List Int))) (p1b : Int × (List Bool) × (List (List Int))) (p2op : Int) : Option ((Int × (List Bool) × (List (List Int))) × Bool) :=
  (m_s_IsValidAutomaton (p0a.1, p0a.2.1, p0a.2.2)).bind fun r1 => if r1 then ((m_s_IsValidAutomaton (p1b.1, p1b.2.1, p1b.2.2)).bind fun r2 => if r2 then ((m_s_l13Pairs (p0a.1, p0a.2.1, p0a.2.2) (p1b.1, p1b.2.1, p1b.2.2) p2op).bind fun r3 => (m_s_l12Minimize (r3.1, r3.2.1, r3.2.2)).bind fun r4 => if decide ((r4.2.1.length : Int) > 12) then (some ((0, [], []), false)) else (some ((r4.1, r4.2.1, r4.2.2), true))) else (some ((0, [], []), false))) else (some ((0, [], []), false))
def m_s_l13All_l0 (s3 : (List Int) × Int) : Option (Out (Int × (List Bool) × (List (List Int))) ((List Int) × Int)) :=
  if decide (s3.2 < 9) then ((appI 8 s3.1 ([0])).bind fun z3 => some (.nxt (z3, IntKind.i64.wrap (s3.2 + 1)))) else (some (.brk (s3.1, s3.2)))
def m_s_l13All : Option (Int × (List Bool) × (List (List Int))) :=
  bindL (loopM (m_s_l13All_l0) FUEL (([] : List Int), 0)) (fun _ => none) (fun s4 => some (0, [true], [s4.1]))
def m_s_ComplementAutomaton (p0a : Int × (List Bool) × (List (List Int))) : Option ((Int × (List Bool) × (List (List Int))) × Bool) :=
  (m_s_l13All ).bind fun r1 => (m_s_l13Make (r1.1, r1.2.1, r1.2.2) (p0a.1, p0a.2.1, p0a.2.2) 3).bind fun r2 => some ((r2.1.1, r2.1.2.1, r2.1.2.2), r2.2)
def m_i_within (p0n : Int) (p1a : Int) (p2b : Int) : Option Bool :=
  if decide (p0n ≥ p1a) then (some (decide (p0n ≤ p2b))) else (some false)
def m_i_IsValidAutomaton_l1 (p0a : Int × (List Bool) × (List (List Int))) (x9 : List Int) (s15 : Int) : Option (Out Bool Int) :=
  if decide (s15 < (x9.length : Int)) then ((getI x9 s15).bind fun x12 => (m_i_within x12 (-1) (IntKind.i64.wrap ((p0a.2.1.length : Int) - 1))).bind fun r14 => if r14 then (some (.nxt (IntKind.i64.wrap (s15 + 1)))) else (some (.ret false))) else (some (.brk s15))
def m_i_IsValidAutomaton_l0 (p0a : Int × (List Bool) × (List (List Int))) (s11 : Int) : Option (Out Bool Int) :=
  if decide (s11 < (p0a.2.2.length : Int)) then ((getI p0a.2.2 s11).bind fun x9 => bindL (loopM (m_i_IsValidAutomaton_l1 p0a x9) FUEL 0) (fun r => some (.ret r)) (fun s16 => if (x9.length : Int) != 9 then (some (.ret false)) else (some (.nxt (IntKind.i64.wrap (s11 + 1)))))) else (some (.brk s11))
def m_i_IsValidAutomaton (p0a : Int × (List Bool) × (List (List Int))) : Option Bool :=
  (m_i_within (p0a.2.1.length : Int) 1 12).bind fun r1 => if r1 then ((m_i_within p0a.1 0 (IntKind.i64.wrap ((p0a.2.1.length : Int) - 1))).bind fun r2 => if r2 then (if (p0a.2.2.length : Int) != (p0a.2.1.length : Int) then (some false) else (bindL (loopM (m_i_IsValidAutomaton_l0 p0a) FUEL 0) (fun r => some r) (fun s12 => some true))) else (some false)) else (some false)
def m_i_together (p0a : Int × (List Bool) × (List (List Int))) (p1b : Int × (List Bool) × (List (List Int))) : Option Unit :=
  some ()
def m_i_numbered_states_l1 (p3 : (Int × Int) → Int → Option ((Int × Int) × Bool)) (s29 : (List (Int × Int)) × (List ((Int × Int) × Int)) × Int × (List Bool) × (List (List Int))) (s39 : (List (Int × Int)) × (List ((Int × Int) × Int)) × (List Int) × Int) : Option (Out ((Int × (List Bool) × (List (List Int))) × Bool) ((List (Int × Int)) × (List ((Int × Int) × Int)) × (List Int) × Int)) :=
  if decide (s39.2.2.2 < 9) then (Option.bind (((getI s39.1 s29.2.2.1).bind fun x20 => (p3 (x20.1, x20.2) s39.2.2.2).bind fun r20 => if r20.2 then ((chk (iiOk (r20.1.1, r20.1.2) = true)).bind fun _ => Option.bind ((if (lkM s39.2.1 (r20.1.1, r20.1.2)).isSome then (some (s39.1, s39.2.1, (lkM s39.2.1 (r20.1.1, r20.1.2)).getD 0)) else ((putM s39.2.1 iiOk iOk (r20.1.1, r20.1.2) (s39.1.length : Int)).bind fun m37 => (appI 16 s39.1 ([(r20.1.1, r20.1.2)])).bind fun z75 => some (z75, m37, (s39.1.length : Int))) : Option ((List (Int × Int)) × (List ((Int × Int) × Int)) × Int))) (fun s43 => (appI 8 s39.2.2.1 ([s43.2.2])).bind fun z76 => some (s43.1, s43.2.1, z76))) else ((appI 8 s39.2.2.1 ([-1])).bind fun z73 => some (s39.1, s39.2.1, z73)) : Option ((List (Int × Int)) × (List ((Int × Int) × Int)) × (List Int)))) (fun s42 => some (.nxt (s42.1, s42.2.1, s42.2.2, IntKind.i64.wrap (s39.2.2.2 + 1))))) else (some (.brk (s39.1, s39.2.1, s39.2.2.1, s39.2.2.2)))
def m_i_numbered_states_l0 (p1 : Int) (p2 : (Int × Int) → Option Bool) (p3 : (Int × Int) → Int → Option ((Int × Int) × Bool)) (s29 : (List (Int × Int)) × (List ((Int × Int) × Int)) × Int × (List Bool) × (List (List Int))) : Option (Out ((Int × (List Bool) × (List (List Int))) × Bool) ((List (Int × Int)) × (List ((Int × Int) × Int)) × Int × (List Bool) × (List (List Int)))) :=
  if decide (s29.2.2.1 < (s29.1.length : Int)) then (bindL (loopM (m_i_numbered_states_l1 p3 s29) FUEL (s29.1, s29.2.1, ([] : List Int), 0)) (fun _ => none) (fun s40 => if decide ((s40.1.length : Int) > p1) then (some (.ret ((0, [], []), false))) else ((getI s40.1 s29.2.2.1).bind fun x21 => (p2 (x21.1, x21.2)).bind fun r21 => (appI 1 s29.2.2.2.1 ([r21])).bind fun z77 => (appI 24 s29.2.2.2.2 ([s40.2.2.1])).bind fun z78 => some (.nxt (s40.1, s40.2.1, IntKind.i64.wrap (s29.2.2.1 + 1), z77, z78))))) else (some (.brk (s29.1, s29.2.1, s29.2.2.1, s29.2.2.2.1, s29.2.2.2.2)))
def m_i_numbered_states (p0 : Int × Int) (p1 : Int) (p2 : (Int × Int) → Option Bool) (p3 : (Int × Int) → Int → Option ((Int × Int) × Bool)) : Option ((Int × (List Bool) × (List (List Int))) × Bool) :=
  (putM ([] : List ((Int × Int) × Int)) iiOk iOk (p0.1, p0.2) 0).bind fun m1 => bindL (loopM (m_i_numbered_states_l0 p1 p2 p3) FUEL ([(p0.1, p0.2)], m1, 0, [], [])) (fun r => some r) (fun s30 => some ((0, s30.2.2.2.1, s30.2.2.2.2), true))
def m_i_Automaton_accepts (p0a : Int × (List Bool) × (List (List Int))) (p1s : Int) : Option Bool :=
  if decide (p1s ≥ 0) then ((getI p0a.2.1 p1s).bind fun x1 => some x1) else (some false)
def m_i_combine_1 (p0s : Int × Int) (q0 : Bool → Bool → Option Bool) (q1 : Int × (List Bool) × (List (List Int))) (q2 : Int × (List Bool) × (List (List Int))) : Option Bool :=
  (m_i_Automaton_accepts (q1.1, q1.2.1, q1.2.2) p0s.1).bind fun r1 => (m_i_Automaton_accepts (q2.1, q2.2.1, q2.2.2) p0s.2).bind fun r2 => (q0 r1 r2).bind fun r3 => some r3
def m_i_combine_2 (p0s : Int × Int) (p1letter : Int) (q0 : (Int × Int) → Int → Option ((Int × Int))) : Option ((Int × Int) × Bool) :=
  (q0 (p0s.1, p0s.2) p1letter).bind fun r1 => some ((r1.1, r1.2), true)
def m_g_math_bits_Mul64 (p0x : Int) (p1y : Int) : Option (Int × Int) :=
  some (IntKind.u64.wrap ((IntKind.u64.wrap ((IntKind.u64.wrap ((shrI p0x 32) * (shrI p1y 32))) + (shrI (IntKind.u64.wrap ((IntKind.u64.wrap ((shrI p0x 32) * (andU p1y 4294967295))) + (shrI (IntKind.u64.wrap ((andU p0x 4294967295) * (andU p1y 4294967295))) 32))) 32))) + (shrI (IntKind.u64.wrap ((andU (IntKind.u64.wrap ((IntKind.u64.wrap ((shrI p0x 32) * (andU p1y 4294967295))) + (shrI (IntKind.u64.wrap ((andU p0x 4294967295) * (andU p1y 4294967295))) 32))) 4294967295) + (IntKind.u64.wrap ((andU p0x 4294967295) * (shrI p1y 32))))) 32)), IntKind.u64.wrap (p0x * p1y))
def m_g_math_bits_Mul (p0x : Int) (p1y : Int) : Option (Int × Int) :=
  (m_g_math_bits_Mul64 p0x p1y).bind fun r1 => some (r1.1, r1.2)
def m_g_slices_Repeat_S_int_int_l0 (s5 : (List Int) × Int) : Option (Out (List Int) ((List Int) × Int)) :=
  if decide (s5.2 < (s5.1.length : Int)) then ((chk (0 ≤ s5.2 ∧ s5.2 ≤ (s5.1.length : Int))).bind fun _ => (chk (0 ≤ s5.2 ∧ s5.2 ≤ (s5.1.length : Int))).bind fun _ => (chk (s5.2.toNat ≤ s5.1.length)).bind fun _ => (chk (s5.2.toNat ≤ s5.1.length)).bind fun _ => some (.nxt (cpyI s5.1 s5.2.toNat (s5.1.take s5.2.toNat), IntKind.i64.wrap (s5.2 + ((min (s5.1.take s5.2.toNat).length (s5.1.length - s5.2.toNat) : Nat) : Int))))) else (some (.brk (s5.1, s5.2)))
def m_g_slices_Repeat_S_int_int (p0x : List Int) (p1count : Int) : Option (List Int) :=
  Option.bind ((if decide (p1count < 0) then (none) else (some ()) : Option Unit)) (fun s1 => (m_g_math_bits_Mul (IntKind.u64.wrap (p0x.length : Int)) (IntKind.u64.wrap p1count)).bind fun r1 => Option.bind ((if decide (r1.1 > 0) then (none) else (if decide (r1.2 > 9223372036854775807) then (none) else (some ())) : Option Unit)) (fun s2 => (mkI 8 (IntKind.i64.wrap r1.2) (0 : Int)).bind fun x1 => bindL (loopM (m_g_slices_Repeat_S_int_int_l0) FUEL (cpyI x1 0 p0x, ((min p0x.length (x1.length - 0) : Nat) : Int))) (fun _ => none) (fun s6 => some s6.1)))
def m_i_nothing : Option (Int × (List Bool) × (List (List Int))) :=
  (m_g_slices_Repeat_S_int_int ([-1]) 9).bind fun r1 => some (0, [false], [r1])
def m_i_numbered_int_l1 (p3 : Int → Int → Option (Int × Bool)) (s29 : (List Int) × (List (Int × Int)) × Int × (List Bool) × (List (List Int))) (s39 : (List Int) × (List (Int × Int)) × (List Int) × Int) : Option (Out ((Int × (List Bool) × (List (List Int))) × Bool) ((List Int) × (List (Int × Int)) × (List Int) × Int)) :=
  if decide (s39.2.2.2 < 9) then (Option.bind (((getI s39.1 s29.2.2.1).bind fun x20 => (p3 x20 s39.2.2.2).bind fun r20 => if r20.2 then ((chk (iOk r20.1 = true)).bind fun _ => Option.bind ((if (lkM s39.2.1 r20.1).isSome then (some (s39.1, s39.2.1, (lkM s39.2.1 r20.1).getD 0)) else ((putM s39.2.1 iOk iOk r20.1 (s39.1.length : Int)).bind fun m37 => (appI 8 s39.1 ([r20.1])).bind fun z75 => some (z75, m37, (s39.1.length : Int))) : Option ((List Int) × (List (Int × Int)) × Int))) (fun s43 => (appI 8 s39.2.2.1 ([s43.2.2])).bind fun z76 => some (s43.1, s43.2.1, z76))) else ((appI 8 s39.2.2.1 ([-1])).bind fun z73 => some (s39.1, s39.2.1, z73)) : Option ((List Int) × (List (Int × Int)) × (List Int)))) (fun s42 => some (.nxt (s42.1, s42.2.1, s42.2.2, IntKind.i64.wrap (s39.2.2.2 + 1))))) else (some (.brk (s39.1, s39.2.1, s39.2.2.1, s39.2.2.2)))
def m_i_numbered_int_l0 (p1 : Int) (p2 : Int → Option Bool) (p3 : Int → Int → Option (Int × Bool)) (s29 : (List Int) × (List (Int × Int)) × Int × (List Bool) × (List (List Int))) : Option (Out ((Int × (List Bool) × (List (List Int))) × Bool) ((List Int) × (List (Int × Int)) × Int × (List Bool) × (List (List Int)))) :=
  if decide (s29.2.2.1 < (s29.1.length : Int)) then (bindL (loopM (m_i_numbered_int_l1 p3 s29) FUEL (s29.1, s29.2.1, ([] : List Int), 0)) (fun _ => none) (fun s40 => if decide ((s40.1.length : Int) > p1) then (some (.ret ((0, [], []), false))) else ((getI s40.1 s29.2.2.1).bind fun x21 => (p2 x21).bind fun r21 => (appI 1 s29.2.2.2.1 ([r21])).bind fun z77 => (appI 24 s29.2.2.2.2 ([s40.2.2.1])).bind fun z78 => some (.nxt (s40.1, s40.2.1, IntKind.i64.wrap (s29.2.2.1 + 1), z77, z78))))) else (some (.brk (s29.1, s29.2.1, s29.2.2.1, s29.2.2.2.1, s29.2.2.2.2)))
def m_i_numbered_int (p0 : Int) (p1 : Int) (p2 : Int → Option Bool) (p3 : Int → Int → Option (Int × Bool)) : Option ((Int × (List Bool) × (List (List Int))) × Bool) :=
  (putM ([] : List (Int × Int)) iOk iOk p0 0).bind fun m1 => bindL (loopM (m_i_numbered_int_l0 p1 p2 p3) FUEL ([p0], m1, 0, [], [])) (fun r => some r) (fun s30 => some ((0, s30.2.2.2.1, s30.2.2.2.2), true))
def m_g_slices_Clone_S_bool_bool (p0s : List Bool) : Option (List Bool) :=
  (appI 1 ([] : List Bool) p0s).bind fun z1 => some z1
def m_i_Automaton_live_l2 (s71 : (List Bool) × Bool × Int) (x201 : List Int) (s77 : (List Bool) × Bool × Int) : Option (Out (List Bool) ((List Bool) × Bool × Int)) :=
  if decide (s77.2.2 < (x201.length : Int)) then (Option.bind (((getI x201 s77.2.2).bind fun x222 => if decide (x222 ≥ 0) then ((getI s77.1 x222).bind fun x223 => if x223 then ((getI s77.1 s71.2.2).bind fun x224 => if x224 then (some (s77.1, s77.2.1)) else ((getI s77.1 s71.2.2).bind fun x225 => some (s77.1.set s71.2.2.toNat true, true))) else (some (s77.1, s77.2.1))) else (some (s77.1, s77.2.1)) : Option ((List Bool) × Bool))) (fun s79 => some (.nxt (s79.1, s79.2, IntKind.i64.wrap (s77.2.2 + 1))))) else (some (.brk (s77.1, s77.2.1, s77.2.2)))
def m_i_Automaton_live_l1 (p0a : Int × (List Bool) × (List (List Int))) (s71 : (List Bool) × Bool × Int) : Option (Out (List Bool) ((List Bool) × Bool × Int)) :=
  if decide (s71.2.2 < (p0a.2.2.length : Int)) then ((getI p0a.2.2 s71.2.2).bind fun x201 => bindL (loopM (m_i_Automaton_live_l2 s71 x201) FUEL (s71.1, s71.2.1, 0)) (fun _ => none) (fun s78 => some (.nxt (s78.1, s78.2.1, IntKind.i64.wrap (s71.2.2 + 1))))) else (some (.brk (s71.1, s71.2.1, s71.2.2)))
def m_i_Automaton_live_l0 (p0a : Int × (List Bool) × (List (List Int))) (s53 : (List Bool) × Bool) : Option (Out (List Bool) ((List Bool) × Bool)) :=
  if s53.2 then (bindL (loopM (m_i_Automaton_live_l1 p0a) FUEL (s53.1, false, 0)) (fun _ => none) (fun s72 => some (.nxt (s72.1, s72.2.1)))) else (some (.brk (s53.1, false)))
def m_i_Automaton_live (p0a : Int × (List Bool) × (List (List Int))) : Option (List Bool) :=
  (m_g_slices_Clone_S_bool_bool p0a.2.1).bind fun r1 => bindL (loopM (m_i_Automaton_live_l0 p0a) FUEL (r1, true)) (fun _ => none) (fun s54 => some s54.1)
def m_g_slices_IndexFunc_S_S_int_S_int_l0 (p0s : List (List Int)) (p1f : (List Int) → Option Bool) (s3 : Int) : Option (Out Int Int) :=
  if decide (s3 < (p0s.length : Int)) then ((getI p0s s3).bind fun x3 => (p1f x3).bind fun r6 => if r6 then (some (.ret s3)) else (some (.nxt (IntKind.i64.wrap (s3 + 1))))) else (some (.brk s3))
def m_g_slices_IndexFunc_S_S_int_S_int (p0s : List (List Int)) (p1f : (List Int) → Option Bool) : Option Int :=
  bindL (loopM (m_g_slices_IndexFunc_S_S_int_S_int_l0 p0s p1f) FUEL 0) (fun r => some r) (fun s4 => some (-1))
def m_g_slices_Equal_S_int_int_l0 (p0s1 : List Int) (p1s2 : List Int) (s3 : Int) : Option (Out Bool Int) :=
  if decide (s3 < (p0s1.length : Int)) then ((getI p0s1 s3).bind fun x5 => (getI p1s2 s3).bind fun x6 => if x5 != x6 then (some (.ret false)) else (some (.nxt (IntKind.i64.wrap (s3 + 1))))) else (some (.brk s3))
def m_g_slices_Equal_S_int_int (p0s1 : List Int) (p1s2 : List Int) : Option Bool :=
  if (p0s1.length : Int) != (p1s2.length : Int) then (some false) else (bindL (loopM (m_g_slices_Equal_S_int_int_l0 p0s1 p1s2) FUEL 0) (fun r => some r) (fun s4 => some true))
def m_i_Automaton_refine_1 (p0x : List Int) (q0 : List Int) : Option Bool :=
  (m_g_slices_Equal_S_int_int p0x q0).bind fun r1 => some r1
def m_i_Automaton_refine_l1 (p1 : List Int) (x57 : List Int) (s52 : Int × (List Int)) : Option (Out ((List Int) × Int) (Int × (List Int))) :=
  if decide (s52.1 < (x57.length : Int)) then ((getI x57 s52.1).bind fun x64 => Option.bind ((if decide (x64 ≥ 0) then ((getI p1 x64).bind fun x66 => some x66) else (some x64) : Option Int)) (fun s54 => (appI 8 s52.2 ([s54])).bind fun z38 => some (.nxt (IntKind.i64.wrap (s52.1 + 1), z38)))) else (some (.brk (s52.1, s52.2)))
def m_i_Automaton_refine_l0 (p0 : Int × (List Bool) × (List (List Int))) (p1 : List Int) (s37 : (List (List Int)) × (List Int) × Int) : Option (Out ((List Int) × Int) ((List (List Int)) × (List Int) × Int)) :=
  if decide (s37.2.2 < (p1.length : Int)) then (Option.bind (((getI p1 s37.2.2).bind fun x56 => if decide (x56 < 0) then ((appI 8 s37.2.1 ([-1])).bind fun z42 => some (s37.1, z42)) else ((getI p0.2.2 s37.2.2).bind fun x57 => bindL (loopM (m_i_Automaton_refine_l1 p1 x57) FUEL (0, [x56])) (fun _ => none) (fun s53 => (m_g_slices_IndexFunc_S_S_int_S_int s37.1 (fun a0 => m_i_Automaton_refine_1 a0 s53.2)).bind fun r12 => Option.bind ((if decide (r12 < 0) then ((appI 24 s37.1 ([s53.2])).bind fun z40 => some (z40, (s37.1.length : Int))) else (some (s37.1, r12)) : Option ((List (List Int)) × Int))) (fun s55 => (appI 8 s37.2.1 ([s55.2])).bind fun z41 => some (s55.1, z41)))) : Option ((List (List Int)) × (List Int)))) (fun s47 => some (.nxt (s47.1, s47.2, IntKind.i64.wrap (s37.2.2 + 1))))) else (some (.brk (s37.1, s37.2.1, s37.2.2)))
def m_i_Automaton_refine (p0 : Int × (List Bool) × (List (List Int))) (p1 : List Int) : Option ((List Int) × Int) :=
  bindL (loopM (m_i_Automaton_refine_l0 p0 p1) FUEL (([] : List (List Int)), ([] : List Int), 0)) (fun _ => none) (fun s38 => some (s38.2.1, (s38.1.length : Int)))
def m_i_Automaton_classes_l0 (p0a : Int × (List Bool) × (List (List Int))) (r1 : List Bool) (s5 : (List Int) × Int) : Option (Out (List Int) ((List Int) × Int)) :=
  if decide (s5.2 < (r1.length : Int)) then (Option.bind (((getI r1 s5.2).bind fun x11 => if x11 then ((getI p0a.2.1 s5.2).bind fun x12 => if x12 then ((appI 8 s5.1 ([1])).bind fun z18 => some z18) else ((appI 8 s5.1 ([0])).bind fun z17 => some z17)) else ((appI 8 s5.1 ([-1])).bind fun z16 => some z16) : Option (List Int))) (fun s7 => some (.nxt (s7, IntKind.i64.wrap (s5.2 + 1))))) else (some (.brk (s5.1, s5.2)))
def m_i_Automaton_classes_l1 (p0a : Int × (List Bool) × (List (List Int))) (s10 : (List Int) × Int) : Option (Out (List Int) ((List Int) × Int)) :=
  (m_i_Automaton_refine (p0a.1, p0a.2.1, p0a.2.2) s10.1).bind fun r4 => if r4.2 == s10.2 then (some (.ret r4.1)) else (some (.nxt (r4.1, r4.2)))
def m_i_Automaton_classes (p0a : Int × (List Bool) × (List (List Int))) : Option (List Int) :=
  (m_i_Automaton_live (p0a.1, p0a.2.1, p0a.2.2)).bind fun r1 => bindL (loopM (m_i_Automaton_classes_l0 p0a r1) FUEL (([] : List Int), 0)) (fun _ => none) (fun s6 => bindL (loopM (m_i_Automaton_classes_l1 p0a) FUEL (s6.1, -1)) (fun r => some r) (fun s11 => none))
def m_g_slices_Index_S_int_int_l0 (p0s : List Int) (p1v : Int) (s3 : Int) : Option (Out Int Int) :=
  if decide (s3 < (p0s.length : Int)) then ((getI p0s s3).bind fun x3 => if p1v == x3 then (some (.ret s3)) else (some (.nxt (IntKind.i64.wrap (s3 + 1))))) else (some (.brk s3))
def m_g_slices_Index_S_int_int (p0s : List Int) (p1v : Int) : Option Int :=
  bindL (loopM (m_g_slices_Index_S_int_int_l0 p0s p1v) FUEL 0) (fun r => some r) (fun s4 => some (-1))
def m_i_Automaton_minimize_1 (p0class : Int) (q0 : List Int) : Option Int :=
  (m_g_slices_Index_S_int_int q0 p0class).bind fun r1 => some r1
def m_i_Automaton_minimize_2 (p0c : Int) (q0 : Int × (List Bool) × (List (List Int))) (q1 : Int → Option Int) : Option Bool :=
  (q1 p0c).bind fun r1 => (getI q0.2.1 r1).bind fun x1 => some x1
def m_i_isLetter (p0n : Int) : Option Bool :=
  (m_i_within p0n 0 8).bind fun r1 => some r1
def m_i_Automaton_move (p0a : Int × (List Bool) × (List (List Int))) (p1s : Int) (p2letter : Int) : Option Int :=
  if decide (p1s < 0) then (some (-1)) else ((m_i_isLetter p2letter).bind fun r1 => if r1 then ((getI p0a.2.2 p1s).bind fun x1 => (getI x1 p2letter).bind fun x2 => some x2) else (some (-1)))
def m_i_Automaton_minimize_3 (p0c : Int) (p1letter : Int) (q0 : Int × (List Bool) × (List (List Int))) (q1 : Int → Option Int) (q2 : List Int) : Option (Int × Bool) :=
  (q1 p0c).bind fun r1 => (m_i_Automaton_move (q0.1, q0.2.1, q0.2.2) r1 p1letter).bind fun r2 => if decide (r2 < 0) then (some (0, false)) else ((getI q2 r2).bind fun x1 => if decide (x1 < 0) then (some (0, false)) else ((getI q2 r2).bind fun x2 => some (x2, true)))
def m_i_Automaton_minimize (p0a : Int × (List Bool) × (List (List Int))) : Option (Int × (List Bool) × (List (List Int))) :=
  (m_i_Automaton_classes (p0a.1, p0a.2.1, p0a.2.2)).bind fun r1 => (getI r1 p0a.1).bind fun x1 => if decide (x1 < 0) then ((m_i_nothing ).bind fun r3 => some (r3.1, r3.2.1, r3.2.2)) else ((getI r1 p0a.1).bind fun x2 => (m_i_numbered_int x2 (r1.length : Int) (fun a0 => m_i_Automaton_minimize_2 a0 (p0a.1, p0a.2.1, p0a.2.2) (fun a0 => m_i_Automaton_minimize_1 a0 r1)) (fun a0 a1 => m_i_Automaton_minimize_3 a0 a1 (p0a.1, p0a.2.1, p0a.2.2) (fun a0 => m_i_Automaton_minimize_1 a0 r1) r1)).bind fun r2 => some (r2.1.1, r2.1.2.1, r2.1.2.2))
def m_i_small (p0a : Int × (List Bool) × (List (List Int))) : Option ((Int × (List Bool) × (List (List Int))) × Bool) :=
  (m_i_Automaton_minimize (p0a.1, p0a.2.1, p0a.2.2)).bind fun r1 => if decide ((r1.2.1.length : Int) > 12) then (some ((0, [], []), false)) else (some ((r1.1, r1.2.1, r1.2.2), true))
def m_i_together_1 (p0s : Int × Int) (p1letter : Int) (q0 : Int × (List Bool) × (List (List Int))) (q1 : Int × (List Bool) × (List (List Int))) : Option (Int × Int) :=
  (m_i_Automaton_move (q0.1, q0.2.1, q0.2.2) p0s.1 p1letter).bind fun r1 => (m_i_Automaton_move (q1.1, q1.2.1, q1.2.2) p0s.2 p1letter).bind fun r2 => some (r1, r2)
def m_i_combine (p0a : Int × (List Bool) × (List (List Int))) (p1b : Int × (List Bool) × (List (List Int))) (p2test : Bool → Bool → Option Bool) : Option ((Int × (List Bool) × (List (List Int))) × Bool) :=
  (m_i_IsValidAutomaton (p0a.1, p0a.2.1, p0a.2.2)).bind fun r1 => if r1 then ((m_i_IsValidAutomaton (p1b.1, p1b.2.1, p1b.2.2)).bind fun r2 => if r2 then ((m_i_together (p0a.1, p0a.2.1, p0a.2.2) (p1b.1, p1b.2.1, p1b.2.2)).bind fun r3 => (m_i_numbered_states (p0a.1, p1b.1) 1000 (fun a0 => m_i_combine_1 a0 p2test (p0a.1, p0a.2.1, p0a.2.2) (p1b.1, p1b.2.1, p1b.2.2)) (fun a0 a1 => m_i_combine_2 a0 a1 (fun a0 a1 => m_i_together_1 a0 a1 (p0a.1, p0a.2.1, p0a.2.2) (p1b.1, p1b.2.1, p1b.2.2)))).bind fun r4 => (m_i_small (r4.1.1, r4.1.2.1, r4.1.2.2)).bind fun r5 => some ((r5.1.1, r5.1.2.1, r5.1.2.2), r5.2)) else (some ((0, [], []), false))) else (some ((0, [], []), false))
def m_i_ComplementAutomaton_1 (p0x : Bool) (p1_ : Bool) : Option Bool :=
  some (!p0x)
def m_i_ComplementAutomaton (p0a : Int × (List Bool) × (List (List Int))) : Option ((Int × (List Bool) × (List (List Int))) × Bool) :=
  (m_i_combine (p0a.1, p0a.2.1, p0a.2.2) (p0a.1, p0a.2.1, p0a.2.2) (fun a0 a1 => m_i_ComplementAutomaton_1 a0 a1)).bind fun r1 => some ((r1.1.1, r1.1.2.1, r1.1.2.2), r1.2)
def m_w_FnExactComplementAutomaton (p0 : Int × (List Bool) × (List (List Int))) : Option Bool :=
  (m_w_szAutomaton (p0.1, p0.2.1, p0.2.2) 1048576).bind fun r1 => if decide (r1 < 0) then (some true) else ((m_w_toAutomaton (p0.1, p0.2.1, p0.2.2)).bind fun r2 => (m_s_ComplementAutomaton (r2.1, r2.2.1, r2.2.2)).bind fun r3 => (m_w_toAutomaton (p0.1, p0.2.1, p0.2.2)).bind fun r4 => (m_i_ComplementAutomaton (r4.1, r4.2.1, r4.2.2)).bind fun r5 => (m_w_eqAutomaton (r5.1.1, r5.1.2.1, r5.1.2.2) (r3.1.1, r3.1.2.1, r3.1.2.2)).bind fun r6 => if r6 then (if r5.2 != r3.2 then (some false) else ((m_w_toAutomaton (p0.1, p0.2.1, p0.2.2)).bind fun r7 => (m_w_eqAutomaton (r4.1, r4.2.1, r4.2.2) (r7.1, r7.2.1, r7.2.2)).bind fun r8 => if r8 then ((m_w_markAutomaton (r4.1, r4.2.1, r4.2.2) 1).bind fun r9 => if decide (r9.1 < 0) then (some false) else ((m_w_eqAutomaton (r5.1.1, r5.1.2.1, r5.1.2.2) (r3.1.1, r3.1.2.1, r3.1.2.2)).bind fun r10 => if r10 then ((m_w_markAutomaton (r5.1.1, r5.1.2.1, r5.1.2.2) 1).bind fun r11 => (m_w_heldAutomaton (r5.1.1, r11.2.1, r11.2.2) 1).bind fun r12 => if decide (r12 < 0) then (some false) else (if r12 != r11.1 then (some false) else ((m_w_toAutomaton (p0.1, p0.2.1, p0.2.2)).bind fun r13 => (m_i_ComplementAutomaton (r13.1, r13.2.1, r13.2.2)).bind fun r14 => (m_w_eqAutomaton (r14.1.1, r14.1.2.1, r14.1.2.2) (r3.1.1, r3.1.2.1, r3.1.2.2)).bind fun r15 => if r15 then (if r14.2 != r3.2 then (some false) else ((m_w_heldAutomaton (r5.1.1, r11.2.1, r11.2.2) 1).bind fun r16 => if decide (r16 < 0) then (some false) else (if r16 != r11.1 then (some false) else (some true)))) else (some false)))) else (some false))) else (some false))) else (some false))
theorem ti25 : TI Try.prog 25 true 3 := ⟨⟨_, Try.underlying25, rfl⟩, by kernel_rfl⟩
theorem en12 : Enters Try.prog 12 := enters_of Try.func12 (by kernel_rfl) rfl
theorem en14 : Enters Try.prog 14 := enters_of Try.func14 (by kernel_rfl) rfl
theorem en37 : Enters Try.prog 37 := enters_of Try.func37 (by kernel_rfl) rfl
theorem tz27 : TZ Try.prog 27 (.agg #[.int .i64 0, .slice none 0 0, .slice none 0 0]) 3 56 := by unfold TZ; kernel_rfl
theorem ti27 : TI Try.prog 27 true 3 := ⟨⟨_, Try.underlying27, rfl⟩, by kernel_rfl⟩
theorem en38 : Enters Try.prog 38 := enters_of Try.func38 (by kernel_rfl) rfl
theorem en16 : Enters Try.prog 16 := enters_of Try.func16 (by kernel_rfl) rfl
theorem en17 : Enters Try.prog 17 := enters_of Try.func17 (by kernel_rfl) rfl
theorem en18 : Enters Try.prog 18 := enters_of Try.func18 (by kernel_rfl) rfl
theorem tf25_1 : TF Try.prog 25 1 1 0 := ⟨_, _, Try.underlying25, rfl, rfl, by kernel_rfl⟩
theorem ti22 : TI Try.prog 22 false 1 := ⟨⟨_, Try.underlying22, rfl⟩, by kernel_rfl⟩
theorem en44 : Enters Try.prog 44 := enters_of Try.func44 (by kernel_rfl) rfl
theorem tf25_2 : TF Try.prog 25 2 2 0 := ⟨_, _, Try.underlying25, rfl, rfl, by kernel_rfl⟩
theorem ti23 : TI Try.prog 23 false 1 := ⟨⟨_, Try.underlying23, rfl⟩, by kernel_rfl⟩
theorem en45 : Enters Try.prog 45 := enters_of Try.func45 (by kernel_rfl) rfl
theorem ti34 : TI Try.prog 34 false 1 := ⟨⟨_, Try.underlying34, rfl⟩, by kernel_rfl⟩
theorem en63 : Enters Try.prog 63 := enters_of Try.func63 (by kernel_rfl) rfl
theorem tf25_0 : TF Try.prog 25 0 0 0 := ⟨_, _, Try.underlying25, rfl, rfl, by kernel_rfl⟩
theorem ti3 : TI Try.prog 3 false 1 := ⟨⟨_, Try.underlying3, rfl⟩, by kernel_rfl⟩
theorem tf27_0 : TF Try.prog 27 0 0 0 := ⟨_, _, Try.underlying27, rfl, rfl, by kernel_rfl⟩
theorem en49 : Enters Try.prog 49 := enters_of Try.func49 (by kernel_rfl) rfl
theorem tf27_1 : TF Try.prog 27 1 1 0 := ⟨_, _, Try.underlying27, rfl, rfl, by kernel_rfl⟩
theorem en50 : Enters Try.prog 50 := enters_of Try.func50 (by kernel_rfl) rfl
theorem tf27_2 : TF Try.prog 27 2 2 0 := ⟨_, _, Try.underlying27, rfl, rfl, by kernel_rfl⟩
theorem tz4 : TZ Try.prog 4 (.bool false) 1 1 := by unfold TZ; kernel_rfl
theorem ti4 : TI Try.prog 4 false 1 := ⟨⟨_, Try.underlying4, rfl⟩, by kernel_rfl⟩
theorem tz34 : TZ Try.prog 34 (.slice none 0 0) 1 24 := by unfold TZ; kernel_rfl
theorem en66 : Enters Try.prog 66 := enters_of Try.func66 (by kernel_rfl) rfl
theorem tz3 : TZ Try.prog 3 (.int .i64 0) 1 8 := by unfold TZ; kernel_rfl
theorem en53 : Enters Try.prog 53 := enters_of Try.func53 (by kernel_rfl) rfl
theorem en54 : Enters Try.prog 54 := enters_of Try.func54 (by kernel_rfl) rfl
theorem en69 : Enters Try.prog 69 := enters_of Try.func69 (by kernel_rfl) rfl
theorem en55 : Enters Try.prog 55 := enters_of Try.func55 (by kernel_rfl) rfl
theorem en56 : Enters Try.prog 56 := enters_of Try.func56 (by kernel_rfl) rfl
theorem en102 : Enters Try.prog 102 := enters_of Try.func102 (by kernel_rfl) rfl
theorem en57 : Enters Try.prog 57 := enters_of Try.func57 (by kernel_rfl) rfl
theorem en58 : Enters Try.prog 58 := enters_of Try.func58 (by kernel_rfl) rfl
theorem en103 : Enters Try.prog 103 := enters_of Try.func103 (by kernel_rfl) rfl
theorem en76 : Enters Try.prog 76 := enters_of Try.func76 (by kernel_rfl) rfl
theorem en71 : Enters Try.prog 71 := enters_of Try.func71 (by kernel_rfl) rfl
theorem en46 : Enters Try.prog 46 := enters_of Try.func46 (by kernel_rfl) rfl
theorem tb27 : TB Try.prog 27 [(0, 1), (1, 1), (2, 1)] := ⟨_, Try.underlying27, by kernel_rfl⟩
theorem en122 : Enters Try.prog 122 := enters_of Try.func122 (by kernel_rfl) rfl
theorem en60 : Enters Try.prog 60 := enters_of Try.func60 (by kernel_rfl) rfl
theorem en92 : Enters Try.prog 92 := enters_of Try.func92 (by kernel_rfl) rfl
theorem en146 : Enters Try.prog 146 := enters_of Try.func146 (by kernel_rfl) rfl
theorem en105 : Enters Try.prog 105 := enters_of Try.func105 (by kernel_rfl) rfl
theorem en48 : Enters Try.prog 48 := enters_of Try.func48 (by kernel_rfl) rfl
theorem en47 : Enters Try.prog 47 := enters_of Try.func47 (by kernel_rfl) rfl
theorem en93 : Enters Try.prog 93 := enters_of Try.func93 (by kernel_rfl) rfl
theorem en94 : Enters Try.prog 94 := enters_of Try.func94 (by kernel_rfl) rfl
theorem en150 : Enters Try.prog 150 := enters_of Try.func150 (by kernel_rfl) rfl
theorem en104 : Enters Try.prog 104 := enters_of Try.func104 (by kernel_rfl) rfl
theorem en162 : Enters Try.prog 162 := enters_of Try.func162 (by kernel_rfl) rfl
theorem en164 : Enters Try.prog 164 := enters_of Try.func164 (by kernel_rfl) rfl
theorem en163 : Enters Try.prog 163 := enters_of Try.func163 (by kernel_rfl) rfl
def fn100 (w0 : World) (I : Hp) (v : Value) (f : Bool → Bool → Option Bool) : Prop := IsFn v ∧ ∀ J, I.le J → ∀ (a0 : Bool) (a1 : Bool) (r : Bool), f a0 a1 = some r → Clo Try.prog w0 J v [.bool a0, .bool a1] (fun v => v = .bool r) (fun v => [])
theorem fn100_mono {w0 : World} {I J : Hp} {v : Value} {f : Bool → Bool → Option Bool} (h : fn100 w0 I v f) (k : I.le J) : fn100 w0 J v f := ⟨h.1, fun J' h' => h.2 J' (Hp.le.trans k h')⟩
theorem en77 : Enters Try.prog 77 := enters_of Try.func77 (by kernel_rfl) rfl
theorem en72 : Enters Try.prog 72 := enters_of Try.func72 (by kernel_rfl) rfl
theorem en51 : Enters Try.prog 51 := enters_of Try.func51 (by kernel_rfl) rfl
theorem en123 : Enters Try.prog 123 := enters_of Try.func123 (by kernel_rfl) rfl
theorem tz133 : TZ Try.prog 133 (.nilFunc) 1 8 := by unfold TZ; kernel_rfl
theorem ti133 : TI Try.prog 133 false 1 := ⟨⟨_, Try.underlying133, rfl⟩, by kernel_rfl⟩
theorem tb137 : TB Try.prog 137 [(0, 1), (1, 1)] := ⟨_, Try.underlying137, by kernel_rfl⟩
theorem tz137 : TZ Try.prog 137 (.agg #[.int .i64 0, .int .i64 0]) 2 16 := by unfold TZ; kernel_rfl
def fn138 (w0 : World) (I : Hp) (v : Value) (f : (Int × Int) → Option Bool) : Prop := IsFn v ∧ ∀ J, I.le J → ∀ (a0 : Int × Int) (r : Bool), f a0 = some r → Clo Try.prog w0 J v [.agg #[.int .i64 a0.1, .int .i64 a0.2]] (fun v => v = .bool r) (fun v => [])
theorem fn138_mono {w0 : World} {I J : Hp} {v : Value} {f : (Int × Int) → Option Bool} (h : fn138 w0 I v f) (k : I.le J) : fn138 w0 J v f := ⟨h.1, fun J' h' => h.2 J' (Hp.le.trans k h')⟩
theorem en125 : Enters Try.prog 125 := enters_of Try.func125 (by kernel_rfl) rfl
def fn139 (w0 : World) (I : Hp) (v : Value) (f : (Int × Int) → Int → Option ((Int × Int) × Bool)) : Prop := IsFn v ∧ ∀ J, I.le J → ∀ (a0 : Int × Int) (a1 : Int) (r : (Int × Int) × Bool), f a0 a1 = some r → Clo Try.prog w0 J v [.agg #[.int .i64 a0.1, .int .i64 a0.2], .int .i64 a1] (fun v => v = .tuple #[.agg #[.int .i64 r.1.1, .int .i64 r.1.2], .bool r.2]) (fun v => [])
theorem fn139_mono {w0 : World} {I J : Hp} {v : Value} {f : (Int × Int) → Int → Option ((Int × Int) × Bool)} (h : fn139 w0 I v f) (k : I.le J) : fn139 w0 J v f := ⟨h.1, fun J' h' => h.2 J' (Hp.le.trans k h')⟩
def fn133 (w0 : World) (I : Hp) (v : Value) (f : (Int × Int) → Int → Option ((Int × Int))) : Prop := IsFn v ∧ ∀ J, I.le J → ∀ (a0 : Int × Int) (a1 : Int) (r : Int × Int), f a0 a1 = some r → Clo Try.prog w0 J v [.agg #[.int .i64 a0.1, .int .i64 a0.2], .int .i64 a1] (fun v => v = .agg #[.int .i64 r.1, .int .i64 r.2]) (fun v => [])
theorem fn133_mono {w0 : World} {I J : Hp} {v : Value} {f : (Int × Int) → Int → Option ((Int × Int))} (h : fn133 w0 I v f) (k : I.le J) : fn133 w0 J v f := ⟨h.1, fun J' h' => h.2 J' (Hp.le.trans k h')⟩
theorem en165 : Enters Try.prog 165 := enters_of Try.func165 (by kernel_rfl) rfl
theorem en126 : Enters Try.prog 126 := enters_of Try.func126 (by kernel_rfl) rfl
theorem en124 : Enters Try.prog 124 := enters_of Try.func124 (by kernel_rfl) rfl
theorem en127 : Enters Try.prog 127 := enters_of Try.func127 (by kernel_rfl) rfl
theorem en95 : Enters Try.prog 95 := enters_of Try.func95 (by kernel_rfl) rfl
theorem ti137 : TI Try.prog 137 true 2 := ⟨⟨_, Try.underlying137, rfl⟩, by kernel_rfl⟩
theorem laidOut : laidOutB Try.prog = true := by kernel_rfl
theorem kii137 : KII Try.prog 137 := ⟨_, _, Try.underlying137, by decide, rfl, rfl, Try.underlying3, Try.underlying3, by kernel_rfl, by kernel_rfl, by kernel_rfl, by kernel_rfl, Try.prog.types.size - 1, by kernel_rfl⟩
theorem kk137 : KeyOk Try.prog 137 (fun x : Int × Int => Value.agg #[.int .i64 x.1, .int .i64 x.2]) iiLit iiOk := kk_ii kii137 (Go.deep_law_laid laidOut (m := 2) (by omega) (of_decide_eq_true (by kernel_rfl)) (by kernel_rfl) (by rw [Try.underlying137]))
theorem mz3 (w : World) : (zeroValue 3).run Try.prog w = .ok (.int .i64 0) w := by kernel_rfl
theorem ek3 : EltOk Try.prog 3 (fun n : Int => Value.int .i64 n) iLit iOk 0 := ek_int Try.underlying3 mz3
theorem ti100 : TI Try.prog 100 false 1 := ⟨⟨_, Try.underlying100, rfl⟩, by kernel_rfl⟩
theorem tf137_0 : TF Try.prog 137 0 0 0 := ⟨_, _, Try.underlying137, rfl, rfl, by kernel_rfl⟩
theorem en99 : Enters Try.prog 99 := enters_of Try.func99 (by kernel_rfl) rfl
theorem tf137_1 : TF Try.prog 137 1 1 0 := ⟨_, _, Try.underlying137, rfl, rfl, by kernel_rfl⟩
theorem en62 : Enters Try.prog 62 := enters_of Try.func62 (by kernel_rfl) rfl
theorem en110 : Enters Try.prog 110 := enters_of Try.func110 (by kernel_rfl) rfl
theorem tz122 : TZ Try.prog 122 (.nilFunc) 1 8 := by unfold TZ; kernel_rfl
theorem ti122 : TI Try.prog 122 false 1 := ⟨⟨_, Try.underlying122, rfl⟩, by kernel_rfl⟩
def fn115 (w0 : World) (I : Hp) (v : Value) (f : Int → Option Bool) : Prop := IsFn v ∧ ∀ J, I.le J → ∀ (a0 : Int) (r : Bool), f a0 = some r → Clo Try.prog w0 J v [.int .i64 a0] (fun v => v = .bool r) (fun v => [])
theorem fn115_mono {w0 : World} {I J : Hp} {v : Value} {f : Int → Option Bool} (h : fn115 w0 I v f) (k : I.le J) : fn115 w0 J v f := ⟨h.1, fun J' h' => h.2 J' (Hp.le.trans k h')⟩
def fn122 (w0 : World) (I : Hp) (v : Value) (f : Int → Option Int) : Prop := IsFn v ∧ ∀ J, I.le J → ∀ (a0 : Int) (r : Int), f a0 = some r → Clo Try.prog w0 J v [.int .i64 a0] (fun v => v = .int .i64 r) (fun v => [])
theorem fn122_mono {w0 : World} {I J : Hp} {v : Value} {f : Int → Option Int} (h : fn122 w0 I v f) (k : I.le J) : fn122 w0 J v f := ⟨h.1, fun J' h' => h.2 J' (Hp.le.trans k h')⟩
theorem en111 : Enters Try.prog 111 := enters_of Try.func111 (by kernel_rfl) rfl
theorem en113 : Enters Try.prog 113 := enters_of Try.func113 (by kernel_rfl) rfl
def fn117 (w0 : World) (I : Hp) (v : Value) (f : Int → Int → Option (Int × Bool)) : Prop := IsFn v ∧ ∀ J, I.le J → ∀ (a0 : Int) (a1 : Int) (r : Int × Bool), f a0 a1 = some r → Clo Try.prog w0 J v [.int .i64 a0, .int .i64 a1] (fun v => v = .tuple #[.int .i64 r.1, .bool r.2]) (fun v => [])
theorem fn117_mono {w0 : World} {I J : Hp} {v : Value} {f : Int → Int → Option (Int × Bool)} (h : fn117 w0 I v f) (k : I.le J) : fn117 w0 J v f := ⟨h.1, fun J' h' => h.2 J' (Hp.le.trans k h')⟩
theorem en114 : Enters Try.prog 114 := enters_of Try.func114 (by kernel_rfl) rfl
theorem en98 : Enters Try.prog 98 := enters_of Try.func98 (by kernel_rfl) rfl
theorem en97 : Enters Try.prog 97 := enters_of Try.func97 (by kernel_rfl) rfl
theorem en148 : Enters Try.prog 148 := enters_of Try.func148 (by kernel_rfl) rfl
theorem en171 : Enters Try.prog 171 := enters_of Try.func171 (by kernel_rfl) rfl
theorem en188 : Enters Try.prog 188 := enters_of Try.func188 (by kernel_rfl) rfl
theorem kk3 : KeyOk Try.prog 3 (fun n : Int => Value.int .i64 n) iLit iOk := kk_int Try.underlying3
theorem en96 : Enters Try.prog 96 := enters_of Try.func96 (by kernel_rfl) rfl
theorem en151 : Enters Try.prog 151 := enters_of Try.func151 (by kernel_rfl) rfl
theorem en147 : Enters Try.prog 147 := enters_of Try.func147 (by kernel_rfl) rfl
def fn203 (w0 : World) (I : Hp) (v : Value) (f : (List Int) → Option Bool) : Prop := IsFn v ∧ ∀ J, I.le J → ∀ (a0 : List Int) (r : Bool), f a0 = some r → ∀ (h0 : Value), (rSlice 3 rInt).rd J [h0] a0 → Clo Try.prog w0 J v [h0] (fun v => v = .bool r) (fun v => [])
theorem fn203_mono {w0 : World} {I J : Hp} {v : Value} {f : (List Int) → Option Bool} (h : fn203 w0 I v f) (k : I.le J) : fn203 w0 J v f := ⟨h.1, fun J' h' => h.2 J' (Hp.le.trans k h')⟩
theorem en173 : Enters Try.prog 173 := enters_of Try.func173 (by kernel_rfl) rfl
theorem en172 : Enters Try.prog 172 := enters_of Try.func172 (by kernel_rfl) rfl
theorem en109 : Enters Try.prog 109 := enters_of Try.func109 (by kernel_rfl) rfl
theorem en112 : Enters Try.prog 112 := enters_of Try.func112 (by kernel_rfl) rfl
theorem en101 : Enters Try.prog 101 := enters_of Try.func101 (by kernel_rfl) rfl
theorem en149 : Enters Try.prog 149 := enters_of Try.func149 (by kernel_rfl) rfl

end Go.Proofs.Ytcihbmdppgpmjaa.D
