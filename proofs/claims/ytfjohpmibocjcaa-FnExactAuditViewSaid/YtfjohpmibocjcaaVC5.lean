/- FnExactAuditView: for every input the law returns true and changes nothing that was there. Part 6 of 7. -/
import Derived.Test.YtfjohpmibocjcaaVC4
set_option linter.unusedVariables false
set_option linter.unusedSimpArgs false
set_option linter.unnecessarySimpa false
set_option linter.unusedSectionVars false
/- Printed by lp.py: what the functions compute, as data. -/
set_option linter.unusedVariables false
set_option maxRecDepth 1000000
namespace Go.Proofs.Ytfjohpmibocjcaa.D
open Go.RowKit
def m_w_szIntS (p0a : List Int) (p1left : Int) : Option Int :=
  if decide (IntKind.i64.wrap (p1left - (p0a.length : Int)) < 0) then (some (-1)) else (some (IntKind.i64.wrap (p1left - (p0a.length : Int))))
def m_w_szEdgeS (p0a : List (Int × Int × Int × Int)) (p1left : Int) : Option Int :=
  if decide (IntKind.i64.wrap (p1left - (p0a.length : Int)) < 0) then (some (-1)) else (some (IntKind.i64.wrap (p1left - (p0a.length : Int))))
def m_w_szGraph (p0a : (List Int) × (List (Int × Int × Int × Int))) (p1left : Int) : Option Int :=
  (m_w_szIntS p0a.1 p1left).bind fun r1 => if decide (r1 < 0) then (some (-1)) else ((m_w_szEdgeS p0a.2 r1).bind fun r2 => if decide (r2 < 0) then (some (-1)) else (some r2))
def m_w_szBoolS (p0a : List Bool) (p1left : Int) : Option Int :=
  if decide (IntKind.i64.wrap (p1left - (p0a.length : Int)) < 0) then (some (-1)) else (some (IntKind.i64.wrap (p1left - (p0a.length : Int))))
def m_w_szIntSS_l0 (p0a : List (List Int)) (s3 : Int × Int) : Option (Out Int (Int × Int)) :=
  if decide (s3.2 < (p0a.length : Int)) then ((getI p0a s3.2).bind fun x3 => (m_w_szIntS x3 s3.1).bind fun r6 => if decide (r6 < 0) then (some (.ret (-1))) else (some (.nxt (r6, IntKind.i64.wrap (s3.2 + 1))))) else (some (.brk (s3.1, s3.2)))
def m_w_szIntSS (p0a : List (List Int)) (p1left : Int) : Option Int :=
  if decide (IntKind.i64.wrap (p1left - (p0a.length : Int)) < 0) then (some (-1)) else (bindL (loopM (m_w_szIntSS_l0 p0a) FUEL (IntKind.i64.wrap (p1left - (p0a.length : Int)), 0)) (fun r => some r) (fun s4 => some s4.1))
def m_w_szAutomaton (p0a : Int × (List Bool) × (List (List Int))) (p1left : Int) : Option Int :=
  (m_w_szBoolS p0a.2.1 p1left).bind fun r1 => if decide (r1 < 0) then (some (-1)) else ((m_w_szIntSS p0a.2.2 r1).bind fun r2 => if decide (r2 < 0) then (some (-1)) else (some r2))
def m_w_szView (p0a : (Int × (List Bool) × (List (List Int))) × Int × (List Int) × (List Int)) (p1left : Int) : Option Int :=
  (m_w_szAutomaton (p0a.1.1, p0a.1.2.1, p0a.1.2.2) p1left).bind fun r1 => if decide (r1 < 0) then (some (-1)) else ((m_w_szIntS p0a.2.2.1 r1).bind fun r2 => if decide (r2 < 0) then (some (-1)) else ((m_w_szIntS p0a.2.2.2 r2).bind fun r3 => if decide (r3 < 0) then (some (-1)) else (some r3)))
def m_s_l1In (p0x : Int) (p1low : Int) (p2high : Int) : Option Bool :=
  if decide (p0x ≥ p1low) then (some (decide (p0x ≤ p2high))) else (some false)
def m_s_l3Edge (p0g : (List Int) × (List (Int × Int × Int × Int))) (p1e : Int × Int × Int × Int) : Option Bool :=
  (m_s_l1In p1e.1 1 99).bind fun r1 => if r1 then ((m_s_l1In p1e.2.1 0 (IntKind.i64.wrap ((p0g.1.length : Int) - 1))).bind fun r2 => if r2 then ((m_s_l1In p1e.2.2.1 0 (IntKind.i64.wrap ((p0g.1.length : Int) - 1))).bind fun r3 => if r3 then ((m_s_l1In p1e.2.2.2 0 2).bind fun r4 => some r4) else (some false)) else (some false)) else (some false)
def m_s_IsValidGraph_l0 (p0g : (List Int) × (List (Int × Int × Int × Int))) (s3 : Int) : Option (Out Bool Int) :=
  if decide (s3 < (p0g.1.length : Int)) then ((getI p0g.1 s3).bind fun x3 => (m_s_l1In x3 0 2).bind fun r3 => if r3 then (some (.nxt (IntKind.i64.wrap (s3 + 1)))) else (some (.ret false))) else (some (.brk s3))
def m_s_IsValidGraph_l1 (p0g : (List Int) × (List (Int × Int × Int × Int))) (s7 : Int) : Option (Out Bool Int) :=
  if decide (s7 < (p0g.2.length : Int)) then ((getI p0g.2 s7).bind fun x10 => (m_s_l3Edge (p0g.1, p0g.2) (x10.1, x10.2.1, x10.2.2.1, x10.2.2.2)).bind fun r6 => if r6 then (if decide (s7 > 0) then ((getI p0g.2 (IntKind.i64.wrap (s7 - 1))).bind fun x11 => (getI p0g.2 s7).bind fun x12 => if decide (x11.1 ≥ x12.1) then (some (.ret false)) else (some (.nxt (IntKind.i64.wrap (s7 + 1))))) else (some (.nxt (IntKind.i64.wrap (s7 + 1))))) else (some (.ret false))) else (some (.brk s7))
def m_s_IsValidGraph (p0g : (List Int) × (List (Int × Int × Int × Int))) : Option Bool :=
  bindL (loopM (m_s_IsValidGraph_l0 p0g) FUEL 0) (fun r => some r) (fun s4 => bindL (loopM (m_s_IsValidGraph_l1 p0g) FUEL 0) (fun r => some r) (fun s8 => (m_s_l1In (p0g.1.length : Int) 1 5).bind fun r7 => if r7 then (some (decide ((p0g.2.length : Int) ≤ 12))) else (some false)))
def m_s_l11Fits_l1 (p0a : Int × (List Bool) × (List (List Int))) (s11 : Int) (s15 : Int) : Option (Out Bool Int) :=
  if decide (s15 < 9) then ((getI p0a.2.2 s11).bind fun x20 => (getI x20 s15).bind fun x21 => (m_s_l1In x21 (-1) (IntKind.i64.wrap ((p0a.2.1.length : Int) - 1))).bind fun r22 => if r22 then (some (.nxt (IntKind.i64.wrap (s15 + 1)))) else (some (.ret false))) else (some (.brk s15))
def m_s_l11Fits_l0 (p0a : Int × (List Bool) × (List (List Int))) (s11 : Int) : Option (Out Bool Int) :=
  if decide (s11 < (p0a.2.1.length : Int)) then ((getI p0a.2.2 s11).bind fun x15 => if (x15.length : Int) != 9 then (some (.ret false)) else (bindL (loopM (m_s_l11Fits_l1 p0a s11) FUEL 0) (fun r => some (.ret r)) (fun s16 => some (.nxt (IntKind.i64.wrap (s11 + 1)))))) else (some (.brk s11))
def m_s_l11Fits (p0a : Int × (List Bool) × (List (List Int))) : Option Bool :=
  (m_s_l1In p0a.1 0 (IntKind.i64.wrap ((p0a.2.1.length : Int) - 1))).bind fun r1 => if r1 then (if (p0a.2.2.length : Int) != (p0a.2.1.length : Int) then (some false) else (bindL (loopM (m_s_l11Fits_l0 p0a) FUEL 0) (fun r => some r) (fun s12 => some true))) else (some false)
def m_s_IsValidAutomaton (p0a : Int × (List Bool) × (List (List Int))) : Option Bool :=
  if decide ((p0a.2.1.length : Int) ≤ 12) then ((m_s_l11Fits (p0a.1, p0a.2.1, p0a.2.2)).bind fun r1 => some r1) else (some false)
def m_s_l14Good (p0g : (List Int) × (List (Int × Int × Int × Int))) (p1a : Int × (List Bool) × (List (List Int))) (p2node : Int) (p3s : Int) : Option Bool :=
  (m_s_IsValidGraph (p0g.1, p0g.2)).bind fun r1 => if r1 then ((m_s_IsValidAutomaton (p1a.1, p1a.2.1, p1a.2.2)).bind fun r2 => if r2 then ((m_s_l1In p2node 0 (IntKind.i64.wrap ((p0g.1.length : Int) - 1))).bind fun r3 => if r3 then ((m_s_l1In p3s 0 (IntKind.i64.wrap ((p1a.2.1.length : Int) - 1))).bind fun r4 => some r4) else (some false)) else (some false)) else (some false)
def m_s_l11Copy_l0 (p0a : Int × (List Bool) × (List (List Int))) (s3 : Int × Int × (List Bool) × (List (List Int))) : Option (Out (Int × (List Bool) × (List (List Int))) (Int × Int × (List Bool) × (List (List Int)))) :=
  if decide (s3.1 < (p0a.2.2.length : Int)) then ((getI p0a.2.2 s3.1).bind fun x3 => (appI 8 ([] : List Int) x3).bind fun z6 => (appI 24 s3.2.2.2 ([z6])).bind fun z7 => some (.nxt (IntKind.i64.wrap (s3.1 + 1), s3.2.1, s3.2.2.1, z7))) else (some (.brk (s3.1, s3.2.1, s3.2.2.1, s3.2.2.2)))
def m_s_l11Copy (p0a : Int × (List Bool) × (List (List Int))) : Option (Int × (List Bool) × (List (List Int))) :=
  (appI 1 ([] : List Bool) p0a.2.1).bind fun z1 => bindL (loopM (m_s_l11Copy_l0 p0a) FUEL (0, p0a.1, z1, [])) (fun r => some r) (fun s4 => some (s4.2.1, s4.2.2.1, s4.2.2.2))
def m_s_l14Closure_l0 (p0a : Int × (List Bool) × (List (List Int))) (p2v : Int) (s3 : Int × Int) : Option (Out Int (Int × Int)) :=
  if decide (s3.1 ≥ 0) then ((chk (0 ≤ s3.1)).bind fun _ => if (andI (shrI s3.2 s3.1) 1) == 0 then ((chk (0 ≤ s3.1)).bind fun _ => (getI p0a.2.2 s3.1).bind fun x5 => (getI x5 (IntKind.i64.wrap (6 + p2v))).bind fun x6 => some (.nxt (x6, orI s3.2 (shlI 1 s3.1)))) else (some (.brk (s3.1, s3.2)))) else (some (.brk (s3.1, s3.2)))
def m_s_l14Closure (p0a : Int × (List Bool) × (List (List Int))) (p1s : Int) (p2v : Int) : Option Int :=
  bindL (loopM (m_s_l14Closure_l0 p0a p2v) FUEL (p1s, 0)) (fun r => some r) (fun s4 => some s4.2)
def m_s_l4From_l0 (p0g : (List Int) × (List (Int × Int × Int × Int))) (p1node : Int) (s9 : (List (Int × Bool)) × Int) : Option (Out (List (Int × Bool)) ((List (Int × Bool)) × Int)) :=
  if decide (s9.2 < (p0g.2.length : Int)) then (Option.bind ((Option.bind (((getI p0g.2 s9.2).bind fun x33 => if x33.2.1 == p1node then ((getI p0g.2 s9.2).bind fun x34 => (appI 16 s9.1 ([(x34.1, false)])).bind fun z17 => some z17) else (some s9.1) : Option (List (Int × Bool)))) (fun s13 => (getI p0g.2 s9.2).bind fun x35 => if x35.2.2.1 == p1node then ((getI p0g.2 s9.2).bind fun x36 => (appI 16 s13 ([(x36.1, true)])).bind fun z18 => some z18) else (some s13)) : Option (List (Int × Bool)))) (fun s12 => some (.nxt (s12, IntKind.i64.wrap (s9.2 + 1))))) else (some (.brk (s9.1, s9.2)))
def m_s_l4From (p0g : (List Int) × (List (Int × Int × Int × Int))) (p1node : Int) : Option (List (Int × Bool)) :=
  bindL (loopM (m_s_l4From_l0 p0g p1node) FUEL (([] : List (Int × Bool)), 0)) (fun r => some r) (fun s10 => some s10.1)
def m_s_EdgeIndex_l0 (p0g : (List Int) × (List (Int × Int × Int × Int))) (p1id : Int) (s3 : Int) : Option (Out Int Int) :=
  if decide (s3 < (p0g.2.length : Int)) then ((getI p0g.2 s3).bind fun x3 => if x3.1 == p1id then (some (.ret s3)) else (some (.nxt (IntKind.i64.wrap (s3 + 1))))) else (some (.brk s3))
def m_s_EdgeIndex (p0g : (List Int) × (List (Int × Int × Int × Int))) (p1id : Int) : Option Int :=
  bindL (loopM (m_s_EdgeIndex_l0 p0g p1id) FUEL 0) (fun r => some r) (fun s4 => some (-1))
def m_s_l14Letter (p0e : Int × Int × Int × Int) (p1inverse : Bool) : Option Int :=
  if p1inverse then (some (IntKind.i64.wrap ((IntKind.i64.wrap (2 * p0e.2.2.2)) + 1))) else (some (IntKind.i64.wrap (2 * p0e.2.2.2)))
def m_s_l14To (p0e : Int × Int × Int × Int) (p1inverse : Bool) : Option Int :=
  if p1inverse then (some p0e.2.1) else (some p0e.2.2.1)
def m_s_l14Steps_l1 (p1 : Int × (List Bool) × (List (List Int))) (r1 : Int) (r2 : List (Int × Bool)) (s31 : (List ((Int × Bool) × Int × Int)) × Int) (x67 : Int × Int × Int × Int) (s37 : Int × Int) : Option (Out (List ((Int × Bool) × Int × Int)) (Int × Int)) :=
  if decide (s37.2 < (p1.2.1.length : Int)) then (Option.bind (((getI p1.2.2 s37.2).bind fun x83 => (getI r2 s31.2).bind fun x84 => (m_s_l14Letter (x67.1, x67.2.1, x67.2.2.1, x67.2.2.2) x84.2).bind fun r53 => (getI x83 r53).bind fun x85 => (chk (0 ≤ s37.2)).bind fun _ => if (andI (shrI r1 s37.2) 1) == 1 then (if decide (x85 ≥ 0) then ((chk (0 ≤ x85)).bind fun _ => some (orI s37.1 (shlI 1 x85))) else (some s37.1)) else (some s37.1) : Option Int)) (fun s39 => some (.nxt (s39, IntKind.i64.wrap (s37.2 + 1))))) else (some (.brk (s37.1, s37.2)))
def m_s_l14Steps_l2 (p1 : Int × (List Bool) × (List (List Int))) (r2 : List (Int × Bool)) (s31 : (List ((Int × Bool) × Int × Int)) × Int) (x67 : Int × Int × Int × Int) (s38 : Int × Int) (s44 : (List ((Int × Bool) × Int × Int)) × Int) : Option (Out (List ((Int × Bool) × Int × Int)) ((List ((Int × Bool) × Int × Int)) × Int)) :=
  if decide (s44.2 < (p1.2.1.length : Int)) then (Option.bind (((chk (0 ≤ s44.2)).bind fun _ => if (andI (shrI s38.1 s44.2) 1) == 1 then ((getI r2 s31.2).bind fun x96 => (getI r2 s31.2).bind fun x97 => (m_s_l14To (x67.1, x67.2.1, x67.2.2.1, x67.2.2.2) x97.2).bind fun r59 => (appI 32 s44.1 ([((x96.1, x96.2), r59, s44.2)])).bind fun z18 => some z18) else (some s44.1) : Option (List ((Int × Bool) × Int × Int)))) (fun s46 => some (.nxt (s46, IntKind.i64.wrap (s44.2 + 1))))) else (some (.brk (s44.1, s44.2)))
def m_s_l14Steps_l0 (p0 : (List Int) × (List (Int × Int × Int × Int))) (p1 : Int × (List Bool) × (List (List Int))) (r1 : Int) (r2 : List (Int × Bool)) (s31 : (List ((Int × Bool) × Int × Int)) × Int) : Option (Out (List ((Int × Bool) × Int × Int)) ((List ((Int × Bool) × Int × Int)) × Int)) :=
  if decide (s31.2 < (r2.length : Int)) then ((getI r2 s31.2).bind fun x66 => (m_s_EdgeIndex (p0.1, p0.2) x66.1).bind fun r41 => (getI p0.2 r41).bind fun x67 => bindL (loopM (m_s_l14Steps_l1 p1 r1 r2 s31 x67) FUEL (0, 0)) (fun r => some (.ret r)) (fun s38 => bindL (loopM (m_s_l14Steps_l2 p1 r2 s31 x67 s38) FUEL (s31.1, 0)) (fun r => some (.ret r)) (fun s45 => some (.nxt (s45.1, IntKind.i64.wrap (s31.2 + 1)))))) else (some (.brk (s31.1, s31.2)))
def m_s_l14Steps (p0 : (List Int) × (List (Int × Int × Int × Int))) (p1 : Int × (List Bool) × (List (List Int))) (p2 : Int) (p3 : Int) : Option (List ((Int × Bool) × Int × Int)) :=
  (getI p0.1 p2).bind fun x1 => (m_s_l14Closure (p1.1, p1.2.1, p1.2.2) p3 x1).bind fun r1 => (m_s_l4From (p0.1, p0.2) p2).bind fun r2 => bindL (loopM (m_s_l14Steps_l0 p0 p1 r1 r2) FUEL (([] : List ((Int × Bool) × Int × Int)), 0)) (fun r => some r) (fun s32 => some s32.1)
def m_s_l14Ranks_l0 (p0 : (List Int) × (List (Int × Int × Int × Int))) (p1 : Int × (List Bool) × (List (List Int))) (s3 : (List Int) × Int) : Option (Out (List Int) ((List Int) × Int)) :=
  if decide (s3.2 < IntKind.i64.wrap ((p0.1.length : Int) * (p1.2.1.length : Int))) then ((appI 8 s3.1 ([-1])).bind fun z3 => some (.nxt (z3, IntKind.i64.wrap (s3.2 + 1)))) else (some (.brk (s3.1, s3.2)))
def m_s_l14Ranks_l2 (p1 : Int × (List Bool) × (List (List Int))) (s21 : (List Int) × (List Int) × Int) (r3 : List ((Int × Bool) × Int × Int)) (s27 : (List Int) × (List Int) × Int) : Option (Out (List Int) ((List Int) × (List Int) × Int)) :=
  if decide (s27.2.2 < (r3.length : Int)) then (Option.bind (((getI r3 s27.2.2).bind fun x111 => (getI r3 s27.2.2).bind fun x112 => (getI s27.1 (IntKind.i64.wrap ((IntKind.i64.wrap (x111.2.1 * (p1.2.1.length : Int))) + x112.2.2))).bind fun x113 => if decide (x113 < 0) then ((getI s27.2.1 s21.2.2).bind fun x114 => (getI s27.1 x114).bind fun x115 => (getI s27.1 (IntKind.i64.wrap ((IntKind.i64.wrap (x111.2.1 * (p1.2.1.length : Int))) + x112.2.2))).bind fun x116 => (appI 8 s27.2.1 ([IntKind.i64.wrap ((IntKind.i64.wrap (x111.2.1 * (p1.2.1.length : Int))) + x112.2.2)])).bind fun z21 => some (s27.1.set (IntKind.i64.wrap ((IntKind.i64.wrap (x111.2.1 * (p1.2.1.length : Int))) + x112.2.2)).toNat (IntKind.i64.wrap (x115 + 1)), z21)) else (some (s27.1, s27.2.1)) : Option ((List Int) × (List Int)))) (fun s29 => some (.nxt (s29.1, s29.2, IntKind.i64.wrap (s27.2.2 + 1))))) else (some (.brk (s27.1, s27.2.1, s27.2.2)))
def m_s_l14Ranks_l1 (p0 : (List Int) × (List (Int × Int × Int × Int))) (p1 : Int × (List Bool) × (List (List Int))) (s21 : (List Int) × (List Int) × Int) : Option (Out (List Int) ((List Int) × (List Int) × Int)) :=
  if decide (s21.2.2 < (s21.2.1.length : Int)) then ((getI s21.2.1 s21.2.2).bind fun x79 => (chk ((p1.2.1.length : Int) ≠ 0)).bind fun _ => (getI s21.2.1 s21.2.2).bind fun x80 => (chk ((p1.2.1.length : Int) ≠ 0)).bind fun _ => (m_s_l14Steps (p0.1, p0.2) (p1.1, p1.2.1, p1.2.2) (quoI x79 (p1.2.1.length : Int)) (Int.tmod x80 (p1.2.1.length : Int))).bind fun r3 => bindL (loopM (m_s_l14Ranks_l2 p1 s21 r3) FUEL (s21.1, s21.2.1, 0)) (fun r => some (.ret r)) (fun s28 => some (.nxt (s28.1, s28.2.1, IntKind.i64.wrap (s21.2.2 + 1))))) else (some (.brk (s21.1, s21.2.1, s21.2.2)))
def m_s_l14Ranks (p0 : (List Int) × (List (Int × Int × Int × Int))) (p1 : Int × (List Bool) × (List (List Int))) (p2 : Int) : Option (List Int) :=
  bindL (loopM (m_s_l14Ranks_l0 p0 p1) FUEL (([] : List Int), 0)) (fun r => some r) (fun s4 => (getI ([IntKind.i64.wrap ((IntKind.i64.wrap (p2 * (p1.2.1.length : Int))) + p1.1)]) 0).bind fun x1 => (getI s4.1 x1).bind fun x2 => bindL (loopM (m_s_l14Ranks_l1 p0 p1) FUEL (s4.1.set x1.toNat 0, [IntKind.i64.wrap ((IntKind.i64.wrap (p2 * (p1.2.1.length : Int))) + p1.1)], 0)) (fun r => some r) (fun s22 => some s22.1))
def m_s_l27Build_l1 (p1 : Int × (List Bool) × (List (List Int))) (s17 : Int × Int × (List Bool) × (List (List Int)) × Int × (List Int) × (List Int)) (r5 : List ((Int × Bool) × Int × Int)) (s23 : Int × Int × (List Bool) × (List (List Int)) × Int × (List Int) × (List Int)) : Option (Out ((Int × (List Bool) × (List (List Int))) × Int × (List Int) × (List Int)) (Int × Int × (List Bool) × (List (List Int)) × Int × (List Int) × (List Int))) :=
  if decide (s23.1 < (r5.length : Int)) then ((getI s23.2.2.2.2.2.1 s17.1).bind fun x106 => if decide (x106 ≥ 0) then (Option.bind (((getI r5 s23.1).bind fun x113 => (getI r5 s23.1).bind fun x114 => (getI s23.2.2.2.2.2.1 (IntKind.i64.wrap ((IntKind.i64.wrap (x113.2.1 * (p1.2.1.length : Int))) + x114.2.2))).bind fun x115 => (getI s23.2.2.2.2.2.1 s17.1).bind fun x116 => if x115 == (IntKind.i64.wrap (x116 + 1)) then ((getI s23.2.2.2.2.2.2 (IntKind.i64.wrap ((IntKind.i64.wrap (x113.2.1 * (p1.2.1.length : Int))) + x114.2.2))).bind fun x117 => (getI s23.2.2.2.2.2.2 (IntKind.i64.wrap ((IntKind.i64.wrap (x113.2.1 * (p1.2.1.length : Int))) + x114.2.2))).bind fun x118 => some (s23.2.1, s23.2.2.1, s23.2.2.2.1, s23.2.2.2.2.1, s23.2.2.2.2.2.1, s23.2.2.2.2.2.2.set (IntKind.i64.wrap ((IntKind.i64.wrap (x113.2.1 * (p1.2.1.length : Int))) + x114.2.2)).toNat (IntKind.i64.wrap (x117 + 1)))) else (some (s23.2.1, s23.2.2.1, s23.2.2.2.1, s23.2.2.2.2.1, s23.2.2.2.2.2.1, s23.2.2.2.2.2.2)) : Option (Int × (List Bool) × (List (List Int)) × Int × (List Int) × (List Int)))) (fun s25 => some (.nxt (IntKind.i64.wrap (s23.1 + 1), s25.1, s25.2.1, s25.2.2.1, s25.2.2.2.1, s25.2.2.2.2.1, s25.2.2.2.2.2)))) else (some (.brk (s23.1, s23.2.1, s23.2.2.1, s23.2.2.2.1, s23.2.2.2.2.1, s23.2.2.2.2.2.1, s23.2.2.2.2.2.2)))) else (some (.brk (s23.1, s23.2.1, s23.2.2.1, s23.2.2.2.1, s23.2.2.2.2.1, s23.2.2.2.2.2.1, s23.2.2.2.2.2.2)))
def m_s_l27Build_l0 (p0 : (List Int) × (List (Int × Int × Int × Int))) (p1 : Int × (List Bool) × (List (List Int))) (s17 : Int × Int × (List Bool) × (List (List Int)) × Int × (List Int) × (List Int)) : Option (Out ((Int × (List Bool) × (List (List Int))) × Int × (List Int) × (List Int)) (Int × Int × (List Bool) × (List (List Int)) × Int × (List Int) × (List Int))) :=
  if decide (s17.1 < (s17.2.2.2.2.2.1.length : Int)) then ((chk ((p1.2.1.length : Int) ≠ 0)).bind fun _ => (chk ((p1.2.1.length : Int) ≠ 0)).bind fun _ => (m_s_l14Steps (p0.1, p0.2) (p1.1, p1.2.1, p1.2.2) (quoI s17.1 (p1.2.1.length : Int)) (Int.tmod s17.1 (p1.2.1.length : Int))).bind fun r5 => bindL (loopM (m_s_l27Build_l1 p1 s17 r5) FUEL (0, s17.2.1, s17.2.2.1, s17.2.2.2.1, s17.2.2.2.2.1, s17.2.2.2.2.2.1, s17.2.2.2.2.2.2)) (fun r => some (.ret r)) (fun s24 => some (.nxt (IntKind.i64.wrap (s17.1 + 1), s24.2.1, s24.2.2.1, s24.2.2.2.1, s24.2.2.2.2.1, s24.2.2.2.2.2.1, s24.2.2.2.2.2.2)))) else (some (.brk (s17.1, s17.2.1, s17.2.2.1, s17.2.2.2.1, s17.2.2.2.2.1, s17.2.2.2.2.2.1, s17.2.2.2.2.2.2)))
def m_s_l27Build (p0 : (List Int) × (List (Int × Int × Int × Int))) (p1 : Int × (List Bool) × (List (List Int))) (p2 : Int) : Option ((Int × (List Bool) × (List (List Int))) × Int × (List Int) × (List Int)) :=
  (m_s_l11Copy (p1.1, p1.2.1, p1.2.2)).bind fun r1 => (m_s_l14Ranks (p0.1, p0.2) (p1.1, p1.2.1, p1.2.2) p2).bind fun r2 => (mkI 8 (r2.length : Int) (0 : Int)).bind fun x1 => bindL (loopM (m_s_l27Build_l0 p0 p1) FUEL (0, r1.1, r1.2.1, r1.2.2, p2, r2, x1)) (fun r => some r) (fun s18 => some ((s18.2.1, s18.2.2.1, s18.2.2.2.1), s18.2.2.2.2.1, s18.2.2.2.2.2.1, s18.2.2.2.2.2.2))
def m_s_BuildView (p0g : (List Int) × (List (Int × Int × Int × Int))) (p1a : Int × (List Bool) × (List (List Int))) (p2source : Int) : Option (((Int × (List Bool) × (List (List Int))) × Int × (List Int) × (List Int)) × Bool) :=
  (m_s_l14Good (p0g.1, p0g.2) (p1a.1, p1a.2.1, p1a.2.2) p2source 0).bind fun r1 => if r1 then ((m_s_l27Build (p0g.1, p0g.2) (p1a.1, p1a.2.1, p1a.2.2) p2source).bind fun r2 => some (((r2.1.1, r2.1.2.1, r2.1.2.2), r2.2.1, r2.2.2.1, r2.2.2.2), true)) else (some (((0, [], []), 0, [], []), false))
def m_s_AuditView_l0 (p1 : (Int × (List Bool) × (List (List Int))) × Int × (List Int) × (List Int)) (r1 : ((Int × (List Bool) × (List (List Int))) × Int × (List Int) × (List Int)) × Bool) (s3 : Int) : Option (Out Int Int) :=
  if decide (s3 < (r1.1.2.2.1.length : Int)) then ((getI r1.1.2.2.1 s3).bind fun x9 => (getI p1.2.2.1 s3).bind fun x10 => if x9 != x10 then (some (.ret s3)) else ((getI r1.1.2.2.2 s3).bind fun x11 => (getI p1.2.2.2 s3).bind fun x12 => if x11 != x12 then (some (.ret s3)) else (some (.nxt (IntKind.i64.wrap (s3 + 1)))))) else (some (.brk s3))
def m_s_AuditView (p0 : (List Int) × (List (Int × Int × Int × Int))) (p1 : (Int × (List Bool) × (List (List Int))) × Int × (List Int) × (List Int)) : Option Int :=
  (m_s_BuildView (p0.1, p0.2) (p1.1.1, p1.1.2.1, p1.1.2.2) p1.2.1).bind fun r1 => if r1.2 then (if (p1.2.2.1.length : Int) != (r1.1.2.2.1.length : Int) then (some (-2)) else (if (p1.2.2.2.length : Int) != (r1.1.2.2.1.length : Int) then (some (-2)) else (bindL (loopM (m_s_AuditView_l0 p1 r1) FUEL 0) (fun r => some r) (fun s4 => some (-1))))) else (some (-2))
def m_w_toIntS_l0 (p0a : List Int) (s3 : (List Int) × Int) : Option (Out (List Int) ((List Int) × Int)) :=
  if decide (s3.2 < (p0a.length : Int)) then ((getI p0a s3.2).bind fun x6 => (getI s3.1 s3.2).bind fun x7 => some (.nxt (s3.1.set s3.2.toNat x6, IntKind.i64.wrap (s3.2 + 1)))) else (some (.brk (s3.1, s3.2)))
def m_w_toIntS (p0a : List Int) : Option (List Int) :=
  (mkI 8 (p0a.length : Int) (0 : Int)).bind fun x1 => bindL (loopM (m_w_toIntS_l0 p0a) FUEL (x1, 0)) (fun r => some r) (fun s4 => some s4.1)
def m_w_toEdge (p0a : Int × Int × Int × Int) : Option (Int × Int × Int × Int) :=
  some (p0a.1, p0a.2.1, p0a.2.2.1, p0a.2.2.2)
def m_w_toEdgeS_l0 (p0a : List (Int × Int × Int × Int)) (s3 : (List (Int × Int × Int × Int)) × Int) : Option (Out (List (Int × Int × Int × Int)) ((List (Int × Int × Int × Int)) × Int)) :=
  if decide (s3.2 < (p0a.length : Int)) then ((getI p0a s3.2).bind fun x6 => (m_w_toEdge (x6.1, x6.2.1, x6.2.2.1, x6.2.2.2)).bind fun r3 => (getI s3.1 s3.2).bind fun x7 => some (.nxt (s3.1.set s3.2.toNat (r3.1, r3.2.1, r3.2.2.1, r3.2.2.2), IntKind.i64.wrap (s3.2 + 1)))) else (some (.brk (s3.1, s3.2)))
def m_w_toEdgeS (p0a : List (Int × Int × Int × Int)) : Option (List (Int × Int × Int × Int)) :=
  (mkI 32 (p0a.length : Int) ((0, 0, 0, 0) : Int × Int × Int × Int)).bind fun x1 => bindL (loopM (m_w_toEdgeS_l0 p0a) FUEL (x1, 0)) (fun r => some r) (fun s4 => some s4.1)
def m_w_toGraph (p0a : (List Int) × (List (Int × Int × Int × Int))) : Option ((List Int) × (List (Int × Int × Int × Int))) :=
  (m_w_toIntS p0a.1).bind fun r1 => (m_w_toEdgeS p0a.2).bind fun r2 => some (r1, r2)
def m_w_toBoolS_l0 (p0a : List Bool) (s3 : (List Bool) × Int) : Option (Out (List Bool) ((List Bool) × Int)) :=
  if decide (s3.2 < (p0a.length : Int)) then ((getI p0a s3.2).bind fun x6 => (getI s3.1 s3.2).bind fun x7 => some (.nxt (s3.1.set s3.2.toNat x6, IntKind.i64.wrap (s3.2 + 1)))) else (some (.brk (s3.1, s3.2)))
def m_w_toBoolS (p0a : List Bool) : Option (List Bool) :=
  (mkI 1 (p0a.length : Int) (false : Bool)).bind fun x1 => bindL (loopM (m_w_toBoolS_l0 p0a) FUEL (x1, 0)) (fun r => some r) (fun s4 => some s4.1)
def m_w_toIntSS_l0 (p0a : List (List Int)) (s3 : (List (List Int)) × Int) : Option (Out (List (List Int)) ((List (List Int)) × Int)) :=
  if decide (s3.2 < (p0a.length : Int)) then ((getI p0a s3.2).bind fun x6 => (m_w_toIntS x6).bind fun r6 => (getI s3.1 s3.2).bind fun x7 => some (.nxt (s3.1.set s3.2.toNat r6, IntKind.i64.wrap (s3.2 + 1)))) else (some (.brk (s3.1, s3.2)))
def m_w_toIntSS (p0a : List (List Int)) : Option (List (List Int)) :=
  (mkI 24 (p0a.length : Int) ([] : List Int)).bind fun x1 => bindL (loopM (m_w_toIntSS_l0 p0a) FUEL (x1, 0)) (fun r => some r) (fun s4 => some s4.1)
def m_w_toAutomaton (p0a : Int × (List Bool) × (List (List Int))) : Option (Int × (List Bool) × (List (List Int))) :=
  (m_w_toBoolS p0a.2.1).bind fun r1 => (m_w_toIntSS p0a.2.2).bind fun r2 => some (p0a.1, r1, r2)
def m_w_toView (p0a : (Int × (List Bool) × (List (List Int))) × Int × (List Int) × (List Int)) : Option ((Int × (List Bool) × (List (List Int))) × Int × (List Int) × (List Int)) :=
  (m_w_toAutomaton (p0a.1.1, p0a.1.2.1, p0a.1.2.2)).bind fun r1 => (m_w_toIntS p0a.2.2.1).bind fun r2 => (m_w_toIntS p0a.2.2.2).bind fun r3 => some ((r1.1, r1.2.1, r1.2.2), p0a.2.1, r2, r3)
def m_i_reads (p0e : Int × Int × Int × Int) (p1inverse : Bool) : Option Int :=
  if p1inverse then (some (IntKind.i64.wrap ((IntKind.i64.wrap (2 * p0e.2.2.2)) + 1))) else (some (IntKind.i64.wrap (2 * p0e.2.2.2)))
def m_i_arcs_l0 (p0g : (List Int) × List (Int × Int × Int × Int)) (s3 : Int × List (List ((Int × Bool) × Int × Int))) : Option (Out (List (List ((Int × Bool) × Int × Int))) (Int × List (List ((Int × Bool) × Int × Int)))) :=
  if decide (s3.1 < (p0g.2.length : Int)) then ((getI p0g.2 s3.1).bind fun x4 => (getI s3.2 x4.2.1).bind fun x11 => (m_i_reads (x4.1, x4.2.1, x4.2.2.1, x4.2.2.2) false).bind fun r12 => (appI 32 x11 ([((x4.1, false), r12, x4.2.2.1)])).bind fun z13 => (getI s3.2 x4.2.1).bind fun x14 => (chk (x4.2.1 < ((s3.2.set x4.2.1.toNat ([] : List ((Int × Bool) × Int × Int))).length : Int))).bind fun _ => (chk (x4.2.1 = x4.2.1)).bind fun _ => (getI (s3.2.set x4.2.1.toNat z13) x4.2.2.1).bind fun x23 => (m_i_reads (x4.1, x4.2.1, x4.2.2.1, x4.2.2.2) true).bind fun r24 => (appI 32 x23 ([((x4.1, true), r24, x4.2.1)])).bind fun z25 => (getI (s3.2.set x4.2.1.toNat z13) x4.2.2.1).bind fun x26 => (chk (x4.2.2.1 < (((s3.2.set x4.2.1.toNat z13).set x4.2.2.1.toNat ([] : List ((Int × Bool) × Int × Int))).length : Int))).bind fun _ => (chk (x4.2.2.1 = x4.2.2.1)).bind fun _ => some (.nxt (IntKind.i64.wrap (s3.1 + 1), (s3.2.set x4.2.1.toNat z13).set x4.2.2.1.toNat z25))) else (some (.brk (s3.1, s3.2)))
def m_i_arcs (p0g : (List Int) × List (Int × Int × Int × Int)) : Option (List (List ((Int × Bool) × Int × Int))) :=
  (mkI 24 (p0g.1.length : Int) ([] : List ((Int × Bool) × Int × Int))).bind fun z0 => bindL (loopM (m_i_arcs_l0 p0g) FUEL (0, z0)) (fun r29 => some r29) (fun s30 => some s30.2)
def m_i_members_l0 (p0set : Int) (s5 : (List Int) × Int) : Option (Out (List Int) ((List Int) × Int)) :=
  (chk (0 ≤ s5.2)).bind fun _ => if (shrI p0set s5.2) != 0 then (Option.bind (((chk (0 ≤ s5.2)).bind fun _ => if (andI (shrI p0set s5.2) 1) == 1 then ((appI 8 s5.1 ([s5.2])).bind fun z6 => some z6) else (some s5.1) : Option (List Int))) (fun s7 => some (.nxt (s7, IntKind.i64.wrap (s5.2 + 1))))) else (some (.brk (s5.1, s5.2)))
def m_i_members (p0set : Int) : Option (List Int) :=
  bindL (loopM (m_i_members_l0 p0set) FUEL (([] : List Int), 0)) (fun r => some r) (fun s6 => some s6.1)
def m_i_within (p0n : Int) (p1a : Int) (p2b : Int) : Option Bool :=
  if decide (p0n ≥ p1a) then (some (decide (p0n ≤ p2b))) else (some false)
def m_i_isLetter (p0n : Int) : Option Bool :=
  (m_i_within p0n 0 8).bind fun r1 => some r1
def m_i_Automaton_move (p0a : Int × (List Bool) × (List (List Int))) (p1s : Int) (p2letter : Int) : Option Int :=
  if decide (p1s < 0) then (some (-1)) else ((m_i_isLetter p2letter).bind fun r1 => if r1 then ((getI p0a.2.2 p1s).bind fun x1 => (getI x1 p2letter).bind fun x2 => some x2) else (some (-1)))
def m_i_closure_l0 (p0a : Int × (List Bool) × (List (List Int))) (p2value : Int) (s3 : Int × Int) : Option (Out Int (Int × Int)) :=
  if decide (s3.2 ≥ 0) then ((chk (0 ≤ s3.2)).bind fun _ => if (andI (shrI s3.1 s3.2) 1) == 0 then ((chk (0 ≤ s3.2)).bind fun _ => (m_i_Automaton_move (p0a.1, p0a.2.1, p0a.2.2) s3.2 (IntKind.i64.wrap (6 + p2value))).bind fun r3 => some (.nxt (orI s3.1 (shlI 1 s3.2), r3))) else (some (.brk (s3.1, s3.2)))) else (some (.brk (s3.1, s3.2)))
def m_i_closure (p0a : Int × (List Bool) × (List (List Int))) (p1state : Int) (p2value : Int) : Option Int :=
  bindL (loopM (m_i_closure_l0 p0a p2value) FUEL (0, p1state)) (fun r => some r) (fun s4 => some s4.1)
def m_i_after_l1 (p0a : Int × (List Bool) × (List (List Int))) (p3letter : Int) (r19 : List Int) (s23 : Int × Int) : Option (Out Int (Int × Int)) :=
  if decide (s23.2 < (r19.length : Int)) then (Option.bind (((getI r19 s23.2).bind fun x21 => (m_i_Automaton_move (p0a.1, p0a.2.1, p0a.2.2) x21 p3letter).bind fun r25 => if decide (r25 ≥ 0) then ((chk (0 ≤ r25)).bind fun _ => some (orI s23.1 (shlI 1 r25))) else (some s23.1) : Option Int)) (fun s25 => some (.nxt (s25, IntKind.i64.wrap (s23.2 + 1))))) else (some (.brk (s23.1, s23.2)))
def m_i_after_l0 (p0a : Int × (List Bool) × (List (List Int))) (p2value : Int) (p3letter : Int) (r1 : List Int) (s17 : Int × Int) : Option (Out Int (Int × Int)) :=
  if decide (s17.2 < (r1.length : Int)) then ((getI r1 s17.2).bind fun x15 => (m_i_closure (p0a.1, p0a.2.1, p0a.2.2) x15 p2value).bind fun r18 => (m_i_members r18).bind fun r19 => bindL (loopM (m_i_after_l1 p0a p3letter r19) FUEL (s17.1, 0)) (fun r => some (.ret r)) (fun s24 => some (.nxt (s24.1, IntKind.i64.wrap (s17.2 + 1))))) else (some (.brk (s17.1, s17.2)))
def m_i_after (p0a : Int × (List Bool) × (List (List Int))) (p1set : Int) (p2value : Int) (p3letter : Int) : Option Int :=
  (m_i_members p1set).bind fun r1 => bindL (loopM (m_i_after_l0 p0a p2value p3letter r1) FUEL (0, 0)) (fun r => some r) (fun s18 => some s18.1)
def m_i_nextVertices_l3 (p1 : Int × (List Bool) × List (List Int)) (s4 : Int × List (List Int)) (s7 : Int × List (List Int)) (x10 : (Int × Bool) × Int × Int) (r18 : List Int) (s20 : Int × List (List Int)) : Option (Out (List (List Int)) (Int × List (List Int))) :=
  if decide (s20.1 < (r18.length : Int)) then ((getI r18 s20.1).bind fun x21 => (getI s20.2 (IntKind.i64.wrap ((IntKind.i64.wrap (s4.1 * (p1.2.1.length : Int))) + s7.1))).bind fun x27 => (appI 8 x27 ([IntKind.i64.wrap ((IntKind.i64.wrap (x10.2.2 * (p1.2.1.length : Int))) + x21)])).bind fun z28 => (getI s20.2 (IntKind.i64.wrap ((IntKind.i64.wrap (s4.1 * (p1.2.1.length : Int))) + s7.1))).bind fun x29 => (chk ((IntKind.i64.wrap ((IntKind.i64.wrap (s4.1 * (p1.2.1.length : Int))) + s7.1)) < ((s20.2.set ((IntKind.i64.wrap ((IntKind.i64.wrap (s4.1 * (p1.2.1.length : Int))) + s7.1)).toNat) ([] : List Int)).length : Int))).bind fun _ => (chk ((IntKind.i64.wrap ((IntKind.i64.wrap (s4.1 * (p1.2.1.length : Int))) + s7.1)) = (IntKind.i64.wrap ((IntKind.i64.wrap (s4.1 * (p1.2.1.length : Int))) + s7.1)))).bind fun _ => some (.nxt (IntKind.i64.wrap (s20.1 + 1), s20.2.set ((IntKind.i64.wrap ((IntKind.i64.wrap (s4.1 * (p1.2.1.length : Int))) + s7.1)).toNat) z28))) else (some (.brk (s20.1, s20.2)))
def m_i_nextVertices_l2 (p0 : (List Int) × List (Int × Int × Int × Int)) (p1 : Int × (List Bool) × List (List Int)) (s4 : Int × List (List Int)) (x5 : List ((Int × Bool) × Int × Int)) (s7 : Int × List (List Int)) (s9 : Int × List (List Int)) : Option (Out (List (List Int)) (Int × List (List Int))) :=
  if decide (s9.1 < (x5.length : Int)) then ((getI x5 s9.1).bind fun x10 => (chk (0 ≤ s7.1)).bind fun _ => (getI p0.1 s4.1).bind fun x16 => (m_i_after (p1.1, p1.2.1, p1.2.2) (shlI 1 s7.1) x16 x10.2.1).bind fun r17 => (m_i_members r17).bind fun r18 => bindL (loopM (m_i_nextVertices_l3 p1 s4 s7 x10 r18) FUEL (0, s9.2)) (fun r32 => some (.ret r32)) (fun s33 => some (.nxt (IntKind.i64.wrap (s9.1 + 1), s33.2)))) else (some (.brk (s9.1, s9.2)))
def m_i_nextVertices_l1 (p0 : (List Int) × List (Int × Int × Int × Int)) (p1 : Int × (List Bool) × List (List Int)) (s4 : Int × List (List Int)) (x5 : List ((Int × Bool) × Int × Int)) (s7 : Int × List (List Int)) : Option (Out (List (List Int)) (Int × List (List Int))) :=
  if decide (s7.1 < (p1.2.1.length : Int)) then (bindL (loopM (m_i_nextVertices_l2 p0 p1 s4 x5 s7) FUEL (0, s7.2)) (fun r34 => some (.ret r34)) (fun s35 => some (.nxt (IntKind.i64.wrap (s7.1 + 1), s35.2)))) else (some (.brk (s7.1, s7.2)))
def m_i_nextVertices_l0 (p0 : (List Int) × List (Int × Int × Int × Int)) (p1 : Int × (List Bool) × List (List Int)) (r1 : List (List ((Int × Bool) × Int × Int))) (s4 : Int × List (List Int)) : Option (Out (List (List Int)) (Int × List (List Int))) :=
  if decide (s4.1 < (r1.length : Int)) then ((getI r1 s4.1).bind fun x5 => bindL (loopM (m_i_nextVertices_l1 p0 p1 s4 x5) FUEL (0, s4.2)) (fun r36 => some (.ret r36)) (fun s37 => some (.nxt (IntKind.i64.wrap (s4.1 + 1), s37.2)))) else (some (.brk (s4.1, s4.2)))
def m_i_nextVertices (p0 : (List Int) × List (Int × Int × Int × Int)) (p1 : Int × (List Bool) × List (List Int)) : Option (List (List Int)) :=
  (mkI 24 (IntKind.i64.wrap ((p1.2.1.length : Int) * (p0.1.length : Int))) ([] : List Int)).bind fun z0 => (m_i_arcs (p0.1, p0.2)).bind fun r1 => bindL (loopM (m_i_nextVertices_l0 p0 p1 r1) FUEL (0, z0)) (fun r38 => some r38) (fun s39 => some s39.2)
def m_i_edgeOk (p0e : Int × Int × Int × Int) (p1nodes : Int) : Option Bool :=
  (m_i_within p0e.1 1 99).bind fun r1 => if r1 then ((m_i_within p0e.2.1 0 (IntKind.i64.wrap (p1nodes - 1))).bind fun r2 => if r2 then ((m_i_within p0e.2.2.1 0 (IntKind.i64.wrap (p1nodes - 1))).bind fun r3 => if r3 then ((m_i_within p0e.2.2.2 0 2).bind fun r4 => some r4) else (some false)) else (some false)) else (some false)
def m_i_IsValidGraph_l0 (p0g : (List Int) × (List (Int × Int × Int × Int))) (s3 : Int) : Option (Out Bool Int) :=
  if decide (s3 < (p0g.1.length : Int)) then ((getI p0g.1 s3).bind fun x3 => (m_i_within x3 0 2).bind fun r3 => if r3 then (some (.nxt (IntKind.i64.wrap (s3 + 1)))) else (some (.ret false))) else (some (.brk s3))
def m_i_IsValidGraph_l1 (p0g : (List Int) × (List (Int × Int × Int × Int))) (s7 : Int) : Option (Out Bool Int) :=
  if decide (s7 < (p0g.2.length : Int)) then ((getI p0g.2 s7).bind fun x8 => (m_i_edgeOk (x8.1, x8.2.1, x8.2.2.1, x8.2.2.2) (p0g.1.length : Int)).bind fun r6 => if r6 then (if decide (s7 > 0) then ((getI p0g.2 (IntKind.i64.wrap (s7 - 1))).bind fun x9 => if decide (x9.1 ≥ x8.1) then (some (.ret false)) else (some (.nxt (IntKind.i64.wrap (s7 + 1))))) else (some (.nxt (IntKind.i64.wrap (s7 + 1))))) else (some (.ret false))) else (some (.brk s7))
def m_i_IsValidGraph (p0g : (List Int) × (List (Int × Int × Int × Int))) : Option Bool :=
  bindL (loopM (m_i_IsValidGraph_l0 p0g) FUEL 0) (fun r => some r) (fun s4 => bindL (loopM (m_i_IsValidGraph_l1 p0g) FUEL 0) (fun r => some r) (fun s8 => (m_i_within (p0g.1.length : Int) 1 5).bind fun r7 => if r7 then (some (decide ((p0g.2.length : Int) ≤ 12))) else (some false)))
def m_i_IsValidAutomaton_l1 (p0a : Int × (List Bool) × (List (List Int))) (x9 : List Int) (s15 : Int) : Option (Out Bool Int) :=
  if decide (s15 < (x9.length : Int)) then ((getI x9 s15).bind fun x12 => (m_i_within x12 (-1) (IntKind.i64.wrap ((p0a.2.1.length : Int) - 1))).bind fun r14 => if r14 then (some (.nxt (IntKind.i64.wrap (s15 + 1)))) else (some (.ret false))) else (some (.brk s15))
def m_i_IsValidAutomaton_l0 (p0a : Int × (List Bool) × (List (List Int))) (s11 : Int) : Option (Out Bool Int) :=
  if decide (s11 < (p0a.2.2.length : Int)) then ((getI p0a.2.2 s11).bind fun x9 => bindL (loopM (m_i_IsValidAutomaton_l1 p0a x9) FUEL 0) (fun r => some (.ret r)) (fun s16 => if (x9.length : Int) != 9 then (some (.ret false)) else (some (.nxt (IntKind.i64.wrap (s11 + 1)))))) else (some (.brk s11))
def m_i_IsValidAutomaton (p0a : Int × (List Bool) × (List (List Int))) : Option Bool :=
  (m_i_within (p0a.2.1.length : Int) 1 12).bind fun r1 => if r1 then ((m_i_within p0a.1 0 (IntKind.i64.wrap ((p0a.2.1.length : Int) - 1))).bind fun r2 => if r2 then (if (p0a.2.2.length : Int) != (p0a.2.1.length : Int) then (some false) else (bindL (loopM (m_i_IsValidAutomaton_l0 p0a) FUEL 0) (fun r => some r) (fun s12 => some true))) else (some false)) else (some false)
def m_i_bothOk_l0 (p0g : (List Int) × (List (Int × Int × Int × Int))) (p2nodes : List Int) (s3 : Int) : Option (Out Bool Int) :=
  if decide (s3 < (p2nodes.length : Int)) then ((getI p2nodes s3).bind fun x3 => (m_i_within x3 0 (IntKind.i64.wrap ((p0g.1.length : Int) - 1))).bind fun r3 => if r3 then (some (.nxt (IntKind.i64.wrap (s3 + 1)))) else (some (.ret false))) else (some (.brk s3))
def m_i_bothOk (p0g : (List Int) × (List (Int × Int × Int × Int))) (p1a : Int × (List Bool) × (List (List Int))) (p2nodes : List Int) : Option Bool :=
  bindL (loopM (m_i_bothOk_l0 p0g p2nodes) FUEL 0) (fun r => some r) (fun s4 => (m_i_IsValidGraph (p0g.1, p0g.2)).bind fun r4 => if r4 then ((m_i_IsValidAutomaton (p1a.1, p1a.2.1, p1a.2.2)).bind fun r5 => some r5) else (some false))
def m_g_math_bits_Mul32 (p0x : Int) (p1y : Int) : Option (Int × Int) :=
  some (IntKind.u32.wrap (shrI (IntKind.u64.wrap ((IntKind.u64.wrap p0x) * (IntKind.u64.wrap p1y))) 32), IntKind.u32.wrap (IntKind.u64.wrap ((IntKind.u64.wrap p0x) * (IntKind.u64.wrap p1y))))
def m_g_math_bits_Mul64 (p0x : Int) (p1y : Int) : Option (Int × Int) :=
  some (IntKind.u64.wrap ((IntKind.u64.wrap ((IntKind.u64.wrap ((shrI p0x 32) * (shrI p1y 32))) + (shrI (IntKind.u64.wrap ((IntKind.u64.wrap ((shrI p0x 32) * (andU p1y 4294967295))) + (shrI (IntKind.u64.wrap ((andU p0x 4294967295) * (andU p1y 4294967295))) 32))) 32))) + (shrI (IntKind.u64.wrap ((andU (IntKind.u64.wrap ((IntKind.u64.wrap ((shrI p0x 32) * (andU p1y 4294967295))) + (shrI (IntKind.u64.wrap ((andU p0x 4294967295) * (andU p1y 4294967295))) 32))) 4294967295) + (IntKind.u64.wrap ((andU p0x 4294967295) * (shrI p1y 32))))) 32)), IntKind.u64.wrap (p0x * p1y))
def m_g_math_bits_Mul (p0x : Int) (p1y : Int) : Option (Int × Int) :=
  (m_g_math_bits_Mul64 p0x p1y).bind fun r1 => some (r1.1, r1.2)
def m_g_slices_Repeat_S_int_int_l0 (s4 : Int × List Int) : Option (Out (List Int) (Int × List Int)) :=
  if decide (s4.1 < (s4.2.length : Int)) then ((chk (And (0 ≤ s4.1) (s4.1 ≤ (s4.2.length : Int)))).bind fun _ => (chk (And (0 ≤ s4.1) (s4.1 ≤ (s4.2.length : Int)))).bind fun _ => (chk (And (0 ≤ s4.1) (s4.1 ≤ (s4.2.length : Int)))).bind fun _ => (chk (And (0 ≤ s4.1) (s4.1 ≤ (s4.2.length : Int)))).bind fun _ => some (.nxt (IntKind.i64.wrap (s4.1 + ((Min.min ((s4.2.take s4.1.toNat).length) (s4.2.length - s4.1.toNat) : Nat) : Int)), cpyI s4.2 s4.1.toNat (s4.2.take s4.1.toNat)))) else (some (.brk (s4.1, s4.2)))
def m_g_slices_Repeat_S_int_int (p0x : List Int) (p1count : Int) : Option (List Int) :=
  if decide (p1count < 0) then (none) else ((m_g_math_bits_Mul (IntKind.u64.wrap (p0x.length : Int)) (IntKind.u64.wrap p1count)).bind fun r0 => if decide (r0.1 > 0) then (none) else (if decide (r0.2 > 9223372036854775807) then (none) else ((mkI 8 (IntKind.i64.wrap r0.2) 0).bind fun z1 => bindL (loopM (m_g_slices_Repeat_S_int_int_l0) FUEL (((Min.min p0x.length (z1.length - 0) : Nat) : Int), cpyI z1 0 p0x)) (fun r13 => some r13) (fun s14 => some s14.2))))
def m_i_spread_l0 (p1 : List Int) (s3 : (List Int) × Int × List Int) : Option (Out (List Int) ((List Int) × Int × List Int)) :=
  if decide (s3.2.1 < (p1.length : Int)) then ((getI p1 s3.2.1).bind fun x4 => (getI s3.2.2 x4).bind fun x5 => (appI 8 s3.1 ([x4])).bind fun z6 => some (.nxt (z6, IntKind.i64.wrap (s3.2.1 + 1), s3.2.2.set x4.toNat 0))) else (some (.brk (s3.1, s3.2.1, s3.2.2)))
def m_i_spread_l2 (x13 : List Int) (s15 : (List Int) × Int × List Int) : Option (Out (List Int) ((List Int) × Int × List Int)) :=
  if decide (s15.2.1 < (x13.length : Int)) then (Option.bind (((getI x13 s15.2.1).bind fun x16 => (getI s15.2.2 x16).bind fun x17 => if decide (x17 < 0) then ((getI s15.1 0).bind fun x18 => (getI s15.2.2 x18).bind fun x19 => (getI s15.2.2 x16).bind fun x20 => (appI 8 s15.1 ([x16])).bind fun z21 => some (z21, s15.2.2.set x16.toNat (IntKind.i64.wrap (x19 + 1)))) else (some (s15.1, s15.2.2)) : Option ((List Int) × List Int))) (fun s22 => some (.nxt (s22.1, IntKind.i64.wrap (s15.2.1 + 1), s22.2)))) else (some (.brk (s15.1, s15.2.1, s15.2.2)))
def m_i_spread_l1 (p0 : List (List Int)) (s11 : (List Int) × List Int) : Option (Out (List Int) ((List Int) × List Int)) :=
  if decide ((s11.1.length : Int) > 0) then ((getI s11.1 0).bind fun x12 => (getI p0 x12).bind fun x13 => bindL (loopM (m_i_spread_l2 x13) FUEL (s11.1, 0, s11.2)) (fun r23 => some (.ret r23)) (fun s24 => (chk (And ((0 : Int) ≤ 1) (1 ≤ (s24.1.length : Int)))).bind fun _ => some (.nxt (s24.1.drop 1, s24.2.2)))) else (some (.brk (s11.1, s11.2)))
def m_i_spread (p0 : List (List Int)) (p1 : List Int) : Option (List Int) :=
  (m_g_slices_Repeat_S_int_int ([(-1)]) (p0.length : Int)).bind fun r0 => bindL (loopM (m_i_spread_l0 p1) FUEL (([] : List Int), 0, r0)) (fun r7 => some r7) (fun s8 => bindL (loopM (m_i_spread_l1 p0) FUEL (s8.1, s8.2.2)) (fun r26 => some r26) (fun s27 => some s27.2))
def m_i_DistancesFrom (p0g : (List Int) × List (Int × Int × Int × Int)) (p1a : Int × (List Bool) × List (List Int)) (p2source : Int) : Option (List Int) :=
  (m_i_bothOk (p0g.1, p0g.2) (p1a.1, p1a.2.1, p1a.2.2) ([p2source])).bind fun r0 => if r0 then ((m_i_nextVertices (p0g.1, p0g.2) (p1a.1, p1a.2.1, p1a.2.2)).bind fun r3 => (m_i_spread r3 ([IntKind.i64.wrap ((IntKind.i64.wrap (p2source * (p1a.2.1.length : Int))) + p1a.1)])).bind fun r4 => ((chk (0 < (r4.length : Int))).bind fun _ => some r4).bind fun r6 => some r6) else (some ([] : List Int))
def m_i_copyInts (p0l : List Int) : Option (List Int) :=
  (appI 8 ([] : List Int) p0l).bind fun z1 => some z1
def m_i_copyAutomaton_l0 (p0a : Int × (List Bool) × (List (List Int))) (s3 : Int × Int × (List Bool) × (List (List Int))) : Option (Out (Int × (List Bool) × (List (List Int))) (Int × Int × (List Bool) × (List (List Int)))) :=
  if decide (s3.1 < (p0a.2.2.length : Int)) then ((getI p0a.2.2 s3.1).bind fun x3 => (m_i_copyInts x3).bind fun r6 => (appI 24 s3.2.2.2 ([r6])).bind fun z4 => some (.nxt (IntKind.i64.wrap (s3.1 + 1), s3.2.1, s3.2.2.1, z4))) else (some (.brk (s3.1, s3.2.1, s3.2.2.1, s3.2.2.2)))
def m_i_copyAutomaton (p0a : Int × (List Bool) × (List (List Int))) : Option (Int × (List Bool) × (List (List Int))) :=
  (appI 1 ([] : List Bool) p0a.2.1).bind fun z1 => bindL (loopM (m_i_copyAutomaton_l0 p0a) FUEL (0, p0a.1, z1, [])) (fun r => some r) (fun s4 => some (s4.2.1, s4.2.2.1, s4.2.2.2))
def m_i_BuildView_l1 (r0 : List Int) (s9 : Int × List Int) (x10 : List Int) (s12 : Int × List Int) : Option (Out (((Int × (List Bool) × List (List Int)) × Int × (List Int) × List Int) × Bool) (Int × List Int)) :=
  if decide (s12.1 < (x10.length : Int)) then (Option.bind (((getI x10 s12.1).bind fun x13 => (getI r0 s9.1).bind fun x17 => if decide (x17 ≥ 0) then ((getI r0 s9.1).bind fun x18 => (getI r0 x13).bind fun x19 => if x18 == (IntKind.i64.wrap (x19 - 1)) then ((getI s12.2 x13).bind fun x20 => (getI s12.2 x13).bind fun x21 => some (s12.2.set x13.toNat (IntKind.i64.wrap (x20 + 1)))) else (some s12.2)) else (some s12.2) : Option (List Int))) (fun s22 => some (.nxt (IntKind.i64.wrap (s12.1 + 1), s22)))) else (some (.brk (s12.1, s12.2)))
def m_i_BuildView_l0 (r0 : List Int) (r6 : List (List Int)) (s9 : Int × List Int) : Option (Out (((Int × (List Bool) × List (List Int)) × Int × (List Int) × List Int) × Bool) (Int × List Int)) :=
  if decide (s9.1 < (r6.length : Int)) then ((getI r6 s9.1).bind fun x10 => bindL (loopM (m_i_BuildView_l1 r0 s9 x10) FUEL (0, s9.2)) (fun r23 => some (.ret r23)) (fun s24 => some (.nxt (IntKind.i64.wrap (s9.1 + 1), s24.2)))) else (some (.brk (s9.1, s9.2)))
def m_i_BuildView (p0 : (List Int) × List (Int × Int × Int × Int)) (p1 : Int × (List Bool) × List (List Int)) (p2 : Int) : Option (((Int × (List Bool) × List (List Int)) × Int × (List Int) × List Int) × Bool) :=
  (m_i_DistancesFrom (p0.1, p0.2) (p1.1, p1.2.1, p1.2.2) p2).bind fun r0 => if decide ((r0.length : Int) = 0) then (some (((0, ([] : List Bool), ([] : List (List Int))), 0, ([] : List Int), ([] : List Int)), false)) else ((chk (0 < (r0.length : Int))).bind fun _ => (m_i_copyAutomaton (p1.1, p1.2.1, p1.2.2)).bind fun r4 => (mkI 8 (r0.length : Int) 0).bind fun z5 => (m_i_nextVertices (p0.1, p0.2) (p1.1, p1.2.1, p1.2.2)).bind fun r6 => bindL (loopM (m_i_BuildView_l0 r0 r6) FUEL (0, z5)) (fun r25 => some r25) (fun s26 => some (((r4.1, r4.2.1, r4.2.2), p2, r0, s26.2), true)))
def m_i_AuditView_l0 (p1 : (Int × (List Bool) × (List (List Int))) × Int × (List Int) × (List Int)) (r1 : ((Int × (List Bool) × (List (List Int))) × Int × (List Int) × (List Int)) × Bool) (s3 : Int) : Option (Out Int Int) :=
  if decide (s3 < (r1.1.2.2.1.length : Int)) then ((getI r1.1.2.2.1 s3).bind fun x9 => (getI p1.2.2.1 s3).bind fun x10 => if x9 != x10 then (some (.ret s3)) else ((getI r1.1.2.2.2 s3).bind fun x11 => (getI p1.2.2.2 s3).bind fun x12 => if x11 != x12 then (some (.ret s3)) else (some (.nxt (IntKind.i64.wrap (s3 + 1)))))) else (some (.brk s3))
def m_i_AuditView (p0 : (List Int) × (List (Int × Int × Int × Int))) (p1 : (Int × (List Bool) × (List (List Int))) × Int × (List Int) × (List Int)) : Option Int :=
  (m_i_BuildView (p0.1, p0.2) (p1.1.1, p1.1.2.1, p1.1.2.2) p1.2.1).bind fun r1 => if r1.2 then (if (r1.1.2.2.1.length : Int) != (p1.2.2.1.length : Int) then (some (-2)) else (if (r1.1.2.2.2.length : Int) != (p1.2.2.2.length : Int) then (some (-2)) else (bindL (loopM (m_i_AuditView_l0 p1 r1) FUEL 0) (fun r => some r) (fun s4 => some (-1))))) else (some (-2))
def m_w_eqIntS_l0 (p0a : List Int) (p1b : List Int) (s3 : Int) : Option (Out Bool Int) :=
  if decide (s3 < (p0a.length : Int)) then ((getI p0a s3).bind fun x5 => (getI p1b s3).bind fun x6 => if x5 != x6 then (some (.ret false)) else (some (.nxt (IntKind.i64.wrap (s3 + 1))))) else (some (.brk s3))
def m_w_eqIntS (p0a : List Int) (p1b : List Int) : Option Bool :=
  if (p0a.length : Int) != (p1b.length : Int) then (some false) else (bindL (loopM (m_w_eqIntS_l0 p0a p1b) FUEL 0) (fun r => some r) (fun s4 => some true))
def m_w_eqEdge (p0a : Int × Int × Int × Int) (p1b : Int × Int × Int × Int) : Option Bool :=
  if p0a.1 != p1b.1 then (some false) else (if p0a.2.1 != p1b.2.1 then (some false) else (if p0a.2.2.1 != p1b.2.2.1 then (some false) else (if p0a.2.2.2 != p1b.2.2.2 then (some false) else (some true))))
def m_w_eqEdgeS_l0 (p0a : List (Int × Int × Int × Int)) (p1b : List (Int × Int × Int × Int)) (s3 : Int) : Option (Out Bool Int) :=
  if decide (s3 < (p0a.length : Int)) then ((getI p0a s3).bind fun x5 => (getI p1b s3).bind fun x6 => (m_w_eqEdge (x5.1, x5.2.1, x5.2.2.1, x5.2.2.2) (x6.1, x6.2.1, x6.2.2.1, x6.2.2.2)).bind fun r3 => if r3 then (some (.nxt (IntKind.i64.wrap (s3 + 1)))) else (some (.ret false))) else (some (.brk s3))
def m_w_eqEdgeS (p0a : List (Int × Int × Int × Int)) (p1b : List (Int × Int × Int × Int)) : Option Bool :=
  if (p0a.length : Int) != (p1b.length : Int) then (some false) else (bindL (loopM (m_w_eqEdgeS_l0 p0a p1b) FUEL 0) (fun r => some r) (fun s4 => some true))
def m_w_eqGraph (p0a : (List Int) × (List (Int × Int × Int × Int))) (p1b : (List Int) × (List (Int × Int × Int × Int))) : Option Bool :=
  (m_w_eqIntS p0a.1 p1b.1).bind fun r1 => if r1 then ((m_w_eqEdgeS p0a.2 p1b.2).bind fun r2 => if r2 then (some true) else (some false)) else (some false)
def m_w_eqBoolS_l0 (p0a : List Bool) (p1b : List Bool) (s3 : Int) : Option (Out Bool Int) :=
  if decide (s3 < (p0a.length : Int)) then ((getI p0a s3).bind fun x5 => (getI p1b s3).bind fun x6 => if x5 != x6 then (some (.ret false)) else (some (.nxt (IntKind.i64.wrap (s3 + 1))))) else (some (.brk s3))
def m_w_eqBoolS (p0a : List Bool) (p1b : List Bool) : Option Bool :=
  if (p0a.length : Int) != (p1b.length : Int) then (some false) else (bindL (loopM (m_w_eqBoolS_l0 p0a p1b) FUEL 0) (fun r => some r) (fun s4 => some true))
def m_w_eqIntSS_l0 (p0a : List (List Int)) (p1b : List (List Int)) (s3 : Int) : Option (Out Bool Int) :=
  if decide (s3 < (p0a.length : Int)) then ((getI p0a s3).bind fun x5 => (getI p1b s3).bind fun x6 => (m_w_eqIntS x5 x6).bind fun r9 => if r9 then (some (.nxt (IntKind.i64.wrap (s3 + 1)))) else (some (.ret false))) else (some (.brk s3))
def m_w_eqIntSS (p0a : List (List Int)) (p1b : List (List Int)) : Option Bool :=
  if (p0a.length : Int) != (p1b.length : Int) then (some false) else (bindL (loopM (m_w_eqIntSS_l0 p0a p1b) FUEL 0) (fun r => some r) (fun s4 => some true))
def m_w_eqAutomaton (p0a : Int × (List Bool) × (List (List Int))) (p1b : Int × (List Bool) × (List (List Int))) : Option Bool :=
  if p0a.1 != p1b.1 then (some false) else ((m_w_eqBoolS p0a.2.1 p1b.2.1).bind fun r1 => if r1 then ((m_w_eqIntSS p0a.2.2 p1b.2.2).bind fun r2 => if r2 then (some true) else (some false)) else (some false))
def m_w_eqView (p0a : (Int × (List Bool) × (List (List Int))) × Int × (List Int) × (List Int)) (p1b : (Int × (List Bool) × (List (List Int))) × Int × (List Int) × (List Int)) : Option Bool :=
  (m_w_eqAutomaton (p0a.1.1, p0a.1.2.1, p0a.1.2.2) (p1b.1.1, p1b.1.2.1, p1b.1.2.2)).bind fun r1 => if r1 then (if p0a.2.1 != p1b.2.1 then (some false) else ((m_w_eqIntS p0a.2.2.1 p1b.2.2.1).bind fun r2 => if r2 then ((m_w_eqIntS p0a.2.2.2 p1b.2.2.2).bind fun r3 => if r3 then (some true) else (some false)) else (some false))) else (some false)
def m_w_FnExactAuditView (p0aG : (List Int) × (List (Int × Int × Int × Int))) (p1aV : (Int × (List Bool) × (List (List Int))) × Int × (List Int) × (List Int)) : Option Bool :=
  (m_w_szGraph (p0aG.1, p0aG.2) 1048576).bind fun r1 => if decide (r1 < 0) then (some true) else ((m_w_szView ((p1aV.1.1, p1aV.1.2.1, p1aV.1.2.2), p1aV.2.1, p1aV.2.2.1, p1aV.2.2.2) r1).bind fun r2 => if decide (r2 < 0) then (some true) else ((m_w_toGraph (p0aG.1, p0aG.2)).bind fun r3 => (m_w_toView ((p1aV.1.1, p1aV.1.2.1, p1aV.1.2.2), p1aV.2.1, p1aV.2.2.1, p1aV.2.2.2)).bind fun r4 => (m_s_AuditView (r3.1, r3.2) ((r4.1.1, r4.1.2.1, r4.1.2.2), r4.2.1, r4.2.2.1, r4.2.2.2)).bind fun r5 => (m_w_toGraph (p0aG.1, p0aG.2)).bind fun r6 => (m_w_toView ((p1aV.1.1, p1aV.1.2.1, p1aV.1.2.2), p1aV.2.1, p1aV.2.2.1, p1aV.2.2.2)).bind fun r7 => (m_i_AuditView (r6.1, r6.2) ((r7.1.1, r7.1.2.1, r7.1.2.2), r7.2.1, r7.2.2.1, r7.2.2.2)).bind fun r8 => if r8 != r5 then (some false) else ((m_w_toGraph (p0aG.1, p0aG.2)).bind fun r9 => (m_w_eqGraph (r6.1, r6.2) (r9.1, r9.2)).bind fun r10 => if r10 then ((m_w_toView ((p1aV.1.1, p1aV.1.2.1, p1aV.1.2.2), p1aV.2.1, p1aV.2.2.1, p1aV.2.2.2)).bind fun r11 => (m_w_eqView ((r7.1.1, r7.1.2.1, r7.1.2.2), r7.2.1, r7.2.2.1, r7.2.2.2) ((r11.1.1, r11.1.2.1, r11.1.2.2), r11.2.1, r11.2.2.1, r11.2.2.2)).bind fun r12 => if r12 then (some true) else (some false)) else (some false))))
end Go.Proofs.Ytfjohpmibocjcaa.D
/- Printed by lp.py: what is known of the types and of the functions. -/
set_option linter.unusedVariables false
set_option maxRecDepth 1000000
namespace Go.Proofs.Ytfjohpmibocjcaa.R
open Go.RowKit
open Go.Proofs.Ytfjohpmibocjcaa.D
abbrev y100 : Ty := .int .u64
abbrev y104 : Ty := .int .u32
abbrev y107 : Ty := .int .u64
abbrev y3 : Ty := .int .i64
abbrev y22 : Ty := .sl 3 y3
abbrev y64 : Ty := .prod y3 (.prod y3 (.prod y3 y3))
abbrev y23 : Ty := .sl 64 y64
abbrev y25 : Ty := .prod y22 y23
abbrev y4 : Ty := .bool
abbrev y26 : Ty := .sl 4 y4
abbrev y27 : Ty := .sl 22 y22
abbrev y29 : Ty := .prod y3 (.prod y26 y27)
abbrev y31 : Ty := .prod y29 (.prod y3 (.prod y22 y22))
abbrev y62 : Ty := .prod y3 (.prod y3 (.prod y3 y3))
abbrev y35 : Ty := .sl 62 y62
abbrev y37 : Ty := .prod y22 y35
abbrev y39 : Ty := .prod y3 (.prod y26 y27)
abbrev y41 : Ty := .prod y39 (.prod y3 (.prod y22 y22))
abbrev y79 : Ty := .prod y3 y4
abbrev y81 : Ty := .prod y79 (.prod y3 y3)
abbrev y76 : Ty := .sl 81 y81
abbrev y88 : Ty := .prod y79 (.prod y3 y3)
abbrev y86 : Ty := .sl 88 y88
abbrev y84 : Ty := .sl 86 y86
abbrev y93 : Ty := .sl 79 y79
def tt : TT := [(3, ⟨false, 1, none, y3, [], some 8, none, false, none, none, some (some .i64), false, none⟩),
  (4, ⟨false, 1, none, y4, [], some 1, none, true, none, none, none, false, none⟩),
  (22, ⟨false, 1, some 3, y22, [], some 24, none, false, none, none, none, false, none⟩),
  (23, ⟨false, 1, some 64, y23, [], some 24, none, false, none, none, none, false, none⟩),
  (25, ⟨true, 2, none, y25, [(0, 0), (1, 0)], some 48, some [(0, 1), (1, 1)], false, none, none, none, false, none⟩),
  (26, ⟨false, 1, some 4, y26, [], some 24, none, false, none, none, none, false, none⟩),
  (27, ⟨false, 1, some 22, y27, [], some 24, none, false, none, none, none, false, none⟩),
  (29, ⟨true, 3, none, y29, [(0, 0), (1, 0), (2, 0)], some 56, some [(0, 1), (1, 1), (2, 1)], false, none, none, none, false, none⟩),
  (31, ⟨true, 6, none, y31, [(0, 2), (3, 0), (4, 0), (5, 0)], some 112, some [(0, 3), (3, 1), (4, 1), (5, 1)], false, none, none, none, false, none⟩),
  (35, ⟨false, 1, some 62, y35, [], some 24, none, false, none, none, none, false, none⟩),
  (37, ⟨true, 2, none, y37, [(0, 0), (1, 0)], some 48, some [(0, 1), (1, 1)], false, none, none, none, false, none⟩),
  (39, ⟨true, 3, none, y39, [(0, 0), (1, 0), (2, 0)], some 56, some [(0, 1), (1, 1), (2, 1)], false, none, none, none, false, none⟩),
  (41, ⟨true, 6, none, y41, [(0, 2), (3, 0), (4, 0), (5, 0)], some 112, some [(0, 3), (3, 1), (4, 1), (5, 1)], false, none, none, none, false, none⟩),
  (62, ⟨true, 4, none, y62, [(0, 0), (1, 0), (2, 0), (3, 0)], some 32, some [(0, 1), (1, 1), (2, 1), (3, 1)], false, none, none, none, false, none⟩),
  (64, ⟨true, 4, none, y64, [(0, 0), (1, 0), (2, 0), (3, 0)], some 32, some [(0, 1), (1, 1), (2, 1), (3, 1)], false, none, none, none, false, none⟩),
  (76, ⟨false, 1, some 81, y76, [], some 24, none, false, none, none, none, false, none⟩),
  (79, ⟨true, 2, none, y79, [(0, 0), (1, 0)], some 16, some [(0, 1), (1, 1)], false, none, none, none, false, none⟩),
  (81, ⟨true, 4, none, y81, [(0, 1), (2, 0), (3, 0)], some 32, some [(0, 2), (2, 1), (3, 1)], false, none, none, none, false, none⟩),
  (84, ⟨false, 1, some 86, y84, [], some 24, none, false, none, none, none, false, none⟩),
  (86, ⟨false, 1, some 88, y86, [], some 24, none, false, none, none, none, false, none⟩),
  (88, ⟨true, 4, none, y88, [(0, 1), (2, 0), (3, 0)], some 32, some [(0, 2), (2, 1), (3, 1)], false, none, none, none, false, none⟩),
  (93, ⟨false, 1, some 79, y93, [], some 24, none, false, none, none, none, false, none⟩),
  (100, ⟨false, 1, none, y100, [], some 8, none, false, none, none, some (some .u64), false, none⟩),
  (104, ⟨false, 1, none, y104, [], some 4, none, false, none, none, some (some .u32), false, none⟩),
  (107, ⟨false, 1, none, y107, [], some 8, none, false, none, none, some (some .u64), false, none⟩)]
theorem tt_ok : TTok Try.prog tt := ⟨td_flat (n := 1) (z := .int .i64 0) ⟨⟨_, Try.underlying3, rfl⟩, by kernel_rfl⟩ rfl (by unfold TZ; kernel_rfl) rfl (Nat.le_of_ble_eq_true rfl) (fun h => by cases h) (fun k h => by obtain rfl := Option.some.inj h; exact Try.underlying3),
  td_flat (n := 1) (z := .bool false) ⟨⟨_, Try.underlying4, rfl⟩, by kernel_rfl⟩ rfl (by unfold TZ; kernel_rfl) rfl (Nat.le_of_ble_eq_true rfl) (fun h => Try.underlying4) (fun k h => by cases h),
  td_sl ⟨⟨_, Try.underlying22, rfl⟩, by kernel_rfl⟩ Try.underlying22 (by unfold TZ; kernel_rfl),
  td_sl ⟨⟨_, Try.underlying23, rfl⟩, by kernel_rfl⟩ Try.underlying23 (by unfold TZ; kernel_rfl),
  td_st (z := .agg #[.slice none 0 0, .slice none 0 0]) ⟨⟨_, Try.underlying25, rfl⟩, by kernel_rfl⟩ rfl ⟨⟨_, _, Try.underlying25, rfl, rfl, by kernel_rfl⟩, ⟨_, _, Try.underlying25, rfl, rfl, by kernel_rfl⟩, trivial⟩ (by unfold TZ; kernel_rfl) rfl (Nat.le_of_ble_eq_true rfl) ⟨_, Try.underlying25, by kernel_rfl⟩ (fun ks h => by cases h),
  td_sl ⟨⟨_, Try.underlying26, rfl⟩, by kernel_rfl⟩ Try.underlying26 (by unfold TZ; kernel_rfl),
  td_sl ⟨⟨_, Try.underlying27, rfl⟩, by kernel_rfl⟩ Try.underlying27 (by unfold TZ; kernel_rfl),
  td_st (z := .agg #[.int .i64 0, .slice none 0 0, .slice none 0 0]) ⟨⟨_, Try.underlying29, rfl⟩, by kernel_rfl⟩ rfl ⟨⟨_, _, Try.underlying29, rfl, rfl, by kernel_rfl⟩, ⟨_, _, Try.underlying29, rfl, rfl, by kernel_rfl⟩, ⟨_, _, Try.underlying29, rfl, rfl, by kernel_rfl⟩, trivial⟩ (by unfold TZ; kernel_rfl) rfl (Nat.le_of_ble_eq_true rfl) ⟨_, Try.underlying29, by kernel_rfl⟩ (fun ks h => by cases h),
  td_st (z := .agg #[.int .i64 0, .slice none 0 0, .slice none 0 0, .int .i64 0, .slice none 0 0, .slice none 0 0]) ⟨⟨_, Try.underlying31, rfl⟩, by kernel_rfl⟩ rfl ⟨⟨_, _, Try.underlying31, rfl, rfl, by kernel_rfl⟩, ⟨_, _, Try.underlying31, rfl, rfl, by kernel_rfl⟩, ⟨_, _, Try.underlying31, rfl, rfl, by kernel_rfl⟩, ⟨_, _, Try.underlying31, rfl, rfl, by kernel_rfl⟩, trivial⟩ (by unfold TZ; kernel_rfl) rfl (Nat.le_of_ble_eq_true rfl) ⟨_, Try.underlying31, by kernel_rfl⟩ (fun ks h => by cases h),
  td_sl ⟨⟨_, Try.underlying35, rfl⟩, by kernel_rfl⟩ Try.underlying35 (by unfold TZ; kernel_rfl),
  td_st (z := .agg #[.slice none 0 0, .slice none 0 0]) ⟨⟨_, Try.underlying37, rfl⟩, by kernel_rfl⟩ rfl ⟨⟨_, _, Try.underlying37, rfl, rfl, by kernel_rfl⟩, ⟨_, _, Try.underlying37, rfl, rfl, by kernel_rfl⟩, trivial⟩ (by unfold TZ; kernel_rfl) rfl (Nat.le_of_ble_eq_true rfl) ⟨_, Try.underlying37, by kernel_rfl⟩ (fun ks h => by cases h),
  td_st (z := .agg #[.int .i64 0, .slice none 0 0, .slice none 0 0]) ⟨⟨_, Try.underlying39, rfl⟩, by kernel_rfl⟩ rfl ⟨⟨_, _, Try.underlying39, rfl, rfl, by kernel_rfl⟩, ⟨_, _, Try.underlying39, rfl, rfl, by kernel_rfl⟩, ⟨_, _, Try.underlying39, rfl, rfl, by kernel_rfl⟩, trivial⟩ (by unfold TZ; kernel_rfl) rfl (Nat.le_of_ble_eq_true rfl) ⟨_, Try.underlying39, by kernel_rfl⟩ (fun ks h => by cases h),
  td_st (z := .agg #[.int .i64 0, .slice none 0 0, .slice none 0 0, .int .i64 0, .slice none 0 0, .slice none 0 0]) ⟨⟨_, Try.underlying41, rfl⟩, by kernel_rfl⟩ rfl ⟨⟨_, _, Try.underlying41, rfl, rfl, by kernel_rfl⟩, ⟨_, _, Try.underlying41, rfl, rfl, by kernel_rfl⟩, ⟨_, _, Try.underlying41, rfl, rfl, by kernel_rfl⟩, ⟨_, _, Try.underlying41, rfl, rfl, by kernel_rfl⟩, trivial⟩ (by unfold TZ; kernel_rfl) rfl (Nat.le_of_ble_eq_true rfl) ⟨_, Try.underlying41, by kernel_rfl⟩ (fun ks h => by cases h),
  td_st (z := .agg #[.int .i64 0, .int .i64 0, .int .i64 0, .int .i64 0]) ⟨⟨_, Try.underlying62, rfl⟩, by kernel_rfl⟩ rfl ⟨⟨_, _, Try.underlying62, rfl, rfl, by kernel_rfl⟩, ⟨_, _, Try.underlying62, rfl, rfl, by kernel_rfl⟩, ⟨_, _, Try.underlying62, rfl, rfl, by kernel_rfl⟩, ⟨_, _, Try.underlying62, rfl, rfl, by kernel_rfl⟩, trivial⟩ (by unfold TZ; kernel_rfl) rfl (Nat.le_of_ble_eq_true rfl) ⟨_, Try.underlying62, by kernel_rfl⟩ (fun ks h => by cases h),
  td_st (z := .agg #[.int .i64 0, .int .i64 0, .int .i64 0, .int .i64 0]) ⟨⟨_, Try.underlying64, rfl⟩, by kernel_rfl⟩ rfl ⟨⟨_, _, Try.underlying64, rfl, rfl, by kernel_rfl⟩, ⟨_, _, Try.underlying64, rfl, rfl, by kernel_rfl⟩, ⟨_, _, Try.underlying64, rfl, rfl, by kernel_rfl⟩, ⟨_, _, Try.underlying64, rfl, rfl, by kernel_rfl⟩, trivial⟩ (by unfold TZ; kernel_rfl) rfl (Nat.le_of_ble_eq_true rfl) ⟨_, Try.underlying64, by kernel_rfl⟩ (fun ks h => by cases h),
  td_sl ⟨⟨_, Try.underlying76, rfl⟩, by kernel_rfl⟩ Try.underlying76 (by unfold TZ; kernel_rfl),
  td_st (z := .agg #[.int .i64 0, .bool false]) ⟨⟨_, Try.underlying79, rfl⟩, by kernel_rfl⟩ rfl ⟨⟨_, _, Try.underlying79, rfl, rfl, by kernel_rfl⟩, ⟨_, _, Try.underlying79, rfl, rfl, by kernel_rfl⟩, trivial⟩ (by unfold TZ; kernel_rfl) rfl (Nat.le_of_ble_eq_true rfl) ⟨_, Try.underlying79, by kernel_rfl⟩ (fun ks h => by cases h),
  td_st (z := .agg #[.int .i64 0, .bool false, .int .i64 0, .int .i64 0]) ⟨⟨_, Try.underlying81, rfl⟩, by kernel_rfl⟩ rfl ⟨⟨_, _, Try.underlying81, rfl, rfl, by kernel_rfl⟩, ⟨_, _, Try.underlying81, rfl, rfl, by kernel_rfl⟩, ⟨_, _, Try.underlying81, rfl, rfl, by kernel_rfl⟩, trivial⟩ (by unfold TZ; kernel_rfl) rfl (Nat.le_of_ble_eq_true rfl) ⟨_, Try.underlying81, by kernel_rfl⟩ (fun ks h => by cases h),
  td_sl ⟨⟨_, Try.underlying84, rfl⟩, by kernel_rfl⟩ Try.underlying84 (by unfold TZ; kernel_rfl),
  td_sl ⟨⟨_, Try.underlying86, rfl⟩, by kernel_rfl⟩ Try.underlying86 (by unfold TZ; kernel_rfl),
  td_st (z := .agg #[.int .i64 0, .bool false, .int .i64 0, .int .i64 0]) ⟨⟨_, Try.underlying88, rfl⟩, by kernel_rfl⟩ rfl ⟨⟨_, _, Try.underlying88, rfl, rfl, by kernel_rfl⟩, ⟨_, _, Try.underlying88, rfl, rfl, by kernel_rfl⟩, ⟨_, _, Try.underlying88, rfl, rfl, by kernel_rfl⟩, trivial⟩ (by unfold TZ; kernel_rfl) rfl (Nat.le_of_ble_eq_true rfl) ⟨_, Try.underlying88, by kernel_rfl⟩ (fun ks h => by cases h),
  td_sl ⟨⟨_, Try.underlying93, rfl⟩, by kernel_rfl⟩ Try.underlying93 (by unfold TZ; kernel_rfl),
  td_flat (n := 1) (z := .int .u64 0) ⟨⟨_, Try.underlying100, rfl⟩, by kernel_rfl⟩ rfl (by unfold TZ; kernel_rfl) rfl (Nat.le_of_ble_eq_true rfl) (fun h => by cases h) (fun k h => by obtain rfl := Option.some.inj h; exact Try.underlying100),
  td_flat (n := 1) (z := .int .u32 0) ⟨⟨_, Try.underlying104, rfl⟩, by kernel_rfl⟩ rfl (by unfold TZ; kernel_rfl) rfl (Nat.le_of_ble_eq_true rfl) (fun h => by cases h) (fun k h => by obtain rfl := Option.some.inj h; exact Try.underlying104),
  td_flat (n := 1) (z := .int .u64 0) ⟨⟨_, Try.underlying107, rfl⟩, by kernel_rfl⟩ rfl (by unfold TZ; kernel_rfl) rfl (Nat.le_of_ble_eq_true rfl) (fun h => by cases h) (fun k h => by obtain rfl := Option.some.inj h; exact Try.underlying107), trivial⟩
theorem mixed : Try.prog.follows .mixedOrders = true := by kernel_rfl
def F_w_szIntS : FS := ⟨[.rd y22, .rd y3], [y3], m_w_szIntS, none⟩
def F_w_szEdgeS : FS := ⟨[.rd y23, .rd y3], [y3], m_w_szEdgeS, none⟩
def F_w_szGraph : FS := ⟨[.rd y25, .rd y3], [y3], m_w_szGraph, none⟩
def F_w_szBoolS : FS := ⟨[.rd y26, .rd y3], [y3], m_w_szBoolS, none⟩
def F_w_szIntSS : FS := ⟨[.rd y27, .rd y3], [y3], m_w_szIntSS, none⟩
def F_w_szAutomaton : FS := ⟨[.rd y29, .rd y3], [y3], m_w_szAutomaton, none⟩
def F_w_szView : FS := ⟨[.rd y31, .rd y3], [y3], m_w_szView, none⟩
def F_s_l1In : FS := ⟨[.rd y3, .rd y3, .rd y3], [y4], m_s_l1In, none⟩
def F_s_l3Edge : FS := ⟨[.rd y37, .rd y62], [y4], m_s_l3Edge, none⟩
def F_s_IsValidGraph : FS := ⟨[.rd y37], [y4], m_s_IsValidGraph, none⟩
def F_s_l11Fits : FS := ⟨[.rd y39], [y4], m_s_l11Fits, none⟩
def F_s_IsValidAutomaton : FS := ⟨[.rd y39], [y4], m_s_IsValidAutomaton, none⟩
def F_s_l14Good : FS := ⟨[.rd y37, .rd y39, .rd y3, .rd y3], [y4], m_s_l14Good, none⟩
def F_s_l11Copy : FS := ⟨[.rd y39], [y39], m_s_l11Copy, none⟩
def F_s_l14Closure : FS := ⟨[.rd y39, .rd y3, .rd y3], [y3], m_s_l14Closure, none⟩
def F_s_l4From : FS := ⟨[.rd y37, .rd y3], [y93], m_s_l4From, none⟩
def F_s_EdgeIndex : FS := ⟨[.rd y37, .rd y3], [y3], m_s_EdgeIndex, none⟩
def F_s_l14Letter : FS := ⟨[.rd y62, .rd y4], [y3], m_s_l14Letter, none⟩
def F_s_l14To : FS := ⟨[.rd y62, .rd y4], [y3], m_s_l14To, none⟩
def F_s_l14Steps : FS := ⟨[.rd y37, .rd y39, .rd y3, .rd y3], [y76], m_s_l14Steps, none⟩
def F_s_l14Ranks : FS := ⟨[.rd y37, .rd y39, .rd y3], [y22], m_s_l14Ranks, none⟩
def F_s_l27Build : FS := ⟨[.rd y37, .rd y39, .rd y3], [y41], m_s_l27Build, none⟩
def F_s_BuildView : FS := ⟨[.rd y37, .rd y39, .rd y3], [y41, y4], m_s_BuildView, none⟩
def F_s_AuditView : FS := ⟨[.rd y37, .rd y41], [y3], m_s_AuditView, none⟩
def F_w_toIntS : FS := ⟨[.rd y22], [y22], m_w_toIntS, none⟩
def F_w_toEdge : FS := ⟨[.rd y64], [y62], m_w_toEdge, none⟩
def F_w_toEdgeS : FS := ⟨[.rd y23], [y35], m_w_toEdgeS, none⟩
def F_w_toGraph : FS := ⟨[.rd y25], [y37], m_w_toGraph, none⟩
def F_w_toBoolS : FS := ⟨[.rd y26], [y26], m_w_toBoolS, none⟩
def F_w_toIntSS : FS := ⟨[.rd y27], [y27], m_w_toIntSS, none⟩
def F_w_toAutomaton : FS := ⟨[.rd y29], [y39], m_w_toAutomaton, none⟩
def F_w_toView : FS := ⟨[.rd y31], [y41], m_w_toView, none⟩
def F_i_reads : FS := ⟨[.rd y62, .rd y4], [y3], m_i_reads, none⟩
def F_i_arcs : FS := ⟨[.rd y37], [y84], m_i_arcs, none⟩
def F_i_members : FS := ⟨[.rd y3], [y22], m_i_members, none⟩
def F_i_within : FS := ⟨[.rd y3, .rd y3, .rd y3], [y4], m_i_within, none⟩
def F_i_isLetter : FS := ⟨[.rd y3], [y4], m_i_isLetter, none⟩
def F_i_Automaton_move : FS := ⟨[.rd y39, .rd y3, .rd y3], [y3], m_i_Automaton_move, none⟩
def F_i_closure : FS := ⟨[.rd y39, .rd y3, .rd y3], [y3], m_i_closure, none⟩
def F_i_after : FS := ⟨[.rd y39, .rd y3, .rd y3, .rd y3], [y3], m_i_after, none⟩
def F_i_nextVertices : FS := ⟨[.rd y37, .rd y39], [y27], m_i_nextVertices, none⟩
def F_i_edgeOk : FS := ⟨[.rd y62, .rd y3], [y4], m_i_edgeOk, none⟩
def F_i_IsValidGraph : FS := ⟨[.rd y37], [y4], m_i_IsValidGraph, none⟩
def F_i_IsValidAutomaton : FS := ⟨[.rd y39], [y4], m_i_IsValidAutomaton, none⟩
def F_i_bothOk : FS := ⟨[.rd y37, .rd y39, .rd y22], [y4], m_i_bothOk, none⟩
def F_g_math_bits_Mul32 : FS := ⟨[.rd y104, .rd y104], [y104, y104], m_g_math_bits_Mul32, none⟩
def F_g_math_bits_Mul64 : FS := ⟨[.rd y107, .rd y107], [y107, y107], m_g_math_bits_Mul64, none⟩
def F_g_math_bits_Mul : FS := ⟨[.rd y100, .rd y100], [y100, y100], m_g_math_bits_Mul, none⟩
def F_g_slices_Repeat_S_int_int : FS := ⟨[.rd y22, .rd y3], [y22], m_g_slices_Repeat_S_int_int, none⟩
def F_i_spread : FS := ⟨[.rd y27, .rd y22], [y22], m_i_spread, none⟩
def F_i_DistancesFrom : FS := ⟨[.rd y37, .rd y39, .rd y3], [y22], m_i_DistancesFrom, some (0, 7)⟩
def F_i_copyInts : FS := ⟨[.rd y22], [y22], m_i_copyInts, none⟩
def F_i_copyAutomaton : FS := ⟨[.rd y39], [y39], m_i_copyAutomaton, none⟩
def F_i_BuildView : FS := ⟨[.rd y37, .rd y39, .rd y3], [y41, y4], m_i_BuildView, none⟩
def F_i_AuditView : FS := ⟨[.rd y37, .rd y41], [y3], m_i_AuditView, none⟩
def F_w_eqIntS : FS := ⟨[.rd y22, .rd y22], [y4], m_w_eqIntS, none⟩
def F_w_eqEdge : FS := ⟨[.rd y62, .rd y62], [y4], m_w_eqEdge, none⟩
def F_w_eqEdgeS : FS := ⟨[.rd y35, .rd y35], [y4], m_w_eqEdgeS, none⟩
def F_w_eqGraph : FS := ⟨[.rd y37, .rd y37], [y4], m_w_eqGraph, none⟩
def F_w_eqBoolS : FS := ⟨[.rd y26, .rd y26], [y4], m_w_eqBoolS, none⟩
def F_w_eqIntSS : FS := ⟨[.rd y27, .rd y27], [y4], m_w_eqIntSS, none⟩
def F_w_eqAutomaton : FS := ⟨[.rd y39, .rd y39], [y4], m_w_eqAutomaton, none⟩
def F_w_eqView : FS := ⟨[.rd y41, .rd y41], [y4], m_w_eqView, none⟩
def F_w_FnExactAuditView : FS := ⟨[.rd y25, .rd y31], [y4], m_w_FnExactAuditView, none⟩
end Go.Proofs.Ytfjohpmibocjcaa.R
/- Printed by lp.py: each function computes what its model says; the code is run, and the two are compared. -/
set_option linter.unusedVariables false
set_option maxRecDepth 1000000
namespace Go.Proofs.Ytfjohpmibocjcaa.R
open Go.RowKit
open Go.Proofs.Ytfjohpmibocjcaa.D
theorem k_w_szIntS : FOk Try.prog 12 F_w_szIntS := fok (V := ⟨tt, [], [], 12, []⟩) tt_ok trivial mixed Try.func12 rfl rfl (enters_of Try.func12 (by kernel_rfl) rfl) rfl (Nat.le_of_ble_eq_true rfl) rfl .no (fun d => by kernel_rfl)
theorem k_w_szEdgeS : FOk Try.prog 13 F_w_szEdgeS := fok (V := ⟨tt, [], [], 12, []⟩) tt_ok trivial mixed Try.func13 rfl rfl (enters_of Try.func13 (by kernel_rfl) rfl) rfl (Nat.le_of_ble_eq_true rfl) rfl .no (fun d => by kernel_rfl)
theorem k_w_szGraph : FOk Try.prog 4 F_w_szGraph := fok (V := ⟨tt, [(12, F_w_szIntS), (13, F_w_szEdgeS)], [], 18, []⟩) tt_ok ⟨k_w_szIntS, k_w_szEdgeS, trivial⟩ mixed Try.func4 rfl rfl (enters_of Try.func4 (by kernel_rfl) rfl) rfl (Nat.le_of_ble_eq_true rfl) rfl .no (fun d => by kernel_rfl)
theorem k_w_szBoolS : FOk Try.prog 23 F_w_szBoolS := fok (V := ⟨tt, [], [], 12, []⟩) tt_ok trivial mixed Try.func23 rfl rfl (enters_of Try.func23 (by kernel_rfl) rfl) rfl (Nat.le_of_ble_eq_true rfl) rfl .no (fun d => by kernel_rfl)
theorem k_w_szIntSS : FOk Try.prog 24 F_w_szIntSS := fok (V := ⟨tt, [(12, F_w_szIntS)], [], 27, []⟩) tt_ok ⟨k_w_szIntS, trivial⟩ mixed Try.func24 rfl rfl (enters_of Try.func24 (by kernel_rfl) rfl) rfl (Nat.le_of_ble_eq_true rfl) rfl (.two .no (.two .no (.two .no (.two (.two .no (.loop [.slot 1 (.num .i64), .slot 5 (.num .i64)] .no)) .no)))) (fun d => by kernel_rfl)
theorem k_w_szAutomaton : FOk Try.prog 14 F_w_szAutomaton := fok (V := ⟨tt, [(23, F_w_szBoolS), (24, F_w_szIntSS)], [], 18, []⟩) tt_ok ⟨k_w_szBoolS, k_w_szIntSS, trivial⟩ mixed Try.func14 rfl rfl (enters_of Try.func14 (by kernel_rfl) rfl) rfl (Nat.le_of_ble_eq_true rfl) rfl .no (fun d => by kernel_rfl)
theorem k_w_szView : FOk Try.prog 5 F_w_szView := fok (V := ⟨tt, [(12, F_w_szIntS), (14, F_w_szAutomaton)], [], 24, []⟩) tt_ok ⟨k_w_szIntS, k_w_szAutomaton, trivial⟩ mixed Try.func5 rfl rfl (enters_of Try.func5 (by kernel_rfl) rfl) rfl (Nat.le_of_ble_eq_true rfl) rfl .no (fun d => by kernel_rfl)
theorem k_s_l1In : FOk Try.prog 38 F_s_l1In := fok (V := ⟨tt, [], [], 15, []⟩) tt_ok trivial mixed Try.func38 rfl rfl (enters_of Try.func38 (by kernel_rfl) rfl) rfl (Nat.le_of_ble_eq_true rfl) rfl .no (fun d => by kernel_rfl)
theorem k_s_l3Edge : FOk Try.prog 48 F_s_l3Edge := fok (V := ⟨tt, [(38, F_s_l1In)], [], 30, []⟩) tt_ok ⟨k_s_l1In, trivial⟩ mixed Try.func48 rfl rfl (enters_of Try.func48 (by kernel_rfl) rfl) rfl (Nat.le_of_ble_eq_true rfl) rfl .no (fun d => by kernel_rfl)
theorem k_s_IsValidGraph : FOk Try.prog 36 F_s_IsValidGraph := fok (V := ⟨tt, [(38, F_s_l1In), (48, F_s_l3Edge)], [], 64, []⟩) tt_ok ⟨k_s_l1In, k_s_l3Edge, trivial⟩ mixed Try.func36 rfl rfl (enters_of Try.func36 (by kernel_rfl) rfl) rfl (Nat.le_of_ble_eq_true rfl) rfl (.two .no (.two (.two .no (.loop [.slot 3 (.num .i64)] .no)) (.two (.two .no (.loop [.slot 4 (.num .i64)] .no)) .no))) (fun d => by kernel_rfl)
theorem k_s_l11Fits : FOk Try.prog 49 F_s_l11Fits := fok (V := ⟨tt, [(38, F_s_l1In)], [], 50, []⟩) tt_ok ⟨k_s_l1In, trivial⟩ mixed Try.func49 rfl rfl (enters_of Try.func49 (by kernel_rfl) rfl) rfl (Nat.le_of_ble_eq_true rfl) rfl (.two .no (.two .no (.two .no (.two (.two .no (.loop [.slot 4 (.num .i64)] (.two .no (.two (.two .no (.two .no (.loop [.slot 5 (.num .i64)] .no))) .no)))) .no)))) (fun d => by kernel_rfl)
theorem k_s_IsValidAutomaton : FOk Try.prog 37 F_s_IsValidAutomaton := fok (V := ⟨tt, [(49, F_s_l11Fits)], [], 11, []⟩) tt_ok ⟨k_s_l11Fits, trivial⟩ mixed Try.func37 rfl rfl (enters_of Try.func37 (by kernel_rfl) rfl) rfl (Nat.le_of_ble_eq_true rfl) rfl .no (fun d => by kernel_rfl)
theorem k_s_l14Good : FOk Try.prog 25 F_s_l14Good := fok (V := ⟨tt, [(36, F_s_IsValidGraph), (37, F_s_IsValidAutomaton), (38, F_s_l1In)], [], 31, []⟩) tt_ok ⟨k_s_IsValidGraph, k_s_IsValidAutomaton, k_s_l1In, trivial⟩ mixed Try.func25 rfl rfl (enters_of Try.func25 (by kernel_rfl) rfl) rfl (Nat.le_of_ble_eq_true rfl) rfl .no (fun d => by kernel_rfl)
theorem k_s_l11Copy : FOk Try.prog 39 F_s_l11Copy := fok (V := ⟨tt, [], [], 32, []⟩) tt_ok trivial mixed Try.func39 rfl rfl (enters_of Try.func39 (by kernel_rfl) rfl) rfl (Nat.le_of_ble_eq_true rfl) rfl (.two .no (.two .no (.two (.two .no (.loop [.slot 4 (.num .i64), .box 3 [(.num .i64), (.own 4 y4), (.own 22 y22)]] .no)) .no))) (fun d => by kernel_rfl)
theorem k_s_l14Closure : FOk Try.prog 50 F_s_l14Closure := fok (V := ⟨tt, [], [], 31, []⟩) tt_ok trivial mixed Try.func50 rfl rfl (enters_of Try.func50 (by kernel_rfl) rfl) rfl (Nat.le_of_ble_eq_true rfl) rfl (.two .no (.two .no (.two (.loop [.slot 1 (.num .i64), .slot 7 (.num .i64)] .no) .no))) (fun d => by kernel_rfl)
theorem k_s_l4From : FOk Try.prog 51 F_s_l4From := fok (V := ⟨tt, [], [], 52, []⟩) tt_ok trivial mixed Try.func51 rfl rfl (enters_of Try.func51 (by kernel_rfl) rfl) rfl (Nat.le_of_ble_eq_true rfl) rfl (.two .no (.two .no (.two (.two .no (.loop [.slot 5 (.own 79 y79), .slot 6 (.num .i64)] (.two .no (.join [.slot 5 (.own 79 y79)] (.join [.slot 5 (.own 79 y79)] .no .no) .no)))) .no))) (fun d => by kernel_rfl)
theorem k_s_EdgeIndex : FOk Try.prog 52 F_s_EdgeIndex := fok (V := ⟨tt, [], [], 22, []⟩) tt_ok trivial mixed Try.func52 rfl rfl (enters_of Try.func52 (by kernel_rfl) rfl) rfl (Nat.le_of_ble_eq_true rfl) rfl (.two .no (.two (.two .no (.loop [.slot 5 (.num .i64)] .no)) .no)) (fun d => by kernel_rfl)
end Go.Proofs.Ytfjohpmibocjcaa.R
/- Printed by lp.py: each function computes what its model says; the code is run, and the two are compared. -/
set_option linter.unusedVariables false
set_option maxRecDepth 1000000
namespace Go.Proofs.Ytfjohpmibocjcaa.R
open Go.RowKit
open Go.Proofs.Ytfjohpmibocjcaa.D
theorem k_s_l14Letter : FOk Try.prog 53 F_s_l14Letter := fok (V := ⟨tt, [], [], 13, []⟩) tt_ok trivial mixed Try.func53 rfl rfl (enters_of Try.func53 (by kernel_rfl) rfl) rfl (Nat.le_of_ble_eq_true rfl) rfl .no (fun d => by kernel_rfl)
theorem k_s_l14To : FOk Try.prog 54 F_s_l14To := fok (V := ⟨tt, [], [], 10, []⟩) tt_ok trivial mixed Try.func54 rfl rfl (enters_of Try.func54 (by kernel_rfl) rfl) rfl (Nat.le_of_ble_eq_true rfl) rfl .no (fun d => by kernel_rfl)
theorem k_s_l14Steps : FOk Try.prog 41 F_s_l14Steps := fok (V := ⟨tt, [(50, F_s_l14Closure), (51, F_s_l4From), (52, F_s_EdgeIndex), (53, F_s_l14Letter), (54, F_s_l14To)], [], 110, []⟩) tt_ok ⟨k_s_l14Closure, k_s_l4From, k_s_EdgeIndex, k_s_l14Letter, k_s_l14To, trivial⟩ mixed Try.func41 rfl rfl (enters_of Try.func41 (by kernel_rfl) rfl) rfl (Nat.le_of_ble_eq_true rfl) rfl (.two .no (.two .no (.two .no (.two .no (.two (.two .no (.loop [.slot 9 (.own 81 y81), .slot 12 (.num .i64)] (.two .no (.two (.two .no (.two .no (.two (.two .no (.loop [.slot 14 (.num .i64), .slot 15 (.num .i64)] (.two .no (.join [.slot 14 (.num .i64)] .no .no)))) (.two .no (.loop [.slot 9 (.own 81 y81), .slot 17 (.num .i64)] (.two .no (.join [.slot 9 (.own 81 y81)] .no .no))))))) .no)))) .no))))) (fun d => by kernel_rfl)
theorem k_s_l14Ranks : FOk Try.prog 40 F_s_l14Ranks := fok (V := ⟨tt, [(41, F_s_l14Steps)], [], 104, []⟩) tt_ok ⟨k_s_l14Steps, trivial⟩ mixed Try.func40 rfl rfl (enters_of Try.func40 (by kernel_rfl) rfl) rfl (Nat.le_of_ble_eq_true rfl) rfl (.two .no (.two .no (.two .no (.two (.two .no (.loop [.slot 8 (.own 3 y3), .slot 9 (.num .i64)] .no)) (.two .no (.two .no (.two (.two .no (.loop [.row 8 3 y3, .slot 10 (.own 3 y3), .slot 11 (.num .i64)] (.two .no (.two (.two .no (.two .no (.loop [.row 8 3 y3, .slot 10 (.own 3 y3), .slot 13 (.num .i64)] (.two .no (.join [.row 8 3 y3, .slot 10 (.own 3 y3)] .no .no))))) .no)))) .no))))))) (fun d => by kernel_rfl)
theorem k_s_l27Build : FOk Try.prog 26 F_s_l27Build := fok (V := ⟨tt, [(39, F_s_l11Copy), (40, F_s_l14Ranks), (41, F_s_l14Steps)], [], 95, []⟩) tt_ok ⟨k_s_l11Copy, k_s_l14Ranks, k_s_l14Steps, trivial⟩ mixed Try.func26 rfl rfl (enters_of Try.func26 (by kernel_rfl) rfl) rfl (Nat.le_of_ble_eq_true rfl) rfl (.two .no (.two .no (.two .no (.two .no (.two (.two .no (.loop [.slot 9 (.num .i64), .box 8 [(.num .i64), (.own 4 y4), (.own 22 y22), (.num .i64), (.own 3 y3), (.own 3 y3)]] (.two .no (.two (.two .no (.two .no (.loop [.slot 11 (.num .i64), .box 8 [(.num .i64), (.own 4 y4), (.own 22 y22), (.num .i64), (.own 3 y3), (.own 3 y3)]] (.two .no (.join [.box 8 [(.num .i64), (.own 4 y4), (.own 22 y22), (.num .i64), (.own 3 y3), (.own 3 y3)]] .no .no))))) .no)))) .no))))) (fun d => by kernel_rfl)
theorem k_s_BuildView : FOk Try.prog 15 F_s_BuildView := fok (V := ⟨tt, [(25, F_s_l14Good), (26, F_s_l27Build)], [], 18, []⟩) tt_ok ⟨k_s_l14Good, k_s_l27Build, trivial⟩ mixed Try.func15 rfl rfl (enters_of Try.func15 (by kernel_rfl) rfl) rfl (Nat.le_of_ble_eq_true rfl) rfl .no (fun d => by kernel_rfl)
theorem k_s_AuditView : FOk Try.prog 6 F_s_AuditView := fok (V := ⟨tt, [(15, F_s_BuildView)], [], 69, []⟩) tt_ok ⟨k_s_BuildView, trivial⟩ mixed Try.func6 rfl rfl (enters_of Try.func6 (by kernel_rfl) rfl) rfl (Nat.le_of_ble_eq_true rfl) rfl (.two .no (.two .no (.two .no (.two (.two .no (.loop [.slot 7 (.num .i64)] .no)) .no)))) (fun d => by kernel_rfl)
theorem k_w_toIntS : FOk Try.prog 16 F_w_toIntS := fok (V := ⟨tt, [], [], 22, []⟩) tt_ok trivial mixed Try.func16 rfl rfl (enters_of Try.func16 (by kernel_rfl) rfl) rfl (Nat.le_of_ble_eq_true rfl) rfl (.two .no (.two .no (.two (.two .no (.loop [.row 3 3 y3, .slot 4 (.num .i64)] .no)) .no))) (fun d => by kernel_rfl)
theorem k_w_toEdge : FOk Try.prog 27 F_w_toEdge := fok (V := ⟨tt, [], [], 17, []⟩) tt_ok trivial mixed Try.func27 rfl rfl (enters_of Try.func27 (by kernel_rfl) rfl) rfl (Nat.le_of_ble_eq_true rfl) rfl .no (fun d => by kernel_rfl)
theorem k_w_toEdgeS : FOk Try.prog 17 F_w_toEdgeS := fok (V := ⟨tt, [(27, F_w_toEdge)], [], 23, []⟩) tt_ok ⟨k_w_toEdge, trivial⟩ mixed Try.func17 rfl rfl (enters_of Try.func17 (by kernel_rfl) rfl) rfl (Nat.le_of_ble_eq_true rfl) rfl (.two .no (.two .no (.two (.two .no (.loop [.row 3 62 y62, .slot 4 (.num .i64)] .no)) .no))) (fun d => by kernel_rfl)
theorem k_w_toGraph : FOk Try.prog 7 F_w_toGraph := fok (V := ⟨tt, [(16, F_w_toIntS), (17, F_w_toEdgeS)], [], 13, []⟩) tt_ok ⟨k_w_toIntS, k_w_toEdgeS, trivial⟩ mixed Try.func7 rfl rfl (enters_of Try.func7 (by kernel_rfl) rfl) rfl (Nat.le_of_ble_eq_true rfl) rfl .no (fun d => by kernel_rfl)
theorem k_w_toBoolS : FOk Try.prog 28 F_w_toBoolS := fok (V := ⟨tt, [], [], 22, []⟩) tt_ok trivial mixed Try.func28 rfl rfl (enters_of Try.func28 (by kernel_rfl) rfl) rfl (Nat.le_of_ble_eq_true rfl) rfl (.two .no (.two .no (.two (.two .no (.loop [.row 3 4 y4, .slot 4 (.num .i64)] .no)) .no))) (fun d => by kernel_rfl)
theorem k_w_toIntSS : FOk Try.prog 29 F_w_toIntSS := fok (V := ⟨tt, [(16, F_w_toIntS)], [], 23, []⟩) tt_ok ⟨k_w_toIntS, trivial⟩ mixed Try.func29 rfl rfl (enters_of Try.func29 (by kernel_rfl) rfl) rfl (Nat.le_of_ble_eq_true rfl) rfl (.two .no (.two .no (.two (.two .no (.loop [.row 3 22 y22, .slot 4 (.num .i64)] .no)) .no))) (fun d => by kernel_rfl)
theorem k_w_toAutomaton : FOk Try.prog 18 F_w_toAutomaton := fok (V := ⟨tt, [(28, F_w_toBoolS), (29, F_w_toIntSS)], [], 16, []⟩) tt_ok ⟨k_w_toBoolS, k_w_toIntSS, trivial⟩ mixed Try.func18 rfl rfl (enters_of Try.func18 (by kernel_rfl) rfl) rfl (Nat.le_of_ble_eq_true rfl) rfl .no (fun d => by kernel_rfl)
theorem k_w_toView : FOk Try.prog 8 F_w_toView := fok (V := ⟨tt, [(16, F_w_toIntS), (18, F_w_toAutomaton)], [], 20, []⟩) tt_ok ⟨k_w_toIntS, k_w_toAutomaton, trivial⟩ mixed Try.func8 rfl rfl (enters_of Try.func8 (by kernel_rfl) rfl) rfl (Nat.le_of_ble_eq_true rfl) rfl .no (fun d => by kernel_rfl)
theorem k_i_reads : FOk Try.prog 59 F_i_reads := fok (V := ⟨tt, [], [], 13, []⟩) tt_ok trivial mixed Try.func59 rfl rfl (enters_of Try.func59 (by kernel_rfl) rfl) rfl (Nat.le_of_ble_eq_true rfl) rfl .no (fun d => by kernel_rfl)
theorem k_i_arcs : FOk Try.prog 45 F_i_arcs := fok (V := ⟨tt, [(59, F_i_reads)], [], 57, []⟩) tt_ok ⟨k_i_reads, trivial⟩ mixed Try.func45 rfl rfl (enters_of Try.func45 (by kernel_rfl) rfl) rfl (Nat.le_of_ble_eq_true rfl) rfl (.two .no (.two .no (.two (.two .no (.loop [.slot 13 (.num .i64), .row 3 86 y86] .no)) .no))) (fun d => by kernel_rfl)
end Go.Proofs.Ytfjohpmibocjcaa.R
/- Printed by lp.py: each function computes what its model says; the code is run, and the two are compared. -/
set_option linter.unusedVariables false
set_option maxRecDepth 1000000
namespace Go.Proofs.Ytfjohpmibocjcaa.R
open Go.RowKit
open Go.Proofs.Ytfjohpmibocjcaa.D
theorem k_i_members : FOk Try.prog 46 F_i_members := fok (V := ⟨tt, [], [], 22, []⟩) tt_ok trivial mixed Try.func46 rfl rfl (enters_of Try.func46 (by kernel_rfl) rfl) rfl (Nat.le_of_ble_eq_true rfl) rfl (.two .no (.two .no (.two (.two .no (.loop [.slot 3 (.own 3 y3), .slot 4 (.num .i64)] (.two .no (.join [.slot 3 (.own 3 y3)] .no .no)))) .no))) (fun d => by kernel_rfl)
theorem k_i_within : FOk Try.prog 55 F_i_within := fok (V := ⟨tt, [], [], 15, []⟩) tt_ok trivial mixed Try.func55 rfl rfl (enters_of Try.func55 (by kernel_rfl) rfl) rfl (Nat.le_of_ble_eq_true rfl) rfl .no (fun d => by kernel_rfl)
theorem k_i_isLetter : FOk Try.prog 64 F_i_isLetter := fok (V := ⟨tt, [(55, F_i_within)], [], 5, []⟩) tt_ok ⟨k_i_within, trivial⟩ mixed Try.func64 rfl rfl (enters_of Try.func64 (by kernel_rfl) rfl) rfl (Nat.le_of_ble_eq_true rfl) rfl .no (fun d => by kernel_rfl)
theorem k_i_Automaton_move : FOk Try.prog 61 F_i_Automaton_move := fok (V := ⟨tt, [(64, F_i_isLetter)], [], 22, []⟩) tt_ok ⟨k_i_isLetter, trivial⟩ mixed Try.func61 rfl rfl (enters_of Try.func61 (by kernel_rfl) rfl) rfl (Nat.le_of_ble_eq_true rfl) rfl .no (fun d => by kernel_rfl)
theorem k_i_closure : FOk Try.prog 60 F_i_closure := fok (V := ⟨tt, [(61, F_i_Automaton_move)], [], 29, []⟩) tt_ok ⟨k_i_Automaton_move, trivial⟩ mixed Try.func60 rfl rfl (enters_of Try.func60 (by kernel_rfl) rfl) rfl (Nat.le_of_ble_eq_true rfl) rfl (.two .no (.two .no (.two (.two .no (.loop [.slot 7 (.num .i64), .slot 8 (.num .i64)] .no)) .no))) (fun d => by kernel_rfl)
theorem k_i_after : FOk Try.prog 47 F_i_after := fok (V := ⟨tt, [(46, F_i_members), (60, F_i_closure), (61, F_i_Automaton_move)], [], 45, []⟩) tt_ok ⟨k_i_members, k_i_closure, k_i_Automaton_move, trivial⟩ mixed Try.func47 rfl rfl (enters_of Try.func47 (by kernel_rfl) rfl) rfl (Nat.le_of_ble_eq_true rfl) rfl (.two .no (.two .no (.two (.two .no (.loop [.slot 9 (.num .i64), .slot 18 (.num .i64)] (.two .no (.two .no (.two (.two .no (.two .no (.loop [.slot 9 (.num .i64), .slot 28 (.num .i64)] (.two .no (.two .no (.join [.slot 9 (.num .i64)] .no .no)))))) .no))))) .no))) (fun d => by kernel_rfl)
theorem k_i_nextVertices : FOk Try.prog 32 F_i_nextVertices := fok (V := ⟨tt, [(45, F_i_arcs), (46, F_i_members), (47, F_i_after)], [], 86, []⟩) tt_ok ⟨k_i_arcs, k_i_members, k_i_after, trivial⟩ mixed Try.func32 rfl rfl (enters_of Try.func32 (by kernel_rfl) rfl) rfl (Nat.le_of_ble_eq_true rfl) rfl (.two .no (.two .no (.two .no (.two (.two .no (.loop [.slot 26 (.num .i64), .row 6 22 y22] (.two .no (.two .no (.two (.two .no (.two .no (.loop [.slot 9 (.num .i64), .row 6 22 y22] (.two .no (.two (.two .no (.loop [.slot 38 (.num .i64), .row 6 22 y22] (.two .no (.two .no (.two (.two .no (.two .no (.loop [.slot 55 (.num .i64), .row 6 22 y22] .no))) .no))))) .no))))) .no))))) .no)))) (fun d => by kernel_rfl)
theorem k_i_edgeOk : FOk Try.prog 62 F_i_edgeOk := fok (V := ⟨tt, [(55, F_i_within)], [], 27, []⟩) tt_ok ⟨k_i_within, trivial⟩ mixed Try.func62 rfl rfl (enters_of Try.func62 (by kernel_rfl) rfl) rfl (Nat.le_of_ble_eq_true rfl) rfl .no (fun d => by kernel_rfl)
theorem k_i_IsValidGraph : FOk Try.prog 56 F_i_IsValidGraph := fok (V := ⟨tt, [(55, F_i_within), (62, F_i_edgeOk)], [], 59, []⟩) tt_ok ⟨k_i_within, k_i_edgeOk, trivial⟩ mixed Try.func56 rfl rfl (enters_of Try.func56 (by kernel_rfl) rfl) rfl (Nat.le_of_ble_eq_true rfl) rfl (.two .no (.two .no (.two (.two .no (.loop [.slot 14 (.num .i64)] .no)) (.two (.two .no (.loop [.slot 25 (.num .i64)] .no)) .no)))) (fun d => by kernel_rfl)
theorem k_i_IsValidAutomaton : FOk Try.prog 57 F_i_IsValidAutomaton := fok (V := ⟨tt, [(55, F_i_within)], [], 52, []⟩) tt_ok ⟨k_i_within, trivial⟩ mixed Try.func57 rfl rfl (enters_of Try.func57 (by kernel_rfl) rfl) rfl (Nat.le_of_ble_eq_true rfl) rfl (.two .no (.two .no (.two .no (.two (.two .no (.loop [.slot 32 (.num .i64)] (.two .no (.two .no (.two (.two .no (.two (.two .no (.loop [.slot 38 (.num .i64)] .no)) .no)) .no))))) .no)))) (fun d => by kernel_rfl)
theorem k_i_bothOk : FOk Try.prog 42 F_i_bothOk := fok (V := ⟨tt, [(55, F_i_within), (56, F_i_IsValidGraph), (57, F_i_IsValidAutomaton)], [], 29, []⟩) tt_ok ⟨k_i_within, k_i_IsValidGraph, k_i_IsValidAutomaton, trivial⟩ mixed Try.func42 rfl rfl (enters_of Try.func42 (by kernel_rfl) rfl) rfl (Nat.le_of_ble_eq_true rfl) rfl (.two .no (.two (.two .no (.loop [.slot 11 (.num .i64)] .no)) .no)) (fun d => by kernel_rfl)
theorem k_g_math_bits_Mul32 : FOk Try.prog 65 F_g_math_bits_Mul32 := fok (V := ⟨tt, [], [], 17, []⟩) tt_ok trivial mixed Try.func65 rfl rfl (enters_of Try.func65 (by kernel_rfl) rfl) rfl (Nat.le_of_ble_eq_true rfl) rfl .no (fun d => by kernel_rfl)
theorem k_g_math_bits_Mul64 : FOk Try.prog 66 F_g_math_bits_Mul64 := fok (V := ⟨tt, [], [], 51, []⟩) tt_ok trivial mixed Try.func66 rfl rfl (enters_of Try.func66 (by kernel_rfl) rfl) rfl (Nat.le_of_ble_eq_true rfl) rfl .no (fun d => by kernel_rfl)
theorem k_g_math_bits_Mul : FOk Try.prog 63 F_g_math_bits_Mul := fok (V := ⟨tt, [(65, F_g_math_bits_Mul32), (66, F_g_math_bits_Mul64)], [], 30, []⟩) tt_ok ⟨k_g_math_bits_Mul32, k_g_math_bits_Mul64, trivial⟩ mixed Try.func63 rfl rfl (enters_of Try.func63 (by kernel_rfl) rfl) rfl (Nat.le_of_ble_eq_true rfl) rfl .no (fun d => by kernel_rfl)
theorem k_g_slices_Repeat_S_int_int : FOk Try.prog 58 F_g_slices_Repeat_S_int_int := fok (V := ⟨tt, [(63, F_g_math_bits_Mul)], [(44, .bool)], 48, []⟩) tt_ok ⟨k_g_math_bits_Mul, trivial⟩ mixed Try.func58 rfl rfl (enters_of Try.func58 (by kernel_rfl) rfl) rfl (Nat.le_of_ble_eq_true rfl) rfl (.two .no (.two .no (.two .no (.two .no (.two .no (.two .no (.two (.loop [.slot 8 (.num .i64), .row 7 3 (.int .i64)] .no) .no))))))) (fun d => by kernel_rfl)
theorem k_i_spread : FOk Try.prog 43 F_i_spread := fok (V := ⟨tt, [(58, F_g_slices_Repeat_S_int_int)], [(34, .bool)], 67, []⟩) tt_ok ⟨k_g_slices_Repeat_S_int_int, trivial⟩ mixed Try.func43 rfl rfl (enters_of Try.func43 (by kernel_rfl) rfl) rfl (Nat.le_of_ble_eq_true rfl) rfl (.two .no (.two .no (.two .no (.two (.two .no (.loop [.slot 6 (.own 3 (.int .i64)), .slot 18 (.num .i64), .row 5 3 y3] .no)) (.two (.loop [.slot 6 (.own 3 (.int .i64)), .row 5 3 y3] (.two .no (.two (.two .no (.loop [.slot 6 (.own 3 y3), .slot 42 (.num .i64), .row 5 3 y3] (.two .no (.two .no (.two (.at [.slot 6 (.own 3 y3), .row 5 3 y3] .no) .no))))) .no))) .no))))) (fun d => by kernel_rfl)
theorem k_i_DistancesFrom : FOk Try.prog 30 F_i_DistancesFrom := fokN (V := ⟨tt, [(32, F_i_nextVertices), (42, F_i_bothOk), (43, F_i_spread)], [(1000000, .raw)], 26, []⟩) tt_ok ⟨k_i_nextVertices, k_i_bothOk, k_i_spread, trivial⟩ mixed Try.func30 rfl rfl (enters_of Try.func30 (by kernel_rfl) rfl) ⟨rfl, rfl⟩ (Nat.le_of_ble_eq_true rfl) rfl .no (fun d => by kernel_rfl)
end Go.Proofs.Ytfjohpmibocjcaa.R
/- Printed by lp.py: each function computes what its model says; the code is run, and the two are compared. -/
set_option linter.unusedVariables false
set_option maxRecDepth 1000000
namespace Go.Proofs.Ytfjohpmibocjcaa.R
open Go.RowKit
open Go.Proofs.Ytfjohpmibocjcaa.D
theorem k_i_copyInts : FOk Try.prog 44 F_i_copyInts := fok (V := ⟨tt, [], [], 6, []⟩) tt_ok trivial mixed Try.func44 rfl rfl (enters_of Try.func44 (by kernel_rfl) rfl) rfl (Nat.le_of_ble_eq_true rfl) rfl .no (fun d => by kernel_rfl)
theorem k_i_copyAutomaton : FOk Try.prog 31 F_i_copyAutomaton := fok (V := ⟨tt, [(44, F_i_copyInts)], [], 29, []⟩) tt_ok ⟨k_i_copyInts, trivial⟩ mixed Try.func31 rfl rfl (enters_of Try.func31 (by kernel_rfl) rfl) rfl (Nat.le_of_ble_eq_true rfl) rfl (.two .no (.two .no (.two (.two .no (.loop [.slot 16 (.num .i64), .box 3 [(.num .i64), (.own 4 y4), (.own 22 y22)]] .no)) .no))) (fun d => by kernel_rfl)
theorem k_i_BuildView : FOk Try.prog 19 F_i_BuildView := fok (V := ⟨tt, [(30, F_i_DistancesFrom), (31, F_i_copyAutomaton), (32, F_i_nextVertices)], [], 71, []⟩) tt_ok ⟨k_i_DistancesFrom, k_i_copyAutomaton, k_i_nextVertices, trivial⟩ mixed Try.func19 rfl rfl (enters_of Try.func19 (by kernel_rfl) rfl) rfl (Nat.le_of_ble_eq_true rfl) rfl (.two .no (.two .no (.two .no (.two .no (.two (.two .no (.loop [.slot 33 (.num .i64), .par 20 [] 3 y3] (.two .no (.two .no (.two (.two .no (.two .no (.loop [.slot 40 (.num .i64), .par 20 [] 3 y3] (.two .no (.two .no (.two (.at [.par 20 [] 3 y3] .no) .no)))))) .no))))) .no))))) (fun d => by kernel_rfl)
theorem k_i_AuditView : FOk Try.prog 9 F_i_AuditView := fok (V := ⟨tt, [(19, F_i_BuildView)], [], 69, []⟩) tt_ok ⟨k_i_BuildView, trivial⟩ mixed Try.func9 rfl rfl (enters_of Try.func9 (by kernel_rfl) rfl) rfl (Nat.le_of_ble_eq_true rfl) rfl (.two .no (.two .no (.two .no (.two (.two .no (.loop [.slot 40 (.num .i64)] .no)) .no)))) (fun d => by kernel_rfl)
theorem k_w_eqIntS : FOk Try.prog 20 F_w_eqIntS := fok (V := ⟨tt, [], [], 26, []⟩) tt_ok trivial mixed Try.func20 rfl rfl (enters_of Try.func20 (by kernel_rfl) rfl) rfl (Nat.le_of_ble_eq_true rfl) rfl (.two .no (.two .no (.two (.two .no (.loop [.slot 5 (.num .i64)] .no)) .no))) (fun d => by kernel_rfl)
theorem k_w_eqEdge : FOk Try.prog 33 F_w_eqEdge := fok (V := ⟨tt, [], [], 25, []⟩) tt_ok trivial mixed Try.func33 rfl rfl (enters_of Try.func33 (by kernel_rfl) rfl) rfl (Nat.le_of_ble_eq_true rfl) rfl .no (fun d => by kernel_rfl)
theorem k_w_eqEdgeS : FOk Try.prog 21 F_w_eqEdgeS := fok (V := ⟨tt, [(33, F_w_eqEdge)], [], 27, []⟩) tt_ok ⟨k_w_eqEdge, trivial⟩ mixed Try.func21 rfl rfl (enters_of Try.func21 (by kernel_rfl) rfl) rfl (Nat.le_of_ble_eq_true rfl) rfl (.two .no (.two .no (.two (.two .no (.loop [.slot 5 (.num .i64)] .no)) .no))) (fun d => by kernel_rfl)
theorem k_w_eqGraph : FOk Try.prog 10 F_w_eqGraph := fok (V := ⟨tt, [(20, F_w_eqIntS), (21, F_w_eqEdgeS)], [], 17, []⟩) tt_ok ⟨k_w_eqIntS, k_w_eqEdgeS, trivial⟩ mixed Try.func10 rfl rfl (enters_of Try.func10 (by kernel_rfl) rfl) rfl (Nat.le_of_ble_eq_true rfl) rfl .no (fun d => by kernel_rfl)
theorem k_w_eqBoolS : FOk Try.prog 34 F_w_eqBoolS := fok (V := ⟨tt, [], [], 26, []⟩) tt_ok trivial mixed Try.func34 rfl rfl (enters_of Try.func34 (by kernel_rfl) rfl) rfl (Nat.le_of_ble_eq_true rfl) rfl (.two .no (.two .no (.two (.two .no (.loop [.slot 5 (.num .i64)] .no)) .no))) (fun d => by kernel_rfl)
theorem k_w_eqIntSS : FOk Try.prog 35 F_w_eqIntSS := fok (V := ⟨tt, [(20, F_w_eqIntS)], [], 27, []⟩) tt_ok ⟨k_w_eqIntS, trivial⟩ mixed Try.func35 rfl rfl (enters_of Try.func35 (by kernel_rfl) rfl) rfl (Nat.le_of_ble_eq_true rfl) rfl (.two .no (.two .no (.two (.two .no (.loop [.slot 5 (.num .i64)] .no)) .no))) (fun d => by kernel_rfl)
theorem k_w_eqAutomaton : FOk Try.prog 22 F_w_eqAutomaton := fok (V := ⟨tt, [(34, F_w_eqBoolS), (35, F_w_eqIntSS)], [], 22, []⟩) tt_ok ⟨k_w_eqBoolS, k_w_eqIntSS, trivial⟩ mixed Try.func22 rfl rfl (enters_of Try.func22 (by kernel_rfl) rfl) rfl (Nat.le_of_ble_eq_true rfl) rfl .no (fun d => by kernel_rfl)
theorem k_w_eqView : FOk Try.prog 11 F_w_eqView := fok (V := ⟨tt, [(20, F_w_eqIntS), (22, F_w_eqAutomaton)], [], 28, []⟩) tt_ok ⟨k_w_eqIntS, k_w_eqAutomaton, trivial⟩ mixed Try.func11 rfl rfl (enters_of Try.func11 (by kernel_rfl) rfl) rfl (Nat.le_of_ble_eq_true rfl) rfl .no (fun d => by kernel_rfl)
theorem k_w_FnExactAuditView : FOk Try.prog 3 F_w_FnExactAuditView := fok (V := ⟨tt, [(4, F_w_szGraph), (5, F_w_szView), (6, F_s_AuditView), (7, F_w_toGraph), (8, F_w_toView), (9, F_i_AuditView), (10, F_w_eqGraph), (11, F_w_eqView)], [], 45, []⟩) tt_ok ⟨k_w_szGraph, k_w_szView, k_s_AuditView, k_w_toGraph, k_w_toView, k_i_AuditView, k_w_eqGraph, k_w_eqView, trivial⟩ mixed Try.func3 rfl rfl (enters_of Try.func3 (by kernel_rfl) rfl) rfl (Nat.le_of_ble_eq_true rfl) rfl .no (fun d => by kernel_rfl)
end Go.Proofs.Ytfjohpmibocjcaa.R
namespace Go.Proofs.Ytfjohpmibocjcaa.D
open Go.RowKit
theorem c_w_FnExactAuditView (x0 : (List Int) × (List (Int × Int × Int × Int))) (x1 : (Int × (List Bool) × (List (List Int))) × Int × (List Int) × (List Int)) (r : Bool) (hm : m_w_FnExactAuditView x0 x1 = some r) {I : Hp} {w0 : World} (v0_0 : Value) (v0_1 : Value) (v1_0 : Value) (v1_1 : Value) (v1_2 : Value) (v1_3 : Value) (r0_0 : (rSlice 3 rInt).rd I [v0_0] x0.1) (r0_1 : (rSlice 64 (rProd rInt (rProd rInt (rProd rInt rInt)))).rd I [v0_1] x0.2) (r1_0 : (rSlice 4 rBool).rd I [v1_0] x1.1.2.1) (r1_1 : (rSlice 22 (rSlice 3 rInt)).rd I [v1_1] x1.1.2.2) (r1_2 : (rSlice 3 rInt).rd I [v1_2] x1.2.2.1) (r1_3 : (rSlice 3 rInt).rd I [v1_3] x1.2.2.2) : Con Try.prog 3 #[.agg #[v0_0, v0_1], .agg #[.int .i64 x1.1.1, v1_0, v1_1, .int .i64 x1.2.1, v1_2, v1_3]] I w0 [] (fun v => v = .bool r) (fun _ => []) := fun w C hs =>
  ((R.k_w_FnExactAuditView).con w0 I [.agg #[v0_0, v0_1], .agg #[.int .i64 x1.1.1, v1_0, v1_1, .int .i64 x1.2.1, v1_2, v1_3]] (x0, (x1, ())) r ⟨_, _, rfl, ⟨[v0_0, v0_1], rfl, ⟨_, _, rfl, r0_0, r0_1⟩⟩, ⟨_, _, rfl, ⟨[.int .i64 x1.1.1, v1_0, v1_1, .int .i64 x1.2.1, v1_2, v1_3], rfl, ⟨_, _, rfl, ⟨_, _, rfl, rfl, ⟨_, _, rfl, r1_0, r1_1⟩⟩, ⟨_, _, rfl, rfl, ⟨_, _, rfl, r1_2, r1_3⟩⟩⟩⟩, rfl⟩⟩ hm w C hs).mono fun e w' ⟨v, he, _, hst⟩ => by
    obtain ⟨h1, h2⟩ := R.own_flat (h1 := fun _ => rfl) (show St I w0 w' (Ch.own R.Ty.bool.rep [v] r :: C) from hst)
    exact ⟨v, he, (List.cons.inj h1).1, h2⟩
end Go.Proofs.Ytfjohpmibocjcaa.D
/- From the form's reading of an argument to a representation: every data type of the program is opened by these laws. No program text is named here. -/
set_option linter.unusedVariables false
set_option linter.unusedSimpArgs false
set_option linter.unnecessarySimpa false
namespace Go.Proofs.Ytfjohpmibocjcaa.D
open Go.RowKit

def I64 (n : Int) : Prop := -9223372036854775808 ≤ n ∧ n ≤ 9223372036854775807
/-- data within the bounds of the machine ('lim'), and small data, as the laws let through ('sm') -/
class Data (α : Type) where
  lim : α → Prop
  sm : α → Prop
instance : Data Int := ⟨I64, fun _ => True⟩
instance : Data Bool := ⟨fun _ => True, fun _ => True⟩
instance : Data ByteArray := ⟨fun s => s.size ≤ 9223372036854775807, fun s => s.size ≤ 1048576⟩
instance {α β : Type} [Data α] [Data β] : Data (α × β) := ⟨fun x => Data.lim x.1 ∧ Data.lim x.2, fun x => Data.sm x.1 ∧ Data.sm x.2⟩
instance {α : Type} [Data α] : Data (List α) := ⟨fun xs => xs.length ≤ 9223372036854775807 ∧ ∀ x, x ∈ xs → Data.lim x, fun xs => xs.length ≤ 1048576 ∧ ∀ x, x ∈ xs → Data.sm x⟩
/-- What the form reads as a value of the type t, R reads too. -/
structure Opens (P : Program) (t : TypeId) {α : Type} [Data α] (R : Rep α) : Prop where
  out : ∀ {H : Type} (enc : TypeId × Value → H) (w : World) (fuel : Nat) (cs : List Value) (x : DataW H × List MemPlace), DataW.trod enc P w 0 (fun _ => true) true fuel t cs = some x → ∃ a : α, R.rd (hp w) cs a ∧ Data.lim a

theorem opens_int {P : Program} {t : TypeId} (h : P.underlying t = some (.int .i64)) : Opens P t rInt := by
  constructor
  intro H enc w fuel cs x hx
  obtain ⟨n, rfl, -, hw⟩ := DataW.trod_int h hx
  refine ⟨n, rfl, show I64 n from ?_⟩
  simp [Lit.wf, IntKind.min, IntKind.max, IntKind.signed, IntKind.bits] at hw
  unfold I64
  omega
theorem opens_bool {P : Program} {t : TypeId} (h : P.underlying t = some .bool) : Opens P t rBool := by
  constructor
  intro H enc w fuel cs x hx
  obtain ⟨n, rfl, -⟩ := DataW.trod_bool h hx
  exact ⟨n, rfl, trivial⟩
theorem opens_slice {P : Program} {t e : TypeId} {α : Type} [Data α] {R : Rep α} {E : TypeId} (h : P.underlying t = some (.slice e)) (hc : P.cellsOf e = R.size) (h0 : 0 < R.size) (he : Opens P e R) : Opens P t (rSlice E R) := by
  constructor
  intro H enc w fuel cs x hx
  rcases Go.Deep.open_slice h hx with ⟨rfl, -⟩ | ⟨a, len, cap, m, n, D, Pl, rfl, -, hl, hm, hmm, -, hel⟩
  · exact ⟨[], ⟨none, 0, rfl, by simp, .inl rfl⟩, Nat.zero_le _, fun x hx => by cases hx⟩
  have hlm : m = cap := by simpa using hmm
  subst hlm
  rw [hc] at hel
  by_cases hz : len = 0
  · subst hz
    exact ⟨[], ⟨some a, m, rfl, by simp, .inl rfl⟩, Nat.zero_le _, fun x hx => by cases hx⟩
  · have hone : ∀ i, i < len → ∃ c : List Value, ∃ y : α, c.length = R.size ∧ (∀ j, j < R.size → w.cell? ((a.add (i * R.size)).add j) = c[j]?) ∧ R.rd (hp w) c y ∧ Data.lim y := by
      intro i hi
      obtain ⟨c, h1, h2⟩ := hel i (by omega)
      obtain ⟨-, h3, h4⟩ := World.cells?_some h1
      obtain ⟨y, hy⟩ := he.out enc w _ _ _ h2
      exact ⟨c, y, h3, h4, hy⟩
    obtain ⟨c0, y0, hc0, hr0, -⟩ := hone 0 (by omega)
    have h00 := hr0 0 h0
    have hsome : ∃ v, c0[0]? = some v := ⟨_, List.getElem?_eq_getElem (by omega)⟩
    obtain ⟨v, hv⟩ := hsome
    rw [hv] at h00
    have ha : (a.add (0 * R.size)).add 0 = a := by simp [Addr.add]
    rw [ha] at h00
    obtain ⟨b, off, spot⟩ := a
    have hb : ∃ ccs T fr, w.heap[b]? = some (.cells ccs T fr) ∧ spot = none := by
      simp only [World.cell?] at h00
      split at h00
      · rename_i ccs T fr heq
        cases spot with
        | none => exact ⟨ccs, T, fr, heq, rfl⟩
        | some s => simp at h00
      · simp at h00
    obtain ⟨ccs, T, fr, hh, rfl⟩ := hb
    have hadd : ∀ i j, (Addr.add ⟨b, off, none⟩ i).add j = ⟨b, off + i + j, none⟩ := by
      intro i j
      by_cases h1 : i = 0 <;> by_cases h2 : j = 0 <;> simp [Addr.add, h1, h2, Nat.add_assoc]
    haveI : Inhabited α := ⟨y0⟩
    obtain ⟨X, hX⟩ := Go.Deep.choose_lt (α := α) (n := len) (p := fun i y => ∃ c : List Value, c.length = R.size ∧ (∀ j, j < R.size → ccs.toList[off + i * R.size + j]? = c[j]?) ∧ R.rd (hp w) c y ∧ Data.lim y) (fun i hi => by
      obtain ⟨c, y, h1, h2, h3⟩ := hone i hi
      refine ⟨y, c, h1, fun j hj => ?_, h3⟩
      have := h2 j hj
      rw [hadd] at this
      simp only [World.cell?, hh] at this
      simpa using this)
    have hlen : ((List.range len).map X).length = len := by simp
    have hel2 : ∀ i y, ((List.range len).map X)[i]? = some y → i < len ∧ y = X i := fun i y hy => by
      have hi : i < len := by have := (List.getElem?_eq_some_iff.1 hy).1; omega
      exact ⟨hi, by simpa [hi] using hy.symm⟩
    refine ⟨(List.range len).map X, ⟨some ⟨b, off, none⟩, m, by rw [hlen], by rw [hlen]; unfold maxLen at hm; unfold lim; omega, .inr ⟨b, off, ccs, T, fr, rfl, hh, fun i y hy => ?_⟩⟩, by rw [hlen]; unfold maxLen at hm; omega, fun y hy => ?_⟩
    · obtain ⟨hi, rfl⟩ := hel2 i y hy
      obtain ⟨c, e1, e2, e3, -⟩ := hX i hi
      exact ⟨c, e1, e2, e3⟩
    · obtain ⟨i, hi, he⟩ := List.mem_iff_getElem?.1 hy |>.imp fun i hi => hel2 i y hi
      obtain ⟨-, -, -, -, e4⟩ := hX i hi
      rw [he]; exact e4

/-- .. of the fields of a struct, from the offset o on. -/
structure OpensFs (P : Program) (fs : List Field) (o : Nat) {α : Type} [Data α] (R : Rep α) : Prop where
  out : ∀ {H : Type} (enc : TypeId × Value → H) (w : World) (fuel : Nat) (cs : List Value) , cs.length = o + R.size →
    (∀ f ∈ fs, ∃ x, DataW.trod enc P w 0 (fun _ => true) true fuel f.type ((cs.drop f.offset).take (P.cellsOf f.type)) = some x) → ∃ a : α, R.rd (hp w) (cs.drop o) a ∧ Data.lim a
theorem opens_last {P : Program} {f : Field} {o : Nat} {α : Type} [Data α] {R : Rep α} (ho : f.offset = o) (hc : P.cellsOf f.type = R.size) (h : Opens P f.type R) : OpensFs P [f] o R := by
  constructor
  intro H enc w fuel cs hl hx
  obtain ⟨x, hx⟩ := hx f (by simp)
  rw [ho, hc, List.take_of_length_le (by rw [List.length_drop]; omega)] at hx
  exact h.out enc w _ _ _ hx
theorem opens_next {P : Program} {f : Field} {fs : List Field} {o : Nat} {α β : Type} [Data α] [Data β] {R : Rep α} {S : Rep β} (ho : f.offset = o) (hc : P.cellsOf f.type = R.size) (h : Opens P f.type R) (hs : OpensFs P fs (o + R.size) S) : OpensFs P (f :: fs) o (rProd R S) := by
  constructor
  intro H enc w fuel cs hl hx
  have hl' : cs.length = o + (R.size + S.size) := hl
  obtain ⟨b, hb, hlb⟩ := hs.out enc w fuel cs (by omega) (fun g hg => hx g (by simp [hg]))
  obtain ⟨x, hx⟩ := hx f (by simp)
  rw [ho, hc] at hx
  obtain ⟨a, ha, hla⟩ := h.out enc w _ _ _ hx
  refine ⟨(a, b), ⟨(cs.drop o).take R.size, cs.drop (o + R.size), ?_, ha, hb⟩, hla, hlb⟩
  rw [← List.drop_drop, List.take_append_drop]
theorem opens_struct {P : Program} {t : TypeId} {fs : Array Field} {α : Type} [Data α] {R : Rep α} (h : P.underlying t = some (.struct fs)) (hc : P.cellsOf t = R.size) (hf : OpensFs P fs.toList 0 R) : Opens P t R := by
  constructor
  intro H enc w fuel cs x hx
  obtain ⟨xs, n, -, -, hl, hn, hel⟩ := DataW.trod_struct h hx
  have := hf.out enc w n cs (by omega) (fun f hm => by
    obtain ⟨i, hi, rfl⟩ := List.getElem_of_mem hm
    have h1 : fs[i]? = some fs.toList[i] := by simp
    exact ⟨_, (hel i _ h1).trans (List.getElem?_eq_getElem (by simp at hi; omega))⟩)
  simpa using this
theorem St.below {w0 w : World} {cs : List Ch} (h : St (hp w0) w0 w cs) : Below w0.heap.size w0 w := by
  obtain ⟨⟨h1, h2, h3, h4⟩, h5, -⟩ := h
  refine ⟨h1, h2, h3, h4, fun b hb => ?_⟩
  have e : w0.heap[b]? = some w0.heap[b] := Array.getElem?_eq_getElem hb
  rw [e]; exact h5 b _ e
end Go.Proofs.Ytfjohpmibocjcaa.D
/- Loops of models: what rows are looked through, copied, counted, compared. No program text is named here. -/
set_option linter.unusedVariables false
set_option linter.unusedSimpArgs false
set_option linter.unnecessarySimpa false
namespace Go.Proofs.Ytfjohpmibocjcaa.D
open Go.RowKit

theorem wrapI {n : Int} (h1 : -9223372036854775808 ≤ n) (h2 : n ≤ 9223372036854775807) : IntKind.i64.wrap n = n := by
  simp only [IntKind.wrap, IntKind.bits, IntKind.signed, Bool.true_and]
  split <;> rename_i h <;> simp at h <;> omega
theorem wrap_succ {i : Nat} (h : i < 9223372036854775807) : IntKind.i64.wrap ((i : Int) + 1) = ((i + 1 : Nat) : Int) := by
  rw [wrapI (by omega) (by omega)]; rfl
theorem getI_nat {α : Type} {xs : List α} {i : Nat} (h : i < xs.length) : getI xs (i : Int) = some (xs[i]) := by
  unfold getI
  rw [if_pos (Int.natCast_nonneg _)]
  simp [h]
theorem lt_nat {i n : Nat} (h : i < n) : decide ((i : Int) < (n : Int)) = true := by simp [h]
theorem lt_self {n : Nat} : decide ((n : Int) < (n : Int)) = false := by simp
theorem fuelUp (k : Nat) (h : k ≤ 9223372036854775807) : k < FUEL := by unfold FUEL; omega
theorem mkI_ok {α : Type} {b n : Nat} {z : α} (h : n * b ≤ 140737488355328) : mkI b (n : Int) z = some (List.replicate n z) := by
  unfold mkI
  rw [if_pos ⟨Int.natCast_nonneg _, by simpa using h⟩]; simp
theorem loopM_nxt {R S : Type} {f : S → Option (Out R S)} (inv : Nat → S) (N : Nat) (h : ∀ i, i < N → f (inv i) = some (.nxt (inv (i + 1)))) : ∀ (m i k : Nat), i + m = N → loopM f (k + m) (inv i) = loopM f k (inv N)
  | 0, i, k, e => by rw [show i = N by omega]; rfl
  | m + 1, i, k, e => by
    rw [← Nat.add_assoc, loopM, h i (by omega)]
    exact loopM_nxt inv N h m (i + 1) k (by omega)
theorem loopM_all {R S : Type} {f : S → Option (Out R S)} (inv : Nat → S) (N : Nat) {s : S} (h : ∀ i, i < N → f (inv i) = some (.nxt (inv (i + 1)))) (he : f (inv N) = some (.brk s)) (hN : N < FUEL) : loopM f FUEL (inv 0) = some (.brk s) := by
  have e : FUEL = (FUEL - N - 1) + 1 + N := by omega
  rw [e, loopM_nxt inv N h N 0 _ (by omega), loopM, he]
theorem toL {R α : Type} {f : List α × Int → Option (Out R (List α × Int))} {z : α} (xs : List α) (hN : xs.length ≤ 9223372036854775807)
    (hstep : ∀ ys i (h : i < xs.length), ys.length = xs.length → f (ys, (i : Int)) = some (.nxt (ys.set i xs[i], ((i + 1 : Nat) : Int)))) (hend : ∀ ys, ys.length = xs.length → f (ys, (xs.length : Int)) = some (.brk (ys, (xs.length : Int)))) :
    loopM f FUEL (List.replicate xs.length z, 0) = some (.brk (xs, (xs.length : Int))) := by
  have h0 : (List.replicate xs.length z, (0 : Int)) = (fun i : Nat => (xs.take i ++ (List.replicate xs.length z).drop i, (i : Int))) 0 := by simp
  rw [h0]
  refine loopM_all (fun i : Nat => (xs.take i ++ (List.replicate xs.length z).drop i, (i : Int))) xs.length (fun i hi => ?_) ?_ (fuelUp _ hN)
  · have hl : (xs.take i ++ (List.replicate xs.length z).drop i).length = xs.length := by
      rw [List.length_append, List.length_take, List.length_drop, List.length_replicate]; omega
    rw [hstep _ i hi hl]
    congr 3
    have ht : (xs.take i).length = i := by rw [List.length_take]; omega
    rw [List.set_append_right _ _ (by omega), ht, Nat.sub_self, List.drop_eq_getElem_cons (by rw [List.length_replicate]; exact hi), List.set_cons_zero, List.take_succ_eq_append_getElem hi, List.append_assoc]
    rfl
  · have := hend xs rfl
    rw [List.take_of_length_le (Nat.le_refl _), List.drop_of_length_le (by rw [List.length_replicate]; exact Nat.le_refl _), List.append_nil]
    exact this
def SzOk {α : Type} [Data α] (m : α → Int → Option Int) : Prop := ∀ x l, Data.lim x → 0 ≤ l → l ≤ 1048576 → ∃ r, m x l = some r ∧ (r < 0 ∨ (0 ≤ r ∧ r ≤ l ∧ Data.sm x))
def ToOk {α : Type} [Data α] (m : α → Option α) : Prop := ∀ x, Data.sm x → m x = some x
def EqOk {α : Type} [Data α] [DecidableEq α] (m : α → α → Option Bool) : Prop := ∀ x y, Data.sm x → Data.sm y → m x y = some (decide (x = y))
theorem szGo {α : Type} [Data α] {f : Int × Int → Option (Out Int (Int × Int))} (xs : List α)
    (hstep : ∀ i (h : i < xs.length) l, 0 ≤ l → l ≤ 1048576 → ∃ r, f (l, (i : Int)) = some (if r < 0 then .ret (-1) else .nxt (r, ((i + 1 : Nat) : Int))) ∧ (r < 0 ∨ (0 ≤ r ∧ r ≤ l ∧ Data.sm xs[i])))
    (hend : ∀ l, f (l, (xs.length : Int)) = some (.brk (l, (xs.length : Int)))) : ∀ (m i k : Nat) (l : Int), i + m = xs.length → m < k → 0 ≤ l → l ≤ 1048576 →
      loopM f k (l, (i : Int)) = some (.ret (-1)) ∨ ∃ r, loopM f k (l, (i : Int)) = some (.brk (r, (xs.length : Int))) ∧ 0 ≤ r ∧ r ≤ l ∧ ∀ j (h : j < xs.length), i ≤ j → Data.sm xs[j]
  | 0, i, k, l, e, hk, h0, h1 => by
    obtain ⟨k, rfl⟩ : ∃ q, k = q + 1 := ⟨k - 1, by omega⟩
    obtain rfl : i = xs.length := by omega
    exact .inr ⟨l, by rw [loopM, hend], h0, Int.le_refl _, fun j hj hi => by omega⟩
  | m + 1, i, k, l, e, hk, h0, h1 => by
    obtain ⟨k, rfl⟩ : ∃ q, k = q + 1 := ⟨k - 1, by omega⟩
    obtain ⟨r, e1, e2⟩ := hstep i (by omega) l h0 h1
    rw [loopM, e1]
    rcases e2 with e2 | ⟨e2, e3, e4⟩
    · rw [if_pos e2]; exact .inl rfl
    · rw [if_neg (by omega)]
      rcases szGo xs hstep hend m (i + 1) k r (by omega) (by omega) e2 (by omega) with h | ⟨q, g1, g2, g3, g4⟩
      · exact .inl h
      · refine .inr ⟨q, g1, g2, by omega, fun j hj hi => ?_⟩
        by_cases hji : j = i
        · subst hji; exact e4
        · exact g4 j hj (by omega)
theorem szL {α : Type} [Data α] {f : Int × Int → Option (Out Int (Int × Int))} (xs : List α) {l : Int} (hN : xs.length ≤ 9223372036854775807)
    (hstep : ∀ i (h : i < xs.length) l, 0 ≤ l → l ≤ 1048576 → ∃ r, f (l, (i : Int)) = some (if r < 0 then .ret (-1) else .nxt (r, ((i + 1 : Nat) : Int))) ∧ (r < 0 ∨ (0 ≤ r ∧ r ≤ l ∧ Data.sm xs[i])))
    (hend : ∀ l, f (l, (xs.length : Int)) = some (.brk (l, (xs.length : Int)))) (h0 : 0 ≤ l) (h1 : l ≤ 1048576) :
    ∃ r, (if decide (IntKind.i64.wrap (l - (xs.length : Int)) < 0) then (some (-1)) else (bindL (loopM f FUEL (IntKind.i64.wrap (l - (xs.length : Int)), 0)) (fun r => some r) (fun s4 => some s4.1))) = some r ∧ (r < 0 ∨ (0 ≤ r ∧ r ≤ l ∧ Data.sm xs)) := by
  rw [wrapI (by omega) (by omega)]
  by_cases h : l - (xs.length : Int) < 0
  · exact ⟨-1, by rw [if_pos (decide_eq_true h)], .inl (by decide)⟩
  · rw [if_neg (by simpa using h)]
    rcases szGo xs hstep hend xs.length 0 FUEL (l - xs.length) (by omega) (fuelUp _ hN) (by omega) (by omega) with e | ⟨r, e, g1, g2, g3⟩
    · exact ⟨-1, by rw [show ((0 : Int)) = ((0 : Nat) : Int) from rfl, e]; rfl, .inl (by decide)⟩
    · refine ⟨r, by rw [show ((0 : Int)) = ((0 : Nat) : Int) from rfl, e]; rfl, .inr ⟨g1, by omega, by omega, fun x hx => ?_⟩⟩
      obtain ⟨j, hj, rfl⟩ := List.getElem_of_mem hx
      exact g3 j hj (Nat.zero_le _)
theorem szF {α : Type} [Data α] (xs : List α) {l : Int} (hN : xs.length ≤ 9223372036854775807) (hf : ∀ x : α, Data.sm x) (h0 : 0 ≤ l) (h1 : l ≤ 1048576) :
    ∃ r, (if decide (IntKind.i64.wrap (l - (xs.length : Int)) < 0) then (some (-1)) else (some (IntKind.i64.wrap (l - (xs.length : Int))))) = some r ∧ (r < 0 ∨ (0 ≤ r ∧ r ≤ l ∧ Data.sm xs)) := by
  rw [wrapI (by omega) (by omega)]
  by_cases h : l - (xs.length : Int) < 0
  · exact ⟨-1, by rw [if_pos (decide_eq_true h)], .inl (by decide)⟩
  · exact ⟨_, by rw [if_neg (by simpa using h)], .inr ⟨by omega, by omega, by omega, fun x _ => hf x⟩⟩
theorem eqGo {α : Type} [DecidableEq α] {f : Int → Option (Out Bool Int)} (xs ys : List α) (hl : xs.length = ys.length)
    (hstep : ∀ i (h : i < xs.length) (h' : i < ys.length), f (i : Int) = some (if xs[i] = ys[i] then .nxt ((i + 1 : Nat) : Int) else .ret false)) (hend : f (xs.length : Int) = some (.brk (xs.length : Int))) : ∀ (m i k : Nat), i + m = xs.length → m < k →
      loopM f k (i : Int) = some (if xs.drop i = ys.drop i then .brk (xs.length : Int) else .ret false)
  | 0, i, k, e, hk => by
    obtain ⟨k, rfl⟩ : ∃ q, k = q + 1 := ⟨k - 1, by omega⟩
    obtain rfl : i = xs.length := by omega
    rw [loopM, hend, List.drop_of_length_le (Nat.le_refl _), List.drop_of_length_le (by omega), if_pos rfl]
  | m + 1, i, k, e, hk => by
    obtain ⟨k, rfl⟩ : ∃ q, k = q + 1 := ⟨k - 1, by omega⟩
    have hi : i < xs.length := by omega
    have hi' : i < ys.length := by omega
    have d1 := List.drop_eq_getElem_cons hi
    have d2 := List.drop_eq_getElem_cons hi'
    rw [loopM, hstep i hi hi', d1, d2]
    by_cases h : xs[i] = ys[i]
    · rw [if_pos h]
      simp only
      rw [eqGo xs ys hl hstep hend m (i + 1) k (by omega) (by omega)]
      simp only [List.cons.injEq, h, true_and]
    · rw [if_neg h]
      simp only [List.cons.injEq, h, false_and, if_false]
theorem eqL {α : Type} [DecidableEq α] {f : Int → Option (Out Bool Int)} (xs ys : List α) (hN : xs.length ≤ 9223372036854775807)
    (hstep : ∀ i (h : i < xs.length) (h' : i < ys.length), f (i : Int) = some (if xs[i] = ys[i] then .nxt ((i + 1 : Nat) : Int) else .ret false)) (hend : f (xs.length : Int) = some (.brk (xs.length : Int))) :
    (if (xs.length : Int) != (ys.length : Int) then (some false) else (bindL (loopM f FUEL 0) (fun r => some r) (fun s4 => some true))) = some (decide (xs = ys)) := by
  by_cases hl : xs.length = ys.length
  · rw [if_neg (by rw [hl]; simp), show ((0 : Int)) = ((0 : Nat) : Int) from rfl, eqGo xs ys hl hstep hend xs.length 0 FUEL (by omega) (fuelUp _ hN)]
    by_cases h : xs = ys
    · subst h; simp [bindL]
    · simp [bindL, h]
  · have : xs ≠ ys := fun e => hl (by rw [e])
    rw [if_pos (by simp; omega)]; simp [this]
theorem iteOpt {α : Type} {c d : Prop} [Decidable c] [Decidable d] {a b : α} (h : c ↔ d) : (if c then some a else some b) = some (if d then a else b) := by
  by_cases k : c
  · rw [if_pos k, if_pos (h.1 k)]
  · rw [if_neg k, if_neg (fun e => k (h.2 e))]
theorem iteOptN {α : Type} {c d : Prop} [Decidable c] [Decidable d] {a b : α} (h : c ↔ ¬ d) : (if c then some b else some a) = some (if d then a else b) := by
  by_cases k : d
  · rw [if_neg (fun e => h.1 e k), if_pos k]
  · rw [if_pos (h.2 k), if_neg k]
theorem eqB {α : Type} [DecidableEq α] {f : Int → Option (Out Bool Int)} {K : Option Bool} (xs ys : List α) (hN : xs.length ≤ 9223372036854775807) (hl : xs.length = ys.length)
    (hstep : ∀ i (h : i < xs.length) (h' : i < ys.length), f (i : Int) = some (if xs[i] = ys[i] then .nxt ((i + 1 : Nat) : Int) else .ret false)) (hend : f (xs.length : Int) = some (.brk (xs.length : Int))) :
    bindL (loopM f FUEL 0) (fun r => some r) (fun s4 => K) = (if xs = ys then K else some false) := by
  rw [show ((0 : Int)) = ((0 : Nat) : Int) from rfl, eqGo xs ys hl hstep hend xs.length 0 FUEL (by omega) (fuelUp _ hN)]
  by_cases h : xs = ys
  · subst h; simp [bindL]
  · simp [bindL, h]
instance : LawfulBEq ByteArray where
  eq_of_beq {a b} h := ByteArray.ext (eq_of_beq (show (a.data == b.data) = true from h))
  rfl {a} := beq_self_eq_true a.data
theorem peta {α β : Type} (p : α × β) : (p.1, p.2) = p := rfl
theorem sm_list {α : Type} [Data α] {xs : List α} (h : Data.sm xs) : xs.length ≤ 1048576 ∧ ∀ x, x ∈ xs → Data.sm x := h
theorem lim_list {α : Type} [Data α] {xs : List α} (h : Data.lim xs) : xs.length ≤ 9223372036854775807 ∧ ∀ x, x ∈ xs → Data.lim x := h
end Go.Proofs.Ytfjohpmibocjcaa.D
/- Printed by genplain.py: what the helpers of the law FnExactAuditView compute. -/
set_option linter.unusedVariables false
set_option linter.unusedSimpArgs false
set_option linter.unnecessarySimpa false
set_option synthInstance.maxSize 20000
set_option synthInstance.maxHeartbeats 2000000
namespace Go.Proofs.Ytfjohpmibocjcaa.D
open Go.RowKit
theorem z_szIntS : SzOk m_w_szIntS := fun xs l hl h0 h1 => szF xs (lim_list hl).1 (fun _ => trivial) h0 h1
theorem z_szEdgeS : SzOk m_w_szEdgeS := fun xs l hl h0 h1 => szF xs (lim_list hl).1 (fun _ => ⟨trivial, trivial, trivial, trivial⟩) h0 h1
theorem z_szGraph : SzOk m_w_szGraph := by
  intro x l hl h0 h1
  unfold m_w_szGraph
  try simp only [peta]
  obtain ⟨r1, e1, k1⟩ := z_szIntS x.1 l hl.1 (by omega) (by omega)
  rw [e1]; simp only [Option.bind_some]
  rcases k1 with k1 | ⟨k1, j1, s1⟩
  · exact ⟨-1, by rw [if_pos (decide_eq_true k1)], .inl (by decide)⟩
  rw [if_neg (by simpa using k1)]
  obtain ⟨r2, e2, k2⟩ := z_szEdgeS x.2 r1 hl.2 (by omega) (by omega)
  rw [e2]; simp only [Option.bind_some]
  rcases k2 with k2 | ⟨k2, j2, s2⟩
  · exact ⟨-1, by rw [if_pos (decide_eq_true k2)], .inl (by decide)⟩
  rw [if_neg (by simpa using k2)]
  exact ⟨_, rfl, .inr ⟨by omega, by omega, ⟨s1, s2⟩⟩⟩
theorem z_szBoolS : SzOk m_w_szBoolS := fun xs l hl h0 h1 => szF xs (lim_list hl).1 (fun _ => trivial) h0 h1
theorem z_szIntSS : SzOk m_w_szIntSS := fun xs l hl h0 h1 => szL (f := m_w_szIntSS_l0 xs) xs (lim_list hl).1 (fun i h l k0 k1 => by
  obtain ⟨r, e, hr⟩ := z_szIntS xs[i] l ((lim_list hl).2 _ (List.getElem_mem h)) k0 k1
  refine ⟨r, ?_, hr⟩
  simp only [m_w_szIntSS_l0, lt_nat h, if_true, getI_nat h, Option.bind_some, peta, e, wrap_succ (show i < 9223372036854775807 by have := (lim_list hl).1; omega)]
  exact iteOpt (by simp)) (fun l => by simp only [m_w_szIntSS_l0, lt_self]; rfl) h0 h1
theorem z_szAutomaton : SzOk m_w_szAutomaton := by
  intro x l hl h0 h1
  unfold m_w_szAutomaton
  try simp only [peta]
  obtain ⟨r1, e1, k1⟩ := z_szBoolS x.2.1 l hl.2.1 (by omega) (by omega)
  rw [e1]; simp only [Option.bind_some]
  rcases k1 with k1 | ⟨k1, j1, s1⟩
  · exact ⟨-1, by rw [if_pos (decide_eq_true k1)], .inl (by decide)⟩
  rw [if_neg (by simpa using k1)]
  obtain ⟨r2, e2, k2⟩ := z_szIntSS x.2.2 r1 hl.2.2 (by omega) (by omega)
  rw [e2]; simp only [Option.bind_some]
  rcases k2 with k2 | ⟨k2, j2, s2⟩
  · exact ⟨-1, by rw [if_pos (decide_eq_true k2)], .inl (by decide)⟩
  rw [if_neg (by simpa using k2)]
  exact ⟨_, rfl, .inr ⟨by omega, by omega, ⟨trivial, s1, s2⟩⟩⟩
theorem z_szView : SzOk m_w_szView := by
  intro x l hl h0 h1
  unfold m_w_szView
  try simp only [peta]
  obtain ⟨r1, e1, k1⟩ := z_szAutomaton x.1 l hl.1 (by omega) (by omega)
  rw [e1]; simp only [Option.bind_some]
  rcases k1 with k1 | ⟨k1, j1, s1⟩
  · exact ⟨-1, by rw [if_pos (decide_eq_true k1)], .inl (by decide)⟩
  rw [if_neg (by simpa using k1)]
  obtain ⟨r2, e2, k2⟩ := z_szIntS x.2.2.1 r1 hl.2.2.1 (by omega) (by omega)
  rw [e2]; simp only [Option.bind_some]
  rcases k2 with k2 | ⟨k2, j2, s2⟩
  · exact ⟨-1, by rw [if_pos (decide_eq_true k2)], .inl (by decide)⟩
  rw [if_neg (by simpa using k2)]
  obtain ⟨r3, e3, k3⟩ := z_szIntS x.2.2.2 r2 hl.2.2.2 (by omega) (by omega)
  rw [e3]; simp only [Option.bind_some]
  rcases k3 with k3 | ⟨k3, j3, s3⟩
  · exact ⟨-1, by rw [if_pos (decide_eq_true k3)], .inl (by decide)⟩
  rw [if_neg (by simpa using k3)]
  exact ⟨_, rfl, .inr ⟨by omega, by omega, ⟨s1, trivial, s2, s3⟩⟩⟩
theorem t_toIntS : ToOk m_w_toIntS := by
  intro xs hx
  have hn := (sm_list hx).1
  unfold m_w_toIntS
  rw [mkI_ok (by omega)]; simp only [Option.bind_some]
  rw [toL (f := m_w_toIntS_l0 xs) xs (by omega) (fun ys i h hy => by simp only [m_w_toIntS_l0, lt_nat h, if_true, getI_nat h, getI_nat (show i < ys.length by omega), Option.bind_some, peta, wrap_succ (show i < 9223372036854775807 by omega), Int.toNat_natCast]) (fun ys hy => by simp only [m_w_toIntS_l0, lt_self]; rfl)]
  rfl
theorem t_toEdge : ToOk m_w_toEdge := by
  intro x hx
  unfold m_w_toEdge
  simp only [peta, Option.bind_some]
theorem t_toEdgeS : ToOk m_w_toEdgeS := by
  intro xs hx
  have hn := (sm_list hx).1
  unfold m_w_toEdgeS
  rw [mkI_ok (by omega)]; simp only [Option.bind_some]
  rw [toL (f := m_w_toEdgeS_l0 xs) xs (by omega) (fun ys i h hy => by simp only [m_w_toEdgeS_l0, lt_nat h, if_true, getI_nat h, getI_nat (show i < ys.length by omega), Option.bind_some, peta, t_toEdge xs[i] ((sm_list hx).2 _ (List.getElem_mem h)), wrap_succ (show i < 9223372036854775807 by omega), Int.toNat_natCast]) (fun ys hy => by simp only [m_w_toEdgeS_l0, lt_self]; rfl)]
  rfl
theorem t_toGraph : ToOk m_w_toGraph := by
  intro x hx
  unfold m_w_toGraph
  simp only [peta, Option.bind_some, t_toIntS x.1 hx.1, t_toEdgeS x.2 hx.2]
theorem t_toBoolS : ToOk m_w_toBoolS := by
  intro xs hx
  have hn := (sm_list hx).1
  unfold m_w_toBoolS
  rw [mkI_ok (by omega)]; simp only [Option.bind_some]
  rw [toL (f := m_w_toBoolS_l0 xs) xs (by omega) (fun ys i h hy => by simp only [m_w_toBoolS_l0, lt_nat h, if_true, getI_nat h, getI_nat (show i < ys.length by omega), Option.bind_some, peta, wrap_succ (show i < 9223372036854775807 by omega), Int.toNat_natCast]) (fun ys hy => by simp only [m_w_toBoolS_l0, lt_self]; rfl)]
  rfl
theorem t_toIntSS : ToOk m_w_toIntSS := by
  intro xs hx
  have hn := (sm_list hx).1
  unfold m_w_toIntSS
  rw [mkI_ok (by omega)]; simp only [Option.bind_some]
  rw [toL (f := m_w_toIntSS_l0 xs) xs (by omega) (fun ys i h hy => by simp only [m_w_toIntSS_l0, lt_nat h, if_true, getI_nat h, getI_nat (show i < ys.length by omega), Option.bind_some, peta, t_toIntS xs[i] ((sm_list hx).2 _ (List.getElem_mem h)), wrap_succ (show i < 9223372036854775807 by omega), Int.toNat_natCast]) (fun ys hy => by simp only [m_w_toIntSS_l0, lt_self]; rfl)]
  rfl
theorem t_toAutomaton : ToOk m_w_toAutomaton := by
  intro x hx
  unfold m_w_toAutomaton
  simp only [peta, Option.bind_some, t_toBoolS x.2.1 hx.2.1, t_toIntSS x.2.2 hx.2.2]
theorem t_toView : ToOk m_w_toView := by
  intro x hx
  unfold m_w_toView
  simp only [peta, Option.bind_some, t_toAutomaton x.1 hx.1, t_toIntS x.2.2.1 hx.2.2.1, t_toIntS x.2.2.2 hx.2.2.2]
theorem q_eqIntS : EqOk m_w_eqIntS := fun xs ys hx hy => eqL (f := m_w_eqIntS_l0 xs ys) xs ys (by have := (sm_list hx).1; omega) (fun i h h' => by
  simp only [m_w_eqIntS_l0, lt_nat h, if_true, getI_nat h, getI_nat h', Option.bind_some, peta, wrap_succ (show i < 9223372036854775807 by have := (sm_list hx).1; omega)]
  first | exact iteOpt (by simp) | exact iteOptN (by simp) | exact iteOpt (by simp [Prod.ext_iff])) (by simp only [m_w_eqIntS_l0, lt_self]; rfl)
theorem q_eqEdge : EqOk m_w_eqEdge := by
  intro x y hx hy
  unfold m_w_eqEdge
  try simp only [peta, Option.bind_some]
  repeat' split
  all_goals simp_all [Prod.ext_iff]
theorem q_eqEdgeS : EqOk m_w_eqEdgeS := fun xs ys hx hy => eqL (f := m_w_eqEdgeS_l0 xs ys) xs ys (by have := (sm_list hx).1; omega) (fun i h h' => by
  simp only [m_w_eqEdgeS_l0, lt_nat h, if_true, getI_nat h, getI_nat h', Option.bind_some, peta, q_eqEdge xs[i] ys[i] ((sm_list hx).2 _ (List.getElem_mem h)) ((sm_list hy).2 _ (List.getElem_mem h')), wrap_succ (show i < 9223372036854775807 by have := (sm_list hx).1; omega)]
  first | exact iteOpt (by simp) | exact iteOptN (by simp) | exact iteOpt (by simp [Prod.ext_iff])) (by simp only [m_w_eqEdgeS_l0, lt_self]; rfl)
theorem q_eqGraph : EqOk m_w_eqGraph := by
  intro x y hx hy
  unfold m_w_eqGraph
  try simp only [peta, Option.bind_some, q_eqIntS x.1 y.1 hx.1 hy.1, q_eqEdgeS x.2 y.2 hx.2 hy.2]
  repeat' split
  all_goals simp_all [Prod.ext_iff]
theorem q_eqBoolS : EqOk m_w_eqBoolS := fun xs ys hx hy => eqL (f := m_w_eqBoolS_l0 xs ys) xs ys (by have := (sm_list hx).1; omega) (fun i h h' => by
  simp only [m_w_eqBoolS_l0, lt_nat h, if_true, getI_nat h, getI_nat h', Option.bind_some, peta, wrap_succ (show i < 9223372036854775807 by have := (sm_list hx).1; omega)]
  first | exact iteOpt (by simp) | exact iteOptN (by simp) | exact iteOpt (by simp [Prod.ext_iff])) (by simp only [m_w_eqBoolS_l0, lt_self]; rfl)
theorem q_eqIntSS : EqOk m_w_eqIntSS := fun xs ys hx hy => eqL (f := m_w_eqIntSS_l0 xs ys) xs ys (by have := (sm_list hx).1; omega) (fun i h h' => by
  simp only [m_w_eqIntSS_l0, lt_nat h, if_true, getI_nat h, getI_nat h', Option.bind_some, peta, q_eqIntS xs[i] ys[i] ((sm_list hx).2 _ (List.getElem_mem h)) ((sm_list hy).2 _ (List.getElem_mem h')), wrap_succ (show i < 9223372036854775807 by have := (sm_list hx).1; omega)]
  first | exact iteOpt (by simp) | exact iteOptN (by simp) | exact iteOpt (by simp [Prod.ext_iff])) (by simp only [m_w_eqIntSS_l0, lt_self]; rfl)
theorem q_eqAutomaton : EqOk m_w_eqAutomaton := by
  intro x y hx hy
  unfold m_w_eqAutomaton
  try simp only [peta, Option.bind_some, q_eqBoolS x.2.1 y.2.1 hx.2.1 hy.2.1, q_eqIntSS x.2.2 y.2.2 hx.2.2 hy.2.2]
  repeat' split
  all_goals simp_all [Prod.ext_iff]
theorem q_eqView : EqOk m_w_eqView := by
  intro x y hx hy
  unfold m_w_eqView
  try simp only [peta, Option.bind_some, q_eqAutomaton x.1 y.1 hx.1 hy.1, q_eqIntS x.2.2.1 y.2.2.1 hx.2.2.1 hy.2.2.1, q_eqIntS x.2.2.2 y.2.2.2 hx.2.2.2 hy.2.2.2]
  repeat' split
  all_goals simp_all [Prod.ext_iff]
end Go.Proofs.Ytfjohpmibocjcaa.D
/- Loops as steps on invariants; numbering in the order of discovery. No program text is named here. -/
set_option linter.unusedVariables false
set_option linter.unusedSimpArgs false
set_option linter.unnecessarySimpa false
namespace Go.Proofs.Ytfjohpmibocjcaa.D
open Go.RowKit

/-! ### Loops -/
theorem loopM_go {R S : Type} {f : S → Option (Out R S)} (Inv : Nat → S → Prop) (Q : Out R S → Prop) (N : Nat)
    (h : ∀ i s, i ≤ N → Inv i s → (i < N ∧ ∃ s', f s = some (.nxt s') ∧ Inv (i + 1) s') ∨ ∃ o, f s = some o ∧ (∀ s', o ≠ .nxt s') ∧ Q o) {s : S} (h0 : Inv 0 s) (hN : N < FUEL) : ∃ o, loopM f FUEL s = some o ∧ Q o := by
  have key : ∀ (k i : Nat) (s : S), i ≤ N → N < i + k → Inv i s → ∃ o, loopM f k s = some o ∧ Q o := by
    intro k
    induction k with
    | zero => intro i s h1 h2; omega
    | succ k ih =>
      intro i s h1 h2 hI
      rcases h i s h1 hI with ⟨hi, s', e, hI'⟩ | ⟨o, e, hn, hq⟩
      · obtain ⟨o, e', hq⟩ := ih (i + 1) s' (by omega) (by omega) hI'
        exact ⟨o, by rw [loopM, e]; exact e', hq⟩
      · refine ⟨o, ?_, hq⟩
        rw [loopM, e]
        cases o with
        | nxt s' => exact absurd rfl (hn s')
        | brk s' => rfl
        | ret r => rfl
  exact key FUEL 0 s (by omega) (by omega) h0
theorem loopM_at {R S : Type} {f : S → Option (Out R S)} (st : Nat → S) (N : Nat) (h : ∀ i, i < N → f (st i) = some (.nxt (st (i + 1)))) (he : f (st N) = some (.brk (st N))) (hN : N < FUEL) : loopM f FUEL (st 0) = some (.brk (st N)) := loopM_all st N h he hN
theorem up63 {k : Nat} (h : k ≤ 9223372036854775807) : k < FUEL := fuelUp k h
theorem wrap_nat {i : Nat} (h : i ≤ 9223372036854775807) : IntKind.i64.wrap (i : Int) = (i : Int) := wrapI (by omega) (by omega)
theorem wrap_pred {i : Nat} (h : i ≤ 9223372036854775807) : IntKind.i64.wrap ((i : Int) - 1) = (i : Int) - 1 := wrapI (by omega) (by omega)
theorem appI_ok {α : Type} {b : Nat} {xs ys : List α} (h : (xs.length + ys.length) * b ≤ 140737488355328) : appI b xs ys = some (xs ++ ys) := by unfold appI; rw [if_pos h]
theorem bindL_ret {R S T : Type} {x : Option (Out R S)} {r : R} {kr : R → Option T} {k : S → Option T} (h : x = some (.ret r)) : bindL x kr k = kr r := by rw [h]; rfl
theorem bindL_brk {R S T : Type} {x : Option (Out R S)} {s : S} {kr : R → Option T} {k : S → Option T} (h : x = some (.brk s)) : bindL x kr k = k s := by rw [h]; rfl

/-! ### Places of lists -/
def nth {α : Type} [Inhabited α] (xs : List α) (i : Int) : α := xs.getD i.toNat default
section
variable {α : Type} [Inhabited α] {xs ys : List α}
theorem getI_nth {i : Int} (h0 : 0 ≤ i) (h1 : i < xs.length) : getI xs i = some (nth xs i) := by
  unfold getI nth
  rw [if_pos h0]
  have : i.toNat < xs.length := by omega
  simp [List.getD_eq_getElem?_getD, this]
theorem nth_nat {i : Nat} (h : i < xs.length) : nth xs (i : Int) = xs[i] := by simp [nth, List.getD_eq_getElem?_getD, h]
theorem nth_mem {i : Int} (h0 : 0 ≤ i) (h1 : i < xs.length) : nth xs i ∈ xs := by
  have : i.toNat < xs.length := by omega
  have e : nth xs i = xs[i.toNat] := by simp [nth, List.getD_eq_getElem?_getD, this]
  rw [e]; exact List.getElem_mem this
theorem nth_map {β : Type} [Inhabited β] {f : α → β} {i : Int} (h0 : 0 ≤ i) (h1 : i < xs.length) : nth (xs.map f) i = f (nth xs i) := by
  have : i.toNat < xs.length := by omega
  simp [nth, List.getD_eq_getElem?_getD, this]
theorem mem_nth {x : α} (h : x ∈ xs) : ∃ i : Nat, i < xs.length ∧ nth xs (i : Int) = x := by
  obtain ⟨i, hi, rfl⟩ := List.getElem_of_mem h
  exact ⟨i, hi, nth_nat hi⟩
theorem nth_set_self {i : Int} {x : α} (h0 : 0 ≤ i) (h1 : i < xs.length) : nth (xs.set i.toNat x) i = x := by
  have : i.toNat < xs.length := by omega
  simp [nth, List.getD_eq_getElem?_getD, this]
theorem nth_set_ne {i j : Int} {x : α} (h0 : 0 ≤ i) (hj : 0 ≤ j) (h : i ≠ j) : nth (xs.set i.toNat x) j = nth xs j := by
  have : i.toNat ≠ j.toNat := by omega
  simp [nth, List.getD_eq_getElem?_getD, List.getElem?_set_ne this]
end

/-! ### Numbering in the order of discovery -/
section
variable {κ : Type} [DecidableEq κ]
variable {nx : κ → List (Option κ)} {first : κ}
end
end Go.Proofs.Ytfjohpmibocjcaa.D
/- Automata: what is valid, the moves, what is live, by the reference and by the program. -/
set_option linter.unusedVariables false
set_option linter.unusedSimpArgs false
set_option linter.unnecessarySimpa false
namespace Go.Proofs.Ytfjohpmibocjcaa.D
open Go.RowKit

abbrev AutT := Int × (List Bool) × (List (List Int))
/-- an automaton with n states -/
structure VA (a : AutT) (n : Nat) : Prop where
  len : a.2.1.length = n
  start : 0 ≤ a.1 ∧ a.1 < n
  nlen : a.2.2.length = n
  row : ∀ r ∈ a.2.2, r.length = 9
  ent : ∀ r ∈ a.2.2, ∀ t ∈ r, -1 ≤ t ∧ t < n
def mv (a : AutT) (s : Int) (k : Nat) : Int := nth (nth a.2.2 s) k
theorem s_in (x l h : Int) : m_s_l1In x l h = some (decide (l ≤ x ∧ x ≤ h)) := by
  unfold m_s_l1In
  by_cases c : l ≤ x
  · simp [c]
  · have : ¬ l ≤ x ∧ True := ⟨c, trivial⟩
    simp [c]
theorem i_in (x l h : Int) : m_i_within x l h = some (decide (l ≤ x ∧ x ≤ h)) := by
  unfold m_i_within
  by_cases c : l ≤ x
  · simp [c]
  · simp [c]
theorem scan {α R : Type} [Inhabited α] {f : Int → Option (Out R Int)} (xs : List α) (p : α → Prop) [DecidablePred p] (r : R) (hN : xs.length ≤ 9223372036854775807)
    (h : ∀ i : Nat, i < xs.length → f (i : Int) = some (if p (nth xs i) then .nxt ((i + 1 : Nat) : Int) else .ret r)) (he : f (xs.length : Int) = some (.brk (xs.length : Int))) :
    (loopM f FUEL 0 = some (.brk (xs.length : Int)) ∧ ∀ x ∈ xs, p x) ∨ (loopM f FUEL 0 = some (.ret r) ∧ ¬ ∀ x ∈ xs, p x) := by
  obtain ⟨o, e, hq⟩ := loopM_go (f := f) (fun i s => s = (i : Int) ∧ ∀ j : Nat, j < i → p (nth xs j)) (fun o => (o = .brk (xs.length : Int) ∧ ∀ x ∈ xs, p x) ∨ (o = .ret r ∧ ¬ ∀ x ∈ xs, p x)) xs.length (s := 0) (by
    rintro i s hi ⟨rfl, hp⟩
    by_cases hl : i < xs.length
    · by_cases c : p (nth xs i)
      · refine .inl ⟨hl, _, by rw [h i hl, if_pos c], rfl, fun j hj => ?_⟩
        by_cases e : j = i
        · subst e; exact c
        · exact hp j (by omega)
      · refine .inr ⟨_, by rw [h i hl, if_neg c], (fun s' e => by cases e), .inr ⟨rfl, fun hx => c (hx _ (nth_mem (by omega) (by omega)))⟩⟩
    · obtain rfl : i = xs.length := by omega
      refine .inr ⟨_, he, (fun s' e => by cases e), .inl ⟨rfl, fun x hx => ?_⟩⟩
      obtain ⟨j, hj, rfl⟩ := mem_nth hx
      exact hp j hj) ⟨rfl, by omega⟩ (up63 hN)
  rcases hq with ⟨rfl, hq⟩ | ⟨rfl, hq⟩
  · exact .inl ⟨e, hq⟩
  · exact .inr ⟨e, hq⟩
section
variable {a : AutT} {n : Nat} (V : VA a n)
include V
theorem VA.pos : 0 < n := by have := V.start; omega
theorem VA.rowAt {s : Int} (h0 : 0 ≤ s) (h1 : s < n) : (nth a.2.2 s).length = 9 := V.row _ (nth_mem h0 (by rw [V.nlen]; exact h1))
theorem VA.mv {s : Int} {k : Nat} (h0 : 0 ≤ s) (h1 : s < n) (hk : k < 9) : -1 ≤ mv a s k ∧ mv a s k < n :=
  V.ent _ (nth_mem h0 (by rw [V.nlen]; exact h1)) _ (nth_mem (by omega) (by rw [V.rowAt h0 h1]; omega))
theorem VA.get {s : Int} (h0 : 0 ≤ s) (h1 : s < n) : getI a.2.2 s = some (nth a.2.2 s) := getI_nth h0 (by rw [V.nlen]; exact h1)
theorem VA.get2 {s : Int} {k : Nat} (h0 : 0 ≤ s) (h1 : s < n) (hk : k < 9) : getI (nth a.2.2 s) (k : Int) = some (D.mv a s k) := getI_nth (by omega) (by rw [V.rowAt h0 h1]; omega)
theorem i_move {s : Int} {k : Nat} (h0 : 0 ≤ s) (h1 : s < n) (hk : k < 9) : m_i_Automaton_move a s (k : Int) = some (mv a s k) := by
  unfold m_i_Automaton_move m_i_isLetter
  rw [if_neg (by simp; omega), i_in]; simp only [Option.bind_some]
  rw [if_pos (by simp; omega), V.get h0 h1]; simp only [Option.bind_some]
  rw [V.get2 h0 h1 hk]; rfl
end
end Go.Proofs.Ytfjohpmibocjcaa.D
/- What a valid graph is. -/
set_option linter.unusedVariables false
set_option linter.unusedSimpArgs false
set_option linter.unnecessarySimpa false
namespace Go.Proofs.Ytfjohpmibocjcaa.D
open Go.RowKit

abbrev GrT := (List Int) × (List (Int × Int × Int × Int))
theorem scanI {R : Type} {f : Int → Option (Out R Int)} (N : Nat) (p : Nat → Prop) [DecidablePred p] (r : R) (hN : N ≤ 9223372036854775807)
    (h : ∀ i : Nat, i < N → f (i : Int) = some (if p i then .nxt ((i + 1 : Nat) : Int) else .ret r)) (he : f (N : Int) = some (.brk (N : Int))) :
    (loopM f FUEL 0 = some (.brk (N : Int)) ∧ ∀ i, i < N → p i) ∨ (loopM f FUEL 0 = some (.ret r) ∧ ¬ ∀ i, i < N → p i) := by
  obtain ⟨o, e, hq⟩ := loopM_go (f := f) (fun i s => s = (i : Int) ∧ ∀ j : Nat, j < i → p j) (fun o => (o = .brk (N : Int) ∧ ∀ i, i < N → p i) ∨ (o = .ret r ∧ ¬ ∀ i, i < N → p i)) N (s := 0) (by
    rintro i s hi ⟨rfl, hp⟩
    by_cases hl : i < N
    · by_cases c : p i
      · refine .inl ⟨hl, _, by rw [h i hl, if_pos c], rfl, fun j hj => ?_⟩
        by_cases e : j = i
        · subst e; exact c
        · exact hp j (by omega)
      · exact .inr ⟨_, by rw [h i hl, if_neg c], (fun s' e => by cases e), .inr ⟨rfl, fun hx => c (hx i hl)⟩⟩
    · obtain rfl : i = N := by omega
      exact .inr ⟨_, he, (fun s' e => by cases e), .inl ⟨rfl, hp⟩⟩) ⟨rfl, by omega⟩ (up63 hN)
  rcases hq with ⟨rfl, hq⟩ | ⟨rfl, hq⟩
  · exact .inl ⟨e, hq⟩
  · exact .inr ⟨e, hq⟩
structure GOk (g : GrT) : Prop where
  n1 : 1 ≤ g.1.length
  n5 : g.1.length ≤ 5
  m : g.2.length ≤ 12
  val : ∀ v ∈ g.1, 0 ≤ v ∧ v ≤ 2
  edge : ∀ e ∈ g.2, (0 ≤ e.2.1 ∧ e.2.1 < g.1.length) ∧ (0 ≤ e.2.2.1 ∧ e.2.2.1 < g.1.length) ∧ 0 ≤ e.2.2.2 ∧ e.2.2.2 ≤ 2
  asc : ∀ i : Nat, i + 1 < g.2.length → (nth g.2 i).1 < (nth g.2 ((i + 1 : Nat) : Int)).1
def edgeP (e : Int × Int × Int × Int) (n : Int) : Prop := (1 ≤ e.1 ∧ e.1 ≤ 99) ∧ (0 ≤ e.2.1 ∧ e.2.1 ≤ n - 1) ∧ (0 ≤ e.2.2.1 ∧ e.2.2.1 ≤ n - 1) ∧ 0 ≤ e.2.2.2 ∧ e.2.2.2 ≤ 2
instance (e n) : Decidable (edgeP e n) := by unfold edgeP; infer_instance
theorem i_edge (e : Int × Int × Int × Int) {n : Nat} (hn : n ≤ 1048576) : m_i_edgeOk e (n : Int) = some (decide (edgeP e n)) := by
  unfold m_i_edgeOk edgeP
  simp only [i_in, Option.bind_some, wrap_pred (show n ≤ 9223372036854775807 by omega)]
  by_cases c1 : 1 ≤ e.1 ∧ e.1 ≤ 99 <;> by_cases c2 : 0 ≤ e.2.1 ∧ e.2.1 ≤ (n : Int) - 1 <;> by_cases c3 : 0 ≤ e.2.2.1 ∧ e.2.2.1 ≤ (n : Int) - 1 <;> simp [c1, c2, c3]
theorem i_validG (g : GrT) (h1 : g.1.length ≤ 1048576) (h2 : g.2.length ≤ 1048576) : ∃ b, m_i_IsValidGraph g = some b ∧ (b = true → GOk g) := by
  unfold m_i_IsValidGraph
  have k0 := scanI (f := m_i_IsValidGraph_l0 g) g.1.length (fun i => 0 ≤ nth g.1 i ∧ nth g.1 i ≤ 2) false (by omega) (fun i hi => by
    unfold m_i_IsValidGraph_l0
    rw [if_pos (by simp; omega), getI_nth (by omega) (by omega)]; simp only [Option.bind_some, i_in, decide_eq_true_eq]
    split
    · rw [wrap_succ (by omega)]
    · rfl) (by unfold m_i_IsValidGraph_l0; rw [if_neg (by simp)])
  have k1 := scanI (f := m_i_IsValidGraph_l1 g) g.2.length (fun i => edgeP (nth g.2 i) g.1.length ∧ (0 < i → (nth g.2 ((i : Int) - 1)).1 < (nth g.2 i).1)) false (by omega) (fun i hi => by
    unfold m_i_IsValidGraph_l1
    rw [if_pos (by simp; omega), getI_nth (by omega) (by omega)]; simp only [Option.bind_some]
    have e1 := i_edge (nth g.2 (i : Int)) h1
    have e1 : m_i_edgeOk ((nth g.2 (i : Int)).1, (nth g.2 (i : Int)).2.1, (nth g.2 (i : Int)).2.2.1, (nth g.2 (i : Int)).2.2.2) (g.1.length : Int) = _ := e1
    rw [e1]; simp only [Option.bind_some, decide_eq_true_eq]
    by_cases c1 : edgeP (nth g.2 (i : Int)) g.1.length
    · rw [if_pos c1]
      by_cases c2 : 0 < i
      · rw [if_pos (by omega), wrap_pred (by omega), getI_nth (by omega) (by omega)]; simp only [Option.bind_some]
        by_cases c3 : (nth g.2 ((i : Int) - 1)).1 < (nth g.2 (i : Int)).1
        · rw [if_neg (by omega), if_pos ⟨c1, fun _ => c3⟩, wrap_succ (by omega)]
        · rw [if_pos (by omega), if_neg (fun h => c3 (h.2 c2))]
      · rw [if_neg (by omega), if_pos ⟨c1, fun h => absurd h c2⟩, wrap_succ (by omega)]
    · rw [if_neg c1, if_neg (fun h => c1 h.1)]) (by unfold m_i_IsValidGraph_l1; rw [if_neg (by simp)])
  rcases k0 with ⟨k0, j0⟩ | ⟨k0, j0⟩
  · rw [bindL_brk k0]
    rcases k1 with ⟨k1, j1⟩ | ⟨k1, j1⟩
    · rw [bindL_brk k1, i_in]; simp only [Option.bind_some, decide_eq_true_eq]
      split
      · rename_i c
        refine ⟨_, rfl, fun hb => ?_⟩
        have hb := of_decide_eq_true hb
        refine ⟨by omega, by omega, by omega, fun v hv => ?_, fun e he => ?_, fun i hi => ?_⟩
        · obtain ⟨i, hi, rfl⟩ := mem_nth hv
          exact j0 i hi
        · obtain ⟨i, hi, rfl⟩ := mem_nth he
          obtain ⟨a1, a2, a3, a4⟩ := (j1 i hi).1
          exact ⟨⟨a2.1, by omega⟩, ⟨a3.1, by omega⟩, a4⟩
        · have := (j1 (i + 1) hi).2 (by omega)
          rwa [show (((i + 1 : Nat) : Int) - 1) = (i : Int) from by omega] at this
      · exact ⟨false, rfl, fun h => by cases h⟩
    · rw [bindL_ret k1]; exact ⟨false, rfl, fun h => by cases h⟩
  · rw [bindL_ret k0]; exact ⟨false, rfl, fun h => by cases h⟩
theorem GOk.lt {g : GrT} (G : GOk g) {i j : Nat} (h : i < j) (hj : j < g.2.length) : (nth g.2 (i : Int)).1 < (nth g.2 (j : Int)).1 := by
  induction h with
  | refl => exact G.asc i hj
  | step h ih =>
    rename_i m
    have h1 := ih (by omega)
    have h2 := G.asc m hj
    exact Int.lt_trans h1 h2
end Go.Proofs.Ytfjohpmibocjcaa.D
/- Sets of small numbers as the bits of one number. No program text is named here. -/
set_option linter.unusedVariables false
set_option linter.unusedSimpArgs false
namespace Go.Proofs.Ytfjohpmibocjcaa.D
open Go.RowKit

/-! ### Sets as bits -/
theorem ofInt_nat (m : Nat) : BitVec.ofInt 64 (m : Int) = BitVec.ofNat 64 m := by simp
theorem and_nat {m n : Nat} (hm : m < 2 ^ 62) (hn : n < 2 ^ 62) : andI (m : Int) (n : Int) = ((m &&& n : Nat) : Int) := by
  unfold andI
  rw [ofInt_nat, ofInt_nat, BitVec.toNat_and, BitVec.toNat_ofNat, BitVec.toNat_ofNat, Nat.mod_eq_of_lt (by omega), Nat.mod_eq_of_lt (by omega)]
  have : m &&& n ≤ m := Nat.and_le_left
  exact wrapI (by omega) (by omega)
theorem or_nat {m n : Nat} (hm : m < 2 ^ 62) (hn : n < 2 ^ 62) : orI (m : Int) (n : Int) = ((m ||| n : Nat) : Int) := by
  unfold orI
  rw [ofInt_nat, ofInt_nat, BitVec.toNat_or, BitVec.toNat_ofNat, BitVec.toNat_ofNat, Nat.mod_eq_of_lt (by omega), Nat.mod_eq_of_lt (by omega)]
  have : m ||| n < 2 ^ 62 := Nat.or_lt_two_pow hm hn
  exact wrapI (by omega) (by omega)
theorem shr_nat {m i : Nat} (hi : i < 64) : shrI (m : Int) (i : Int) = ((m >>> i : Nat) : Int) := by
  unfold shrI
  rw [show min (i : Int).toNat 64 = i from by simp; omega, Nat.shiftRight_eq_div_pow, Int.fdiv_eq_ediv_of_nonneg _ (by exact_mod_cast Nat.zero_le _)]
  simp
theorem shl_nat {i : Nat} (hi : i < 62) : shlI 1 (i : Int) = ((2 ^ i : Nat) : Int) := by
  unfold shlI
  rw [show min (i : Int).toNat 64 = i from by simp; omega, Int.one_mul]
  have : 2 ^ i < 2 ^ 62 := Nat.pow_lt_pow_right (by decide) hi
  rw [show ((2 : Int) ^ i) = ((2 ^ i : Nat) : Int) from by simp]
  generalize 2 ^ i = z at this
  exact wrapI (by omega) (by omega)
theorem bit_nat {m i : Nat} (hm : m < 2 ^ 62) (hi : i < 64) : ((andI (shrI (m : Int) (i : Int)) 1) == 1) = m.testBit i := by
  have h1 : m >>> i < 2 ^ 62 := Nat.lt_of_le_of_lt (by rw [Nat.shiftRight_eq_div_pow]; exact Nat.div_le_self _ _) hm
  rw [shr_nat hi, show (1 : Int) = ((1 : Nat) : Int) from rfl, and_nat h1 (by decide), Nat.testBit, Nat.and_comm]
  have e : m >>> i &&& 1 = m >>> i % 2 := Nat.and_one_is_mod _
  rw [Nat.and_comm 1, e]
  rcases Nat.mod_two_eq_zero_or_one (m >>> i) with h | h <;> rw [h] <;> rfl
theorem bit_zero {m i : Nat} (hm : m < 2 ^ 62) (hi : i < 64) : ((andI (shrI (m : Int) (i : Int)) 1) == 0) = !m.testBit i := by
  have h1 : m >>> i < 2 ^ 62 := Nat.lt_of_le_of_lt (by rw [Nat.shiftRight_eq_div_pow]; exact Nat.div_le_self _ _) hm
  rw [shr_nat hi, show (1 : Int) = ((1 : Nat) : Int) from rfl, and_nat h1 (by decide), Nat.testBit, Nat.and_comm]
  have e : m >>> i &&& 1 = m >>> i % 2 := Nat.and_one_is_mod _
  rw [Nat.and_comm 1, e]
  rcases Nat.mod_two_eq_zero_or_one (m >>> i) with h | h <;> rw [h] <;> rfl
def mem30 (m k : Nat) : List Int := ((List.range k).filter fun i => m.testBit i).map fun (i : Nat) => (i : Int)
theorem mem30_succ (m k : Nat) : mem30 m (k + 1) = if m.testBit k then mem30 m k ++ [(k : Int)] else mem30 m k := by
  unfold mem30
  rw [List.range_succ, List.filter_append, List.map_append]
  by_cases h : m.testBit k = true
  · simp [h]
  · simp [h]
theorem mem30_more {m k l : Nat} (h : m < 2 ^ k) (hl : k ≤ l) : mem30 m l = mem30 m k := by
  induction hl with
  | refl => rfl
  | step hl ih =>
    rw [mem30_succ, Nat.testBit_lt_two_pow (Nat.lt_of_lt_of_le h (Nat.pow_le_pow_right (by decide) hl)), ih]; rfl
theorem mem_mem30 {m k : Nat} {x : Int} : x ∈ mem30 m k ↔ ∃ i : Nat, i < k ∧ m.testBit i = true ∧ x = (i : Int) := by
  unfold mem30
  simp only [List.mem_map, List.mem_filter, List.mem_range]
  constructor
  · rintro ⟨i, ⟨h1, h2⟩, rfl⟩; exact ⟨i, h1, h2, rfl⟩
  · rintro ⟨i, h1, h2, rfl⟩; exact ⟨i, ⟨h1, h2⟩, rfl⟩
theorem mem30_len (m k : Nat) : (mem30 m k).length ≤ k := by
  unfold mem30; rw [List.length_map]; exact Nat.le_trans (List.length_filter_le _ _) (by simp)
theorem mem30_none {m : Nat} : ∀ {k : Nat}, (∀ i, i < k → m.testBit i = false) → mem30 m k = []
  | 0, _ => rfl
  | k + 1, h => by rw [mem30_succ, h k (by omega), mem30_none fun i hi => h i (by omega)]; rfl
theorem mem30_two {s k : Nat} (h : s < k) : mem30 (2 ^ s) k = [(s : Int)] := by
  rw [mem30_more (k := s + 1) (Nat.pow_lt_pow_right (by decide) (by omega)) h, mem30_succ, Nat.testBit_two_pow, mem30_none fun i hi => by rw [Nat.testBit_two_pow]; simp; omega]
  simp
theorem testBit_or_two (m i j : Nat) : (m ||| 2 ^ i).testBit j = (m.testBit j || decide (i = j)) := by
  rw [Nat.testBit_or, Nat.testBit_two_pow]
theorem or_two_lt {m i k : Nat} (h : m < 2 ^ k) (hi : i < k) : m ||| 2 ^ i < 2 ^ k := Nat.or_lt_two_pow h (Nat.pow_lt_pow_right (by decide) hi)
theorem shr_zero {m i : Nat} (h : m >>> i = 0) : m < 2 ^ i := by
  rw [Nat.shiftRight_eq_div_pow] at h
  exact (Nat.div_eq_zero_iff_lt (Nat.two_pow_pos i)).1 h
end Go.Proofs.Ytfjohpmibocjcaa.D
/- Sets of states: what is reached by tests, what is behind a letter, by the reference and by the program. -/
set_option linter.unusedVariables false
set_option linter.unusedSimpArgs false
set_option linter.unnecessarySimpa false
namespace Go.Proofs.Ytfjohpmibocjcaa.D
open Go.RowKit

theorem p62 {n : Nat} (h : n ≤ 30) : 2 ^ n ≤ 2 ^ 62 := Nat.pow_le_pow_right (by decide) (by omega)
theorem i_members {M : Nat} (hM : M < 2 ^ 30) : m_i_members (M : Int) = some (mem30 M 30) := by
  have h62 : M < 2 ^ 62 := Nat.lt_of_lt_of_le hM (p62 (by decide))
  obtain ⟨o, e, hq⟩ := loopM_go (f := m_i_members_l0 (M : Int)) (fun i s => s = (mem30 M i, (i : Int))) (fun o => ∃ k, o = .brk (mem30 M 30, k)) 30 (s := ([], 0)) (by
    rintro i s hi rfl
    unfold m_i_members_l0
    have e0 : chk ((0 : Int) ≤ (i : Int)) = some () := by unfold chk; rw [if_pos (by omega)]
    simp only [e0, Option.bind_some]
    by_cases c : M >>> i = 0
    · refine .inr ⟨.brk (mem30 M i, (i : Int)), ?_, (fun s' e => by cases e), (i : Int), by rw [mem30_more (shr_zero c) hi]⟩
      rw [shr_nat (by omega), c]; rfl
    · have hi' : i < 30 := by
        rcases Nat.lt_or_ge i 30 with h | h
        · exact h
        · exfalso; apply c
          rw [Nat.shiftRight_eq_div_pow]
          exact Nat.div_eq_of_lt (Nat.lt_of_lt_of_le hM (Nat.pow_le_pow_right (by decide) h))
      refine .inl ⟨hi', (mem30 M (i + 1), ((i + 1 : Nat) : Int)), ?_, rfl⟩
      have c' : ((shrI (M : Int) (i : Int)) != 0) = true := by
        rw [shr_nat (by omega)]
        simp only [bne_iff_ne, ne_eq]
        omega
      rw [if_pos c', bit_nat h62 (by omega), mem30_succ, wrap_succ (by omega)]
      by_cases b : M.testBit i = true
      · rw [if_pos b, if_pos b, appI_ok (by have := mem30_len M i; simp; omega)]; rfl
      · rw [if_neg b, if_neg b]; rfl) rfl (by unfold FUEL; omega)
  obtain ⟨k, rfl⟩ := hq
  unfold m_i_members
  exact bindL_brk e
def ClI (n : Nat) (i : Nat) (st : Int × Int) : Prop := (-1 ≤ st.2 ∧ st.2 < n) ∧ ∃ (M : Nat) (L : List Int), st.1 = (M : Int) ∧ M < 2 ^ n ∧ L.length = i ∧ L.Nodup ∧ (∀ x ∈ L, 0 ≤ x ∧ x < n) ∧ ∀ j : Nat, M.testBit j = true ↔ (j : Int) ∈ L
theorem inR_le {n : Nat} {L : List Int} (h : L.Nodup) (k : ∀ x ∈ L, 0 ≤ x ∧ x < n) : L.length ≤ n := by
  have := h.length_le_of_subset (l₂ := (List.range n).map fun i : Nat => (i : Int)) (fun x hx => by
    obtain ⟨h0, h1⟩ := k x hx
    exact List.mem_map.2 ⟨x.toNat, List.mem_range.2 (by omega), by omega⟩)
  simpa using this
section
variable {a : AutT} {n : Nat} (V : VA a n) (hn : n ≤ 12)
include V hn
theorem cl_step {v : Int} (hv : 0 ≤ v ∧ v ≤ 2) {i : Nat} {st : Int × Int} (h : ClI n i st) :
    (i < n ∧ ∃ st', m_i_closure_l0 a v st = some (.nxt st') ∧ ClI n (i + 1) st') ∨ m_i_closure_l0 a v st = some (.brk st) := by
  obtain ⟨⟨h1, h2⟩, M, L, e1, hM, hl, hd, hr, hb⟩ := h
  obtain ⟨m, s⟩ := st
  obtain rfl : m = (M : Int) := e1
  have h62 : M < 2 ^ 62 := Nat.lt_of_lt_of_le hM (p62 (by omega))
  unfold m_i_closure_l0
  by_cases c : s ≥ 0
  · obtain ⟨k, rfl⟩ : ∃ k : Nat, s = (k : Int) := ⟨s.toNat, by omega⟩
    have hk : k < n := by simp only at h2; omega
    have e0 : chk ((0 : Int) ≤ (k : Int)) = some () := by unfold chk; rw [if_pos (by omega)]
    simp only [e0, Option.bind_some]
    rw [if_pos (by simp), bit_zero h62 (by omega)]
    by_cases b : M.testBit k = true
    · right; rw [if_neg (by simp [b])]
    · left
      have b' : (k : Int) ∉ L := fun hh => b ((hb k).2 hh)
      have hle := inR_le (n := n) (L := (k : Int) :: L) (List.nodup_cons.2 ⟨b', hd⟩) (fun x hx => by
        rcases List.mem_cons.1 hx with rfl | hx
        · omega
        · exact hr x hx)
      simp only [List.length_cons] at hle
      obtain ⟨u, rfl⟩ : ∃ u : Nat, v = (u : Int) := ⟨v.toNat, by omega⟩
      have hu : u ≤ 2 := by omega
      have ew : IntKind.i64.wrap (6 + (u : Int)) = ((6 + u : Nat) : Int) := by rw [wrapI (by omega) (by omega)]; omega
      refine ⟨by omega, (((M ||| 2 ^ k : Nat) : Int), mv a (k : Int) (6 + u)), ?_, ?_, M ||| 2 ^ k, (k : Int) :: L, rfl, or_two_lt hM hk, by simp [hl], List.nodup_cons.2 ⟨b', hd⟩, ?_, ?_⟩
      · rw [if_pos (by simp [b]), ew]
        have e2 := i_move V (s := (k : Int)) (k := 6 + u) (by omega) (by omega) (by omega)
        have e2 : m_i_Automaton_move (a.1, a.2.1, a.2.2) (k : Int) ((6 + u : Nat) : Int) = _ := e2
        rw [e2, shl_nat (by omega), or_nat h62 (Nat.pow_lt_pow_right (by decide) (by omega))]; rfl
      · exact V.mv (by omega) (by omega) (by omega)
      · intro x hx
        rcases List.mem_cons.1 hx with rfl | hx
        · omega
        · exact hr x hx
      · intro j
        rw [testBit_or_two, Bool.or_eq_true, hb j, List.mem_cons, decide_eq_true_eq]
        constructor
        · rintro (h | h)
          · exact .inr h
          · left; omega
        · rintro (h | h)
          · right; omega
          · exact .inl h
  · right
    rw [if_neg (by simpa using c)]
theorem i_closure_ex {s v : Int} (hs : 0 ≤ s ∧ s < n) (hv : 0 ≤ v ∧ v ≤ 2) : ∃ C : Nat, m_i_closure a s v = some (C : Int) ∧ C < 2 ^ n := by
  have h0 : ClI n 0 (0, s) := ⟨⟨by simp only; omega, hs.2⟩, 0, [], rfl, Nat.two_pow_pos n, rfl, List.nodup_nil, by simp, by simp⟩
  obtain ⟨o, e, C, s', rfl, hC⟩ := loopM_go (f := m_i_closure_l0 a v) (ClI n) (fun o => ∃ (C : Nat) (s' : Int), o = .brk ((C : Int), s') ∧ C < 2 ^ n) n (s := (0, s)) (fun i st hi h => by
    rcases cl_step V hn hv h with h' | h'
    · exact .inl h'
    · obtain ⟨_, M, L, e1, hM, _⟩ := h
      obtain ⟨m, s'⟩ := st
      obtain rfl : m = (M : Int) := e1
      exact .inr ⟨_, h', (fun s' e => by cases e), M, s', rfl, hM⟩) h0 (by unfold FUEL; omega)
  exact ⟨C, by unfold m_i_closure; exact bindL_brk e, hC⟩
end
def cS (a : AutT) (s v : Int) : Nat := ((m_i_closure a s v).getD 0).toNat
section
variable {a : AutT} {n : Nat} (V : VA a n) (hn : n ≤ 12)
include V hn
theorem i_closure {s v : Int} (hs : 0 ≤ s ∧ s < n) (hv : 0 ≤ v ∧ v ≤ 2) : m_i_closure a s v = some (cS a s v : Int) ∧ cS a s v < 2 ^ n := by
  obtain ⟨C, e, h⟩ := i_closure_ex V hn hs hv
  unfold cS
  rw [e]
  exact ⟨rfl, by simpa using h⟩
end
def afS (a : AutT) (k : Nat) (C : Nat) : Nat → Nat
  | 0 => 0
  | q + 1 => if C.testBit q = true ∧ 0 ≤ mv a (q : Int) k then afS a k C q ||| 2 ^ (mv a (q : Int) k).toNat else afS a k C q
def afL (a : AutT) (k : Nat) (l : List Int) : Nat := l.foldl (fun m t => if 0 ≤ mv a t k then m ||| 2 ^ (mv a t k).toNat else m) 0
theorem afL_mem (a : AutT) (k C : Nat) : ∀ q, afL a k (mem30 C q) = afS a k C q
  | 0 => rfl
  | q + 1 => by
    rw [mem30_succ, afS]
    by_cases b : C.testBit q = true
    · rw [if_pos b]
      unfold afL
      rw [List.foldl_append]
      have := afL_mem a k C q
      unfold afL at this
      rw [this]
      simp [b]
    · rw [if_neg b, if_neg (fun h => b h.1)]
      exact afL_mem a k C q
section
variable {a : AutT} {n : Nat} (V : VA a n) (hn : n ≤ 12)
include V
theorem afS_lt {k C : Nat} (hk : k < 9) : ∀ q, q ≤ n → afS a k C q < 2 ^ n
  | 0, _ => Nat.two_pow_pos n
  | q + 1, hq => by
    rw [afS]
    have := afS_lt (C := C) hk q (by omega)
    split
    · rename_i c
      have := (V.mv (s := (q : Int)) (by omega) (by omega) hk).2
      exact or_two_lt (by assumption) (by omega)
    · exact this
theorem afL_lt {k : Nat} (hk : k < 9) {l : List Int} (h : ∀ x ∈ l, 0 ≤ x ∧ x < n) : afL a k l < 2 ^ n := by
  unfold afL
  have key : ∀ (l : List Int) (m : Nat), (∀ x ∈ l, 0 ≤ x ∧ x < n) → m < 2 ^ n → l.foldl (fun m t => if 0 ≤ mv a t k then m ||| 2 ^ (mv a t k).toNat else m) m < 2 ^ n := by
    intro l
    induction l with
    | nil => intro m _ h; exact h
    | cons x l ih =>
      intro m hx hm
      rw [List.foldl_cons]
      refine ih _ (fun y hy => hx y (by simp [hy])) ?_
      split
      · have := (V.mv (hx x (by simp)).1 (hx x (by simp)).2 hk).2
        exact or_two_lt hm (by omega)
      · exact hm
  exact key l 0 h (Nat.two_pow_pos n)
include hn
theorem mem30_in {C : Nat} (hC : C < 2 ^ n) : ∀ x ∈ mem30 C 30, 0 ≤ x ∧ x < (n : Int) := by
  intro x hx
  obtain ⟨i, hi, hb, rfl⟩ := mem_mem30.1 hx
  refine ⟨by omega, ?_⟩
  rcases Nat.lt_or_ge i n with h | h
  · omega
  · rw [Nat.testBit_lt_two_pow (Nat.lt_of_lt_of_le hC (Nat.pow_le_pow_right (by decide) h))] at hb; cases hb
theorem i_after_in {k : Nat} (hk : k < 6) {l : List Int} (hl : ∀ x ∈ l, 0 ≤ x ∧ x < n) (hlen : l.length ≤ 30) : loopM (m_i_after_l1 a (k : Int) l) FUEL (0, 0) = some (.brk ((afL a k l : Int), (l.length : Int))) := by
  have := loopM_at (f := m_i_after_l1 a (k : Int) l) (fun i => ((afL a k (l.take i) : Int), (i : Int))) l.length (fun i hi => by
    unfold m_i_after_l1
    simp only
    have hx := hl _ (nth_mem (xs := l) (i := (i : Int)) (by omega) (by omega))
    rw [if_pos (by simp; omega), getI_nth (by omega) (by omega)]; simp only [Option.bind_some]
    have e2 := i_move V (s := nth l (i : Int)) (k := k) hx.1 hx.2 (by omega)
    have e2 : m_i_Automaton_move (a.1, a.2.1, a.2.2) (nth l (i : Int)) (k : Int) = _ := e2
    rw [e2, wrap_succ (by omega)]; simp only [Option.bind_some]
    have et : l.take (i + 1) = l.take i ++ [nth l (i : Int)] := by rw [List.take_add_one, nth_nat hi]; simp [hi]
    have ef : afL a k (l.take (i + 1)) = if 0 ≤ mv a (nth l (i : Int)) k then afL a k (l.take i) ||| 2 ^ (mv a (nth l (i : Int)) k).toNat else afL a k (l.take i) := by
      rw [et]; unfold afL; rw [List.foldl_append]; rfl
    have hlt := afL_lt V (k := k) (by omega) (l := l.take i) (fun x hx => hl x (List.mem_of_mem_take hx))
    have hmv := (V.mv (s := nth l (i : Int)) (k := k) hx.1 hx.2 (by omega)).2
    rw [ef]
    by_cases c : 0 ≤ mv a (nth l (i : Int)) k
    · rw [if_pos (by simpa using c), if_pos c]
      obtain ⟨t, ht⟩ : ∃ t : Nat, mv a (nth l (i : Int)) k = (t : Int) := ⟨_, (Int.toNat_of_nonneg c).symm⟩
      have e0 : chk ((0 : Int) ≤ mv a (nth l (i : Int)) k) = some () := by unfold chk; rw [if_pos c]
      rw [e0, ht, shl_nat (by omega), or_nat (Nat.lt_of_lt_of_le hlt (p62 (by omega))) (Nat.pow_lt_pow_right (by decide) (by omega))]; rfl
    · rw [if_neg (by simpa using c), if_neg c]; rfl) (by unfold m_i_after_l1; simp) (up63 (by omega))
  simpa [afL] using this
theorem i_after {s v : Int} {k : Nat} (hs : 0 ≤ s ∧ s < n) (hv : 0 ≤ v ∧ v ≤ 2) (hk : k < 6) : m_i_after a (shlI 1 s) v (k : Int) = some (afL a k (mem30 (cS a s v) 30) : Int) := by
  obtain ⟨t, rfl⟩ : ∃ t : Nat, s = (t : Int) := ⟨s.toNat, by omega⟩
  obtain ⟨e1, h1⟩ := i_closure V hn hs hv
  have hC : cS a (t : Int) v < 2 ^ 30 := Nat.lt_of_lt_of_le h1 (Nat.pow_le_pow_right (by decide) (by omega))
  unfold m_i_after
  rw [shl_nat (by omega), i_members (Nat.pow_lt_pow_right (by decide) (by omega)), mem30_two (by omega)]; simp only [Option.bind_some]
  have h0 : m_i_after_l0 a v (k : Int) [(t : Int)] (0, 0) = some (.nxt ((afL a k (mem30 (cS a (t : Int) v) 30) : Int), 1)) := by
    unfold m_i_after_l0
    simp only
    rw [if_pos (by simp), show getI [(t : Int)] 0 = some (t : Int) from rfl]; simp only [Option.bind_some]
    have e1 : m_i_closure (a.1, a.2.1, a.2.2) (t : Int) v = _ := e1
    rw [e1]; simp only [Option.bind_some]
    rw [i_members hC]; simp only [Option.bind_some]
    rw [i_after_in V hn hk (mem30_in V hn h1) (mem30_len _ _)]
    rfl
  have h1' : ∀ m : Int, m_i_after_l0 a v (k : Int) [(t : Int)] (m, 1) = some (.brk (m, 1)) := fun m => by
    unfold m_i_after_l0; rw [if_neg (by simp)]
  have := loopM_at (f := m_i_after_l0 a v (k : Int) [(t : Int)]) (fun i => if i = 0 then (0, 0) else ((afL a k (mem30 (cS a (t : Int) v) 30) : Int), 1)) 1 (fun i hi => by
    obtain rfl : i = 0 := by omega
    exact h0) (h1' _) (by unfold FUEL; omega)
  have this : loopM (m_i_after_l0 a v (k : Int) [(t : Int)]) FUEL (0, 0) = some (.brk ((afL a k (mem30 (cS a (t : Int) v) 30) : Int), 1)) := this
  rw [this]; rfl
end
end Go.Proofs.Ytfjohpmibocjcaa.D
/- The vertices behind each vertex of the product, by the program. -/
set_option linter.unusedVariables false
set_option linter.unusedSimpArgs false
set_option linter.unnecessarySimpa false
set_option linter.unusedSectionVars false
namespace Go.Proofs.Ytfjohpmibocjcaa.D
open Go.RowKit

theorem chk_ok {p : Prop} [Decidable p] (h : p) : chk p = some () := by unfold chk; rw [if_pos h]
/-! ### Rows by number -/
def rm {α : Type} (N : Nat) (F : Nat → α) : List α := (List.range N).map F
section
variable {α : Type} {N : Nat} {F G : Nat → α}
theorem rm_len : (rm N F).length = N := by simp [rm]
theorem rm_congr (h : ∀ z, z < N → F z = G z) : rm N F = rm N G := by
  unfold rm
  exact List.map_congr_left fun z hz => h z (List.mem_range.1 hz)
theorem getI_rm {c : Nat} (h : c < N) : getI (rm N F) (c : Int) = some (F c) := by
  rw [getI_nat (by rw [rm_len]; exact h)]
  simp [rm]
theorem set_rm {c : Nat} {v : α} : (rm N F).set c v = rm N fun z => if z = c then v else F z := by
  refine List.ext_getElem (by simp [rm]) fun i h1 h2 => ?_
  simp only [rm, List.getElem_set, List.getElem_map, List.getElem_range]
  by_cases e : c = i
  · subst e; simp
  · rw [if_neg e, if_neg (fun h => e h.symm)]
theorem take_snoc {xs : List α} [Inhabited α] {k : Nat} (h : k < xs.length) : xs.take (k + 1) = xs.take k ++ [nth xs (k : Int)] := by
  rw [List.take_add_one, nth_nat h]; simp [h]
end
theorem mkI_rm {α : Type} {b n : Nat} {z : α} (h : n * b ≤ 140737488355328) : mkI b (n : Int) z = some (rm n fun _ => z) := by
  have : rm n (fun _ => z) = List.replicate n z := by
    unfold rm; exact List.ext_getElem (by simp) fun i h1 h2 => by simp
  rw [this, mkI_ok h]
abbrev EdT := Int × Int × Int × Int
abbrev ArT := (Int × Bool) × Int × Int
def fwd (e : EdT) : ArT := ((e.1, false), 2 * e.2.2.2, e.2.2.1)
def inv (e : EdT) : ArT := ((e.1, true), 2 * e.2.2.2 + 1, e.2.1)
def arcE (e : EdT) (x : Int) : List ArT := (if e.2.1 = x then [fwd e] else []) ++ (if e.2.2.1 = x then [inv e] else [])
def arcL (es : List EdT) (x : Nat) : List ArT := es.flatMap fun e => arcE e x
theorem arcE_len (e : EdT) (x : Int) : (arcE e x).length ≤ 2 := by
  unfold arcE; rw [List.length_append]; split <;> split <;> simp
theorem flatl_len {α β : Type} {f : α → List β} {B : Nat} : ∀ {xs : List α}, (∀ x ∈ xs, (f x).length ≤ B) → (xs.flatMap f).length ≤ B * xs.length
  | [], _ => by simp
  | x :: xs, h => by
    rw [List.flatMap_cons, List.length_append, List.length_cons, Nat.mul_add]
    have := h x (by simp)
    have := flatl_len (xs := xs) fun y hy => h y (by simp [hy])
    omega
theorem arcL_len (es : List EdT) (x : Nat) : (arcL es x).length ≤ 2 * es.length := flatl_len fun e _ => arcE_len e x
theorem i_reads (e : EdT) (h : 0 ≤ e.2.2.2 ∧ e.2.2.2 ≤ 2) (b : Bool) : m_i_reads e b = some (if b then 2 * e.2.2.2 + 1 else 2 * e.2.2.2) := by
  unfold m_i_reads
  rw [wrapI (n := 2 * e.2.2.2) (by omega) (by omega), wrapI (by omega) (by omega)]
  cases b <;> rfl
theorem i_arcs {g : GrT} (G : GOk g) : m_i_arcs g = some (rm g.1.length (arcL g.2)) := by
  unfold m_i_arcs
  rw [mkI_rm (by have := G.n5; omega)]; simp only [Option.bind_some]
  have := loopM_at (f := m_i_arcs_l0 g) (fun i => ((i : Int), rm g.1.length (arcL (g.2.take i)))) g.2.length (fun i hi => by
    unfold m_i_arcs_l0
    simp only
    have hm := G.m
    obtain ⟨⟨a1, a2⟩, ⟨b1, b2⟩, c1⟩ := G.edge _ (nth_mem (xs := g.2) (i := (i : Int)) (by omega) (by omega))
    rw [if_pos (by simp; omega), getI_nth (by omega) (by omega)]; simp only [Option.bind_some]
    generalize he : nth g.2 (i : Int) = e at a1 a2 b1 b2 c1
    obtain ⟨id, fr, to, lb⟩ := e
    obtain ⟨p, rfl⟩ : ∃ p : Nat, fr = (p : Int) := ⟨fr.toNat, by simp only at a1; omega⟩
    obtain ⟨q, rfl⟩ : ∃ q : Nat, to = (q : Int) := ⟨to.toNat, by simp only at b1; omega⟩
    simp only at a1 a2 b1 b2 c1
    have hp : p < g.1.length := by omega
    have hq : q < g.1.length := by omega
    have r1 := i_reads (id, (p : Int), (q : Int), lb) c1 false
    have r2 := i_reads (id, (p : Int), (q : Int), lb) c1 true
    have l1 := arcL_len (g.2.take i) p
    have l2 := arcL_len (g.2.take i) q
    have l3 : (g.2.take i).length ≤ 12 := by rw [List.length_take]; omega
    simp only [getI_rm hp, getI_rm hq, Option.bind_some, r1, r2, Int.toNat_natCast, set_rm, Bool.false_eq_true, if_false, if_true]
    rw [appI_ok (by simp; omega)]; simp only [Option.bind_some, set_rm]
    rw [chk_ok (by rw [rm_len]; omega), chk_ok trivial]; simp only [Option.bind_some]
    rw [appI_ok (by split <;> simp <;> omega)]; simp only [Option.bind_some]
    rw [chk_ok (by rw [rm_len]; omega)]; simp only [Option.bind_some]
    try rw [chk_ok rfl]; simp only [Option.bind_some]
    rw [wrap_succ (by omega)]
    congr 3
    refine rm_congr fun z hz => ?_
    rw [take_snoc hi, he]
    unfold arcL
    rw [List.flatMap_append]
    simp only [List.flatMap_cons, List.flatMap_nil, List.append_nil, arcE]
    by_cases e1 : z = q
    · subst e1
      by_cases e2 : z = p
      · subst e2; simp [fwd, inv]
      · simp [e2, fwd, inv, show ¬ ((p : Int) = (z : Int)) from by omega]
    · by_cases e2 : z = p
      · subst e2; simp [e1, fwd, inv, show ¬ ((q : Int) = (z : Int)) from by omega]
      · simp [e1, e2, show ¬ ((p : Int) = (z : Int)) from by omega, show ¬ ((q : Int) = (z : Int)) from by omega]) (by unfold m_i_arcs_l0; simp) (up63 (by have := G.m; omega))
  have this : loopM (m_i_arcs_l0 g) FUEL (0, rm g.1.length fun _ => []) = _ := this
  rw [this, List.take_length]; rfl
end Go.Proofs.Ytfjohpmibocjcaa.D
/- The vertices behind each vertex of the product, by the program: the table. -/
set_option linter.unusedVariables false
set_option linter.unusedSimpArgs false
set_option linter.unnecessarySimpa false
set_option linter.unusedSectionVars false
namespace Go.Proofs.Ytfjohpmibocjcaa.D
open Go.RowKit

def behind (a : AutT) (s v k : Int) : List Int := mem30 (afL a k.toNat (mem30 (cS a s v) 30)) 30
def nbA (g : GrT) (a : AutT) (x s : Nat) (y : ArT) : List Int := (behind a s (nth g.1 x) y.2.1).map fun t => y.2.2 * (a.2.1.length : Int) + t
def nbV (g : GrT) (a : AutT) (x s : Nat) : List Int := (arcL g.2 x).flatMap (nbA g a x s)
def nbC (g : GrT) (a : AutT) (c : Nat) : List Int := nbV g a (c / a.2.1.length) (c % a.2.1.length)
theorem arc_in {g : GrT} (G : GOk g) {x : Nat} {y : ArT} (h : y ∈ arcL g.2 x) : (0 ≤ y.2.1 ∧ y.2.1 < 6) ∧ 0 ≤ y.2.2 ∧ y.2.2 < g.1.length := by
  obtain ⟨e, he, hy⟩ := List.mem_flatMap.1 h
  obtain ⟨h1, h2, h3⟩ := G.edge e he
  unfold arcE at hy
  rcases List.mem_append.1 hy with hy | hy <;> split at hy
  · obtain rfl : y = fwd e := by simpa using hy
    exact ⟨⟨by simp [fwd]; omega, by simp [fwd]; omega⟩, h2⟩
  · cases hy
  · obtain rfl : y = inv e := by simpa using hy
    exact ⟨⟨by simp [inv]; omega, by simp [inv]; omega⟩, h1⟩
  · cases hy
section
variable {g : GrT} {a : AutT} (G : GOk g) (V : VA a a.2.1.length) (hn : a.2.1.length ≤ 12)
include G V hn
theorem behind_in {s v : Int} {k : Int} (hs : 0 ≤ s ∧ s < a.2.1.length) (hv : 0 ≤ v ∧ v ≤ 2) (hk : 0 ≤ k ∧ k < 6) : (∀ t ∈ behind a s v k, 0 ≤ t ∧ t < (a.2.1.length : Int)) ∧ (behind a s v k).length ≤ 30 ∧ afL a k.toNat (mem30 (cS a s v) 30) < 2 ^ 30 := by
  have h1 := (i_closure V hn hs hv).2
  have h2 := afL_lt V (k := k.toNat) (by omega) (mem30_in V hn h1)
  exact ⟨mem30_in V hn h2, mem30_len _ _, Nat.lt_of_lt_of_le h2 (Nat.pow_le_pow_right (by decide) (by omega))⟩
theorem nbA_in {x s : Nat} {y : ArT} (hx : x < g.1.length) (hs : s < a.2.1.length) (hy : y ∈ arcL g.2 x) : ∀ z ∈ nbA g a x s y, 0 ≤ z ∧ z < ((a.2.1.length * g.1.length : Nat) : Int) := by
  intro z hz
  obtain ⟨t, ht, rfl⟩ := List.mem_map.1 hz
  obtain ⟨k1, k2, k3⟩ := arc_in G hy
  have hv := G.val _ (nth_mem (xs := g.1) (i := (x : Int)) (by omega) (by omega))
  obtain ⟨t0, t1⟩ := (behind_in G V hn (s := (s : Int)) ⟨by omega, by omega⟩ hv k1).1 t ht
  obtain ⟨q, hq⟩ : ∃ q : Nat, y.2.2 = (q : Int) := ⟨y.2.2.toNat, by omega⟩
  obtain ⟨r, rfl⟩ : ∃ r : Nat, t = (r : Int) := ⟨t.toNat, by omega⟩
  rw [hq] at k3 ⊢
  have : q * a.2.1.length + r < g.1.length * a.2.1.length := by
    have : (q + 1) * a.2.1.length ≤ g.1.length * a.2.1.length := Nat.mul_le_mul_right _ (by omega)
    rw [Nat.add_mul] at this; omega
  rw [Nat.mul_comm a.2.1.length]
  constructor
  · exact_mod_cast Nat.zero_le _
  · exact_mod_cast this
theorem nbV_in {x s : Nat} (hx : x < g.1.length) (hs : s < a.2.1.length) : ∀ z ∈ nbV g a x s, 0 ≤ z ∧ z < ((a.2.1.length * g.1.length : Nat) : Int) := by
  intro z hz
  obtain ⟨y, hy, hz⟩ := List.mem_flatMap.1 hz
  exact nbA_in G V hn hx hs hy z hz
theorem nbA_len {x s : Nat} {y : ArT} (hx : x < g.1.length) (hs : s < a.2.1.length) (hy : y ∈ arcL g.2 x) : (nbA g a x s y).length ≤ 30 := by
  unfold nbA
  rw [List.length_map]
  exact mem30_len _ _
end
section
variable {g : GrT} {a : AutT} {F : Nat → List Int} {N : Nat}
theorem nv_l3 {x s : Nat} {o1 o2 : List (List Int)} {y : ArT} {T : List Int} (hc : x * a.2.1.length + s < N) (hN : N ≤ 60) (hF : (F (x * a.2.1.length + s)).length ≤ 10000) (hT : T.length ≤ 30) (hy : ∀ t ∈ T, 0 ≤ y.2.2 * (a.2.1.length : Int) + t ∧ y.2.2 * (a.2.1.length : Int) + t < 60 ∧ 0 ≤ t ∧ t ≤ 60) :
    loopM (m_i_nextVertices_l3 a ((x : Int), o1) ((s : Int), o2) y T) FUEL (0, rm N F) = some (.brk ((T.length : Int), rm N fun z => if z = x * a.2.1.length + s then F z ++ T.map fun t => y.2.2 * (a.2.1.length : Int) + t else F z)) := by
  have ec : IntKind.i64.wrap (IntKind.i64.wrap ((x : Int) * (a.2.1.length : Int)) + (s : Int)) = ((x * a.2.1.length + s : Nat) : Int) := by
    have : ((x : Int) * (a.2.1.length : Int)) = ((x * a.2.1.length : Nat) : Int) := by simp
    rw [this, wrap_nat (by omega), wrapI (by omega) (by omega)]; rfl
  have := loopM_at (f := m_i_nextVertices_l3 a ((x : Int), o1) ((s : Int), o2) y T) (fun j => ((j : Int), rm N fun z => if z = x * a.2.1.length + s then F z ++ (T.take j).map fun t => y.2.2 * (a.2.1.length : Int) + t else F z)) T.length (fun j hj => by
    unfold m_i_nextVertices_l3
    simp only
    obtain ⟨y0, y1, t0, t1⟩ := hy _ (nth_mem (xs := T) (i := (j : Int)) (by omega) (by omega))
    rw [if_pos (by simp; omega), getI_nth (by omega) (by omega)]; simp only [Option.bind_some, ec, getI_rm hc, if_true]
    have ev : IntKind.i64.wrap (IntKind.i64.wrap (y.2.2 * (a.2.1.length : Int)) + nth T (j : Int)) = y.2.2 * (a.2.1.length : Int) + nth T (j : Int) := by
      rw [wrapI (n := y.2.2 * (a.2.1.length : Int)) (by omega) (by omega), wrapI (by omega) (by omega)]
    rw [ev, appI_ok (by simp; omega)]; simp only [Option.bind_some, Int.toNat_natCast, set_rm]
    rw [chk_ok (by rw [rm_len]; omega), chk_ok trivial, wrap_succ (by omega)]; simp only [Option.bind_some]
    congr 3
    refine rm_congr fun z hz => ?_
    by_cases e : z = x * a.2.1.length + s
    · subst e
      rw [if_pos rfl, if_pos rfl, take_snoc hj, List.map_append, List.append_assoc]; rfl
    · simp only [if_neg e]) (by unfold m_i_nextVertices_l3; simp) (up63 (by omega))
  rw [List.take_length] at this
  rw [← this]
  congr 2
  refine rm_congr fun z hz => ?_
  split <;> simp
end
section
variable {g : GrT} {a : AutT} (G : GOk g) (V : VA a a.2.1.length) (hn : a.2.1.length ≤ 12)
include G V hn
theorem nN : a.2.1.length * g.1.length ≤ 60 := by
  have := Nat.mul_le_mul hn G.n5; omega
theorem cN {x s : Nat} (hx : x < g.1.length) (hs : s < a.2.1.length) : x * a.2.1.length + s < a.2.1.length * g.1.length := by
  have : (x + 1) * a.2.1.length ≤ g.1.length * a.2.1.length := Nat.mul_le_mul_right _ (by omega)
  rw [Nat.add_mul, Nat.mul_comm g.1.length] at this; omega
theorem nv_l2 {F : Nat → List Int} {x s : Nat} {o1 o2 : List (List Int)} (hx : x < g.1.length) (hs : s < a.2.1.length) (hF : F (x * a.2.1.length + s) = []) :
    loopM (m_i_nextVertices_l2 g a ((x : Int), o1) (arcL g.2 x) ((s : Int), o2)) FUEL (0, rm (a.2.1.length * g.1.length) F) = some (.brk (((arcL g.2 x).length : Int), rm (a.2.1.length * g.1.length) fun z => if z = x * a.2.1.length + s then nbV g a x s else F z)) := by
  have hl := arcL_len g.2 x
  have hm := G.m
  have := loopM_at (f := m_i_nextVertices_l2 g a ((x : Int), o1) (arcL g.2 x) ((s : Int), o2)) (fun j => ((j : Int), rm (a.2.1.length * g.1.length) fun z => if z = x * a.2.1.length + s then ((arcL g.2 x).take j).flatMap (nbA g a x s) else F z)) (arcL g.2 x).length (fun j hj => by
    unfold m_i_nextVertices_l2
    simp only
    have hy := nth_mem (xs := arcL g.2 x) (i := (j : Int)) (by omega) (by omega)
    obtain ⟨k1, k2, k3⟩ := arc_in G hy
    have hv := G.val _ (nth_mem (xs := g.1) (i := (x : Int)) (by omega) (by omega))
    obtain ⟨q1, q2, q3⟩ := behind_in G V hn (s := (s : Int)) (v := nth g.1 (x : Int)) (k := (nth (arcL g.2 x) (j : Int)).2.1) ⟨by omega, by omega⟩ hv k1
    rw [if_pos (by simp; omega), getI_nth (by omega) (by omega)]; simp only [Option.bind_some]
    rw [chk_ok (by omega), getI_nth (xs := g.1) (by omega) (by omega)]; simp only [Option.bind_some]
    obtain ⟨k, hk⟩ : ∃ k : Nat, (nth (arcL g.2 x) (j : Int)).2.1 = (k : Int) := ⟨_, (Int.toNat_of_nonneg k1.1).symm⟩
    have ea := i_after V hn (s := (s : Int)) (v := nth g.1 (x : Int)) (k := k) ⟨by omega, by omega⟩ hv (by omega)
    have ea : m_i_after (a.1, a.2.1, a.2.2) (shlI 1 (s : Int)) (nth g.1 (x : Int)) (k : Int) = _ := ea
    rw [hk, ea]; simp only [Option.bind_some]
    have ek : k = (nth (arcL g.2 x) (j : Int)).2.1.toNat := by rw [hk]; rfl
    rw [ek, i_members q3]; simp only [Option.bind_some]
    have hb : (((arcL g.2 x).take j).flatMap (nbA g a x s)).length ≤ 30 * ((arcL g.2 x).take j).length := flatl_len fun y hy => nbA_len G V hn hx hs (List.mem_of_mem_take hy)
    have ht : ((arcL g.2 x).take j).length ≤ 24 := by rw [List.length_take]; omega
    have h3 := nv_l3 (F := fun z => if z = x * a.2.1.length + s then ((arcL g.2 x).take j).flatMap (nbA g a x s) else F z) (o1 := o1) (o2 := o2) (y := nth (arcL g.2 x) (j : Int)) (T := behind a (s : Int) (nth g.1 (x : Int)) (nth (arcL g.2 x) (j : Int)).2.1) (cN G V hn hx hs) (nN G V hn) (by simp only [if_true]; omega) q2 (fun t ht => by
      have h1 := nbA_in G V hn hx hs hy _ (List.mem_map.2 ⟨t, ht, rfl⟩)
      have h2 := q1 t ht
      have := nN G V hn
      omega)
    unfold behind at h3
    have h3 : loopM (m_i_nextVertices_l3 a ((x : Int), o1) ((s : Int), o2) (nth (arcL g.2 x) (j : Int)) (mem30 (afL a (nth (arcL g.2 x) (j : Int)).2.1.toNat (mem30 (cS a (s : Int) (nth g.1 (x : Int))) 30)) 30)) FUEL (0, rm (a.2.1.length * g.1.length) fun z => if z = x * a.2.1.length + s then ((arcL g.2 x).take j).flatMap (nbA g a x s) else F z) = _ := h3
    rw [bindL_brk h3, wrap_succ (by omega)]
    congr 3
    refine rm_congr fun z hz => ?_
    by_cases e : z = x * a.2.1.length + s
    · subst e
      rw [if_pos rfl, if_pos rfl, take_snoc hj, List.flatMap_append]
      simp [nbA, behind]
    · simp only [if_neg e]) (by unfold m_i_nextVertices_l2; simp) (up63 (by omega))
  rw [List.take_length] at this
  rw [show nbV g a x s = (arcL g.2 x).flatMap (nbA g a x s) from rfl, ← this]
  congr 2
  refine rm_congr fun z hz => ?_
  split
  · rename_i e; subst e; rw [hF]; simp
  · rfl
theorem nbC_at {x s : Nat} (hs : s < a.2.1.length) : nbC g a (x * a.2.1.length + s) = nbV g a x s := by
  unfold nbC
  rw [Nat.mul_comm, Nat.mul_add_div (by omega), Nat.mul_add_mod, Nat.div_eq_of_lt hs, Nat.mod_eq_of_lt hs, Nat.add_zero]
theorem nv_l1 {x : Nat} {o1 : List (List Int)} (hx : x < g.1.length) :
    loopM (m_i_nextVertices_l1 g a ((x : Int), o1) (arcL g.2 x)) FUEL (0, rm (a.2.1.length * g.1.length) fun z => if z < x * a.2.1.length then nbC g a z else []) = some (.brk ((a.2.1.length : Int), rm (a.2.1.length * g.1.length) fun z => if z < (x + 1) * a.2.1.length then nbC g a z else [])) := by
  have := loopM_at (f := m_i_nextVertices_l1 g a ((x : Int), o1) (arcL g.2 x)) (fun j => ((j : Int), rm (a.2.1.length * g.1.length) fun z => if z < x * a.2.1.length + j then nbC g a z else [])) a.2.1.length (fun j hj => by
    unfold m_i_nextVertices_l1
    simp only
    rw [if_pos (by simp; omega)]
    have h2 := nv_l2 G V hn (F := fun z => if z < x * a.2.1.length + j then nbC g a z else []) (o1 := o1) (o2 := rm (a.2.1.length * g.1.length) fun z => if z < x * a.2.1.length + j then nbC g a z else []) hx hj (by simp)
    rw [bindL_brk h2, wrap_succ (by omega)]
    congr 3
    refine rm_congr fun z hz => ?_
    by_cases e : z = x * a.2.1.length + j
    · subst e
      rw [if_pos rfl, if_pos (by omega), nbC_at G V hn hj]
    · rw [if_neg e]
      by_cases e2 : z < x * a.2.1.length + j
      · rw [if_pos e2, if_pos (by omega)]
      · rw [if_neg e2, if_neg (by omega)]) (by unfold m_i_nextVertices_l1; simp) (up63 (by omega))
  rw [Nat.add_mul, Nat.one_mul]
  exact this
theorem i_nextV : m_i_nextVertices g a = some (rm (a.2.1.length * g.1.length) (nbC g a)) := by
  have hN := nN G V hn
  unfold m_i_nextVertices
  have ew : IntKind.i64.wrap ((a.2.1.length : Int) * (g.1.length : Int)) = ((a.2.1.length * g.1.length : Nat) : Int) := by
    rw [show ((a.2.1.length : Int) * (g.1.length : Int)) = ((a.2.1.length * g.1.length : Nat) : Int) from by simp, wrap_nat (by omega)]
  have ea := i_arcs G
  have ea : m_i_arcs (g.1, g.2) = _ := ea
  rw [ew, mkI_rm (by omega), ea]; simp only [Option.bind_some]
  have := loopM_at (f := m_i_nextVertices_l0 g a (rm g.1.length (arcL g.2))) (fun j => ((j : Int), rm (a.2.1.length * g.1.length) fun z => if z < j * a.2.1.length then nbC g a z else [])) g.1.length (fun j hj => by
    unfold m_i_nextVertices_l0
    simp only
    rw [if_pos (by rw [rm_len]; simp; omega), getI_rm hj]; simp only [Option.bind_some]
    rw [bindL_brk (nv_l1 G V hn hj), wrap_succ (by have := G.n5; omega)]) (by unfold m_i_nextVertices_l0; rw [rm_len]; simp) (up63 (by have := G.n5; omega))
  have e0 : (rm (a.2.1.length * g.1.length) fun _ => ([] : List Int)) = rm (a.2.1.length * g.1.length) fun z => if z < 0 * a.2.1.length then nbC g a z else [] := rm_congr fun z hz => by rw [if_neg (by omega)]
  rw [e0, show (0 : Int) = ((0 : Nat) : Int) from rfl, bindL_brk this]
  congr 1
  refine rm_congr fun z hz => ?_
  rw [if_pos (by rw [Nat.mul_comm g.1.length]; exact hz)]
end
end Go.Proofs.Ytfjohpmibocjcaa.D
/- The vertices behind each vertex of the product, by the reference. -/
set_option linter.unusedVariables false
set_option linter.unusedSimpArgs false
set_option linter.unnecessarySimpa false
set_option linter.unusedSectionVars false
namespace Go.Proofs.Ytfjohpmibocjcaa.D
open Go.RowKit

def omap {R S T : Type} (φ : S → T) : Out R S → Out R T
  | .ret r => .ret r
  | .nxt s => .nxt (φ s)
  | .brk s => .brk (φ s)
theorem loopM_sim {R S T : Type} {f : S → Option (Out R S)} {f' : T → Option (Out R T)} (φ : S → T) (Inv : S → Prop)
    (h : ∀ s, Inv s → f' (φ s) = (f s).map (omap φ)) (hi : ∀ s s', Inv s → f s = some (.nxt s') → Inv s') : ∀ n s, Inv s → loopM f' n (φ s) = (loopM f n s).map (omap φ)
  | 0, _, _ => rfl
  | n + 1, s, hs => by
    have e := h s hs
    unfold loopM
    rw [e]
    cases hf : f s with
    | none => rfl
    | some o =>
      cases o with
      | ret r => rfl
      | brk s' => rfl
      | nxt s' => exact loopM_sim φ Inv h hi n s' (hi s s' hs hf)
section
variable {a : AutT} {n : Nat} (V : VA a n) (hn : n ≤ 12)
include V hn
theorem s_closure {s v : Int} (hs : 0 ≤ s ∧ s < n) (hv : 0 ≤ v ∧ v ≤ 2) : m_s_l14Closure a s v = some (cS a s v : Int) := by
  have e := (i_closure V hn hs hv).1
  have k := loopM_sim (f := m_i_closure_l0 a v) (f' := m_s_l14Closure_l0 a v) (fun st => (st.2, st.1)) (fun st => -1 ≤ st.2 ∧ st.2 < n) (by
    rintro ⟨m, s⟩ ⟨h0, h1⟩
    unfold m_s_l14Closure_l0 m_i_closure_l0
    simp only at h0 h1 ⊢
    by_cases c : 0 ≤ s
    · simp only [decide_eq_true (show s ≥ 0 from c), if_true, chk_ok c, Option.bind_some]
      have ew : IntKind.i64.wrap (6 + v) = (((6 + v).toNat : Nat) : Int) := by rw [wrapI (by omega) (by omega)]; omega
      have e2 := i_move V (s := s) (k := (6 + v).toNat) c h1 (by omega)
      have e2 : m_i_Automaton_move (a.1, a.2.1, a.2.2) s (((6 + v).toNat : Nat) : Int) = _ := e2
      rw [ew, e2, V.get c h1]; simp only [Option.bind_some]
      rw [V.get2 c h1 (by omega)]; simp only [Option.bind_some]
      split <;> rfl
    · simp only [decide_eq_false (show ¬ s ≥ 0 from c), Bool.false_eq_true, if_false]; rfl) (by
    rintro ⟨m, s⟩ ⟨m', s'⟩ ⟨h0, h1⟩ hf
    unfold m_i_closure_l0 at hf
    simp only at h0 h1 hf ⊢
    by_cases c : 0 ≤ s
    · simp only [decide_eq_true (show s ≥ 0 from c), if_true, chk_ok c, Option.bind_some] at hf
      have ew : IntKind.i64.wrap (6 + v) = (((6 + v).toNat : Nat) : Int) := by rw [wrapI (by omega) (by omega)]; omega
      have e2 := i_move V (s := s) (k := (6 + v).toNat) c h1 (by omega)
      have e2 : m_i_Automaton_move (a.1, a.2.1, a.2.2) s (((6 + v).toNat : Nat) : Int) = _ := e2
      rw [ew, e2] at hf; simp only [Option.bind_some] at hf
      split at hf
      · cases hf
        exact V.mv c h1 (by omega)
      · cases hf
    · simp only [decide_eq_false (show ¬ s ≥ 0 from c), Bool.false_eq_true, if_false] at hf; cases hf) FUEL (0, s) ⟨by simp only; omega, hs.2⟩
  unfold m_i_closure at e
  unfold m_s_l14Closure
  simp only at k
  rw [k]
  cases hl : loopM (m_i_closure_l0 a v) FUEL (0, s) with
  | none => rw [hl] at e; cases e
  | some o =>
    rw [hl] at e
    cases o with
    | ret r => exact e
    | brk s' => exact e
    | nxt s' => cases e
end
def arcI (y : ArT) : Int × Bool := y.1
theorem s_from {g : GrT} (G : GOk g) {x : Nat} : m_s_l4From g x = some ((arcL g.2 x).map arcI) := by
  unfold m_s_l4From
  have := loopM_at (f := m_s_l4From_l0 g x) (fun i => ((arcL (g.2.take i) x).map arcI, (i : Int))) g.2.length (fun i hi => by
    unfold m_s_l4From_l0
    simp only
    have hm := G.m
    have l1 := arcL_len (g.2.take i) x
    have l3 : (g.2.take i).length ≤ 12 := by rw [List.length_take]; omega
    rw [if_pos (by simp; omega), getI_nth (by omega) (by omega)]; simp only [Option.bind_some]
    rw [take_snoc hi, wrap_succ (by omega)]
    generalize nth g.2 (i : Int) = e
    have ea : arcL (g.2.take i ++ [e]) x = arcL (g.2.take i) x ++ arcE e x := by simp [arcL]
    rw [ea, List.map_append]
    generalize hL : (arcL (g.2.take i) x).map arcI = L
    have hl : L.length ≤ 24 := by rw [← hL, List.length_map]; omega
    unfold arcE
    by_cases c1 : e.2.1 = (x : Int)
    · rw [if_pos (by simpa using c1), if_pos c1, appI_ok (by simp; omega)]; simp only [Option.bind_some]
      by_cases c2 : e.2.2.1 = (x : Int)
      · rw [if_pos (by simpa using c2), if_pos c2, appI_ok (by simp; omega)]; simp [arcI, fwd, inv]
      · rw [if_neg (by simpa using c2), if_neg c2]; simp [arcI, fwd, inv]
    · rw [if_neg (by simpa using c1), if_neg c1]; simp only [Option.bind_some]
      by_cases c2 : e.2.2.1 = (x : Int)
      · rw [if_pos (by simpa using c2), if_pos c2, appI_ok (by simp; omega)]; simp [arcI, fwd, inv]
      · rw [if_neg (by simpa using c2), if_neg c2]; simp [arcI, fwd, inv]) (by unfold m_s_l4From_l0; simp) (up63 (by have := G.m; omega))
  have this : loopM (m_s_l4From_l0 g x) FUEL (([] : List (Int × Bool)), 0) = _ := this
  rw [this, List.take_length]; rfl
theorem s_edgeAt {g : GrT} (G : GOk g) {j : Nat} (hj : j < g.2.length) : m_s_EdgeIndex g (nth g.2 (j : Int)).1 = some (j : Int) := by
  unfold m_s_EdgeIndex
  have hm := G.m
  obtain ⟨o, e, hq⟩ := loopM_go (f := m_s_EdgeIndex_l0 g (nth g.2 (j : Int)).1) (fun i s => s = (i : Int) ∧ i ≤ j) (fun o => o = .ret (j : Int)) 12 (s := 0) (by
    rintro i s hi ⟨rfl, hij⟩
    unfold m_s_EdgeIndex_l0
    rw [if_pos (by simp; omega), getI_nth (by omega) (by omega)]; simp only [Option.bind_some]
    by_cases c : i = j
    · subst c
      exact .inr ⟨_, by rw [if_pos (by simp)], (fun s' e => by cases e), rfl⟩
    · have h1 := G.lt (i := i) (j := j) (by omega) hj
      exact .inl ⟨by omega, _, by rw [if_neg (by simp; omega), wrap_succ (by omega)], rfl, by omega⟩) ⟨rfl, by omega⟩ (by unfold FUEL; omega)
  subst hq
  rw [e]; rfl
theorem arc_edge {g : GrT} (G : GOk g) {x : Nat} {y : ArT} (h : y ∈ arcL g.2 x) : ∃ (j : Int) (e : EdT), m_s_EdgeIndex g y.1.1 = some j ∧ getI g.2 j = some e ∧ m_s_l14Letter e y.1.2 = some y.2.1 ∧ m_s_l14To e y.1.2 = some y.2.2 := by
  obtain ⟨e, he, hy⟩ := List.mem_flatMap.1 h
  obtain ⟨j, hj, rfl⟩ := mem_nth he
  obtain ⟨h1, h2, h3⟩ := G.edge _ he
  refine ⟨j, nth g.2 (j : Int), ?_, getI_nth (by omega) (by omega), ?_, ?_⟩
  all_goals
    unfold arcE at hy
    rcases List.mem_append.1 hy with hy | hy <;> split at hy
    · obtain rfl := List.mem_singleton.1 hy
      simp only [fwd]
      first | exact s_edgeAt G hj | (unfold m_s_l14Letter; rw [wrapI (n := 2 * _) (by omega) (by omega)]; rfl) | (unfold m_s_l14To; rfl)
    · cases hy
    · obtain rfl := List.mem_singleton.1 hy
      simp only [inv]
      first | exact s_edgeAt G hj | (unfold m_s_l14Letter; rw [wrapI (n := 2 * _) (by omega) (by omega), wrapI (by omega) (by omega)]; rfl) | (unfold m_s_l14To; rfl)
    · cases hy
abbrev PsT := (Int × Bool) × Int × Int
def stA (g : GrT) (a : AutT) (x s : Nat) (y : ArT) : List PsT := (behind a s (nth g.1 x) y.2.1).map fun t => (y.1, y.2.2, t)
def stV (g : GrT) (a : AutT) (x s : Nat) : List PsT := (arcL g.2 x).flatMap (stA g a x s)
theorem stV_nb (g : GrT) (a : AutT) (x s : Nat) : (stV g a x s).map (fun p => p.2.1 * (a.2.1.length : Int) + p.2.2) = nbV g a x s := by
  unfold stV nbV
  rw [List.map_flatMap]
  congr 1
  funext y
  unfold stA nbA
  rw [List.map_map]; rfl
section
variable {g : GrT} {a : AutT} (G : GOk g) (V : VA a a.2.1.length) (hn : a.2.1.length ≤ 12)
include G V hn
theorem stA_len {x s : Nat} {y : ArT} (hx : x < g.1.length) (hs : s < a.2.1.length) (hy : y ∈ arcL g.2 x) : (stA g a x s y).length ≤ 30 := by
  unfold stA; rw [List.length_map]
  exact (behind_in G V hn (s := s) ⟨by omega, by omega⟩ (G.val _ (nth_mem (by omega) (by omega))) (arc_in G hy).1).2.1
theorem st_l1 {x : Nat} {i : Nat} {e : EdT} {o : List PsT} {y : ArT} {C : Nat} (hC : C < 2 ^ a.2.1.length) (hy : y ∈ arcL g.2 x) (hi : getI ((arcL g.2 x).map arcI) (i : Int) = some (arcI y)) (he : m_s_l14Letter e y.1.2 = some y.2.1) :
    loopM (m_s_l14Steps_l1 a (C : Int) ((arcL g.2 x).map arcI) (o, (i : Int)) e) FUEL (0, 0) = some (.brk ((afS a y.2.1.toNat C a.2.1.length : Int), (a.2.1.length : Int))) := by
  obtain ⟨k0, k1⟩ := (arc_in G hy).1
  have := loopM_at (f := m_s_l14Steps_l1 a (C : Int) ((arcL g.2 x).map arcI) (o, (i : Int)) e) (fun q => ((afS a y.2.1.toNat C q : Int), (q : Int))) a.2.1.length (fun q hq => by
    unfold m_s_l14Steps_l1
    simp only
    have he : m_s_l14Letter (e.1, e.2.1, e.2.2.1, e.2.2.2) (arcI y).2 = some y.2.1 := he
    have ek : y.2.1 = ((y.2.1.toNat : Nat) : Int) := by omega
    have em := V.get2 (s := (q : Int)) (k := y.2.1.toNat) (by omega) (by omega) (by omega)
    rw [← ek] at em
    have hlt := afS_lt V (k := y.2.1.toNat) (C := C) (by omega) q (by omega)
    have hC' : C < 2 ^ 62 := Nat.lt_of_lt_of_le hC (p62 (by omega))
    have hmv := (V.mv (s := (q : Int)) (k := y.2.1.toNat) (by omega) (by omega) (by omega)).2
    rw [if_pos (by simp; omega), V.get (by omega) (by omega)]; simp only [Option.bind_some]
    rw [hi]; simp only [Option.bind_some]
    rw [he]; simp only [Option.bind_some]
    rw [em]; simp only [Option.bind_some]
    rw [chk_ok (by omega), bit_nat hC' (by omega), wrap_succ (by omega), afS]; simp only [Option.bind_some]
    by_cases b : C.testBit q = true
    · rw [if_pos b]
      by_cases c : 0 ≤ D.mv a (q : Int) y.2.1.toNat
      · obtain ⟨t, ht⟩ : ∃ t : Nat, D.mv a (q : Int) y.2.1.toNat = (t : Int) := ⟨_, (Int.toNat_of_nonneg c).symm⟩
        rw [if_pos (by simpa using c), if_pos ⟨b, c⟩, chk_ok c, ht, shl_nat (by omega), or_nat (Nat.lt_of_lt_of_le hlt (p62 (by omega))) (Nat.pow_lt_pow_right (by decide) (by omega))]; rfl
      · rw [if_neg (by simpa using c), if_neg (fun h => c h.2)]; rfl
    · rw [if_neg b, if_neg (fun h => b h.1)]; rfl) (by unfold m_s_l14Steps_l1; simp) (up63 (by omega))
  exact this
theorem st_l2 {x : Nat} {i : Nat} {e : EdT} {o : List PsT} {y : ArT} {m : Nat} (hm : m < 2 ^ a.2.1.length) (ho : o.length ≤ 100000) (hi : getI ((arcL g.2 x).map arcI) (i : Int) = some (arcI y)) (he : m_s_l14To e y.1.2 = some y.2.2) {z : Int} :
    loopM (m_s_l14Steps_l2 a ((arcL g.2 x).map arcI) (o, (i : Int)) e ((m : Int), z)) FUEL (o, 0) = some (.brk (o ++ (mem30 m 30).map (fun t => (y.1, y.2.2, t)), (a.2.1.length : Int))) := by
  have := loopM_at (f := m_s_l14Steps_l2 a ((arcL g.2 x).map arcI) (o, (i : Int)) e ((m : Int), z)) (fun q => (o ++ (mem30 m q).map (fun t => (y.1, y.2.2, t)), (q : Int))) a.2.1.length (fun q hq => by
    unfold m_s_l14Steps_l2
    simp only
    have he : m_s_l14To (e.1, e.2.1, e.2.2.1, e.2.2.2) (arcI y).2 = some y.2.2 := he
    have hm' : m < 2 ^ 62 := Nat.lt_of_lt_of_le hm (p62 (by omega))
    have hl := mem30_len m q
    rw [if_pos (by simp; omega), chk_ok (by omega), bit_nat hm' (by omega), wrap_succ (by omega), mem30_succ]; simp only [Option.bind_some]
    by_cases b : m.testBit q = true
    · rw [if_pos b, if_pos b, hi]; simp only [Option.bind_some]
      rw [he]; simp only [Option.bind_some]
      rw [appI_ok (by simp; omega)]; simp only [Option.bind_some, List.map_append, List.append_assoc]; rfl
    · rw [if_neg b, if_neg b]; rfl) (by unfold m_s_l14Steps_l2; simp) (up63 (by omega))
  rw [mem30_more hm (show a.2.1.length ≤ 30 by omega)]
  simpa [mem30] using this
theorem s_steps {x s : Nat} (hx : x < g.1.length) (hs : s < a.2.1.length) : m_s_l14Steps g a x s = some (stV g a x s) := by
  have hv := G.val _ (nth_mem (xs := g.1) (i := (x : Int)) (by omega) (by omega))
  have ec := s_closure V hn (s := (s : Int)) ⟨by omega, by omega⟩ hv
  have hC := (i_closure V hn (s := (s : Int)) ⟨by omega, by omega⟩ hv).2
  unfold m_s_l14Steps
  rw [getI_nth (by omega) (by omega)]; simp only [Option.bind_some]
  have ec : m_s_l14Closure (a.1, a.2.1, a.2.2) (s : Int) (nth g.1 (x : Int)) = _ := ec
  have ef : m_s_l4From (g.1, g.2) (x : Int) = _ := s_from G
  rw [ec, ef]; simp only [Option.bind_some]
  generalize hCC : cS a (s : Int) (nth g.1 (x : Int)) = C at hC
  have l1 := arcL_len g.2 x
  have hm := G.m
  have := loopM_at (f := m_s_l14Steps_l0 g a (C : Int) ((arcL g.2 x).map arcI)) (fun i => (((arcL g.2 x).take i).flatMap (stA g a x s), (i : Int))) (arcL g.2 x).length (fun i hi => by
    unfold m_s_l14Steps_l0
    simp only
    have hy := List.getElem_mem hi
    generalize hyy : (arcL g.2 x)[i] = y at hy
    have hi2 : getI ((arcL g.2 x).map arcI) (i : Int) = some (arcI y) := by rw [getI_nat (by simpa using hi)]; simp [hyy]
    obtain ⟨j, e, e1, e2, e3, e4⟩ := arc_edge G hy
    obtain ⟨k0, k1⟩ := (arc_in G hy).1
    rw [if_pos (by simp; omega), hi2]; simp only [Option.bind_some]
    have e1 : m_s_EdgeIndex (g.1, g.2) (arcI y).1 = _ := e1
    rw [e1]; simp only [Option.bind_some]
    rw [e2]; simp only [Option.bind_some]
    rw [bindL_brk (st_l1 G V hn hC hy hi2 e3)]
    have hlt := afS_lt V (k := y.2.1.toNat) (C := C) (by omega) a.2.1.length (Nat.le_refl _)
    have hol := flatl_len (f := stA g a x s) (B := 30) (xs := (arcL g.2 x).take i) fun z hz => stA_len G V hn hx hs (List.mem_of_mem_take hz)
    have hol2 : ((arcL g.2 x).take i).length ≤ 24 := by rw [List.length_take]; omega
    rw [bindL_brk (st_l2 G V hn hlt (by omega) hi2 e4), wrap_succ (by omega)]
    congr 3
    have et : (arcL g.2 x).take (i + 1) = (arcL g.2 x).take i ++ [y] := by rw [List.take_add_one]; simp [hi, hyy]
    rw [et, List.flatMap_append]
    congr 1
    simp only [List.flatMap_cons, List.flatMap_nil, List.append_nil]
    unfold stA behind
    rw [hCC, mem30_more hC (show a.2.1.length ≤ 30 by omega), afL_mem]) (by unfold m_s_l14Steps_l0; simp) (up63 (by omega))
  rw [List.take_length] at this
  have this : loopM (m_s_l14Steps_l0 g a (C : Int) ((arcL g.2 x).map arcI)) FUEL (([] : List PsT), 0) = _ := this
  rw [bindL_brk this]; rfl
end
end Go.Proofs.Ytfjohpmibocjcaa.D
/- A search by ranks, as a list of states: the queue grows, i of it looked at. No program text is named here. -/
set_option linter.unusedVariables false
set_option linter.unusedSimpArgs false
namespace Go.Proofs.Ytfjohpmibocjcaa.D
open Go.RowKit

/-! ### A search by ranks -/
abbrev BfT := List Int × List Int
def rel1 (d : Int) (s : BfT) (x : Int) : BfT := if nth s.1 x < 0 then (s.1.set x.toNat d, s.2 ++ [x]) else s
def relS (d : Int) (s : BfT) (xs : List Int) : BfT := xs.foldl (rel1 d) s
theorem relS_snoc (d : Int) (s : BfT) (xs : List Int) (x : Int) : relS d s (xs ++ [x]) = rel1 d (relS d s xs) x := by simp [relS]
structure BI (N : Nat) (s : BfT) : Prop where
  len : s.1.length = N
  nd : s.2.Nodup
  rng : ∀ x ∈ s.2, 0 ≤ x ∧ x < N
  seen : ∀ x : Int, 0 ≤ x → x < N → (nth s.1 x < 0 ↔ x ∉ s.2)
  top : ∀ x : Int, 0 ≤ x → x < N → -1 ≤ nth s.1 x ∧ nth s.1 x < s.2.length
theorem BI.le {N : Nat} {s : BfT} (h : BI N s) : s.2.length ≤ N := by
  have := h.nd.length_le_of_subset (l₂ := (List.range N).map fun i : Nat => (i : Int)) (fun x hx => by
    obtain ⟨h0, h1⟩ := h.rng x hx
    exact List.mem_map.2 ⟨x.toNat, List.mem_range.2 (by omega), by omega⟩)
  simpa using this
theorem BI.one {N : Nat} {s : BfT} (h : BI N s) {d x : Int} (hx : 0 ≤ x ∧ x < N) (hd : 0 ≤ d ∧ d ≤ s.2.length) : BI N (rel1 d s x) ∧ s.2 <+: (rel1 d s x).2 ∧ ∀ y, 0 ≤ y → 0 ≤ nth s.1 y → nth (rel1 d s x).1 y = nth s.1 y := by
  unfold rel1
  split
  · rename_i hn
    have hnot := (h.seen x hx.1 hx.2).1 hn
    refine ⟨⟨by simp [h.len], ?_, ?_, ?_, ?_⟩, List.prefix_append _ _, ?_⟩
    · exact List.nodup_append.2 ⟨h.nd, by simp, by rintro a ha b hb rfl; simp at hb; exact hnot (hb ▸ ha)⟩
    · intro y hy
      rcases List.mem_append.1 hy with hy | hy
      · exact h.rng y hy
      · obtain rfl : y = x := by simpa using hy
        exact hx
    · intro y h0 h1
      by_cases e : x = y
      · subst e
        rw [nth_set_self hx.1 (by rw [h.len]; exact hx.2)]
        simp; omega
      · rw [nth_set_ne hx.1 h0 e, h.seen y h0 h1]
        simp; omega
    · intro y h0 h1
      by_cases e : x = y
      · subst e
        rw [nth_set_self hx.1 (by rw [h.len]; exact hx.2)]
        simp; omega
      · rw [nth_set_ne hx.1 h0 e]
        have := h.top y h0 h1
        simp; omega
    · intro y h0 h1
      refine nth_set_ne hx.1 h0 ?_
      rintro rfl
      omega
  · exact ⟨h, List.prefix_refl _, fun y _ _ => rfl⟩
theorem BI.all {N : Nat} {d : Int} : ∀ {xs : List Int} {s : BfT}, BI N s → (∀ x ∈ xs, 0 ≤ x ∧ x < N) → (0 ≤ d ∧ d ≤ s.2.length) → BI N (relS d s xs) ∧ s.2 <+: (relS d s xs).2 ∧ ∀ y, 0 ≤ y → 0 ≤ nth s.1 y → nth (relS d s xs).1 y = nth s.1 y
  | [], s, h, _, _ => ⟨h, List.prefix_refl _, fun _ _ _ => rfl⟩
  | x :: xs, s, h, hx, hd => by
    obtain ⟨h1, h2, h3⟩ := h.one (hx x (by simp)) hd
    have hl := h2.length_le
    obtain ⟨k1, k2, k3⟩ := BI.all (xs := xs) h1 (fun y hy => hx y (by simp [hy])) ⟨hd.1, by omega⟩
    refine ⟨k1, h2.trans k2, fun y h0 hy => ?_⟩
    have e := h3 y h0 hy
    exact (k3 y h0 (by rw [e]; exact hy)).trans e
def bsS (nx : Int → List Int) (N : Nat) (v : Int) : Nat → BfT
  | 0 => ((List.replicate N (-1)).set v.toNat 0, [v])
  | i + 1 => match (bsS nx N v i).2[i]? with
    | some x => relS (nth (bsS nx N v i).1 x + 1) (bsS nx N v i) (nx x)
    | none => bsS nx N v i
section
variable {nx : Int → List Int} {N : Nat} {v : Int} (hv : 0 ≤ v ∧ v < N) (hn : ∀ x : Int, 0 ≤ x → x < N → ∀ y ∈ nx x, 0 ≤ y ∧ y < N)
include hv
theorem nth_rep {x : Int} (h0 : 0 ≤ x) (h1 : x < N) : nth (List.replicate N (-1 : Int)) x = -1 := by
  have : x.toNat < N := by omega
  simp [nth, List.getD_eq_getElem?_getD, List.getElem?_replicate, this]
theorem BI.zero : BI N (bsS nx N v 0) := by
  refine ⟨by simp [bsS], by simp [bsS], fun x hx => ?_, fun x h0 h1 => ?_, fun x h0 h1 => ?_⟩
  · obtain rfl : x = v := by simpa [bsS] using hx
    exact hv
  all_goals
    unfold bsS
    by_cases e : v = x
    · subst e
      rw [nth_set_self hv.1 (by simpa using hv.2)]
      simp
    · rw [nth_set_ne hv.1 h0 e, nth_rep hv h0 h1]
      first | omega | (simp; omega) | simp
include hn
theorem bsS_step {i : Nat} (h : BI N (bsS nx N v i)) : BI N (bsS nx N v (i + 1)) ∧ (bsS nx N v i).2 <+: (bsS nx N v (i + 1)).2 := by
  rw [bsS]
  split
  · rename_i x hx
    have hm := List.mem_of_getElem? hx
    obtain ⟨x0, x1⟩ := h.rng x hm
    have hp : ¬ nth (bsS nx N v i).1 x < 0 := fun c => (h.seen x x0 x1).1 c hm
    have ht := h.top x x0 x1
    obtain ⟨k1, k2, _⟩ := h.all (xs := nx x) (d := nth (bsS nx N v i).1 x + 1) (hn x x0 x1) ⟨by omega, by omega⟩
    exact ⟨k1, k2⟩
  · exact ⟨h, List.prefix_refl _⟩
theorem bsS_ok : ∀ i, BI N (bsS nx N v i)
  | 0 => BI.zero hv
  | i + 1 => (bsS_step hv hn (bsS_ok i)).1
theorem bsS_end : ∃ K, K ≤ N ∧ K = (bsS nx N v K).2.length ∧ ∀ i, i < K → i < (bsS nx N v i).2.length := by
  have key : ∀ m i, i + m = N → (∀ j, j < i → j < (bsS nx N v j).2.length) → ∃ K, K ≤ N ∧ K = (bsS nx N v K).2.length ∧ ∀ i, i < K → i < (bsS nx N v i).2.length := by
    have hge : ∀ i, (∀ j, j < i → j < (bsS nx N v j).2.length) → i ≤ (bsS nx N v i).2.length := by
      intro i hj
      cases i with
      | zero => omega
      | succ i =>
        have := hj i (by omega)
        have hp := (bsS_step hv hn (bsS_ok hv hn i)).2.length_le
        omega
    intro m
    induction m with
    | zero =>
      intro i hi hj
      have h1 := (bsS_ok hv hn i).le
      have h2 := hge i hj
      exact ⟨i, by omega, by omega, hj⟩
    | succ m ih =>
      intro i hi hj
      by_cases h : i < (bsS nx N v i).2.length
      · exact ih (i + 1) (by omega) fun j hj' => by
          by_cases e : j = i
          · subst e; exact h
          · exact hj j (by omega)
      · have h2 := hge i hj
        exact ⟨i, by omega, by omega, hj⟩
  exact key N 0 (by omega) (by omega)
end
end Go.Proofs.Ytfjohpmibocjcaa.D
/- The search over the product, by the program. -/
set_option linter.unusedVariables false
set_option linter.unusedSimpArgs false
set_option linter.unnecessarySimpa false
set_option linter.unusedSectionVars false
namespace Go.Proofs.Ytfjohpmibocjcaa.D
open Go.RowKit

theorem rep_all : (List.range 61).all (fun N => decide (m_g_slices_Repeat_S_int_int [-1] (N : Int) = some (List.replicate N (-1)))) = true := by kernel_rfl
theorem i_rep {N : Nat} (h : N ≤ 60) : m_g_slices_Repeat_S_int_int [-1] (N : Int) = some (List.replicate N (-1)) :=
  of_decide_eq_true (List.all_eq_true.1 rep_all N (List.mem_range.2 (by omega)))
theorem drop_app {α : Type} {xs : List α} {i : Nat} {x : α} (h : i ≤ xs.length) : (xs ++ [x]).drop i = xs.drop i ++ [x] := List.drop_append_of_le_length h
theorem getI_drop0 {α : Type} {xs : List α} {i : Nat} {x : α} (h : xs[i]? = some x) : getI (xs.drop i) 0 = some x := by
  unfold getI
  rw [if_pos (by decide)]
  simpa using h
section
variable {nx : Int → List Int} {N : Nat} {v : Int} (hN : N ≤ 60) (hv : 0 ≤ v ∧ v < N) (hn : ∀ x : Int, 0 ≤ x → x < N → ∀ y ∈ nx x, 0 ≤ y ∧ y < N) (hl : ∀ x, (nx x).length ≤ 100000)
include hN hv hn hl
theorem bs_in {i : Nat} {x : Int} (hx : (bsS nx N v i).2[i]? = some x) (j : Nat) :
    BI N (relS (nth (bsS nx N v i).1 x + 1) (bsS nx N v i) ((nx x).take j)) ∧ (relS (nth (bsS nx N v i).1 x + 1) (bsS nx N v i) ((nx x).take j)).2[i]? = some x ∧ nth (relS (nth (bsS nx N v i).1 x + 1) (bsS nx N v i) ((nx x).take j)).1 x = nth (bsS nx N v i).1 x ∧ (0 ≤ x ∧ x < N) ∧ (0 ≤ nth (bsS nx N v i).1 x ∧ nth (bsS nx N v i).1 x < 60) ∧ i < (relS (nth (bsS nx N v i).1 x + 1) (bsS nx N v i) ((nx x).take j)).2.length := by
  have h := bsS_ok hv hn i
  have hm := List.mem_of_getElem? hx
  obtain ⟨x0, x1⟩ := h.rng x hm
  have hp : ¬ nth (bsS nx N v i).1 x < 0 := fun c => (h.seen x x0 x1).1 c hm
  have ht := h.top x x0 x1
  have hle := h.le
  obtain ⟨k1, k2, k3⟩ := h.all (xs := (nx x).take j) (d := nth (bsS nx N v i).1 x + 1) (fun y hy => hn x x0 x1 y (List.mem_of_mem_take hy)) ⟨by omega, by omega⟩
  obtain ⟨t, ht'⟩ := k2
  have hi := (List.getElem?_eq_some_iff.1 hx).1
  have e : (relS (nth (bsS nx N v i).1 x + 1) (bsS nx N v i) ((nx x).take j)).2[i]? = some x := by
    rw [← ht', List.getElem?_append_left hi, hx]
  exact ⟨k1, e, k3 x x0 (by omega), ⟨x0, x1⟩, ⟨by omega, by omega⟩, (List.getElem?_eq_some_iff.1 e).1⟩
theorem sp_l2 {i : Nat} {x : Int} (hx : (bsS nx N v i).2[i]? = some x) :
    loopM (m_i_spread_l2 (nx x)) FUEL ((bsS nx N v i).2.drop i, 0, (bsS nx N v i).1) = some (.brk ((bsS nx N v (i + 1)).2.drop i, ((nx x).length : Int), (bsS nx N v (i + 1)).1)) := by
  have := loopM_at (f := m_i_spread_l2 (nx x)) (fun j => ((relS (nth (bsS nx N v i).1 x + 1) (bsS nx N v i) ((nx x).take j)).2.drop i, (j : Int), (relS (nth (bsS nx N v i).1 x + 1) (bsS nx N v i) ((nx x).take j)).1)) (nx x).length (fun j hj => by
    have hlx := hl x
    obtain ⟨k1, k2, k3, ⟨x0, x1⟩, k4, k5⟩ := bs_in hN hv hn hl hx j
    have hy := hn x x0 x1 _ (nth_mem (xs := nx x) (i := (j : Int)) (by omega) (by omega))
    unfold m_i_spread_l2
    simp only
    rw [take_snoc hj, relS_snoc]
    generalize relS (nth (bsS nx N v i).1 x + 1) (bsS nx N v i) ((nx x).take j) = s at k1 k2 k3 k5
    have hle := k1.le
    have hlen := k1.len
    rw [if_pos (by simp; omega), getI_nth (by omega) (by omega)]; simp only [Option.bind_some]
    rw [getI_nth (xs := s.1) hy.1 (by omega)]; simp only [Option.bind_some]
    rw [getI_drop0 k2]; simp only [Option.bind_some]
    rw [getI_nth (xs := s.1) x0 (by omega)]; simp only [Option.bind_some]
    rw [appI_ok (by simp; omega), wrap_succ (by omega), k3, wrapI (by omega) (by omega)]
    unfold rel1
    by_cases c : nth s.1 (nth (nx x) (j : Int)) < 0
    · rw [if_pos (by simpa using c), if_pos c, drop_app (by omega)]; rfl
    · rw [if_neg (by simpa using c), if_neg c]; rfl) (by unfold m_i_spread_l2; simp) (up63 (by have := hl x; omega))
  rw [List.take_length] at this
  have e : bsS nx N v (i + 1) = relS (nth (bsS nx N v i).1 x + 1) (bsS nx N v i) (nx x) := by rw [bsS, hx]
  rw [e]
  exact this
theorem i_spread {K : Nat} (hK : K ≤ N) (hE : K = (bsS nx N v K).2.length) (hR : ∀ i, i < K → i < (bsS nx N v i).2.length) : m_i_spread (rm N fun z => nx (z : Int)) [v] = some (bsS nx N v K).1 := by
  unfold m_i_spread
  rw [rm_len, i_rep hN]; simp only [Option.bind_some]
  have e0 : loopM (m_i_spread_l0 [v]) FUEL (([] : List Int), 0, List.replicate N (-1)) = some (.brk ([v], 1, (bsS nx N v 0).1)) := by
    have := loopM_at (f := m_i_spread_l0 [v]) (fun j => if j = 0 then (([] : List Int), (0 : Int), List.replicate N (-1 : Int)) else ([v], 1, (bsS nx N v 0).1)) 1 (fun j hj => by
      obtain rfl : j = 0 := by omega
      unfold m_i_spread_l0
      simp only [if_true]
      rw [if_pos (by simp), show getI [v] 0 = some v from rfl]; simp only [Option.bind_some]
      rw [getI_nth (xs := List.replicate N (-1)) hv.1 (by simpa using hv.2)]; simp only [Option.bind_some]
      rw [appI_ok (by simp)]; rfl) (by unfold m_i_spread_l0; simp) (by unfold FUEL; omega)
    exact this
  rw [bindL_brk e0]
  have := loopM_at (f := m_i_spread_l1 (rm N fun z => nx (z : Int))) (fun i => ((bsS nx N v i).2.drop i, (bsS nx N v i).1)) K (fun i hi => by
    have hi2 := hR i hi
    obtain ⟨x, hx⟩ : ∃ x, (bsS nx N v i).2[i]? = some x := ⟨_, List.getElem?_eq_getElem hi2⟩
    obtain ⟨k1, k2, k3, ⟨x0, x1⟩, k4, k5⟩ := bs_in hN hv hn hl hx 0
    unfold m_i_spread_l1
    simp only
    rw [if_pos (by simp; omega), getI_drop0 hx]; simp only [Option.bind_some]
    obtain ⟨z, rfl⟩ : ∃ z : Nat, x = (z : Int) := ⟨_, (Int.toNat_of_nonneg x0).symm⟩
    rw [getI_rm (by omega)]; simp only [Option.bind_some]
    rw [bindL_brk (sp_l2 hN hv hn hl hx)]
    have hp := (bsS_step hv hn (bsS_ok hv hn i)).2.length_le
    rw [chk_ok (by simp; omega)]; simp only [Option.bind_some]
    rw [List.drop_drop]) (by
    unfold m_i_spread_l1
    rw [if_neg (by simp; omega)]) (up63 (by omega))
  have this : loopM (m_i_spread_l1 (rm N fun z => nx (z : Int))) FUEL ([v], (bsS nx N v 0).1) = _ := this
  rw [bindL_brk this]
end
end Go.Proofs.Ytfjohpmibocjcaa.D
