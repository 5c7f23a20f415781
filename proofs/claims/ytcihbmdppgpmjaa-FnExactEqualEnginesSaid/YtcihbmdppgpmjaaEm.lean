/- Printed by dec.py: models of functions and the walks that show them. -/
import Derived.Test.YtcihbmdppgpmjaaDeep
set_option linter.unusedVariables false
set_option linter.unusedSimpArgs false
set_option linter.unnecessarySimpa false
set_option maxRecDepth 100000
namespace Go.Proofs.Ytcihbmdppgpmjaa.D
open Go.RowKit
def m_w_szIntS (p0a : List Int) (p1left : Int) : Option Int :=
  if decide (IntKind.i64.wrap (p1left - (p0a.length : Int)) < 0) then (some (-1)) else (some (IntKind.i64.wrap (p1left - (p0a.length : Int))))
def m_w_szEdgeS (p0a : List (Int × Int × Int × Int)) (p1left : Int) : Option Int :=
  if decide (IntKind.i64.wrap (p1left - (p0a.length : Int)) < 0) then (some (-1)) else (some (IntKind.i64.wrap (p1left - (p0a.length : Int))))
def m_w_szGraph (p0a : (List Int) × (List (Int × Int × Int × Int))) (p1left : Int) : Option Int :=
  (m_w_szIntS p0a.1 p1left).bind fun r1 => if decide (r1 < 0) then (some (-1)) else ((m_w_szEdgeS p0a.2 r1).bind fun r2 => if decide (r2 < 0) then (some (-1)) else (some r2))
def m_w_szGraphS_l0 (p0a : List ((List Int) × (List (Int × Int × Int × Int)))) (s3 : Int × Int) : Option (Out Int (Int × Int)) :=
  if decide (s3.2 < (p0a.length : Int)) then ((getI p0a s3.2).bind fun x3 => (m_w_szGraph (x3.1, x3.2) s3.1).bind fun r9 => if decide (r9 < 0) then (some (.ret (-1))) else (some (.nxt (r9, IntKind.i64.wrap (s3.2 + 1))))) else (some (.brk (s3.1, s3.2)))
def m_w_szGraphS (p0a : List ((List Int) × (List (Int × Int × Int × Int)))) (p1left : Int) : Option Int :=
  if decide (IntKind.i64.wrap (p1left - (p0a.length : Int)) < 0) then (some (-1)) else (bindL (loopM (m_w_szGraphS_l0 p0a) FUEL (IntKind.i64.wrap (p1left - (p0a.length : Int)), 0)) (fun r => some r) (fun s4 => some s4.1))
def m_w_szHistory (p0a : Int × (List ((List Int) × (List (Int × Int × Int × Int))))) (p1left : Int) : Option Int :=
  (m_w_szGraphS p0a.2 p1left).bind fun r1 => if decide (r1 < 0) then (some (-1)) else (some r1)
def m_w_szBoolS (p0a : List Bool) (p1left : Int) : Option Int :=
  if decide (IntKind.i64.wrap (p1left - (p0a.length : Int)) < 0) then (some (-1)) else (some (IntKind.i64.wrap (p1left - (p0a.length : Int))))
def m_w_szIntSS_l0 (p0a : List (List Int)) (s3 : Int × Int) : Option (Out Int (Int × Int)) :=
  if decide (s3.2 < (p0a.length : Int)) then ((getI p0a s3.2).bind fun x3 => (m_w_szIntS x3 s3.1).bind fun r6 => if decide (r6 < 0) then (some (.ret (-1))) else (some (.nxt (r6, IntKind.i64.wrap (s3.2 + 1))))) else (some (.brk (s3.1, s3.2)))
def m_w_szIntSS (p0a : List (List Int)) (p1left : Int) : Option Int :=
  if decide (IntKind.i64.wrap (p1left - (p0a.length : Int)) < 0) then (some (-1)) else (bindL (loopM (m_w_szIntSS_l0 p0a) FUEL (IntKind.i64.wrap (p1left - (p0a.length : Int)), 0)) (fun r => some r) (fun s4 => some s4.1))
def m_w_szAutomaton (p0a : Int × (List Bool) × (List (List Int))) (p1left : Int) : Option Int :=
  (m_w_szBoolS p0a.2.1 p1left).bind fun r1 => if decide (r1 < 0) then (some (-1)) else ((m_w_szIntSS p0a.2.2 r1).bind fun r2 => if decide (r2 < 0) then (some (-1)) else (some r2))
def m_w_szAutomatonS_l0 (p0a : List (Int × (List Bool) × (List (List Int)))) (s3 : Int × Int) : Option (Out Int (Int × Int)) :=
  if decide (s3.2 < (p0a.length : Int)) then ((getI p0a s3.2).bind fun x3 => (m_w_szAutomaton (x3.1, x3.2.1, x3.2.2) s3.1).bind fun r9 => if decide (r9 < 0) then (some (.ret (-1))) else (some (.nxt (r9, IntKind.i64.wrap (s3.2 + 1))))) else (some (.brk (s3.1, s3.2)))
def m_w_szAutomatonS (p0a : List (Int × (List Bool) × (List (List Int)))) (p1left : Int) : Option Int :=
  if decide (IntKind.i64.wrap (p1left - (p0a.length : Int)) < 0) then (some (-1)) else (bindL (loopM (m_w_szAutomatonS_l0 p0a) FUEL (IntKind.i64.wrap (p1left - (p0a.length : Int)), 0)) (fun r => some r) (fun s4 => some s4.1))
def m_w_szTokenS (p0a : List (Int × Int × Int × Int)) (p1left : Int) : Option Int :=
  if decide (IntKind.i64.wrap (p1left - (p0a.length : Int)) < 0) then (some (-1)) else (some (IntKind.i64.wrap (p1left - (p0a.length : Int))))
def m_w_szExpr (p0a : (List (Int × Int × Int × Int))) (p1left : Int) : Option Int :=
  (m_w_szTokenS p0a p1left).bind fun r1 => if decide (r1 < 0) then (some (-1)) else (some r1)
def m_w_szRegistered (p0a : Int × ((List (Int × Int × Int × Int))) × Int) (p1left : Int) : Option Int :=
  (m_w_szExpr p0a.2.1 p1left).bind fun r1 => if decide (r1 < 0) then (some (-1)) else (some r1)
def m_w_szRegisteredS_l0 (p0a : List (Int × ((List (Int × Int × Int × Int))) × Int)) (s3 : Int × Int) : Option (Out Int (Int × Int)) :=
  if decide (s3.2 < (p0a.length : Int)) then ((getI p0a s3.2).bind fun x3 => (m_w_szRegistered (x3.1, x3.2.1, x3.2.2) s3.1).bind fun r6 => if decide (r6 < 0) then (some (.ret (-1))) else (some (.nxt (r6, IntKind.i64.wrap (s3.2 + 1))))) else (some (.brk (s3.1, s3.2)))
def m_w_szRegisteredS (p0a : List (Int × ((List (Int × Int × Int × Int))) × Int)) (p1left : Int) : Option Int :=
  if decide (IntKind.i64.wrap (p1left - (p0a.length : Int)) < 0) then (some (-1)) else (bindL (loopM (m_w_szRegisteredS_l0 p0a) FUEL (IntKind.i64.wrap (p1left - (p0a.length : Int)), 0)) (fun r => some r) (fun s4 => some s4.1))
def m_w_szRegistry (p0a : (List (Int × (List Bool) × (List (List Int)))) × (List (Int × ((List (Int × Int × Int × Int))) × Int))) (p1left : Int) : Option Int :=
  (m_w_szAutomatonS p0a.1 p1left).bind fun r1 => if decide (r1 < 0) then (some (-1)) else ((m_w_szRegisteredS p0a.2 r1).bind fun r2 => if decide (r2 < 0) then (some (-1)) else (some r2))
def m_w_szSubscriberS (p0a : List (Int × Int × Int)) (p1left : Int) : Option Int :=
  if decide (IntKind.i64.wrap (p1left - (p0a.length : Int)) < 0) then (some (-1)) else (some (IntKind.i64.wrap (p1left - (p0a.length : Int))))
def m_w_szEngine (p0a : (Int × (List ((List Int) × (List (Int × Int × Int × Int))))) × ((List (Int × (List Bool) × (List (List Int)))) × (List (Int × ((List (Int × Int × Int × Int))) × Int))) × (List (Int × Int × Int)) × ByteArray) (p1left : Int) : Option Int :=
  (m_w_szHistory (p0a.1.1, p0a.1.2) p1left).bind fun r1 => if decide (r1 < 0) then (some (-1)) else ((m_w_szRegistry (p0a.2.1.1, p0a.2.1.2) r1).bind fun r2 => if decide (r2 < 0) then (some (-1)) else ((m_w_szSubscriberS p0a.2.2.1 r2).bind fun r3 => if decide (r3 < 0) then (some (-1)) else (if decide (IntKind.i64.wrap (r3 - (p0a.2.2.2.size : Int)) < 0) then (some (-1)) else (some (IntKind.i64.wrap (r3 - (p0a.2.2.2.size : Int)))))))
def m_s_l2Cmp_l0 (p0a : List Int) (p1b : List Int) (s3 : Int) : Option (Out Int Int) :=
  if decide (s3 < (p0a.length : Int)) then (if decide (s3 < (p1b.length : Int)) then ((getI p0a s3).bind fun x9 => (getI p1b s3).bind fun x10 => if decide (x9 < x10) then (some (.ret (-1))) else ((getI p0a s3).bind fun x11 => (getI p1b s3).bind fun x12 => if decide (x11 > x12) then (some (.ret 1)) else (some (.nxt (IntKind.i64.wrap (s3 + 1)))))) else (some (.brk s3))) else (some (.brk s3))
def m_s_l2Cmp (p0a : List Int) (p1b : List Int) : Option Int :=
  bindL (loopM (m_s_l2Cmp_l0 p0a p1b) FUEL 0) (fun r => some r) (fun s4 => if decide ((p0a.length : Int) < (p1b.length : Int)) then (some (-1)) else (if decide ((p0a.length : Int) > (p1b.length : Int)) then (some 1) else (some 0)))
def m_s_EqualGraphs_l0 (p0a : (List Int) × (List (Int × Int × Int × Int))) (p1b : (List Int) × (List (Int × Int × Int × Int))) (s3 : Int) : Option (Out Bool Int) :=
  if decide (s3 < (p0a.2.length : Int)) then ((getI p0a.2 s3).bind fun x5 => (getI p1b.2 s3).bind fun x6 => if (x5.1 == x6.1) && ((x5.2.1 == x6.2.1) && ((x5.2.2.1 == x6.2.2.1) && ((x5.2.2.2 == x6.2.2.2) && true))) then (some (.nxt (IntKind.i64.wrap (s3 + 1)))) else (some (.ret false))) else (some (.brk s3))
def m_s_EqualGraphs (p0a : (List Int) × (List (Int × Int × Int × Int))) (p1b : (List Int) × (List (Int × Int × Int × Int))) : Option Bool :=
  (m_s_l2Cmp p0a.1 p1b.1).bind fun r1 => if r1 != 0 then (some false) else (if (p0a.2.length : Int) != (p1b.2.length : Int) then (some false) else (bindL (loopM (m_s_EqualGraphs_l0 p0a p1b) FUEL 0) (fun r => some r) (fun s4 => some true)))
def m_s_EqualHistories_l0 (p0a : Int × (List ((List Int) × (List (Int × Int × Int × Int))))) (p1b : Int × (List ((List Int) × (List (Int × Int × Int × Int))))) (s3 : Int) : Option (Out Bool Int) :=
  if decide (s3 < (p0a.2.length : Int)) then ((getI p0a.2 s3).bind fun x5 => (getI p1b.2 s3).bind fun x6 => (m_s_EqualGraphs (x5.1, x5.2) (x6.1, x6.2)).bind fun r15 => if r15 then (some (.nxt (IntKind.i64.wrap (s3 + 1)))) else (some (.ret false))) else (some (.brk s3))
def m_s_EqualHistories (p0a : Int × (List ((List Int) × (List (Int × Int × Int × Int))))) (p1b : Int × (List ((List Int) × (List (Int × Int × Int × Int))))) : Option Bool :=
  if p0a.1 != p1b.1 then (some false) else (if (p0a.2.length : Int) != (p1b.2.length : Int) then (some false) else (bindL (loopM (m_s_EqualHistories_l0 p0a p1b) FUEL 0) (fun r => some r) (fun s4 => some true)))
def m_s_EqualAutomata_l0 (p0 : Int × (List Bool) × (List (List Int))) (p1 : Int × (List Bool) × (List (List Int))) (s3 : Int) : Option (Out Bool Int) :=
  if decide (s3 < (p0.2.1.length : Int)) then ((getI p0.2.1 s3).bind fun x5 => (getI p1.2.1 s3).bind fun x6 => if x5 != x6 then (some (.ret false)) else (some (.nxt (IntKind.i64.wrap (s3 + 1))))) else (some (.brk s3))
def m_s_EqualAutomata_l1 (p0 : Int × (List Bool) × (List (List Int))) (p1 : Int × (List Bool) × (List (List Int))) (s7 : Int) : Option (Out Bool Int) :=
  if decide (s7 < (p0.2.2.length : Int)) then ((getI p0.2.2 s7).bind fun x11 => (getI p1.2.2 s7).bind fun x12 => (m_s_l2Cmp x11 x12).bind fun r9 => if r9 != 0 then (some (.ret false)) else (some (.nxt (IntKind.i64.wrap (s7 + 1))))) else (some (.brk s7))
def m_s_EqualAutomata (p0 : Int × (List Bool) × (List (List Int))) (p1 : Int × (List Bool) × (List (List Int))) : Option Bool :=
  if p0.1 != p1.1 then (some false) else (if (p0.2.1.length : Int) != (p1.2.1.length : Int) then (some false) else (if (p0.2.2.length : Int) != (p1.2.2.length : Int) then (some false) else (bindL (loopM (m_s_EqualAutomata_l0 p0 p1) FUEL 0) (fun r => some r) (fun s4 => bindL (loopM (m_s_EqualAutomata_l1 p0 p1) FUEL 0) (fun r => some r) (fun s8 => some true)))))
def m_s_EqualExprs_l0 (p0a : (List (Int × Int × Int × Int))) (p1b : (List (Int × Int × Int × Int))) (s3 : Int) : Option (Out Bool Int) :=
  if decide (s3 < (p0a.length : Int)) then ((getI p0a s3).bind fun x5 => (getI p1b s3).bind fun x6 => if (x5.1 == x6.1) && ((x5.2.1 == x6.2.1) && ((x5.2.2.1 == x6.2.2.1) && ((x5.2.2.2 == x6.2.2.2) && true))) then (some (.nxt (IntKind.i64.wrap (s3 + 1)))) else (some (.ret false))) else (some (.brk s3))
def m_s_EqualExprs (p0a : (List (Int × Int × Int × Int))) (p1b : (List (Int × Int × Int × Int))) : Option Bool :=
  if (p0a.length : Int) != (p1b.length : Int) then (some false) else (bindL (loopM (m_s_EqualExprs_l0 p0a p1b) FUEL 0) (fun r => some r) (fun s4 => some true))
def m_s_EqualRegistries_l0 (p0 : (List (Int × (List Bool) × (List (List Int)))) × (List (Int × ((List (Int × Int × Int × Int))) × Int))) (p1 : (List (Int × (List Bool) × (List (List Int)))) × (List (Int × ((List (Int × Int × Int × Int))) × Int))) (s3 : Int) : Option (Out Bool Int) :=
  if decide (s3 < (p0.1.length : Int)) then ((getI p0.1 s3).bind fun x5 => (getI p1.1 s3).bind fun x6 => (m_s_EqualAutomata (x5.1, x5.2.1, x5.2.2) (x6.1, x6.2.1, x6.2.2)).bind fun r15 => if r15 then (some (.nxt (IntKind.i64.wrap (s3 + 1)))) else (some (.ret false))) else (some (.brk s3))
def m_s_EqualRegistries_l1 (p0 : (List (Int × (List Bool) × (List (List Int)))) × (List (Int × ((List (Int × Int × Int × Int))) × Int))) (p1 : (List (Int × (List Bool) × (List (List Int)))) × (List (Int × ((List (Int × Int × Int × Int))) × Int))) (s7 : Int) : Option (Out Bool Int) :=
  if decide (s7 < (p0.2.length : Int)) then ((getI p0.2 s7).bind fun x19 => (getI p1.2 s7).bind fun x20 => if x19.1 != x20.1 then (some (.ret false)) else ((getI p0.2 s7).bind fun x21 => (getI p1.2 s7).bind fun x22 => (m_s_EqualExprs x21.2.1 x22.2.1).bind fun r24 => if r24 then ((getI p0.2 s7).bind fun x23 => (getI p1.2 s7).bind fun x24 => if x23.2.2 != x24.2.2 then (some (.ret false)) else (some (.nxt (IntKind.i64.wrap (s7 + 1))))) else (some (.ret false)))) else (some (.brk s7))
def m_s_EqualRegistries (p0 : (List (Int × (List Bool) × (List (List Int)))) × (List (Int × ((List (Int × Int × Int × Int))) × Int))) (p1 : (List (Int × (List Bool) × (List (List Int)))) × (List (Int × ((List (Int × Int × Int × Int))) × Int))) : Option Bool :=
  if (p0.1.length : Int) != (p1.1.length : Int) then (some false) else (if (p0.2.length : Int) != (p1.2.length : Int) then (some false) else (bindL (loopM (m_s_EqualRegistries_l0 p0 p1) FUEL 0) (fun r => some r) (fun s4 => bindL (loopM (m_s_EqualRegistries_l1 p0 p1) FUEL 0) (fun r => some r) (fun s8 => some true))))
def m_s_EqualEngines_l0 (p0a : (Int × (List ((List Int) × (List (Int × Int × Int × Int))))) × ((List (Int × (List Bool) × (List (List Int)))) × (List (Int × ((List (Int × Int × Int × Int))) × Int))) × (List (Int × Int × Int)) × ByteArray) (p1b : (Int × (List ((List Int) × (List (Int × Int × Int × Int))))) × ((List (Int × (List Bool) × (List (List Int)))) × (List (Int × ((List (Int × Int × Int × Int))) × Int))) × (List (Int × Int × Int)) × ByteArray) (s3 : Int) : Option (Out Bool Int) :=
  if decide (s3 < (p0a.2.2.1.length : Int)) then ((getI p0a.2.2.1 s3).bind fun x5 => (getI p1b.2.2.1 s3).bind fun x6 => if (x5.1 == x6.1) && ((x5.2.1 == x6.2.1) && ((x5.2.2 == x6.2.2) && true)) then (some (.nxt (IntKind.i64.wrap (s3 + 1)))) else (some (.ret false))) else (some (.brk s3))
def m_s_EqualEngines (p0a : (Int × (List ((List Int) × (List (Int × Int × Int × Int))))) × ((List (Int × (List Bool) × (List (List Int)))) × (List (Int × ((List (Int × Int × Int × Int))) × Int))) × (List (Int × Int × Int)) × ByteArray) (p1b : (Int × (List ((List Int) × (List (Int × Int × Int × Int))))) × ((List (Int × (List Bool) × (List (List Int)))) × (List (Int × ((List (Int × Int × Int × Int))) × Int))) × (List (Int × Int × Int)) × ByteArray) : Option Bool :=
  (m_s_EqualHistories (p0a.1.1, p0a.1.2) (p1b.1.1, p1b.1.2)).bind fun r1 => if r1 then ((m_s_EqualRegistries (p0a.2.1.1, p0a.2.1.2) (p1b.2.1.1, p1b.2.1.2)).bind fun r2 => if r2 then (if (p0a.2.2.1.length : Int) != (p1b.2.2.1.length : Int) then (some false) else (if p0a.2.2.2 != p1b.2.2.2 then (some false) else (bindL (loopM (m_s_EqualEngines_l0 p0a p1b) FUEL 0) (fun r => some r) (fun s4 => some true)))) else (some false)) else (some false)
def m_w_toIntS_l0 (p0a : List Int) (s3 : (List Int) × Int) : Option (Out (List Int) ((List Int) × Int)) :=
  if decide (s3.2 < (p0a.length : Int)) then ((getI p0a s3.2).bind fun x6 => (getI s3.1 s3.2).bind fun x7 => some (.nxt (s3.1.set s3.2.toNat x6, IntKind.i64.wrap (s3.2 + 1)))) else (some (.brk (s3.1, s3.2)))
def m_w_toIntS (p0a : List Int) : Option (List Int) :=
  (mkI 8 (p0a.length : Int) (0 : Int)).bind fun x1 => bindL (loopM (m_w_toIntS_l0 p0a) FUEL (x1, 0)) (fun _ => none) (fun s4 => some s4.1)
def m_w_toEdge (p0a : Int × Int × Int × Int) : Option (Int × Int × Int × Int) :=
  some (p0a.1, p0a.2.1, p0a.2.2.1, p0a.2.2.2)
def m_w_toEdgeS_l0 (p0a : List (Int × Int × Int × Int)) (s3 : (List (Int × Int × Int × Int)) × Int) : Option (Out (List (Int × Int × Int × Int)) ((List (Int × Int × Int × Int)) × Int)) :=
  if decide (s3.2 < (p0a.length : Int)) then ((getI p0a s3.2).bind fun x6 => (m_w_toEdge (x6.1, x6.2.1, x6.2.2.1, x6.2.2.2)).bind fun r3 => (getI s3.1 s3.2).bind fun x7 => some (.nxt (s3.1.set s3.2.toNat (r3.1, r3.2.1, r3.2.2.1, r3.2.2.2), IntKind.i64.wrap (s3.2 + 1)))) else (some (.brk (s3.1, s3.2)))
def m_w_toEdgeS (p0a : List (Int × Int × Int × Int)) : Option (List (Int × Int × Int × Int)) :=
  (mkI 32 (p0a.length : Int) ((0, 0, 0, 0) : Int × Int × Int × Int)).bind fun x1 => bindL (loopM (m_w_toEdgeS_l0 p0a) FUEL (x1, 0)) (fun _ => none) (fun s4 => some s4.1)
def m_w_toGraph (p0a : (List Int) × (List (Int × Int × Int × Int))) : Option ((List Int) × (List (Int × Int × Int × Int))) :=
  (m_w_toIntS p0a.1).bind fun r1 => (m_w_toEdgeS p0a.2).bind fun r2 => some (r1, r2)
def m_w_toGraphS_l0 (p0a : List ((List Int) × (List (Int × Int × Int × Int)))) (s3 : (List ((List Int) × (List (Int × Int × Int × Int)))) × Int) : Option (Out (List ((List Int) × (List (Int × Int × Int × Int)))) ((List ((List Int) × (List (Int × Int × Int × Int)))) × Int)) :=
  if decide (s3.2 < (p0a.length : Int)) then ((getI p0a s3.2).bind fun x6 => (m_w_toGraph (x6.1, x6.2)).bind fun r9 => (getI s3.1 s3.2).bind fun x7 => some (.nxt (s3.1.set s3.2.toNat (r9.1, r9.2), IntKind.i64.wrap (s3.2 + 1)))) else (some (.brk (s3.1, s3.2)))
def m_w_toGraphS (p0a : List ((List Int) × (List (Int × Int × Int × Int)))) : Option (List ((List Int) × (List (Int × Int × Int × Int)))) :=
  (mkI 48 (p0a.length : Int) (([], []) : (List Int) × (List (Int × Int × Int × Int)))).bind fun x1 => bindL (loopM (m_w_toGraphS_l0 p0a) FUEL (x1, 0)) (fun _ => none) (fun s4 => some s4.1)
def m_w_toHistory (p0a : Int × (List ((List Int) × (List (Int × Int × Int × Int))))) : Option (Int × (List ((List Int) × (List (Int × Int × Int × Int))))) :=
  (m_w_toGraphS p0a.2).bind fun r1 => some (p0a.1, r1)
def m_w_toBoolS_l0 (p0a : List Bool) (s3 : (List Bool) × Int) : Option (Out (List Bool) ((List Bool) × Int)) :=
  if decide (s3.2 < (p0a.length : Int)) then ((getI p0a s3.2).bind fun x6 => (getI s3.1 s3.2).bind fun x7 => some (.nxt (s3.1.set s3.2.toNat x6, IntKind.i64.wrap (s3.2 + 1)))) else (some (.brk (s3.1, s3.2)))
def m_w_toBoolS (p0a : List Bool) : Option (List Bool) :=
  (mkI 1 (p0a.length : Int) (false : Bool)).bind fun x1 => bindL (loopM (m_w_toBoolS_l0 p0a) FUEL (x1, 0)) (fun _ => none) (fun s4 => some s4.1)
def m_w_toIntSS_l0 (p0a : List (List Int)) (s3 : (List (List Int)) × Int) : Option (Out (List (List Int)) ((List (List Int)) × Int)) :=
  if decide (s3.2 < (p0a.length : Int)) then ((getI p0a s3.2).bind fun x6 => (m_w_toIntS x6).bind fun r6 => (getI s3.1 s3.2).bind fun x7 => some (.nxt (s3.1.set s3.2.toNat r6, IntKind.i64.wrap (s3.2 + 1)))) else (some (.brk (s3.1, s3.2)))
def m_w_toIntSS (p0a : List (List Int)) : Option (List (List Int)) :=
  (mkI 24 (p0a.length : Int) ([] : List Int)).bind fun x1 => bindL (loopM (m_w_toIntSS_l0 p0a) FUEL (x1, 0)) (fun _ => none) (fun s4 => some s4.1)
def m_w_toAutomaton (p0a : Int × (List Bool) × (List (List Int))) : Option (Int × (List Bool) × (List (List Int))) :=
  (m_w_toBoolS p0a.2.1).bind fun r1 => (m_w_toIntSS p0a.2.2).bind fun r2 => some (p0a.1, r1, r2)
def m_w_toAutomatonS_l0 (p0a : List (Int × (List Bool) × (List (List Int)))) (s3 : (List (Int × (List Bool) × (List (List Int)))) × Int) : Option (Out (List (Int × (List Bool) × (List (List Int)))) ((List (Int × (List Bool) × (List (List Int)))) × Int)) :=
  if decide (s3.2 < (p0a.length : Int)) then ((getI p0a s3.2).bind fun x6 => (m_w_toAutomaton (x6.1, x6.2.1, x6.2.2)).bind fun r9 => (getI s3.1 s3.2).bind fun x7 => some (.nxt (s3.1.set s3.2.toNat (r9.1, r9.2.1, r9.2.2), IntKind.i64.wrap (s3.2 + 1)))) else (some (.brk (s3.1, s3.2)))
def m_w_toAutomatonS (p0a : List (Int × (List Bool) × (List (List Int)))) : Option (List (Int × (List Bool) × (List (List Int)))) :=
  (mkI 56 (p0a.length : Int) ((0, [], []) : Int × (List Bool) × (List (List Int)))).bind fun x1 => bindL (loopM (m_w_toAutomatonS_l0 p0a) FUEL (x1, 0)) (fun _ => none) (fun s4 => some s4.1)
def m_w_toToken (p0a : Int × Int × Int × Int) : Option (Int × Int × Int × Int) :=
  some (p0a.1, p0a.2.1, p0a.2.2.1, p0a.2.2.2)
def m_w_toTokenS_l0 (p0a : List (Int × Int × Int × Int)) (s3 : (List (Int × Int × Int × Int)) × Int) : Option (Out (List (Int × Int × Int × Int)) ((List (Int × Int × Int × Int)) × Int)) :=
  if decide (s3.2 < (p0a.length : Int)) then ((getI p0a s3.2).bind fun x6 => (m_w_toToken (x6.1, x6.2.1, x6.2.2.1, x6.2.2.2)).bind fun r3 => (getI s3.1 s3.2).bind fun x7 => some (.nxt (s3.1.set s3.2.toNat (r3.1, r3.2.1, r3.2.2.1, r3.2.2.2), IntKind.i64.wrap (s3.2 + 1)))) else (some (.brk (s3.1, s3.2)))
def m_w_toTokenS (p0a : List (Int × Int × Int × Int)) : Option (List (Int × Int × Int × Int)) :=
  (mkI 32 (p0a.length : Int) ((0, 0, 0, 0) : Int × Int × Int × Int)).bind fun x1 => bindL (loopM (m_w_toTokenS_l0 p0a) FUEL (x1, 0)) (fun _ => none) (fun s4 => some s4.1)
def m_w_toExpr (p0a : (List (Int × Int × Int × Int))) : Option (List (Int × Int × Int × Int)) :=
  (m_w_toTokenS p0a).bind fun r1 => some r1
def m_w_toRegistered (p0a : Int × ((List (Int × Int × Int × Int))) × Int) : Option (Int × ((List (Int × Int × Int × Int))) × Int) :=
  (m_w_toExpr p0a.2.1).bind fun r1 => some (p0a.1, r1, p0a.2.2)
def m_w_toRegisteredS_l0 (p0a : List (Int × ((List (Int × Int × Int × Int))) × Int)) (s3 : (List (Int × ((List (Int × Int × Int × Int))) × Int)) × Int) : Option (Out (List (Int × ((List (Int × Int × Int × Int))) × Int)) ((List (Int × ((List (Int × Int × Int × Int))) × Int)) × Int)) :=
  if decide (s3.2 < (p0a.length : Int)) then ((getI p0a s3.2).bind fun x6 => (m_w_toRegistered (x6.1, x6.2.1, x6.2.2)).bind fun r6 => (getI s3.1 s3.2).bind fun x7 => some (.nxt (s3.1.set s3.2.toNat (r6.1, r6.2.1, r6.2.2), IntKind.i64.wrap (s3.2 + 1)))) else (some (.brk (s3.1, s3.2)))
def m_w_toRegisteredS (p0a : List (Int × ((List (Int × Int × Int × Int))) × Int)) : Option (List (Int × ((List (Int × Int × Int × Int))) × Int)) :=
  (mkI 40 (p0a.length : Int) ((0, [], 0) : Int × ((List (Int × Int × Int × Int))) × Int)).bind fun x1 => bindL (loopM (m_w_toRegisteredS_l0 p0a) FUEL (x1, 0)) (fun _ => none) (fun s4 => some s4.1)
def m_w_toRegistry (p0a : (List (Int × (List Bool) × (List (List Int)))) × (List (Int × ((List (Int × Int × Int × Int))) × Int))) : Option ((List (Int × (List Bool) × (List (List Int)))) × (List (Int × ((List (Int × Int × Int × Int))) × Int))) :=
  (m_w_toAutomatonS p0a.1).bind fun r1 => (m_w_toRegisteredS p0a.2).bind fun r2 => some (r1, r2)
def m_w_toSubscriber (p0a : Int × Int × Int) : Option (Int × Int × Int) :=
  some (p0a.1, p0a.2.1, p0a.2.2)
def m_w_toSubscriberS_l0 (p0a : List (Int × Int × Int)) (s3 : (List (Int × Int × Int)) × Int) : Option (Out (List (Int × Int × Int)) ((List (Int × Int × Int)) × Int)) :=
  if decide (s3.2 < (p0a.length : Int)) then ((getI p0a s3.2).bind fun x6 => (m_w_toSubscriber (x6.1, x6.2.1, x6.2.2)).bind fun r3 => (getI s3.1 s3.2).bind fun x7 => some (.nxt (s3.1.set s3.2.toNat (r3.1, r3.2.1, r3.2.2), IntKind.i64.wrap (s3.2 + 1)))) else (some (.brk (s3.1, s3.2)))
def m_w_toSubscriberS (p0a : List (Int × Int × Int)) : Option (List (Int × Int × Int)) :=
  (mkI 24 (p0a.length : Int) ((0, 0, 0) : Int × Int × Int)).bind fun x1 => bindL (loopM (m_w_toSubscriberS_l0 p0a) FUEL (x1, 0)) (fun _ => none) (fun s4 => some s4.1)
def m_w_toEngine (p0a : (Int × (List ((List Int) × (List (Int × Int × Int × Int))))) × ((List (Int × (List Bool) × (List (List Int)))) × (List (Int × ((List (Int × Int × Int × Int))) × Int))) × (List (Int × Int × Int)) × ByteArray) : Option ((Int × (List ((List Int) × (List (Int × Int × Int × Int))))) × ((List (Int × (List Bool) × (List (List Int)))) × (List (Int × ((List (Int × Int × Int × Int))) × Int))) × (List (Int × Int × Int)) × ByteArray) :=
  (m_w_toHistory (p0a.1.1, p0a.1.2)).bind fun r1 => (m_w_toRegistry (p0a.2.1.1, p0a.2.1.2)).bind fun r2 => (m_w_toSubscriberS p0a.2.2.1).bind fun r3 => some ((r1.1, r1.2), (r2.1, r2.2), r3, p0a.2.2.2)
def m_g_slices_EqualFunc_S_Graph_S_Graph_Graph_Graph_l0 (p0s1 : List ((List Int) × (List (Int × Int × Int × Int)))) (p1s2 : List ((List Int) × (List (Int × Int × Int × Int)))) (p2eq : ((List Int) × (List (Int × Int × Int × Int))) → ((List Int) × (List (Int × Int × Int × Int))) → Option Bool) (s3 : Int) : Option (Out Bool Int) :=
  if decide (s3 < (p0s1.length : Int)) then ((getI p0s1 s3).bind fun x5 => (getI p1s2 s3).bind fun x6 => (p2eq (x5.1, x5.2) (x6.1, x6.2)).bind fun r15 => if r15 then (some (.nxt (IntKind.i64.wrap (s3 + 1)))) else (some (.ret false))) else (some (.brk s3))
def m_g_slices_EqualFunc_S_Graph_S_Graph_Graph_Graph (p0s1 : List ((List Int) × (List (Int × Int × Int × Int)))) (p1s2 : List ((List Int) × (List (Int × Int × Int × Int)))) (p2eq : ((List Int) × (List (Int × Int × Int × Int))) → ((List Int) × (List (Int × Int × Int × Int))) → Option Bool) : Option Bool :=
  if (p0s1.length : Int) != (p1s2.length : Int) then (some false) else (bindL (loopM (m_g_slices_EqualFunc_S_Graph_S_Graph_Graph_Graph_l0 p0s1 p1s2 p2eq) FUEL 0) (fun r => some r) (fun s4 => some true))
def m_g_slices_Equal_S_int_int_l0 (p0s1 : List Int) (p1s2 : List Int) (s3 : Int) : Option (Out Bool Int) :=
  if decide (s3 < (p0s1.length : Int)) then ((getI p0s1 s3).bind fun x5 => (getI p1s2 s3).bind fun x6 => if x5 != x6 then (some (.ret false)) else (some (.nxt (IntKind.i64.wrap (s3 + 1))))) else (some (.brk s3))
def m_g_slices_Equal_S_int_int (p0s1 : List Int) (p1s2 : List Int) : Option Bool :=
  if (p0s1.length : Int) != (p1s2.length : Int) then (some false) else (bindL (loopM (m_g_slices_Equal_S_int_int_l0 p0s1 p1s2) FUEL 0) (fun r => some r) (fun s4 => some true))
def m_g_slices_Equal_S_Edge_Edge_l0 (p0s1 : List (Int × Int × Int × Int)) (p1s2 : List (Int × Int × Int × Int)) (s3 : Int) : Option (Out Bool Int) :=
  if decide (s3 < (p0s1.length : Int)) then ((getI p0s1 s3).bind fun x5 => (getI p1s2 s3).bind fun x6 => if (x5.1 == x6.1) && ((x5.2.1 == x6.2.1) && ((x5.2.2.1 == x6.2.2.1) && ((x5.2.2.2 == x6.2.2.2) && true))) then (some (.nxt (IntKind.i64.wrap (s3 + 1)))) else (some (.ret false))) else (some (.brk s3))
def m_g_slices_Equal_S_Edge_Edge (p0s1 : List (Int × Int × Int × Int)) (p1s2 : List (Int × Int × Int × Int)) : Option Bool :=
  if (p0s1.length : Int) != (p1s2.length : Int) then (some false) else (bindL (loopM (m_g_slices_Equal_S_Edge_Edge_l0 p0s1 p1s2) FUEL 0) (fun r => some r) (fun s4 => some true))
def m_i_EqualGraphs (p0a : (List Int) × (List (Int × Int × Int × Int))) (p1b : (List Int) × (List (Int × Int × Int × Int))) : Option Bool :=
  (m_g_slices_Equal_S_int_int p0a.1 p1b.1).bind fun r1 => if r1 then ((m_g_slices_Equal_S_Edge_Edge p0a.2 p1b.2).bind fun r2 => some r2) else (some false)
def m_i_EqualHistories (p0a : Int × (List ((List Int) × (List (Int × Int × Int × Int))))) (p1b : Int × (List ((List Int) × (List (Int × Int × Int × Int))))) : Option Bool :=
  if p0a.1 == p1b.1 then ((m_g_slices_EqualFunc_S_Graph_S_Graph_Graph_Graph p0a.2 p1b.2 (fun a0 a1 => m_i_EqualGraphs a0 a1)).bind fun r1 => some r1) else (some false)
def m_g_slices_Equal_S_bool_bool_l0 (p0s1 : List Bool) (p1s2 : List Bool) (s3 : Int) : Option (Out Bool Int) :=
  if decide (s3 < (p0s1.length : Int)) then ((getI p0s1 s3).bind fun x5 => (getI p1s2 s3).bind fun x6 => if x5 != x6 then (some (.ret false)) else (some (.nxt (IntKind.i64.wrap (s3 + 1))))) else (some (.brk s3))
def m_g_slices_Equal_S_bool_bool (p0s1 : List Bool) (p1s2 : List Bool) : Option Bool :=
  if (p0s1.length : Int) != (p1s2.length : Int) then (some false) else (bindL (loopM (m_g_slices_Equal_S_bool_bool_l0 p0s1 p1s2) FUEL 0) (fun r => some r) (fun s4 => some true))
def m_g_slices_EqualFunc_S_S_int_S_S_int_S_int_S_int_l0 (p0s1 : List (List Int)) (p1s2 : List (List Int)) (p2eq : (List Int) → (List Int) → Option Bool) (s3 : Int) : Option (Out Bool Int) :=
  if decide (s3 < (p0s1.length : Int)) then ((getI p0s1 s3).bind fun x5 => (getI p1s2 s3).bind fun x6 => (p2eq x5 x6).bind fun r9 => if r9 then (some (.nxt (IntKind.i64.wrap (s3 + 1)))) else (some (.ret false))) else (some (.brk s3))
def m_g_slices_EqualFunc_S_S_int_S_S_int_S_int_S_int (p0s1 : List (List Int)) (p1s2 : List (List Int)) (p2eq : (List Int) → (List Int) → Option Bool) : Option Bool :=
  if (p0s1.length : Int) != (p1s2.length : Int) then (some false) else (bindL (loopM (m_g_slices_EqualFunc_S_S_int_S_S_int_S_int_S_int_l0 p0s1 p1s2 p2eq) FUEL 0) (fun r => some r) (fun s4 => some true))
def m_i_EqualAutomata_1 (p0x : List Int) (p1y : List Int) : Option Bool :=
  (m_g_slices_Equal_S_int_int p0x p1y).bind fun r1 => some r1
def m_i_EqualAutomata (p0a : Int × (List Bool) × (List (List Int))) (p1b : Int × (List Bool) × (List (List Int))) : Option Bool :=
  if p0a.1 == p1b.1 then ((m_g_slices_Equal_S_bool_bool p0a.2.1 p1b.2.1).bind fun r1 => if r1 then ((m_g_slices_EqualFunc_S_S_int_S_S_int_S_int_S_int p0a.2.2 p1b.2.2 (fun a0 a1 => m_i_EqualAutomata_1 a0 a1)).bind fun r2 => some r2) else (some false)) else (some false)
def m_g_slices_EqualFunc_S_Automaton_S_Automaton_Automaton_Automaton_l0 (p0s1 : List (Int × (List Bool) × (List (List Int)))) (p1s2 : List (Int × (List Bool) × (List (List Int)))) (p2eq : (Int × (List Bool) × (List (List Int))) → (Int × (List Bool) × (List (List Int))) → Option Bool) (s3 : Int) : Option (Out Bool Int) :=
  if decide (s3 < (p0s1.length : Int)) then ((getI p0s1 s3).bind fun x5 => (getI p1s2 s3).bind fun x6 => (p2eq (x5.1, x5.2.1, x5.2.2) (x6.1, x6.2.1, x6.2.2)).bind fun r15 => if r15 then (some (.nxt (IntKind.i64.wrap (s3 + 1)))) else (some (.ret false))) else (some (.brk s3))
def m_g_slices_EqualFunc_S_Automaton_S_Automaton_Automaton_Automaton (p0s1 : List (Int × (List Bool) × (List (List Int)))) (p1s2 : List (Int × (List Bool) × (List (List Int)))) (p2eq : (Int × (List Bool) × (List (List Int))) → (Int × (List Bool) × (List (List Int))) → Option Bool) : Option Bool :=
  if (p0s1.length : Int) != (p1s2.length : Int) then (some false) else (bindL (loopM (m_g_slices_EqualFunc_S_Automaton_S_Automaton_Automaton_Automaton_l0 p0s1 p1s2 p2eq) FUEL 0) (fun r => some r) (fun s4 => some true))
def m_g_slices_EqualFunc_S_Registered_S_Registered_Registered_Registered_l0 (p0s1 : List (Int × ((List (Int × Int × Int × Int))) × Int)) (p1s2 : List (Int × ((List (Int × Int × Int × Int))) × Int)) (p2eq : (Int × ((List (Int × Int × Int × Int))) × Int) → (Int × ((List (Int × Int × Int × Int))) × Int) → Option Bool) (s3 : Int) : Option (Out Bool Int) :=
  if decide (s3 < (p0s1.length : Int)) then ((getI p0s1 s3).bind fun x5 => (getI p1s2 s3).bind fun x6 => (p2eq (x5.1, x5.2.1, x5.2.2) (x6.1, x6.2.1, x6.2.2)).bind fun r9 => if r9 then (some (.nxt (IntKind.i64.wrap (s3 + 1)))) else (some (.ret false))) else (some (.brk s3))
def m_g_slices_EqualFunc_S_Registered_S_Registered_Registered_Registered (p0s1 : List (Int × ((List (Int × Int × Int × Int))) × Int)) (p1s2 : List (Int × ((List (Int × Int × Int × Int))) × Int)) (p2eq : (Int × ((List (Int × Int × Int × Int))) × Int) → (Int × ((List (Int × Int × Int × Int))) × Int) → Option Bool) : Option Bool :=
  if (p0s1.length : Int) != (p1s2.length : Int) then (some false) else (bindL (loopM (m_g_slices_EqualFunc_S_Registered_S_Registered_Registered_Registered_l0 p0s1 p1s2 p2eq) FUEL 0) (fun r => some r) (fun s4 => some true))
def m_g_slices_Equal_S_Token_Token_l0 (p0s1 : List (Int × Int × Int × Int)) (p1s2 : List (Int × Int × Int × Int)) (s3 : Int) : Option (Out Bool Int) :=
  if decide (s3 < (p0s1.length : Int)) then ((getI p0s1 s3).bind fun x5 => (getI p1s2 s3).bind fun x6 => if (x5.1 == x6.1) && ((x5.2.1 == x6.2.1) && ((x5.2.2.1 == x6.2.2.1) && ((x5.2.2.2 == x6.2.2.2) && true))) then (some (.nxt (IntKind.i64.wrap (s3 + 1)))) else (some (.ret false))) else (some (.brk s3))
def m_g_slices_Equal_S_Token_Token (p0s1 : List (Int × Int × Int × Int)) (p1s2 : List (Int × Int × Int × Int)) : Option Bool :=
  if (p0s1.length : Int) != (p1s2.length : Int) then (some false) else (bindL (loopM (m_g_slices_Equal_S_Token_Token_l0 p0s1 p1s2) FUEL 0) (fun r => some r) (fun s4 => some true))
def m_i_EqualExprs (p0a : (List (Int × Int × Int × Int))) (p1b : (List (Int × Int × Int × Int))) : Option Bool :=
  (m_g_slices_Equal_S_Token_Token p0a p1b).bind fun r1 => some r1
def m_i_equalQueries (p0a : Int × ((List (Int × Int × Int × Int))) × Int) (p1b : Int × ((List (Int × Int × Int × Int))) × Int) : Option Bool :=
  if p0a.1 == p1b.1 then ((m_i_EqualExprs p0a.2.1 p1b.2.1).bind fun r1 => if r1 then (some (p0a.2.2 == p1b.2.2)) else (some false)) else (some false)
def m_i_EqualRegistries (p0a : (List (Int × (List Bool) × (List (List Int)))) × (List (Int × ((List (Int × Int × Int × Int))) × Int))) (p1b : (List (Int × (List Bool) × (List (List Int)))) × (List (Int × ((List (Int × Int × Int × Int))) × Int))) : Option Bool :=
  (m_g_slices_EqualFunc_S_Automaton_S_Automaton_Automaton_Automaton p0a.1 p1b.1 (fun a0 a1 => m_i_EqualAutomata a0 a1)).bind fun r1 => if r1 then ((m_g_slices_EqualFunc_S_Registered_S_Registered_Registered_Registered p0a.2 p1b.2 (fun a0 a1 => m_i_equalQueries a0 a1)).bind fun r2 => some r2) else (some false)
def m_g_slices_Equal_S_Subscriber_Subscriber_l0 (p0s1 : List (Int × Int × Int)) (p1s2 : List (Int × Int × Int)) (s3 : Int) : Option (Out Bool Int) :=
  if decide (s3 < (p0s1.length : Int)) then ((getI p0s1 s3).bind fun x5 => (getI p1s2 s3).bind fun x6 => if (x5.1 == x6.1) && ((x5.2.1 == x6.2.1) && ((x5.2.2 == x6.2.2) && true)) then (some (.nxt (IntKind.i64.wrap (s3 + 1)))) else (some (.ret false))) else (some (.brk s3))
def m_g_slices_Equal_S_Subscriber_Subscriber (p0s1 : List (Int × Int × Int)) (p1s2 : List (Int × Int × Int)) : Option Bool :=
  if (p0s1.length : Int) != (p1s2.length : Int) then (some false) else (bindL (loopM (m_g_slices_Equal_S_Subscriber_Subscriber_l0 p0s1 p1s2) FUEL 0) (fun r => some r) (fun s4 => some true))
def m_i_EqualEngines (p0a : (Int × (List ((List Int) × (List (Int × Int × Int × Int))))) × ((List (Int × (List Bool) × (List (List Int)))) × (List (Int × ((List (Int × Int × Int × Int))) × Int))) × (List (Int × Int × Int)) × ByteArray) (p1b : (Int × (List ((List Int) × (List (Int × Int × Int × Int))))) × ((List (Int × (List Bool) × (List (List Int)))) × (List (Int × ((List (Int × Int × Int × Int))) × Int))) × (List (Int × Int × Int)) × ByteArray) : Option Bool :=
  (m_i_EqualHistories (p0a.1.1, p0a.1.2) (p1b.1.1, p1b.1.2)).bind fun r1 => if r1 then ((m_i_EqualRegistries (p0a.2.1.1, p0a.2.1.2) (p1b.2.1.1, p1b.2.1.2)).bind fun r2 => if r2 then ((m_g_slices_Equal_S_Subscriber_Subscriber p0a.2.2.1 p1b.2.2.1).bind fun r3 => if r3 then (some (p0a.2.2.2 == p1b.2.2.2)) else (some false)) else (some false)) else (some false)
def m_w_eqIntS_l0 (p0a : List Int) (p1b : List Int) (s3 : Int) : Option (Out Bool Int) :=
  if decide (s3 < (p0a.length : Int)) then ((getI p0a s3).bind fun x5 => (getI p1b s3).bind fun x6 => if x5 != x6 then (some (.ret false)) else (some (.nxt (IntKind.i64.wrap (s3 + 1))))) else (some (.brk s3))
def m_w_eqIntS (p0a : List Int) (p1b : List Int) : Option Bool :=
  if (p0a.length : Int) != (p1b.length : Int) then (some false) else (bindL (loopM (m_w_eqIntS_l0 p0a p1b) FUEL 0) (fun r => some r) (fun s4 => some true))
def m_w_eqEdge (p0a : Int × Int × Int × Int) (p1b : Int × Int × Int × Int) : Option Bool :=
  if p0a.1 != p1b.1 then (some false) else (if p0a.2.1 != p1b.2.1 then (some false) else (if p0a.2.2.1 != p1b.2.2.1 then (some false) else (if p0a.2.2.2 != p1b.2.2.2 then (some false) else (some true))))
def m_w_eqEdgeS_l0 (p0a : List (Int × Int × Int × Int)) (p1b : List (Int × Int × Int × Int)) (s3 : Int) : Option (Out Bool Int) :=
  if decide (s3 < (p0a.length : Int)) then ((getI p0a s3).bind fun x5 => (getI p1b s3).bind fun x6 => (m_w_eqEdge (x5.1, x5.2.1, x5.2.2.1, x5.2.2.2) (x6.1, x6.2.1, x6.2.2.1, x6.2.2.2)).bind fun r3 => if r3 then (some (.nxt (IntKind.i64.wrap (s3 + 1)))) else (some (.ret false))) else (some (.brk s3))
def m_w_eqEdgeS (p0a : List (Int × Int × Int × Int)) (p1b : List (Int × Int × Int × Int)) : Option Bool :=
  if (p0a.length : Int) != (p1b.length : Int) then (some false) else (bindL (loopM (m_w_eqEdgeS_l0 p0a p1b) FUEL 0) (fun r => some r) (fun s4 => some true))
def m_w_eqGraph (p0a : (List Int) × (List (Int × Int × Int × Int))) (p1b : (List Int) × (List (Int × Int × Int × Int))) : Option Bool :=
  (m_w_eqIntS p0a.1 p1b.1).bind fun r1 => if r1 then ((m_w_eqEdgeS p0a.2 p1b.2).bind fun r2 => if r2 then (some true) else (some false)) else (some false)
def m_w_eqGraphS_l0 (p0a : List ((List Int) × (List (Int × Int × Int × Int)))) (p1b : List ((List Int) × (List (Int × Int × Int × Int)))) (s3 : Int) : Option (Out Bool Int) :=
  if decide (s3 < (p0a.length : Int)) then ((getI p0a s3).bind fun x5 => (getI p1b s3).bind fun x6 => (m_w_eqGraph (x5.1, x5.2) (x6.1, x6.2)).bind fun r15 => if r15 then (some (.nxt (IntKind.i64.wrap (s3 + 1)))) else (some (.ret false))) else (some (.brk s3))
def m_w_eqGraphS (p0a : List ((List Int) × (List (Int × Int × Int × Int)))) (p1b : List ((List Int) × (List (Int × Int × Int × Int)))) : Option Bool :=
  if (p0a.length : Int) != (p1b.length : Int) then (some false) else (bindL (loopM (m_w_eqGraphS_l0 p0a p1b) FUEL 0) (fun r => some r) (fun s4 => some true))
def m_w_eqHistory (p0a : Int × (List ((List Int) × (List (Int × Int × Int × Int))))) (p1b : Int × (List ((List Int) × (List (Int × Int × Int × Int))))) : Option Bool :=
  if p0a.1 != p1b.1 then (some false) else ((m_w_eqGraphS p0a.2 p1b.2).bind fun r1 => if r1 then (some true) else (some false))
def m_w_eqBoolS_l0 (p0a : List Bool) (p1b : List Bool) (s3 : Int) : Option (Out Bool Int) :=
  if decide (s3 < (p0a.length : Int)) then ((getI p0a s3).bind fun x5 => (getI p1b s3).bind fun x6 => if x5 != x6 then (some (.ret false)) else (some (.nxt (IntKind.i64.wrap (s3 + 1))))) else (some (.brk s3))
def m_w_eqBoolS (p0a : List Bool) (p1b : List Bool) : Option Bool :=
  if (p0a.length : Int) != (p1b.length : Int) then (some false) else (bindL (loopM (m_w_eqBoolS_l0 p0a p1b) FUEL 0) (fun r => some r) (fun s4 => some true))
def m_w_eqIntSS_l0 (p0a : List (List Int)) (p1b : List (List Int)) (s3 : Int) : Option (Out Bool Int) :=
  if decide (s3 < (p0a.length : Int)) then ((getI p0a s3).bind fun x5 => (getI p1b s3).bind fun x6 => (m_w_eqIntS x5 x6).bind fun r9 => if r9 then (some (.nxt (IntKind.i64.wrap (s3 + 1)))) else (some (.ret false))) else (some (.brk s3))
def m_w_eqIntSS (p0a : List (List Int)) (p1b : List (List Int)) : Option Bool :=
  if (p0a.length : Int) != (p1b.length : Int) then (some false) else (bindL (loopM (m_w_eqIntSS_l0 p0a p1b) FUEL 0) (fun r => some r) (fun s4 => some true))
def m_w_eqAutomaton (p0a : Int × (List Bool) × (List (List Int))) (p1b : Int × (List Bool) × (List (List Int))) : Option Bool :=
  if p0a.1 != p1b.1 then (some false) else ((m_w_eqBoolS p0a.2.1 p1b.2.1).bind fun r1 => if r1 then ((m_w_eqIntSS p0a.2.2 p1b.2.2).bind fun r2 => if r2 then (some true) else (some false)) else (some false))
def m_w_eqAutomatonS_l0 (p0a : List (Int × (List Bool) × (List (List Int)))) (p1b : List (Int × (List Bool) × (List (List Int)))) (s3 : Int) : Option (Out Bool Int) :=
  if decide (s3 < (p0a.length : Int)) then ((getI p0a s3).bind fun x5 => (getI p1b s3).bind fun x6 => (m_w_eqAutomaton (x5.1, x5.2.1, x5.2.2) (x6.1, x6.2.1, x6.2.2)).bind fun r15 => if r15 then (some (.nxt (IntKind.i64.wrap (s3 + 1)))) else (some (.ret false))) else (some (.brk s3))
def m_w_eqAutomatonS (p0a : List (Int × (List Bool) × (List (List Int)))) (p1b : List (Int × (List Bool) × (List (List Int)))) : Option Bool :=
  if (p0a.length : Int) != (p1b.length : Int) then (some false) else (bindL (loopM (m_w_eqAutomatonS_l0 p0a p1b) FUEL 0) (fun r => some r) (fun s4 => some true))
def m_w_eqToken (p0a : Int × Int × Int × Int) (p1b : Int × Int × Int × Int) : Option Bool :=
  if p0a.1 != p1b.1 then (some false) else (if p0a.2.1 != p1b.2.1 then (some false) else (if p0a.2.2.1 != p1b.2.2.1 then (some false) else (if p0a.2.2.2 != p1b.2.2.2 then (some false) else (some true))))
def m_w_eqTokenS_l0 (p0a : List (Int × Int × Int × Int)) (p1b : List (Int × Int × Int × Int)) (s3 : Int) : Option (Out Bool Int) :=
  if decide (s3 < (p0a.length : Int)) then ((getI p0a s3).bind fun x5 => (getI p1b s3).bind fun x6 => (m_w_eqToken (x5.1, x5.2.1, x5.2.2.1, x5.2.2.2) (x6.1, x6.2.1, x6.2.2.1, x6.2.2.2)).bind fun r3 => if r3 then (some (.nxt (IntKind.i64.wrap (s3 + 1)))) else (some (.ret false))) else (some (.brk s3))
def m_w_eqTokenS (p0a : List (Int × Int × Int × Int)) (p1b : List (Int × Int × Int × Int)) : Option Bool :=
  if (p0a.length : Int) != (p1b.length : Int) then (some false) else (bindL (loopM (m_w_eqTokenS_l0 p0a p1b) FUEL 0) (fun r => some r) (fun s4 => some true))
def m_w_eqExpr (p0a : (List (Int × Int × Int × Int))) (p1b : (List (Int × Int × Int × Int))) : Option Bool :=
  (m_w_eqTokenS p0a p1b).bind fun r1 => if r1 then (some true) else (some false)
def m_w_eqRegistered (p0a : Int × ((List (Int × Int × Int × Int))) × Int) (p1b : Int × ((List (Int × Int × Int × Int))) × Int) : Option Bool :=
  if p0a.1 != p1b.1 then (some false) else ((m_w_eqExpr p0a.2.1 p1b.2.1).bind fun r1 => if r1 then (if p0a.2.2 != p1b.2.2 then (some false) else (some true)) else (some false))
def m_w_eqRegisteredS_l0 (p0a : List (Int × ((List (Int × Int × Int × Int))) × Int)) (p1b : List (Int × ((List (Int × Int × Int × Int))) × Int)) (s3 : Int) : Option (Out Bool Int) :=
  if decide (s3 < (p0a.length : Int)) then ((getI p0a s3).bind fun x5 => (getI p1b s3).bind fun x6 => (m_w_eqRegistered (x5.1, x5.2.1, x5.2.2) (x6.1, x6.2.1, x6.2.2)).bind fun r9 => if r9 then (some (.nxt (IntKind.i64.wrap (s3 + 1)))) else (some (.ret false))) else (some (.brk s3))
def m_w_eqRegisteredS (p0a : List (Int × ((List (Int × Int × Int × Int))) × Int)) (p1b : List (Int × ((List (Int × Int × Int × Int))) × Int)) : Option Bool :=
  if (p0a.length : Int) != (p1b.length : Int) then (some false) else (bindL (loopM (m_w_eqRegisteredS_l0 p0a p1b) FUEL 0) (fun r => some r) (fun s4 => some true))
def m_w_eqRegistry (p0a : (List (Int × (List Bool) × (List (List Int)))) × (List (Int × ((List (Int × Int × Int × Int))) × Int))) (p1b : (List (Int × (List Bool) × (List (List Int)))) × (List (Int × ((List (Int × Int × Int × Int))) × Int))) : Option Bool :=
  (m_w_eqAutomatonS p0a.1 p1b.1).bind fun r1 => if r1 then ((m_w_eqRegisteredS p0a.2 p1b.2).bind fun r2 => if r2 then (some true) else (some false)) else (some false)
def m_w_eqSubscriber (p0a : Int × Int × Int) (p1b : Int × Int × Int) : Option Bool :=
  if p0a.1 != p1b.1 then (some false) else (if p0a.2.1 != p1b.2.1 then (some false) else (if p0a.2.2 != p1b.2.2 then (some false) else (some true)))
def m_w_eqSubscriberS_l0 (p0a : List (Int × Int × Int)) (p1b : List (Int × Int × Int)) (s3 : Int) : Option (Out Bool Int) :=
  if decide (s3 < (p0a.length : Int)) then ((getI p0a s3).bind fun x5 => (getI p1b s3).bind fun x6 => (m_w_eqSubscriber (x5.1, x5.2.1, x5.2.2) (x6.1, x6.2.1, x6.2.2)).bind fun r3 => if r3 then (some (.nxt (IntKind.i64.wrap (s3 + 1)))) else (some (.ret false))) else (some (.brk s3))
def m_w_eqSubscriberS (p0a : List (Int × Int × Int)) (p1b : List (Int × Int × Int)) : Option Bool :=
  if (p0a.length : Int) != (p1b.length : Int) then (some false) else (bindL (loopM (m_w_eqSubscriberS_l0 p0a p1b) FUEL 0) (fun r => some r) (fun s4 => some true))
def m_w_eqEngine (p0a : (Int × (List ((List Int) × (List (Int × Int × Int × Int))))) × ((List (Int × (List Bool) × (List (List Int)))) × (List (Int × ((List (Int × Int × Int × Int))) × Int))) × (List (Int × Int × Int)) × ByteArray) (p1b : (Int × (List ((List Int) × (List (Int × Int × Int × Int))))) × ((List (Int × (List Bool) × (List (List Int)))) × (List (Int × ((List (Int × Int × Int × Int))) × Int))) × (List (Int × Int × Int)) × ByteArray) : Option Bool :=
  (m_w_eqHistory (p0a.1.1, p0a.1.2) (p1b.1.1, p1b.1.2)).bind fun r1 => if r1 then ((m_w_eqRegistry (p0a.2.1.1, p0a.2.1.2) (p1b.2.1.1, p1b.2.1.2)).bind fun r2 => if r2 then ((m_w_eqSubscriberS p0a.2.2.1 p1b.2.2.1).bind fun r3 => if r3 then (if p0a.2.2.2 != p1b.2.2.2 then (some false) else (some true)) else (some false)) else (some false)) else (some false)
def m_w_FnExactEqualEngines (p0aA : (Int × (List ((List Int) × (List (Int × Int × Int × Int))))) × ((List (Int × (List Bool) × (List (List Int)))) × (List (Int × ((List (Int × Int × Int × Int))) × Int))) × (List (Int × Int × Int)) × ByteArray) (p1aB : (Int × (List ((List Int) × (List (Int × Int × Int × Int))))) × ((List (Int × (List Bool) × (List (List Int)))) × (List (Int × ((List (Int × Int × Int × Int))) × Int))) × (List (Int × Int × Int)) × ByteArray) : Option Bool :=
  (m_w_szEngine ((p0aA.1.1, p0aA.1.2), (p0aA.2.1.1, p0aA.2.1.2), p0aA.2.2.1, p0aA.2.2.2) 1048576).bind fun r1 => if decide (r1 < 0) then (some true) else ((m_w_szEngine ((p1aB.1.1, p1aB.1.2), (p1aB.2.1.1, p1aB.2.1.2), p1aB.2.2.1, p1aB.2.2.2) r1).bind fun r2 => if decide (r2 < 0) then (some true) else ((m_w_toEngine ((p0aA.1.1, p0aA.1.2), (p0aA.2.1.1, p0aA.2.1.2), p0aA.2.2.1, p0aA.2.2.2)).bind fun r3 => (m_w_toEngine ((p1aB.1.1, p1aB.1.2), (p1aB.2.1.1, p1aB.2.1.2), p1aB.2.2.1, p1aB.2.2.2)).bind fun r4 => (m_s_EqualEngines ((r3.1.1, r3.1.2), (r3.2.1.1, r3.2.1.2), r3.2.2.1, r3.2.2.2) ((r4.1.1, r4.1.2), (r4.2.1.1, r4.2.1.2), r4.2.2.1, r4.2.2.2)).bind fun r5 => (m_w_toEngine ((p0aA.1.1, p0aA.1.2), (p0aA.2.1.1, p0aA.2.1.2), p0aA.2.2.1, p0aA.2.2.2)).bind fun r6 => (m_w_toEngine ((p1aB.1.1, p1aB.1.2), (p1aB.2.1.1, p1aB.2.1.2), p1aB.2.2.1, p1aB.2.2.2)).bind fun r7 => (m_i_EqualEngines ((r6.1.1, r6.1.2), (r6.2.1.1, r6.2.1.2), r6.2.2.1, r6.2.2.2) ((r7.1.1, r7.1.2), (r7.2.1.1, r7.2.1.2), r7.2.2.1, r7.2.2.2)).bind fun r8 => if r8 != r5 then (some false) else ((m_w_toEngine ((p0aA.1.1, p0aA.1.2), (p0aA.2.1.1, p0aA.2.1.2), p0aA.2.2.1, p0aA.2.2.2)).bind fun r9 => (m_w_eqEngine ((r6.1.1, r6.1.2), (r6.2.1.1, r6.2.1.2), r6.2.2.1, r6.2.2.2) ((r9.1.1, r9.1.2), (r9.2.1.1, r9.2.1.2), r9.2.2.1, r9.2.2.2)).bind fun r10 => if r10 then ((m_w_toEngine ((p1aB.1.1, p1aB.1.2), (p1aB.2.1.1, p1aB.2.1.2), p1aB.2.2.1, p1aB.2.2.2)).bind fun r11 => (m_w_eqEngine ((r7.1.1, r7.1.2), (r7.2.1.1, r7.2.1.2), r7.2.2.1, r7.2.2.2) ((r11.1.1, r11.1.2), (r11.2.1.1, r11.2.1.2), r11.2.2.1, r11.2.2.2)).bind fun r12 => if r12 then (some true) else (some false)) else (some false))))
theorem ti66 : TI Try.prog 66 true 6 := ⟨⟨_, Try.underlying66, rfl⟩, by kernel_rfl⟩
theorem en39 : Enters Try.prog 39 := enters_of Try.func39 (by kernel_rfl) rfl
theorem en41 : Enters Try.prog 41 := enters_of Try.func41 (by kernel_rfl) rfl
theorem en40 : Enters Try.prog 40 := enters_of Try.func40 (by kernel_rfl) rfl
theorem tz78 : TZ Try.prog 78 (.agg #[.int .i64 0, .slice none 0 0, .slice none 0 0, .slice none 0 0, .slice none 0 0, .string ⟨#[]⟩]) 6 120 := by unfold TZ; kernel_rfl
theorem ti78 : TI Try.prog 78 true 6 := ⟨⟨_, Try.underlying78, rfl⟩, by kernel_rfl⟩
theorem en42 : Enters Try.prog 42 := enters_of Try.func42 (by kernel_rfl) rfl
theorem en43 : Enters Try.prog 43 := enters_of Try.func43 (by kernel_rfl) rfl
theorem tf66_0 : TF Try.prog 66 0 0 1 := ⟨_, _, Try.underlying66, rfl, rfl, by kernel_rfl⟩
theorem ti59 : TI Try.prog 59 true 2 := ⟨⟨_, Try.underlying59, rfl⟩, by kernel_rfl⟩
theorem en78 : Enters Try.prog 78 := enters_of Try.func78 (by kernel_rfl) rfl
theorem tf66_1 : TF Try.prog 66 1 2 1 := ⟨_, _, Try.underlying66, rfl, rfl, by kernel_rfl⟩
theorem ti63 : TI Try.prog 63 true 2 := ⟨⟨_, Try.underlying63, rfl⟩, by kernel_rfl⟩
theorem en79 : Enters Try.prog 79 := enters_of Try.func79 (by kernel_rfl) rfl
theorem tf66_2 : TF Try.prog 66 2 4 0 := ⟨_, _, Try.underlying66, rfl, rfl, by kernel_rfl⟩
theorem ti64 : TI Try.prog 64 false 1 := ⟨⟨_, Try.underlying64, rfl⟩, by kernel_rfl⟩
theorem en80 : Enters Try.prog 80 := enters_of Try.func80 (by kernel_rfl) rfl
theorem tf66_3 : TF Try.prog 66 3 5 0 := ⟨_, _, Try.underlying66, rfl, rfl, by kernel_rfl⟩
theorem ti9 : TI Try.prog 9 false 1 := ⟨⟨_, Try.underlying9, rfl⟩, by kernel_rfl⟩
theorem tf59_1 : TF Try.prog 59 1 1 0 := ⟨_, _, Try.underlying59, rfl, rfl, by kernel_rfl⟩
theorem ti57 : TI Try.prog 57 false 1 := ⟨⟨_, Try.underlying57, rfl⟩, by kernel_rfl⟩
theorem en128 : Enters Try.prog 128 := enters_of Try.func128 (by kernel_rfl) rfl
theorem ti37 : TI Try.prog 37 true 2 := ⟨⟨_, Try.underlying37, rfl⟩, by kernel_rfl⟩
theorem en23 : Enters Try.prog 23 := enters_of Try.func23 (by kernel_rfl) rfl
theorem tf37_0 : TF Try.prog 37 0 0 0 := ⟨_, _, Try.underlying37, rfl, rfl, by kernel_rfl⟩
theorem ti34 : TI Try.prog 34 false 1 := ⟨⟨_, Try.underlying34, rfl⟩, by kernel_rfl⟩
theorem en63 : Enters Try.prog 63 := enters_of Try.func63 (by kernel_rfl) rfl
theorem tf37_1 : TF Try.prog 37 1 1 0 := ⟨_, _, Try.underlying37, rfl, rfl, by kernel_rfl⟩
theorem ti35 : TI Try.prog 35 false 1 := ⟨⟨_, Try.underlying35, rfl⟩, by kernel_rfl⟩
theorem en64 : Enters Try.prog 64 := enters_of Try.func64 (by kernel_rfl) rfl
theorem tf63_0 : TF Try.prog 63 0 0 0 := ⟨_, _, Try.underlying63, rfl, rfl, by kernel_rfl⟩
theorem ti60 : TI Try.prog 60 false 1 := ⟨⟨_, Try.underlying60, rfl⟩, by kernel_rfl⟩
theorem en129 : Enters Try.prog 129 := enters_of Try.func129 (by kernel_rfl) rfl
theorem tf63_1 : TF Try.prog 63 1 1 0 := ⟨_, _, Try.underlying63, rfl, rfl, by kernel_rfl⟩
theorem ti61 : TI Try.prog 61 false 1 := ⟨⟨_, Try.underlying61, rfl⟩, by kernel_rfl⟩
theorem en130 : Enters Try.prog 130 := enters_of Try.func130 (by kernel_rfl) rfl
theorem ti25 : TI Try.prog 25 true 3 := ⟨⟨_, Try.underlying25, rfl⟩, by kernel_rfl⟩
theorem en12 : Enters Try.prog 12 := enters_of Try.func12 (by kernel_rfl) rfl
theorem tf25_1 : TF Try.prog 25 1 1 0 := ⟨_, _, Try.underlying25, rfl, rfl, by kernel_rfl⟩
theorem ti22 : TI Try.prog 22 false 1 := ⟨⟨_, Try.underlying22, rfl⟩, by kernel_rfl⟩
theorem en44 : Enters Try.prog 44 := enters_of Try.func44 (by kernel_rfl) rfl
theorem tf25_2 : TF Try.prog 25 2 2 0 := ⟨_, _, Try.underlying25, rfl, rfl, by kernel_rfl⟩
theorem ti23 : TI Try.prog 23 false 1 := ⟨⟨_, Try.underlying23, rfl⟩, by kernel_rfl⟩
theorem en45 : Enters Try.prog 45 := enters_of Try.func45 (by kernel_rfl) rfl
theorem ti195 : TI Try.prog 195 true 3 := ⟨⟨_, Try.underlying195, rfl⟩, by kernel_rfl⟩
theorem en166 : Enters Try.prog 166 := enters_of Try.func166 (by kernel_rfl) rfl
theorem tf195_1 : TF Try.prog 195 1 1 0 := ⟨_, _, Try.underlying195, rfl, rfl, by kernel_rfl⟩
theorem ti193 : TI Try.prog 193 true 1 := ⟨⟨_, Try.underlying193, rfl⟩, by kernel_rfl⟩
theorem en183 : Enters Try.prog 183 := enters_of Try.func183 (by kernel_rfl) rfl
theorem tf193_0 : TF Try.prog 193 0 0 0 := ⟨_, _, Try.underlying193, rfl, rfl, by kernel_rfl⟩
theorem ti191 : TI Try.prog 191 false 1 := ⟨⟨_, Try.underlying191, rfl⟩, by kernel_rfl⟩
theorem en190 : Enters Try.prog 190 := enters_of Try.func190 (by kernel_rfl) rfl
theorem tf78_0 : TF Try.prog 78 0 0 1 := ⟨_, _, Try.underlying78, rfl, rfl, by kernel_rfl⟩
theorem ti71 : TI Try.prog 71 true 2 := ⟨⟨_, Try.underlying71, rfl⟩, by kernel_rfl⟩
theorem en81 : Enters Try.prog 81 := enters_of Try.func81 (by kernel_rfl) rfl
theorem tf78_1 : TF Try.prog 78 1 2 1 := ⟨_, _, Try.underlying78, rfl, rfl, by kernel_rfl⟩
theorem ti75 : TI Try.prog 75 true 2 := ⟨⟨_, Try.underlying75, rfl⟩, by kernel_rfl⟩
theorem en82 : Enters Try.prog 82 := enters_of Try.func82 (by kernel_rfl) rfl
theorem tf78_2 : TF Try.prog 78 2 4 0 := ⟨_, _, Try.underlying78, rfl, rfl, by kernel_rfl⟩
theorem ti76 : TI Try.prog 76 false 1 := ⟨⟨_, Try.underlying76, rfl⟩, by kernel_rfl⟩
theorem tf78_3 : TF Try.prog 78 3 5 0 := ⟨_, _, Try.underlying78, rfl, rfl, by kernel_rfl⟩
theorem ti107 : TI Try.prog 107 true 3 := ⟨⟨_, Try.underlying107, rfl⟩, by kernel_rfl⟩
theorem ti3 : TI Try.prog 3 false 1 := ⟨⟨_, Try.underlying3, rfl⟩, by kernel_rfl⟩
theorem eqt107 (a0 : Int) (a1 : Int) (a2 : Int) (b0 : Int) (b1 : Int) (b2 : Int) (w : World) : EqT Try.prog 107 (.agg #[.int .i64 a0, .int .i64 a1, .int .i64 a2]) (.agg #[.int .i64 b0, .int .i64 b1, .int .i64 b2]) ((a0 == b0) && ((a1 == b1) && ((a2 == b2) && true))) w := eqT_of w Try.underlying107 (by kernel_rfl) (by kernel_rfl) (eqF_cons rfl (part_1 ti3 rfl) (part_1 ti3 rfl) (run_equalIn_int w 9998 3 _ _ _ _ Try.underlying3) (eqF_cons rfl (part_1 ti3 rfl) (part_1 ti3 rfl) (run_equalIn_int w 9998 3 _ _ _ _ Try.underlying3) (eqF_cons rfl (part_1 ti3 rfl) (part_1 ti3 rfl) (run_equalIn_int w 9998 3 _ _ _ _ Try.underlying3) (eqF_nil w))))
theorem tf71_0 : TF Try.prog 71 0 0 0 := ⟨_, _, Try.underlying71, rfl, rfl, by kernel_rfl⟩
theorem tf71_1 : TF Try.prog 71 1 1 0 := ⟨_, _, Try.underlying71, rfl, rfl, by kernel_rfl⟩
theorem ti69 : TI Try.prog 69 false 1 := ⟨⟨_, Try.underlying69, rfl⟩, by kernel_rfl⟩
theorem ti45 : TI Try.prog 45 true 2 := ⟨⟨_, Try.underlying45, rfl⟩, by kernel_rfl⟩
theorem en131 : Enters Try.prog 131 := enters_of Try.func131 (by kernel_rfl) rfl
theorem tf45_0 : TF Try.prog 45 0 0 0 := ⟨_, _, Try.underlying45, rfl, rfl, by kernel_rfl⟩
theorem en104 : Enters Try.prog 104 := enters_of Try.func104 (by kernel_rfl) rfl
theorem tf45_1 : TF Try.prog 45 1 1 0 := ⟨_, _, Try.underlying45, rfl, rfl, by kernel_rfl⟩
theorem ti43 : TI Try.prog 43 false 1 := ⟨⟨_, Try.underlying43, rfl⟩, by kernel_rfl⟩
theorem ti126 : TI Try.prog 126 true 4 := ⟨⟨_, Try.underlying126, rfl⟩, by kernel_rfl⟩
theorem eqt126 (a0 : Int) (a1 : Int) (a2 : Int) (a3 : Int) (b0 : Int) (b1 : Int) (b2 : Int) (b3 : Int) (w : World) : EqT Try.prog 126 (.agg #[.int .i64 a0, .int .i64 a1, .int .i64 a2, .int .i64 a3]) (.agg #[.int .i64 b0, .int .i64 b1, .int .i64 b2, .int .i64 b3]) ((a0 == b0) && ((a1 == b1) && ((a2 == b2) && ((a3 == b3) && true)))) w := eqT_of w Try.underlying126 (by kernel_rfl) (by kernel_rfl) (eqF_cons rfl (part_1 ti3 rfl) (part_1 ti3 rfl) (run_equalIn_int w 9998 3 _ _ _ _ Try.underlying3) (eqF_cons rfl (part_1 ti3 rfl) (part_1 ti3 rfl) (run_equalIn_int w 9998 3 _ _ _ _ Try.underlying3) (eqF_cons rfl (part_1 ti3 rfl) (part_1 ti3 rfl) (run_equalIn_int w 9998 3 _ _ _ _ Try.underlying3) (eqF_cons rfl (part_1 ti3 rfl) (part_1 ti3 rfl) (run_equalIn_int w 9998 3 _ _ _ _ Try.underlying3) (eqF_nil w)))))
theorem tf75_0 : TF Try.prog 75 0 0 0 := ⟨_, _, Try.underlying75, rfl, rfl, by kernel_rfl⟩
theorem ti72 : TI Try.prog 72 false 1 := ⟨⟨_, Try.underlying72, rfl⟩, by kernel_rfl⟩
theorem tf75_1 : TF Try.prog 75 1 1 0 := ⟨_, _, Try.underlying75, rfl, rfl, by kernel_rfl⟩
theorem ti73 : TI Try.prog 73 false 1 := ⟨⟨_, Try.underlying73, rfl⟩, by kernel_rfl⟩
theorem ti27 : TI Try.prog 27 true 3 := ⟨⟨_, Try.underlying27, rfl⟩, by kernel_rfl⟩
theorem en59 : Enters Try.prog 59 := enters_of Try.func59 (by kernel_rfl) rfl
theorem ti147 : TI Try.prog 147 true 3 := ⟨⟨_, Try.underlying147, rfl⟩, by kernel_rfl⟩
theorem tf147_0 : TF Try.prog 147 0 0 0 := ⟨_, _, Try.underlying147, rfl, rfl, by kernel_rfl⟩
theorem tf147_1 : TF Try.prog 147 1 1 0 := ⟨_, _, Try.underlying147, rfl, rfl, by kernel_rfl⟩
theorem ti145 : TI Try.prog 145 true 1 := ⟨⟨_, Try.underlying145, rfl⟩, by kernel_rfl⟩
theorem tf147_2 : TF Try.prog 147 2 2 0 := ⟨_, _, Try.underlying147, rfl, rfl, by kernel_rfl⟩
theorem en132 : Enters Try.prog 132 := enters_of Try.func132 (by kernel_rfl) rfl
theorem tf27_0 : TF Try.prog 27 0 0 0 := ⟨_, _, Try.underlying27, rfl, rfl, by kernel_rfl⟩
theorem tf27_1 : TF Try.prog 27 1 1 0 := ⟨_, _, Try.underlying27, rfl, rfl, by kernel_rfl⟩
theorem tf27_2 : TF Try.prog 27 2 2 0 := ⟨_, _, Try.underlying27, rfl, rfl, by kernel_rfl⟩
theorem ti4 : TI Try.prog 4 false 1 := ⟨⟨_, Try.underlying4, rfl⟩, by kernel_rfl⟩
theorem tf145_0 : TF Try.prog 145 0 0 0 := ⟨_, _, Try.underlying145, rfl, rfl, by kernel_rfl⟩
theorem ti143 : TI Try.prog 143 false 1 := ⟨⟨_, Try.underlying143, rfl⟩, by kernel_rfl⟩
theorem ti197 : TI Try.prog 197 true 4 := ⟨⟨_, Try.underlying197, rfl⟩, by kernel_rfl⟩
theorem eqt197 (a0 : Int) (a1 : Int) (a2 : Int) (a3 : Int) (b0 : Int) (b1 : Int) (b2 : Int) (b3 : Int) (w : World) : EqT Try.prog 197 (.agg #[.int .i64 a0, .int .i64 a1, .int .i64 a2, .int .i64 a3]) (.agg #[.int .i64 b0, .int .i64 b1, .int .i64 b2, .int .i64 b3]) ((a0 == b0) && ((a1 == b1) && ((a2 == b2) && ((a3 == b3) && true)))) w := eqT_of w Try.underlying197 (by kernel_rfl) (by kernel_rfl) (eqF_cons rfl (part_1 ti3 rfl) (part_1 ti3 rfl) (run_equalIn_int w 9998 3 _ _ _ _ Try.underlying3) (eqF_cons rfl (part_1 ti3 rfl) (part_1 ti3 rfl) (run_equalIn_int w 9998 3 _ _ _ _ Try.underlying3) (eqF_cons rfl (part_1 ti3 rfl) (part_1 ti3 rfl) (run_equalIn_int w 9998 3 _ _ _ _ Try.underlying3) (eqF_cons rfl (part_1 ti3 rfl) (part_1 ti3 rfl) (run_equalIn_int w 9998 3 _ _ _ _ Try.underlying3) (eqF_nil w)))))
theorem en83 : Enters Try.prog 83 := enters_of Try.func83 (by kernel_rfl) rfl
theorem en84 : Enters Try.prog 84 := enters_of Try.func84 (by kernel_rfl) rfl
theorem en85 : Enters Try.prog 85 := enters_of Try.func85 (by kernel_rfl) rfl
theorem tz71 : TZ Try.prog 71 (.agg #[.int .i64 0, .slice none 0 0]) 2 32 := by unfold TZ; kernel_rfl
theorem tf59_0 : TF Try.prog 59 0 0 0 := ⟨_, _, Try.underlying59, rfl, rfl, by kernel_rfl⟩
theorem en133 : Enters Try.prog 133 := enters_of Try.func133 (by kernel_rfl) rfl
theorem tz45 : TZ Try.prog 45 (.agg #[.slice none 0 0, .slice none 0 0]) 2 48 := by unfold TZ; kernel_rfl
theorem en26 : Enters Try.prog 26 := enters_of Try.func26 (by kernel_rfl) rfl
theorem en66 : Enters Try.prog 66 := enters_of Try.func66 (by kernel_rfl) rfl
theorem en67 : Enters Try.prog 67 := enters_of Try.func67 (by kernel_rfl) rfl
theorem tz3 : TZ Try.prog 3 (.int .i64 0) 1 8 := by unfold TZ; kernel_rfl
theorem tz126 : TZ Try.prog 126 (.agg #[.int .i64 0, .int .i64 0, .int .i64 0, .int .i64 0]) 4 32 := by unfold TZ; kernel_rfl
theorem ti128 : TI Try.prog 128 true 4 := ⟨⟨_, Try.underlying128, rfl⟩, by kernel_rfl⟩
theorem en117 : Enters Try.prog 117 := enters_of Try.func117 (by kernel_rfl) rfl
theorem tf128_0 : TF Try.prog 128 0 0 0 := ⟨_, _, Try.underlying128, rfl, rfl, by kernel_rfl⟩
theorem tf126_0 : TF Try.prog 126 0 0 0 := ⟨_, _, Try.underlying126, rfl, rfl, by kernel_rfl⟩
theorem tf128_1 : TF Try.prog 128 1 1 0 := ⟨_, _, Try.underlying128, rfl, rfl, by kernel_rfl⟩
theorem tf126_1 : TF Try.prog 126 1 1 0 := ⟨_, _, Try.underlying126, rfl, rfl, by kernel_rfl⟩
theorem tf128_2 : TF Try.prog 128 2 2 0 := ⟨_, _, Try.underlying128, rfl, rfl, by kernel_rfl⟩
theorem tf126_2 : TF Try.prog 126 2 2 0 := ⟨_, _, Try.underlying126, rfl, rfl, by kernel_rfl⟩
theorem tf128_3 : TF Try.prog 128 3 3 0 := ⟨_, _, Try.underlying128, rfl, rfl, by kernel_rfl⟩
theorem tf126_3 : TF Try.prog 126 3 3 0 := ⟨_, _, Try.underlying126, rfl, rfl, by kernel_rfl⟩
theorem tz75 : TZ Try.prog 75 (.agg #[.slice none 0 0, .slice none 0 0]) 2 48 := by unfold TZ; kernel_rfl
theorem en134 : Enters Try.prog 134 := enters_of Try.func134 (by kernel_rfl) rfl
theorem en135 : Enters Try.prog 135 := enters_of Try.func135 (by kernel_rfl) rfl
theorem tz27 : TZ Try.prog 27 (.agg #[.int .i64 0, .slice none 0 0, .slice none 0 0]) 3 56 := by unfold TZ; kernel_rfl
theorem en14 : Enters Try.prog 14 := enters_of Try.func14 (by kernel_rfl) rfl
theorem tf25_0 : TF Try.prog 25 0 0 0 := ⟨_, _, Try.underlying25, rfl, rfl, by kernel_rfl⟩
theorem en49 : Enters Try.prog 49 := enters_of Try.func49 (by kernel_rfl) rfl
theorem en50 : Enters Try.prog 50 := enters_of Try.func50 (by kernel_rfl) rfl
theorem tz4 : TZ Try.prog 4 (.bool false) 1 1 := by unfold TZ; kernel_rfl
theorem tz34 : TZ Try.prog 34 (.slice none 0 0) 1 24 := by unfold TZ; kernel_rfl
theorem tz147 : TZ Try.prog 147 (.agg #[.int .i64 0, .slice none 0 0, .int .i64 0]) 3 40 := by unfold TZ; kernel_rfl
theorem en167 : Enters Try.prog 167 := enters_of Try.func167 (by kernel_rfl) rfl
theorem tf195_0 : TF Try.prog 195 0 0 0 := ⟨_, _, Try.underlying195, rfl, rfl, by kernel_rfl⟩
theorem en184 : Enters Try.prog 184 := enters_of Try.func184 (by kernel_rfl) rfl
theorem tf195_2 : TF Try.prog 195 2 2 0 := ⟨_, _, Try.underlying195, rfl, rfl, by kernel_rfl⟩
theorem tz145 : TZ Try.prog 145 (.agg #[.slice none 0 0]) 1 24 := by unfold TZ; kernel_rfl
theorem en191 : Enters Try.prog 191 := enters_of Try.func191 (by kernel_rfl) rfl
theorem tz197 : TZ Try.prog 197 (.agg #[.int .i64 0, .int .i64 0, .int .i64 0, .int .i64 0]) 4 32 := by unfold TZ; kernel_rfl
theorem ti222 : TI Try.prog 222 true 4 := ⟨⟨_, Try.underlying222, rfl⟩, by kernel_rfl⟩
theorem en193 : Enters Try.prog 193 := enters_of Try.func193 (by kernel_rfl) rfl
theorem tf222_0 : TF Try.prog 222 0 0 0 := ⟨_, _, Try.underlying222, rfl, rfl, by kernel_rfl⟩
theorem tf197_0 : TF Try.prog 197 0 0 0 := ⟨_, _, Try.underlying197, rfl, rfl, by kernel_rfl⟩
theorem tf222_1 : TF Try.prog 222 1 1 0 := ⟨_, _, Try.underlying222, rfl, rfl, by kernel_rfl⟩
theorem tf197_1 : TF Try.prog 197 1 1 0 := ⟨_, _, Try.underlying197, rfl, rfl, by kernel_rfl⟩
theorem tf222_2 : TF Try.prog 222 2 2 0 := ⟨_, _, Try.underlying222, rfl, rfl, by kernel_rfl⟩
theorem tf197_2 : TF Try.prog 197 2 2 0 := ⟨_, _, Try.underlying197, rfl, rfl, by kernel_rfl⟩
theorem tf222_3 : TF Try.prog 222 3 3 0 := ⟨_, _, Try.underlying222, rfl, rfl, by kernel_rfl⟩
theorem tf197_3 : TF Try.prog 197 3 3 0 := ⟨_, _, Try.underlying197, rfl, rfl, by kernel_rfl⟩
theorem tz107 : TZ Try.prog 107 (.agg #[.int .i64 0, .int .i64 0, .int .i64 0]) 3 24 := by unfold TZ; kernel_rfl
theorem ti153 : TI Try.prog 153 true 3 := ⟨⟨_, Try.underlying153, rfl⟩, by kernel_rfl⟩
theorem en136 : Enters Try.prog 136 := enters_of Try.func136 (by kernel_rfl) rfl
theorem tf153_0 : TF Try.prog 153 0 0 0 := ⟨_, _, Try.underlying153, rfl, rfl, by kernel_rfl⟩
theorem tf107_0 : TF Try.prog 107 0 0 0 := ⟨_, _, Try.underlying107, rfl, rfl, by kernel_rfl⟩
theorem tf153_1 : TF Try.prog 153 1 1 0 := ⟨_, _, Try.underlying153, rfl, rfl, by kernel_rfl⟩
theorem tf107_1 : TF Try.prog 107 1 1 0 := ⟨_, _, Try.underlying107, rfl, rfl, by kernel_rfl⟩
theorem tf153_2 : TF Try.prog 153 2 2 0 := ⟨_, _, Try.underlying153, rfl, rfl, by kernel_rfl⟩
theorem tf107_2 : TF Try.prog 107 2 2 0 := ⟨_, _, Try.underlying107, rfl, rfl, by kernel_rfl⟩
theorem en86 : Enters Try.prog 86 := enters_of Try.func86 (by kernel_rfl) rfl
theorem en87 : Enters Try.prog 87 := enters_of Try.func87 (by kernel_rfl) rfl
theorem en88 : Enters Try.prog 88 := enters_of Try.func88 (by kernel_rfl) rfl
def fn50 (w0 : World) (I : Hp) (v : Value) (f : ((List Int) × (List (Int × Int × Int × Int))) → ((List Int) × (List (Int × Int × Int × Int))) → Option Bool) : Prop := IsFn v ∧ ∀ J, I.le J → ∀ (a0 : (List Int) × (List (Int × Int × Int × Int))) (a1 : (List Int) × (List (Int × Int × Int × Int))) (r : Bool), f a0 a1 = some r → ∀ (h0 h1 h2 h3 : Value), (rSlice 3 rInt).rd J [h0] a0.1 → (rSlice 126 (rProd rInt (rProd rInt (rProd rInt rInt)))).rd J [h1] a0.2 → (rSlice 3 rInt).rd J [h2] a1.1 → (rSlice 126 (rProd rInt (rProd rInt (rProd rInt rInt)))).rd J [h3] a1.2 → Clo Try.prog w0 J v [.agg #[h0, h1], .agg #[h2, h3]] (fun v => v = .bool r) (fun v => [])
theorem fn50_mono {w0 : World} {I J : Hp} {v : Value} {f : ((List Int) × (List (Int × Int × Int × Int))) → ((List Int) × (List (Int × Int × Int × Int))) → Option Bool} (h : fn50 w0 I v f) (k : I.le J) : fn50 w0 J v f := ⟨h.1, fun J' h' => h.2 J' (Hp.le.trans k h')⟩
theorem en138 : Enters Try.prog 138 := enters_of Try.func138 (by kernel_rfl) rfl
theorem en137 : Enters Try.prog 137 := enters_of Try.func137 (by kernel_rfl) rfl
theorem en109 : Enters Try.prog 109 := enters_of Try.func109 (by kernel_rfl) rfl
theorem en168 : Enters Try.prog 168 := enters_of Try.func168 (by kernel_rfl) rfl
def fn30 (w0 : World) (I : Hp) (v : Value) (f : (Int × (List Bool) × (List (List Int))) → (Int × (List Bool) × (List (List Int))) → Option Bool) : Prop := IsFn v ∧ ∀ J, I.le J → ∀ (a0 : Int × (List Bool) × (List (List Int))) (a1 : Int × (List Bool) × (List (List Int))) (r : Bool), f a0 a1 = some r → ∀ (h0 h1 h2 h3 : Value), (rSlice 4 rBool).rd J [h0] a0.2.1 → (rSlice 34 (rSlice 3 rInt)).rd J [h1] a0.2.2 → (rSlice 4 rBool).rd J [h2] a1.2.1 → (rSlice 34 (rSlice 3 rInt)).rd J [h3] a1.2.2 → Clo Try.prog w0 J v [.agg #[.int .i64 a0.1, h0, h1], .agg #[.int .i64 a1.1, h2, h3]] (fun v => v = .bool r) (fun v => [])
theorem fn30_mono {w0 : World} {I J : Hp} {v : Value} {f : (Int × (List Bool) × (List (List Int))) → (Int × (List Bool) × (List (List Int))) → Option Bool} (h : fn30 w0 I v f) (k : I.le J) : fn30 w0 J v f := ⟨h.1, fun J' h' => h.2 J' (Hp.le.trans k h')⟩
theorem en61 : Enters Try.prog 61 := enters_of Try.func61 (by kernel_rfl) rfl
theorem en139 : Enters Try.prog 139 := enters_of Try.func139 (by kernel_rfl) rfl
def fn157 (w0 : World) (I : Hp) (v : Value) (f : (Int × ((List (Int × Int × Int × Int))) × Int) → (Int × ((List (Int × Int × Int × Int))) × Int) → Option Bool) : Prop := IsFn v ∧ ∀ J, I.le J → ∀ (a0 : Int × ((List (Int × Int × Int × Int))) × Int) (a1 : Int × ((List (Int × Int × Int × Int))) × Int) (r : Bool), f a0 a1 = some r → ∀ (h0 h1 : Value), (rSlice 197 (rProd rInt (rProd rInt (rProd rInt rInt)))).rd J [h0] a0.2.1 → (rSlice 197 (rProd rInt (rProd rInt (rProd rInt rInt)))).rd J [h1] a1.2.1 → Clo Try.prog w0 J v [.agg #[.int .i64 a0.1, h0, .int .i64 a0.2.2], .agg #[.int .i64 a1.1, h1, .int .i64 a1.2.2]] (fun v => v = .bool r) (fun v => [])
theorem fn157_mono {w0 : World} {I J : Hp} {v : Value} {f : (Int × ((List (Int × Int × Int × Int))) × Int) → (Int × ((List (Int × Int × Int × Int))) × Int) → Option Bool} (h : fn157 w0 I v f) (k : I.le J) : fn157 w0 J v f := ⟨h.1, fun J' h' => h.2 J' (Hp.le.trans k h')⟩
theorem en141 : Enters Try.prog 141 := enters_of Try.func141 (by kernel_rfl) rfl
theorem en140 : Enters Try.prog 140 := enters_of Try.func140 (by kernel_rfl) rfl
theorem en106 : Enters Try.prog 106 := enters_of Try.func106 (by kernel_rfl) rfl
def fn96 (w0 : World) (I : Hp) (v : Value) (f : (List Int) → (List Int) → Option Bool) : Prop := IsFn v ∧ ∀ J, I.le J → ∀ (a0 : List Int) (a1 : List Int) (r : Bool), f a0 a1 = some r → ∀ (h0 h1 : Value), (rSlice 3 rInt).rd J [h0] a0 → (rSlice 3 rInt).rd J [h1] a1 → Clo Try.prog w0 J v [h0, h1] (fun v => v = .bool r) (fun v => [])
theorem fn96_mono {w0 : World} {I J : Hp} {v : Value} {f : (List Int) → (List Int) → Option Bool} (h : fn96 w0 I v f) (k : I.le J) : fn96 w0 J v f := ⟨h.1, fun J' h' => h.2 J' (Hp.le.trans k h')⟩
theorem en108 : Enters Try.prog 108 := enters_of Try.func108 (by kernel_rfl) rfl
theorem en107 : Enters Try.prog 107 := enters_of Try.func107 (by kernel_rfl) rfl
theorem en169 : Enters Try.prog 169 := enters_of Try.func169 (by kernel_rfl) rfl
theorem en185 : Enters Try.prog 185 := enters_of Try.func185 (by kernel_rfl) rfl
theorem en89 : Enters Try.prog 89 := enters_of Try.func89 (by kernel_rfl) rfl
theorem en90 : Enters Try.prog 90 := enters_of Try.func90 (by kernel_rfl) rfl
theorem en91 : Enters Try.prog 91 := enters_of Try.func91 (by kernel_rfl) rfl
theorem en142 : Enters Try.prog 142 := enters_of Try.func142 (by kernel_rfl) rfl
theorem en29 : Enters Try.prog 29 := enters_of Try.func29 (by kernel_rfl) rfl
theorem en69 : Enters Try.prog 69 := enters_of Try.func69 (by kernel_rfl) rfl
theorem en70 : Enters Try.prog 70 := enters_of Try.func70 (by kernel_rfl) rfl
theorem en121 : Enters Try.prog 121 := enters_of Try.func121 (by kernel_rfl) rfl
theorem en143 : Enters Try.prog 143 := enters_of Try.func143 (by kernel_rfl) rfl
theorem en144 : Enters Try.prog 144 := enters_of Try.func144 (by kernel_rfl) rfl
theorem en16 : Enters Try.prog 16 := enters_of Try.func16 (by kernel_rfl) rfl
theorem en53 : Enters Try.prog 53 := enters_of Try.func53 (by kernel_rfl) rfl
theorem en54 : Enters Try.prog 54 := enters_of Try.func54 (by kernel_rfl) rfl
theorem en170 : Enters Try.prog 170 := enters_of Try.func170 (by kernel_rfl) rfl
theorem en186 : Enters Try.prog 186 := enters_of Try.func186 (by kernel_rfl) rfl
theorem en192 : Enters Try.prog 192 := enters_of Try.func192 (by kernel_rfl) rfl
theorem en194 : Enters Try.prog 194 := enters_of Try.func194 (by kernel_rfl) rfl
theorem en145 : Enters Try.prog 145 := enters_of Try.func145 (by kernel_rfl) rfl

end Go.Proofs.Ytcihbmdppgpmjaa.D
