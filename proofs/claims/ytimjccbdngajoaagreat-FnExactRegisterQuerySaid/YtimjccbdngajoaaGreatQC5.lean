/- FnExactRegisterQuery: for every input the law returns true and changes nothing that was there. Part 6 of 8. -/
import Derived.Test.YtimjccbdngajoaaGreatQC4
/- Printed by lp.py: what the functions compute, as data. -/
set_option linter.unusedVariables false
set_option maxRecDepth 1000000
namespace Go.Proofs.YtimjccbdngajoaaGreat.D
open Go.RowKit
def m_w_szBoolS (p0a : List Bool) (p1left : Int) : Option Int :=
  if decide (IntKind.i64.wrap (p1left - (p0a.length : Int)) < 0) then (some (-1)) else (some (IntKind.i64.wrap (p1left - (p0a.length : Int))))
def m_w_szIntS (p0a : List Int) (p1left : Int) : Option Int :=
  if decide (IntKind.i64.wrap (p1left - (p0a.length : Int)) < 0) then (some (-1)) else (some (IntKind.i64.wrap (p1left - (p0a.length : Int))))
def m_w_szIntSS_l0 (p0a : List (List Int)) (s3 : Int × Int) : Option (Out Int (Int × Int)) :=
  if decide (s3.2 < (p0a.length : Int)) then ((getI p0a s3.2).bind fun x3 => (m_w_szIntS x3 s3.1).bind fun r6 => if decide (r6 < 0) then (some (.ret (-1))) else (some (.nxt (r6, IntKind.i64.wrap (s3.2 + 1))))) else (some (.brk (s3.1, s3.2)))
def m_w_szIntSS (p0a : List (List Int)) (p1left : Int) : Option Int :=
  if decide (IntKind.i64.wrap (p1left - (p0a.length : Int)) < 0) then (some (-1)) else (bindL (loopM (m_w_szIntSS_l0 p0a) FUEL (IntKind.i64.wrap (p1left - (p0a.length : Int)), 0)) (fun r => some r) (fun s4 => some s4.1))
def m_w_szAutomaton (p0a : Int × (List Bool) × (List (List Int))) (p1left : Int) : Option Int :=
  (m_w_szBoolS p0a.2.1 p1left).bind fun r1 => if decide (r1 < 0) then (some (-1)) else ((m_w_szIntSS p0a.2.2 r1).bind fun r2 => if decide (r2 < 0) then (some (-1)) else (some r2))
def m_w_szAutomatonS_l0 (p0a : List (Int × (List Bool) × (List (List Int)))) (s3 : Int × Int) : Option (Out Int (Int × Int)) :=
  if decide (s3.2 < (p0a.length : Int)) then ((getI p0a s3.2).bind fun x3 => (m_w_szAutomaton (x3.1, x3.2.1, x3.2.2) s3.1).bind fun r9 => if decide (r9 < 0) then (some (.ret (-1))) else (some (.nxt (r9, IntKind.i64.wrap (s3.2 + 1))))) else (some (.brk (s3.1, s3.2)))
def m_w_szAutomatonS (p0a : List (Int × (List Bool) × (List (List Int)))) (p1left : Int) : Option Int :=
  if decide (IntKind.i64.wrap (p1left - (p0a.length : Int)) < 0) then (some (-1)) else (bindL (loopM (m_w_szAutomatonS_l0 p0a) FUEL (IntKind.i64.wrap (p1left - (p0a.length : Int)), 0)) (fun r => some r) (fun s4 => some s4.1))
def m_w_szTokenS (p0a : List (Int × Int × Int × Int)) (p1left : Int) : Option Int :=
  if decide (IntKind.i64.wrap (p1left - (p0a.length : Int)) < 0) then (some (-1)) else (some (IntKind.i64.wrap (p1left - (p0a.length : Int))))
def m_w_szExpr (p0a : (List (Int × Int × Int × Int))) (p1left : Int) : Option Int :=
  (m_w_szTokenS p0a p1left).bind fun r1 => if decide (r1 < 0) then (some (-1)) else (some r1)
def m_w_szRegistered (p0a : Int × ((List (Int × Int × Int × Int))) × Int) (p1left : Int) : Option Int :=
  (m_w_szExpr p0a.2.1 p1left).bind fun r1 => if decide (r1 < 0) then (some (-1)) else (some r1)
def m_w_szRegisteredS_l0 (p0a : List (Int × ((List (Int × Int × Int × Int))) × Int)) (s3 : Int × Int) : Option (Out Int (Int × Int)) :=
  if decide (s3.2 < (p0a.length : Int)) then ((getI p0a s3.2).bind fun x3 => (m_w_szRegistered (x3.1, x3.2.1, x3.2.2) s3.1).bind fun r6 => if decide (r6 < 0) then (some (.ret (-1))) else (some (.nxt (r6, IntKind.i64.wrap (s3.2 + 1))))) else (some (.brk (s3.1, s3.2)))
def m_w_szRegisteredS (p0a : List (Int × ((List (Int × Int × Int × Int))) × Int)) (p1left : Int) : Option Int :=
  if decide (IntKind.i64.wrap (p1left - (p0a.length : Int)) < 0) then (some (-1)) else (bindL (loopM (m_w_szRegisteredS_l0 p0a) FUEL (IntKind.i64.wrap (p1left - (p0a.length : Int)), 0)) (fun r => some r) (fun s4 => some s4.1))
def m_w_szRegistry (p0a : (List (Int × (List Bool) × (List (List Int)))) × (List (Int × ((List (Int × Int × Int × Int))) × Int))) (p1left : Int) : Option Int :=
  (m_w_szAutomatonS p0a.1 p1left).bind fun r1 => if decide (r1 < 0) then (some (-1)) else ((m_w_szRegisteredS p0a.2 r1).bind fun r2 => if decide (r2 < 0) then (some (-1)) else (some r2))
def m_w_toBoolS_l0 (p0a : List Bool) (s3 : (List Bool) × Int) : Option (Out (List Bool) ((List Bool) × Int)) :=
  if decide (s3.2 < (p0a.length : Int)) then ((getI p0a s3.2).bind fun x6 => (getI s3.1 s3.2).bind fun x7 => some (.nxt (s3.1.set s3.2.toNat x6, IntKind.i64.wrap (s3.2 + 1)))) else (some (.brk (s3.1, s3.2)))
def m_w_toBoolS (p0a : List Bool) : Option (List Bool) :=
  (mkI 1 (p0a.length : Int) (false : Bool)).bind fun x1 => bindL (loopM (m_w_toBoolS_l0 p0a) FUEL (x1, 0)) (fun r => some r) (fun s4 => some s4.1)
def m_w_toIntS_l0 (p0a : List Int) (s3 : (List Int) × Int) : Option (Out (List Int) ((List Int) × Int)) :=
  if decide (s3.2 < (p0a.length : Int)) then ((getI p0a s3.2).bind fun x6 => (getI s3.1 s3.2).bind fun x7 => some (.nxt (s3.1.set s3.2.toNat x6, IntKind.i64.wrap (s3.2 + 1)))) else (some (.brk (s3.1, s3.2)))
def m_w_toIntS (p0a : List Int) : Option (List Int) :=
  (mkI 8 (p0a.length : Int) (0 : Int)).bind fun x1 => bindL (loopM (m_w_toIntS_l0 p0a) FUEL (x1, 0)) (fun r => some r) (fun s4 => some s4.1)
def m_w_toIntSS_l0 (p0a : List (List Int)) (s3 : (List (List Int)) × Int) : Option (Out (List (List Int)) ((List (List Int)) × Int)) :=
  if decide (s3.2 < (p0a.length : Int)) then ((getI p0a s3.2).bind fun x6 => (m_w_toIntS x6).bind fun r6 => (getI s3.1 s3.2).bind fun x7 => some (.nxt (s3.1.set s3.2.toNat r6, IntKind.i64.wrap (s3.2 + 1)))) else (some (.brk (s3.1, s3.2)))
def m_w_toIntSS (p0a : List (List Int)) : Option (List (List Int)) :=
  (mkI 24 (p0a.length : Int) ([] : List Int)).bind fun x1 => bindL (loopM (m_w_toIntSS_l0 p0a) FUEL (x1, 0)) (fun r => some r) (fun s4 => some s4.1)
def m_w_toAutomaton (p0a : Int × (List Bool) × (List (List Int))) : Option (Int × (List Bool) × (List (List Int))) :=
  (m_w_toBoolS p0a.2.1).bind fun r1 => (m_w_toIntSS p0a.2.2).bind fun r2 => some (p0a.1, r1, r2)
def m_w_toAutomatonS_l0 (p0a : List (Int × (List Bool) × (List (List Int)))) (s3 : (List (Int × (List Bool) × (List (List Int)))) × Int) : Option (Out (List (Int × (List Bool) × (List (List Int)))) ((List (Int × (List Bool) × (List (List Int)))) × Int)) :=
  if decide (s3.2 < (p0a.length : Int)) then ((getI p0a s3.2).bind fun x6 => (m_w_toAutomaton (x6.1, x6.2.1, x6.2.2)).bind fun r9 => (getI s3.1 s3.2).bind fun x7 => some (.nxt (s3.1.set s3.2.toNat (r9.1, r9.2.1, r9.2.2), IntKind.i64.wrap (s3.2 + 1)))) else (some (.brk (s3.1, s3.2)))
def m_w_toAutomatonS (p0a : List (Int × (List Bool) × (List (List Int)))) : Option (List (Int × (List Bool) × (List (List Int)))) :=
  (mkI 56 (p0a.length : Int) ((0, [], []) : Int × (List Bool) × (List (List Int)))).bind fun x1 => bindL (loopM (m_w_toAutomatonS_l0 p0a) FUEL (x1, 0)) (fun r => some r) (fun s4 => some s4.1)
def m_w_toToken (p0a : Int × Int × Int × Int) : Option (Int × Int × Int × Int) :=
  some (p0a.1, p0a.2.1, p0a.2.2.1, p0a.2.2.2)
def m_w_toTokenS_l0 (p0a : List (Int × Int × Int × Int)) (s3 : (List (Int × Int × Int × Int)) × Int) : Option (Out (List (Int × Int × Int × Int)) ((List (Int × Int × Int × Int)) × Int)) :=
  if decide (s3.2 < (p0a.length : Int)) then ((getI p0a s3.2).bind fun x6 => (m_w_toToken (x6.1, x6.2.1, x6.2.2.1, x6.2.2.2)).bind fun r3 => (getI s3.1 s3.2).bind fun x7 => some (.nxt (s3.1.set s3.2.toNat (r3.1, r3.2.1, r3.2.2.1, r3.2.2.2), IntKind.i64.wrap (s3.2 + 1)))) else (some (.brk (s3.1, s3.2)))
def m_w_toTokenS (p0a : List (Int × Int × Int × Int)) : Option (List (Int × Int × Int × Int)) :=
  (mkI 32 (p0a.length : Int) ((0, 0, 0, 0) : Int × Int × Int × Int)).bind fun x1 => bindL (loopM (m_w_toTokenS_l0 p0a) FUEL (x1, 0)) (fun r => some r) (fun s4 => some s4.1)
def m_w_toExpr (p0a : (List (Int × Int × Int × Int))) : Option (List (Int × Int × Int × Int)) :=
  (m_w_toTokenS p0a).bind fun r1 => some r1
def m_w_toRegistered (p0a : Int × ((List (Int × Int × Int × Int))) × Int) : Option (Int × ((List (Int × Int × Int × Int))) × Int) :=
  (m_w_toExpr p0a.2.1).bind fun r1 => some (p0a.1, r1, p0a.2.2)
def m_w_toRegisteredS_l0 (p0a : List (Int × ((List (Int × Int × Int × Int))) × Int)) (s3 : (List (Int × ((List (Int × Int × Int × Int))) × Int)) × Int) : Option (Out (List (Int × ((List (Int × Int × Int × Int))) × Int)) ((List (Int × ((List (Int × Int × Int × Int))) × Int)) × Int)) :=
  if decide (s3.2 < (p0a.length : Int)) then ((getI p0a s3.2).bind fun x6 => (m_w_toRegistered (x6.1, x6.2.1, x6.2.2)).bind fun r6 => (getI s3.1 s3.2).bind fun x7 => some (.nxt (s3.1.set s3.2.toNat (r6.1, r6.2.1, r6.2.2), IntKind.i64.wrap (s3.2 + 1)))) else (some (.brk (s3.1, s3.2)))
def m_w_toRegisteredS (p0a : List (Int × ((List (Int × Int × Int × Int))) × Int)) : Option (List (Int × ((List (Int × Int × Int × Int))) × Int)) :=
  (mkI 40 (p0a.length : Int) ((0, [], 0) : Int × ((List (Int × Int × Int × Int))) × Int)).bind fun x1 => bindL (loopM (m_w_toRegisteredS_l0 p0a) FUEL (x1, 0)) (fun r => some r) (fun s4 => some s4.1)
def m_w_toRegistry (p0a : (List (Int × (List Bool) × (List (List Int)))) × (List (Int × ((List (Int × Int × Int × Int))) × Int))) : Option ((List (Int × (List Bool) × (List (List Int)))) × (List (Int × ((List (Int × Int × Int × Int))) × Int))) :=
  (m_w_toAutomatonS p0a.1).bind fun r1 => (m_w_toRegisteredS p0a.2).bind fun r2 => some (r1, r2)
def m_w_eqBoolS_l0 (p0a : List Bool) (p1b : List Bool) (s3 : Int) : Option (Out Bool Int) :=
  if decide (s3 < (p0a.length : Int)) then ((getI p0a s3).bind fun x5 => (getI p1b s3).bind fun x6 => if x5 != x6 then (some (.ret false)) else (some (.nxt (IntKind.i64.wrap (s3 + 1))))) else (some (.brk s3))
def m_w_eqBoolS (p0a : List Bool) (p1b : List Bool) : Option Bool :=
  if (p0a.length : Int) != (p1b.length : Int) then (some false) else (bindL (loopM (m_w_eqBoolS_l0 p0a p1b) FUEL 0) (fun r => some r) (fun s4 => some true))
def m_w_eqIntS_l0 (p0a : List Int) (p1b : List Int) (s3 : Int) : Option (Out Bool Int) :=
  if decide (s3 < (p0a.length : Int)) then ((getI p0a s3).bind fun x5 => (getI p1b s3).bind fun x6 => if x5 != x6 then (some (.ret false)) else (some (.nxt (IntKind.i64.wrap (s3 + 1))))) else (some (.brk s3))
def m_w_eqIntS (p0a : List Int) (p1b : List Int) : Option Bool :=
  if (p0a.length : Int) != (p1b.length : Int) then (some false) else (bindL (loopM (m_w_eqIntS_l0 p0a p1b) FUEL 0) (fun r => some r) (fun s4 => some true))
def m_w_eqIntSS_l0 (p0a : List (List Int)) (p1b : List (List Int)) (s3 : Int) : Option (Out Bool Int) :=
  if decide (s3 < (p0a.length : Int)) then ((getI p0a s3).bind fun x5 => (getI p1b s3).bind fun x6 => (m_w_eqIntS x5 x6).bind fun r9 => if r9 then (some (.nxt (IntKind.i64.wrap (s3 + 1)))) else (some (.ret false))) else (some (.brk s3))
def m_w_eqIntSS (p0a : List (List Int)) (p1b : List (List Int)) : Option Bool :=
  if (p0a.length : Int) != (p1b.length : Int) then (some false) else (bindL (loopM (m_w_eqIntSS_l0 p0a p1b) FUEL 0) (fun r => some r) (fun s4 => some true))
def m_w_eqAutomaton (p0a : Int × (List Bool) × (List (List Int))) (p1b : Int × (List Bool) × (List (List Int))) : Option Bool :=
  if p0a.1 != p1b.1 then (some false) else ((m_w_eqBoolS p0a.2.1 p1b.2.1).bind fun r1 => if r1 then ((m_w_eqIntSS p0a.2.2 p1b.2.2).bind fun r2 => if r2 then (some true) else (some false)) else (some false))
def m_w_eqAutomatonS_l0 (p0a : List (Int × (List Bool) × (List (List Int)))) (p1b : List (Int × (List Bool) × (List (List Int)))) (s3 : Int) : Option (Out Bool Int) :=
  if decide (s3 < (p0a.length : Int)) then ((getI p0a s3).bind fun x5 => (getI p1b s3).bind fun x6 => (m_w_eqAutomaton (x5.1, x5.2.1, x5.2.2) (x6.1, x6.2.1, x6.2.2)).bind fun r15 => if r15 then (some (.nxt (IntKind.i64.wrap (s3 + 1)))) else (some (.ret false))) else (some (.brk s3))
def m_w_eqAutomatonS (p0a : List (Int × (List Bool) × (List (List Int)))) (p1b : List (Int × (List Bool) × (List (List Int)))) : Option Bool :=
  if (p0a.length : Int) != (p1b.length : Int) then (some false) else (bindL (loopM (m_w_eqAutomatonS_l0 p0a p1b) FUEL 0) (fun r => some r) (fun s4 => some true))
def m_w_eqToken (p0a : Int × Int × Int × Int) (p1b : Int × Int × Int × Int) : Option Bool :=
  if p0a.1 != p1b.1 then (some false) else (if p0a.2.1 != p1b.2.1 then (some false) else (if p0a.2.2.1 != p1b.2.2.1 then (some false) else (if p0a.2.2.2 != p1b.2.2.2 then (some false) else (some true))))
def m_w_eqTokenS_l0 (p0a : List (Int × Int × Int × Int)) (p1b : List (Int × Int × Int × Int)) (s3 : Int) : Option (Out Bool Int) :=
  if decide (s3 < (p0a.length : Int)) then ((getI p0a s3).bind fun x5 => (getI p1b s3).bind fun x6 => (m_w_eqToken (x5.1, x5.2.1, x5.2.2.1, x5.2.2.2) (x6.1, x6.2.1, x6.2.2.1, x6.2.2.2)).bind fun r3 => if r3 then (some (.nxt (IntKind.i64.wrap (s3 + 1)))) else (some (.ret false))) else (some (.brk s3))
def m_w_eqTokenS (p0a : List (Int × Int × Int × Int)) (p1b : List (Int × Int × Int × Int)) : Option Bool :=
  if (p0a.length : Int) != (p1b.length : Int) then (some false) else (bindL (loopM (m_w_eqTokenS_l0 p0a p1b) FUEL 0) (fun r => some r) (fun s4 => some true))
def m_w_eqExpr (p0a : (List (Int × Int × Int × Int))) (p1b : (List (Int × Int × Int × Int))) : Option Bool :=
  (m_w_eqTokenS p0a p1b).bind fun r1 => if r1 then (some true) else (some false)
def m_w_eqRegistered (p0a : Int × ((List (Int × Int × Int × Int))) × Int) (p1b : Int × ((List (Int × Int × Int × Int))) × Int) : Option Bool :=
  if p0a.1 != p1b.1 then (some false) else ((m_w_eqExpr p0a.2.1 p1b.2.1).bind fun r1 => if r1 then (if p0a.2.2 != p1b.2.2 then (some false) else (some true)) else (some false))
def m_w_eqRegisteredS_l0 (p0a : List (Int × ((List (Int × Int × Int × Int))) × Int)) (p1b : List (Int × ((List (Int × Int × Int × Int))) × Int)) (s3 : Int) : Option (Out Bool Int) :=
  if decide (s3 < (p0a.length : Int)) then ((getI p0a s3).bind fun x5 => (getI p1b s3).bind fun x6 => (m_w_eqRegistered (x5.1, x5.2.1, x5.2.2) (x6.1, x6.2.1, x6.2.2)).bind fun r9 => if r9 then (some (.nxt (IntKind.i64.wrap (s3 + 1)))) else (some (.ret false))) else (some (.brk s3))
def m_w_eqRegisteredS (p0a : List (Int × ((List (Int × Int × Int × Int))) × Int)) (p1b : List (Int × ((List (Int × Int × Int × Int))) × Int)) : Option Bool :=
  if (p0a.length : Int) != (p1b.length : Int) then (some false) else (bindL (loopM (m_w_eqRegisteredS_l0 p0a p1b) FUEL 0) (fun r => some r) (fun s4 => some true))
def m_w_eqRegistry (p0a : (List (Int × (List Bool) × (List (List Int)))) × (List (Int × ((List (Int × Int × Int × Int))) × Int))) (p1b : (List (Int × (List Bool) × (List (List Int)))) × (List (Int × ((List (Int × Int × Int × Int))) × Int))) : Option Bool :=
  (m_w_eqAutomatonS p0a.1 p1b.1).bind fun r1 => if r1 then ((m_w_eqRegisteredS p0a.2 p1b.2).bind fun r2 => if r2 then (some true) else (some false)) else (some false)
def m_w_markBoolS_l0 (s3 : (List Bool) × Int × Int) : Option (Out (Int × (List Bool)) ((List Bool) × Int × Int)) :=
  if decide (s3.2.2 < (s3.1.length : Int)) then ((getI s3.1 s3.2.2).bind fun x3 => some (.nxt (s3.1.set s3.2.2.toNat ((Int.tmod s3.2.1 3) == 0), IntKind.i64.wrap (s3.2.1 + 1), IntKind.i64.wrap (s3.2.2 + 1)))) else (some (.brk (s3.1, s3.2.1, s3.2.2)))
def m_w_markBoolS (p0a : List Bool) (p1k : Int) : Option (Int × (List Bool)) :=
  bindL (loopM (m_w_markBoolS_l0) FUEL (p0a, p1k, 0)) (fun r => some r) (fun s4 => some (s4.2.1, s4.1))
def m_w_markIntS_l0 (s3 : (List Int) × Int × Int) : Option (Out (Int × (List Int)) ((List Int) × Int × Int)) :=
  if decide (s3.2.2 < (s3.1.length : Int)) then ((getI s3.1 s3.2.2).bind fun x3 => some (.nxt (s3.1.set s3.2.2.toNat s3.2.1, IntKind.i64.wrap (s3.2.1 + 1), IntKind.i64.wrap (s3.2.2 + 1)))) else (some (.brk (s3.1, s3.2.1, s3.2.2)))
def m_w_markIntS (p0a : List Int) (p1k : Int) : Option (Int × (List Int)) :=
  bindL (loopM (m_w_markIntS_l0) FUEL (p0a, p1k, 0)) (fun r => some r) (fun s4 => some (s4.2.1, s4.1))
def m_w_markIntSS_l0 (s3 : (List (List Int)) × Int × Int) : Option (Out (Int × (List (List Int))) ((List (List Int)) × Int × Int)) :=
  if decide (s3.2.2 < (s3.1.length : Int)) then ((getI s3.1 s3.2.2).bind fun x3 => (m_w_markIntS x3 s3.2.1).bind fun r6 => some (.nxt (s3.1.set s3.2.2.toNat r6.2, r6.1, IntKind.i64.wrap (s3.2.2 + 1)))) else (some (.brk (s3.1, s3.2.1, s3.2.2)))
def m_w_markIntSS (p0a : List (List Int)) (p1k : Int) : Option (Int × (List (List Int))) :=
  bindL (loopM (m_w_markIntSS_l0) FUEL (p0a, p1k, 0)) (fun r => some r) (fun s4 => some (s4.2.1, s4.1))
def m_w_markAutomatonS_l0 (s3 : (List (Int × (List Bool) × (List (List Int)))) × Int × Int) : Option (Out (Int × (List (Int × (List Bool) × (List (List Int))))) ((List (Int × (List Bool) × (List (List Int)))) × Int × Int)) :=
  if decide (s3.2.2 < (s3.1.length : Int)) then ((getI s3.1 s3.2.2).bind fun x7 => (getI (s3.1.set s3.2.2.toNat (s3.2.1, x7.2.1, x7.2.2)) s3.2.2).bind fun x8 => (m_w_markBoolS x8.2.1 (IntKind.i64.wrap (s3.2.1 + 1))).bind fun r10 => (getI ((s3.1.set s3.2.2.toNat (s3.2.1, x7.2.1, x7.2.2)).set s3.2.2.toNat (x8.1, r10.2, x8.2.2)) s3.2.2).bind fun x9 => (m_w_markIntSS x9.2.2 r10.1).bind fun r12 => some (.nxt (((s3.1.set s3.2.2.toNat (s3.2.1, x7.2.1, x7.2.2)).set s3.2.2.toNat (x8.1, r10.2, x8.2.2)).set s3.2.2.toNat (x9.1, x9.2.1, r12.2), r12.1, IntKind.i64.wrap (s3.2.2 + 1)))) else (some (.brk (s3.1, s3.2.1, s3.2.2)))
def m_w_markAutomatonS (p0a : List (Int × (List Bool) × (List (List Int)))) (p1k : Int) : Option (Int × (List (Int × (List Bool) × (List (List Int))))) :=
  bindL (loopM (m_w_markAutomatonS_l0) FUEL (p0a, p1k, 0)) (fun r => some r) (fun s4 => some (s4.2.1, s4.1))
def m_w_markTokenS_l0 (s3 : (List (Int × Int × Int × Int)) × Int × Int) : Option (Out (Int × (List (Int × Int × Int × Int))) ((List (Int × Int × Int × Int)) × Int × Int)) :=
  if decide (s3.2.2 < (s3.1.length : Int)) then ((getI s3.1 s3.2.2).bind fun x9 => (getI (s3.1.set s3.2.2.toNat (s3.2.1, x9.2.1, x9.2.2.1, x9.2.2.2)) s3.2.2).bind fun x10 => (getI ((s3.1.set s3.2.2.toNat (s3.2.1, x9.2.1, x9.2.2.1, x9.2.2.2)).set s3.2.2.toNat (x10.1, IntKind.i64.wrap (s3.2.1 + 1), x10.2.2.1, x10.2.2.2)) s3.2.2).bind fun x11 => (getI (((s3.1.set s3.2.2.toNat (s3.2.1, x9.2.1, x9.2.2.1, x9.2.2.2)).set s3.2.2.toNat (x10.1, IntKind.i64.wrap (s3.2.1 + 1), x10.2.2.1, x10.2.2.2)).set s3.2.2.toNat (x11.1, x11.2.1, IntKind.i64.wrap ((IntKind.i64.wrap (s3.2.1 + 1)) + 1), x11.2.2.2)) s3.2.2).bind fun x12 => some (.nxt ((((s3.1.set s3.2.2.toNat (s3.2.1, x9.2.1, x9.2.2.1, x9.2.2.2)).set s3.2.2.toNat (x10.1, IntKind.i64.wrap (s3.2.1 + 1), x10.2.2.1, x10.2.2.2)).set s3.2.2.toNat (x11.1, x11.2.1, IntKind.i64.wrap ((IntKind.i64.wrap (s3.2.1 + 1)) + 1), x11.2.2.2)).set s3.2.2.toNat (x12.1, x12.2.1, x12.2.2.1, IntKind.i64.wrap ((IntKind.i64.wrap ((IntKind.i64.wrap (s3.2.1 + 1)) + 1)) + 1)), IntKind.i64.wrap ((IntKind.i64.wrap ((IntKind.i64.wrap ((IntKind.i64.wrap (s3.2.1 + 1)) + 1)) + 1)) + 1), IntKind.i64.wrap (s3.2.2 + 1)))) else (some (.brk (s3.1, s3.2.1, s3.2.2)))
def m_w_markTokenS (p0a : List (Int × Int × Int × Int)) (p1k : Int) : Option (Int × (List (Int × Int × Int × Int))) :=
  bindL (loopM (m_w_markTokenS_l0) FUEL (p0a, p1k, 0)) (fun r => some r) (fun s4 => some (s4.2.1, s4.1))
def m_w_markRegisteredS_l0 (s3 : (List (Int × ((List (Int × Int × Int × Int))) × Int)) × Int × Int) : Option (Out (Int × (List (Int × ((List (Int × Int × Int × Int))) × Int))) ((List (Int × ((List (Int × Int × Int × Int))) × Int)) × Int × Int)) :=
  if decide (s3.2.2 < (s3.1.length : Int)) then ((getI s3.1 s3.2.2).bind fun x7 => (getI (s3.1.set s3.2.2.toNat (s3.2.1, x7.2.1, x7.2.2)) s3.2.2).bind fun x8 => (m_w_markTokenS x8.2.1 (IntKind.i64.wrap (s3.2.1 + 1))).bind fun r6 => (getI ((s3.1.set s3.2.2.toNat (s3.2.1, x7.2.1, x7.2.2)).set s3.2.2.toNat (x8.1, (r6.2), x8.2.2)) s3.2.2).bind fun x9 => some (.nxt (((s3.1.set s3.2.2.toNat (s3.2.1, x7.2.1, x7.2.2)).set s3.2.2.toNat (x8.1, (r6.2), x8.2.2)).set s3.2.2.toNat (x9.1, x9.2.1, r6.1), IntKind.i64.wrap (r6.1 + 1), IntKind.i64.wrap (s3.2.2 + 1)))) else (some (.brk (s3.1, s3.2.1, s3.2.2)))
def m_w_markRegisteredS (p0a : List (Int × ((List (Int × Int × Int × Int))) × Int)) (p1k : Int) : Option (Int × (List (Int × ((List (Int × Int × Int × Int))) × Int))) :=
  bindL (loopM (m_w_markRegisteredS_l0) FUEL (p0a, p1k, 0)) (fun r => some r) (fun s4 => some (s4.2.1, s4.1))
def m_w_markRegistry (p0a : (List (Int × (List Bool) × (List (List Int)))) × (List (Int × ((List (Int × Int × Int × Int))) × Int))) (p1k : Int) : Option (Int × ((List (Int × (List Bool) × (List (List Int)))) × (List (Int × ((List (Int × Int × Int × Int))) × Int)))) :=
  (m_w_markAutomatonS p0a.1 p1k).bind fun r1 => (m_w_markRegisteredS p0a.2 r1.1).bind fun r2 => some (r2.1, (r1.2, r2.2))
def m_g_slices_EqualFunc_S_Automaton_S_Automaton_Automaton_Automaton_l0 (p0s1 : List (Int × (List Bool) × (List (List Int)))) (p1s2 : List (Int × (List Bool) × (List (List Int)))) (p2eq : (Int × (List Bool) × (List (List Int))) → (Int × (List Bool) × (List (List Int))) → Option Bool) (s3 : Int) : Option (Out Bool Int) :=
  if decide (s3 < (p0s1.length : Int)) then ((getI p0s1 s3).bind fun x5 => (getI p1s2 s3).bind fun x6 => (p2eq (x5.1, x5.2.1, x5.2.2) (x6.1, x6.2.1, x6.2.2)).bind fun r15 => if r15 then (some (.nxt (IntKind.i64.wrap (s3 + 1)))) else (some (.ret false))) else (some (.brk s3))
def m_g_slices_EqualFunc_S_Automaton_S_Automaton_Automaton_Automaton (p0s1 : List (Int × (List Bool) × (List (List Int)))) (p1s2 : List (Int × (List Bool) × (List (List Int)))) (p2eq : (Int × (List Bool) × (List (List Int))) → (Int × (List Bool) × (List (List Int))) → Option Bool) : Option Bool :=
  if (p0s1.length : Int) != (p1s2.length : Int) then (some false) else (bindL (loopM (m_g_slices_EqualFunc_S_Automaton_S_Automaton_Automaton_Automaton_l0 p0s1 p1s2 p2eq) FUEL 0) (fun r => some r) (fun s4 => some true))
def m_g_slices_Equal_S_bool_bool_l0 (p0s1 : List Bool) (p1s2 : List Bool) (s3 : Int) : Option (Out Bool Int) :=
  if decide (s3 < (p0s1.length : Int)) then ((getI p0s1 s3).bind fun x5 => (getI p1s2 s3).bind fun x6 => if x5 != x6 then (some (.ret false)) else (some (.nxt (IntKind.i64.wrap (s3 + 1))))) else (some (.brk s3))
def m_g_slices_Equal_S_bool_bool (p0s1 : List Bool) (p1s2 : List Bool) : Option Bool :=
  if (p0s1.length : Int) != (p1s2.length : Int) then (some false) else (bindL (loopM (m_g_slices_Equal_S_bool_bool_l0 p0s1 p1s2) FUEL 0) (fun r => some r) (fun s4 => some true))
def m_g_slices_EqualFunc_S_S_int_S_S_int_S_int_S_int_l0 (p0s1 : List (List Int)) (p1s2 : List (List Int)) (p2eq : (List Int) → (List Int) → Option Bool) (s3 : Int) : Option (Out Bool Int) :=
  if decide (s3 < (p0s1.length : Int)) then ((getI p0s1 s3).bind fun x5 => (getI p1s2 s3).bind fun x6 => (p2eq x5 x6).bind fun r9 => if r9 then (some (.nxt (IntKind.i64.wrap (s3 + 1)))) else (some (.ret false))) else (some (.brk s3))
def m_g_slices_EqualFunc_S_S_int_S_S_int_S_int_S_int (p0s1 : List (List Int)) (p1s2 : List (List Int)) (p2eq : (List Int) → (List Int) → Option Bool) : Option Bool :=
  if (p0s1.length : Int) != (p1s2.length : Int) then (some false) else (bindL (loopM (m_g_slices_EqualFunc_S_S_int_S_S_int_S_int_S_int_l0 p0s1 p1s2 p2eq) FUEL 0) (fun r => some r) (fun s4 => some true))
def m_g_slices_Equal_S_int_int_l0 (p0s1 : List Int) (p1s2 : List Int) (s3 : Int) : Option (Out Bool Int) :=
  if decide (s3 < (p0s1.length : Int)) then ((getI p0s1 s3).bind fun x5 => (getI p1s2 s3).bind fun x6 => if x5 != x6 then (some (.ret false)) else (some (.nxt (IntKind.i64.wrap (s3 + 1))))) else (some (.brk s3))
def m_g_slices_Equal_S_int_int (p0s1 : List Int) (p1s2 : List Int) : Option Bool :=
  if (p0s1.length : Int) != (p1s2.length : Int) then (some false) else (bindL (loopM (m_g_slices_Equal_S_int_int_l0 p0s1 p1s2) FUEL 0) (fun r => some r) (fun s4 => some true))
def m_i_EqualAutomata_1 (p0x : List Int) (p1y : List Int) : Option Bool :=
  (m_g_slices_Equal_S_int_int p0x p1y).bind fun r1 => some r1
def m_i_EqualAutomata (p0a : Int × (List Bool) × (List (List Int))) (p1b : Int × (List Bool) × (List (List Int))) : Option Bool :=
  if p0a.1 == p1b.1 then ((m_g_slices_Equal_S_bool_bool p0a.2.1 p1b.2.1).bind fun r1 => if r1 then ((m_g_slices_EqualFunc_S_S_int_S_S_int_S_int_S_int p0a.2.2 p1b.2.2 (fun a0 a1 => m_i_EqualAutomata_1 a0 a1)).bind fun r2 => some r2) else (some false)) else (some false)
def m_g_slices_EqualFunc_S_Registered_S_Registered_Registered_Registered_l0 (p0s1 : List (Int × ((List (Int × Int × Int × Int))) × Int)) (p1s2 : List (Int × ((List (Int × Int × Int × Int))) × Int)) (p2eq : (Int × ((List (Int × Int × Int × Int))) × Int) → (Int × ((List (Int × Int × Int × Int))) × Int) → Option Bool) (s3 : Int) : Option (Out Bool Int) :=
  if decide (s3 < (p0s1.length : Int)) then ((getI p0s1 s3).bind fun x5 => (getI p1s2 s3).bind fun x6 => (p2eq (x5.1, x5.2.1, x5.2.2) (x6.1, x6.2.1, x6.2.2)).bind fun r9 => if r9 then (some (.nxt (IntKind.i64.wrap (s3 + 1)))) else (some (.ret false))) else (some (.brk s3))
def m_g_slices_EqualFunc_S_Registered_S_Registered_Registered_Registered (p0s1 : List (Int × ((List (Int × Int × Int × Int))) × Int)) (p1s2 : List (Int × ((List (Int × Int × Int × Int))) × Int)) (p2eq : (Int × ((List (Int × Int × Int × Int))) × Int) → (Int × ((List (Int × Int × Int × Int))) × Int) → Option Bool) : Option Bool :=
  if (p0s1.length : Int) != (p1s2.length : Int) then (some false) else (bindL (loopM (m_g_slices_EqualFunc_S_Registered_S_Registered_Registered_Registered_l0 p0s1 p1s2 p2eq) FUEL 0) (fun r => some r) (fun s4 => some true))
def m_g_slices_Equal_S_Token_Token_l0 (p0s1 : List (Int × Int × Int × Int)) (p1s2 : List (Int × Int × Int × Int)) (s3 : Int) : Option (Out Bool Int) :=
  if decide (s3 < (p0s1.length : Int)) then ((getI p0s1 s3).bind fun x5 => (getI p1s2 s3).bind fun x6 => if (x5.1 == x6.1) && ((x5.2.1 == x6.2.1) && ((x5.2.2.1 == x6.2.2.1) && ((x5.2.2.2 == x6.2.2.2) && true))) then (some (.nxt (IntKind.i64.wrap (s3 + 1)))) else (some (.ret false))) else (some (.brk s3))
def m_g_slices_Equal_S_Token_Token (p0s1 : List (Int × Int × Int × Int)) (p1s2 : List (Int × Int × Int × Int)) : Option Bool :=
  if (p0s1.length : Int) != (p1s2.length : Int) then (some false) else (bindL (loopM (m_g_slices_Equal_S_Token_Token_l0 p0s1 p1s2) FUEL 0) (fun r => some r) (fun s4 => some true))
def m_i_EqualExprs (p0a : (List (Int × Int × Int × Int))) (p1b : (List (Int × Int × Int × Int))) : Option Bool :=
  (m_g_slices_Equal_S_Token_Token p0a p1b).bind fun r1 => some r1
def m_i_equalQueries (p0a : Int × ((List (Int × Int × Int × Int))) × Int) (p1b : Int × ((List (Int × Int × Int × Int))) × Int) : Option Bool :=
  if p0a.1 == p1b.1 then ((m_i_EqualExprs p0a.2.1 p1b.2.1).bind fun r1 => if r1 then (some (p0a.2.2 == p1b.2.2)) else (some false)) else (some false)
def m_i_EqualRegistries (p0a : (List (Int × (List Bool) × (List (List Int)))) × (List (Int × ((List (Int × Int × Int × Int))) × Int))) (p1b : (List (Int × (List Bool) × (List (List Int)))) × (List (Int × ((List (Int × Int × Int × Int))) × Int))) : Option Bool :=
  (m_g_slices_EqualFunc_S_Automaton_S_Automaton_Automaton_Automaton p0a.1 p1b.1 (fun a0 a1 => m_i_EqualAutomata a0 a1)).bind fun r1 => if r1 then ((m_g_slices_EqualFunc_S_Registered_S_Registered_Registered_Registered p0a.2 p1b.2 (fun a0 a1 => m_i_equalQueries a0 a1)).bind fun r2 => some r2) else (some false)
def m_i_within (p0n : Int) (p1a : Int) (p2b : Int) : Option Bool :=
  if decide (p0n ≥ p1a) then (some (decide (p0n ≤ p2b))) else (some false)
def m_i_isLetter (p0n : Int) : Option Bool :=
  (m_i_within p0n 0 8).bind fun r1 => some r1
def m_i_tokenOk (p0t : Int × Int × Int × Int) : Option Bool :=
  if p0t.1 == 3 then ((m_i_isLetter p0t.2.1).bind fun r3 => if r3 then (if p0t.2.2.1 == 0 then (some (p0t.2.2.2 == 0)) else (some false)) else (some false)) else (if p0t.1 == 7 then (if p0t.2.1 == 0 then ((m_i_within p0t.2.2.1 0 p0t.2.2.2).bind fun r1 => if r1 then ((m_i_within p0t.2.2.2 1 3).bind fun r2 => some r2) else (some false)) else (some false)) else (Option.bind ((if p0t.1 == 1 then (some (p0t.1 == 1)) else (if p0t.1 == 2 then (some (p0t.1 == 2)) else (if p0t.1 == 4 then (some (p0t.1 == 4)) else (if p0t.1 == 5 then (some (p0t.1 == 5)) else (some (p0t.1 == 6))))) : Option Bool)) (fun s1 => if s1 then (some ((p0t.1 == p0t.1) && ((p0t.2.1 == 0) && ((p0t.2.2.1 == 0) && ((p0t.2.2.2 == 0) && true))))) else (some false))))

def m_i_treeOf_l0 (p0e : List (Int × Int × Int × Int)) (s1 : (List (Tr (Int × Int × Int × Int))) × Int) : Option (Out (Tr (Int × Int × Int × Int)) ((List (Tr (Int × Int × Int × Int))) × Int)) :=
  if decide (s1.2 < (p0e.length : Int)) then ((getI p0e s1.2).bind fun x2 => Option.bind ((Option.bind ((if x2.1 == 4 then (some (x2.1 == 4)) else (some (x2.1 == 5)) : Option Bool)) (fun s3 => if s3 then (some 2) else (Option.bind ((if x2.1 == 6 then (some (x2.1 == 6)) else (some (x2.1 == 7)) : Option Bool)) (fun s4 => if s4 then (some 1) else (some 0)))) : Option Int)) (fun s5 => (m_i_tokenOk (x2.1, x2.2.1, x2.2.2.1, x2.2.2.2)).bind fun r6 => if r6 then (if decide ((IntKind.i64.wrap ((s1.1.length : Int) - s5)) < 0) then (some (.ret Tr.nil)) else ((chk (And (0 ≤ (IntKind.i64.wrap ((s1.1.length : Int) - s5))) ((IntKind.i64.wrap ((s1.1.length : Int) - s5)) ≤ (s1.1.length : Int)))).bind fun _ => (appI 8 ([] : List (Tr (Int × Int × Int × Int))) (s1.1.drop ((IntKind.i64.wrap ((s1.1.length : Int) - s5)).toNat))).bind fun z8 => (chk (And (0 ≤ (IntKind.i64.wrap ((s1.1.length : Int) - s5))) ((IntKind.i64.wrap ((s1.1.length : Int) - s5)) ≤ (s1.1.length : Int)))).bind fun _ => (appI 8 (s1.1.take ((IntKind.i64.wrap ((s1.1.length : Int) - s5)).toNat)) ([Tr.node (x2.1, x2.2.1, x2.2.2.1, x2.2.2.2) z8])).bind fun z10 => some (.nxt (z10, IntKind.i64.wrap (s1.2 + 1))))) else (some (.ret Tr.nil)))) else (some (.brk (s1.1, s1.2)))
def m_i_treeOf (p0e : List (Int × Int × Int × Int)) : Option (Tr (Int × Int × Int × Int)) :=
  bindL (loopM (m_i_treeOf_l0 p0e) FUEL (([] : List (Tr (Int × Int × Int × Int))), 0)) (fun r11 => some r11) (fun s12 => if (s12.1.length : Int) != 1 then (some Tr.nil) else ((getI s12.1 0).bind fun x13 => some x13))
def m_i_IsExpr (p0e : List (Int × Int × Int × Int)) : Option Bool :=
  (m_i_treeOf p0e).bind fun r0 => some (cond.match_1 (fun (u1 : Bool) => Bool) (Tr.isNil r0) (fun (u2 : Unit) => false) (fun (u3 : Unit) => true))
def m_i_IsValidExpr (p0e : (List (Int × Int × Int × Int))) : Option Bool :=
  if decide ((p0e.length : Int) ≤ 24) then ((m_i_IsExpr p0e).bind fun r1 => some r1) else (some false)
def m_i_tree_bound_l0 (mrec : (Tr (Int × Int × Int × Int)) → Option Int) (p0x : Tr (Int × Int × Int × Int)) (z1 : (Int × Int × Int × Int) × List (Tr (Int × Int × Int × Int))) (s3 : Int × Int) : Option (Out Int (Int × Int)) :=
  if decide (s3.2 < (z1.2.length : Int)) then (Option.bind (((getI z1.2 s3.2).bind fun x4 => (Tr.get p0x).bind fun z5 => (Tr.get p0x).bind fun z6 => if z6.1.1 == 7 then ((mrec x4).bind fun r7 => (Tr.get p0x).bind fun z8 => (Tr.get p0x).bind fun z9 => some (IntKind.i64.wrap (s3.1 + (IntKind.i64.wrap ((IntKind.i64.wrap (r7 + 3)) * z9.1.2.2.2))))) else ((mrec x4).bind fun r10 => some (IntKind.i64.wrap (s3.1 + r10))) : Option Int)) (fun s11 => some (.nxt (s11, IntKind.i64.wrap (s3.2 + 1))))) else (some (.brk (s3.1, s3.2)))
def m_i_tree_bound : Nat → (Tr (Int × Int × Int × Int)) → Option Int
  | 0, _ => none
  | n + 1, p0x =>
    (Tr.get p0x).bind fun z0 => (Tr.get p0x).bind fun z1 => bindL (loopM (m_i_tree_bound_l0 (m_i_tree_bound n) p0x z1) FUEL (1, 0)) (fun r12 => some r12) (fun s13 => some (Min.min s13.1 100000))
def m_i_leaf (p0kind : Int) : Option (Tr (Int × Int × Int × Int)) :=
  some (Tr.node (p0kind, 0, 0, 0) ([] : List (Tr (Int × Int × Int × Int))))
def m_i_repeated : Nat → (Tr (Int × Int × Int × Int)) → Int → Int → Option (Tr (Int × Int × Int × Int))
  | 0, _, _, _ => none
  | n + 1, p0x, p1low, p2high =>
    if p2high == 0 then ((m_i_leaf 2).bind fun r0 => some r0) else (((m_i_repeated n) p0x (Max.max 0 (IntKind.i64.wrap (p1low - 1))) (IntKind.i64.wrap (p2high - 1))).bind fun r1 => if decide (p1low > 0) then (some (Tr.node (4, 0, 0, 0) ([p0x, r1]))) else ((m_i_leaf 2).bind fun r2 => some (Tr.node (5, 0, 0, 0) ([Tr.node (4, 0, 0, 0) ([p0x, r1]), r2]))))
def m_i_tree_expand_l0 (mrec : (Tr (Int × Int × Int × Int)) → Option (Tr (Int × Int × Int × Int))) (z14 : (Int × Int × Int × Int) × List (Tr (Int × Int × Int × Int))) (s17 : Int × Int × Int × Int × Int × List (Tr (Int × Int × Int × Int))) : Option (Out (Tr (Int × Int × Int × Int)) (Int × Int × Int × Int × Int × List (Tr (Int × Int × Int × Int)))) :=
  if decide (s17.1 < (z14.2.length : Int)) then ((getI z14.2 s17.1).bind fun x18 => (mrec x18).bind fun r19 => (appI 8 s17.2.2.2.2.2 ([r19])).bind fun z20 => some (.nxt (IntKind.i64.wrap (s17.1 + 1), s17.2.1, s17.2.2.1, s17.2.2.2.1, s17.2.2.2.2.1, z20))) else (some (.brk (s17.1, s17.2.1, s17.2.2.1, s17.2.2.2.1, s17.2.2.2.2.1, s17.2.2.2.2.2)))
def m_i_tree_expand : Nat → (Tr (Int × Int × Int × Int)) → Option (Tr (Int × Int × Int × Int))
  | 0, _ => none
  | n + 1, p0x =>
    (Tr.get p0x).bind fun z0 => (Tr.get p0x).bind fun z1 => if z1.1.1 == 7 then ((Tr.get p0x).bind fun z2 => (Tr.get p0x).bind fun z3 => (getI z3.2 0).bind fun x4 => ((m_i_tree_expand n) x4).bind fun r5 => (Tr.get p0x).bind fun z6 => (Tr.get p0x).bind fun z7 => (Tr.get p0x).bind fun z8 => (Tr.get p0x).bind fun z9 => (m_i_repeated FUELR r5 z7.1.2.2.1 z9.1.2.2.2).bind fun r10 => some r10) else ((Tr.get p0x).bind fun z11 => (Tr.get p0x).bind fun z12 => (Tr.get p0x).bind fun z13 => (Tr.get p0x).bind fun z14 => bindL (loopM (m_i_tree_expand_l0 (m_i_tree_expand n) z14) FUEL (0, z12.1.1, z12.1.2.1, z12.1.2.2.1, z12.1.2.2.2, ([] : List (Tr (Int × Int × Int × Int))))) (fun r21 => some r21) (fun s22 => some (Tr.node (s22.2.1, s22.2.2.1, s22.2.2.2.1, s22.2.2.2.2.1) s22.2.2.2.2.2)))
def m_i_tree_collect_l0 (mrec : (Tr (Int × Int × Int × Int)) → (List (Int × Int × Int × Int)) → Option (List (Int × Int × Int × Int))) (z1 : (Int × Int × Int × Int) × List (Tr (Int × Int × Int × Int))) (s4 : Int × List (Int × Int × Int × Int)) : Option (Out (List (Int × Int × Int × Int)) (Int × List (Int × Int × Int × Int))) :=
  if decide (s4.1 < (z1.2.length : Int)) then ((getI z1.2 s4.1).bind fun x5 => (mrec x5 s4.2).bind fun r6 => some (.nxt (IntKind.i64.wrap (s4.1 + 1), r6))) else (some (.brk (s4.1, s4.2)))
def m_i_tree_collect : Nat → (Tr (Int × Int × Int × Int)) → (List (Int × Int × Int × Int)) → Option (List (Int × Int × Int × Int))
  | 0, _, _ => none
  | n + 1, p0x, p1out =>
    (Tr.get p0x).bind fun z0 => (Tr.get p0x).bind fun z1 => bindL (loopM (m_i_tree_collect_l0 (m_i_tree_collect n) z1) FUEL (0, p1out)) (fun r7 => some r7) (fun s8 => (Tr.get p0x).bind fun z9 => (Tr.get p0x).bind fun z10 => (appI 32 s8.2 ([(z10.1.1, z10.1.2.1, z10.1.2.2.1, z10.1.2.2.2)])).bind fun z11 => some z11)
def m_i_tree_expr (p0x : Tr (Int × Int × Int × Int)) : Option (List (Int × Int × Int × Int)) :=
  (m_i_tree_collect FUELR p0x ([] : List (Int × Int × Int × Int))).bind fun r0 => some r0
def m_i_ExpandExpr (p0e : List (Int × Int × Int × Int)) : Option ((List (Int × Int × Int × Int)) × Bool) :=
  (m_i_IsValidExpr p0e).bind fun r0 => if r0 then ((m_i_treeOf p0e).bind fun r1 => (m_i_tree_bound FUELR r1).bind fun r2 => if decide (r2 > 5000) then (some (([] : List (Int × Int × Int × Int)), false)) else ((m_i_tree_expand FUELR r1).bind fun r3 => (m_i_tree_expr r3).bind fun r4 => if decide ((r4.length : Int) > 400) then (some (([] : List (Int × Int × Int × Int)), false)) else (some (r4, true)))) else (some (([] : List (Int × Int × Int × Int)), false))
def m_i_Positions_follow_l0 (p0p : (List Int) × Int × Int × (List Int) × Bool) (p1last : Int) (p2first : Int) (s2 : Int × List Int) : Option (Out ((List Int) × Int × Int × (List Int) × Bool) (Int × List Int)) :=
  if decide (s2.1 < (p0p.2.2.2.1.length : Int)) then (Option.bind (((chk (0 ≤ s2.1)).bind fun _ => if (andI (shrI p1last s2.1) 1) == 1 then ((getI s2.2 s2.1).bind fun x4 => (getI s2.2 s2.1).bind fun x5 => some (s2.2.set s2.1.toNat (orI x4 p2first))) else (some s2.2) : Option (List Int))) (fun s6 => some (.nxt (IntKind.i64.wrap (s2.1 + 1), s6)))) else (some (.brk (s2.1, s2.2)))
def m_i_Positions_follow (p0p : (List Int) × Int × Int × (List Int) × Bool) (p1last : Int) (p2first : Int) : Option ((List Int) × Int × Int × (List Int) × Bool) :=
  bindL (loopM (m_i_Positions_follow_l0 p0p p1last p2first) FUEL (0, p0p.2.2.2.1)) (fun r7 => some r7) (fun s8 => some (p0p.1, p0p.2.1, p0p.2.2.1, s8.2, p0p.2.2.2.2))
def m_i_Positions_build : Nat → ((List Int) × Int × Int × (List Int) × Bool) → (Tr (Int × Int × Int × Int)) → Option ((Int × Int × Bool) × (List Int) × Int × Int × (List Int) × Bool)
  | 0, _, _ => none
  | n + 1, p0, p1 =>
    (Tr.get p1).bind fun z0 => (Tr.get p1).bind fun z1 => if z1.1.1 == 2 then (some ((0, 0, true), p0.1, p0.2.1, p0.2.2.1, p0.2.2.2.1, p0.2.2.2.2)) else (if z1.1.1 == 3 then ((Tr.get p1).bind fun z2 => (Tr.get p1).bind fun z3 => (appI 8 p0.1 ([z3.1.2.1])).bind fun z4 => (appI 8 p0.2.2.2.1 ([0])).bind fun z5 => some ((shlI 1 (p0.1.length : Int), shlI 1 (p0.1.length : Int), false), z4, p0.2.1, p0.2.2.1, z5, p0.2.2.2.2)) else (if z1.1.1 == 5 then ((Tr.get p1).bind fun z6 => (Tr.get p1).bind fun z7 => (getI z7.2 0).bind fun x8 => ((m_i_Positions_build n) (p0.1, p0.2.1, p0.2.2.1, p0.2.2.2.1, p0.2.2.2.2) x8).bind fun r9 => (Tr.get p1).bind fun z10 => (Tr.get p1).bind fun z11 => (getI z11.2 1).bind fun x12 => ((m_i_Positions_build n) r9.2 x12).bind fun r13 => if r9.1.2.2 then (some ((orI r9.1.1 r13.1.1, orI r9.1.2.1 r13.1.2.1, true), r13.2.1, r13.2.2.1, r13.2.2.2.1, r13.2.2.2.2.1, r13.2.2.2.2.2)) else (some ((orI r9.1.1 r13.1.1, orI r9.1.2.1 r13.1.2.1, r13.1.2.2), r13.2.1, r13.2.2.1, r13.2.2.2.1, r13.2.2.2.2.1, r13.2.2.2.2.2))) else (if z1.1.1 == 4 then ((Tr.get p1).bind fun z14 => (Tr.get p1).bind fun z15 => (getI z15.2 0).bind fun x16 => ((m_i_Positions_build n) (p0.1, p0.2.1, p0.2.2.1, p0.2.2.2.1, p0.2.2.2.2) x16).bind fun r17 => (Tr.get p1).bind fun z18 => (Tr.get p1).bind fun z19 => (getI z19.2 1).bind fun x20 => ((m_i_Positions_build n) r17.2 x20).bind fun r21 => (m_i_Positions_follow (r21.2.1, r21.2.2.1, r21.2.2.2.1, r21.2.2.2.2.1, r21.2.2.2.2.2) r17.1.2.1 r21.1.1).bind fun r22 => if r17.1.2.2 then (Option.bind ((if r17.1.2.2 then (some (orI r17.1.1 r21.1.1, r21.1.2.1, r21.1.2.2)) else (some (r17.1.1, r21.1.2.1, r21.1.2.2)) : Option (Int × Int × Bool))) (fun s23 => Option.bind ((if r21.1.2.2 then (some (s23.1, orI s23.2.1 r17.1.2.1, s23.2.2)) else (some (s23.1, s23.2.1, s23.2.2)) : Option (Int × Int × Bool))) (fun s24 => some ((s24.1, s24.2.1, s24.2.2), r22.1, r22.2.1, r22.2.2.1, r22.2.2.2.1, r22.2.2.2.2)))) else (Option.bind ((if r17.1.2.2 then (some (orI r17.1.1 r21.1.1, r21.1.2.1, false)) else (some (r17.1.1, r21.1.2.1, false)) : Option (Int × Int × Bool))) (fun s25 => Option.bind ((if r21.1.2.2 then (some (s25.1, orI s25.2.1 r17.1.2.1, s25.2.2)) else (some (s25.1, s25.2.1, s25.2.2)) : Option (Int × Int × Bool))) (fun s26 => some ((s26.1, s26.2.1, s26.2.2), r22.1, r22.2.1, r22.2.2.1, r22.2.2.2.1, r22.2.2.2.2))))) else (if z1.1.1 == 6 then ((Tr.get p1).bind fun z27 => (Tr.get p1).bind fun z28 => (getI z28.2 0).bind fun x29 => ((m_i_Positions_build n) (p0.1, p0.2.1, p0.2.2.1, p0.2.2.2.1, p0.2.2.2.2) x29).bind fun r30 => (m_i_Positions_follow (r30.2.1, r30.2.2.1, r30.2.2.2.1, r30.2.2.2.2.1, r30.2.2.2.2.2) r30.1.2.1 r30.1.1).bind fun r31 => some ((r30.1.1, r30.1.2.1, true), r31.1, r31.2.1, r31.2.2.1, r31.2.2.2.1, r31.2.2.2.2)) else (some ((0, 0, false), p0.1, p0.2.1, p0.2.2.1, p0.2.2.2.1, p0.2.2.2.2))))))
def m_i_BuildPositions_l0 (r0 : (List (Int × Int × Int × Int)) × Bool) (s2 : Int × Int) : Option (Out (((List Int) × Int × Int × (List Int) × Bool) × Bool) (Int × Int)) :=
  if decide (s2.2 < (r0.1.length : Int)) then (Option.bind (((getI r0.1 s2.2).bind fun x3 => if x3.1 == 3 then (some (IntKind.i64.wrap (s2.1 + 1))) else (some s2.1) : Option Int)) (fun s4 => some (.nxt (s4, IntKind.i64.wrap (s2.2 + 1))))) else (some (.brk (s2.1, s2.2)))
def m_i_BuildPositions (p0e : List (Int × Int × Int × Int)) : Option (((List Int) × Int × Int × (List Int) × Bool) × Bool) :=
  (m_i_ExpandExpr p0e).bind fun r0 => if r0.2 then (bindL (loopM (m_i_BuildPositions_l0 r0) FUEL (0, 0)) (fun r5 => some r5) (fun s6 => if decide (s6.1 > 20) then (some ((([] : List Int), 0, 0, ([] : List Int), false), false)) else ((m_i_treeOf r0.1).bind fun r7 => (m_i_Positions_build FUELR (([] : List Int), 0, 0, ([] : List Int), false) r7).bind fun r8 => some ((r8.2.1, r8.1.1, r8.1.2.1, r8.2.2.2.2.1, r8.1.2.2), true)))) else (some ((([] : List Int), 0, 0, ([] : List Int), false), false))
def m_i_numbered_int_l1 (p3 : Int → Int → Option (Int × Bool)) (s29 : (List Int) × (List (Int × Int)) × Int × Int × (List Bool) × (List (List Int))) (s39 : (List Int) × (List (Int × Int)) × (List Int) × Int) : Option (Out ((Int × (List Bool) × (List (List Int))) × Bool) ((List Int) × (List (Int × Int)) × (List Int) × Int)) :=
  if decide (s39.2.2.2 < 9) then (Option.bind (((getI s39.1 s29.2.2.1).bind fun x20 => (p3 x20 s39.2.2.2).bind fun r20 => if r20.2 then ((chk (iOk r20.1 = true)).bind fun _ => Option.bind ((if (lkM s39.2.1 r20.1).isSome then (some (s39.1, s39.2.1, (lkM s39.2.1 r20.1).getD 0)) else ((putM s39.2.1 iOk iOk r20.1 (s39.1.length : Int)).bind fun m37 => (appI 8 s39.1 ([r20.1])).bind fun z75 => some (z75, m37, (s39.1.length : Int))) : Option ((List Int) × (List (Int × Int)) × Int))) (fun s43 => (appI 8 s39.2.2.1 ([s43.2.2])).bind fun z76 => some (s43.1, s43.2.1, z76))) else ((appI 8 s39.2.2.1 ([-1])).bind fun z73 => some (s39.1, s39.2.1, z73)) : Option ((List Int) × (List (Int × Int)) × (List Int)))) (fun s42 => some (.nxt (s42.1, s42.2.1, s42.2.2, IntKind.i64.wrap (s39.2.2.2 + 1))))) else (some (.brk (s39.1, s39.2.1, s39.2.2.1, s39.2.2.2)))
def m_i_numbered_int_l0 (p1 : Int) (p2 : Int → Option Bool) (p3 : Int → Int → Option (Int × Bool)) (s29 : (List Int) × (List (Int × Int)) × Int × Int × (List Bool) × (List (List Int))) : Option (Out ((Int × (List Bool) × (List (List Int))) × Bool) ((List Int) × (List (Int × Int)) × Int × Int × (List Bool) × (List (List Int)))) :=
  if decide (s29.2.2.1 < (s29.1.length : Int)) then (bindL (loopM (m_i_numbered_int_l1 p3 s29) FUEL (s29.1, s29.2.1, ([] : List Int), 0)) (fun r => some (.ret r)) (fun s40 => if decide ((s40.1.length : Int) > p1) then (some (.ret ((0, [], []), false))) else ((getI s40.1 s29.2.2.1).bind fun x21 => (p2 x21).bind fun r21 => (appI 1 s29.2.2.2.2.1 ([r21])).bind fun z77 => (appI 24 s29.2.2.2.2.2 ([s40.2.2.1])).bind fun z78 => some (.nxt (s40.1, s40.2.1, IntKind.i64.wrap (s29.2.2.1 + 1), s29.2.2.2.1, z77, z78))))) else (some (.brk (s29.1, s29.2.1, s29.2.2.1, s29.2.2.2.1, s29.2.2.2.2.1, s29.2.2.2.2.2)))
def m_i_numbered_int (p0 : Int) (p1 : Int) (p2 : Int → Option Bool) (p3 : Int → Int → Option (Int × Bool)) : Option ((Int × (List Bool) × (List (List Int))) × Bool) :=
  (putM ([] : List (Int × Int)) iOk iOk p0 0).bind fun m1 => bindL (loopM (m_i_numbered_int_l0 p1 p2 p3) FUEL ([p0], m1, 0, 0, [], [])) (fun r => some r) (fun s30 => some ((s30.2.2.2.1, s30.2.2.2.2.1, s30.2.2.2.2.2), true))
def m_i_Positions_accepts (p0p : (List Int) × Int × Int × (List Int) × Bool) (p1set : Int) : Option Bool :=
  if (andI p1set 1) == 1 then (if p0p.2.2.2.2 then (some true) else (some ((andI (shrI p1set 1) p0p.2.2.1) != 0))) else (some ((andI (shrI p1set 1) p0p.2.2.1) != 0))
def m_i_Positions_after_l0 (p0p : (List Int) × Int × Int × (List Int) × Bool) (p1set : Int) (s6 : Int × Int) : Option (Out Int (Int × Int)) :=
  if decide (s6.2 < (p0p.2.2.2.1.length : Int)) then (Option.bind (((getI p0p.2.2.2.1 s6.2).bind fun x6 => (chk (0 ≤ IntKind.i64.wrap (s6.2 + 1))).bind fun _ => if (andI (shrI p1set (IntKind.i64.wrap (s6.2 + 1))) 1) == 1 then (some (orI s6.1 x6)) else (some s6.1) : Option Int)) (fun s8 => some (.nxt (s8, IntKind.i64.wrap (s6.2 + 1))))) else (some (.brk (s6.1, s6.2)))
def m_i_Positions_after_l1 (p0p : (List Int) × Int × Int × (List Int) × Bool) (p2letter : Int) (s7 : Int × Int) (s13 : Int × Int) : Option (Out Int (Int × Int)) :=
  if decide (s13.2 < (p0p.1.length : Int)) then (Option.bind (((getI p0p.1 s13.2).bind fun x12 => if x12 == p2letter then ((chk (0 ≤ s13.2)).bind fun _ => if (andI (shrI s7.1 s13.2) 1) == 1 then ((chk (0 ≤ IntKind.i64.wrap (s13.2 + 1))).bind fun _ => some (orI s13.1 (shlI 1 (IntKind.i64.wrap (s13.2 + 1))))) else (some s13.1)) else (some s13.1) : Option Int)) (fun s15 => some (.nxt (s15, IntKind.i64.wrap (s13.2 + 1))))) else (some (.brk (s13.1, s13.2)))
def m_i_Positions_after (p0p : (List Int) × Int × Int × (List Int) × Bool) (p1set : Int) (p2letter : Int) : Option Int :=
  Option.bind ((if (andI p1set 1) == 1 then (some p0p.2.1) else (some 0) : Option Int)) (fun s1 => bindL (loopM (m_i_Positions_after_l0 p0p p1set) FUEL (s1, 0)) (fun r => some r) (fun s7 => bindL (loopM (m_i_Positions_after_l1 p0p p2letter s7) FUEL (0, 0)) (fun r => some r) (fun s14 => some s14.1)))
def m_i_determinize_1 (p0set : Int) (p1letter : Int) (q0 : (List Int) × Int × Int × (List Int) × Bool) : Option (Int × Bool) :=
  (m_i_Positions_after (q0.1, q0.2.1, q0.2.2.1, q0.2.2.2.1, q0.2.2.2.2) p0set p1letter).bind fun r1 => some (r1, r1 != 0)
def m_i_determinize (p0p : (List Int) × Int × Int × (List Int) × Bool) (p1most : Int) : Option ((Int × (List Bool) × (List (List Int))) × Bool) :=
  (m_i_numbered_int 1 p1most (fun a0 => m_i_Positions_accepts (p0p.1, p0p.2.1, p0p.2.2.1, p0p.2.2.2.1, p0p.2.2.2.2) a0) (fun a0 a1 => m_i_determinize_1 a0 a1 (p0p.1, p0p.2.1, p0p.2.2.1, p0p.2.2.2.1, p0p.2.2.2.2))).bind fun r1 => some ((r1.1.1, r1.1.2.1, r1.1.2.2), r1.2)

def m_i_Automaton_live_l2 (s6 : Bool × Int × List Bool) (x7 : List Int) (s10 : Bool × Int × List Bool) : Option (Out (List Bool) (Bool × Int × List Bool)) :=
  if decide (s10.2.1 < (x7.length : Int)) then (Option.bind (((getI x7 s10.2.1).bind fun x11 => if decide (x11 ≥ 0) then ((getI s10.2.2 x11).bind fun x12 => if x12 then ((getI s10.2.2 s6.2.1).bind fun x13 => if x13 then (some (s10.1, s10.2.2)) else ((getI s10.2.2 s6.2.1).bind fun x14 => some (true, s10.2.2.set s6.2.1.toNat true))) else (some (s10.1, s10.2.2))) else (some (s10.1, s10.2.2)) : Option (Bool × List Bool))) (fun s15 => some (.nxt (s15.1, IntKind.i64.wrap (s10.2.1 + 1), s15.2)))) else (some (.brk (s10.1, s10.2.1, s10.2.2)))
def m_i_Automaton_live_l1 (p0a : Int × (List Bool) × List (List Int)) (s6 : Bool × Int × List Bool) : Option (Out (List Bool) (Bool × Int × List Bool)) :=
  if decide (s6.2.1 < (p0a.2.2.length : Int)) then ((getI p0a.2.2 s6.2.1).bind fun x7 => bindL (loopM (m_i_Automaton_live_l2 s6 x7) FUEL (s6.1, 0, s6.2.2)) (fun r16 => some (.ret r16)) (fun s17 => some (.nxt (s17.1, IntKind.i64.wrap (s6.2.1 + 1), s17.2.2)))) else (some (.brk (s6.1, s6.2.1, s6.2.2)))
def m_i_Automaton_live_l0 (p0a : Int × (List Bool) × List (List Int)) (s3 : Bool × List Bool) : Option (Out (List Bool) (Bool × List Bool)) :=
  if s3.1 then (bindL (loopM (m_i_Automaton_live_l1 p0a) FUEL (false, 0, s3.2)) (fun r18 => some (.ret r18)) (fun s19 => some (.nxt (s19.1, s19.2.2)))) else (some (.brk (s3.1, s3.2)))
def m_i_Automaton_live (p0a : Int × (List Bool) × List (List Int)) : Option (List Bool) :=
  (appI 1 ([] : List Bool) p0a.2.1).bind fun z0 => bindL (loopM (m_i_Automaton_live_l0 p0a) FUEL (true, z0)) (fun r20 => some r20) (fun s21 => some s21.2)
def m_g_slices_IndexFunc_S_S_int_S_int_l0 (p0s : List (List Int)) (p1f : (List Int) → Option Bool) (s3 : Int) : Option (Out Int Int) :=
  if decide (s3 < (p0s.length : Int)) then ((getI p0s s3).bind fun x3 => (p1f x3).bind fun r6 => if r6 then (some (.ret s3)) else (some (.nxt (IntKind.i64.wrap (s3 + 1))))) else (some (.brk s3))
def m_g_slices_IndexFunc_S_S_int_S_int (p0s : List (List Int)) (p1f : (List Int) → Option Bool) : Option Int :=
  bindL (loopM (m_g_slices_IndexFunc_S_S_int_S_int_l0 p0s p1f) FUEL 0) (fun r => some r) (fun s4 => some (-1))
def m_i_Automaton_refine_1 (p0x : List Int) (q0 : List Int) : Option Bool :=
  (m_g_slices_Equal_S_int_int p0x q0).bind fun r1 => some r1
def m_i_Automaton_refine_l1 (p1 : List Int) (x57 : List Int) (s52 : Int × (List Int)) : Option (Out ((List Int) × Int) (Int × (List Int))) :=
  if decide (s52.1 < (x57.length : Int)) then ((getI x57 s52.1).bind fun x64 => Option.bind ((if decide (x64 ≥ 0) then ((getI p1 x64).bind fun x66 => some x66) else (some x64) : Option Int)) (fun s54 => (appI 8 s52.2 ([s54])).bind fun z38 => some (.nxt (IntKind.i64.wrap (s52.1 + 1), z38)))) else (some (.brk (s52.1, s52.2)))
def m_i_Automaton_refine_l0 (p0 : Int × (List Bool) × (List (List Int))) (p1 : List Int) (s37 : (List (List Int)) × (List Int) × Int) : Option (Out ((List Int) × Int) ((List (List Int)) × (List Int) × Int)) :=
  if decide (s37.2.2 < (p1.length : Int)) then (Option.bind (((getI p1 s37.2.2).bind fun x56 => if decide (x56 < 0) then ((appI 8 s37.2.1 ([-1])).bind fun z42 => some (s37.1, z42)) else ((getI p0.2.2 s37.2.2).bind fun x57 => bindL (loopM (m_i_Automaton_refine_l1 p1 x57) FUEL (0, [x56])) (fun _ => none) (fun s53 => (m_g_slices_IndexFunc_S_S_int_S_int s37.1 (fun a0 => m_i_Automaton_refine_1 a0 s53.2)).bind fun r12 => Option.bind ((if decide (r12 < 0) then ((appI 24 s37.1 ([s53.2])).bind fun z40 => some (z40, (s37.1.length : Int))) else (some (s37.1, r12)) : Option ((List (List Int)) × Int))) (fun s55 => (appI 8 s37.2.1 ([s55.2])).bind fun z41 => some (s55.1, z41)))) : Option ((List (List Int)) × (List Int)))) (fun s47 => some (.nxt (s47.1, s47.2, IntKind.i64.wrap (s37.2.2 + 1))))) else (some (.brk (s37.1, s37.2.1, s37.2.2)))
def m_i_Automaton_refine (p0 : Int × (List Bool) × (List (List Int))) (p1 : List Int) : Option ((List Int) × Int) :=
  bindL (loopM (m_i_Automaton_refine_l0 p0 p1) FUEL (([] : List (List Int)), ([] : List Int), 0)) (fun r => some r) (fun s38 => some (s38.2.1, (s38.1.length : Int)))
def m_i_Automaton_classes_l0 (p0a : Int × (List Bool) × (List (List Int))) (r1 : List Bool) (s5 : (List Int) × Int) : Option (Out (List Int) ((List Int) × Int)) :=
  if decide (s5.2 < (r1.length : Int)) then (Option.bind (((getI r1 s5.2).bind fun x11 => if x11 then ((getI p0a.2.1 s5.2).bind fun x12 => if x12 then ((appI 8 s5.1 ([1])).bind fun z18 => some z18) else ((appI 8 s5.1 ([0])).bind fun z17 => some z17)) else ((appI 8 s5.1 ([-1])).bind fun z16 => some z16) : Option (List Int))) (fun s7 => some (.nxt (s7, IntKind.i64.wrap (s5.2 + 1))))) else (some (.brk (s5.1, s5.2)))
def m_i_Automaton_classes_l1 (p0a : Int × (List Bool) × (List (List Int))) (s10 : (List Int) × Int) : Option (Out (List Int) ((List Int) × Int)) :=
  (m_i_Automaton_refine (p0a.1, p0a.2.1, p0a.2.2) s10.1).bind fun r4 => if r4.2 == s10.2 then (some (.ret r4.1)) else (some (.nxt (r4.1, r4.2)))
def m_i_Automaton_classes (p0a : Int × (List Bool) × (List (List Int))) : Option (List Int) :=
  (m_i_Automaton_live (p0a.1, p0a.2.1, p0a.2.2)).bind fun r1 => bindL (loopM (m_i_Automaton_classes_l0 p0a r1) FUEL (([] : List Int), 0)) (fun r => some r) (fun s6 => bindL (loopM (m_i_Automaton_classes_l1 p0a) FUEL (s6.1, -1)) (fun r => some r) (fun s11 => none))
def m_g_math_bits_Mul32 (p0x : Int) (p1y : Int) : Option (Int × Int) :=
  some (IntKind.u32.wrap (shrI (IntKind.u64.wrap ((IntKind.u64.wrap p0x) * (IntKind.u64.wrap p1y))) 32), IntKind.u32.wrap (IntKind.u64.wrap ((IntKind.u64.wrap p0x) * (IntKind.u64.wrap p1y))))
def m_g_math_bits_Mul64 (p0x : Int) (p1y : Int) : Option (Int × Int) :=
  some (IntKind.u64.wrap ((IntKind.u64.wrap ((IntKind.u64.wrap ((shrI p0x 32) * (shrI p1y 32))) + (shrI (IntKind.u64.wrap ((IntKind.u64.wrap ((shrI p0x 32) * (andU p1y 4294967295))) + (shrI (IntKind.u64.wrap ((andU p0x 4294967295) * (andU p1y 4294967295))) 32))) 32))) + (shrI (IntKind.u64.wrap ((andU (IntKind.u64.wrap ((IntKind.u64.wrap ((shrI p0x 32) * (andU p1y 4294967295))) + (shrI (IntKind.u64.wrap ((andU p0x 4294967295) * (andU p1y 4294967295))) 32))) 4294967295) + (IntKind.u64.wrap ((andU p0x 4294967295) * (shrI p1y 32))))) 32)), IntKind.u64.wrap (p0x * p1y))
def m_g_math_bits_Mul (p0x : Int) (p1y : Int) : Option (Int × Int) :=
  (m_g_math_bits_Mul64 p0x p1y).bind fun r1 => some (r1.1, r1.2)
def m_g_slices_Repeat_S_int_int_l0 (s4 : Int × List Int) : Option (Out (List Int) (Int × List Int)) :=
  if decide (s4.1 < (s4.2.length : Int)) then ((chk (And (0 ≤ s4.1) (s4.1 ≤ (s4.2.length : Int)))).bind fun _ => (chk (And (0 ≤ s4.1) (s4.1 ≤ (s4.2.length : Int)))).bind fun _ => (chk (And (0 ≤ s4.1) (s4.1 ≤ (s4.2.length : Int)))).bind fun _ => (chk (And (0 ≤ s4.1) (s4.1 ≤ (s4.2.length : Int)))).bind fun _ => some (.nxt (IntKind.i64.wrap (s4.1 + ((Min.min ((s4.2.take s4.1.toNat).length) (s4.2.length - s4.1.toNat) : Nat) : Int)), cpyI s4.2 s4.1.toNat (s4.2.take s4.1.toNat)))) else (some (.brk (s4.1, s4.2)))
def m_g_slices_Repeat_S_int_int (p0x : List Int) (p1count : Int) : Option (List Int) :=
  if decide (p1count < 0) then (none) else ((m_g_math_bits_Mul (IntKind.u64.wrap (p0x.length : Int)) (IntKind.u64.wrap p1count)).bind fun r0 => if decide (r0.1 > 0) then (none) else (if decide (r0.2 > 9223372036854775807) then (none) else ((mkI 8 (IntKind.i64.wrap r0.2) 0).bind fun z1 => bindL (loopM (m_g_slices_Repeat_S_int_int_l0) FUEL (((Min.min p0x.length (z1.length - 0) : Nat) : Int), cpyI z1 0 p0x)) (fun r9 => some r9) (fun s10 => some s10.2))))
def m_i_nothing : Option (Int × (List Bool) × (List (List Int))) :=
  (m_g_slices_Repeat_S_int_int ([-1]) 9).bind fun r1 => some (0, [false], [r1])
def m_g_slices_Index_S_int_int_l0 (p0s : List Int) (p1v : Int) (s3 : Int) : Option (Out Int Int) :=
  if decide (s3 < (p0s.length : Int)) then ((getI p0s s3).bind fun x3 => if p1v == x3 then (some (.ret s3)) else (some (.nxt (IntKind.i64.wrap (s3 + 1))))) else (some (.brk s3))
def m_g_slices_Index_S_int_int (p0s : List Int) (p1v : Int) : Option Int :=
  bindL (loopM (m_g_slices_Index_S_int_int_l0 p0s p1v) FUEL 0) (fun r => some r) (fun s4 => some (-1))
def m_i_Automaton_minimize_1 (p0class : Int) (q0 : List Int) : Option Int :=
  (m_g_slices_Index_S_int_int q0 p0class).bind fun r1 => some r1
def m_i_Automaton_minimize_2 (p0c : Int) (q0 : Int × (List Bool) × (List (List Int))) (q1 : Int → Option Int) : Option Bool :=
  (q1 p0c).bind fun r1 => (getI q0.2.1 r1).bind fun x1 => some x1
def m_i_Automaton_move (p0a : Int × (List Bool) × (List (List Int))) (p1s : Int) (p2letter : Int) : Option Int :=
  if decide (p1s < 0) then (some (-1)) else ((m_i_isLetter p2letter).bind fun r1 => if r1 then ((getI p0a.2.2 p1s).bind fun x1 => (getI x1 p2letter).bind fun x2 => some x2) else (some (-1)))
def m_i_Automaton_minimize_3 (p0c : Int) (p1letter : Int) (q0 : Int × (List Bool) × (List (List Int))) (q1 : Int → Option Int) (q2 : List Int) : Option (Int × Bool) :=
  (q1 p0c).bind fun r1 => (m_i_Automaton_move (q0.1, q0.2.1, q0.2.2) r1 p1letter).bind fun r2 => if decide (r2 < 0) then (some (0, false)) else ((getI q2 r2).bind fun x1 => if decide (x1 < 0) then (some (0, false)) else ((getI q2 r2).bind fun x2 => some (x2, true)))
def m_i_Automaton_minimize (p0a : Int × (List Bool) × (List (List Int))) : Option (Int × (List Bool) × (List (List Int))) :=
  (m_i_Automaton_classes (p0a.1, p0a.2.1, p0a.2.2)).bind fun r1 => (getI r1 p0a.1).bind fun x1 => if decide (x1 < 0) then ((m_i_nothing ).bind fun r3 => some (r3.1, r3.2.1, r3.2.2)) else ((getI r1 p0a.1).bind fun x2 => (m_i_numbered_int x2 (r1.length : Int) (fun a0 => m_i_Automaton_minimize_2 a0 (p0a.1, p0a.2.1, p0a.2.2) (fun a0 => m_i_Automaton_minimize_1 a0 r1)) (fun a0 a1 => m_i_Automaton_minimize_3 a0 a1 (p0a.1, p0a.2.1, p0a.2.2) (fun a0 => m_i_Automaton_minimize_1 a0 r1) r1)).bind fun r2 => some (r2.1.1, r2.1.2.1, r2.1.2.2))
def m_i_small (p0a : Int × (List Bool) × (List (List Int))) : Option ((Int × (List Bool) × (List (List Int))) × Bool) :=
  (m_i_Automaton_minimize (p0a.1, p0a.2.1, p0a.2.2)).bind fun r1 => if decide ((r1.2.1.length : Int) > 12) then (some ((0, [], []), false)) else (some ((r1.1, r1.2.1, r1.2.2), true))
def m_i_CompileExpr (p0e : (List (Int × Int × Int × Int))) : Option ((Int × (List Bool) × (List (List Int))) × Bool) :=
  (m_i_BuildPositions p0e).bind fun r1 => if r1.2 then ((m_i_determinize (r1.1.1, r1.1.2.1, r1.1.2.2.1, r1.1.2.2.2.1, r1.1.2.2.2.2) 200).bind fun r2 => if r2.2 then ((m_i_small (r2.1.1, r2.1.2.1, r2.1.2.2)).bind fun r3 => some ((r3.1.1, r3.1.2.1, r3.1.2.2), r3.2)) else (some ((0, [], []), false))) else (some ((0, [], []), false))
def m_g_slices_IndexFunc_S_Automaton_Automaton_l0 (p0s : List (Int × (List Bool) × (List (List Int)))) (p1f : (Int × (List Bool) × (List (List Int))) → Option Bool) (s3 : Int) : Option (Out Int Int) :=
  if decide (s3 < (p0s.length : Int)) then ((getI p0s s3).bind fun x3 => (p1f (x3.1, x3.2.1, x3.2.2)).bind fun r9 => if r9 then (some (.ret s3)) else (some (.nxt (IntKind.i64.wrap (s3 + 1))))) else (some (.brk s3))
def m_g_slices_IndexFunc_S_Automaton_Automaton (p0s : List (Int × (List Bool) × (List (List Int)))) (p1f : (Int × (List Bool) × (List (List Int))) → Option Bool) : Option Int :=
  bindL (loopM (m_g_slices_IndexFunc_S_Automaton_Automaton_l0 p0s p1f) FUEL 0) (fun r => some r) (fun s4 => some (-1))
def m_i_shared_1 (p0b : Int × (List Bool) × (List (List Int))) (q0 : Int × (List Bool) × (List (List Int))) : Option Bool :=
  (m_i_EqualAutomata (q0.1, q0.2.1, q0.2.2) (p0b.1, p0b.2.1, p0b.2.2)).bind fun r1 => some r1
def m_i_copyExpr (p0e : (List (Int × Int × Int × Int))) : Option (List (Int × Int × Int × Int)) :=
  (appI 32 ([] : List (Int × Int × Int × Int)) p0e).bind fun z1 => some z1
def m_i_shared_l0 (p0 : List (Int × ((List (Int × Int × Int × Int))) × Int)) (s7 : Int × (List (Int × (List Bool) × (List (List Int)))) × (List (Int × ((List (Int × Int × Int × Int))) × Int))) : Option (Out (((List (Int × (List Bool) × (List (List Int)))) × (List (Int × ((List (Int × Int × Int × Int))) × Int))) × Bool) (Int × (List (Int × (List Bool) × (List (List Int)))) × (List (Int × ((List (Int × Int × Int × Int))) × Int)))) :=
  if decide (s7.1 < (p0.length : Int)) then ((getI p0 s7.1).bind fun x5 => (m_i_CompileExpr x5.2.1).bind fun r16 => if r16.2 then ((m_i_within x5.1 1 99).bind fun r17 => if r17 then (if decide (s7.1 > 0) then ((getI p0 (IntKind.i64.wrap (s7.1 - 1))).bind fun x6 => if decide (x6.1 ≥ x5.1) then (some (.ret (([], []), false))) else ((m_g_slices_IndexFunc_S_Automaton_Automaton s7.2.1 (fun a0 => m_i_shared_1 a0 (r16.1.1, r16.1.2.1, r16.1.2.2))).bind fun r20 => Option.bind ((if decide (r20 < 0) then ((appI 56 s7.2.1 ([(r16.1.1, r16.1.2.1, r16.1.2.2)])).bind fun z17 => some ((s7.2.1.length : Int), z17, s7.2.2)) else (some (r20, s7.2.1, s7.2.2)) : Option (Int × (List (Int × (List Bool) × (List (List Int)))) × (List (Int × ((List (Int × Int × Int × Int))) × Int))))) (fun s10 => (m_i_copyExpr x5.2.1).bind fun r21 => (appI 40 s10.2.2 ([(x5.1, r21, s10.1)])).bind fun z18 => some (.nxt (IntKind.i64.wrap (s7.1 + 1), s10.2.1, z18))))) else ((m_g_slices_IndexFunc_S_Automaton_Automaton s7.2.1 (fun a0 => m_i_shared_1 a0 (r16.1.1, r16.1.2.1, r16.1.2.2))).bind fun r18 => Option.bind ((if decide (r18 < 0) then ((appI 56 s7.2.1 ([(r16.1.1, r16.1.2.1, r16.1.2.2)])).bind fun z14 => some ((s7.2.1.length : Int), z14, s7.2.2)) else (some (r18, s7.2.1, s7.2.2)) : Option (Int × (List (Int × (List Bool) × (List (List Int)))) × (List (Int × ((List (Int × Int × Int × Int))) × Int))))) (fun s9 => (m_i_copyExpr x5.2.1).bind fun r19 => (appI 40 s9.2.2 ([(x5.1, r19, s9.1)])).bind fun z15 => some (.nxt (IntKind.i64.wrap (s7.1 + 1), s9.2.1, z15))))) else (some (.ret (([], []), false)))) else (some (.ret (([], []), false)))) else (some (.brk (s7.1, s7.2.1, s7.2.2)))
def m_i_shared (p0 : List (Int × ((List (Int × Int × Int × Int))) × Int)) : Option (((List (Int × (List Bool) × (List (List Int)))) × (List (Int × ((List (Int × Int × Int × Int))) × Int))) × Bool) :=
  bindL (loopM (m_i_shared_l0 p0) FUEL (0, [], [])) (fun r => some r) (fun s8 => some ((s8.2.1, s8.2.2), decide ((p0.length : Int) ≤ 4)))
def m_i_IsValidRegistry (p0r : (List (Int × (List Bool) × (List (List Int)))) × (List (Int × ((List (Int × Int × Int × Int))) × Int))) : Option Bool :=
  (m_i_shared p0r.2).bind fun r1 => if r1.2 then ((m_i_EqualRegistries (r1.1.1, r1.1.2) (p0r.1, p0r.2)).bind fun r2 => some r2) else (some false)
def m_g_slices_IndexFunc_S_Registered_Registered_l0 (p0s : List (Int × ((List (Int × Int × Int × Int))) × Int)) (p1f : (Int × ((List (Int × Int × Int × Int))) × Int) → Option Bool) (s3 : Int) : Option (Out Int Int) :=
  if decide (s3 < (p0s.length : Int)) then ((getI p0s s3).bind fun x3 => (p1f (x3.1, x3.2.1, x3.2.2)).bind fun r6 => if r6 then (some (.ret s3)) else (some (.nxt (IntKind.i64.wrap (s3 + 1))))) else (some (.brk s3))
def m_g_slices_IndexFunc_S_Registered_Registered (p0s : List (Int × ((List (Int × Int × Int × Int))) × Int)) (p1f : (Int × ((List (Int × Int × Int × Int))) × Int) → Option Bool) : Option Int :=
  bindL (loopM (m_g_slices_IndexFunc_S_Registered_Registered_l0 p0s p1f) FUEL 0) (fun r => some r) (fun s4 => some (-1))
def m_i_FindQuery_1 (p0q : Int × ((List (Int × Int × Int × Int))) × Int) (q0 : Int) : Option Bool :=
  some (p0q.1 == q0)
def m_i_FindQuery (p0r : (List (Int × (List Bool) × (List (List Int)))) × (List (Int × ((List (Int × Int × Int × Int))) × Int))) (p1id : Int) : Option Int :=
  (m_g_slices_IndexFunc_S_Registered_Registered p0r.2 (fun a0 => m_i_FindQuery_1 a0 p1id)).bind fun r1 => some r1
def m_i_copyInts (p0l : List Int) : Option (List Int) :=
  (appI 8 ([] : List Int) p0l).bind fun z1 => some z1
def m_i_copyAutomaton_l0 (p0a : Int × (List Bool) × (List (List Int))) (s3 : Int × Int × (List Bool) × (List (List Int))) : Option (Out (Int × (List Bool) × (List (List Int))) (Int × Int × (List Bool) × (List (List Int)))) :=
  if decide (s3.1 < (p0a.2.2.length : Int)) then ((getI p0a.2.2 s3.1).bind fun x3 => (m_i_copyInts x3).bind fun r6 => (appI 24 s3.2.2.2 ([r6])).bind fun z4 => some (.nxt (IntKind.i64.wrap (s3.1 + 1), s3.2.1, s3.2.2.1, z4))) else (some (.brk (s3.1, s3.2.1, s3.2.2.1, s3.2.2.2)))
def m_i_copyAutomaton (p0a : Int × (List Bool) × (List (List Int))) : Option (Int × (List Bool) × (List (List Int))) :=
  (appI 1 ([] : List Bool) p0a.2.1).bind fun z1 => bindL (loopM (m_i_copyAutomaton_l0 p0a) FUEL (0, p0a.1, z1, [])) (fun r => some r) (fun s4 => some (s4.2.1, s4.2.2.1, s4.2.2.2))
def m_i_copyRegistry_l0 (p0r : (List (Int × (List Bool) × (List (List Int)))) × (List (Int × ((List (Int × Int × Int × Int))) × Int))) (s3 : Int × (List (Int × (List Bool) × (List (List Int)))) × (List (Int × ((List (Int × Int × Int × Int))) × Int))) : Option (Out ((List (Int × (List Bool) × (List (List Int)))) × (List (Int × ((List (Int × Int × Int × Int))) × Int))) (Int × (List (Int × (List Bool) × (List (List Int)))) × (List (Int × ((List (Int × Int × Int × Int))) × Int)))) :=
  if decide (s3.1 < (p0r.1.length : Int)) then ((getI p0r.1 s3.1).bind fun x3 => (m_i_copyAutomaton (x3.1, x3.2.1, x3.2.2)).bind fun r9 => (appI 56 s3.2.1 ([(r9.1, r9.2.1, r9.2.2)])).bind fun z3 => some (.nxt (IntKind.i64.wrap (s3.1 + 1), z3, s3.2.2))) else (some (.brk (s3.1, s3.2.1, s3.2.2)))
def m_i_copyRegistry_l1 (p0r : (List (Int × (List Bool) × (List (List Int)))) × (List (Int × ((List (Int × Int × Int × Int))) × Int))) (s7 : Int × (List (Int × (List Bool) × (List (List Int)))) × (List (Int × ((List (Int × Int × Int × Int))) × Int))) : Option (Out ((List (Int × (List Bool) × (List (List Int)))) × (List (Int × ((List (Int × Int × Int × Int))) × Int))) (Int × (List (Int × (List Bool) × (List (List Int)))) × (List (Int × ((List (Int × Int × Int × Int))) × Int)))) :=
  if decide (s7.1 < (p0r.2.length : Int)) then ((getI p0r.2 s7.1).bind fun x6 => (m_i_copyExpr x6.2.1).bind fun r15 => (appI 40 s7.2.2 ([(x6.1, r15, x6.2.2)])).bind fun z6 => some (.nxt (IntKind.i64.wrap (s7.1 + 1), s7.2.1, z6))) else (some (.brk (s7.1, s7.2.1, s7.2.2)))
def m_i_copyRegistry (p0r : (List (Int × (List Bool) × (List (List Int)))) × (List (Int × ((List (Int × Int × Int × Int))) × Int))) : Option ((List (Int × (List Bool) × (List (List Int)))) × (List (Int × ((List (Int × Int × Int × Int))) × Int))) :=
  bindL (loopM (m_i_copyRegistry_l0 p0r) FUEL (0, [], [])) (fun r => some r) (fun s4 => bindL (loopM (m_i_copyRegistry_l1 p0r) FUEL (0, s4.2.1, s4.2.2)) (fun r => some r) (fun s8 => some (s8.2.1, s8.2.2)))
def m_g_slices_Insert_S_Registered_Registered (p0 : List (Int × ((List (Int × Int × Int × Int))) × Int)) (p1 : Int) (p2 : List (Int × ((List (Int × Int × Int × Int))) × Int)) : Option ((List (Int × ((List (Int × Int × Int × Int))) × Int)) × (List (Int × ((List (Int × Int × Int × Int))) × Int))) := R.insI 40 p0 p1 p2
def m_g_slices_Clone_S_Registered_Registered (p0 : List (Int × ((List (Int × Int × Int × Int))) × Int)) : Option (List (Int × ((List (Int × Int × Int × Int))) × Int)) := appI 40 [] p0
def m_i_RegisterQuery_l0 (p0r : (List (Int × (List Bool) × List (List Int))) × List (Int × (List (Int × Int × Int × Int)) × Int)) (p1id : Int) (s4 : Int) : Option (Out (((List (Int × (List Bool) × List (List Int))) × List (Int × (List (Int × Int × Int × Int)) × Int)) × Bool) Int) :=
  if decide (s4 < (p0r.2.length : Int)) then ((getI p0r.2 s4).bind fun x5 => if decide (x5.1 < p1id) then (some (.nxt (IntKind.i64.wrap (s4 + 1)))) else (some (.brk s4))) else (some (.brk s4))
def m_i_RegisterQuery (p0r : (List (Int × (List Bool) × List (List Int))) × List (Int × (List (Int × Int × Int × Int)) × Int)) (p1id : Int) (p2e : List (Int × Int × Int × Int)) : Option (((List (Int × (List Bool) × List (List Int))) × List (Int × (List (Int × Int × Int × Int)) × Int)) × Bool) :=
  (m_i_IsValidRegistry (p0r.1, p0r.2)).bind fun r0 => if r0 then ((m_i_FindQuery (p0r.1, p0r.2) p1id).bind fun r1 => if decide (r1 ≥ 0) then ((m_i_copyRegistry (p0r.1, p0r.2)).bind fun r2 => some ((r2.1, r2.2), false)) else (bindL (loopM (m_i_RegisterQuery_l0 p0r p1id) FUEL 0) (fun r6 => some r6) (fun s7 => (m_g_slices_Clone_S_Registered_Registered p0r.2).bind fun r8 => (m_g_slices_Insert_S_Registered_Registered r8 s7 ([(p1id, p2e, 0)])).bind fun r9 => (m_i_shared r9.1).bind fun r10 => if r10.2 then (some ((r10.1.1, r10.1.2), true)) else ((m_i_copyRegistry (p0r.1, p0r.2)).bind fun r11 => some ((r11.1, r11.2), false))))) else ((m_i_copyRegistry (p0r.1, p0r.2)).bind fun r12 => some ((r12.1, r12.2), false))
def m_s_l1In (p0x : Int) (p1low : Int) (p2high : Int) : Option Bool :=
  if decide (p0x ≥ p1low) then (some (decide (p0x ≤ p2high))) else (some false)
def m_s_l2Letter (p0n : Int) : Option Bool :=
  (m_s_l1In p0n 0 8).bind fun r1 => some r1
def m_s_l8Arity (p0 : Int × Int × Int × Int) : Option Int :=
  Option.bind ((if p0.1 == 1 then (some (p0.1 == 1)) else (some (p0.1 == 2)) : Option Bool)) (fun s1 => if s1 then (if p0.2.1 != 0 then (some (-1)) else (if p0.2.2.1 != 0 then (some (-1)) else (if p0.2.2.2 != 0 then (some (-1)) else (some 0)))) else (if p0.1 == 3 then ((m_s_l2Letter p0.2.1).bind fun r3 => if r3 then (if p0.2.2.1 != 0 then (some (-1)) else (if p0.2.2.2 != 0 then (some (-1)) else (some 0))) else (some (-1))) else (Option.bind ((if p0.1 == 4 then (some (p0.1 == 4)) else (some (p0.1 == 5)) : Option Bool)) (fun s2 => if s2 then (if p0.2.1 != 0 then (some (-1)) else (if p0.2.2.1 != 0 then (some (-1)) else (if p0.2.2.2 != 0 then (some (-1)) else (some 2)))) else (if p0.1 == 6 then (if p0.2.1 != 0 then (some (-1)) else (if p0.2.2.1 != 0 then (some (-1)) else (if p0.2.2.2 != 0 then (some (-1)) else (some 1)))) else (if p0.1 == 7 then (if p0.2.1 != 0 then (some (-1)) else ((m_s_l1In p0.2.2.2 1 3).bind fun r1 => if r1 then ((m_s_l1In p0.2.2.1 0 p0.2.2.2).bind fun r2 => if r2 then (some 1) else (some (-1))) else (some (-1)))) else (some (-1))))))))
def m_s_IsExpr_l0 (p0e : (List (Int × Int × Int × Int))) (s3 : Int × Int) : Option (Out Bool (Int × Int)) :=
  if decide (s3.2 < (p0e.length : Int)) then ((getI p0e s3.2).bind fun x3 => (m_s_l8Arity (x3.1, x3.2.1, x3.2.2.1, x3.2.2.2)).bind fun r3 => if decide (r3 < 0) then (some (.ret false)) else (if decide (r3 > s3.1) then (some (.ret false)) else (some (.nxt (IntKind.i64.wrap ((IntKind.i64.wrap (s3.1 - r3)) + 1), IntKind.i64.wrap (s3.2 + 1)))))) else (some (.brk (s3.1, s3.2)))
def m_s_IsExpr (p0e : (List (Int × Int × Int × Int))) : Option Bool :=
  bindL (loopM (m_s_IsExpr_l0 p0e) FUEL (0, 0)) (fun r => some r) (fun s4 => some (s4.1 == 1))
def m_s_IsValidExpr (p0e : (List (Int × Int × Int × Int))) : Option Bool :=
  if decide ((p0e.length : Int) ≤ 24) then ((m_s_IsExpr p0e).bind fun r1 => some r1) else (some false)
def m_s_l8Start_l0 (p0l : List (Int × Int × Int × Int)) (s3 : Int × Int) : Option (Out Int (Int × Int)) :=
  if decide (s3.1 > 0) then ((getI p0l (IntKind.i64.wrap (s3.2 - 1))).bind fun x3 => (m_s_l8Arity (x3.1, x3.2.1, x3.2.2.1, x3.2.2.2)).bind fun r3 => some (.nxt (IntKind.i64.wrap ((IntKind.i64.wrap (s3.1 - 1)) + r3), IntKind.i64.wrap (s3.2 - 1)))) else (some (.brk (s3.1, s3.2)))
def m_s_l8Start (p0l : List (Int × Int × Int × Int)) : Option Int :=
  bindL (loopM (m_s_l8Start_l0 p0l) FUEL (1, (p0l.length : Int))) (fun r => some r) (fun s4 => some s4.2)
def m_s_l10Size : Nat → (List (Int × Int × Int × Int)) → Option Int
  | 0, _ => none
  | n + 1, p0l =>
    (getI p0l (IntKind.i64.wrap ((p0l.length : Int) - 1))).bind fun x0 => Option.bind ((if x0.1 == 4 then (some (x0.1 == 4)) else (some (x0.1 == 5)) : Option Bool)) (fun s1 => if s1 then ((chk (And (0 ≤ (IntKind.i64.wrap ((p0l.length : Int) - 1))) ((IntKind.i64.wrap ((p0l.length : Int) - 1)) ≤ (p0l.length : Int)))).bind fun _ => (m_s_l8Start (p0l.take ((IntKind.i64.wrap ((p0l.length : Int) - 1)).toNat))).bind fun r3 => (chk (And (0 ≤ r3) (r3 ≤ (p0l.length : Int)))).bind fun _ => ((m_s_l10Size n) (p0l.take r3.toNat)).bind fun r5 => (chk (And (0 ≤ r3) (And (r3 ≤ (IntKind.i64.wrap ((p0l.length : Int) - 1))) ((IntKind.i64.wrap ((p0l.length : Int) - 1)) ≤ (p0l.length : Int))))).bind fun _ => ((m_s_l10Size n) ((p0l.take ((IntKind.i64.wrap ((p0l.length : Int) - 1)).toNat)).drop r3.toNat)).bind fun r7 => some (Min.min 100000 (IntKind.i64.wrap ((IntKind.i64.wrap (r5 + r7)) + 1)))) else (if x0.1 == 6 then ((chk (And (0 ≤ (IntKind.i64.wrap ((p0l.length : Int) - 1))) ((IntKind.i64.wrap ((p0l.length : Int) - 1)) ≤ (p0l.length : Int)))).bind fun _ => ((m_s_l10Size n) (p0l.take ((IntKind.i64.wrap ((p0l.length : Int) - 1)).toNat))).bind fun r9 => some (Min.min 100000 (IntKind.i64.wrap (r9 + 1)))) else (if x0.1 == 7 then ((chk (And (0 ≤ (IntKind.i64.wrap ((p0l.length : Int) - 1))) ((IntKind.i64.wrap ((p0l.length : Int) - 1)) ≤ (p0l.length : Int)))).bind fun _ => ((m_s_l10Size n) (p0l.take ((IntKind.i64.wrap ((p0l.length : Int) - 1)).toNat))).bind fun r11 => some (Min.min 100000 (IntKind.i64.wrap ((IntKind.i64.wrap ((IntKind.i64.wrap (r11 + 3)) * x0.2.2.2)) + 1)))) else (some 1))))
def m_s_l8Copy (p0l : List (Int × Int × Int × Int)) : Option (List (Int × Int × Int × Int)) :=
  (appI 32 ([] : List (Int × Int × Int × Int)) p0l).bind fun z1 => some z1
def m_s_l8Join (p0a : (List (Int × Int × Int × Int))) (p1b : (List (Int × Int × Int × Int))) (p2t : Int × Int × Int × Int) : Option (List (Int × Int × Int × Int)) :=
  (m_s_l8Copy p0a).bind fun r1 => (appI 32 r1 p1b).bind fun z1 => (appI 32 z1 ([(p2t.1, p2t.2.1, p2t.2.2.1, p2t.2.2.2)])).bind fun z2 => some z2
def m_s_l8Leaf (p0kind : Int) : Option (List (Int × Int × Int × Int)) :=
  some ([(p0kind, 0, 0, 0)])
def m_s_l10Times : Nat → (List (Int × Int × Int × Int)) → Int → Int → Option (List (Int × Int × Int × Int))
  | 0, _, _, _ => none
  | n + 1, p0e, p1low, p2high =>
    if p2high == 0 then ((m_s_l8Leaf 2).bind fun r0 => some r0) else (((m_s_l10Times n) p0e (Max.max 0 (IntKind.i64.wrap (p1low - 1))) (IntKind.i64.wrap (p2high - 1))).bind fun r1 => (m_s_l8Join p0e r1 (4, 0, 0, 0)).bind fun r2 => if decide (p1low > 0) then (some r2) else ((m_s_l8Leaf 2).bind fun r3 => (m_s_l8Join r2 r3 (5, 0, 0, 0)).bind fun r4 => some r4))
def m_s_l10Expand : Nat → (List (Int × Int × Int × Int)) → Option (List (Int × Int × Int × Int))
  | 0, _ => none
  | n + 1, p0l =>
    (getI p0l (IntKind.i64.wrap ((p0l.length : Int) - 1))).bind fun x0 => Option.bind ((if x0.1 == 4 then (some (x0.1 == 4)) else (some (x0.1 == 5)) : Option Bool)) (fun s1 => if s1 then ((chk (And (0 ≤ (IntKind.i64.wrap ((p0l.length : Int) - 1))) ((IntKind.i64.wrap ((p0l.length : Int) - 1)) ≤ (p0l.length : Int)))).bind fun _ => (m_s_l8Start (p0l.take ((IntKind.i64.wrap ((p0l.length : Int) - 1)).toNat))).bind fun r3 => (chk (And (0 ≤ r3) (r3 ≤ (p0l.length : Int)))).bind fun _ => ((m_s_l10Expand n) (p0l.take r3.toNat)).bind fun r5 => (chk (And (0 ≤ r3) (And (r3 ≤ (IntKind.i64.wrap ((p0l.length : Int) - 1))) ((IntKind.i64.wrap ((p0l.length : Int) - 1)) ≤ (p0l.length : Int))))).bind fun _ => ((m_s_l10Expand n) ((p0l.take ((IntKind.i64.wrap ((p0l.length : Int) - 1)).toNat)).drop r3.toNat)).bind fun r7 => (m_s_l8Join r5 r7 (x0.1, x0.2.1, x0.2.2.1, x0.2.2.2)).bind fun r8 => some r8) else (if x0.1 == 6 then ((chk (And (0 ≤ (IntKind.i64.wrap ((p0l.length : Int) - 1))) ((IntKind.i64.wrap ((p0l.length : Int) - 1)) ≤ (p0l.length : Int)))).bind fun _ => ((m_s_l10Expand n) (p0l.take ((IntKind.i64.wrap ((p0l.length : Int) - 1)).toNat))).bind fun r10 => (m_s_l8Join r10 ([] : List (Int × Int × Int × Int)) (x0.1, x0.2.1, x0.2.2.1, x0.2.2.2)).bind fun r11 => some r11) else (if x0.1 == 7 then ((chk (And (0 ≤ (IntKind.i64.wrap ((p0l.length : Int) - 1))) ((IntKind.i64.wrap ((p0l.length : Int) - 1)) ≤ (p0l.length : Int)))).bind fun _ => ((m_s_l10Expand n) (p0l.take ((IntKind.i64.wrap ((p0l.length : Int) - 1)).toNat))).bind fun r13 => (m_s_l10Times FUELR r13 x0.2.2.1 x0.2.2.2).bind fun r14 => some r14) else (some ([(x0.1, x0.2.1, x0.2.2.1, x0.2.2.2)])))))
def m_s_ExpandExpr (p0e : (List (Int × Int × Int × Int))) : Option (((List (Int × Int × Int × Int))) × Bool) :=
  (m_s_IsValidExpr p0e).bind fun r1 => if r1 then ((m_s_l10Size FUELR p0e).bind fun r2 => if decide (r2 > 5000) then (some ([], false)) else ((m_s_l10Expand FUELR p0e).bind fun r3 => if decide ((r3.length : Int) > 400) then (some ([], false)) else (some (r3, true)))) else (some ([], false))
def m_s_l10Link_l0 (p1from : Int) (p2to : Int) (s2 : Int × List Int) : Option (Out ((List Int) × Int × Int × (List Int) × Bool) (Int × List Int)) :=
  if decide (s2.1 < (s2.2.length : Int)) then (Option.bind (((chk (0 ≤ s2.1)).bind fun _ => if (andI (shrI p1from s2.1) 1) == 1 then ((getI s2.2 s2.1).bind fun x4 => (getI s2.2 s2.1).bind fun x5 => some (s2.2.set s2.1.toNat (orI x4 p2to))) else (some s2.2) : Option (List Int))) (fun s6 => some (.nxt (IntKind.i64.wrap (s2.1 + 1), s6)))) else (some (.brk (s2.1, s2.2)))
def m_s_l10Link (p0p : (List Int) × Int × Int × (List Int) × Bool) (p1from : Int) (p2to : Int) : Option ((List Int) × Int × Int × (List Int) × Bool) :=
  bindL (loopM (m_s_l10Link_l0 p1from p2to) FUEL (0, p0p.2.2.2.1)) (fun r7 => some r7) (fun s8 => some (p0p.1, p0p.2.1, p0p.2.2.1, s8.2, p0p.2.2.2.2))
def m_s_l10Build : Nat → ((List Int) × Int × Int × (List Int) × Bool) → (List (Int × Int × Int × Int)) → Option ((Bool × Int × Int) × (List Int) × Int × Int × (List Int) × Bool)
  | 0, _, _ => none
  | n + 1, p0, p1 =>
    (getI p1 (IntKind.i64.wrap ((p1.length : Int) - 1))).bind fun x0 => if x0.1 == 2 then (some ((true, 0, 0), p0.1, p0.2.1, p0.2.2.1, p0.2.2.2.1, p0.2.2.2.2)) else (if x0.1 == 3 then ((appI 8 p0.1 ([x0.2.1])).bind fun z1 => (appI 8 p0.2.2.2.1 ([0])).bind fun z2 => some ((false, shlI 1 (p0.1.length : Int), shlI 1 (p0.1.length : Int)), z1, p0.2.1, p0.2.2.1, z2, p0.2.2.2.2)) else (if x0.1 == 4 then ((chk (And (0 ≤ (IntKind.i64.wrap ((p1.length : Int) - 1))) ((IntKind.i64.wrap ((p1.length : Int) - 1)) ≤ (p1.length : Int)))).bind fun _ => (m_s_l8Start (p1.take ((IntKind.i64.wrap ((p1.length : Int) - 1)).toNat))).bind fun r4 => (chk (And (0 ≤ r4) (r4 ≤ (p1.length : Int)))).bind fun _ => ((m_s_l10Build n) (p0.1, p0.2.1, p0.2.2.1, p0.2.2.2.1, p0.2.2.2.2) (p1.take r4.toNat)).bind fun r6 => (chk (And (0 ≤ r4) (And (r4 ≤ (IntKind.i64.wrap ((p1.length : Int) - 1))) ((IntKind.i64.wrap ((p1.length : Int) - 1)) ≤ (p1.length : Int))))).bind fun _ => ((m_s_l10Build n) (r6.2.1, r6.2.2.1, r6.2.2.2.1, r6.2.2.2.2.1, r6.2.2.2.2.2) ((p1.take ((IntKind.i64.wrap ((p1.length : Int) - 1)).toNat)).drop r4.toNat)).bind fun r8 => (m_s_l10Link (r8.2.1, r8.2.2.1, r8.2.2.2.1, r8.2.2.2.2.1, r8.2.2.2.2.2) r6.1.2.2 r8.1.2.1).bind fun r9 => if r6.1.1 then (Option.bind ((if r6.1.1 then (some (r8.1.1, orI r6.1.2.1 r8.1.2.1, r8.1.2.2)) else (some (r8.1.1, r6.1.2.1, r8.1.2.2)) : Option (Bool × Int × Int))) (fun s10 => Option.bind ((if r8.1.1 then (some (s10.1, s10.2.1, orI r6.1.2.2 r8.1.2.2)) else (some (s10.1, s10.2.1, s10.2.2)) : Option (Bool × Int × Int))) (fun s11 => some ((s11.1, s11.2.1, s11.2.2), r9.1, r9.2.1, r9.2.2.1, r9.2.2.2.1, r9.2.2.2.2)))) else (Option.bind ((if r6.1.1 then (some (false, orI r6.1.2.1 r8.1.2.1, r8.1.2.2)) else (some (false, r6.1.2.1, r8.1.2.2)) : Option (Bool × Int × Int))) (fun s12 => Option.bind ((if r8.1.1 then (some (s12.1, s12.2.1, orI r6.1.2.2 r8.1.2.2)) else (some (s12.1, s12.2.1, s12.2.2)) : Option (Bool × Int × Int))) (fun s13 => some ((s13.1, s13.2.1, s13.2.2), r9.1, r9.2.1, r9.2.2.1, r9.2.2.2.1, r9.2.2.2.2))))) else (if x0.1 == 5 then ((chk (And (0 ≤ (IntKind.i64.wrap ((p1.length : Int) - 1))) ((IntKind.i64.wrap ((p1.length : Int) - 1)) ≤ (p1.length : Int)))).bind fun _ => (m_s_l8Start (p1.take ((IntKind.i64.wrap ((p1.length : Int) - 1)).toNat))).bind fun r15 => (chk (And (0 ≤ r15) (r15 ≤ (p1.length : Int)))).bind fun _ => ((m_s_l10Build n) (p0.1, p0.2.1, p0.2.2.1, p0.2.2.2.1, p0.2.2.2.2) (p1.take r15.toNat)).bind fun r17 => (chk (And (0 ≤ r15) (And (r15 ≤ (IntKind.i64.wrap ((p1.length : Int) - 1))) ((IntKind.i64.wrap ((p1.length : Int) - 1)) ≤ (p1.length : Int))))).bind fun _ => ((m_s_l10Build n) (r17.2.1, r17.2.2.1, r17.2.2.2.1, r17.2.2.2.2.1, r17.2.2.2.2.2) ((p1.take ((IntKind.i64.wrap ((p1.length : Int) - 1)).toNat)).drop r15.toNat)).bind fun r19 => if r17.1.1 then (some ((true, orI r17.1.2.1 r19.1.2.1, orI r17.1.2.2 r19.1.2.2), r19.2.1, r19.2.2.1, r19.2.2.2.1, r19.2.2.2.2.1, r19.2.2.2.2.2)) else (some ((r19.1.1, orI r17.1.2.1 r19.1.2.1, orI r17.1.2.2 r19.1.2.2), r19.2.1, r19.2.2.1, r19.2.2.2.1, r19.2.2.2.2.1, r19.2.2.2.2.2))) else (if x0.1 == 6 then ((chk (And (0 ≤ (IntKind.i64.wrap ((p1.length : Int) - 1))) ((IntKind.i64.wrap ((p1.length : Int) - 1)) ≤ (p1.length : Int)))).bind fun _ => ((m_s_l10Build n) (p0.1, p0.2.1, p0.2.2.1, p0.2.2.2.1, p0.2.2.2.2) (p1.take ((IntKind.i64.wrap ((p1.length : Int) - 1)).toNat))).bind fun r21 => (m_s_l10Link (r21.2.1, r21.2.2.1, r21.2.2.2.1, r21.2.2.2.2.1, r21.2.2.2.2.2) r21.1.2.2 r21.1.2.1).bind fun r22 => some ((true, r21.1.2.1, r21.1.2.2), r22.1, r22.2.1, r22.2.2.1, r22.2.2.2.1, r22.2.2.2.2)) else (some ((false, 0, 0), p0.1, p0.2.1, p0.2.2.1, p0.2.2.2.1, p0.2.2.2.2))))))
def m_s_BuildPositions_l0 (r0 : (List (Int × Int × Int × Int)) × Bool) (s2 : Int × Int) : Option (Out (((List Int) × Int × Int × (List Int) × Bool) × Bool) (Int × Int)) :=
  if decide (s2.2 < (r0.1.length : Int)) then (Option.bind (((getI r0.1 s2.2).bind fun x3 => if x3.1 == 3 then (some (IntKind.i64.wrap (s2.1 + 1))) else (some s2.1) : Option Int)) (fun s4 => some (.nxt (s4, IntKind.i64.wrap (s2.2 + 1))))) else (some (.brk (s2.1, s2.2)))
def m_s_BuildPositions (p0e : List (Int × Int × Int × Int)) : Option (((List Int) × Int × Int × (List Int) × Bool) × Bool) :=
  (m_s_ExpandExpr p0e).bind fun r0 => if r0.2 then (bindL (loopM (m_s_BuildPositions_l0 r0) FUEL (0, 0)) (fun r5 => some r5) (fun s6 => if decide (s6.1 > 20) then (some ((([] : List Int), 0, 0, ([] : List Int), false), false)) else ((m_s_l10Build FUELR (([] : List Int), 0, 0, ([] : List Int), false) r0.1).bind fun r7 => some ((r7.2.1, r7.1.2.1, r7.1.2.2, r7.2.2.2.2.1, r7.1.1), true)))) else (some ((([] : List Int), 0, 0, ([] : List Int), false), false))
def m_s_l10After_l0 (p0p : (List Int) × Int × Int × (List Int) × Bool) (p1set : Int) (s6 : Int × Int) : Option (Out Int (Int × Int)) :=
  if decide (s6.2 < (p0p.1.length : Int)) then (Option.bind (((chk (0 ≤ IntKind.i64.wrap (s6.2 + 1))).bind fun _ => if (andI (shrI p1set (IntKind.i64.wrap (s6.2 + 1))) 1) == 1 then ((getI p0p.2.2.2.1 s6.2).bind fun x6 => some (orI s6.1 x6)) else (some s6.1) : Option Int)) (fun s8 => some (.nxt (s8, IntKind.i64.wrap (s6.2 + 1))))) else (some (.brk (s6.1, s6.2)))
def m_s_l10After_l1 (p0p : (List Int) × Int × Int × (List Int) × Bool) (p2letter : Int) (s7 : Int × Int) (s13 : Int × Int) : Option (Out Int (Int × Int)) :=
  if decide (s13.2 < (p0p.1.length : Int)) then (Option.bind (((chk (0 ≤ s13.2)).bind fun _ => if (andI (shrI s7.1 s13.2) 1) == 1 then ((getI p0p.1 s13.2).bind fun x12 => if x12 == p2letter then ((chk (0 ≤ IntKind.i64.wrap (s13.2 + 1))).bind fun _ => some (orI s13.1 (shlI 1 (IntKind.i64.wrap (s13.2 + 1))))) else (some s13.1)) else (some s13.1) : Option Int)) (fun s15 => some (.nxt (s15, IntKind.i64.wrap (s13.2 + 1))))) else (some (.brk (s13.1, s13.2)))
def m_s_l10After (p0p : (List Int) × Int × Int × (List Int) × Bool) (p1set : Int) (p2letter : Int) : Option Int :=
  Option.bind ((if (andI p1set 1) == 1 then (some p0p.2.1) else (some 0) : Option Int)) (fun s1 => bindL (loopM (m_s_l10After_l0 p0p p1set) FUEL (s1, 0)) (fun r => some r) (fun s7 => bindL (loopM (m_s_l10After_l1 p0p p2letter s7) FUEL (0, 0)) (fun r => some r) (fun s14 => some s14.1)))
def m_s_l11Find_l0 (p0l : List Int) (p1x : Int) (s3 : Int) : Option (Out Int Int) :=
  if decide (s3 < (p0l.length : Int)) then ((getI p0l s3).bind fun x3 => if x3 == p1x then (some (.ret s3)) else (some (.nxt (IntKind.i64.wrap (s3 + 1))))) else (some (.brk s3))
def m_s_l11Find (p0l : List Int) (p1x : Int) : Option Int :=
  bindL (loopM (m_s_l11Find_l0 p0l p1x) FUEL 0) (fun r => some r) (fun s4 => some (-1))
def m_s_l10Accepts (p0p : (List Int) × Int × Int × (List Int) × Bool) (p1set : Int) : Option Bool :=
  if (andI p1set 1) == 1 then (if p0p.2.2.2.2 then (some true) else (some ((andI (shrI p1set 1) p0p.2.2.1) != 0))) else (some ((andI (shrI p1set 1) p0p.2.2.1) != 0))
def m_s_l11Subsets_l1 (p0 : (List Int) × Int × Int × (List Int) × Bool) (s17 : (List Int) × Int × Int × (List Bool) × (List (List Int))) (s23 : (List Int) × (List Int) × Int) : Option (Out ((Int × (List Bool) × (List (List Int))) × Bool) ((List Int) × (List Int) × Int)) :=
  if decide (s23.2.2 < 9) then ((getI s23.1 s17.2.1).bind fun x11 => (m_s_l10After (p0.1, p0.2.1, p0.2.2.1, p0.2.2.2.1, p0.2.2.2.2) x11 s23.2.2).bind fun r27 => Option.bind ((if r27 != 0 then ((m_s_l11Find s23.1 r27).bind fun r29 => if decide (r29 < 0) then ((appI 8 s23.1 ([r27])).bind fun z30 => some (z30, (s23.1.length : Int))) else (some (s23.1, r29))) else (some (s23.1, -1)) : Option ((List Int) × Int))) (fun s25 => (appI 8 s23.2.1 ([s25.2])).bind fun z31 => some (.nxt (s25.1, z31, IntKind.i64.wrap (s23.2.2 + 1))))) else (some (.brk (s23.1, s23.2.1, s23.2.2)))
def m_s_l11Subsets_l0 (p0 : (List Int) × Int × Int × (List Int) × Bool) (p1 : Int) (s17 : (List Int) × Int × Int × (List Bool) × (List (List Int))) : Option (Out ((Int × (List Bool) × (List (List Int))) × Bool) ((List Int) × Int × Int × (List Bool) × (List (List Int)))) :=
  if decide (s17.2.1 < (s17.1.length : Int)) then (bindL (loopM (m_s_l11Subsets_l1 p0 s17) FUEL (s17.1, ([] : List Int), 0)) (fun r => some (.ret r)) (fun s24 => if decide ((s24.1.length : Int) > p1) then (some (.ret ((0, [], []), false))) else ((getI s24.1 s17.2.1).bind fun x12 => (m_s_l10Accepts (p0.1, p0.2.1, p0.2.2.1, p0.2.2.2.1, p0.2.2.2.2) x12).bind fun r30 => (appI 1 s17.2.2.2.1 ([r30])).bind fun z32 => (appI 24 s17.2.2.2.2 ([s24.2.1])).bind fun z33 => some (.nxt (s24.1, IntKind.i64.wrap (s17.2.1 + 1), s17.2.2.1, z32, z33))))) else (some (.brk (s17.1, s17.2.1, s17.2.2.1, s17.2.2.2.1, s17.2.2.2.2)))
def m_s_l11Subsets (p0 : (List Int) × Int × Int × (List Int) × Bool) (p1 : Int) : Option ((Int × (List Bool) × (List (List Int))) × Bool) :=
  bindL (loopM (m_s_l11Subsets_l0 p0 p1) FUEL ([1], 0, 0, [], [])) (fun r => some r) (fun s18 => some ((s18.2.2.1, s18.2.2.2.1, s18.2.2.2.2), true))
def m_s_l11Nothing_l0 (s3 : (List Int) × Int) : Option (Out (Int × (List Bool) × (List (List Int))) ((List Int) × Int)) :=
  if decide (s3.2 < 9) then ((appI 8 s3.1 ([-1])).bind fun z3 => some (.nxt (z3, IntKind.i64.wrap (s3.2 + 1)))) else (some (.brk (s3.1, s3.2)))
def m_s_l11Nothing : Option (Int × (List Bool) × (List (List Int))) :=
  bindL (loopM (m_s_l11Nothing_l0) FUEL (([] : List Int), 0)) (fun r => some r) (fun s4 => some (0, [false], [s4.1]))
def m_s_l11Number_l1 (p0 : Int × (List Bool) × (List (List Int))) (p1 : List Int) (p2 : List Bool) (s17 : (List Int) × (List Int) × Int × Int × (List Bool) × (List (List Int))) (s23 : (List Int) × (List Int) × (List Int) × Int) : Option (Out (Int × (List Bool) × (List (List Int))) ((List Int) × (List Int) × (List Int) × Int)) :=
  if decide (s23.2.2.2 < 9) then ((getI s23.2.1 s17.2.2.1).bind fun x79 => (getI p0.2.2 x79).bind fun x80 => (getI x80 s23.2.2.2).bind fun x81 => Option.bind ((if decide (x81 ≥ 0) then ((getI p2 x81).bind fun x85 => if x85 then ((getI p1 x81).bind fun x86 => (m_s_l11Find s23.1 x86).bind fun r28 => if decide (r28 < 0) then ((getI p1 x81).bind fun x87 => (appI 8 s23.1 ([x87])).bind fun z47 => (appI 8 s23.2.1 ([x81])).bind fun z48 => some (z47, z48, (s23.1.length : Int))) else (some (s23.1, s23.2.1, r28))) else (some (s23.1, s23.2.1, -1))) else (some (s23.1, s23.2.1, -1)) : Option ((List Int) × (List Int) × Int))) (fun s25 => (appI 8 s23.2.2.1 ([s25.2.2])).bind fun z49 => some (.nxt (s25.1, s25.2.1, z49, IntKind.i64.wrap (s23.2.2.2 + 1))))) else (some (.brk (s23.1, s23.2.1, s23.2.2.1, s23.2.2.2)))
def m_s_l11Number_l0 (p0 : Int × (List Bool) × (List (List Int))) (p1 : List Int) (p2 : List Bool) (s17 : (List Int) × (List Int) × Int × Int × (List Bool) × (List (List Int))) : Option (Out (Int × (List Bool) × (List (List Int))) ((List Int) × (List Int) × Int × Int × (List Bool) × (List (List Int)))) :=
  if decide (s17.2.2.1 < (s17.1.length : Int)) then (bindL (loopM (m_s_l11Number_l1 p0 p1 p2 s17) FUEL (s17.1, s17.2.1, ([] : List Int), 0)) (fun r => some (.ret r)) (fun s24 => (getI s24.2.1 s17.2.2.1).bind fun x88 => (getI p0.2.1 x88).bind fun x89 => (appI 1 s17.2.2.2.2.1 ([x89])).bind fun z50 => (appI 24 s17.2.2.2.2.2 ([s24.2.2.1])).bind fun z51 => some (.nxt (s24.1, s24.2.1, IntKind.i64.wrap (s17.2.2.1 + 1), s17.2.2.2.1, z50, z51)))) else (some (.brk (s17.1, s17.2.1, s17.2.2.1, s17.2.2.2.1, s17.2.2.2.2.1, s17.2.2.2.2.2)))
def m_s_l11Number (p0 : Int × (List Bool) × (List (List Int))) (p1 : List Int) (p2 : List Bool) : Option (Int × (List Bool) × (List (List Int))) :=
  (getI p2 p0.1).bind fun x1 => if x1 then ((getI p1 p0.1).bind fun x2 => bindL (loopM (m_s_l11Number_l0 p0 p1 p2) FUEL ([x2], [p0.1], 0, 0, [], [])) (fun r => some r) (fun s18 => some (s18.2.2.2.1, s18.2.2.2.2.1, s18.2.2.2.2.2))) else ((m_s_l11Nothing ).bind fun r1 => some (r1.1, r1.2.1, r1.2.2))
def m_s_l2Cmp_l0 (p0a : List Int) (p1b : List Int) (s3 : Int) : Option (Out Int Int) :=
  if decide (s3 < (p0a.length : Int)) then (if decide (s3 < (p1b.length : Int)) then ((getI p0a s3).bind fun x9 => (getI p1b s3).bind fun x10 => if decide (x9 < x10) then (some (.ret (-1))) else ((getI p0a s3).bind fun x11 => (getI p1b s3).bind fun x12 => if decide (x11 > x12) then (some (.ret 1)) else (some (.nxt (IntKind.i64.wrap (s3 + 1)))))) else (some (.brk s3))) else (some (.brk s3))
def m_s_l2Cmp (p0a : List Int) (p1b : List Int) : Option Int :=
  bindL (loopM (m_s_l2Cmp_l0 p0a p1b) FUEL 0) (fun r => some r) (fun s4 => if decide ((p0a.length : Int) < (p1b.length : Int)) then (some (-1)) else (if decide ((p0a.length : Int) > (p1b.length : Int)) then (some 1) else (some 0)))
def m_s_l11Live_l2 (p0a : Int × (List Bool) × (List (List Int))) (s71 : (List Bool) × Int) (s77 : (List Bool) × Int) : Option (Out (List Bool) ((List Bool) × Int)) :=
  if decide (s77.2 < 9) then (Option.bind (((getI p0a.2.2 s71.2).bind fun x319 => (getI x319 s77.2).bind fun x320 => if decide (x320 ≥ 0) then ((getI p0a.2.2 s71.2).bind fun x321 => (getI x321 s77.2).bind fun x322 => (getI s77.1 x322).bind fun x323 => if x323 then ((getI s77.1 s71.2).bind fun x324 => some (s77.1.set s71.2.toNat true)) else (some s77.1)) else (some s77.1) : Option (List Bool))) (fun s79 => some (.nxt (s79, IntKind.i64.wrap (s77.2 + 1))))) else (some (.brk (s77.1, s77.2)))
def m_s_l11Live_l1 (p0a : Int × (List Bool) × (List (List Int))) (s71 : (List Bool) × Int) : Option (Out (List Bool) ((List Bool) × Int)) :=
  if decide (s71.2 < (p0a.2.1.length : Int)) then (bindL (loopM (m_s_l11Live_l2 p0a s71) FUEL (s71.1, 0)) (fun r => some (.ret r)) (fun s78 => some (.nxt (s78.1, IntKind.i64.wrap (s71.2 + 1))))) else (some (.brk (s71.1, s71.2)))
def m_s_l11Live_l0 (p0a : Int × (List Bool) × (List (List Int))) (s53 : (List Bool) × Int) : Option (Out (List Bool) ((List Bool) × Int)) :=
  if decide (s53.2 < (p0a.2.1.length : Int)) then (bindL (loopM (m_s_l11Live_l1 p0a) FUEL (s53.1, 0)) (fun r => some (.ret r)) (fun s72 => some (.nxt (s72.1, IntKind.i64.wrap (s53.2 + 1))))) else (some (.brk (s53.1, s53.2)))
def m_s_l11Live (p0a : Int × (List Bool) × (List (List Int))) : Option (List Bool) :=
  (appI 1 ([] : List Bool) p0a.2.1).bind fun z1 => bindL (loopM (m_s_l11Live_l0 p0a) FUEL (z1, 0)) (fun r => some r) (fun s54 => some s54.1)
def m_s_l12Key_l0 (p0a : Int × (List Bool) × (List (List Int))) (p1classes : List Int) (p2s : Int) (s5 : (List Int) × Int) : Option (Out (List Int) ((List Int) × Int)) :=
  if decide (s5.2 < 9) then (Option.bind (((getI p0a.2.2 p2s).bind fun x17 => (getI x17 s5.2).bind fun x18 => if decide (x18 < 0) then ((appI 8 s5.1 ([-1])).bind fun z12 => some z12) else ((getI p1classes x18).bind fun x19 => (appI 8 s5.1 ([x19])).bind fun z11 => some z11) : Option (List Int))) (fun s7 => some (.nxt (s7, IntKind.i64.wrap (s5.2 + 1))))) else (some (.brk (s5.1, s5.2)))
def m_s_l12Key (p0a : Int × (List Bool) × (List (List Int))) (p1classes : List Int) (p2s : Int) : Option (List Int) :=
  (getI p1classes p2s).bind fun x1 => bindL (loopM (m_s_l12Key_l0 p0a p1classes p2s) FUEL ([x1], 0)) (fun r => some r) (fun s6 => some s6.1)
def m_s_l12Classes_l0 (p0 : Int × (List Bool) × List (List Int)) (r0 : List Bool) (s2 : (List Int) × Int) : Option (Out (List Int) ((List Int) × Int)) :=
  if decide (s2.2 < (p0.2.1.length : Int)) then ((getI p0.2.1 s2.2).bind fun x3 => Option.bind ((if x3 then (some 1) else (some 0) : Option Int)) (fun s4 => (getI r0 s2.2).bind fun x5 => Option.bind ((if x5 then (some s4) else (some (-1)) : Option Int)) (fun s6 => (appI 8 s2.1 ([s6])).bind fun z7 => some (.nxt (z7, IntKind.i64.wrap (s2.2 + 1)))))) else (some (.brk (s2.1, s2.2)))
def m_s_l12Classes_l3 (s13 : (List (List Int)) × (List Int) × Int) (r16 : List Int) (s18 : Int × Int) : Option (Out (List Int) (Int × Int)) :=
  if decide (s18.2 < (s13.1.length : Int)) then (Option.bind (((getI s13.1 s18.2).bind fun x19 => (m_s_l2Cmp x19 r16).bind fun r20 => if r20 == 0 then (some s18.2) else (some s18.1) : Option Int)) (fun s21 => some (.nxt (s21, IntKind.i64.wrap (s18.2 + 1))))) else (some (.brk (s18.1, s18.2)))
def m_s_l12Classes_l2 (p0 : Int × (List Bool) × List (List Int)) (s11 : (List Int) × Int) (s13 : (List (List Int)) × (List Int) × Int) : Option (Out (List Int) ((List (List Int)) × (List Int) × Int)) :=
  if decide (s13.2.2 < (p0.2.1.length : Int)) then (Option.bind (((getI s11.1 s13.2.2).bind fun x14 => if decide (x14 < 0) then ((appI 8 s13.2.1 ([(-1)])).bind fun z15 => some (s13.1, z15)) else ((m_s_l12Key (p0.1, p0.2.1, p0.2.2) s11.1 s13.2.2).bind fun r16 => bindL (loopM (m_s_l12Classes_l3 s13 r16) FUEL ((-1), 0)) (fun r22 => none) (fun s23 => Option.bind ((if decide (s23.1 < 0) then ((appI 24 s13.1 ([r16])).bind fun z24 => some (z24, (s13.1.length : Int))) else (some (s13.1, s23.1)) : Option ((List (List Int)) × Int))) (fun s25 => (appI 8 s13.2.1 ([s25.2])).bind fun z26 => some (s25.1, z26)))) : Option ((List (List Int)) × List Int))) (fun s27 => some (.nxt (s27.1, s27.2, IntKind.i64.wrap (s13.2.2 + 1))))) else (some (.brk (s13.1, s13.2.1, s13.2.2)))
def m_s_l12Classes_l1 (p0 : Int × (List Bool) × List (List Int)) (s11 : (List Int) × Int) : Option (Out (List Int) ((List Int) × Int)) :=
  if decide (s11.2 ≤ (p0.2.1.length : Int)) then (bindL (loopM (m_s_l12Classes_l2 p0 s11) FUEL (([] : List (List Int)), ([] : List Int), 0)) (fun r28 => some (.ret r28)) (fun s29 => (m_s_l2Cmp s29.2.1 s11.1).bind fun r30 => if r30 == 0 then (some (.ret s11.1)) else (some (.nxt (s29.2.1, IntKind.i64.wrap (s11.2 + 1)))))) else (some (.brk (s11.1, s11.2)))
def m_s_l12Classes (p0 : Int × (List Bool) × List (List Int)) : Option (List Int) :=
  (m_s_l11Live (p0.1, p0.2.1, p0.2.2)).bind fun r0 => bindL (loopM (m_s_l12Classes_l0 p0 r0) FUEL (([] : List Int), 0)) (fun r8 => some r8) (fun s9 => bindL (loopM (m_s_l12Classes_l1 p0) FUEL (s9.1, 0)) (fun r31 => some r31) (fun s32 => some s32.1))
def m_s_l12Minimize (p0a : Int × (List Bool) × (List (List Int))) : Option (Int × (List Bool) × (List (List Int))) :=
  (m_s_l12Classes (p0a.1, p0a.2.1, p0a.2.2)).bind fun r1 => (m_s_l11Live (p0a.1, p0a.2.1, p0a.2.2)).bind fun r2 => (m_s_l11Number (p0a.1, p0a.2.1, p0a.2.2) r1 r2).bind fun r3 => some (r3.1, r3.2.1, r3.2.2)
def m_s_CompileExpr (p0e : (List (Int × Int × Int × Int))) : Option ((Int × (List Bool) × (List (List Int))) × Bool) :=
  (m_s_BuildPositions p0e).bind fun r1 => if r1.2 then ((m_s_l11Subsets (r1.1.1, r1.1.2.1, r1.1.2.2.1, r1.1.2.2.2.1, r1.1.2.2.2.2) 200).bind fun r2 => if r2.2 then ((m_s_l12Minimize (r2.1.1, r2.1.2.1, r2.1.2.2)).bind fun r3 => if decide ((r3.2.1.length : Int) > 12) then (some ((0, [], []), false)) else (some ((r3.1, r3.2.1, r3.2.2), true))) else (some ((0, [], []), false))) else (some ((0, [], []), false))
def m_s_EqualAutomata_l0 (p0 : Int × (List Bool) × (List (List Int))) (p1 : Int × (List Bool) × (List (List Int))) (s3 : Int) : Option (Out Bool Int) :=
  if decide (s3 < (p0.2.1.length : Int)) then ((getI p0.2.1 s3).bind fun x5 => (getI p1.2.1 s3).bind fun x6 => if x5 != x6 then (some (.ret false)) else (some (.nxt (IntKind.i64.wrap (s3 + 1))))) else (some (.brk s3))
def m_s_EqualAutomata_l1 (p0 : Int × (List Bool) × (List (List Int))) (p1 : Int × (List Bool) × (List (List Int))) (s7 : Int) : Option (Out Bool Int) :=
  if decide (s7 < (p0.2.2.length : Int)) then ((getI p0.2.2 s7).bind fun x11 => (getI p1.2.2 s7).bind fun x12 => (m_s_l2Cmp x11 x12).bind fun r9 => if r9 != 0 then (some (.ret false)) else (some (.nxt (IntKind.i64.wrap (s7 + 1))))) else (some (.brk s7))
def m_s_EqualAutomata (p0 : Int × (List Bool) × (List (List Int))) (p1 : Int × (List Bool) × (List (List Int))) : Option Bool :=
  if p0.1 != p1.1 then (some false) else (if (p0.2.1.length : Int) != (p1.2.1.length : Int) then (some false) else (if (p0.2.2.length : Int) != (p1.2.2.length : Int) then (some false) else (bindL (loopM (m_s_EqualAutomata_l0 p0 p1) FUEL 0) (fun r => some r) (fun s4 => bindL (loopM (m_s_EqualAutomata_l1 p0 p1) FUEL 0) (fun r => some r) (fun s8 => some true)))))
def m_s_l31Index_l0 (p0l : List (Int × (List Bool) × (List (List Int)))) (p1a : Int × (List Bool) × (List (List Int))) (s3 : Int) : Option (Out Int Int) :=
  if decide (s3 < (p0l.length : Int)) then ((getI p0l s3).bind fun x3 => (m_s_EqualAutomata (x3.1, x3.2.1, x3.2.2) (p1a.1, p1a.2.1, p1a.2.2)).bind fun r9 => if r9 then (some (.ret s3)) else (some (.nxt (IntKind.i64.wrap (s3 + 1))))) else (some (.brk s3))
def m_s_l31Index (p0l : List (Int × (List Bool) × (List (List Int)))) (p1a : Int × (List Bool) × (List (List Int))) : Option Int :=
  bindL (loopM (m_s_l31Index_l0 p0l p1a) FUEL 0) (fun r => some r) (fun s4 => some (-1))
def m_s_l31Build_l0 (p0 : List (Int × ((List (Int × Int × Int × Int))) × Int)) (s7 : Int × (List (Int × (List Bool) × (List (List Int)))) × (List (Int × ((List (Int × Int × Int × Int))) × Int))) : Option (Out (((List (Int × (List Bool) × (List (List Int)))) × (List (Int × ((List (Int × Int × Int × Int))) × Int))) × Bool) (Int × (List (Int × (List Bool) × (List (List Int)))) × (List (Int × ((List (Int × Int × Int × Int))) × Int)))) :=
  if decide (s7.1 < (p0.length : Int)) then ((getI p0 s7.1).bind fun x17 => (m_s_CompileExpr x17.2.1).bind fun r20 => if r20.2 then ((getI p0 s7.1).bind fun x18 => (m_s_l1In x18.1 1 99).bind fun r21 => if r21 then (if decide (s7.1 > 0) then ((getI p0 (IntKind.i64.wrap (s7.1 - 1))).bind fun x21 => (getI p0 s7.1).bind fun x22 => if decide (x21.1 ≥ x22.1) then (some (.ret (([], []), false))) else ((m_s_l31Index s7.2.1 (r20.1.1, r20.1.2.1, r20.1.2.2)).bind fun r25 => Option.bind ((if decide (r25 < 0) then ((appI 56 s7.2.1 ([(r20.1.1, r20.1.2.1, r20.1.2.2)])).bind fun z17 => some ((s7.2.1.length : Int), z17, s7.2.2)) else (some (r25, s7.2.1, s7.2.2)) : Option (Int × (List (Int × (List Bool) × (List (List Int)))) × (List (Int × ((List (Int × Int × Int × Int))) × Int))))) (fun s10 => (getI p0 s7.1).bind fun x23 => (getI p0 s7.1).bind fun x24 => (m_s_l8Copy x24.2.1).bind fun r27 => (appI 40 s10.2.2 ([(x23.1, r27, s10.1)])).bind fun z18 => some (.nxt (IntKind.i64.wrap (s7.1 + 1), s10.2.1, z18))))) else ((m_s_l31Index s7.2.1 (r20.1.1, r20.1.2.1, r20.1.2.2)).bind fun r22 => Option.bind ((if decide (r22 < 0) then ((appI 56 s7.2.1 ([(r20.1.1, r20.1.2.1, r20.1.2.2)])).bind fun z14 => some ((s7.2.1.length : Int), z14, s7.2.2)) else (some (r22, s7.2.1, s7.2.2)) : Option (Int × (List (Int × (List Bool) × (List (List Int)))) × (List (Int × ((List (Int × Int × Int × Int))) × Int))))) (fun s9 => (getI p0 s7.1).bind fun x19 => (getI p0 s7.1).bind fun x20 => (m_s_l8Copy x20.2.1).bind fun r24 => (appI 40 s9.2.2 ([(x19.1, r24, s9.1)])).bind fun z15 => some (.nxt (IntKind.i64.wrap (s7.1 + 1), s9.2.1, z15))))) else (some (.ret (([], []), false)))) else (some (.ret (([], []), false)))) else (some (.brk (s7.1, s7.2.1, s7.2.2)))
def m_s_l31Build (p0 : List (Int × ((List (Int × Int × Int × Int))) × Int)) : Option (((List (Int × (List Bool) × (List (List Int)))) × (List (Int × ((List (Int × Int × Int × Int))) × Int))) × Bool) :=
  if decide ((p0.length : Int) > 4) then (some (([], []), false)) else (bindL (loopM (m_s_l31Build_l0 p0) FUEL (0, [], [])) (fun r => some r) (fun s8 => some ((s8.2.1, s8.2.2), true)))
def m_s_EqualExprs_l0 (p0a : (List (Int × Int × Int × Int))) (p1b : (List (Int × Int × Int × Int))) (s3 : Int) : Option (Out Bool Int) :=
  if decide (s3 < (p0a.length : Int)) then ((getI p0a s3).bind fun x5 => (getI p1b s3).bind fun x6 => if (x5.1 == x6.1) && ((x5.2.1 == x6.2.1) && ((x5.2.2.1 == x6.2.2.1) && ((x5.2.2.2 == x6.2.2.2) && true))) then (some (.nxt (IntKind.i64.wrap (s3 + 1)))) else (some (.ret false))) else (some (.brk s3))
def m_s_EqualExprs (p0a : (List (Int × Int × Int × Int))) (p1b : (List (Int × Int × Int × Int))) : Option Bool :=
  if (p0a.length : Int) != (p1b.length : Int) then (some false) else (bindL (loopM (m_s_EqualExprs_l0 p0a p1b) FUEL 0) (fun r => some r) (fun s4 => some true))
def m_s_EqualRegistries_l0 (p0 : (List (Int × (List Bool) × (List (List Int)))) × (List (Int × ((List (Int × Int × Int × Int))) × Int))) (p1 : (List (Int × (List Bool) × (List (List Int)))) × (List (Int × ((List (Int × Int × Int × Int))) × Int))) (s3 : Int) : Option (Out Bool Int) :=
  if decide (s3 < (p0.1.length : Int)) then ((getI p0.1 s3).bind fun x5 => (getI p1.1 s3).bind fun x6 => (m_s_EqualAutomata (x5.1, x5.2.1, x5.2.2) (x6.1, x6.2.1, x6.2.2)).bind fun r15 => if r15 then (some (.nxt (IntKind.i64.wrap (s3 + 1)))) else (some (.ret false))) else (some (.brk s3))
def m_s_EqualRegistries_l1 (p0 : (List (Int × (List Bool) × (List (List Int)))) × (List (Int × ((List (Int × Int × Int × Int))) × Int))) (p1 : (List (Int × (List Bool) × (List (List Int)))) × (List (Int × ((List (Int × Int × Int × Int))) × Int))) (s7 : Int) : Option (Out Bool Int) :=
  if decide (s7 < (p0.2.length : Int)) then ((getI p0.2 s7).bind fun x19 => (getI p1.2 s7).bind fun x20 => if x19.1 != x20.1 then (some (.ret false)) else ((getI p0.2 s7).bind fun x21 => (getI p1.2 s7).bind fun x22 => (m_s_EqualExprs x21.2.1 x22.2.1).bind fun r24 => if r24 then ((getI p0.2 s7).bind fun x23 => (getI p1.2 s7).bind fun x24 => if x23.2.2 != x24.2.2 then (some (.ret false)) else (some (.nxt (IntKind.i64.wrap (s7 + 1))))) else (some (.ret false)))) else (some (.brk s7))
def m_s_EqualRegistries (p0 : (List (Int × (List Bool) × (List (List Int)))) × (List (Int × ((List (Int × Int × Int × Int))) × Int))) (p1 : (List (Int × (List Bool) × (List (List Int)))) × (List (Int × ((List (Int × Int × Int × Int))) × Int))) : Option Bool :=
  if (p0.1.length : Int) != (p1.1.length : Int) then (some false) else (if (p0.2.length : Int) != (p1.2.length : Int) then (some false) else (bindL (loopM (m_s_EqualRegistries_l0 p0 p1) FUEL 0) (fun r => some r) (fun s4 => bindL (loopM (m_s_EqualRegistries_l1 p0 p1) FUEL 0) (fun r => some r) (fun s8 => some true))))
def m_s_IsValidRegistry (p0r : (List (Int × (List Bool) × (List (List Int)))) × (List (Int × ((List (Int × Int × Int × Int))) × Int))) : Option Bool :=
  (m_s_l31Build p0r.2).bind fun r1 => if r1.2 then ((m_s_EqualRegistries (r1.1.1, r1.1.2) (p0r.1, p0r.2)).bind fun r2 => some r2) else (some false)
def m_s_FindQuery_l0 (p0r : (List (Int × (List Bool) × (List (List Int)))) × (List (Int × ((List (Int × Int × Int × Int))) × Int))) (p1id : Int) (s3 : Int) : Option (Out Int Int) :=
  if decide (s3 < (p0r.2.length : Int)) then ((getI p0r.2 s3).bind fun x3 => if x3.1 == p1id then (some (.ret s3)) else (some (.nxt (IntKind.i64.wrap (s3 + 1))))) else (some (.brk s3))
def m_s_FindQuery (p0r : (List (Int × (List Bool) × (List (List Int)))) × (List (Int × ((List (Int × Int × Int × Int))) × Int))) (p1id : Int) : Option Int :=
  bindL (loopM (m_s_FindQuery_l0 p0r p1id) FUEL 0) (fun r => some r) (fun s4 => some (-1))
def m_s_l11Copy_l0 (p0a : Int × (List Bool) × (List (List Int))) (s3 : Int × Int × (List Bool) × (List (List Int))) : Option (Out (Int × (List Bool) × (List (List Int))) (Int × Int × (List Bool) × (List (List Int)))) :=
  if decide (s3.1 < (p0a.2.2.length : Int)) then ((getI p0a.2.2 s3.1).bind fun x3 => (appI 8 ([] : List Int) x3).bind fun z6 => (appI 24 s3.2.2.2 ([z6])).bind fun z7 => some (.nxt (IntKind.i64.wrap (s3.1 + 1), s3.2.1, s3.2.2.1, z7))) else (some (.brk (s3.1, s3.2.1, s3.2.2.1, s3.2.2.2)))
def m_s_l11Copy (p0a : Int × (List Bool) × (List (List Int))) : Option (Int × (List Bool) × (List (List Int))) :=
  (appI 1 ([] : List Bool) p0a.2.1).bind fun z1 => bindL (loopM (m_s_l11Copy_l0 p0a) FUEL (0, p0a.1, z1, [])) (fun r => some r) (fun s4 => some (s4.2.1, s4.2.2.1, s4.2.2.2))
def m_s_l31Copy_l0 (p0r : (List (Int × (List Bool) × (List (List Int)))) × (List (Int × ((List (Int × Int × Int × Int))) × Int))) (s3 : Int × (List (Int × (List Bool) × (List (List Int)))) × (List (Int × ((List (Int × Int × Int × Int))) × Int))) : Option (Out ((List (Int × (List Bool) × (List (List Int)))) × (List (Int × ((List (Int × Int × Int × Int))) × Int))) (Int × (List (Int × (List Bool) × (List (List Int)))) × (List (Int × ((List (Int × Int × Int × Int))) × Int)))) :=
  if decide (s3.1 < (p0r.1.length : Int)) then ((getI p0r.1 s3.1).bind fun x3 => (m_s_l11Copy (x3.1, x3.2.1, x3.2.2)).bind fun r9 => (appI 56 s3.2.1 ([(r9.1, r9.2.1, r9.2.2)])).bind fun z3 => some (.nxt (IntKind.i64.wrap (s3.1 + 1), z3, s3.2.2))) else (some (.brk (s3.1, s3.2.1, s3.2.2)))
def m_s_l31Copy_l1 (p0r : (List (Int × (List Bool) × (List (List Int)))) × (List (Int × ((List (Int × Int × Int × Int))) × Int))) (s7 : Int × (List (Int × (List Bool) × (List (List Int)))) × (List (Int × ((List (Int × Int × Int × Int))) × Int))) : Option (Out ((List (Int × (List Bool) × (List (List Int)))) × (List (Int × ((List (Int × Int × Int × Int))) × Int))) (Int × (List (Int × (List Bool) × (List (List Int)))) × (List (Int × ((List (Int × Int × Int × Int))) × Int)))) :=
  if decide (s7.1 < (p0r.2.length : Int)) then ((getI p0r.2 s7.1).bind fun x6 => (m_s_l8Copy x6.2.1).bind fun r15 => (appI 40 s7.2.2 ([(x6.1, r15, x6.2.2)])).bind fun z6 => some (.nxt (IntKind.i64.wrap (s7.1 + 1), s7.2.1, z6))) else (some (.brk (s7.1, s7.2.1, s7.2.2)))
def m_s_l31Copy (p0r : (List (Int × (List Bool) × (List (List Int)))) × (List (Int × ((List (Int × Int × Int × Int))) × Int))) : Option ((List (Int × (List Bool) × (List (List Int)))) × (List (Int × ((List (Int × Int × Int × Int))) × Int))) :=
  bindL (loopM (m_s_l31Copy_l0 p0r) FUEL (0, [], [])) (fun r => some r) (fun s4 => bindL (loopM (m_s_l31Copy_l1 p0r) FUEL (0, s4.2.1, s4.2.2)) (fun r => some r) (fun s8 => some (s8.2.1, s8.2.2)))
def m_s_RegisterQuery_l0 (p0 : (List (Int × (List Bool) × (List (List Int)))) × (List (Int × ((List (Int × Int × Int × Int))) × Int))) (p1 : Int) (s3 : Int) : Option (Out (((List (Int × (List Bool) × (List (List Int)))) × (List (Int × ((List (Int × Int × Int × Int))) × Int))) × Bool) Int) :=
  if decide (s3 < (p0.2.length : Int)) then ((getI p0.2 s3).bind fun x3 => if decide (x3.1 < p1) then (some (.nxt (IntKind.i64.wrap (s3 + 1)))) else (some (.brk s3))) else (some (.brk s3))
def m_s_RegisterQuery (p0 : (List (Int × (List Bool) × (List (List Int)))) × (List (Int × ((List (Int × Int × Int × Int))) × Int))) (p1 : Int) (p2 : (List (Int × Int × Int × Int))) : Option (((List (Int × (List Bool) × (List (List Int)))) × (List (Int × ((List (Int × Int × Int × Int))) × Int))) × Bool) :=
  (m_s_IsValidRegistry (p0.1, p0.2)).bind fun r1 => if r1 then ((m_s_FindQuery (p0.1, p0.2) p1).bind fun r3 => if decide (r3 ≥ 0) then ((m_s_l31Copy (p0.1, p0.2)).bind fun r6 => some ((r6.1, r6.2), false)) else (bindL (loopM (m_s_RegisterQuery_l0 p0 p1) FUEL 0) (fun r => some r) (fun s4 => (chk (0 ≤ s4 ∧ s4 ≤ (p0.2.length : Int))).bind fun _ => (appI 40 ([] : List (Int × ((List (Int × Int × Int × Int))) × Int)) (p0.2.take s4.toNat)).bind fun z1 => (appI 40 z1 ([(p1, p2, 0)])).bind fun z2 => (chk (0 ≤ s4 ∧ s4 ≤ (p0.2.length : Int))).bind fun _ => (appI 40 z2 (p0.2.drop s4.toNat)).bind fun z3 => (m_s_l31Build z3).bind fun r4 => if r4.2 then (some ((r4.1.1, r4.1.2), true)) else ((m_s_l31Copy (p0.1, p0.2)).bind fun r5 => some ((r5.1, r5.2), false))))) else ((m_s_l31Copy (p0.1, p0.2)).bind fun r2 => some ((r2.1, r2.2), false))
def m_w_heldBoolS_l0 (p0a : List Bool) (s3 : Int × Int) : Option (Out Int (Int × Int)) :=
  if decide (s3.2 < (p0a.length : Int)) then ((getI p0a s3.2).bind fun x3 => if x3 != ((Int.tmod s3.1 3) == 0) then (some (.ret (-1))) else (some (.nxt (IntKind.i64.wrap (s3.1 + 1), IntKind.i64.wrap (s3.2 + 1))))) else (some (.brk (s3.1, s3.2)))
def m_w_heldBoolS (p0a : List Bool) (p1k : Int) : Option Int :=
  bindL (loopM (m_w_heldBoolS_l0 p0a) FUEL (p1k, 0)) (fun r => some r) (fun s4 => some s4.1)
def m_w_heldIntS_l0 (p0a : List Int) (s3 : Int × Int) : Option (Out Int (Int × Int)) :=
  if decide (s3.2 < (p0a.length : Int)) then ((getI p0a s3.2).bind fun x3 => if x3 != s3.1 then (some (.ret (-1))) else (some (.nxt (IntKind.i64.wrap (s3.1 + 1), IntKind.i64.wrap (s3.2 + 1))))) else (some (.brk (s3.1, s3.2)))
def m_w_heldIntS (p0a : List Int) (p1k : Int) : Option Int :=
  bindL (loopM (m_w_heldIntS_l0 p0a) FUEL (p1k, 0)) (fun r => some r) (fun s4 => some s4.1)
def m_w_heldIntSS_l0 (p0a : List (List Int)) (s3 : Int × Int) : Option (Out Int (Int × Int)) :=
  if decide (s3.2 < (p0a.length : Int)) then ((getI p0a s3.2).bind fun x3 => (m_w_heldIntS x3 s3.1).bind fun r6 => if decide (r6 < 0) then (some (.ret (-1))) else (some (.nxt (r6, IntKind.i64.wrap (s3.2 + 1))))) else (some (.brk (s3.1, s3.2)))
def m_w_heldIntSS (p0a : List (List Int)) (p1k : Int) : Option Int :=
  bindL (loopM (m_w_heldIntSS_l0 p0a) FUEL (p1k, 0)) (fun r => some r) (fun s4 => some s4.1)
def m_w_heldAutomatonS_l0 (p0a : List (Int × (List Bool) × (List (List Int)))) (s3 : Int × Int) : Option (Out Int (Int × Int)) :=
  if decide (s3.2 < (p0a.length : Int)) then ((getI p0a s3.2).bind fun x7 => if x7.1 != s3.1 then (some (.ret (-1))) else ((getI p0a s3.2).bind fun x8 => (m_w_heldBoolS x8.2.1 (IntKind.i64.wrap (s3.1 + 1))).bind fun r10 => if decide (r10 < 0) then (some (.ret (-1))) else ((getI p0a s3.2).bind fun x9 => (m_w_heldIntSS x9.2.2 r10).bind fun r12 => if decide (r12 < 0) then (some (.ret (-1))) else (some (.nxt (r12, IntKind.i64.wrap (s3.2 + 1))))))) else (some (.brk (s3.1, s3.2)))
def m_w_heldAutomatonS (p0a : List (Int × (List Bool) × (List (List Int)))) (p1k : Int) : Option Int :=
  bindL (loopM (m_w_heldAutomatonS_l0 p0a) FUEL (p1k, 0)) (fun r => some r) (fun s4 => some s4.1)
def m_w_heldTokenS_l0 (p0a : List (Int × Int × Int × Int)) (s3 : Int × Int) : Option (Out Int (Int × Int)) :=
  if decide (s3.2 < (p0a.length : Int)) then ((getI p0a s3.2).bind fun x9 => if x9.1 != s3.1 then (some (.ret (-1))) else ((getI p0a s3.2).bind fun x10 => if x10.2.1 != (IntKind.i64.wrap (s3.1 + 1)) then (some (.ret (-1))) else ((getI p0a s3.2).bind fun x11 => if x11.2.2.1 != (IntKind.i64.wrap ((IntKind.i64.wrap (s3.1 + 1)) + 1)) then (some (.ret (-1))) else ((getI p0a s3.2).bind fun x12 => if x12.2.2.2 != (IntKind.i64.wrap ((IntKind.i64.wrap ((IntKind.i64.wrap (s3.1 + 1)) + 1)) + 1)) then (some (.ret (-1))) else (some (.nxt (IntKind.i64.wrap ((IntKind.i64.wrap ((IntKind.i64.wrap ((IntKind.i64.wrap (s3.1 + 1)) + 1)) + 1)) + 1), IntKind.i64.wrap (s3.2 + 1)))))))) else (some (.brk (s3.1, s3.2)))
def m_w_heldTokenS (p0a : List (Int × Int × Int × Int)) (p1k : Int) : Option Int :=
  bindL (loopM (m_w_heldTokenS_l0 p0a) FUEL (p1k, 0)) (fun r => some r) (fun s4 => some s4.1)
def m_w_heldRegisteredS_l0 (p0a : List (Int × ((List (Int × Int × Int × Int))) × Int)) (s3 : Int × Int) : Option (Out Int (Int × Int)) :=
  if decide (s3.2 < (p0a.length : Int)) then ((getI p0a s3.2).bind fun x7 => if x7.1 != s3.1 then (some (.ret (-1))) else ((getI p0a s3.2).bind fun x8 => (m_w_heldTokenS x8.2.1 (IntKind.i64.wrap (s3.1 + 1))).bind fun r6 => if decide (r6 < 0) then (some (.ret (-1))) else ((getI p0a s3.2).bind fun x9 => if x9.2.2 != r6 then (some (.ret (-1))) else (some (.nxt (IntKind.i64.wrap (r6 + 1), IntKind.i64.wrap (s3.2 + 1))))))) else (some (.brk (s3.1, s3.2)))
def m_w_heldRegisteredS (p0a : List (Int × ((List (Int × Int × Int × Int))) × Int)) (p1k : Int) : Option Int :=
  bindL (loopM (m_w_heldRegisteredS_l0 p0a) FUEL (p1k, 0)) (fun r => some r) (fun s4 => some s4.1)
def m_w_heldRegistry (p0a : (List (Int × (List Bool) × (List (List Int)))) × (List (Int × ((List (Int × Int × Int × Int))) × Int))) (p1k : Int) : Option Int :=
  (m_w_heldAutomatonS p0a.1 p1k).bind fun r1 => if decide (r1 < 0) then (some (-1)) else ((m_w_heldRegisteredS p0a.2 r1).bind fun r2 => if decide (r2 < 0) then (some (-1)) else (some r2))
def m_w_markExpr (p0a : (List (Int × Int × Int × Int))) (p1k : Int) : Option (Int × ((List (Int × Int × Int × Int)))) :=
  (m_w_markTokenS p0a p1k).bind fun r1 => some (r1.1, r1.2)
def m_w_FnExactRegisterQuery (p0 : (List (Int × (List Bool) × (List (List Int)))) × (List (Int × ((List (Int × Int × Int × Int))) × Int))) (p1 : Int) (p2 : (List (Int × Int × Int × Int))) : Option Bool :=
  (m_w_szRegistry (p0.1, p0.2) 1048576).bind fun r1 => if decide (r1 < 0) then (some true) else ((m_w_szExpr p2 r1).bind fun r2 => if decide (r2 < 0) then (some true) else ((m_w_toRegistry (p0.1, p0.2)).bind fun r3 => (m_w_toExpr p2).bind fun r4 => (m_s_RegisterQuery (r3.1, r3.2) p1 r4).bind fun r5 => (m_w_toRegistry (p0.1, p0.2)).bind fun r6 => (m_w_toExpr p2).bind fun r7 => (m_i_RegisterQuery (r6.1, r6.2) p1 r7).bind fun r8 => (m_w_eqRegistry (r8.1.1, r8.1.2) (r5.1.1, r5.1.2)).bind fun r9 => if r9 then (if r8.2 != r5.2 then (some false) else ((m_w_toRegistry (p0.1, p0.2)).bind fun r10 => (m_w_eqRegistry (r6.1, r6.2) (r10.1, r10.2)).bind fun r11 => if r11 then ((m_w_toExpr p2).bind fun r12 => (m_w_eqExpr r7 r12).bind fun r13 => if r13 then ((m_w_markRegistry (r6.1, r6.2) 1).bind fun r14 => (m_w_markExpr r7 r14.1).bind fun r15 => if decide (r15.1 < 0) then (some false) else ((m_w_eqRegistry (r8.1.1, r8.1.2) (r5.1.1, r5.1.2)).bind fun r16 => if r16 then (if r8.2 != r5.2 then (some false) else ((m_w_markRegistry (r8.1.1, r8.1.2) 1).bind fun r17 => (m_w_heldRegistry (r17.2.1, r17.2.2) 1).bind fun r18 => if decide (r18 < 0) then (some false) else (if r18 != r17.1 then (some false) else ((m_w_toRegistry (p0.1, p0.2)).bind fun r19 => (m_w_toExpr p2).bind fun r20 => (m_i_RegisterQuery (r19.1, r19.2) p1 r20).bind fun r21 => (m_w_eqRegistry (r21.1.1, r21.1.2) (r5.1.1, r5.1.2)).bind fun r22 => if r22 then (if r21.2 != r5.2 then (some false) else ((m_w_heldRegistry (r17.2.1, r17.2.2) 1).bind fun r23 => if decide (r23 < 0) then (some false) else (if r23 != r17.1 then (some false) else (some true)))) else (some false))))) else (some false))) else (some false)) else (some false))) else (some false)))
end Go.Proofs.YtimjccbdngajoaaGreat.D
/- Printed by lp.py: what is known of the types and of the functions. -/
set_option linter.unusedVariables false
set_option maxRecDepth 1000000
namespace Go.Proofs.YtimjccbdngajoaaGreat.R
open Go.RowKit
open Go.Proofs.YtimjccbdngajoaaGreat.D
abbrev y3 : Ty := .int .i64
abbrev y127 : Ty := .prod y3 (.prod y3 (.prod y3 y3))
abbrev t169 : Ty := .tree 198 169 y127
abbrev y4 : Ty := .bool
abbrev y35 : Ty := .sl 4 y4
abbrev y56 : Ty := .sl 3 y3
abbrev y36 : Ty := .sl 56 y56
abbrev y109 : Ty := .prod y3 (.prod y35 y36)
abbrev y145 : Ty := .prod y3 (.prod y3 (.prod y3 y3))
abbrev y60 : Ty := .sl 145 y145
abbrev y62 : Ty := .wr y60
abbrev y112 : Ty := .prod y3 (.prod y62 y3)
abbrev y134 : Ty := .prod y4 (.prod y3 y3)
abbrev y155 : Ty := .int .u64
abbrev y167 : Ty := .prod y3 (.prod y3 y4)
abbrev y169 : Ty := .fro t169
abbrev y196 : Ty := .sl 169 y169
abbrev y198 : Ty := .prod y127 y196
abbrev y22 : Ty := .sl 109 y109
abbrev y223 : Ty := .int .u32
abbrev y226 : Ty := .int .u64
abbrev y23 : Ty := .sl 112 y112
abbrev y25 : Ty := .prod y22 y23
abbrev y38 : Ty := .prod y3 (.prod y35 y36)
abbrev y28 : Ty := .sl 38 y38
abbrev y47 : Ty := .sl 127 y127
abbrev y49 : Ty := .wr y47
abbrev y77 : Ty := .prod y3 (.prod y49 y3)
abbrev y29 : Ty := .sl 77 y77
abbrev y31 : Ty := .prod y28 y29
abbrev y97 : Ty := .prod y56 (.prod y3 (.prod y3 (.prod y56 y4)))
theorem ti3 : TI Tryz.prog 3 false 1 := ⟨⟨_, Tryz.underlying3, rfl⟩, by kernel_rfl⟩
theorem eqt127 (a0 : Int) (a1 : Int) (a2 : Int) (a3 : Int) (b0 : Int) (b1 : Int) (b2 : Int) (b3 : Int) (w : World) : EqT Tryz.prog 127 (.agg #[.int .i64 a0, .int .i64 a1, .int .i64 a2, .int .i64 a3]) (.agg #[.int .i64 b0, .int .i64 b1, .int .i64 b2, .int .i64 b3]) ((a0 == b0) && ((a1 == b1) && ((a2 == b2) && ((a3 == b3) && true)))) w := eqT_of w Tryz.underlying127 (by kernel_rfl) (by kernel_rfl) (eqF_cons rfl (part_1 ti3 rfl) (part_1 ti3 rfl) (run_equalIn_int w 9998 3 _ _ _ _ Tryz.underlying3) (eqF_cons rfl (part_1 ti3 rfl) (part_1 ti3 rfl) (run_equalIn_int w 9998 3 _ _ _ _ Tryz.underlying3) (eqF_cons rfl (part_1 ti3 rfl) (part_1 ti3 rfl) (run_equalIn_int w 9998 3 _ _ _ _ Tryz.underlying3) (eqF_cons rfl (part_1 ti3 rfl) (part_1 ti3 rfl) (run_equalIn_int w 9998 3 _ _ _ _ Tryz.underlying3) (eqF_nil w)))))
theorem mz3 (w : World) : (zeroValue 3).run Tryz.prog w = .ok (.int .i64 0) w := by kernel_rfl
theorem kk3 : KeyOk Tryz.prog 3 (fun n : Int => Value.int .i64 n) iLit iOk := kk_int Tryz.underlying3
theorem ek3 : EltOk Tryz.prog 3 (fun n : Int => Value.int .i64 n) iLit iOk 0 := ek_int Tryz.underlying3 mz3
def tt : TT := [(3, ⟨false, 1, none, y3, [], some 8, none, false, none, none, some (some .i64), false, none⟩),
  (4, ⟨false, 1, none, y4, [], some 1, none, true, none, none, none, false, none⟩),
  (22, ⟨false, 1, some 109, y22, [], some 24, none, false, none, none, none, false, none⟩),
  (23, ⟨false, 1, some 112, y23, [], some 24, none, false, none, none, none, false, none⟩),
  (25, ⟨true, 2, none, y25, [(0, 0), (1, 0)], some 48, some [(0, 1), (1, 1)], false, none, none, none, false, none⟩),
  (28, ⟨false, 1, some 38, y28, [], some 24, none, false, none, none, none, false, none⟩),
  (29, ⟨false, 1, some 77, y29, [], some 24, none, false, none, none, none, false, none⟩),
  (31, ⟨true, 2, none, y31, [(0, 0), (1, 0)], some 48, some [(0, 1), (1, 1)], false, none, none, none, false, none⟩),
  (35, ⟨false, 1, some 4, y35, [], some 24, none, false, none, none, none, false, none⟩),
  (36, ⟨false, 1, some 56, y36, [], some 24, none, false, none, none, none, false, none⟩),
  (38, ⟨true, 3, none, y38, [(0, 0), (1, 0), (2, 0)], some 56, some [(0, 1), (1, 1), (2, 1)], false, none, none, none, false, none⟩),
  (41, ⟨false, 1, none, .bool, [], none, none, false, none, none, none, true, none⟩),
  (47, ⟨false, 1, some 127, y47, [], some 24, none, false, none, none, none, false, none⟩),
  (49, ⟨true, 1, none, y49, [(0, 0)], some 24, some [(0, 1)], false, none, none, none, false, none⟩),
  (56, ⟨false, 1, some 3, y56, [], some 24, none, false, none, none, none, false, none⟩),
  (58, ⟨false, 1, none, .bool, [], none, none, false, none, none, none, true, none⟩),
  (60, ⟨false, 1, some 145, y60, [], some 24, none, false, none, none, none, false, none⟩),
  (62, ⟨true, 1, none, y62, [(0, 0)], some 24, some [(0, 1)], false, none, none, none, false, none⟩),
  (77, ⟨true, 3, none, y77, [(0, 0), (1, 0), (2, 0)], some 40, some [(0, 1), (1, 1), (2, 1)], false, none, none, none, false, none⟩),
  (94, ⟨false, 1, none, .bool, [], none, none, false, none, none, none, true, none⟩),
  (97, ⟨true, 5, none, y97, [(0, 0), (1, 0), (2, 0), (3, 0), (4, 0)], some 72, some [(0, 1), (1, 1), (2, 1), (3, 1), (4, 1)], false, none, none, none, false, none⟩),
  (103, ⟨false, 1, none, .bool, [], none, none, false, none, none, none, true, none⟩),
  (109, ⟨true, 3, none, y109, [(0, 0), (1, 0), (2, 0)], some 56, some [(0, 1), (1, 1), (2, 1)], false, none, none, none, false, none⟩),
  (112, ⟨true, 3, none, y112, [(0, 0), (1, 0), (2, 0)], some 40, some [(0, 1), (1, 1), (2, 1)], false, none, none, none, false, none⟩),
  (119, ⟨false, 1, none, .bool, [], none, none, false, none, none, none, true, none⟩),
  (127, ⟨true, 4, none, y127, [(0, 0), (1, 0), (2, 0), (3, 0)], some 32, some [(0, 1), (1, 1), (2, 1), (3, 1)], false, some [some .i64, some .i64, some .i64, some .i64], none, none, false, none⟩),
  (134, ⟨true, 3, none, y134, [(0, 0), (1, 0), (2, 0)], some 24, some [(0, 1), (1, 1), (2, 1)], false, none, none, none, false, none⟩),
  (145, ⟨true, 4, none, y145, [(0, 0), (1, 0), (2, 0), (3, 0)], some 32, some [(0, 1), (1, 1), (2, 1), (3, 1)], false, none, none, none, false, none⟩),
  (155, ⟨false, 1, none, y155, [], some 8, none, false, none, none, some (some .u64), false, none⟩),
  (164, ⟨false, 1, none, .bool, [], none, none, false, none, none, none, true, none⟩),
  (167, ⟨true, 3, none, y167, [(0, 0), (1, 0), (2, 0)], some 24, some [(0, 1), (1, 1), (2, 1)], false, none, none, none, false, none⟩),
  (169, ⟨false, 1, none, y169, [], some 8, none, false, none, none, none, false, some 198⟩),
  (173, ⟨false, 1, none, .bool, [], none, none, false, none, none, none, true, none⟩),
  (196, ⟨false, 1, some 169, y196, [], some 24, none, false, none, none, none, false, none⟩),
  (198, ⟨true, 5, none, y198, [(0, 3), (4, 0)], some 56, some [(0, 4), (4, 1)], false, none, none, none, false, none⟩),
  (202, ⟨false, 1, none, .bool, [], none, none, false, none, some ⟨3, 3, .int, .int⟩, none, false, none⟩),
  (205, ⟨false, 1, none, .bool, [], none, none, false, none, none, none, true, none⟩),
  (219, ⟨false, 1, none, .bool, [], none, none, false, none, none, none, true, none⟩),
  (223, ⟨false, 1, none, y223, [], some 4, none, false, none, none, some (some .u32), false, none⟩),
  (226, ⟨false, 1, none, y226, [], some 8, none, false, none, none, some (some .u64), false, none⟩)]
theorem tt_ok : TTok Tryz.prog tt := ⟨td_flat (n := 1) (z := .int .i64 0) ⟨⟨_, Tryz.underlying3, rfl⟩, by kernel_rfl⟩ rfl (by unfold TZ; kernel_rfl) rfl (Nat.le_of_ble_eq_true rfl) (fun h => by cases h) (fun k h => by obtain rfl := Option.some.inj h; exact Tryz.underlying3),
  td_flat (n := 1) (z := .bool false) ⟨⟨_, Tryz.underlying4, rfl⟩, by kernel_rfl⟩ rfl (by unfold TZ; kernel_rfl) rfl (Nat.le_of_ble_eq_true rfl) (fun h => Tryz.underlying4) (fun k h => by cases h),
  td_sl ⟨⟨_, Tryz.underlying22, rfl⟩, by kernel_rfl⟩ Tryz.underlying22 (by unfold TZ; kernel_rfl),
  td_sl ⟨⟨_, Tryz.underlying23, rfl⟩, by kernel_rfl⟩ Tryz.underlying23 (by unfold TZ; kernel_rfl),
  td_st (z := .agg #[.slice none 0 0, .slice none 0 0]) ⟨⟨_, Tryz.underlying25, rfl⟩, by kernel_rfl⟩ rfl ⟨⟨_, _, Tryz.underlying25, rfl, rfl, by kernel_rfl⟩, ⟨_, _, Tryz.underlying25, rfl, rfl, by kernel_rfl⟩, trivial⟩ (by unfold TZ; kernel_rfl) rfl (Nat.le_of_ble_eq_true rfl) ⟨_, Tryz.underlying25, by kernel_rfl⟩ (fun ks h => by cases h),
  td_sl ⟨⟨_, Tryz.underlying28, rfl⟩, by kernel_rfl⟩ Tryz.underlying28 (by unfold TZ; kernel_rfl),
  td_sl ⟨⟨_, Tryz.underlying29, rfl⟩, by kernel_rfl⟩ Tryz.underlying29 (by unfold TZ; kernel_rfl),
  td_st (z := .agg #[.slice none 0 0, .slice none 0 0]) ⟨⟨_, Tryz.underlying31, rfl⟩, by kernel_rfl⟩ rfl ⟨⟨_, _, Tryz.underlying31, rfl, rfl, by kernel_rfl⟩, ⟨_, _, Tryz.underlying31, rfl, rfl, by kernel_rfl⟩, trivial⟩ (by unfold TZ; kernel_rfl) rfl (Nat.le_of_ble_eq_true rfl) ⟨_, Tryz.underlying31, by kernel_rfl⟩ (fun ks h => by cases h),
  td_sl ⟨⟨_, Tryz.underlying35, rfl⟩, by kernel_rfl⟩ Tryz.underlying35 (by unfold TZ; kernel_rfl),
  td_sl ⟨⟨_, Tryz.underlying36, rfl⟩, by kernel_rfl⟩ Tryz.underlying36 (by unfold TZ; kernel_rfl),
  td_st (z := .agg #[.int .i64 0, .slice none 0 0, .slice none 0 0]) ⟨⟨_, Tryz.underlying38, rfl⟩, by kernel_rfl⟩ rfl ⟨⟨_, _, Tryz.underlying38, rfl, rfl, by kernel_rfl⟩, ⟨_, _, Tryz.underlying38, rfl, rfl, by kernel_rfl⟩, ⟨_, _, Tryz.underlying38, rfl, rfl, by kernel_rfl⟩, trivial⟩ (by unfold TZ; kernel_rfl) rfl (Nat.le_of_ble_eq_true rfl) ⟨_, Tryz.underlying38, by kernel_rfl⟩ (fun ks h => by cases h),
  td_fn (ty := .bool) (b := 8) ⟨⟨_, Tryz.underlying41, rfl⟩, by kernel_rfl⟩ rfl (by unfold TZ; kernel_rfl),
  td_sl ⟨⟨_, Tryz.underlying47, rfl⟩, by kernel_rfl⟩ Tryz.underlying47 (by unfold TZ; kernel_rfl),
  td_st (z := .agg #[.slice none 0 0]) ⟨⟨_, Tryz.underlying49, rfl⟩, by kernel_rfl⟩ rfl ⟨⟨_, _, Tryz.underlying49, rfl, rfl, by kernel_rfl⟩, trivial⟩ (by unfold TZ; kernel_rfl) rfl (Nat.le_of_ble_eq_true rfl) ⟨_, Tryz.underlying49, by kernel_rfl⟩ (fun ks h => by cases h),
  td_sl ⟨⟨_, Tryz.underlying56, rfl⟩, by kernel_rfl⟩ Tryz.underlying56 (by unfold TZ; kernel_rfl),
  td_fn (ty := .bool) (b := 8) ⟨⟨_, Tryz.underlying58, rfl⟩, by kernel_rfl⟩ rfl (by unfold TZ; kernel_rfl),
  td_sl ⟨⟨_, Tryz.underlying60, rfl⟩, by kernel_rfl⟩ Tryz.underlying60 (by unfold TZ; kernel_rfl),
  td_st (z := .agg #[.slice none 0 0]) ⟨⟨_, Tryz.underlying62, rfl⟩, by kernel_rfl⟩ rfl ⟨⟨_, _, Tryz.underlying62, rfl, rfl, by kernel_rfl⟩, trivial⟩ (by unfold TZ; kernel_rfl) rfl (Nat.le_of_ble_eq_true rfl) ⟨_, Tryz.underlying62, by kernel_rfl⟩ (fun ks h => by cases h),
  td_st (z := .agg #[.int .i64 0, .slice none 0 0, .int .i64 0]) ⟨⟨_, Tryz.underlying77, rfl⟩, by kernel_rfl⟩ rfl ⟨⟨_, _, Tryz.underlying77, rfl, rfl, by kernel_rfl⟩, ⟨_, _, Tryz.underlying77, rfl, rfl, by kernel_rfl⟩, ⟨_, _, Tryz.underlying77, rfl, rfl, by kernel_rfl⟩, trivial⟩ (by unfold TZ; kernel_rfl) rfl (Nat.le_of_ble_eq_true rfl) ⟨_, Tryz.underlying77, by kernel_rfl⟩ (fun ks h => by cases h),
  td_fn (ty := .bool) (b := 8) ⟨⟨_, Tryz.underlying94, rfl⟩, by kernel_rfl⟩ rfl (by unfold TZ; kernel_rfl),
  td_st (z := .agg #[.slice none 0 0, .int .i64 0, .int .i64 0, .slice none 0 0, .bool false]) ⟨⟨_, Tryz.underlying97, rfl⟩, by kernel_rfl⟩ rfl ⟨⟨_, _, Tryz.underlying97, rfl, rfl, by kernel_rfl⟩, ⟨_, _, Tryz.underlying97, rfl, rfl, by kernel_rfl⟩, ⟨_, _, Tryz.underlying97, rfl, rfl, by kernel_rfl⟩, ⟨_, _, Tryz.underlying97, rfl, rfl, by kernel_rfl⟩, ⟨_, _, Tryz.underlying97, rfl, rfl, by kernel_rfl⟩, trivial⟩ (by unfold TZ; kernel_rfl) rfl (Nat.le_of_ble_eq_true rfl) ⟨_, Tryz.underlying97, by kernel_rfl⟩ (fun ks h => by cases h),
  td_fn (ty := .bool) (b := 8) ⟨⟨_, Tryz.underlying103, rfl⟩, by kernel_rfl⟩ rfl (by unfold TZ; kernel_rfl),
  td_st (z := .agg #[.int .i64 0, .slice none 0 0, .slice none 0 0]) ⟨⟨_, Tryz.underlying109, rfl⟩, by kernel_rfl⟩ rfl ⟨⟨_, _, Tryz.underlying109, rfl, rfl, by kernel_rfl⟩, ⟨_, _, Tryz.underlying109, rfl, rfl, by kernel_rfl⟩, ⟨_, _, Tryz.underlying109, rfl, rfl, by kernel_rfl⟩, trivial⟩ (by unfold TZ; kernel_rfl) rfl (Nat.le_of_ble_eq_true rfl) ⟨_, Tryz.underlying109, by kernel_rfl⟩ (fun ks h => by cases h),
  td_st (z := .agg #[.int .i64 0, .slice none 0 0, .int .i64 0]) ⟨⟨_, Tryz.underlying112, rfl⟩, by kernel_rfl⟩ rfl ⟨⟨_, _, Tryz.underlying112, rfl, rfl, by kernel_rfl⟩, ⟨_, _, Tryz.underlying112, rfl, rfl, by kernel_rfl⟩, ⟨_, _, Tryz.underlying112, rfl, rfl, by kernel_rfl⟩, trivial⟩ (by unfold TZ; kernel_rfl) rfl (Nat.le_of_ble_eq_true rfl) ⟨_, Tryz.underlying112, by kernel_rfl⟩ (fun ks h => by cases h),
  td_fn (ty := .bool) (b := 8) ⟨⟨_, Tryz.underlying119, rfl⟩, by kernel_rfl⟩ rfl (by unfold TZ; kernel_rfl),
  td_st (z := .agg #[.int .i64 0, .int .i64 0, .int .i64 0, .int .i64 0]) ⟨⟨_, Tryz.underlying127, rfl⟩, by kernel_rfl⟩ rfl ⟨⟨_, _, Tryz.underlying127, rfl, rfl, by kernel_rfl⟩, ⟨_, _, Tryz.underlying127, rfl, rfl, by kernel_rfl⟩, ⟨_, _, Tryz.underlying127, rfl, rfl, by kernel_rfl⟩, ⟨_, _, Tryz.underlying127, rfl, rfl, by kernel_rfl⟩, trivial⟩ (by unfold TZ; kernel_rfl) rfl (Nat.le_of_ble_eq_true rfl) ⟨_, Tryz.underlying127, by kernel_rfl⟩ (fun ks h => by obtain rfl := Option.some.inj h; exact fun w a0 b0 a1 b1 a2 b2 a3 b3 => eqt127 a0 a1 a2 a3 b0 b1 b2 b3 w),
  td_st (z := .agg #[.bool false, .int .i64 0, .int .i64 0]) ⟨⟨_, Tryz.underlying134, rfl⟩, by kernel_rfl⟩ rfl ⟨⟨_, _, Tryz.underlying134, rfl, rfl, by kernel_rfl⟩, ⟨_, _, Tryz.underlying134, rfl, rfl, by kernel_rfl⟩, ⟨_, _, Tryz.underlying134, rfl, rfl, by kernel_rfl⟩, trivial⟩ (by unfold TZ; kernel_rfl) rfl (Nat.le_of_ble_eq_true rfl) ⟨_, Tryz.underlying134, by kernel_rfl⟩ (fun ks h => by cases h),
  td_st (z := .agg #[.int .i64 0, .int .i64 0, .int .i64 0, .int .i64 0]) ⟨⟨_, Tryz.underlying145, rfl⟩, by kernel_rfl⟩ rfl ⟨⟨_, _, Tryz.underlying145, rfl, rfl, by kernel_rfl⟩, ⟨_, _, Tryz.underlying145, rfl, rfl, by kernel_rfl⟩, ⟨_, _, Tryz.underlying145, rfl, rfl, by kernel_rfl⟩, ⟨_, _, Tryz.underlying145, rfl, rfl, by kernel_rfl⟩, trivial⟩ (by unfold TZ; kernel_rfl) rfl (Nat.le_of_ble_eq_true rfl) ⟨_, Tryz.underlying145, by kernel_rfl⟩ (fun ks h => by cases h),
  td_flat (n := 1) (z := .int .u64 0) ⟨⟨_, Tryz.underlying155, rfl⟩, by kernel_rfl⟩ rfl (by unfold TZ; kernel_rfl) rfl (Nat.le_of_ble_eq_true rfl) (fun h => by cases h) (fun k h => by obtain rfl := Option.some.inj h; exact Tryz.underlying155),
  td_fn (ty := .bool) (b := 8) ⟨⟨_, Tryz.underlying164, rfl⟩, by kernel_rfl⟩ rfl (by unfold TZ; kernel_rfl),
  td_st (z := .agg #[.int .i64 0, .int .i64 0, .bool false]) ⟨⟨_, Tryz.underlying167, rfl⟩, by kernel_rfl⟩ rfl ⟨⟨_, _, Tryz.underlying167, rfl, rfl, by kernel_rfl⟩, ⟨_, _, Tryz.underlying167, rfl, rfl, by kernel_rfl⟩, ⟨_, _, Tryz.underlying167, rfl, rfl, by kernel_rfl⟩, trivial⟩ (by unfold TZ; kernel_rfl) rfl (Nat.le_of_ble_eq_true rfl) ⟨_, Tryz.underlying167, by kernel_rfl⟩ (fun ks h => by cases h),
  td_pt (e := 198) (E := 169) (u := y127) ⟨⟨_, Tryz.underlying169, rfl⟩, by kernel_rfl⟩ Tryz.underlying169 (by unfold TZ; kernel_rfl),
  td_fn (ty := .bool) (b := 8) ⟨⟨_, Tryz.underlying173, rfl⟩, by kernel_rfl⟩ rfl (by unfold TZ; kernel_rfl),
  td_sl ⟨⟨_, Tryz.underlying196, rfl⟩, by kernel_rfl⟩ Tryz.underlying196 (by unfold TZ; kernel_rfl),
  td_st (z := .agg #[.int .i64 0, .int .i64 0, .int .i64 0, .int .i64 0, .slice none 0 0]) ⟨⟨_, Tryz.underlying198, rfl⟩, by kernel_rfl⟩ rfl ⟨⟨_, _, Tryz.underlying198, rfl, rfl, by kernel_rfl⟩, ⟨_, _, Tryz.underlying198, rfl, rfl, by kernel_rfl⟩, trivial⟩ (by unfold TZ; kernel_rfl) rfl (Nat.le_of_ble_eq_true rfl) ⟨_, Tryz.underlying198, by kernel_rfl⟩ (fun ks h => by cases h),
  td_mp (m := ⟨3, 3, .int, .int⟩) (ty := .bool) ⟨⟨_, Tryz.underlying202, rfl⟩, by kernel_rfl⟩ rfl ⟨Tryz.underlying202, kk3, ek3⟩,
  td_fn (ty := .bool) (b := 8) ⟨⟨_, Tryz.underlying205, rfl⟩, by kernel_rfl⟩ rfl (by unfold TZ; kernel_rfl),
  td_fn (ty := .bool) (b := 8) ⟨⟨_, Tryz.underlying219, rfl⟩, by kernel_rfl⟩ rfl (by unfold TZ; kernel_rfl),
  td_flat (n := 1) (z := .int .u32 0) ⟨⟨_, Tryz.underlying223, rfl⟩, by kernel_rfl⟩ rfl (by unfold TZ; kernel_rfl) rfl (Nat.le_of_ble_eq_true rfl) (fun h => by cases h) (fun k h => by obtain rfl := Option.some.inj h; exact Tryz.underlying223),
  td_flat (n := 1) (z := .int .u64 0) ⟨⟨_, Tryz.underlying226, rfl⟩, by kernel_rfl⟩ rfl (by unfold TZ; kernel_rfl) rfl (Nat.le_of_ble_eq_true rfl) (fun h => by cases h) (fun k h => by obtain rfl := Option.some.inj h; exact Tryz.underlying226), trivial⟩
theorem mixed : Tryz.prog.follows .mixedOrders = true := by kernel_rfl
def F_w_szBoolS : FS := ⟨[.rd y35, .rd y3], [y3], m_w_szBoolS, none⟩
def F_w_szIntS : FS := ⟨[.rd y56, .rd y3], [y3], m_w_szIntS, none⟩
def F_w_szIntSS : FS := ⟨[.rd y36, .rd y3], [y3], m_w_szIntSS, none⟩
def F_w_szAutomaton : FS := ⟨[.rd y109, .rd y3], [y3], m_w_szAutomaton, none⟩
def F_w_szAutomatonS : FS := ⟨[.rd y22, .rd y3], [y3], m_w_szAutomatonS, none⟩
def F_w_szTokenS : FS := ⟨[.rd y60, .rd y3], [y3], m_w_szTokenS, none⟩
def F_w_szExpr : FS := ⟨[.rd y62, .rd y3], [y3], m_w_szExpr, none⟩
def F_w_szRegistered : FS := ⟨[.rd y112, .rd y3], [y3], m_w_szRegistered, none⟩
def F_w_szRegisteredS : FS := ⟨[.rd y23, .rd y3], [y3], m_w_szRegisteredS, none⟩
def F_w_szRegistry : FS := ⟨[.rd y25, .rd y3], [y3], m_w_szRegistry, none⟩
def F_w_toBoolS : FS := ⟨[.rd y35], [y35], m_w_toBoolS, none⟩
def F_w_toIntS : FS := ⟨[.rd y56], [y56], m_w_toIntS, none⟩
def F_w_toIntSS : FS := ⟨[.rd y36], [y36], m_w_toIntSS, none⟩
def F_w_toAutomaton : FS := ⟨[.rd y109], [y38], m_w_toAutomaton, none⟩
def F_w_toAutomatonS : FS := ⟨[.rd y22], [y28], m_w_toAutomatonS, none⟩
def F_w_toToken : FS := ⟨[.rd y145], [y127], m_w_toToken, none⟩
def F_w_toTokenS : FS := ⟨[.rd y60], [y47], m_w_toTokenS, none⟩
def F_w_toExpr : FS := ⟨[.rd y62], [y49], m_w_toExpr, none⟩
def F_w_toRegistered : FS := ⟨[.rd y112], [y77], m_w_toRegistered, none⟩
def F_w_toRegisteredS : FS := ⟨[.rd y23], [y29], m_w_toRegisteredS, none⟩
def F_w_toRegistry : FS := ⟨[.rd y25], [y31], m_w_toRegistry, none⟩
def F_w_eqBoolS : FS := ⟨[.rd y35, .rd y35], [y4], m_w_eqBoolS, none⟩
def F_w_eqIntS : FS := ⟨[.rd y56, .rd y56], [y4], m_w_eqIntS, none⟩
def F_w_eqIntSS : FS := ⟨[.rd y36, .rd y36], [y4], m_w_eqIntSS, none⟩
def F_w_eqAutomaton : FS := ⟨[.rd y38, .rd y38], [y4], m_w_eqAutomaton, none⟩
def F_w_eqAutomatonS : FS := ⟨[.rd y28, .rd y28], [y4], m_w_eqAutomatonS, none⟩
def F_w_eqToken : FS := ⟨[.rd y127, .rd y127], [y4], m_w_eqToken, none⟩
def F_w_eqTokenS : FS := ⟨[.rd y47, .rd y47], [y4], m_w_eqTokenS, none⟩
def F_w_eqExpr : FS := ⟨[.rd y49, .rd y49], [y4], m_w_eqExpr, none⟩
def F_w_eqRegistered : FS := ⟨[.rd y77, .rd y77], [y4], m_w_eqRegistered, none⟩
def F_w_eqRegisteredS : FS := ⟨[.rd y29, .rd y29], [y4], m_w_eqRegisteredS, none⟩
def F_w_eqRegistry : FS := ⟨[.rd y31, .rd y31], [y4], m_w_eqRegistry, none⟩
def F_w_markBoolS : FS := ⟨[.ow y35, .rd y3], [y3], m_w_markBoolS, none⟩
def F_w_markIntS : FS := ⟨[.ow y56, .rd y3], [y3], m_w_markIntS, none⟩
def F_w_markIntSS : FS := ⟨[.ow y36, .rd y3], [y3], m_w_markIntSS, none⟩
def F_w_markAutomatonS : FS := ⟨[.ow y28, .rd y3], [y3], m_w_markAutomatonS, none⟩
def F_w_markTokenS : FS := ⟨[.ow y47, .rd y3], [y3], m_w_markTokenS, none⟩
def F_w_markRegisteredS : FS := ⟨[.ow y29, .rd y3], [y3], m_w_markRegisteredS, none⟩
def F_w_markRegistry : FS := ⟨[.ow y31, .rd y3], [y3], m_w_markRegistry, none⟩
def F_g_slices_EqualFunc_S_Automaton_S_Automaton_Automaton_Automaton : FS := ⟨[.rd y28, .rd y28, .fn [y38, y38] [y4]], [y4], m_g_slices_EqualFunc_S_Automaton_S_Automaton_Automaton_Automaton, none⟩
def F_g_slices_Equal_S_bool_bool : FS := ⟨[.rd y35, .rd y35], [y4], m_g_slices_Equal_S_bool_bool, none⟩
def F_g_slices_EqualFunc_S_S_int_S_S_int_S_int_S_int : FS := ⟨[.rd y36, .rd y36, .fn [y56, y56] [y4]], [y4], m_g_slices_EqualFunc_S_S_int_S_S_int_S_int_S_int, none⟩
def F_g_slices_Equal_S_int_int : FS := ⟨[.rd y56, .rd y56], [y4], m_g_slices_Equal_S_int_int, none⟩
def F_i_EqualAutomata_1 : FS := ⟨[.rd y56, .rd y56], [y4], m_i_EqualAutomata_1, none⟩
def F_i_EqualAutomata : FS := ⟨[.rd y38, .rd y38], [y4], m_i_EqualAutomata, none⟩
def F_g_slices_EqualFunc_S_Registered_S_Registered_Registered_Registered : FS := ⟨[.rd y29, .rd y29, .fn [y77, y77] [y4]], [y4], m_g_slices_EqualFunc_S_Registered_S_Registered_Registered_Registered, none⟩
def F_g_slices_Equal_S_Token_Token : FS := ⟨[.rd y47, .rd y47], [y4], m_g_slices_Equal_S_Token_Token, none⟩
def F_i_EqualExprs : FS := ⟨[.rd y49, .rd y49], [y4], m_i_EqualExprs, none⟩
def F_i_equalQueries : FS := ⟨[.rd y77, .rd y77], [y4], m_i_equalQueries, none⟩
def F_i_EqualRegistries : FS := ⟨[.rd y31, .rd y31], [y4], m_i_EqualRegistries, none⟩
def F_i_within : FS := ⟨[.rd y3, .rd y3, .rd y3], [y4], m_i_within, none⟩
def F_i_isLetter : FS := ⟨[.rd y3], [y4], m_i_isLetter, none⟩
def F_i_tokenOk : FS := ⟨[.rd y127], [y4], m_i_tokenOk, none⟩
def F_g_slices_Clone_S__tree_tree : FS := ⟨[.rd y196], [y196], fun _ => none, some (169, 8)⟩
def F_i_treeOf : FS := ⟨[.rd y49], [t169], m_i_treeOf, none⟩
def F_i_IsExpr : FS := ⟨[.rd y49], [y4], m_i_IsExpr, none⟩
def F_i_IsValidExpr : FS := ⟨[.rd y49], [y4], m_i_IsValidExpr, none⟩
def F_i_tree_bound (n : Nat) : FS := ⟨[.rd t169], [y3], m_i_tree_bound n, none⟩
def F_i_leaf : FS := ⟨[.rd y3], [t169], m_i_leaf, none⟩
def F_i_repeated (n : Nat) : FS := ⟨[.eat t169, .rd y3, .rd y3], [t169], m_i_repeated n, none⟩
def F_i_tree_expand (n : Nat) : FS := ⟨[.rd t169], [t169], m_i_tree_expand n, none⟩
def F_i_tree_collect (n : Nat) : FS := ⟨[.rd t169, .ptr 49 y49], [], m_i_tree_collect n, none⟩
def F_i_tree_expr : FS := ⟨[.rd t169], [y49], m_i_tree_expr, none⟩
def F_i_ExpandExpr : FS := ⟨[.rd y49], [y49, y4], m_i_ExpandExpr, none⟩
def F_i_Positions_follow : FS := ⟨[.ptr 97 y97, .rd y3, .rd y3], [], m_i_Positions_follow, none⟩
def F_i_Positions_build (n : Nat) : FS := ⟨[.ptr 97 y97, .rd t169], [y167], m_i_Positions_build n, none⟩
def F_i_BuildPositions : FS := ⟨[.rd y49], [y97, y4], m_i_BuildPositions, none⟩
def F_i_numbered_int : FS := ⟨[.rd y3, .rd y3, .fn [y3] [y4], .fn [y3, y3] [y3, y4]], [y38, y4], m_i_numbered_int, none⟩
def F_i_Positions_accepts : FS := ⟨[.rd y97, .rd y3], [y4], m_i_Positions_accepts, none⟩
def F_i_Positions_after : FS := ⟨[.rd y97, .rd y3, .rd y3], [y3], m_i_Positions_after, none⟩
def F_i_determinize_1 : FS := ⟨[.rd y3, .rd y3, .cap 97 y97], [y3, y4], m_i_determinize_1, none⟩
def F_i_determinize : FS := ⟨[.rd y97, .rd y3], [y38, y4], m_i_determinize, none⟩
def F_g_slices_Clone_S_bool_bool : FS := ⟨[.rd y35], [y35], fun _ => none, some (4, 1)⟩
def F_i_Automaton_live : FS := ⟨[.rd y38], [y35], m_i_Automaton_live, none⟩
def F_g_slices_IndexFunc_S_S_int_S_int : FS := ⟨[.rd y36, .fn [y56] [y4]], [y3], m_g_slices_IndexFunc_S_S_int_S_int, none⟩
def F_i_Automaton_refine_1 : FS := ⟨[.rd y56, .cap 56 y56], [y4], m_i_Automaton_refine_1, none⟩
def F_i_Automaton_refine : FS := ⟨[.rd y38, .rd y56], [y56, y3], m_i_Automaton_refine, none⟩
def F_i_Automaton_classes : FS := ⟨[.rd y38], [y56], m_i_Automaton_classes, none⟩
def F_g_math_bits_Mul32 : FS := ⟨[.rd y223, .rd y223], [y223, y223], m_g_math_bits_Mul32, none⟩
def F_g_math_bits_Mul64 : FS := ⟨[.rd y226, .rd y226], [y226, y226], m_g_math_bits_Mul64, none⟩
def F_g_math_bits_Mul : FS := ⟨[.rd y155, .rd y155], [y155, y155], m_g_math_bits_Mul, none⟩
def F_g_slices_Repeat_S_int_int : FS := ⟨[.rd y56, .rd y3], [y56], m_g_slices_Repeat_S_int_int, none⟩
def F_i_nothing : FS := ⟨[], [y38], m_i_nothing, none⟩
def F_g_slices_Index_S_int_int : FS := ⟨[.rd y56, .rd y3], [y3], m_g_slices_Index_S_int_int, none⟩
def F_i_Automaton_minimize_1 : FS := ⟨[.rd y3, .cap 56 y56], [y3], m_i_Automaton_minimize_1, none⟩
def F_i_Automaton_minimize_2 : FS := ⟨[.rd y3, .cap 38 y38, .capf 205 [y3] [y3]], [y4], m_i_Automaton_minimize_2, none⟩
def F_i_Automaton_move : FS := ⟨[.rd y38, .rd y3, .rd y3], [y3], m_i_Automaton_move, none⟩
def F_i_Automaton_minimize_3 : FS := ⟨[.rd y3, .rd y3, .cap 38 y38, .capf 205 [y3] [y3], .cap 56 y56], [y3, y4], m_i_Automaton_minimize_3, none⟩
def F_i_Automaton_minimize : FS := ⟨[.rd y38], [y38], m_i_Automaton_minimize, none⟩
def F_i_small : FS := ⟨[.rd y38], [y38, y4], m_i_small, none⟩
def F_i_CompileExpr : FS := ⟨[.rd y49], [y38, y4], m_i_CompileExpr, none⟩
def F_g_slices_IndexFunc_S_Automaton_Automaton : FS := ⟨[.rd y28, .fn [y38] [y4]], [y3], m_g_slices_IndexFunc_S_Automaton_Automaton, none⟩
def F_i_shared_1 : FS := ⟨[.rd y38, .cap 38 y38], [y4], m_i_shared_1, none⟩
def F_i_copyExpr : FS := ⟨[.rd y49], [y49], m_i_copyExpr, none⟩
def F_i_shared : FS := ⟨[.rd y29], [y31, y4], m_i_shared, none⟩
def F_i_IsValidRegistry : FS := ⟨[.rd y31], [y4], m_i_IsValidRegistry, none⟩
def F_g_slices_IndexFunc_S_Registered_Registered : FS := ⟨[.rd y29, .fn [y77] [y4]], [y3], m_g_slices_IndexFunc_S_Registered_Registered, none⟩
def F_i_FindQuery_1 : FS := ⟨[.rd y77, .cap 3 y3], [y4], m_i_FindQuery_1, none⟩
def F_i_FindQuery : FS := ⟨[.rd y31, .rd y3], [y3], m_i_FindQuery, none⟩
def F_i_copyInts : FS := ⟨[.rd y56], [y56], m_i_copyInts, none⟩
def F_i_copyAutomaton : FS := ⟨[.rd y38], [y38], m_i_copyAutomaton, none⟩
def F_i_copyRegistry : FS := ⟨[.rd y31], [y31], m_i_copyRegistry, none⟩
def F_g_slices_Insert_S_Registered_Registered : FS := ⟨[.eat (.sl 77 (.fro y77)), .rd y3, .ow (.sl 77 (.fro y77))], [.sl 77 (.fro y77)], m_g_slices_Insert_S_Registered_Registered, none⟩
def F_g_slices_Clone_S_Registered_Registered : FS := ⟨[.rd y29], [.sl 77 (.fro y77)], m_g_slices_Clone_S_Registered_Registered, none⟩
def F_i_RegisterQuery : FS := ⟨[.rd y31, .rd y3, .rd y49], [y31, y4], m_i_RegisterQuery, none⟩
def F_s_l1In : FS := ⟨[.rd y3, .rd y3, .rd y3], [y4], m_s_l1In, none⟩
def F_s_l2Letter : FS := ⟨[.rd y3], [y4], m_s_l2Letter, none⟩
def F_s_l8Arity : FS := ⟨[.rd y127], [y3], m_s_l8Arity, none⟩
def F_s_IsExpr : FS := ⟨[.rd y49], [y4], m_s_IsExpr, none⟩
def F_s_IsValidExpr : FS := ⟨[.rd y49], [y4], m_s_IsValidExpr, none⟩
def F_s_l8Start : FS := ⟨[.rd y47], [y3], m_s_l8Start, none⟩
def F_s_l10Size (n : Nat) : FS := ⟨[.rd y47], [y3], m_s_l10Size n, none⟩
def F_s_l8Copy : FS := ⟨[.rd y47], [y49], m_s_l8Copy, none⟩
def F_s_l8Join : FS := ⟨[.rd y49, .rd y49, .rd y127], [y49], m_s_l8Join, none⟩
def F_s_l8Leaf : FS := ⟨[.rd y3], [y49], m_s_l8Leaf, none⟩
def F_s_l10Times (n : Nat) : FS := ⟨[.rd y49, .rd y3, .rd y3], [y49], m_s_l10Times n, none⟩
def F_s_l10Expand (n : Nat) : FS := ⟨[.rd y47], [y49], m_s_l10Expand n, none⟩
def F_s_ExpandExpr : FS := ⟨[.rd y49], [y49, y4], m_s_ExpandExpr, none⟩
def F_s_l10Link : FS := ⟨[.ptr 97 y97, .rd y3, .rd y3], [], m_s_l10Link, none⟩
def F_s_l10Build (n : Nat) : FS := ⟨[.ptr 97 y97, .rd y47], [y134], m_s_l10Build n, none⟩
def F_s_BuildPositions : FS := ⟨[.rd y49], [y97, y4], m_s_BuildPositions, none⟩
def F_s_l10After : FS := ⟨[.rd y97, .rd y3, .rd y3], [y3], m_s_l10After, none⟩
def F_s_l11Find : FS := ⟨[.rd y56, .rd y3], [y3], m_s_l11Find, none⟩
def F_s_l10Accepts : FS := ⟨[.rd y97, .rd y3], [y4], m_s_l10Accepts, none⟩
def F_s_l11Subsets : FS := ⟨[.rd y97, .rd y3], [y38, y4], m_s_l11Subsets, none⟩
def F_s_l11Nothing : FS := ⟨[], [y38], m_s_l11Nothing, none⟩
def F_s_l11Number : FS := ⟨[.rd y38, .rd y56, .rd y35], [y38], m_s_l11Number, none⟩
def F_s_l2Cmp : FS := ⟨[.rd y56, .rd y56], [y3], m_s_l2Cmp, none⟩
def F_s_l11Live : FS := ⟨[.rd y38], [y35], m_s_l11Live, none⟩
def F_s_l12Key : FS := ⟨[.rd y38, .rd y56, .rd y3], [y56], m_s_l12Key, none⟩
def F_s_l12Classes : FS := ⟨[.rd y38], [y56], m_s_l12Classes, none⟩
def F_s_l12Minimize : FS := ⟨[.rd y38], [y38], m_s_l12Minimize, none⟩
def F_s_CompileExpr : FS := ⟨[.rd y49], [y38, y4], m_s_CompileExpr, none⟩
def F_s_EqualAutomata : FS := ⟨[.rd y38, .rd y38], [y4], m_s_EqualAutomata, none⟩
def F_s_l31Index : FS := ⟨[.rd y28, .rd y38], [y3], m_s_l31Index, none⟩
def F_s_l31Build : FS := ⟨[.rd y29], [y31, y4], m_s_l31Build, none⟩
def F_s_EqualExprs : FS := ⟨[.rd y49, .rd y49], [y4], m_s_EqualExprs, none⟩
def F_s_EqualRegistries : FS := ⟨[.rd y31, .rd y31], [y4], m_s_EqualRegistries, none⟩
def F_s_IsValidRegistry : FS := ⟨[.rd y31], [y4], m_s_IsValidRegistry, none⟩
def F_s_FindQuery : FS := ⟨[.rd y31, .rd y3], [y3], m_s_FindQuery, none⟩
def F_s_l11Copy : FS := ⟨[.rd y38], [y38], m_s_l11Copy, none⟩
def F_s_l31Copy : FS := ⟨[.rd y31], [y31], m_s_l31Copy, none⟩
def F_s_RegisterQuery : FS := ⟨[.rd y31, .rd y3, .rd y49], [y31, y4], m_s_RegisterQuery, none⟩
def F_w_heldBoolS : FS := ⟨[.rd y35, .rd y3], [y3], m_w_heldBoolS, none⟩
def F_w_heldIntS : FS := ⟨[.rd y56, .rd y3], [y3], m_w_heldIntS, none⟩
def F_w_heldIntSS : FS := ⟨[.rd y36, .rd y3], [y3], m_w_heldIntSS, none⟩
def F_w_heldAutomatonS : FS := ⟨[.rd y28, .rd y3], [y3], m_w_heldAutomatonS, none⟩
def F_w_heldTokenS : FS := ⟨[.rd y47, .rd y3], [y3], m_w_heldTokenS, none⟩
def F_w_heldRegisteredS : FS := ⟨[.rd y29, .rd y3], [y3], m_w_heldRegisteredS, none⟩
def F_w_heldRegistry : FS := ⟨[.rd y31, .rd y3], [y3], m_w_heldRegistry, none⟩
def F_w_markExpr : FS := ⟨[.ow y49, .rd y3], [y3], m_w_markExpr, none⟩
def F_w_FnExactRegisterQuery : FS := ⟨[.rd y25, .rd y3, .rd y62], [y4], m_w_FnExactRegisterQuery, none⟩
end Go.Proofs.YtimjccbdngajoaaGreat.R
/- Printed by lp.py: each function computes what its model says; the code is run, and the two are compared. -/
set_option linter.unusedVariables false
set_option maxRecDepth 1000000
namespace Go.Proofs.YtimjccbdngajoaaGreat.R
open Go.RowKit
open Go.Proofs.YtimjccbdngajoaaGreat.D
theorem k_w_szBoolS : FOk Tryz.prog 130 F_w_szBoolS := fok (V := ⟨tt, [], [], 12, []⟩) tt_ok trivial mixed Tryz.func130 rfl rfl (enters_of Tryz.func130 (by kernel_rfl) rfl) rfl (Nat.le_of_ble_eq_true rfl) rfl .no (fun d => by kernel_rfl)
theorem k_w_szIntS : FOk Tryz.prog 156 F_w_szIntS := fok (V := ⟨tt, [], [], 12, []⟩) tt_ok trivial mixed Tryz.func156 rfl rfl (enters_of Tryz.func156 (by kernel_rfl) rfl) rfl (Nat.le_of_ble_eq_true rfl) rfl .no (fun d => by kernel_rfl)
theorem k_w_szIntSS : FOk Tryz.prog 131 F_w_szIntSS := fok (V := ⟨tt, [(156, F_w_szIntS)], [], 27, []⟩) tt_ok ⟨k_w_szIntS, trivial⟩ mixed Tryz.func131 rfl rfl (enters_of Tryz.func131 (by kernel_rfl) rfl) rfl (Nat.le_of_ble_eq_true rfl) rfl (.two .no (.two .no (.two .no (.two (.two .no (.loop [.slot 1 (.num .i64), .slot 5 (.num .i64)] .no)) .no)))) (fun d => by kernel_rfl)
theorem k_w_szAutomaton : FOk Tryz.prog 88 F_w_szAutomaton := fok (V := ⟨tt, [(130, F_w_szBoolS), (131, F_w_szIntSS)], [], 18, []⟩) tt_ok ⟨k_w_szBoolS, k_w_szIntSS, trivial⟩ mixed Tryz.func88 rfl rfl (enters_of Tryz.func88 (by kernel_rfl) rfl) rfl (Nat.le_of_ble_eq_true rfl) rfl .no (fun d => by kernel_rfl)
theorem k_w_szAutomatonS : FOk Tryz.prog 41 F_w_szAutomatonS := fok (V := ⟨tt, [(88, F_w_szAutomaton)], [], 27, []⟩) tt_ok ⟨k_w_szAutomaton, trivial⟩ mixed Tryz.func41 rfl rfl (enters_of Tryz.func41 (by kernel_rfl) rfl) rfl (Nat.le_of_ble_eq_true rfl) rfl (.two .no (.two .no (.two .no (.two (.two .no (.loop [.slot 1 (.num .i64), .slot 5 (.num .i64)] .no)) .no)))) (fun d => by kernel_rfl)
theorem k_w_szTokenS : FOk Tryz.prog 84 F_w_szTokenS := fok (V := ⟨tt, [], [], 12, []⟩) tt_ok trivial mixed Tryz.func84 rfl rfl (enters_of Tryz.func84 (by kernel_rfl) rfl) rfl (Nat.le_of_ble_eq_true rfl) rfl .no (fun d => by kernel_rfl)
theorem k_w_szExpr : FOk Tryz.prog 37 F_w_szExpr := fok (V := ⟨tt, [(84, F_w_szTokenS)], [], 12, []⟩) tt_ok ⟨k_w_szTokenS, trivial⟩ mixed Tryz.func37 rfl rfl (enters_of Tryz.func37 (by kernel_rfl) rfl) rfl (Nat.le_of_ble_eq_true rfl) rfl .no (fun d => by kernel_rfl)
theorem k_w_szRegistered : FOk Tryz.prog 89 F_w_szRegistered := fok (V := ⟨tt, [(37, F_w_szExpr)], [], 12, []⟩) tt_ok ⟨k_w_szExpr, trivial⟩ mixed Tryz.func89 rfl rfl (enters_of Tryz.func89 (by kernel_rfl) rfl) rfl (Nat.le_of_ble_eq_true rfl) rfl .no (fun d => by kernel_rfl)
theorem k_w_szRegisteredS : FOk Tryz.prog 42 F_w_szRegisteredS := fok (V := ⟨tt, [(89, F_w_szRegistered)], [], 27, []⟩) tt_ok ⟨k_w_szRegistered, trivial⟩ mixed Tryz.func42 rfl rfl (enters_of Tryz.func42 (by kernel_rfl) rfl) rfl (Nat.le_of_ble_eq_true rfl) rfl (.two .no (.two .no (.two .no (.two (.two .no (.loop [.slot 1 (.num .i64), .slot 5 (.num .i64)] .no)) .no)))) (fun d => by kernel_rfl)
theorem k_w_szRegistry : FOk Tryz.prog 9 F_w_szRegistry := fok (V := ⟨tt, [(41, F_w_szAutomatonS), (42, F_w_szRegisteredS)], [], 18, []⟩) tt_ok ⟨k_w_szAutomatonS, k_w_szRegisteredS, trivial⟩ mixed Tryz.func9 rfl rfl (enters_of Tryz.func9 (by kernel_rfl) rfl) rfl (Nat.le_of_ble_eq_true rfl) rfl .no (fun d => by kernel_rfl)
theorem k_w_toBoolS : FOk Tryz.prog 132 F_w_toBoolS := fok (V := ⟨tt, [], [], 22, []⟩) tt_ok trivial mixed Tryz.func132 rfl rfl (enters_of Tryz.func132 (by kernel_rfl) rfl) rfl (Nat.le_of_ble_eq_true rfl) rfl (.two .no (.two .no (.two (.two .no (.loop [.row 3 4 y4, .slot 4 (.num .i64)] .no)) .no))) (fun d => by kernel_rfl)
theorem k_w_toIntS : FOk Tryz.prog 157 F_w_toIntS := fok (V := ⟨tt, [], [], 22, []⟩) tt_ok trivial mixed Tryz.func157 rfl rfl (enters_of Tryz.func157 (by kernel_rfl) rfl) rfl (Nat.le_of_ble_eq_true rfl) rfl (.two .no (.two .no (.two (.two .no (.loop [.row 3 3 y3, .slot 4 (.num .i64)] .no)) .no))) (fun d => by kernel_rfl)
theorem k_w_toIntSS : FOk Tryz.prog 133 F_w_toIntSS := fok (V := ⟨tt, [(157, F_w_toIntS)], [], 23, []⟩) tt_ok ⟨k_w_toIntS, trivial⟩ mixed Tryz.func133 rfl rfl (enters_of Tryz.func133 (by kernel_rfl) rfl) rfl (Nat.le_of_ble_eq_true rfl) rfl (.two .no (.two .no (.two (.two .no (.loop [.row 3 56 y56, .slot 4 (.num .i64)] .no)) .no))) (fun d => by kernel_rfl)
theorem k_w_toAutomaton : FOk Tryz.prog 94 F_w_toAutomaton := fok (V := ⟨tt, [(132, F_w_toBoolS), (133, F_w_toIntSS)], [], 16, []⟩) tt_ok ⟨k_w_toBoolS, k_w_toIntSS, trivial⟩ mixed Tryz.func94 rfl rfl (enters_of Tryz.func94 (by kernel_rfl) rfl) rfl (Nat.le_of_ble_eq_true rfl) rfl .no (fun d => by kernel_rfl)
theorem k_w_toAutomatonS : FOk Tryz.prog 45 F_w_toAutomatonS := fok (V := ⟨tt, [(94, F_w_toAutomaton)], [], 23, []⟩) tt_ok ⟨k_w_toAutomaton, trivial⟩ mixed Tryz.func45 rfl rfl (enters_of Tryz.func45 (by kernel_rfl) rfl) rfl (Nat.le_of_ble_eq_true rfl) rfl (.two .no (.two .no (.two (.two .no (.loop [.row 3 38 y38, .slot 4 (.num .i64)] .no)) .no))) (fun d => by kernel_rfl)
theorem k_w_toToken : FOk Tryz.prog 128 F_w_toToken := fok (V := ⟨tt, [], [], 17, []⟩) tt_ok trivial mixed Tryz.func128 rfl rfl (enters_of Tryz.func128 (by kernel_rfl) rfl) rfl (Nat.le_of_ble_eq_true rfl) rfl .no (fun d => by kernel_rfl)
theorem k_w_toTokenS : FOk Tryz.prog 85 F_w_toTokenS := fok (V := ⟨tt, [(128, F_w_toToken)], [], 23, []⟩) tt_ok ⟨k_w_toToken, trivial⟩ mixed Tryz.func85 rfl rfl (enters_of Tryz.func85 (by kernel_rfl) rfl) rfl (Nat.le_of_ble_eq_true rfl) rfl (.two .no (.two .no (.two (.two .no (.loop [.row 3 127 y127, .slot 4 (.num .i64)] .no)) .no))) (fun d => by kernel_rfl)
end Go.Proofs.YtimjccbdngajoaaGreat.R
/- Printed by lp.py: each function computes what its model says; the code is run, and the two are compared. -/
set_option linter.unusedVariables false
set_option maxRecDepth 1000000
namespace Go.Proofs.YtimjccbdngajoaaGreat.R
open Go.RowKit
open Go.Proofs.YtimjccbdngajoaaGreat.D
theorem k_w_toExpr : FOk Tryz.prog 38 F_w_toExpr := fok (V := ⟨tt, [(85, F_w_toTokenS)], [], 9, []⟩) tt_ok ⟨k_w_toTokenS, trivial⟩ mixed Tryz.func38 rfl rfl (enters_of Tryz.func38 (by kernel_rfl) rfl) rfl (Nat.le_of_ble_eq_true rfl) rfl .no (fun d => by kernel_rfl)
theorem k_w_toRegistered : FOk Tryz.prog 95 F_w_toRegistered := fok (V := ⟨tt, [(38, F_w_toExpr)], [], 15, []⟩) tt_ok ⟨k_w_toExpr, trivial⟩ mixed Tryz.func95 rfl rfl (enters_of Tryz.func95 (by kernel_rfl) rfl) rfl (Nat.le_of_ble_eq_true rfl) rfl .no (fun d => by kernel_rfl)
theorem k_w_toRegisteredS : FOk Tryz.prog 46 F_w_toRegisteredS := fok (V := ⟨tt, [(95, F_w_toRegistered)], [], 23, []⟩) tt_ok ⟨k_w_toRegistered, trivial⟩ mixed Tryz.func46 rfl rfl (enters_of Tryz.func46 (by kernel_rfl) rfl) rfl (Nat.le_of_ble_eq_true rfl) rfl (.two .no (.two .no (.two (.two .no (.loop [.row 3 77 y77, .slot 4 (.num .i64)] .no)) .no))) (fun d => by kernel_rfl)
theorem k_w_toRegistry : FOk Tryz.prog 11 F_w_toRegistry := fok (V := ⟨tt, [(45, F_w_toAutomatonS), (46, F_w_toRegisteredS)], [], 13, []⟩) tt_ok ⟨k_w_toAutomatonS, k_w_toRegisteredS, trivial⟩ mixed Tryz.func11 rfl rfl (enters_of Tryz.func11 (by kernel_rfl) rfl) rfl (Nat.le_of_ble_eq_true rfl) rfl .no (fun d => by kernel_rfl)
theorem k_w_eqBoolS : FOk Tryz.prog 53 F_w_eqBoolS := fok (V := ⟨tt, [], [], 26, []⟩) tt_ok trivial mixed Tryz.func53 rfl rfl (enters_of Tryz.func53 (by kernel_rfl) rfl) rfl (Nat.le_of_ble_eq_true rfl) rfl (.two .no (.two .no (.two (.two .no (.loop [.slot 5 (.num .i64)] .no)) .no))) (fun d => by kernel_rfl)
theorem k_w_eqIntS : FOk Tryz.prog 34 F_w_eqIntS := fok (V := ⟨tt, [], [], 26, []⟩) tt_ok trivial mixed Tryz.func34 rfl rfl (enters_of Tryz.func34 (by kernel_rfl) rfl) rfl (Nat.le_of_ble_eq_true rfl) rfl (.two .no (.two .no (.two (.two .no (.loop [.slot 5 (.num .i64)] .no)) .no))) (fun d => by kernel_rfl)
theorem k_w_eqIntSS : FOk Tryz.prog 54 F_w_eqIntSS := fok (V := ⟨tt, [(34, F_w_eqIntS)], [], 27, []⟩) tt_ok ⟨k_w_eqIntS, trivial⟩ mixed Tryz.func54 rfl rfl (enters_of Tryz.func54 (by kernel_rfl) rfl) rfl (Nat.le_of_ble_eq_true rfl) rfl (.two .no (.two .no (.two (.two .no (.loop [.slot 5 (.num .i64)] .no)) .no))) (fun d => by kernel_rfl)
theorem k_w_eqAutomaton : FOk Tryz.prog 16 F_w_eqAutomaton := fok (V := ⟨tt, [(53, F_w_eqBoolS), (54, F_w_eqIntSS)], [], 22, []⟩) tt_ok ⟨k_w_eqBoolS, k_w_eqIntSS, trivial⟩ mixed Tryz.func16 rfl rfl (enters_of Tryz.func16 (by kernel_rfl) rfl) rfl (Nat.le_of_ble_eq_true rfl) rfl .no (fun d => by kernel_rfl)
theorem k_w_eqAutomatonS : FOk Tryz.prog 48 F_w_eqAutomatonS := fok (V := ⟨tt, [(16, F_w_eqAutomaton)], [], 27, []⟩) tt_ok ⟨k_w_eqAutomaton, trivial⟩ mixed Tryz.func48 rfl rfl (enters_of Tryz.func48 (by kernel_rfl) rfl) rfl (Nat.le_of_ble_eq_true rfl) rfl (.two .no (.two .no (.two (.two .no (.loop [.slot 5 (.num .i64)] .no)) .no))) (fun d => by kernel_rfl)
theorem k_w_eqToken : FOk Tryz.prog 129 F_w_eqToken := fok (V := ⟨tt, [], [], 25, []⟩) tt_ok trivial mixed Tryz.func129 rfl rfl (enters_of Tryz.func129 (by kernel_rfl) rfl) rfl (Nat.le_of_ble_eq_true rfl) rfl .no (fun d => by kernel_rfl)
theorem k_w_eqTokenS : FOk Tryz.prog 86 F_w_eqTokenS := fok (V := ⟨tt, [(129, F_w_eqToken)], [], 27, []⟩) tt_ok ⟨k_w_eqToken, trivial⟩ mixed Tryz.func86 rfl rfl (enters_of Tryz.func86 (by kernel_rfl) rfl) rfl (Nat.le_of_ble_eq_true rfl) rfl (.two .no (.two .no (.two (.two .no (.loop [.slot 5 (.num .i64)] .no)) .no))) (fun d => by kernel_rfl)
theorem k_w_eqExpr : FOk Tryz.prog 39 F_w_eqExpr := fok (V := ⟨tt, [(86, F_w_eqTokenS)], [], 11, []⟩) tt_ok ⟨k_w_eqTokenS, trivial⟩ mixed Tryz.func39 rfl rfl (enters_of Tryz.func39 (by kernel_rfl) rfl) rfl (Nat.le_of_ble_eq_true rfl) rfl .no (fun d => by kernel_rfl)
theorem k_w_eqRegistered : FOk Tryz.prog 101 F_w_eqRegistered := fok (V := ⟨tt, [(39, F_w_eqExpr)], [], 21, []⟩) tt_ok ⟨k_w_eqExpr, trivial⟩ mixed Tryz.func101 rfl rfl (enters_of Tryz.func101 (by kernel_rfl) rfl) rfl (Nat.le_of_ble_eq_true rfl) rfl .no (fun d => by kernel_rfl)
theorem k_w_eqRegisteredS : FOk Tryz.prog 49 F_w_eqRegisteredS := fok (V := ⟨tt, [(101, F_w_eqRegistered)], [], 27, []⟩) tt_ok ⟨k_w_eqRegistered, trivial⟩ mixed Tryz.func49 rfl rfl (enters_of Tryz.func49 (by kernel_rfl) rfl) rfl (Nat.le_of_ble_eq_true rfl) rfl (.two .no (.two .no (.two (.two .no (.loop [.slot 5 (.num .i64)] .no)) .no))) (fun d => by kernel_rfl)
theorem k_w_eqRegistry : FOk Tryz.prog 13 F_w_eqRegistry := fok (V := ⟨tt, [(48, F_w_eqAutomatonS), (49, F_w_eqRegisteredS)], [], 17, []⟩) tt_ok ⟨k_w_eqAutomatonS, k_w_eqRegisteredS, trivial⟩ mixed Tryz.func13 rfl rfl (enters_of Tryz.func13 (by kernel_rfl) rfl) rfl (Nat.le_of_ble_eq_true rfl) rfl .no (fun d => by kernel_rfl)
theorem k_w_markBoolS : FOk Tryz.prog 57 F_w_markBoolS := fok (V := ⟨tt, [], [], 21, []⟩) tt_ok trivial mixed Tryz.func57 rfl rfl (enters_of Tryz.func57 (by kernel_rfl) rfl) rfl (Nat.le_of_ble_eq_true rfl) rfl (.two .no (.two (.two .no (.loop [.par 0 [] 4 y4, .slot 1 (.num .i64), .slot 5 (.num .i64)] .no)) .no)) (fun d => by kernel_rfl)
theorem k_w_markIntS : FOk Tryz.prog 35 F_w_markIntS := fok (V := ⟨tt, [], [], 19, []⟩) tt_ok trivial mixed Tryz.func35 rfl rfl (enters_of Tryz.func35 (by kernel_rfl) rfl) rfl (Nat.le_of_ble_eq_true rfl) rfl (.two .no (.two (.two .no (.loop [.par 0 [] 3 y3, .slot 1 (.num .i64), .slot 5 (.num .i64)] .no)) .no)) (fun d => by kernel_rfl)
end Go.Proofs.YtimjccbdngajoaaGreat.R
/- Printed by lp.py: each function computes what its model says; the code is run, and the two are compared. -/
set_option linter.unusedVariables false
set_option maxRecDepth 1000000
namespace Go.Proofs.YtimjccbdngajoaaGreat.R
open Go.RowKit
open Go.Proofs.YtimjccbdngajoaaGreat.D
theorem k_w_markIntSS : FOk Tryz.prog 58 F_w_markIntSS := fok (V := ⟨tt, [(35, F_w_markIntS)], [], 19, []⟩) tt_ok ⟨k_w_markIntS, trivial⟩ mixed Tryz.func58 rfl rfl (enters_of Tryz.func58 (by kernel_rfl) rfl) rfl (Nat.le_of_ble_eq_true rfl) rfl (.two .no (.two (.two .no (.loop [.par 0 [] 56 y56, .slot 1 (.num .i64), .slot 5 (.num .i64)] .no)) .no)) (fun d => by kernel_rfl)
theorem k_w_markAutomatonS : FOk Tryz.prog 55 F_w_markAutomatonS := fok (V := ⟨tt, [(57, F_w_markBoolS), (58, F_w_markIntSS)], [], 34, []⟩) tt_ok ⟨k_w_markBoolS, k_w_markIntSS, trivial⟩ mixed Tryz.func55 rfl rfl (enters_of Tryz.func55 (by kernel_rfl) rfl) rfl (Nat.le_of_ble_eq_true rfl) rfl (.two .no (.two (.two .no (.loop [.par 0 [] 38 y38, .slot 1 (.num .i64), .slot 5 (.num .i64)] .no)) .no)) (fun d => by kernel_rfl)
theorem k_w_markTokenS : FOk Tryz.prog 87 F_w_markTokenS := fok (V := ⟨tt, [], [], 41, []⟩) tt_ok trivial mixed Tryz.func87 rfl rfl (enters_of Tryz.func87 (by kernel_rfl) rfl) rfl (Nat.le_of_ble_eq_true rfl) rfl (.two .no (.two (.two .no (.loop [.par 0 [] 127 y127, .slot 1 (.num .i64), .slot 5 (.num .i64)] .no)) .no)) (fun d => by kernel_rfl)
theorem k_w_markRegisteredS : FOk Tryz.prog 56 F_w_markRegisteredS := fok (V := ⟨tt, [(87, F_w_markTokenS)], [], 35, []⟩) tt_ok ⟨k_w_markTokenS, trivial⟩ mixed Tryz.func56 rfl rfl (enters_of Tryz.func56 (by kernel_rfl) rfl) rfl (Nat.le_of_ble_eq_true rfl) rfl (.two .no (.two (.two .no (.loop [.par 0 [] 77 y77, .slot 1 (.num .i64), .slot 5 (.num .i64)] .no)) .no)) (fun d => by kernel_rfl)
theorem k_w_markRegistry : FOk Tryz.prog 17 F_w_markRegistry := fok (V := ⟨tt, [(55, F_w_markAutomatonS), (56, F_w_markRegisteredS)], [], 14, []⟩) tt_ok ⟨k_w_markAutomatonS, k_w_markRegisteredS, trivial⟩ mixed Tryz.func17 rfl rfl (enters_of Tryz.func17 (by kernel_rfl) rfl) rfl (Nat.le_of_ble_eq_true rfl) rfl .no (fun d => by kernel_rfl)
theorem k_g_slices_EqualFunc_S_Automaton_S_Automaton_Automaton_Automaton : FOk Tryz.prog 69 F_g_slices_EqualFunc_S_Automaton_S_Automaton_Automaton_Automaton := fok (V := ⟨tt, [], [], 32, []⟩) tt_ok trivial mixed Tryz.func69 rfl rfl (enters_of Tryz.func69 (by kernel_rfl) rfl) rfl (Nat.le_of_ble_eq_true rfl) rfl (.two .no (.two .no (.two (.two .no (.loop [.slot 17 (.num .i64)] .no)) .no))) (fun d => by kernel_rfl)
theorem k_g_slices_Equal_S_bool_bool : FOk Tryz.prog 110 F_g_slices_Equal_S_bool_bool := fok (V := ⟨tt, [], [], 26, []⟩) tt_ok trivial mixed Tryz.func110 rfl rfl (enters_of Tryz.func110 (by kernel_rfl) rfl) rfl (Nat.le_of_ble_eq_true rfl) rfl (.two .no (.two .no (.two (.two .no (.loop [.slot 13 (.num .i64)] .no)) .no))) (fun d => by kernel_rfl)
theorem k_g_slices_EqualFunc_S_S_int_S_S_int_S_int_S_int : FOk Tryz.prog 111 F_g_slices_EqualFunc_S_S_int_S_S_int_S_int_S_int := fok (V := ⟨tt, [], [], 32, []⟩) tt_ok trivial mixed Tryz.func111 rfl rfl (enters_of Tryz.func111 (by kernel_rfl) rfl) rfl (Nat.le_of_ble_eq_true rfl) rfl (.two .no (.two .no (.two (.two .no (.loop [.slot 17 (.num .i64)] .no)) .no))) (fun d => by kernel_rfl)
theorem k_g_slices_Equal_S_int_int : FOk Tryz.prog 113 F_g_slices_Equal_S_int_int := fok (V := ⟨tt, [], [], 26, []⟩) tt_ok trivial mixed Tryz.func113 rfl rfl (enters_of Tryz.func113 (by kernel_rfl) rfl) rfl (Nat.le_of_ble_eq_true rfl) rfl (.two .no (.two .no (.two (.two .no (.loop [.slot 13 (.num .i64)] .no)) .no))) (fun d => by kernel_rfl)
theorem k_i_EqualAutomata_1 : FOk Tryz.prog 112 F_i_EqualAutomata_1 := fok (V := ⟨tt, [(113, F_g_slices_Equal_S_int_int)], [], 8, []⟩) tt_ok ⟨k_g_slices_Equal_S_int_int, trivial⟩ mixed Tryz.func112 rfl rfl (enters_of Tryz.func112 (by kernel_rfl) rfl) rfl (Nat.le_of_ble_eq_true rfl) rfl .no (fun d => by kernel_rfl)
theorem k_i_EqualAutomata : FOk Tryz.prog 70 F_i_EqualAutomata := fok (V := ⟨tt, [(110, F_g_slices_Equal_S_bool_bool), (111, F_g_slices_EqualFunc_S_S_int_S_S_int_S_int_S_int), (112, F_i_EqualAutomata_1)], [], 24, []⟩) tt_ok ⟨k_g_slices_Equal_S_bool_bool, k_g_slices_EqualFunc_S_S_int_S_S_int_S_int_S_int, k_i_EqualAutomata_1, trivial⟩ mixed Tryz.func70 rfl rfl (enters_of Tryz.func70 (by kernel_rfl) rfl) rfl (Nat.le_of_ble_eq_true rfl) rfl .no (fun d => by kernel_rfl)
theorem k_g_slices_EqualFunc_S_Registered_S_Registered_Registered_Registered : FOk Tryz.prog 71 F_g_slices_EqualFunc_S_Registered_S_Registered_Registered_Registered := fok (V := ⟨tt, [], [], 32, []⟩) tt_ok trivial mixed Tryz.func71 rfl rfl (enters_of Tryz.func71 (by kernel_rfl) rfl) rfl (Nat.le_of_ble_eq_true rfl) rfl (.two .no (.two .no (.two (.two .no (.loop [.slot 17 (.num .i64)] .no)) .no))) (fun d => by kernel_rfl)
theorem k_g_slices_Equal_S_Token_Token : FOk Tryz.prog 142 F_g_slices_Equal_S_Token_Token := fok (V := ⟨tt, [], [], 26, []⟩) tt_ok trivial mixed Tryz.func142 rfl rfl (enters_of Tryz.func142 (by kernel_rfl) rfl) rfl (Nat.le_of_ble_eq_true rfl) rfl (.two .no (.two .no (.two (.two .no (.loop [.slot 13 (.num .i64)] .no)) .no))) (fun d => by kernel_rfl)
theorem k_i_EqualExprs : FOk Tryz.prog 114 F_i_EqualExprs := fok (V := ⟨tt, [(142, F_g_slices_Equal_S_Token_Token)], [], 10, []⟩) tt_ok ⟨k_g_slices_Equal_S_Token_Token, trivial⟩ mixed Tryz.func114 rfl rfl (enters_of Tryz.func114 (by kernel_rfl) rfl) rfl (Nat.le_of_ble_eq_true rfl) rfl .no (fun d => by kernel_rfl)
theorem k_i_equalQueries : FOk Tryz.prog 72 F_i_equalQueries := fok (V := ⟨tt, [(114, F_i_EqualExprs)], [], 24, []⟩) tt_ok ⟨k_i_EqualExprs, trivial⟩ mixed Tryz.func72 rfl rfl (enters_of Tryz.func72 (by kernel_rfl) rfl) rfl (Nat.le_of_ble_eq_true rfl) rfl .no (fun d => by kernel_rfl)
theorem k_i_EqualRegistries : FOk Tryz.prog 24 F_i_EqualRegistries := fok (V := ⟨tt, [(69, F_g_slices_EqualFunc_S_Automaton_S_Automaton_Automaton_Automaton), (70, F_i_EqualAutomata), (71, F_g_slices_EqualFunc_S_Registered_S_Registered_Registered_Registered), (72, F_i_equalQueries)], [], 17, []⟩) tt_ok ⟨k_g_slices_EqualFunc_S_Automaton_S_Automaton_Automaton_Automaton, k_i_EqualAutomata, k_g_slices_EqualFunc_S_Registered_S_Registered_Registered_Registered, k_i_equalQueries, trivial⟩ mixed Tryz.func24 rfl rfl (enters_of Tryz.func24 (by kernel_rfl) rfl) rfl (Nat.le_of_ble_eq_true rfl) rfl .no (fun d => by kernel_rfl)
theorem k_i_within : FOk Tryz.prog 97 F_i_within := fok (V := ⟨tt, [], [], 15, []⟩) tt_ok trivial mixed Tryz.func97 rfl rfl (enters_of Tryz.func97 (by kernel_rfl) rfl) rfl (Nat.le_of_ble_eq_true rfl) rfl .no (fun d => by kernel_rfl)
end Go.Proofs.YtimjccbdngajoaaGreat.R
/- Printed by lp.py: each function computes what its model says; the code is run, and the two are compared. -/
set_option linter.unusedVariables false
set_option maxRecDepth 1000000
namespace Go.Proofs.YtimjccbdngajoaaGreat.R
open Go.RowKit
open Go.Proofs.YtimjccbdngajoaaGreat.D
theorem k_i_isLetter : FOk Tryz.prog 197 F_i_isLetter := fok (V := ⟨tt, [(97, F_i_within)], [], 5, []⟩) tt_ok ⟨k_i_within, trivial⟩ mixed Tryz.func197 rfl rfl (enters_of Tryz.func197 (by kernel_rfl) rfl) rfl (Nat.le_of_ble_eq_true rfl) rfl .no (fun d => by kernel_rfl)
theorem k_i_tokenOk : FOk Tryz.prog 186 F_i_tokenOk := fok (V := ⟨tt, [(97, F_i_within), (197, F_i_isLetter)], [], 48, []⟩) tt_ok ⟨k_i_within, k_i_isLetter, trivial⟩ mixed Tryz.func186 rfl rfl (enters_of Tryz.func186 (by kernel_rfl) rfl) rfl (Nat.le_of_ble_eq_true rfl) rfl (.two .no (.two (.two .no (.two .no (.two .no (.two .no (.two .no (.join [.slot 37 .boo] .no .no)))))) .no)) (fun d => by kernel_rfl)
theorem k_g_slices_Clone_S__tree_tree : FOk Tryz.prog 187 F_g_slices_Clone_S__tree_tree := fok_clone (f := F_g_slices_Clone_S__tree_tree) (fok_none (f := ⟨F_g_slices_Clone_S__tree_tree.ps, F_g_slices_Clone_S__tree_tree.rs, F_g_slices_Clone_S__tree_tree.m, none⟩) (enters_of Tryz.func187 (by kernel_rfl) rfl) rfl (fun d => rfl)) (clone_ok (V := ⟨tt, [], [(5, .raw)], 8, []⟩) tt_ok trivial mixed Tryz.func187 rfl rfl (enters_of Tryz.func187 (by kernel_rfl) rfl) (Nat.le_of_ble_eq_true rfl) .no (fun E bn xs => by cases bn <;> kernel_rfl))
theorem k_i_treeOf : FOk Tryz.prog 160 F_i_treeOf := fok (V := ⟨tt, [(186, F_i_tokenOk), (187, F_g_slices_Clone_S__tree_tree)], [], 56, [(198, 169, y127)]⟩) tt_ok ⟨k_i_tokenOk, k_g_slices_Clone_S__tree_tree, trivial⟩ mixed Tryz.func160 rfl rfl (enters_of Tryz.func160 (by kernel_rfl) rfl) rfl (Nat.le_of_ble_eq_true rfl) rfl (.two .no (.two .no (.two (.two .no (.loop [.slot 3 (.own 169 y169), .slot 13 (.num .i64)] (.two .no (.two .no (.two (.two .no (.two .no (.two (.two .no (.at [.slot 6 (.num .i64)] (.two (.two .no (.at [.slot 19 .boo] .no)) (.two .no (.two (.two .no (.at [.slot 22 .boo] .no)) .no))))) .no))) .no))))) .no))) (fun d => by kernel_rfl)
theorem k_i_IsExpr : FOk Tryz.prog 198 F_i_IsExpr := fok (V := ⟨tt, [(160, F_i_treeOf)], [], 6, [(198, 169, y127)]⟩) tt_ok ⟨k_i_treeOf, trivial⟩ mixed Tryz.func198 rfl rfl (enters_of Tryz.func198 (by kernel_rfl) rfl) rfl (Nat.le_of_ble_eq_true rfl) rfl .no (fun d => by kernel_rfl)
theorem k_i_IsValidExpr : FOk Tryz.prog 181 F_i_IsValidExpr := fok (V := ⟨tt, [(198, F_i_IsExpr)], [], 11, []⟩) tt_ok ⟨k_i_IsExpr, trivial⟩ mixed Tryz.func181 rfl rfl (enters_of Tryz.func181 (by kernel_rfl) rfl) rfl (Nat.le_of_ble_eq_true rfl) rfl .no (fun d => by kernel_rfl)
theorem k_i_tree_bound : ∀ n, FOk Tryz.prog 182 (F_i_tree_bound n)
  | 0 => fok_none (f := F_i_tree_bound 0) (enters_of Tryz.func182 (by kernel_rfl) rfl) rfl (fun d => rfl)
  | n + 1 => by
    have ih := k_i_tree_bound n
    exact fok (V := ⟨tt, [(182, (F_i_tree_bound n))], [], 39, [(198, 169, y127)]⟩) tt_ok ⟨ih, trivial⟩ mixed Tryz.func182 rfl rfl (enters_of Tryz.func182 (by kernel_rfl) rfl) rfl (Nat.le_of_ble_eq_true rfl) rfl (.two .no (.two .no (.two (.two .no (.loop [.slot 3 (.num .i64), .slot 11 (.num .i64)] (.two .no (.two .no (.two (.at [.slot 3 (.num .i64)] .no) .no))))) .no))) (fun d => by kernel_rfl)
theorem k_i_leaf : FOk Tryz.prog 206 F_i_leaf := fok (V := ⟨tt, [], [], 7, [(198, 169, y127)]⟩) tt_ok trivial mixed Tryz.func206 rfl rfl (enters_of Tryz.func206 (by kernel_rfl) rfl) rfl (Nat.le_of_ble_eq_true rfl) rfl .no (fun d => by kernel_rfl)
theorem k_i_repeated : ∀ n, FOk Tryz.prog 199 (F_i_repeated n)
  | 0 => fok_none (f := F_i_repeated 0) (enters_of Tryz.func199 (by kernel_rfl) rfl) rfl (fun d => rfl)
  | n + 1 => by
    have ih := k_i_repeated n
    exact fok (V := ⟨tt, [(199, (F_i_repeated n)), (206, F_i_leaf)], [], 32, [(198, 169, y127)]⟩) tt_ok ⟨ih, k_i_leaf, trivial⟩ mixed Tryz.func199 rfl rfl (enters_of Tryz.func199 (by kernel_rfl) rfl) rfl (Nat.le_of_ble_eq_true rfl) rfl .no (fun d => by kernel_rfl)
theorem k_i_tree_expand : ∀ n, FOk Tryz.prog 183 (F_i_tree_expand n)
  | 0 => fok_none (f := F_i_tree_expand 0) (enters_of Tryz.func183 (by kernel_rfl) rfl) rfl (fun d => rfl)
  | n + 1 => by
    have ih := k_i_tree_expand n
    exact fok (V := ⟨tt, [(183, (F_i_tree_expand n)), (199, (F_i_repeated FUELR))], [(52, t169)], 58, [(198, 169, y127)]⟩) tt_ok ⟨ih, (k_i_repeated FUELR), trivial⟩ mixed Tryz.func183 rfl rfl (enters_of Tryz.func183 (by kernel_rfl) rfl) rfl (Nat.le_of_ble_eq_true rfl) rfl (.two .no (.two .no (.two .no (.two (.two .no (.loop [.slot 41 (.num .i64), .box 3 [(.num .i64), (.num .i64), (.num .i64), (.num .i64), (.own 169 (.tree 198 169 y127))]] .no)) .no)))) (fun d => by kernel_rfl)
theorem k_i_tree_collect : ∀ n, FOk Tryz.prog 200 (F_i_tree_collect n)
  | 0 => fok_none (f := F_i_tree_collect 0) (enters_of Tryz.func200 (by kernel_rfl) rfl) rfl (fun d => rfl)
  | n + 1 => by
    have ih := k_i_tree_collect n
    exact fok (V := ⟨tt, [(200, (F_i_tree_collect n))], [], 32, [(198, 169, y127)]⟩) tt_ok ⟨ih, trivial⟩ mixed Tryz.func200 rfl rfl (enters_of Tryz.func200 (by kernel_rfl) rfl) rfl (Nat.le_of_ble_eq_true rfl) rfl (.two (.two .no (.loop [.slot 11 (.num .i64), .box 1 [(.own 127 y127)]] .no)) .no) (fun d => by kernel_rfl)
theorem k_i_tree_expr : FOk Tryz.prog 184 F_i_tree_expr := fok (V := ⟨tt, [(200, (F_i_tree_collect FUELR))], [], 8, [(198, 169, y127)]⟩) tt_ok ⟨(k_i_tree_collect FUELR), trivial⟩ mixed Tryz.func184 rfl rfl (enters_of Tryz.func184 (by kernel_rfl) rfl) rfl (Nat.le_of_ble_eq_true rfl) rfl .no (fun d => by kernel_rfl)
theorem k_i_ExpandExpr : FOk Tryz.prog 158 F_i_ExpandExpr := fok (V := ⟨tt, [(160, F_i_treeOf), (181, F_i_IsValidExpr), (182, (F_i_tree_bound FUELR)), (183, (F_i_tree_expand FUELR)), (184, F_i_tree_expr)], [], 25, [(198, 169, y127)]⟩) tt_ok ⟨k_i_treeOf, k_i_IsValidExpr, (k_i_tree_bound FUELR), (k_i_tree_expand FUELR), k_i_tree_expr, trivial⟩ mixed Tryz.func158 rfl rfl (enters_of Tryz.func158 (by kernel_rfl) rfl) rfl (Nat.le_of_ble_eq_true rfl) rfl .no (fun d => by kernel_rfl)
theorem k_i_Positions_follow : FOk Tryz.prog 185 F_i_Positions_follow := fok (V := ⟨tt, [], [], 31, []⟩) tt_ok trivial mixed Tryz.func185 rfl rfl (enters_of Tryz.func185 (by kernel_rfl) rfl) rfl (Nat.le_of_ble_eq_true rfl) rfl (.two .no (.loop [.slot 12 (.num .i64), .par 3 [3] 3 y3] (.two .no (.two .no (.two (.at [.par 3 [3] 3 y3] .no) .no))))) (fun d => by kernel_rfl)
theorem k_i_Positions_build : ∀ n, FOk Tryz.prog 159 (F_i_Positions_build n)
  | 0 => fok_none (f := F_i_Positions_build 0) (enters_of Tryz.func159 (by kernel_rfl) rfl) rfl (fun d => rfl)
  | n + 1 => by
    have ih := k_i_Positions_build n
    exact fok (V := ⟨tt, [(159, (F_i_Positions_build n)), (185, F_i_Positions_follow)], [], 163, [(198, 169, y127)]⟩) tt_ok ⟨ih, k_i_Positions_follow, trivial⟩ mixed Tryz.func159 rfl rfl (enters_of Tryz.func159 (by kernel_rfl) rfl) rfl (Nat.le_of_ble_eq_true rfl) rfl (.two .no (.two (.two .no (.two .no (.two .no (.two .no (.two .no (.two .no (.two .no (.two .no (.two (.two .no (.two .no (.two .no (.two (.two .no (.at [.box 10 [(.num .i64), (.num .i64), .boo]] .no)) (.two (.two .no (.at [.box 10 [(.num .i64), (.num .i64), .boo]] .no)) .no))))) .no))))))))) .no)) (fun d => by kernel_rfl)
theorem k_i_BuildPositions : FOk Tryz.prog 134 F_i_BuildPositions := fok (V := ⟨tt, [(158, F_i_ExpandExpr), (159, (F_i_Positions_build FUELR)), (160, F_i_treeOf)], [], 49, [(198, 169, y127)]⟩) tt_ok ⟨k_i_ExpandExpr, (k_i_Positions_build FUELR), k_i_treeOf, trivial⟩ mixed Tryz.func134 rfl rfl (enters_of Tryz.func134 (by kernel_rfl) rfl) rfl (Nat.le_of_ble_eq_true rfl) rfl (.two .no (.two .no (.two .no (.two .no (.two (.two .no (.loop [.slot 6 (.num .i64), .slot 22 (.num .i64)] (.two .no (.two .no (.two (.at [.slot 6 (.num .i64)] .no) .no))))) .no))))) (fun d => by kernel_rfl)
theorem k_i_numbered_int : FOk Tryz.prog 161 F_i_numbered_int := fok (V := ⟨tt, [], [], 96, []⟩) tt_ok trivial mixed Tryz.func161 rfl rfl (enters_of Tryz.func161 (by kernel_rfl) rfl) rfl (Nat.le_of_ble_eq_true rfl) rfl (.two .no (.two .no (.two .no (.two .no (.two (.two .no (.loop [.slot 10 (.own 3 y3), .slot 11 (.map ⟨3, 3, .int, .int⟩), .slot 13 (.num .i64), .box 12 [(.num .i64), (.own 4 y4), (.own 56 y56)]] (.two .no (.two (.two .no (.two (.two .no (.loop [.slot 10 (.own 3 y3), .slot 11 (.map ⟨3, 3, .int, .int⟩), .slot 14 (.own 3 y3), .slot 15 (.num .i64)] (.two .no (.join [.slot 10 (.own 3 y3), .slot 11 (.map ⟨3, 3, .int, .int⟩), .slot 14 (.own 3 y3)] (.two .no (.two .no (.two .no (.join [.slot 10 (.own 3 y3), .slot 11 (.map ⟨3, 3, .int, .int⟩), .slot 18 (.num .i64)] .no .no)))) .no)))) .no)) .no)))) .no))))) (fun d => by kernel_rfl)
end Go.Proofs.YtimjccbdngajoaaGreat.R
/- Printed by lp.py: each function computes what its model says; the code is run, and the two are compared. -/
set_option linter.unusedVariables false
set_option maxRecDepth 1000000
namespace Go.Proofs.YtimjccbdngajoaaGreat.R
open Go.RowKit
open Go.Proofs.YtimjccbdngajoaaGreat.D
theorem k_i_Positions_accepts : FOk Tryz.prog 162 F_i_Positions_accepts := fok (V := ⟨tt, [], [], 20, []⟩) tt_ok trivial mixed Tryz.func162 rfl rfl (enters_of Tryz.func162 (by kernel_rfl) rfl) rfl (Nat.le_of_ble_eq_true rfl) rfl .no (fun d => by kernel_rfl)
theorem k_i_Positions_after : FOk Tryz.prog 164 F_i_Positions_after := fok (V := ⟨tt, [], [], 61, []⟩) tt_ok trivial mixed Tryz.func164 rfl rfl (enters_of Tryz.func164 (by kernel_rfl) rfl) rfl (Nat.le_of_ble_eq_true rfl) rfl (.two .no (.two .no (.join [.slot 7 (.num .i64)] .no (.two (.two .no (.loop [.slot 7 (.num .i64), .slot 21 (.num .i64)] (.two .no (.two .no (.join [.slot 7 (.num .i64)] .no .no))))) (.two .no (.two (.two .no (.loop [.slot 10 (.num .i64), .slot 39 (.num .i64)] (.two .no (.two .no (.join [.slot 10 (.num .i64)] .no .no))))) .no)))))) (fun d => by kernel_rfl)
theorem k_i_determinize_1 : FOk Tryz.prog 163 F_i_determinize_1 := fok (V := ⟨tt, [(164, F_i_Positions_after)], [], 15, []⟩) tt_ok ⟨k_i_Positions_after, trivial⟩ mixed Tryz.func163 rfl rfl (enters_of Tryz.func163 (by kernel_rfl) rfl) rfl (Nat.le_of_ble_eq_true rfl) rfl .no (fun d => by kernel_rfl)
theorem k_i_determinize : FOk Tryz.prog 135 F_i_determinize := fok (V := ⟨tt, [(161, F_i_numbered_int), (162, F_i_Positions_accepts), (163, F_i_determinize_1)], [], 13, []⟩) tt_ok ⟨k_i_numbered_int, k_i_Positions_accepts, k_i_determinize_1, trivial⟩ mixed Tryz.func135 rfl rfl (enters_of Tryz.func135 (by kernel_rfl) rfl) rfl (Nat.le_of_ble_eq_true rfl) rfl .no (fun d => by kernel_rfl)
theorem k_g_slices_Clone_S_bool_bool : FOk Tryz.prog 207 F_g_slices_Clone_S_bool_bool := fok_clone (f := F_g_slices_Clone_S_bool_bool) (fok_none (f := ⟨F_g_slices_Clone_S_bool_bool.ps, F_g_slices_Clone_S_bool_bool.rs, F_g_slices_Clone_S_bool_bool.m, none⟩) (enters_of Tryz.func207 (by kernel_rfl) rfl) rfl (fun d => rfl)) (clone_ok (V := ⟨tt, [], [(5, .raw)], 8, []⟩) tt_ok trivial mixed Tryz.func207 rfl rfl (enters_of Tryz.func207 (by kernel_rfl) rfl) (Nat.le_of_ble_eq_true rfl) .no (fun E bn xs => by cases bn <;> kernel_rfl))
theorem k_i_Automaton_live : FOk Tryz.prog 201 F_i_Automaton_live := fok (V := ⟨tt, [(207, F_g_slices_Clone_S_bool_bool)], [], 48, []⟩) tt_ok ⟨k_g_slices_Clone_S_bool_bool, trivial⟩ mixed Tryz.func201 rfl rfl (enters_of Tryz.func201 (by kernel_rfl) rfl) rfl (Nat.le_of_ble_eq_true rfl) rfl (.two .no (.two .no (.two (.two .no (.loop [.slot 4 .boo, .row 3 4 y4] (.two .no (.two .no (.two .no (.loop [.slot 4 .boo, .slot 16 (.num .i64), .row 3 4 y4] (.two .no (.two .no (.two (.two .no (.two .no (.loop [.slot 4 .boo, .slot 23 (.num .i64), .row 3 4 y4] (.two .no (.two .no (.two (.at [.slot 4 .boo, .row 3 4 y4] .no) .no)))))) .no))))))))) .no))) (fun d => by kernel_rfl)
theorem k_g_slices_IndexFunc_S_S_int_S_int : FOk Tryz.prog 208 F_g_slices_IndexFunc_S_S_int_S_int := fok (V := ⟨tt, [], [], 19, []⟩) tt_ok trivial mixed Tryz.func208 rfl rfl (enters_of Tryz.func208 (by kernel_rfl) rfl) rfl (Nat.le_of_ble_eq_true rfl) rfl (.two .no (.two (.two .no (.loop [.slot 8 (.num .i64)] .no)) .no)) (fun d => by kernel_rfl)
theorem k_i_Automaton_refine_1 : FOk Tryz.prog 209 F_i_Automaton_refine_1 := fok (V := ⟨tt, [(113, F_g_slices_Equal_S_int_int)], [], 7, []⟩) tt_ok ⟨k_g_slices_Equal_S_int_int, trivial⟩ mixed Tryz.func209 rfl rfl (enters_of Tryz.func209 (by kernel_rfl) rfl) rfl (Nat.le_of_ble_eq_true rfl) rfl .no (fun d => by kernel_rfl)
theorem k_i_Automaton_refine : FOk Tryz.prog 202 F_i_Automaton_refine := fok (V := ⟨tt, [(208, F_g_slices_IndexFunc_S_S_int_S_int), (209, F_i_Automaton_refine_1)], [], 70, []⟩) tt_ok ⟨k_g_slices_IndexFunc_S_S_int_S_int, k_i_Automaton_refine_1, trivial⟩ mixed Tryz.func202 rfl rfl (enters_of Tryz.func202 (by kernel_rfl) rfl) rfl (Nat.le_of_ble_eq_true rfl) rfl (.two .no (.two .no (.two .no (.two (.two .no (.loop [.slot 6 (.own 56 y56), .slot 7 (.own 3 y3), .slot 18 (.num .i64)] (.two .no (.two .no (.join [.slot 6 (.own 56 y56), .slot 7 (.own 3 y3)] (.two .no (.two .no (.two .no (.two (.two .no (.loop [.slot 36 (.num .i64), .box 10 [(.own 3 y3)]] (.two .no (.two .no (.two (.two .no (.join [.slot 12 (.num .i64)] .no .no)) .no))))) (.two .no (.join [.slot 6 (.own 56 y56), .slot 13 (.num .i64), .gone 10] .no .no)))))) .no))))) .no)))) (fun d => by kernel_rfl)
theorem k_i_Automaton_classes : FOk Tryz.prog 188 F_i_Automaton_classes := fok (V := ⟨tt, [(201, F_i_Automaton_live), (202, F_i_Automaton_refine)], [], 49, []⟩) tt_ok ⟨k_i_Automaton_live, k_i_Automaton_refine, trivial⟩ mixed Tryz.func188 rfl rfl (enters_of Tryz.func188 (by kernel_rfl) rfl) rfl (Nat.le_of_ble_eq_true rfl) rfl (.two .no (.two .no (.two (.two .no (.loop [.slot 3 (.own 3 y3), .slot 13 (.num .i64)] (.two .no (.two .no (.join [.slot 3 (.own 3 y3)] .no .no))))) (.two .no (.loop [.slot 3 (.own 3 y3), .slot 6 (.num .i64)] .no))))) (fun d => by kernel_rfl)
theorem k_g_math_bits_Mul32 : FOk Tryz.prog 213 F_g_math_bits_Mul32 := fok (V := ⟨tt, [], [], 17, []⟩) tt_ok trivial mixed Tryz.func213 rfl rfl (enters_of Tryz.func213 (by kernel_rfl) rfl) rfl (Nat.le_of_ble_eq_true rfl) rfl .no (fun d => by kernel_rfl)
theorem k_g_math_bits_Mul64 : FOk Tryz.prog 214 F_g_math_bits_Mul64 := fok (V := ⟨tt, [], [], 51, []⟩) tt_ok trivial mixed Tryz.func214 rfl rfl (enters_of Tryz.func214 (by kernel_rfl) rfl) rfl (Nat.le_of_ble_eq_true rfl) rfl .no (fun d => by kernel_rfl)
theorem k_g_math_bits_Mul : FOk Tryz.prog 210 F_g_math_bits_Mul := fok (V := ⟨tt, [(213, F_g_math_bits_Mul32), (214, F_g_math_bits_Mul64)], [], 30, []⟩) tt_ok ⟨k_g_math_bits_Mul32, k_g_math_bits_Mul64, trivial⟩ mixed Tryz.func210 rfl rfl (enters_of Tryz.func210 (by kernel_rfl) rfl) rfl (Nat.le_of_ble_eq_true rfl) rfl .no (fun d => by kernel_rfl)
theorem k_g_slices_Repeat_S_int_int : FOk Tryz.prog 203 F_g_slices_Repeat_S_int_int := fok (V := ⟨tt, [(210, F_g_math_bits_Mul)], [(44, .bool)], 48, []⟩) tt_ok ⟨k_g_math_bits_Mul, trivial⟩ mixed Tryz.func203 rfl rfl (enters_of Tryz.func203 (by kernel_rfl) rfl) rfl (Nat.le_of_ble_eq_true rfl) rfl (.two .no (.two .no (.two .no (.two .no (.two .no (.two .no (.two (.loop [.slot 8 (.num .i64), .row 7 3 (.int .i64)] .no) .no))))))) (fun d => by kernel_rfl)
theorem k_i_nothing : FOk Tryz.prog 189 F_i_nothing := fok (V := ⟨tt, [(203, F_g_slices_Repeat_S_int_int)], [], 6, []⟩) tt_ok ⟨k_g_slices_Repeat_S_int_int, trivial⟩ mixed Tryz.func189 rfl rfl (enters_of Tryz.func189 (by kernel_rfl) rfl) rfl (Nat.le_of_ble_eq_true rfl) rfl .no (fun d => by kernel_rfl)
theorem k_g_slices_Index_S_int_int : FOk Tryz.prog 191 F_g_slices_Index_S_int_int := fok (V := ⟨tt, [], [], 19, []⟩) tt_ok trivial mixed Tryz.func191 rfl rfl (enters_of Tryz.func191 (by kernel_rfl) rfl) rfl (Nat.le_of_ble_eq_true rfl) rfl (.two .no (.two (.two .no (.loop [.slot 8 (.num .i64)] .no)) .no)) (fun d => by kernel_rfl)
theorem k_i_Automaton_minimize_1 : FOk Tryz.prog 190 F_i_Automaton_minimize_1 := fok (V := ⟨tt, [(191, F_g_slices_Index_S_int_int)], [], 7, []⟩) tt_ok ⟨k_g_slices_Index_S_int_int, trivial⟩ mixed Tryz.func190 rfl rfl (enters_of Tryz.func190 (by kernel_rfl) rfl) rfl (Nat.le_of_ble_eq_true rfl) rfl .no (fun d => by kernel_rfl)
end Go.Proofs.YtimjccbdngajoaaGreat.R
/- Printed by lp.py: each function computes what its model says; the code is run, and the two are compared. -/
set_option linter.unusedVariables false
set_option maxRecDepth 1000000
namespace Go.Proofs.YtimjccbdngajoaaGreat.R
open Go.RowKit
open Go.Proofs.YtimjccbdngajoaaGreat.D
theorem k_i_Automaton_minimize_2 : FOk Tryz.prog 192 F_i_Automaton_minimize_2 := fok (V := ⟨tt, [], [], 12, []⟩) tt_ok trivial mixed Tryz.func192 rfl rfl (enters_of Tryz.func192 (by kernel_rfl) rfl) rfl (Nat.le_of_ble_eq_true rfl) rfl .no (fun d => by kernel_rfl)
theorem k_i_Automaton_move : FOk Tryz.prog 180 F_i_Automaton_move := fok (V := ⟨tt, [(197, F_i_isLetter)], [], 22, []⟩) tt_ok ⟨k_i_isLetter, trivial⟩ mixed Tryz.func180 rfl rfl (enters_of Tryz.func180 (by kernel_rfl) rfl) rfl (Nat.le_of_ble_eq_true rfl) rfl .no (fun d => by kernel_rfl)
theorem k_i_Automaton_minimize_3 : FOk Tryz.prog 193 F_i_Automaton_minimize_3 := fok (V := ⟨tt, [(180, F_i_Automaton_move)], [], 29, []⟩) tt_ok ⟨k_i_Automaton_move, trivial⟩ mixed Tryz.func193 rfl rfl (enters_of Tryz.func193 (by kernel_rfl) rfl) rfl (Nat.le_of_ble_eq_true rfl) rfl .no (fun d => by kernel_rfl)
theorem k_i_Automaton_minimize : FOk Tryz.prog 165 F_i_Automaton_minimize := fok (V := ⟨tt, [(161, F_i_numbered_int), (188, F_i_Automaton_classes), (189, F_i_nothing), (190, F_i_Automaton_minimize_1), (192, F_i_Automaton_minimize_2), (193, F_i_Automaton_minimize_3)], [], 31, []⟩) tt_ok ⟨k_i_numbered_int, k_i_Automaton_classes, k_i_nothing, k_i_Automaton_minimize_1, k_i_Automaton_minimize_2, k_i_Automaton_minimize_3, trivial⟩ mixed Tryz.func165 rfl rfl (enters_of Tryz.func165 (by kernel_rfl) rfl) rfl (Nat.le_of_ble_eq_true rfl) rfl .no (fun d => by kernel_rfl)
theorem k_i_small : FOk Tryz.prog 136 F_i_small := fok (V := ⟨tt, [(165, F_i_Automaton_minimize)], [], 13, []⟩) tt_ok ⟨k_i_Automaton_minimize, trivial⟩ mixed Tryz.func136 rfl rfl (enters_of Tryz.func136 (by kernel_rfl) rfl) rfl (Nat.le_of_ble_eq_true rfl) rfl .no (fun d => by kernel_rfl)
theorem k_i_CompileExpr : FOk Tryz.prog 96 F_i_CompileExpr := fok (V := ⟨tt, [(134, F_i_BuildPositions), (135, F_i_determinize), (136, F_i_small)], [], 28, []⟩) tt_ok ⟨k_i_BuildPositions, k_i_determinize, k_i_small, trivial⟩ mixed Tryz.func96 rfl rfl (enters_of Tryz.func96 (by kernel_rfl) rfl) rfl (Nat.le_of_ble_eq_true rfl) rfl .no (fun d => by kernel_rfl)
theorem k_g_slices_IndexFunc_S_Automaton_Automaton : FOk Tryz.prog 98 F_g_slices_IndexFunc_S_Automaton_Automaton := fok (V := ⟨tt, [], [], 19, []⟩) tt_ok trivial mixed Tryz.func98 rfl rfl (enters_of Tryz.func98 (by kernel_rfl) rfl) rfl (Nat.le_of_ble_eq_true rfl) rfl (.two .no (.two (.two .no (.loop [.slot 8 (.num .i64)] .no)) .no)) (fun d => by kernel_rfl)
theorem k_i_shared_1 : FOk Tryz.prog 99 F_i_shared_1 := fok (V := ⟨tt, [(70, F_i_EqualAutomata)], [], 7, []⟩) tt_ok ⟨k_i_EqualAutomata, trivial⟩ mixed Tryz.func99 rfl rfl (enters_of Tryz.func99 (by kernel_rfl) rfl) rfl (Nat.le_of_ble_eq_true rfl) rfl .no (fun d => by kernel_rfl)
theorem k_i_copyExpr : FOk Tryz.prog 100 F_i_copyExpr := fok (V := ⟨tt, [], [], 8, []⟩) tt_ok trivial mixed Tryz.func100 rfl rfl (enters_of Tryz.func100 (by kernel_rfl) rfl) rfl (Nat.le_of_ble_eq_true rfl) rfl .no (fun d => by kernel_rfl)
theorem k_i_shared : FOk Tryz.prog 47 F_i_shared := fok (V := ⟨tt, [(96, F_i_CompileExpr), (97, F_i_within), (98, F_g_slices_IndexFunc_S_Automaton_Automaton), (99, F_i_shared_1), (100, F_i_copyExpr)], [], 80, []⟩) tt_ok ⟨k_i_CompileExpr, k_i_within, k_g_slices_IndexFunc_S_Automaton_Automaton, k_i_shared_1, k_i_copyExpr, trivial⟩ mixed Tryz.func47 rfl rfl (enters_of Tryz.func47 (by kernel_rfl) rfl) rfl (Nat.le_of_ble_eq_true rfl) rfl (.two .no (.two .no (.two (.two .no (.loop [.slot 13 (.num .i64), .box 4 [(.own 38 y38), (.own 77 y77)]] (.two .no (.two .no (.two (.two .no (.two .no (.two .no (.two .no (.join [.slot 9 (.num .i64), .box 4 [(.own 38 y38), (.own 77 y77)], .gone 7] .no .no))))) .no))))) .no))) (fun d => by kernel_rfl)
theorem k_i_IsValidRegistry : FOk Tryz.prog 12 F_i_IsValidRegistry := fok (V := ⟨tt, [(24, F_i_EqualRegistries), (47, F_i_shared)], [], 17, []⟩) tt_ok ⟨k_i_EqualRegistries, k_i_shared, trivial⟩ mixed Tryz.func12 rfl rfl (enters_of Tryz.func12 (by kernel_rfl) rfl) rfl (Nat.le_of_ble_eq_true rfl) rfl .no (fun d => by kernel_rfl)
theorem k_g_slices_IndexFunc_S_Registered_Registered : FOk Tryz.prog 78 F_g_slices_IndexFunc_S_Registered_Registered := fok (V := ⟨tt, [], [], 19, []⟩) tt_ok trivial mixed Tryz.func78 rfl rfl (enters_of Tryz.func78 (by kernel_rfl) rfl) rfl (Nat.le_of_ble_eq_true rfl) rfl (.two .no (.two (.two .no (.loop [.slot 8 (.num .i64)] .no)) .no)) (fun d => by kernel_rfl)
theorem k_i_FindQuery_1 : FOk Tryz.prog 79 F_i_FindQuery_1 := fok (V := ⟨tt, [], [], 8, []⟩) tt_ok trivial mixed Tryz.func79 rfl rfl (enters_of Tryz.func79 (by kernel_rfl) rfl) rfl (Nat.le_of_ble_eq_true rfl) rfl .no (fun d => by kernel_rfl)
theorem k_i_FindQuery : FOk Tryz.prog 28 F_i_FindQuery := fok (V := ⟨tt, [(78, F_g_slices_IndexFunc_S_Registered_Registered), (79, F_i_FindQuery_1)], [], 9, []⟩) tt_ok ⟨k_g_slices_IndexFunc_S_Registered_Registered, k_i_FindQuery_1, trivial⟩ mixed Tryz.func28 rfl rfl (enters_of Tryz.func28 (by kernel_rfl) rfl) rfl (Nat.le_of_ble_eq_true rfl) rfl .no (fun d => by kernel_rfl)
theorem k_i_copyInts : FOk Tryz.prog 102 F_i_copyInts := fok (V := ⟨tt, [], [], 6, []⟩) tt_ok trivial mixed Tryz.func102 rfl rfl (enters_of Tryz.func102 (by kernel_rfl) rfl) rfl (Nat.le_of_ble_eq_true rfl) rfl .no (fun d => by kernel_rfl)
theorem k_i_copyAutomaton : FOk Tryz.prog 52 F_i_copyAutomaton := fok (V := ⟨tt, [(102, F_i_copyInts)], [], 29, []⟩) tt_ok ⟨k_i_copyInts, trivial⟩ mixed Tryz.func52 rfl rfl (enters_of Tryz.func52 (by kernel_rfl) rfl) rfl (Nat.le_of_ble_eq_true rfl) rfl (.two .no (.two .no (.two (.two .no (.loop [.slot 16 (.num .i64), .box 3 [(.num .i64), (.own 4 y4), (.own 56 y56)]] .no)) .no))) (fun d => by kernel_rfl)
theorem k_i_copyRegistry : FOk Tryz.prog 65 F_i_copyRegistry := fok (V := ⟨tt, [(52, F_i_copyAutomaton), (100, F_i_copyExpr)], [], 43, []⟩) tt_ok ⟨k_i_copyAutomaton, k_i_copyExpr, trivial⟩ mixed Tryz.func65 rfl rfl (enters_of Tryz.func65 (by kernel_rfl) rfl) rfl (Nat.le_of_ble_eq_true rfl) rfl (.two .no (.two .no (.two (.two .no (.loop [.slot 12 (.num .i64), .box 3 [(.own 38 y38), (.own 77 y77)]] .no)) (.two (.two .no (.loop [.slot 27 (.num .i64), .box 3 [(.own 38 y38), (.own 77 y77)]] .no)) .no)))) (fun d => by kernel_rfl)
end Go.Proofs.YtimjccbdngajoaaGreat.R
/- Printed by lp.py: each function computes what its model says; the code is run, and the two are compared. -/
set_option linter.unusedVariables false
set_option maxRecDepth 1000000
namespace Go.Proofs.YtimjccbdngajoaaGreat.R
open Go.RowKit
open Go.Proofs.YtimjccbdngajoaaGreat.D
theorem k_g_slices_Insert_S_Registered_Registered : FOk Tryz.prog 66 F_g_slices_Insert_S_Registered_Registered := fok_ins (n := 2) (z := (⟨.int .i64 0, rfl⟩, ⟨.slice none 0 0, rfl⟩, ⟨.int .i64 0, rfl⟩)) rfl rfl (fok (V := ⟨tt, [(108, ⟨[], [], none, some (77, 0)⟩)], [(12, .raw), (34, .raw), (43, .raw), (50, .raw), (53, .raw), (60, .str), (66, .raw), (73, .raw), (76, .raw), (80, .raw), (86, .raw), (91, .raw)], 95, []⟩) tt_ok ⟨fok_ov (ov_ok (fn := Tryz.f108) (tS := 29) (tR := 4) (E := 77) Tryz.func108 (by kernel_rfl) (by kernel_rfl) (by kernel_rfl) (by kernel_rfl) Tryz.underlying29 (TTok.get tt_ok rfl).ti), trivial⟩ mixed Tryz.func66 rfl rfl (enters_of Tryz.func66 (by kernel_rfl) rfl) rfl (Nat.le_of_ble_eq_true rfl) rfl .no (fun d => by kernel_rfl))
theorem k_g_slices_Clone_S_Registered_Registered : FOk Tryz.prog 67 F_g_slices_Clone_S_Registered_Registered := fok_raws (n := 2) rfl (cloneF_ok (t := rawsT 2) (V := ⟨tt, [], [(5, (.prod .raw (.prod .raw .raw)))], 8, []⟩) tt_ok trivial mixed Tryz.func67 rfl rfl (enters_of Tryz.func67 (by kernel_rfl) rfl) (Nat.le_of_ble_eq_true rfl) .no rfl (fun bn xs => by cases bn <;> kernel_rfl))
theorem k_i_RegisterQuery : FOk Tryz.prog 22 F_i_RegisterQuery := fok (V := ⟨tt, [(12, F_i_IsValidRegistry), (28, F_i_FindQuery), (47, F_i_shared), (65, F_i_copyRegistry), (66, F_g_slices_Insert_S_Registered_Registered), (67, F_g_slices_Clone_S_Registered_Registered)], [(47, .fro y77)], 57, []⟩) tt_ok ⟨k_i_IsValidRegistry, k_i_FindQuery, k_i_shared, k_i_copyRegistry, k_g_slices_Insert_S_Registered_Registered, k_g_slices_Clone_S_Registered_Registered, trivial⟩ mixed Tryz.func22 rfl rfl (enters_of Tryz.func22 (by kernel_rfl) rfl) rfl (Nat.le_of_ble_eq_true rfl) rfl (.two .no (.two .no (.two .no (.two (.loop [.slot 8 (.num .i64)] .no) .no)))) (fun d => by kernel_rfl)
theorem k_s_l1In : FOk Tryz.prog 90 F_s_l1In := fok (V := ⟨tt, [], [], 15, []⟩) tt_ok trivial mixed Tryz.func90 rfl rfl (enters_of Tryz.func90 (by kernel_rfl) rfl) rfl (Nat.le_of_ble_eq_true rfl) rfl .no (fun d => by kernel_rfl)
theorem k_s_l2Letter : FOk Tryz.prog 196 F_s_l2Letter := fok (V := ⟨tt, [(90, F_s_l1In)], [], 5, []⟩) tt_ok ⟨k_s_l1In, trivial⟩ mixed Tryz.func196 rfl rfl (enters_of Tryz.func196 (by kernel_rfl) rfl) rfl (Nat.le_of_ble_eq_true rfl) rfl .no (fun d => by kernel_rfl)
theorem k_s_l8Arity : FOk Tryz.prog 174 F_s_l8Arity := fok (V := ⟨tt, [(90, F_s_l1In), (196, F_s_l2Letter)], [], 87, []⟩) tt_ok ⟨k_s_l1In, k_s_l2Letter, trivial⟩ mixed Tryz.func174 rfl rfl (enters_of Tryz.func174 (by kernel_rfl) rfl) rfl (Nat.le_of_ble_eq_true rfl) rfl (.two .no (.two (.two .no (.join [.slot 5 .boo] .no (.two .no (.two .no (.two .no (.join [.slot 37 .boo] .no .no)))))) .no)) (fun d => by kernel_rfl)
theorem k_s_IsExpr : FOk Tryz.prog 172 F_s_IsExpr := fok (V := ⟨tt, [(174, F_s_l8Arity)], [], 32, []⟩) tt_ok ⟨k_s_l8Arity, trivial⟩ mixed Tryz.func172 rfl rfl (enters_of Tryz.func172 (by kernel_rfl) rfl) rfl (Nat.le_of_ble_eq_true rfl) rfl (.two .no (.two .no (.two (.two .no (.loop [.slot 3 (.num .i64), .slot 4 (.num .i64)] .no)) .no))) (fun d => by kernel_rfl)
theorem k_s_IsValidExpr : FOk Tryz.prog 143 F_s_IsValidExpr := fok (V := ⟨tt, [(172, F_s_IsExpr)], [], 11, []⟩) tt_ok ⟨k_s_IsExpr, trivial⟩ mixed Tryz.func143 rfl rfl (enters_of Tryz.func143 (by kernel_rfl) rfl) rfl (Nat.le_of_ble_eq_true rfl) rfl .no (fun d => by kernel_rfl)
theorem k_s_l8Start : FOk Tryz.prog 146 F_s_l8Start := fok (V := ⟨tt, [(174, F_s_l8Arity)], [], 20, []⟩) tt_ok ⟨k_s_l8Arity, trivial⟩ mixed Tryz.func146 rfl rfl (enters_of Tryz.func146 (by kernel_rfl) rfl) rfl (Nat.le_of_ble_eq_true rfl) rfl (.two .no (.two .no (.two .no (.two (.loop [.slot 3 (.num .i64), .slot 4 (.num .i64)] .no) .no)))) (fun d => by kernel_rfl)
theorem k_s_l10Size : ∀ n, FOk Tryz.prog 144 (F_s_l10Size n)
  | 0 => fok_none (f := F_s_l10Size 0) (enters_of Tryz.func144 (by kernel_rfl) rfl) rfl (fun d => rfl)
  | n + 1 => by
    have ih := k_s_l10Size n
    exact fok (V := ⟨tt, [(144, (F_s_l10Size n)), (146, F_s_l8Start)], [], 54, []⟩) tt_ok ⟨ih, k_s_l8Start, trivial⟩ mixed Tryz.func144 rfl rfl (enters_of Tryz.func144 (by kernel_rfl) rfl) rfl (Nat.le_of_ble_eq_true rfl) rfl (.two .no (.two .no (.two .no (.two (.two .no (.two (.two .no (.at [.slot 15 .boo] .no)) .no)) .no)))) (fun d => by kernel_rfl)
theorem k_s_l8Copy : FOk Tryz.prog 92 F_s_l8Copy := fok (V := ⟨tt, [], [], 7, []⟩) tt_ok trivial mixed Tryz.func92 rfl rfl (enters_of Tryz.func92 (by kernel_rfl) rfl) rfl (Nat.le_of_ble_eq_true rfl) rfl .no (fun d => by kernel_rfl)
theorem k_s_l8Join : FOk Tryz.prog 170 F_s_l8Join := fok (V := ⟨tt, [(92, F_s_l8Copy)], [], 24, []⟩) tt_ok ⟨k_s_l8Copy, trivial⟩ mixed Tryz.func170 rfl rfl (enters_of Tryz.func170 (by kernel_rfl) rfl) rfl (Nat.le_of_ble_eq_true rfl) rfl .no (fun d => by kernel_rfl)
theorem k_s_l8Leaf : FOk Tryz.prog 168 F_s_l8Leaf := fok (V := ⟨tt, [], [], 7, []⟩) tt_ok trivial mixed Tryz.func168 rfl rfl (enters_of Tryz.func168 (by kernel_rfl) rfl) rfl (Nat.le_of_ble_eq_true rfl) rfl .no (fun d => by kernel_rfl)
theorem k_s_l10Times : ∀ n, FOk Tryz.prog 173 (F_s_l10Times n)
  | 0 => fok_none (f := F_s_l10Times 0) (enters_of Tryz.func173 (by kernel_rfl) rfl) rfl (fun d => rfl)
  | n + 1 => by
    have ih := k_s_l10Times n
    exact fok (V := ⟨tt, [(168, F_s_l8Leaf), (170, F_s_l8Join), (173, (F_s_l10Times n))], [], 28, []⟩) tt_ok ⟨k_s_l8Leaf, k_s_l8Join, ih, trivial⟩ mixed Tryz.func173 rfl rfl (enters_of Tryz.func173 (by kernel_rfl) rfl) rfl (Nat.le_of_ble_eq_true rfl) rfl .no (fun d => by kernel_rfl)
theorem k_s_l10Expand : ∀ n, FOk Tryz.prog 145 (F_s_l10Expand n)
  | 0 => fok_none (f := F_s_l10Expand 0) (enters_of Tryz.func145 (by kernel_rfl) rfl) rfl (fun d => rfl)
  | n + 1 => by
    have ih := k_s_l10Expand n
    exact fok (V := ⟨tt, [(145, (F_s_l10Expand n)), (146, F_s_l8Start), (170, F_s_l8Join), (173, (F_s_l10Times FUELR))], [], 56, []⟩) tt_ok ⟨ih, k_s_l8Start, k_s_l8Join, (k_s_l10Times FUELR), trivial⟩ mixed Tryz.func145 rfl rfl (enters_of Tryz.func145 (by kernel_rfl) rfl) rfl (Nat.le_of_ble_eq_true rfl) rfl (.two .no (.two .no (.two .no (.two (.two .no (.two (.two .no (.at [.slot 15 .boo] .no)) .no)) .no)))) (fun d => by kernel_rfl)
theorem k_s_ExpandExpr : FOk Tryz.prog 115 F_s_ExpandExpr := fok (V := ⟨tt, [(143, F_s_IsValidExpr), (144, (F_s_l10Size FUELR)), (145, (F_s_l10Expand FUELR))], [], 24, []⟩) tt_ok ⟨k_s_IsValidExpr, (k_s_l10Size FUELR), (k_s_l10Expand FUELR), trivial⟩ mixed Tryz.func115 rfl rfl (enters_of Tryz.func115 (by kernel_rfl) rfl) rfl (Nat.le_of_ble_eq_true rfl) rfl .no (fun d => by kernel_rfl)
theorem k_s_l10Link : FOk Tryz.prog 147 F_s_l10Link := fok (V := ⟨tt, [], [], 36, []⟩) tt_ok trivial mixed Tryz.func147 rfl rfl (enters_of Tryz.func147 (by kernel_rfl) rfl) rfl (Nat.le_of_ble_eq_true rfl) rfl (.two .no (.loop [.slot 6 (.num .i64), .par 3 [3] 3 y3] (.two .no (.two (.at [.par 3 [3] 3 y3] .no) .no)))) (fun d => by kernel_rfl)
end Go.Proofs.YtimjccbdngajoaaGreat.R
