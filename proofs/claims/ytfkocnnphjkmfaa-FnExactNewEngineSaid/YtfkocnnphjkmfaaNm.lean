/- Printed by rclaim.py: what the functions compute, as data. -/
import Derived.Test.YtfkocnnphjkmfaaSub
set_option linter.unusedVariables false
set_option maxRecDepth 1000000
namespace Go.Proofs.Ytfkocnnphjkmfaa.D
open Go.RowKit
def m_w_szIntS (p0a : List Int) (p1left : Int) : Option Int :=
  if decide (IntKind.i64.wrap (p1left - (p0a.length : Int)) < 0) then (some (-1)) else (some (IntKind.i64.wrap (p1left - (p0a.length : Int))))
def m_w_szEdgeS (p0a : List (Int × Int × Int × Int)) (p1left : Int) : Option Int :=
  if decide (IntKind.i64.wrap (p1left - (p0a.length : Int)) < 0) then (some (-1)) else (some (IntKind.i64.wrap (p1left - (p0a.length : Int))))
def m_w_szGraph (p0a : (List Int) × (List (Int × Int × Int × Int))) (p1left : Int) : Option Int :=
  (m_w_szIntS p0a.1 p1left).bind fun r1 => if decide (r1 < 0) then (some (-1)) else ((m_w_szEdgeS p0a.2 r1).bind fun r2 => if decide (r2 < 0) then (some (-1)) else (some r2))
def m_s_l3Copy (p0g : (List Int) × (List (Int × Int × Int × Int))) : Option ((List Int) × (List (Int × Int × Int × Int))) :=
  (appI 8 ([] : List Int) p0g.1).bind fun z1 => (appI 32 ([] : List (Int × Int × Int × Int)) p0g.2).bind fun z2 => some (z1, z2)
def m_s_l1In (p0x : Int) (p1low : Int) (p2high : Int) : Option Bool :=
  if decide (p0x ≥ p1low) then (some (decide (p0x ≤ p2high))) else (some false)
def m_s_l3Edge (p0g : (List Int) × (List (Int × Int × Int × Int))) (p1e : Int × Int × Int × Int) : Option Bool :=
  (m_s_l1In p1e.1 1 99).bind fun r1 => if r1 then ((m_s_l1In p1e.2.1 0 (IntKind.i64.wrap ((p0g.1.length : Int) - 1))).bind fun r2 => if r2 then ((m_s_l1In p1e.2.2.1 0 (IntKind.i64.wrap ((p0g.1.length : Int) - 1))).bind fun r3 => if r3 then ((m_s_l1In p1e.2.2.2 0 2).bind fun r4 => some r4) else (some false)) else (some false)) else (some false)
def m_s_IsValidGraph_l0 (p0g : (List Int) × (List (Int × Int × Int × Int))) (s3 : Int) : Option (Out Bool Int) :=
  if decide (s3 < (p0g.1.length : Int)) then ((getI p0g.1 s3).bind fun x3 => (m_s_l1In x3 0 2).bind fun r3 => if r3 then (some (.nxt (IntKind.i64.wrap (s3 + 1)))) else (some (.ret false))) else (some (.brk s3))
def m_s_IsValidGraph_l1 (p0g : (List Int) × (List (Int × Int × Int × Int))) (s7 : Int) : Option (Out Bool Int) :=
  if decide (s7 < (p0g.2.length : Int)) then ((getI p0g.2 s7).bind fun x10 => (m_s_l3Edge (p0g.1, p0g.2) (x10.1, x10.2.1, x10.2.2.1, x10.2.2.2)).bind fun r6 => if r6 then (if decide (s7 > 0) then ((getI p0g.2 (IntKind.i64.wrap (s7 - 1))).bind fun x11 => (getI p0g.2 s7).bind fun x12 => if decide (x11.1 ≥ x12.1) then (some (.ret false)) else (some (.nxt (IntKind.i64.wrap (s7 + 1))))) else (some (.nxt (IntKind.i64.wrap (s7 + 1))))) else (some (.ret false))) else (some (.brk s7))
def m_s_IsValidGraph (p0g : (List Int) × (List (Int × Int × Int × Int))) : Option Bool :=
  bindL (loopM (m_s_IsValidGraph_l0 p0g) FUEL 0) (fun r => some r) (fun s4 => bindL (loopM (m_s_IsValidGraph_l1 p0g) FUEL 0) (fun r => some r) (fun s8 => (m_s_l1In (p0g.1.length : Int) 1 5).bind fun r7 => if r7 then (some (decide ((p0g.2.length : Int) ≤ 12))) else (some false)))
def m_s_l2Cmp_l0 (p0a : List Int) (p1b : List Int) (s3 : Int) : Option (Out Int Int) :=
  if decide (s3 < (p0a.length : Int)) then (if decide (s3 < (p1b.length : Int)) then ((getI p0a s3).bind fun x9 => (getI p1b s3).bind fun x10 => if decide (x9 < x10) then (some (.ret (-1))) else ((getI p0a s3).bind fun x11 => (getI p1b s3).bind fun x12 => if decide (x11 > x12) then (some (.ret 1)) else (some (.nxt (IntKind.i64.wrap (s3 + 1)))))) else (some (.brk s3))) else (some (.brk s3))
def m_s_l2Cmp (p0a : List Int) (p1b : List Int) : Option Int :=
  bindL (loopM (m_s_l2Cmp_l0 p0a p1b) FUEL 0) (fun r => some r) (fun s4 => if decide ((p0a.length : Int) < (p1b.length : Int)) then (some (-1)) else (if decide ((p0a.length : Int) > (p1b.length : Int)) then (some 1) else (some 0)))
def m_s_IsValidHistory_l0 (p0h : Int × (List ((List Int) × (List (Int × Int × Int × Int))))) (s3 : Int) : Option (Out Bool Int) :=
  if decide (s3 < (p0h.2.length : Int)) then ((getI p0h.2 s3).bind fun x7 => (m_s_IsValidGraph (x7.1, x7.2)).bind fun r15 => if r15 then ((getI p0h.2 s3).bind fun x8 => (getI p0h.2 0).bind fun x9 => (m_s_l2Cmp x8.1 x9.1).bind fun r18 => if r18 != 0 then (some (.ret false)) else (some (.nxt (IntKind.i64.wrap (s3 + 1))))) else (some (.ret false))) else (some (.brk s3))
def m_s_IsValidHistory (p0h : Int × (List ((List Int) × (List (Int × Int × Int × Int))))) : Option Bool :=
  bindL (loopM (m_s_IsValidHistory_l0 p0h) FUEL 0) (fun r => some r) (fun s4 => (m_s_l1In (p0h.2.length : Int) 1 8).bind fun r19 => if r19 then ((m_s_l1In p0h.1 1 (IntKind.i64.wrap ((IntKind.i64.wrap (999 - (p0h.2.length : Int))) + 1))).bind fun r20 => some r20) else (some false))
def m_s_NewHistory (p0g : (List Int) × (List (Int × Int × Int × Int))) (p1version : Int) : Option ((Int × (List ((List Int) × (List (Int × Int × Int × Int))))) × Bool) :=
  (m_s_l3Copy (p0g.1, p0g.2)).bind fun r1 => (m_s_IsValidHistory (p1version, [(r1.1, r1.2)])).bind fun r2 => if r2 then (some ((p1version, [(r1.1, r1.2)]), true)) else (some ((0, []), false))
def m_s_NewEngine (p0g : (List Int) × (List (Int × Int × Int × Int))) : Option (((Int × (List ((List Int) × (List (Int × Int × Int × Int))))) × ((List (Int × (List Bool) × (List (List Int)))) × (List (Int × ((List (Int × Int × Int × Int))) × Int))) × (List (Int × Int × Int)) × ByteArray) × Bool) :=
  (m_s_NewHistory (p0g.1, p0g.2) 1).bind fun r1 => if r1.2 then (some (((r1.1.1, r1.1.2), ([], []), [], ⟨#[]⟩), true)) else (some (((0, []), ([], []), [], ⟨#[]⟩), false))
def m_w_toIntS_l0 (p0a : List Int) (s3 : (List Int) × Int) : Option (Out (List Int) ((List Int) × Int)) :=
  if decide (s3.2 < (p0a.length : Int)) then ((getI p0a s3.2).bind fun x6 => (getI s3.1 s3.2).bind fun x7 => some (.nxt (s3.1.set s3.2.toNat x6, IntKind.i64.wrap (s3.2 + 1)))) else (some (.brk (s3.1, s3.2)))
def m_w_toIntS (p0a : List Int) : Option (List Int) :=
  (mkI 8 (p0a.length : Int) (0 : Int)).bind fun x1 => bindL (loopM (m_w_toIntS_l0 p0a) FUEL (x1, 0)) (fun r => some r) (fun s4 => some s4.1)
def m_w_toEdge (p0a : Int × Int × Int × Int) : Option (Int × Int × Int × Int) :=
  some (p0a.1, p0a.2.1, p0a.2.2.1, p0a.2.2.2)
def m_w_toEdgeS_l0 (p0a : List (Int × Int × Int × Int)) (s3 : (List (Int × Int × Int × Int)) × Int) : Option (Out (List (Int × Int × Int × Int)) ((List (Int × Int × Int × Int)) × Int)) :=
  if decide (s3.2 < (p0a.length : Int)) then ((getI p0a s3.2).bind fun x6 => (m_w_toEdge (x6.1, x6.2.1, x6.2.2.1, x6.2.2.2)).bind fun r3 => (getI s3.1 s3.2).bind fun x7 => some (.nxt (s3.1.set s3.2.toNat (r3.1, r3.2.1, r3.2.2.1, r3.2.2.2), IntKind.i64.wrap (s3.2 + 1)))) else (some (.brk (s3.1, s3.2)))
def m_w_toEdgeS (p0a : List (Int × Int × Int × Int)) : Option (List (Int × Int × Int × Int)) :=
  (mkI 32 (p0a.length : Int) ((0, 0, 0, 0) : Int × Int × Int × Int)).bind fun x1 => bindL (loopM (m_w_toEdgeS_l0 p0a) FUEL (x1, 0)) (fun r => some r) (fun s4 => some s4.1)
def m_w_toGraph (p0a : (List Int) × (List (Int × Int × Int × Int))) : Option ((List Int) × (List (Int × Int × Int × Int))) :=
  (m_w_toIntS p0a.1).bind fun r1 => (m_w_toEdgeS p0a.2).bind fun r2 => some (r1, r2)
def m_i_copyInts (p0l : List Int) : Option (List Int) :=
  (appI 8 ([] : List Int) p0l).bind fun z1 => some z1
def m_i_copyGraph (p0g : (List Int) × (List (Int × Int × Int × Int))) : Option ((List Int) × (List (Int × Int × Int × Int))) :=
  (m_i_copyInts p0g.1).bind fun r1 => (appI 32 ([] : List (Int × Int × Int × Int)) p0g.2).bind fun z1 => some (r1, z1)
def m_i_within (p0n : Int) (p1a : Int) (p2b : Int) : Option Bool :=
  if decide (p0n ≥ p1a) then (some (decide (p0n ≤ p2b))) else (some false)
def m_i_edgeOk (p0e : Int × Int × Int × Int) (p1nodes : Int) : Option Bool :=
  (m_i_within p0e.1 1 99).bind fun r1 => if r1 then ((m_i_within p0e.2.1 0 (IntKind.i64.wrap (p1nodes - 1))).bind fun r2 => if r2 then ((m_i_within p0e.2.2.1 0 (IntKind.i64.wrap (p1nodes - 1))).bind fun r3 => if r3 then ((m_i_within p0e.2.2.2 0 2).bind fun r4 => some r4) else (some false)) else (some false)) else (some false)
def m_i_IsValidGraph_l0 (p0g : (List Int) × (List (Int × Int × Int × Int))) (s3 : Int) : Option (Out Bool Int) :=
  if decide (s3 < (p0g.1.length : Int)) then ((getI p0g.1 s3).bind fun x3 => (m_i_within x3 0 2).bind fun r3 => if r3 then (some (.nxt (IntKind.i64.wrap (s3 + 1)))) else (some (.ret false))) else (some (.brk s3))
def m_i_IsValidGraph_l1 (p0g : (List Int) × (List (Int × Int × Int × Int))) (s7 : Int) : Option (Out Bool Int) :=
  if decide (s7 < (p0g.2.length : Int)) then ((getI p0g.2 s7).bind fun x8 => (m_i_edgeOk (x8.1, x8.2.1, x8.2.2.1, x8.2.2.2) (p0g.1.length : Int)).bind fun r6 => if r6 then (if decide (s7 > 0) then ((getI p0g.2 (IntKind.i64.wrap (s7 - 1))).bind fun x9 => if decide (x9.1 ≥ x8.1) then (some (.ret false)) else (some (.nxt (IntKind.i64.wrap (s7 + 1))))) else (some (.nxt (IntKind.i64.wrap (s7 + 1))))) else (some (.ret false))) else (some (.brk s7))
def m_i_IsValidGraph (p0g : (List Int) × (List (Int × Int × Int × Int))) : Option Bool :=
  bindL (loopM (m_i_IsValidGraph_l0 p0g) FUEL 0) (fun r => some r) (fun s4 => bindL (loopM (m_i_IsValidGraph_l1 p0g) FUEL 0) (fun r => some r) (fun s8 => (m_i_within (p0g.1.length : Int) 1 5).bind fun r7 => if r7 then (some (decide ((p0g.2.length : Int) ≤ 12))) else (some false)))
def m_g_slices_Equal_S_int_int_l0 (p0s1 : List Int) (p1s2 : List Int) (s3 : Int) : Option (Out Bool Int) :=
  if decide (s3 < (p0s1.length : Int)) then ((getI p0s1 s3).bind fun x5 => (getI p1s2 s3).bind fun x6 => if x5 != x6 then (some (.ret false)) else (some (.nxt (IntKind.i64.wrap (s3 + 1))))) else (some (.brk s3))
def m_g_slices_Equal_S_int_int (p0s1 : List Int) (p1s2 : List Int) : Option Bool :=
  if (p0s1.length : Int) != (p1s2.length : Int) then (some false) else (bindL (loopM (m_g_slices_Equal_S_int_int_l0 p0s1 p1s2) FUEL 0) (fun r => some r) (fun s4 => some true))
def m_i_IsValidHistory_l0 (p0h : Int × (List ((List Int) × (List (Int × Int × Int × Int))))) (s3 : Int) : Option (Out Bool Int) :=
  if decide (s3 < (p0h.2.length : Int)) then ((getI p0h.2 s3).bind fun x5 => (m_i_IsValidGraph (x5.1, x5.2)).bind fun r15 => if r15 then ((getI p0h.2 0).bind fun x6 => (m_g_slices_Equal_S_int_int x5.1 x6.1).bind fun r17 => if r17 then (some (.nxt (IntKind.i64.wrap (s3 + 1)))) else (some (.ret false))) else (some (.ret false))) else (some (.brk s3))
def m_i_IsValidHistory (p0h : Int × (List ((List Int) × (List (Int × Int × Int × Int))))) : Option Bool :=
  (m_i_within (p0h.2.length : Int) 1 8).bind fun r1 => if r1 then ((m_i_within p0h.1 1 (IntKind.i64.wrap ((IntKind.i64.wrap (999 - (p0h.2.length : Int))) + 1))).bind fun r2 => if r2 then (bindL (loopM (m_i_IsValidHistory_l0 p0h) FUEL 0) (fun r => some r) (fun s4 => some true)) else (some false)) else (some false)
def m_i_NewHistory (p0g : (List Int) × (List (Int × Int × Int × Int))) (p1version : Int) : Option ((Int × (List ((List Int) × (List (Int × Int × Int × Int))))) × Bool) :=
  (m_i_copyGraph (p0g.1, p0g.2)).bind fun r1 => (m_i_IsValidHistory (p1version, [(r1.1, r1.2)])).bind fun r2 => if r2 then (some ((p1version, [(r1.1, r1.2)]), true)) else (some ((0, []), false))
def m_i_NewEngine (p0g : (List Int) × (List (Int × Int × Int × Int))) : Option (((Int × (List ((List Int) × (List (Int × Int × Int × Int))))) × ((List (Int × (List Bool) × (List (List Int)))) × (List (Int × ((List (Int × Int × Int × Int))) × Int))) × (List (Int × Int × Int)) × ByteArray) × Bool) :=
  (m_i_NewHistory (p0g.1, p0g.2) 1).bind fun r1 => some (((r1.1.1, r1.1.2), ([], []), [], ⟨#[]⟩), r1.2)
def m_w_eqIntS_l0 (p0a : List Int) (p1b : List Int) (s3 : Int) : Option (Out Bool Int) :=
  if decide (s3 < (p0a.length : Int)) then ((getI p0a s3).bind fun x5 => (getI p1b s3).bind fun x6 => if x5 != x6 then (some (.ret false)) else (some (.nxt (IntKind.i64.wrap (s3 + 1))))) else (some (.brk s3))
def m_w_eqIntS (p0a : List Int) (p1b : List Int) : Option Bool :=
  if (p0a.length : Int) != (p1b.length : Int) then (some false) else (bindL (loopM (m_w_eqIntS_l0 p0a p1b) FUEL 0) (fun r => some r) (fun s4 => some true))
def m_w_eqEdge (p0a : Int × Int × Int × Int) (p1b : Int × Int × Int × Int) : Option Bool :=
  if p0a.1 != p1b.1 then (some false) else (if p0a.2.1 != p1b.2.1 then (some false) else (if p0a.2.2.1 != p1b.2.2.1 then (some false) else (if p0a.2.2.2 != p1b.2.2.2 then (some false) else (some true))))
def m_w_eqEdgeS_l0 (p0a : List (Int × Int × Int × Int)) (p1b : List (Int × Int × Int × Int)) (s3 : Int) : Option (Out Bool Int) :=
  if decide (s3 < (p0a.length : Int)) then ((getI p0a s3).bind fun x5 => (getI p1b s3).bind fun x6 => (m_w_eqEdge (x5.1, x5.2.1, x5.2.2.1, x5.2.2.2) (x6.1, x6.2.1, x6.2.2.1, x6.2.2.2)).bind fun r3 => if r3 then (some (.nxt (IntKind.i64.wrap (s3 + 1)))) else (some (.ret false))) else (some (.brk s3))
def m_w_eqEdgeS (p0a : List (Int × Int × Int × Int)) (p1b : List (Int × Int × Int × Int)) : Option Bool :=
  if (p0a.length : Int) != (p1b.length : Int) then (some false) else (bindL (loopM (m_w_eqEdgeS_l0 p0a p1b) FUEL 0) (fun r => some r) (fun s4 => some true))
def m_w_eqGraph (p0a : (List Int) × (List (Int × Int × Int × Int))) (p1b : (List Int) × (List (Int × Int × Int × Int))) : Option Bool :=
  (m_w_eqIntS p0a.1 p1b.1).bind fun r1 => if r1 then ((m_w_eqEdgeS p0a.2 p1b.2).bind fun r2 => if r2 then (some true) else (some false)) else (some false)
def m_w_eqGraphS_l0 (p0a : List ((List Int) × (List (Int × Int × Int × Int)))) (p1b : List ((List Int) × (List (Int × Int × Int × Int)))) (s3 : Int) : Option (Out Bool Int) :=
  if decide (s3 < (p0a.length : Int)) then ((getI p0a s3).bind fun x5 => (getI p1b s3).bind fun x6 => (m_w_eqGraph (x5.1, x5.2) (x6.1, x6.2)).bind fun r15 => if r15 then (some (.nxt (IntKind.i64.wrap (s3 + 1)))) else (some (.ret false))) else (some (.brk s3))
def m_w_eqGraphS (p0a : List ((List Int) × (List (Int × Int × Int × Int)))) (p1b : List ((List Int) × (List (Int × Int × Int × Int)))) : Option Bool :=
  if (p0a.length : Int) != (p1b.length : Int) then (some false) else (bindL (loopM (m_w_eqGraphS_l0 p0a p1b) FUEL 0) (fun r => some r) (fun s4 => some true))
def m_w_eqHistory (p0a : Int × (List ((List Int) × (List (Int × Int × Int × Int))))) (p1b : Int × (List ((List Int) × (List (Int × Int × Int × Int))))) : Option Bool :=
  if p0a.1 != p1b.1 then (some false) else ((m_w_eqGraphS p0a.2 p1b.2).bind fun r1 => if r1 then (some true) else (some false))
def m_w_eqBoolS_l0 (p0a : List Bool) (p1b : List Bool) (s3 : Int) : Option (Out Bool Int) :=
  if decide (s3 < (p0a.length : Int)) then ((getI p0a s3).bind fun x5 => (getI p1b s3).bind fun x6 => if x5 != x6 then (some (.ret false)) else (some (.nxt (IntKind.i64.wrap (s3 + 1))))) else (some (.brk s3))
def m_w_eqBoolS (p0a : List Bool) (p1b : List Bool) : Option Bool :=
  if (p0a.length : Int) != (p1b.length : Int) then (some false) else (bindL (loopM (m_w_eqBoolS_l0 p0a p1b) FUEL 0) (fun r => some r) (fun s4 => some true))
def m_w_eqIntSS_l0 (p0a : List (List Int)) (p1b : List (List Int)) (s3 : Int) : Option (Out Bool Int) :=
  if decide (s3 < (p0a.length : Int)) then ((getI p0a s3).bind fun x5 => (getI p1b s3).bind fun x6 => (m_w_eqIntS x5 x6).bind fun r9 => if r9 then (some (.nxt (IntKind.i64.wrap (s3 + 1)))) else (some (.ret false))) else (some (.brk s3))
def m_w_eqIntSS (p0a : List (List Int)) (p1b : List (List Int)) : Option Bool :=
  if (p0a.length : Int) != (p1b.length : Int) then (some false) else (bindL (loopM (m_w_eqIntSS_l0 p0a p1b) FUEL 0) (fun r => some r) (fun s4 => some true))
def m_w_eqAutomaton (p0a : Int × (List Bool) × (List (List Int))) (p1b : Int × (List Bool) × (List (List Int))) : Option Bool :=
  if p0a.1 != p1b.1 then (some false) else ((m_w_eqBoolS p0a.2.1 p1b.2.1).bind fun r1 => if r1 then ((m_w_eqIntSS p0a.2.2 p1b.2.2).bind fun r2 => if r2 then (some true) else (some false)) else (some false))
def m_w_eqAutomatonS_l0 (p0a : List (Int × (List Bool) × (List (List Int)))) (p1b : List (Int × (List Bool) × (List (List Int)))) (s3 : Int) : Option (Out Bool Int) :=
  if decide (s3 < (p0a.length : Int)) then ((getI p0a s3).bind fun x5 => (getI p1b s3).bind fun x6 => (m_w_eqAutomaton (x5.1, x5.2.1, x5.2.2) (x6.1, x6.2.1, x6.2.2)).bind fun r15 => if r15 then (some (.nxt (IntKind.i64.wrap (s3 + 1)))) else (some (.ret false))) else (some (.brk s3))
def m_w_eqAutomatonS (p0a : List (Int × (List Bool) × (List (List Int)))) (p1b : List (Int × (List Bool) × (List (List Int)))) : Option Bool :=
  if (p0a.length : Int) != (p1b.length : Int) then (some false) else (bindL (loopM (m_w_eqAutomatonS_l0 p0a p1b) FUEL 0) (fun r => some r) (fun s4 => some true))
def m_w_eqToken (p0a : Int × Int × Int × Int) (p1b : Int × Int × Int × Int) : Option Bool :=
  if p0a.1 != p1b.1 then (some false) else (if p0a.2.1 != p1b.2.1 then (some false) else (if p0a.2.2.1 != p1b.2.2.1 then (some false) else (if p0a.2.2.2 != p1b.2.2.2 then (some false) else (some true))))
def m_w_eqTokenS_l0 (p0a : List (Int × Int × Int × Int)) (p1b : List (Int × Int × Int × Int)) (s3 : Int) : Option (Out Bool Int) :=
  if decide (s3 < (p0a.length : Int)) then ((getI p0a s3).bind fun x5 => (getI p1b s3).bind fun x6 => (m_w_eqToken (x5.1, x5.2.1, x5.2.2.1, x5.2.2.2) (x6.1, x6.2.1, x6.2.2.1, x6.2.2.2)).bind fun r3 => if r3 then (some (.nxt (IntKind.i64.wrap (s3 + 1)))) else (some (.ret false))) else (some (.brk s3))
def m_w_eqTokenS (p0a : List (Int × Int × Int × Int)) (p1b : List (Int × Int × Int × Int)) : Option Bool :=
  if (p0a.length : Int) != (p1b.length : Int) then (some false) else (bindL (loopM (m_w_eqTokenS_l0 p0a p1b) FUEL 0) (fun r => some r) (fun s4 => some true))
def m_w_eqExpr (p0a : (List (Int × Int × Int × Int))) (p1b : (List (Int × Int × Int × Int))) : Option Bool :=
  (m_w_eqTokenS p0a p1b).bind fun r1 => if r1 then (some true) else (some false)
def m_w_eqRegistered (p0a : Int × ((List (Int × Int × Int × Int))) × Int) (p1b : Int × ((List (Int × Int × Int × Int))) × Int) : Option Bool :=
  if p0a.1 != p1b.1 then (some false) else ((m_w_eqExpr p0a.2.1 p1b.2.1).bind fun r1 => if r1 then (if p0a.2.2 != p1b.2.2 then (some false) else (some true)) else (some false))
def m_w_eqRegisteredS_l0 (p0a : List (Int × ((List (Int × Int × Int × Int))) × Int)) (p1b : List (Int × ((List (Int × Int × Int × Int))) × Int)) (s3 : Int) : Option (Out Bool Int) :=
  if decide (s3 < (p0a.length : Int)) then ((getI p0a s3).bind fun x5 => (getI p1b s3).bind fun x6 => (m_w_eqRegistered (x5.1, x5.2.1, x5.2.2) (x6.1, x6.2.1, x6.2.2)).bind fun r9 => if r9 then (some (.nxt (IntKind.i64.wrap (s3 + 1)))) else (some (.ret false))) else (some (.brk s3))
def m_w_eqRegisteredS (p0a : List (Int × ((List (Int × Int × Int × Int))) × Int)) (p1b : List (Int × ((List (Int × Int × Int × Int))) × Int)) : Option Bool :=
  if (p0a.length : Int) != (p1b.length : Int) then (some false) else (bindL (loopM (m_w_eqRegisteredS_l0 p0a p1b) FUEL 0) (fun r => some r) (fun s4 => some true))
def m_w_eqRegistry (p0a : (List (Int × (List Bool) × (List (List Int)))) × (List (Int × ((List (Int × Int × Int × Int))) × Int))) (p1b : (List (Int × (List Bool) × (List (List Int)))) × (List (Int × ((List (Int × Int × Int × Int))) × Int))) : Option Bool :=
  (m_w_eqAutomatonS p0a.1 p1b.1).bind fun r1 => if r1 then ((m_w_eqRegisteredS p0a.2 p1b.2).bind fun r2 => if r2 then (some true) else (some false)) else (some false)
def m_w_eqSubscriber (p0a : Int × Int × Int) (p1b : Int × Int × Int) : Option Bool :=
  if p0a.1 != p1b.1 then (some false) else (if p0a.2.1 != p1b.2.1 then (some false) else (if p0a.2.2 != p1b.2.2 then (some false) else (some true)))
def m_w_eqSubscriberS_l0 (p0a : List (Int × Int × Int)) (p1b : List (Int × Int × Int)) (s3 : Int) : Option (Out Bool Int) :=
  if decide (s3 < (p0a.length : Int)) then ((getI p0a s3).bind fun x5 => (getI p1b s3).bind fun x6 => (m_w_eqSubscriber (x5.1, x5.2.1, x5.2.2) (x6.1, x6.2.1, x6.2.2)).bind fun r3 => if r3 then (some (.nxt (IntKind.i64.wrap (s3 + 1)))) else (some (.ret false))) else (some (.brk s3))
def m_w_eqSubscriberS (p0a : List (Int × Int × Int)) (p1b : List (Int × Int × Int)) : Option Bool :=
  if (p0a.length : Int) != (p1b.length : Int) then (some false) else (bindL (loopM (m_w_eqSubscriberS_l0 p0a p1b) FUEL 0) (fun r => some r) (fun s4 => some true))
def m_w_eqEngine (p0a : (Int × (List ((List Int) × (List (Int × Int × Int × Int))))) × ((List (Int × (List Bool) × (List (List Int)))) × (List (Int × ((List (Int × Int × Int × Int))) × Int))) × (List (Int × Int × Int)) × ByteArray) (p1b : (Int × (List ((List Int) × (List (Int × Int × Int × Int))))) × ((List (Int × (List Bool) × (List (List Int)))) × (List (Int × ((List (Int × Int × Int × Int))) × Int))) × (List (Int × Int × Int)) × ByteArray) : Option Bool :=
  (m_w_eqHistory (p0a.1.1, p0a.1.2) (p1b.1.1, p1b.1.2)).bind fun r1 => if r1 then ((m_w_eqRegistry (p0a.2.1.1, p0a.2.1.2) (p1b.2.1.1, p1b.2.1.2)).bind fun r2 => if r2 then ((m_w_eqSubscriberS p0a.2.2.1 p1b.2.2.1).bind fun r3 => if r3 then (if p0a.2.2.2 != p1b.2.2.2 then (some false) else (some true)) else (some false)) else (some false)) else (some false)
def m_w_markIntS_l0 (s3 : (List Int) × Int × Int) : Option (Out (Int × (List Int)) ((List Int) × Int × Int)) :=
  if decide (s3.2.2 < (s3.1.length : Int)) then ((getI s3.1 s3.2.2).bind fun x3 => some (.nxt (s3.1.set s3.2.2.toNat s3.2.1, IntKind.i64.wrap (s3.2.1 + 1), IntKind.i64.wrap (s3.2.2 + 1)))) else (some (.brk (s3.1, s3.2.1, s3.2.2)))
def m_w_markIntS (p0a : List Int) (p1k : Int) : Option (Int × (List Int)) :=
  bindL (loopM (m_w_markIntS_l0) FUEL (p0a, p1k, 0)) (fun r => some r) (fun s4 => some (s4.2.1, s4.1))
def m_w_markEdgeS_l0 (s3 : (List (Int × Int × Int × Int)) × Int × Int) : Option (Out (Int × (List (Int × Int × Int × Int))) ((List (Int × Int × Int × Int)) × Int × Int)) :=
  if decide (s3.2.2 < (s3.1.length : Int)) then ((getI s3.1 s3.2.2).bind fun x9 => (getI (s3.1.set s3.2.2.toNat (s3.2.1, x9.2.1, x9.2.2.1, x9.2.2.2)) s3.2.2).bind fun x10 => (getI ((s3.1.set s3.2.2.toNat (s3.2.1, x9.2.1, x9.2.2.1, x9.2.2.2)).set s3.2.2.toNat (x10.1, IntKind.i64.wrap (s3.2.1 + 1), x10.2.2.1, x10.2.2.2)) s3.2.2).bind fun x11 => (getI (((s3.1.set s3.2.2.toNat (s3.2.1, x9.2.1, x9.2.2.1, x9.2.2.2)).set s3.2.2.toNat (x10.1, IntKind.i64.wrap (s3.2.1 + 1), x10.2.2.1, x10.2.2.2)).set s3.2.2.toNat (x11.1, x11.2.1, IntKind.i64.wrap ((IntKind.i64.wrap (s3.2.1 + 1)) + 1), x11.2.2.2)) s3.2.2).bind fun x12 => some (.nxt ((((s3.1.set s3.2.2.toNat (s3.2.1, x9.2.1, x9.2.2.1, x9.2.2.2)).set s3.2.2.toNat (x10.1, IntKind.i64.wrap (s3.2.1 + 1), x10.2.2.1, x10.2.2.2)).set s3.2.2.toNat (x11.1, x11.2.1, IntKind.i64.wrap ((IntKind.i64.wrap (s3.2.1 + 1)) + 1), x11.2.2.2)).set s3.2.2.toNat (x12.1, x12.2.1, x12.2.2.1, IntKind.i64.wrap ((IntKind.i64.wrap ((IntKind.i64.wrap (s3.2.1 + 1)) + 1)) + 1)), IntKind.i64.wrap ((IntKind.i64.wrap ((IntKind.i64.wrap ((IntKind.i64.wrap (s3.2.1 + 1)) + 1)) + 1)) + 1), IntKind.i64.wrap (s3.2.2 + 1)))) else (some (.brk (s3.1, s3.2.1, s3.2.2)))
def m_w_markEdgeS (p0a : List (Int × Int × Int × Int)) (p1k : Int) : Option (Int × (List (Int × Int × Int × Int))) :=
  bindL (loopM (m_w_markEdgeS_l0) FUEL (p0a, p1k, 0)) (fun r => some r) (fun s4 => some (s4.2.1, s4.1))
def m_w_markGraph (p0a : (List Int) × (List (Int × Int × Int × Int))) (p1k : Int) : Option (Int × ((List Int) × (List (Int × Int × Int × Int)))) :=
  (m_w_markIntS p0a.1 p1k).bind fun r1 => (m_w_markEdgeS p0a.2 r1.1).bind fun r2 => some (r2.1, (r1.2, r2.2))
def m_w_markGraphS_l0 (s3 : (List ((List Int) × (List (Int × Int × Int × Int)))) × Int × Int) : Option (Out (Int × (List ((List Int) × (List (Int × Int × Int × Int))))) ((List ((List Int) × (List (Int × Int × Int × Int)))) × Int × Int)) :=
  if decide (s3.2.2 < (s3.1.length : Int)) then ((getI s3.1 s3.2.2).bind fun x5 => (m_w_markIntS x5.1 s3.2.1).bind fun r10 => (getI (s3.1.set s3.2.2.toNat (r10.2, x5.2)) s3.2.2).bind fun x6 => (m_w_markEdgeS x6.2 r10.1).bind fun r12 => some (.nxt ((s3.1.set s3.2.2.toNat (r10.2, x5.2)).set s3.2.2.toNat (x6.1, r12.2), r12.1, IntKind.i64.wrap (s3.2.2 + 1)))) else (some (.brk (s3.1, s3.2.1, s3.2.2)))
def m_w_markGraphS (p0a : List ((List Int) × (List (Int × Int × Int × Int)))) (p1k : Int) : Option (Int × (List ((List Int) × (List (Int × Int × Int × Int))))) :=
  bindL (loopM (m_w_markGraphS_l0) FUEL (p0a, p1k, 0)) (fun r => some r) (fun s4 => some (s4.2.1, s4.1))
def m_w_markHistory (p0a : Int × (List ((List Int) × (List (Int × Int × Int × Int))))) (p1k : Int) : Option (Int × (Int × (List ((List Int) × (List (Int × Int × Int × Int)))))) :=
  (m_w_markGraphS p0a.2 p1k).bind fun r1 => some (r1.1, (p0a.1, r1.2))
def m_w_markBoolS_l0 (s3 : (List Bool) × Int × Int) : Option (Out (Int × (List Bool)) ((List Bool) × Int × Int)) :=
  if decide (s3.2.2 < (s3.1.length : Int)) then ((getI s3.1 s3.2.2).bind fun x3 => some (.nxt (s3.1.set s3.2.2.toNat ((Int.tmod s3.2.1 3) == 0), IntKind.i64.wrap (s3.2.1 + 1), IntKind.i64.wrap (s3.2.2 + 1)))) else (some (.brk (s3.1, s3.2.1, s3.2.2)))
def m_w_markBoolS (p0a : List Bool) (p1k : Int) : Option (Int × (List Bool)) :=
  bindL (loopM (m_w_markBoolS_l0) FUEL (p0a, p1k, 0)) (fun r => some r) (fun s4 => some (s4.2.1, s4.1))
def m_w_markIntSS_l0 (s3 : (List (List Int)) × Int × Int) : Option (Out (Int × (List (List Int))) ((List (List Int)) × Int × Int)) :=
  if decide (s3.2.2 < (s3.1.length : Int)) then ((getI s3.1 s3.2.2).bind fun x3 => (m_w_markIntS x3 s3.2.1).bind fun r6 => some (.nxt (s3.1.set s3.2.2.toNat r6.2, r6.1, IntKind.i64.wrap (s3.2.2 + 1)))) else (some (.brk (s3.1, s3.2.1, s3.2.2)))
def m_w_markIntSS (p0a : List (List Int)) (p1k : Int) : Option (Int × (List (List Int))) :=
  bindL (loopM (m_w_markIntSS_l0) FUEL (p0a, p1k, 0)) (fun r => some r) (fun s4 => some (s4.2.1, s4.1))
def m_w_markAutomatonS_l0 (s3 : (List (Int × (List Bool) × (List (List Int)))) × Int × Int) : Option (Out (Int × (List (Int × (List Bool) × (List (List Int))))) ((List (Int × (List Bool) × (List (List Int)))) × Int × Int)) :=
  if decide (s3.2.2 < (s3.1.length : Int)) then ((getI s3.1 s3.2.2).bind fun x7 => (getI (s3.1.set s3.2.2.toNat (s3.2.1, x7.2.1, x7.2.2)) s3.2.2).bind fun x8 => (m_w_markBoolS x8.2.1 (IntKind.i64.wrap (s3.2.1 + 1))).bind fun r10 => (getI ((s3.1.set s3.2.2.toNat (s3.2.1, x7.2.1, x7.2.2)).set s3.2.2.toNat (x8.1, r10.2, x8.2.2)) s3.2.2).bind fun x9 => (m_w_markIntSS x9.2.2 r10.1).bind fun r12 => some (.nxt (((s3.1.set s3.2.2.toNat (s3.2.1, x7.2.1, x7.2.2)).set s3.2.2.toNat (x8.1, r10.2, x8.2.2)).set s3.2.2.toNat (x9.1, x9.2.1, r12.2), r12.1, IntKind.i64.wrap (s3.2.2 + 1)))) else (some (.brk (s3.1, s3.2.1, s3.2.2)))
def m_w_markAutomatonS (p0a : List (Int × (List Bool) × (List (List Int)))) (p1k : Int) : Option (Int × (List (Int × (List Bool) × (List (List Int))))) :=
  bindL (loopM (m_w_markAutomatonS_l0) FUEL (p0a, p1k, 0)) (fun r => some r) (fun s4 => some (s4.2.1, s4.1))
def m_w_markTokenS_l0 (s3 : (List (Int × Int × Int × Int)) × Int × Int) : Option (Out (Int × (List (Int × Int × Int × Int))) ((List (Int × Int × Int × Int)) × Int × Int)) :=
  if decide (s3.2.2 < (s3.1.length : Int)) then ((getI s3.1 s3.2.2).bind fun x9 => (getI (s3.1.set s3.2.2.toNat (s3.2.1, x9.2.1, x9.2.2.1, x9.2.2.2)) s3.2.2).bind fun x10 => (getI ((s3.1.set s3.2.2.toNat (s3.2.1, x9.2.1, x9.2.2.1, x9.2.2.2)).set s3.2.2.toNat (x10.1, IntKind.i64.wrap (s3.2.1 + 1), x10.2.2.1, x10.2.2.2)) s3.2.2).bind fun x11 => (getI (((s3.1.set s3.2.2.toNat (s3.2.1, x9.2.1, x9.2.2.1, x9.2.2.2)).set s3.2.2.toNat (x10.1, IntKind.i64.wrap (s3.2.1 + 1), x10.2.2.1, x10.2.2.2)).set s3.2.2.toNat (x11.1, x11.2.1, IntKind.i64.wrap ((IntKind.i64.wrap (s3.2.1 + 1)) + 1), x11.2.2.2)) s3.2.2).bind fun x12 => some (.nxt ((((s3.1.set s3.2.2.toNat (s3.2.1, x9.2.1, x9.2.2.1, x9.2.2.2)).set s3.2.2.toNat (x10.1, IntKind.i64.wrap (s3.2.1 + 1), x10.2.2.1, x10.2.2.2)).set s3.2.2.toNat (x11.1, x11.2.1, IntKind.i64.wrap ((IntKind.i64.wrap (s3.2.1 + 1)) + 1), x11.2.2.2)).set s3.2.2.toNat (x12.1, x12.2.1, x12.2.2.1, IntKind.i64.wrap ((IntKind.i64.wrap ((IntKind.i64.wrap (s3.2.1 + 1)) + 1)) + 1)), IntKind.i64.wrap ((IntKind.i64.wrap ((IntKind.i64.wrap ((IntKind.i64.wrap (s3.2.1 + 1)) + 1)) + 1)) + 1), IntKind.i64.wrap (s3.2.2 + 1)))) else (some (.brk (s3.1, s3.2.1, s3.2.2)))
def m_w_markTokenS (p0a : List (Int × Int × Int × Int)) (p1k : Int) : Option (Int × (List (Int × Int × Int × Int))) :=
  bindL (loopM (m_w_markTokenS_l0) FUEL (p0a, p1k, 0)) (fun r => some r) (fun s4 => some (s4.2.1, s4.1))
def m_w_markRegisteredS_l0 (s3 : (List (Int × ((List (Int × Int × Int × Int))) × Int)) × Int × Int) : Option (Out (Int × (List (Int × ((List (Int × Int × Int × Int))) × Int))) ((List (Int × ((List (Int × Int × Int × Int))) × Int)) × Int × Int)) :=
  if decide (s3.2.2 < (s3.1.length : Int)) then ((getI s3.1 s3.2.2).bind fun x7 => (getI (s3.1.set s3.2.2.toNat (s3.2.1, x7.2.1, x7.2.2)) s3.2.2).bind fun x8 => (m_w_markTokenS x8.2.1 (IntKind.i64.wrap (s3.2.1 + 1))).bind fun r6 => (getI ((s3.1.set s3.2.2.toNat (s3.2.1, x7.2.1, x7.2.2)).set s3.2.2.toNat (x8.1, (r6.2), x8.2.2)) s3.2.2).bind fun x9 => some (.nxt (((s3.1.set s3.2.2.toNat (s3.2.1, x7.2.1, x7.2.2)).set s3.2.2.toNat (x8.1, (r6.2), x8.2.2)).set s3.2.2.toNat (x9.1, x9.2.1, r6.1), IntKind.i64.wrap (r6.1 + 1), IntKind.i64.wrap (s3.2.2 + 1)))) else (some (.brk (s3.1, s3.2.1, s3.2.2)))
def m_w_markRegisteredS (p0a : List (Int × ((List (Int × Int × Int × Int))) × Int)) (p1k : Int) : Option (Int × (List (Int × ((List (Int × Int × Int × Int))) × Int))) :=
  bindL (loopM (m_w_markRegisteredS_l0) FUEL (p0a, p1k, 0)) (fun r => some r) (fun s4 => some (s4.2.1, s4.1))
def m_w_markRegistry (p0a : (List (Int × (List Bool) × (List (List Int)))) × (List (Int × ((List (Int × Int × Int × Int))) × Int))) (p1k : Int) : Option (Int × ((List (Int × (List Bool) × (List (List Int)))) × (List (Int × ((List (Int × Int × Int × Int))) × Int)))) :=
  (m_w_markAutomatonS p0a.1 p1k).bind fun r1 => (m_w_markRegisteredS p0a.2 r1.1).bind fun r2 => some (r2.1, (r1.2, r2.2))
def m_w_markSubscriberS_l0 (s3 : (List (Int × Int × Int)) × Int × Int) : Option (Out (Int × (List (Int × Int × Int))) ((List (Int × Int × Int)) × Int × Int)) :=
  if decide (s3.2.2 < (s3.1.length : Int)) then ((getI s3.1 s3.2.2).bind fun x7 => (getI (s3.1.set s3.2.2.toNat (s3.2.1, x7.2.1, x7.2.2)) s3.2.2).bind fun x8 => (getI ((s3.1.set s3.2.2.toNat (s3.2.1, x7.2.1, x7.2.2)).set s3.2.2.toNat (x8.1, IntKind.i64.wrap (s3.2.1 + 1), x8.2.2)) s3.2.2).bind fun x9 => some (.nxt (((s3.1.set s3.2.2.toNat (s3.2.1, x7.2.1, x7.2.2)).set s3.2.2.toNat (x8.1, IntKind.i64.wrap (s3.2.1 + 1), x8.2.2)).set s3.2.2.toNat (x9.1, x9.2.1, IntKind.i64.wrap ((IntKind.i64.wrap (s3.2.1 + 1)) + 1)), IntKind.i64.wrap ((IntKind.i64.wrap ((IntKind.i64.wrap (s3.2.1 + 1)) + 1)) + 1), IntKind.i64.wrap (s3.2.2 + 1)))) else (some (.brk (s3.1, s3.2.1, s3.2.2)))
def m_w_markSubscriberS (p0a : List (Int × Int × Int)) (p1k : Int) : Option (Int × (List (Int × Int × Int))) :=
  bindL (loopM (m_w_markSubscriberS_l0) FUEL (p0a, p1k, 0)) (fun r => some r) (fun s4 => some (s4.2.1, s4.1))
def m_w_markEngine (p0a : (Int × (List ((List Int) × (List (Int × Int × Int × Int))))) × ((List (Int × (List Bool) × (List (List Int)))) × (List (Int × ((List (Int × Int × Int × Int))) × Int))) × (List (Int × Int × Int)) × ByteArray) (p1k : Int) : Option (Int × ((Int × (List ((List Int) × (List (Int × Int × Int × Int))))) × ((List (Int × (List Bool) × (List (List Int)))) × (List (Int × ((List (Int × Int × Int × Int))) × Int))) × (List (Int × Int × Int)) × ByteArray)) :=
  (m_w_markHistory (p0a.1.1, p0a.1.2) p1k).bind fun r1 => (m_w_markRegistry (p0a.2.1.1, p0a.2.1.2) r1.1).bind fun r2 => (m_w_markSubscriberS p0a.2.2.1 r2.1).bind fun r3 => some (r3.1, ((p0a.1.1, r1.2.2), (r2.2.1, r2.2.2), r3.2, p0a.2.2.2))
def m_w_heldIntS_l0 (p0a : List Int) (s3 : Int × Int) : Option (Out Int (Int × Int)) :=
  if decide (s3.2 < (p0a.length : Int)) then ((getI p0a s3.2).bind fun x3 => if x3 != s3.1 then (some (.ret (-1))) else (some (.nxt (IntKind.i64.wrap (s3.1 + 1), IntKind.i64.wrap (s3.2 + 1))))) else (some (.brk (s3.1, s3.2)))
def m_w_heldIntS (p0a : List Int) (p1k : Int) : Option Int :=
  bindL (loopM (m_w_heldIntS_l0 p0a) FUEL (p1k, 0)) (fun r => some r) (fun s4 => some s4.1)
def m_w_heldEdgeS_l0 (p0a : List (Int × Int × Int × Int)) (s3 : Int × Int) : Option (Out Int (Int × Int)) :=
  if decide (s3.2 < (p0a.length : Int)) then ((getI p0a s3.2).bind fun x9 => if x9.1 != s3.1 then (some (.ret (-1))) else ((getI p0a s3.2).bind fun x10 => if x10.2.1 != (IntKind.i64.wrap (s3.1 + 1)) then (some (.ret (-1))) else ((getI p0a s3.2).bind fun x11 => if x11.2.2.1 != (IntKind.i64.wrap ((IntKind.i64.wrap (s3.1 + 1)) + 1)) then (some (.ret (-1))) else ((getI p0a s3.2).bind fun x12 => if x12.2.2.2 != (IntKind.i64.wrap ((IntKind.i64.wrap ((IntKind.i64.wrap (s3.1 + 1)) + 1)) + 1)) then (some (.ret (-1))) else (some (.nxt (IntKind.i64.wrap ((IntKind.i64.wrap ((IntKind.i64.wrap ((IntKind.i64.wrap (s3.1 + 1)) + 1)) + 1)) + 1), IntKind.i64.wrap (s3.2 + 1)))))))) else (some (.brk (s3.1, s3.2)))
def m_w_heldEdgeS (p0a : List (Int × Int × Int × Int)) (p1k : Int) : Option Int :=
  bindL (loopM (m_w_heldEdgeS_l0 p0a) FUEL (p1k, 0)) (fun r => some r) (fun s4 => some s4.1)
def m_w_heldGraphS_l0 (p0a : List ((List Int) × (List (Int × Int × Int × Int)))) (s3 : Int × Int) : Option (Out Int (Int × Int)) :=
  if decide (s3.2 < (p0a.length : Int)) then ((getI p0a s3.2).bind fun x5 => (m_w_heldIntS x5.1 s3.1).bind fun r10 => if decide (r10 < 0) then (some (.ret (-1))) else ((getI p0a s3.2).bind fun x6 => (m_w_heldEdgeS x6.2 r10).bind fun r12 => if decide (r12 < 0) then (some (.ret (-1))) else (some (.nxt (r12, IntKind.i64.wrap (s3.2 + 1)))))) else (some (.brk (s3.1, s3.2)))
def m_w_heldGraphS (p0a : List ((List Int) × (List (Int × Int × Int × Int)))) (p1k : Int) : Option Int :=
  bindL (loopM (m_w_heldGraphS_l0 p0a) FUEL (p1k, 0)) (fun r => some r) (fun s4 => some s4.1)
def m_w_heldHistory (p0a : Int × (List ((List Int) × (List (Int × Int × Int × Int))))) (p1k : Int) : Option Int :=
  (m_w_heldGraphS p0a.2 p1k).bind fun r1 => if decide (r1 < 0) then (some (-1)) else (some r1)
def m_w_heldBoolS_l0 (p0a : List Bool) (s3 : Int × Int) : Option (Out Int (Int × Int)) :=
  if decide (s3.2 < (p0a.length : Int)) then ((getI p0a s3.2).bind fun x3 => if x3 != ((Int.tmod s3.1 3) == 0) then (some (.ret (-1))) else (some (.nxt (IntKind.i64.wrap (s3.1 + 1), IntKind.i64.wrap (s3.2 + 1))))) else (some (.brk (s3.1, s3.2)))
def m_w_heldBoolS (p0a : List Bool) (p1k : Int) : Option Int :=
  bindL (loopM (m_w_heldBoolS_l0 p0a) FUEL (p1k, 0)) (fun r => some r) (fun s4 => some s4.1)
def m_w_heldIntSS_l0 (p0a : List (List Int)) (s3 : Int × Int) : Option (Out Int (Int × Int)) :=
  if decide (s3.2 < (p0a.length : Int)) then ((getI p0a s3.2).bind fun x3 => (m_w_heldIntS x3 s3.1).bind fun r6 => if decide (r6 < 0) then (some (.ret (-1))) else (some (.nxt (r6, IntKind.i64.wrap (s3.2 + 1))))) else (some (.brk (s3.1, s3.2)))
def m_w_heldIntSS (p0a : List (List Int)) (p1k : Int) : Option Int :=
  bindL (loopM (m_w_heldIntSS_l0 p0a) FUEL (p1k, 0)) (fun r => some r) (fun s4 => some s4.1)
def m_w_heldAutomatonS_l0 (p0a : List (Int × (List Bool) × (List (List Int)))) (s3 : Int × Int) : Option (Out Int (Int × Int)) :=
  if decide (s3.2 < (p0a.length : Int)) then ((getI p0a s3.2).bind fun x7 => if x7.1 != s3.1 then (some (.ret (-1))) else ((getI p0a s3.2).bind fun x8 => (m_w_heldBoolS x8.2.1 (IntKind.i64.wrap (s3.1 + 1))).bind fun r10 => if decide (r10 < 0) then (some (.ret (-1))) else ((getI p0a s3.2).bind fun x9 => (m_w_heldIntSS x9.2.2 r10).bind fun r12 => if decide (r12 < 0) then (some (.ret (-1))) else (some (.nxt (r12, IntKind.i64.wrap (s3.2 + 1))))))) else (some (.brk (s3.1, s3.2)))
def m_w_heldAutomatonS (p0a : List (Int × (List Bool) × (List (List Int)))) (p1k : Int) : Option Int :=
  bindL (loopM (m_w_heldAutomatonS_l0 p0a) FUEL (p1k, 0)) (fun r => some r) (fun s4 => some s4.1)
def m_w_heldTokenS_l0 (p0a : List (Int × Int × Int × Int)) (s3 : Int × Int) : Option (Out Int (Int × Int)) :=
  if decide (s3.2 < (p0a.length : Int)) then ((getI p0a s3.2).bind fun x9 => if x9.1 != s3.1 then (some (.ret (-1))) else ((getI p0a s3.2).bind fun x10 => if x10.2.1 != (IntKind.i64.wrap (s3.1 + 1)) then (some (.ret (-1))) else ((getI p0a s3.2).bind fun x11 => if x11.2.2.1 != (IntKind.i64.wrap ((IntKind.i64.wrap (s3.1 + 1)) + 1)) then (some (.ret (-1))) else ((getI p0a s3.2).bind fun x12 => if x12.2.2.2 != (IntKind.i64.wrap ((IntKind.i64.wrap ((IntKind.i64.wrap (s3.1 + 1)) + 1)) + 1)) then (some (.ret (-1))) else (some (.nxt (IntKind.i64.wrap ((IntKind.i64.wrap ((IntKind.i64.wrap ((IntKind.i64.wrap (s3.1 + 1)) + 1)) + 1)) + 1), IntKind.i64.wrap (s3.2 + 1)))))))) else (some (.brk (s3.1, s3.2)))
def m_w_heldTokenS (p0a : List (Int × Int × Int × Int)) (p1k : Int) : Option Int :=
  bindL (loopM (m_w_heldTokenS_l0 p0a) FUEL (p1k, 0)) (fun r => some r) (fun s4 => some s4.1)
def m_w_heldRegisteredS_l0 (p0a : List (Int × ((List (Int × Int × Int × Int))) × Int)) (s3 : Int × Int) : Option (Out Int (Int × Int)) :=
  if decide (s3.2 < (p0a.length : Int)) then ((getI p0a s3.2).bind fun x7 => if x7.1 != s3.1 then (some (.ret (-1))) else ((getI p0a s3.2).bind fun x8 => (m_w_heldTokenS x8.2.1 (IntKind.i64.wrap (s3.1 + 1))).bind fun r6 => if decide (r6 < 0) then (some (.ret (-1))) else ((getI p0a s3.2).bind fun x9 => if x9.2.2 != r6 then (some (.ret (-1))) else (some (.nxt (IntKind.i64.wrap (r6 + 1), IntKind.i64.wrap (s3.2 + 1))))))) else (some (.brk (s3.1, s3.2)))
def m_w_heldRegisteredS (p0a : List (Int × ((List (Int × Int × Int × Int))) × Int)) (p1k : Int) : Option Int :=
  bindL (loopM (m_w_heldRegisteredS_l0 p0a) FUEL (p1k, 0)) (fun r => some r) (fun s4 => some s4.1)
def m_w_heldRegistry (p0a : (List (Int × (List Bool) × (List (List Int)))) × (List (Int × ((List (Int × Int × Int × Int))) × Int))) (p1k : Int) : Option Int :=
  (m_w_heldAutomatonS p0a.1 p1k).bind fun r1 => if decide (r1 < 0) then (some (-1)) else ((m_w_heldRegisteredS p0a.2 r1).bind fun r2 => if decide (r2 < 0) then (some (-1)) else (some r2))
def m_w_heldSubscriberS_l0 (p0a : List (Int × Int × Int)) (s3 : Int × Int) : Option (Out Int (Int × Int)) :=
  if decide (s3.2 < (p0a.length : Int)) then ((getI p0a s3.2).bind fun x7 => if x7.1 != s3.1 then (some (.ret (-1))) else ((getI p0a s3.2).bind fun x8 => if x8.2.1 != (IntKind.i64.wrap (s3.1 + 1)) then (some (.ret (-1))) else ((getI p0a s3.2).bind fun x9 => if x9.2.2 != (IntKind.i64.wrap ((IntKind.i64.wrap (s3.1 + 1)) + 1)) then (some (.ret (-1))) else (some (.nxt (IntKind.i64.wrap ((IntKind.i64.wrap ((IntKind.i64.wrap (s3.1 + 1)) + 1)) + 1), IntKind.i64.wrap (s3.2 + 1))))))) else (some (.brk (s3.1, s3.2)))
def m_w_heldSubscriberS (p0a : List (Int × Int × Int)) (p1k : Int) : Option Int :=
  bindL (loopM (m_w_heldSubscriberS_l0 p0a) FUEL (p1k, 0)) (fun r => some r) (fun s4 => some s4.1)
def m_w_heldEngine (p0a : (Int × (List ((List Int) × (List (Int × Int × Int × Int))))) × ((List (Int × (List Bool) × (List (List Int)))) × (List (Int × ((List (Int × Int × Int × Int))) × Int))) × (List (Int × Int × Int)) × ByteArray) (p1k : Int) : Option Int :=
  (m_w_heldHistory (p0a.1.1, p0a.1.2) p1k).bind fun r1 => if decide (r1 < 0) then (some (-1)) else ((m_w_heldRegistry (p0a.2.1.1, p0a.2.1.2) r1).bind fun r2 => if decide (r2 < 0) then (some (-1)) else ((m_w_heldSubscriberS p0a.2.2.1 r2).bind fun r3 => if decide (r3 < 0) then (some (-1)) else (some r3)))
def m_w_FnExactNewEngine (p0 : (List Int) × (List (Int × Int × Int × Int))) : Option Bool :=
  (m_w_szGraph (p0.1, p0.2) 1048576).bind fun r1 => if decide (r1 < 0) then (some true) else ((m_w_toGraph (p0.1, p0.2)).bind fun r2 => (m_s_NewEngine (r2.1, r2.2)).bind fun r3 => (m_w_toGraph (p0.1, p0.2)).bind fun r4 => (m_i_NewEngine (r4.1, r4.2)).bind fun r5 => (m_w_eqEngine ((r5.1.1.1, r5.1.1.2), (r5.1.2.1.1, r5.1.2.1.2), r5.1.2.2.1, r5.1.2.2.2) ((r3.1.1.1, r3.1.1.2), (r3.1.2.1.1, r3.1.2.1.2), r3.1.2.2.1, r3.1.2.2.2)).bind fun r6 => if r6 then (if r5.2 != r3.2 then (some false) else ((m_w_toGraph (p0.1, p0.2)).bind fun r7 => (m_w_eqGraph (r4.1, r4.2) (r7.1, r7.2)).bind fun r8 => if r8 then ((m_w_markGraph (r4.1, r4.2) 1).bind fun r9 => if decide (r9.1 < 0) then (some false) else ((m_w_eqEngine ((r5.1.1.1, r5.1.1.2), (r5.1.2.1.1, r5.1.2.1.2), r5.1.2.2.1, r5.1.2.2.2) ((r3.1.1.1, r3.1.1.2), (r3.1.2.1.1, r3.1.2.1.2), r3.1.2.2.1, r3.1.2.2.2)).bind fun r10 => if r10 then (if r5.2 != r3.2 then (some false) else ((m_w_markEngine ((r5.1.1.1, r5.1.1.2), (r5.1.2.1.1, r5.1.2.1.2), r5.1.2.2.1, r5.1.2.2.2) 1).bind fun r11 => (m_w_heldEngine ((r5.1.1.1, r11.2.1.2), (r11.2.2.1.1, r11.2.2.1.2), r11.2.2.2.1, r5.1.2.2.2) 1).bind fun r12 => if decide (r12 < 0) then (some false) else (if r12 != r11.1 then (some false) else ((m_w_toGraph (p0.1, p0.2)).bind fun r13 => (m_i_NewEngine (r13.1, r13.2)).bind fun r14 => (m_w_eqEngine ((r14.1.1.1, r14.1.1.2), (r14.1.2.1.1, r14.1.2.1.2), r14.1.2.2.1, r14.1.2.2.2) ((r3.1.1.1, r3.1.1.2), (r3.1.2.1.1, r3.1.2.1.2), r3.1.2.2.1, r3.1.2.2.2)).bind fun r15 => if r15 then (if r14.2 != r3.2 then (some false) else ((m_w_heldEngine ((r5.1.1.1, r11.2.1.2), (r11.2.2.1.1, r11.2.2.1.2), r11.2.2.2.1, r5.1.2.2.2) 1).bind fun r16 => if decide (r16 < 0) then (some false) else (if r16 != r11.1 then (some false) else (some true)))) else (some false))))) else (some false))) else (some false))) else (some false))
end Go.Proofs.Ytfkocnnphjkmfaa.D
