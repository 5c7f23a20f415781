/- The data types of the program, and walks of the laws' helpers on them (written by a program of ours, genhelp.py). -/
import Derived.Test.YtokiommgielfjaaPlain
set_option linter.unusedVariables false
set_option linter.unusedSimpArgs false
namespace Go.Proofs.Ytokiommgielfjaa
open Go.RowKit

abbrev DPair : Type := Int × Int
def rPair : Rep DPair := rProd rInt (rInt)
theorem open_Pair {B : Nat} {w : World} {cs : List Value} {x : DPair} (h : rPair.rd B w cs x) : cs = [.int .i64 x.1, .int .i64 x.2] ∧ I64 (x.1) ∧ I64 (x.2) := by
  obtain ⟨a1, b1, rfl, k1, m1⟩ := h
  obtain ⟨rfl, o0⟩ := k1
  obtain ⟨rfl, o1⟩ := m1
  exact ⟨by simp, o0, o1⟩

theorem split_Pair {w0 w : World} {cs : List Value} {x : DPair} {r : List Ch} (h : St w0 w (Ch.own rPair cs x :: r)) : cs = [.int .i64 x.1, .int .i64 x.2] ∧ I64 (x.1) ∧ I64 (x.2) ∧ St w0 w (r) := by
  obtain ⟨a1, b1, rfl, h_1⟩ := St.prod_split (R := rInt) (S := rInt) (x := x) [] h
  obtain ⟨rfl, o0, h_2⟩ := St.flat_split (h1 := fun _ => rfl) (x := x.1) [] h_1
  obtain ⟨rfl, o1, h_3⟩ := St.flat_split (h1 := fun _ => rfl) (x := x.2) [] h_2
  exact ⟨by simp, o0, o1, h_3⟩

theorem join_Pair {w0 w : World} {x : DPair} {r : List Ch} (o0 : I64 (x.1)) (o1 : I64 (x.2)) (h : St w0 w (r)) : St w0 w (Ch.own rPair [.int .i64 x.1, .int .i64 x.2] x :: r) := by
  have h := St.flat_join (enc := Value.int .i64) (ok := I64) (h1 := fun _ => rfl) (x := x.2) [] o1 h
  have h := St.flat_join (enc := Value.int .i64) (ok := I64) (h1 := fun _ => rfl) (x := x.1) [] o0 h
  have h := St.prod_join (R := rInt) (S := rInt) (x := x) [] h
  exact h

abbrev DPairS : Type := List DPair
def rPairS : Rep DPairS := rSlice 78 rPair

abbrev DDelta : Type := DPairS × DPairS
def rDelta : Rep DDelta := rProd rPairS (rPairS)
theorem open_Delta {B : Nat} {w : World} {cs : List Value} {x : DDelta} (h : rDelta.rd B w cs x) : ∃ v0 v1 : Value, cs = [v0, v1] ∧ rPairS.rd B w [v0] x.1 ∧ rPairS.rd B w [v1] x.2 := by
  obtain ⟨a1, b1, rfl, k1, m1⟩ := h
  obtain ⟨v0, rfl⟩ : ∃ v, a1 = [v] := List.length_eq_one_iff.1 (rPairS.rd_len k1)
  obtain ⟨v1, rfl⟩ : ∃ v, b1 = [v] := List.length_eq_one_iff.1 (rPairS.rd_len m1)
  exact ⟨v0, v1, by simp, k1, m1⟩

theorem split_Delta {w0 w : World} {cs : List Value} {x : DDelta} {r : List Ch} (h : St w0 w (Ch.own rDelta cs x :: r)) : ∃ v0 v1 : Value, cs = [v0, v1] ∧ St w0 w (Ch.own rPairS [v0] x.1 :: Ch.own rPairS [v1] x.2 :: r) := by
  obtain ⟨a1, b1, rfl, h_1⟩ := St.prod_split (R := rPairS) (S := rPairS) (x := x) [] h
  obtain ⟨v0, rfl⟩ := St.one (R := rPairS) (x := x.1) [] h_1 rfl
  obtain ⟨v1, rfl⟩ := St.one (R := rPairS) (x := x.2) [Ch.own rPairS [v0] x.1] h_1 rfl
  exact ⟨v0, v1, by simp, h_1⟩

theorem join_Delta {w0 w : World} {x : DDelta} {r : List Ch} {v0 v1 : Value} (h : St w0 w (Ch.own rPairS [v0] x.1 :: Ch.own rPairS [v1] x.2 :: r)) : St w0 w (Ch.own rDelta [v0, v1] x :: r) := by
  have h := St.prod_join (R := rPairS) (S := rPairS) (x := x) [] h
  exact h

abbrev DMessage : Type := Int × Bool × DDelta
def rMessage : Rep DMessage := rProd rInt (rProd rBool (rDelta))
theorem open_Message {B : Nat} {w : World} {cs : List Value} {x : DMessage} (h : rMessage.rd B w cs x) : ∃ v0 v1 : Value, cs = [.int .i64 x.1, .bool x.2.1, v0, v1] ∧ I64 (x.1) ∧ rPairS.rd B w [v0] x.2.2.1 ∧ rPairS.rd B w [v1] x.2.2.2 := by
  obtain ⟨a1, b1, rfl, k1, m1⟩ := h
  obtain ⟨rfl, o0⟩ := k1
  obtain ⟨a2, b2, rfl, k2, m2⟩ := m1
  obtain ⟨rfl, -⟩ := k2
  obtain ⟨a3, b3, rfl, k3, m3⟩ := m2
  obtain ⟨v0, rfl⟩ : ∃ v, a3 = [v] := List.length_eq_one_iff.1 (rPairS.rd_len k3)
  obtain ⟨v1, rfl⟩ : ∃ v, b3 = [v] := List.length_eq_one_iff.1 (rPairS.rd_len m3)
  exact ⟨v0, v1, by simp, o0, k3, m3⟩

theorem split_Message {w0 w : World} {cs : List Value} {x : DMessage} {r : List Ch} (h : St w0 w (Ch.own rMessage cs x :: r)) : ∃ v0 v1 : Value, cs = [.int .i64 x.1, .bool x.2.1, v0, v1] ∧ I64 (x.1) ∧ St w0 w (Ch.own rPairS [v0] x.2.2.1 :: Ch.own rPairS [v1] x.2.2.2 :: r) := by
  obtain ⟨a1, b1, rfl, h_1⟩ := St.prod_split (R := rInt) (S := rProd rBool (rDelta)) (x := x) [] h
  obtain ⟨rfl, o0, h_2⟩ := St.flat_split (h1 := fun _ => rfl) (x := x.1) [] h_1
  obtain ⟨a2, b2, rfl, h_3⟩ := St.prod_split (R := rBool) (S := rDelta) (x := x.2) [] h_2
  obtain ⟨rfl, -, h_4⟩ := St.flat_split (h1 := fun _ => rfl) (x := x.2.1) [] h_3
  obtain ⟨a3, b3, rfl, h_5⟩ := St.prod_split (R := rPairS) (S := rPairS) (x := x.2.2) [] h_4
  obtain ⟨v0, rfl⟩ := St.one (R := rPairS) (x := x.2.2.1) [] h_5 rfl
  obtain ⟨v1, rfl⟩ := St.one (R := rPairS) (x := x.2.2.2) [Ch.own rPairS [v0] x.2.2.1] h_5 rfl
  exact ⟨v0, v1, by simp, o0, h_5⟩

theorem join_Message {w0 w : World} {x : DMessage} {r : List Ch} {v0 v1 : Value} (o0 : I64 (x.1)) (h : St w0 w (Ch.own rPairS [v0] x.2.2.1 :: Ch.own rPairS [v1] x.2.2.2 :: r)) : St w0 w (Ch.own rMessage [.int .i64 x.1, .bool x.2.1, v0, v1] x :: r) := by
  have h := St.prod_join (R := rPairS) (S := rPairS) (x := x.2.2) [] h
  have h := St.flat_join (enc := Value.bool) (ok := fun _ => True) (h1 := fun _ => rfl) (x := x.2.1) [] trivial h
  have h := St.prod_join (R := rBool) (S := rDelta) (x := x.2) [] h
  have h := St.flat_join (enc := Value.int .i64) (ok := I64) (h1 := fun _ => rfl) (x := x.1) [] o0 h
  have h := St.prod_join (R := rInt) (S := rProd rBool (rDelta)) (x := x) [] h
  exact h

abbrev DIntS : Type := List Int
def rIntS : Rep DIntS := rSlice 3 rInt

abbrev DPositions : Type := DIntS × Int × Int × DIntS × Bool
def rPositions : Rep DPositions := rProd rIntS (rProd rInt (rProd rInt (rProd rIntS (rBool))))
theorem open_Positions {B : Nat} {w : World} {cs : List Value} {x : DPositions} (h : rPositions.rd B w cs x) : ∃ v0 v1 : Value, cs = [v0, .int .i64 x.2.1, .int .i64 x.2.2.1, v1, .bool x.2.2.2.2] ∧ rIntS.rd B w [v0] x.1 ∧ I64 (x.2.1) ∧ I64 (x.2.2.1) ∧ rIntS.rd B w [v1] x.2.2.2.1 := by
  obtain ⟨a1, b1, rfl, k1, m1⟩ := h
  obtain ⟨v0, rfl⟩ : ∃ v, a1 = [v] := List.length_eq_one_iff.1 (rIntS.rd_len k1)
  obtain ⟨a2, b2, rfl, k2, m2⟩ := m1
  obtain ⟨rfl, o1⟩ := k2
  obtain ⟨a3, b3, rfl, k3, m3⟩ := m2
  obtain ⟨rfl, o2⟩ := k3
  obtain ⟨a4, b4, rfl, k4, m4⟩ := m3
  obtain ⟨v1, rfl⟩ : ∃ v, a4 = [v] := List.length_eq_one_iff.1 (rIntS.rd_len k4)
  obtain ⟨rfl, -⟩ := m4
  exact ⟨v0, v1, by simp, k1, o1, o2, k4⟩

theorem split_Positions {w0 w : World} {cs : List Value} {x : DPositions} {r : List Ch} (h : St w0 w (Ch.own rPositions cs x :: r)) : ∃ v0 v1 : Value, cs = [v0, .int .i64 x.2.1, .int .i64 x.2.2.1, v1, .bool x.2.2.2.2] ∧ I64 (x.2.1) ∧ I64 (x.2.2.1) ∧ St w0 w (Ch.own rIntS [v0] x.1 :: Ch.own rIntS [v1] x.2.2.2.1 :: r) := by
  obtain ⟨a1, b1, rfl, h_1⟩ := St.prod_split (R := rIntS) (S := rProd rInt (rProd rInt (rProd rIntS (rBool)))) (x := x) [] h
  obtain ⟨v0, rfl⟩ := St.one (R := rIntS) (x := x.1) [] h_1 rfl
  obtain ⟨a2, b2, rfl, h_2⟩ := St.prod_split (R := rInt) (S := rProd rInt (rProd rIntS (rBool))) (x := x.2) [Ch.own rIntS [v0] x.1] h_1
  obtain ⟨rfl, o0, h_3⟩ := St.flat_split (h1 := fun _ => rfl) (x := x.2.1) [Ch.own rIntS [v0] x.1] h_2
  obtain ⟨a3, b3, rfl, h_4⟩ := St.prod_split (R := rInt) (S := rProd rIntS (rBool)) (x := x.2.2) [Ch.own rIntS [v0] x.1] h_3
  obtain ⟨rfl, o1, h_5⟩ := St.flat_split (h1 := fun _ => rfl) (x := x.2.2.1) [Ch.own rIntS [v0] x.1] h_4
  obtain ⟨a4, b4, rfl, h_6⟩ := St.prod_split (R := rIntS) (S := rBool) (x := x.2.2.2) [Ch.own rIntS [v0] x.1] h_5
  obtain ⟨v1, rfl⟩ := St.one (R := rIntS) (x := x.2.2.2.1) [Ch.own rIntS [v0] x.1] h_6 rfl
  obtain ⟨rfl, -, h_7⟩ := St.flat_split (h1 := fun _ => rfl) (x := x.2.2.2.2) [Ch.own rIntS [v0] x.1, Ch.own rIntS [v1] x.2.2.2.1] h_6
  exact ⟨v0, v1, by simp, o0, o1, h_7⟩

theorem join_Positions {w0 w : World} {x : DPositions} {r : List Ch} {v0 v1 : Value} (o0 : I64 (x.2.1)) (o1 : I64 (x.2.2.1)) (h : St w0 w (Ch.own rIntS [v0] x.1 :: Ch.own rIntS [v1] x.2.2.2.1 :: r)) : St w0 w (Ch.own rPositions [v0, .int .i64 x.2.1, .int .i64 x.2.2.1, v1, .bool x.2.2.2.2] x :: r) := by
  have h := St.flat_join (enc := Value.bool) (ok := fun _ => True) (h1 := fun _ => rfl) (x := x.2.2.2.2) [Ch.own rIntS [v0] x.1, Ch.own rIntS [v1] x.2.2.2.1] trivial h
  have h := St.prod_join (R := rIntS) (S := rBool) (x := x.2.2.2) [Ch.own rIntS [v0] x.1] h
  have h := St.flat_join (enc := Value.int .i64) (ok := I64) (h1 := fun _ => rfl) (x := x.2.2.1) [Ch.own rIntS [v0] x.1] o1 h
  have h := St.prod_join (R := rInt) (S := rProd rIntS (rBool)) (x := x.2.2) [Ch.own rIntS [v0] x.1] h
  have h := St.flat_join (enc := Value.int .i64) (ok := I64) (h1 := fun _ => rfl) (x := x.2.1) [Ch.own rIntS [v0] x.1] o0 h
  have h := St.prod_join (R := rInt) (S := rProd rInt (rProd rIntS (rBool))) (x := x.2) [Ch.own rIntS [v0] x.1] h
  have h := St.prod_join (R := rIntS) (S := rProd rInt (rProd rInt (rProd rIntS (rBool)))) (x := x) [] h
  exact h

abbrev DBoolS : Type := List Bool
def rBoolS : Rep DBoolS := rSlice 4 rBool

abbrev DIntSS : Type := List DIntS
def rIntSS : Rep DIntSS := rSlice 38 rIntS

abbrev DAutomaton : Type := Int × DBoolS × DIntSS
def rAutomaton : Rep DAutomaton := rProd rInt (rProd rBoolS (rIntSS))
theorem open_Automaton {B : Nat} {w : World} {cs : List Value} {x : DAutomaton} (h : rAutomaton.rd B w cs x) : ∃ v0 v1 : Value, cs = [.int .i64 x.1, v0, v1] ∧ I64 (x.1) ∧ rBoolS.rd B w [v0] x.2.1 ∧ rIntSS.rd B w [v1] x.2.2 := by
  obtain ⟨a1, b1, rfl, k1, m1⟩ := h
  obtain ⟨rfl, o0⟩ := k1
  obtain ⟨a2, b2, rfl, k2, m2⟩ := m1
  obtain ⟨v0, rfl⟩ : ∃ v, a2 = [v] := List.length_eq_one_iff.1 (rBoolS.rd_len k2)
  obtain ⟨v1, rfl⟩ : ∃ v, b2 = [v] := List.length_eq_one_iff.1 (rIntSS.rd_len m2)
  exact ⟨v0, v1, by simp, o0, k2, m2⟩

theorem split_Automaton {w0 w : World} {cs : List Value} {x : DAutomaton} {r : List Ch} (h : St w0 w (Ch.own rAutomaton cs x :: r)) : ∃ v0 v1 : Value, cs = [.int .i64 x.1, v0, v1] ∧ I64 (x.1) ∧ St w0 w (Ch.own rBoolS [v0] x.2.1 :: Ch.own rIntSS [v1] x.2.2 :: r) := by
  obtain ⟨a1, b1, rfl, h_1⟩ := St.prod_split (R := rInt) (S := rProd rBoolS (rIntSS)) (x := x) [] h
  obtain ⟨rfl, o0, h_2⟩ := St.flat_split (h1 := fun _ => rfl) (x := x.1) [] h_1
  obtain ⟨a2, b2, rfl, h_3⟩ := St.prod_split (R := rBoolS) (S := rIntSS) (x := x.2) [] h_2
  obtain ⟨v0, rfl⟩ := St.one (R := rBoolS) (x := x.2.1) [] h_3 rfl
  obtain ⟨v1, rfl⟩ := St.one (R := rIntSS) (x := x.2.2) [Ch.own rBoolS [v0] x.2.1] h_3 rfl
  exact ⟨v0, v1, by simp, o0, h_3⟩

theorem join_Automaton {w0 w : World} {x : DAutomaton} {r : List Ch} {v0 v1 : Value} (o0 : I64 (x.1)) (h : St w0 w (Ch.own rBoolS [v0] x.2.1 :: Ch.own rIntSS [v1] x.2.2 :: r)) : St w0 w (Ch.own rAutomaton [.int .i64 x.1, v0, v1] x :: r) := by
  have h := St.prod_join (R := rBoolS) (S := rIntSS) (x := x.2) [] h
  have h := St.flat_join (enc := Value.int .i64) (ok := I64) (h1 := fun _ => rfl) (x := x.1) [] o0 h
  have h := St.prod_join (R := rInt) (S := rProd rBoolS (rIntSS)) (x := x) [] h
  exact h

end Go.Proofs.Ytokiommgielfjaa
