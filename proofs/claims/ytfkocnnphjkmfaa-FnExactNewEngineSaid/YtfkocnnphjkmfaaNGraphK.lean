/- Marks in graphs and rows of graphs. -/
import Derived.Test.YtfkocnnphjkmfaaNm
import Derived.Test.YtfkocnnphjkmfaaMarks
set_option linter.unusedVariables false
set_option linter.unusedSimpArgs false
set_option linter.unnecessarySimpa false
namespace Go.Proofs.Ytfkocnnphjkmfaa.D
open Go.RowKit

theorem getI_set {α : Type} {xs : List α} {i : Nat} {a : α} (h : i < xs.length) : getI (xs.set i a) (i : Int) = some a := by
  rw [getI_nat (by rw [List.length_set]; exact h)]; simp
theorem loop0 {R S : Type} {f : S → Option (Out R S)} {s o : S} (h : f s = some (.brk o)) : loopM f FUEL s = some (.brk o) :=
  loopM_all (fun _ => s) 0 (fun i hi => absurd hi (Nat.not_lt_zero _)) h (by unfold FUEL; omega)
def gInts (xs : List Int) (k : Nat) : List Int := mkd (fun _ => 1) (fun _ k => (k : Int)) xs k
def nGI (xs : List Int) : Nat := smk (fun _ => 1) xs
theorem gmark_IntS (xs : List Int) (hN : xs.length ≤ 9223372036854775807) {k : Nat} (hk : k + nGI xs ≤ 4611686018427387904) : m_w_markIntS xs (k : Int) = some (((k + nGI xs : Nat) : Int), gInts xs k) ∧ m_w_heldIntS (gInts xs k) (k : Int) = some ((k + nGI xs : Nat) : Int) := by
  unfold gInts nGI at *
  constructor
  · unfold m_w_markIntS
    rw [bindL_brk (markL (f := m_w_markIntS_l0) xs (fun _ => 1) (fun _ k => (k : Int)) hN hk (fun ys i k hi hl _ hk => by
      unfold m_w_markIntS_l0
      simp only
      rw [if_pos (by simp; omega), getI_nth (by omega) (by omega)]; simp only [Option.bind_some, Int.toNat_natCast, wrap_succ (show i < 9223372036854775807 by omega), wrap_succ (show k < 9223372036854775807 by omega)]) (fun ys k hl => by
      unfold m_w_markIntS_l0
      simp only
      rw [if_neg (by simp; omega)]))]
  · unfold m_w_heldIntS
    rw [bindL_brk (heldL (f := m_w_heldIntS_l0 _) xs (fun _ => 1) (fun _ k => (k : Int)) hN hk (fun i k' hi he hk => by
      unfold m_w_heldIntS_l0
      simp only
      rw [if_pos (by simp [mkd_length]; omega), getI_nth (by omega) (by rw [mkd_length]; omega), he]; simp only [Option.bind_some, bne_self_eq_false, Bool.false_eq_true, if_false, wrap_succ (show i < 9223372036854775807 by omega), wrap_succ (show k' < 9223372036854775807 by omega)]) (fun k' => by
      unfold m_w_heldIntS_l0
      simp only
      rw [if_neg (by simp [mkd_length])]))]
def g4 (k : Nat) : Int × Int × Int × Int := ((k : Int), ((k + 1 : Nat) : Int), ((k + 1 + 1 : Nat) : Int), ((k + 1 + 1 + 1 : Nat) : Int))
def gEdges (xs : List (Int × Int × Int × Int)) (k : Nat) : List (Int × Int × Int × Int) := mkd (fun _ => 4) (fun _ k => g4 k) xs k
def nGE (xs : List (Int × Int × Int × Int)) : Nat := smk (fun _ => 4) xs
theorem gmark_EdgeS (xs : List (Int × Int × Int × Int)) (hN : xs.length ≤ 9223372036854775807) {k : Nat} (hk : k + nGE xs ≤ 4611686018427387904) : m_w_markEdgeS xs (k : Int) = some (((k + nGE xs : Nat) : Int), gEdges xs k) ∧ m_w_heldEdgeS (gEdges xs k) (k : Int) = some ((k + nGE xs : Nat) : Int) := by
  unfold gEdges nGE at *
  constructor
  · unfold m_w_markEdgeS
    rw [bindL_brk (markL (f := m_w_markEdgeS_l0) xs (fun _ => 4) (fun _ k => g4 k) hN hk (fun ys i k hi hl _ hk => by
      unfold m_w_markEdgeS_l0
      have hi' : i < ys.length := by omega
      simp only
      rw [if_pos (by simp; omega), getI_nth (by omega) (by omega)]
      simp only [Option.bind_some, Int.toNat_natCast, getI_set hi', List.set_set, wrap_succ (show i < 9223372036854775807 by omega), wrap_succ (show k < 9223372036854775807 by omega), wrap_succ (show k + 1 < 9223372036854775807 by omega), wrap_succ (show k + 1 + 1 < 9223372036854775807 by omega), wrap_succ (show k + 1 + 1 + 1 < 9223372036854775807 by omega)]
      rfl) (fun ys k hl => by
      unfold m_w_markEdgeS_l0
      simp only
      rw [if_neg (by simp; omega)]))]
  · unfold m_w_heldEdgeS
    rw [bindL_brk (heldL (f := m_w_heldEdgeS_l0 _) xs (fun _ => 4) (fun _ k => g4 k) hN hk (fun i k' hi he hk => by
      unfold m_w_heldEdgeS_l0
      simp only
      rw [if_pos (by simp [mkd_length]; omega), getI_nth (by omega) (by rw [mkd_length]; omega), he]
      simp only [g4, Option.bind_some, bne_self_eq_false, Bool.false_eq_true, if_false, wrap_succ (show i < 9223372036854775807 by omega), wrap_succ (show k' < 9223372036854775807 by omega), wrap_succ (show k' + 1 < 9223372036854775807 by omega), wrap_succ (show k' + 1 + 1 < 9223372036854775807 by omega), wrap_succ (show k' + 1 + 1 + 1 < 9223372036854775807 by omega)]) (fun k' => by
      unfold m_w_heldEdgeS_l0
      simp only
      rw [if_neg (by simp [mkd_length])]))]
abbrev GrT := List Int × List (Int × Int × Int × Int)
def nG (x : GrT) : Nat := nGI x.1 + nGE x.2
def gG (x : GrT) (k : Nat) : GrT := (gInts x.1 k, gEdges x.2 (k + nGI x.1))
theorem gmark_Graph (x : GrT) (h1 : x.1.length ≤ 9223372036854775807) (h2 : x.2.length ≤ 9223372036854775807) {k : Nat} (hk : k + nG x ≤ 4611686018427387904) : m_w_markGraph x (k : Int) = some (((k + nG x : Nat) : Int), gG x k) := by
  unfold nG at *
  unfold m_w_markGraph
  rw [(gmark_IntS x.1 h1 (k := k) (by omega)).1]; simp only [Option.bind_some]
  rw [(gmark_EdgeS x.2 h2 (k := k + nGI x.1) (by omega)).1]; simp only [Option.bind_some, Nat.add_assoc]
  rfl
theorem gmark_GraphS (xs : List GrT) (hN : xs.length ≤ 9223372036854775807) (hx : ∀ x ∈ xs, x.1.length ≤ 9223372036854775807 ∧ x.2.length ≤ 9223372036854775807) {k : Nat} (hk : k + smk nG xs ≤ 4611686018427387904) : m_w_markGraphS xs (k : Int) = some (((k + smk nG xs : Nat) : Int), mkd nG gG xs k) ∧ m_w_heldGraphS (mkd nG gG xs k) (k : Int) = some ((k + smk nG xs : Nat) : Int) := by
  constructor
  · unfold m_w_markGraphS
    rw [bindL_brk (markL (f := m_w_markGraphS_l0) xs nG gG hN hk (fun ys i k hi hl he hk => by
      unfold m_w_markGraphS_l0
      have hi' : i < ys.length := by omega
      have hm := hx _ (nth_mem (xs := xs) (i := (i : Int)) (by omega) (by omega))
      unfold nG at hk
      simp only
      rw [if_pos (by simp; omega), getI_nth (by omega) (by omega), he]; simp only [Option.bind_some]
      rw [(gmark_IntS _ hm.1 (k := k) (by omega)).1]; simp only [Option.bind_some, Int.toNat_natCast, getI_set hi']
      rw [(gmark_EdgeS _ hm.2 (k := k + nGI (nth xs (i : Int)).1) (by omega)).1]; simp only [Option.bind_some, List.set_set, wrap_succ (show i < 9223372036854775807 by omega), Nat.add_assoc]
      rfl) (fun ys k hl => by
      unfold m_w_markGraphS_l0
      simp only
      rw [if_neg (by simp; omega)]))]
  · unfold m_w_heldGraphS
    rw [bindL_brk (heldL (f := m_w_heldGraphS_l0 _) xs nG gG hN hk (fun i k' hi he hk => by
      unfold m_w_heldGraphS_l0
      have hm := hx _ (nth_mem (xs := xs) (i := (i : Int)) (by omega) (by omega))
      unfold nG at hk
      have e0 : getI (mkd nG gG xs k) (i : Int) = some (gG (nth xs (i : Int)) k') := by rw [getI_nth (by omega) (by rw [mkd_length]; omega), he]
      simp only
      rw [if_pos (by simp [mkd_length]; omega), e0]; simp only [Option.bind_some]
      show (m_w_heldIntS (gInts (nth xs (i : Int)).1 k') _).bind _ = _
      rw [(gmark_IntS _ hm.1 (k := k') (by omega)).2]; simp only [Option.bind_some]
      rw [if_neg (by simp; omega)]
      show (m_w_heldEdgeS (gEdges (nth xs (i : Int)).2 (k' + nGI (nth xs (i : Int)).1)) _).bind _ = _
      rw [(gmark_EdgeS _ hm.2 (k := k' + nGI (nth xs (i : Int)).1) (by omega)).2]; simp only [Option.bind_some]
      rw [if_neg (by simp; omega), wrap_succ (show i < 9223372036854775807 by omega), Nat.add_assoc]
      rfl) (fun k' => by
      unfold m_w_heldGraphS_l0
      simp only
      rw [if_neg (by simp [mkd_length])]))]
theorem nG_bound (x : GrT) (h1 : x.1.length ≤ 1048576) (h2 : x.2.length ≤ 1048576) : nG x ≤ 5242880 := by
  have b1 := smk_bound (fun _ : Int => 1) (B := 1) x.1 (by simp)
  have b2 := smk_bound (fun _ : Int × Int × Int × Int => 4) (B := 4) x.2 (by simp)
  unfold nG nGI nGE; omega
end Go.Proofs.Ytfkocnnphjkmfaa.D
