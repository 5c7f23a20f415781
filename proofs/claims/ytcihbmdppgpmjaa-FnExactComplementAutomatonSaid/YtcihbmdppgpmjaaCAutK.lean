/- Marks in automata. -/
import Derived.Test.YtcihbmdppgpmjaaCm
import Derived.Test.YtcihbmdppgpmjaaMarks
set_option linter.unusedVariables false
set_option linter.unusedSimpArgs false
set_option linter.unnecessarySimpa false
namespace Go.Proofs.Ytcihbmdppgpmjaa.D
open Go.RowKit

theorem mark_BoolS (xs : List Bool) (hN : xs.length ≤ 9223372036854775807) {k : Nat} (hk : k + smk (fun _ => 1) xs ≤ 4611686018427387904) : m_w_markBoolS xs (k : Int) = some (((k + smk (fun _ => 1) xs : Nat) : Int), mkd (fun _ => 1) (fun _ k => (Int.tmod (k : Int) 3) == 0) xs k) ∧ m_w_heldBoolS (mkd (fun _ => 1) (fun _ k => (Int.tmod (k : Int) 3) == 0) xs k) (k : Int) = some ((k + smk (fun _ => 1) xs : Nat) : Int) := by
  constructor
  · unfold m_w_markBoolS
    rw [bindL_brk (markL (f := m_w_markBoolS_l0) xs (fun _ => 1) (fun _ k => (Int.tmod (k : Int) 3) == 0) hN hk (fun ys i k hi hl _ hk => by
      unfold m_w_markBoolS_l0
      simp only
      rw [if_pos (by simp; omega), getI_nth (by omega) (by omega)]; simp only [Option.bind_some, Int.toNat_natCast, wrap_succ (show i < 9223372036854775807 by omega), wrap_succ (show k < 9223372036854775807 by omega)]) (fun ys k hl => by
      unfold m_w_markBoolS_l0
      simp only
      rw [if_neg (by simp; omega)]))]
  · unfold m_w_heldBoolS
    rw [bindL_brk (heldL (f := m_w_heldBoolS_l0 _) xs (fun _ => 1) (fun _ k => (Int.tmod (k : Int) 3) == 0) hN hk (fun i k' hi he hk => by
      unfold m_w_heldBoolS_l0
      simp only
      rw [if_pos (by simp [mkd_length]; omega), getI_nth (by omega) (by rw [mkd_length]; omega), he]; simp only [Option.bind_some, bne_self_eq_false, Bool.false_eq_true, if_false, wrap_succ (show i < 9223372036854775807 by omega), wrap_succ (show k' < 9223372036854775807 by omega)]) (fun k' => by
      unfold m_w_heldBoolS_l0
      simp only
      rw [if_neg (by simp [mkd_length])]))]
def mInts (xs : List Int) (k : Nat) : List Int := mkd (fun _ => 1) (fun _ k => (k : Int)) xs k
theorem mark_IntS (xs : List Int) (hN : xs.length ≤ 9223372036854775807) {k : Nat} (hk : k + smk (fun _ => 1) xs ≤ 4611686018427387904) : m_w_markIntS xs (k : Int) = some (((k + smk (fun _ => 1) xs : Nat) : Int), mInts xs k) ∧ m_w_heldIntS (mInts xs k) (k : Int) = some ((k + smk (fun _ => 1) xs : Nat) : Int) := by
  unfold mInts
  constructor
  · unfold m_w_markIntS
    rw [bindL_brk (markL (f := m_w_markIntS_l0) xs (fun _ => 1) (fun _ k => (k : Int)) hN hk (fun ys i k hi hl _ hk => by
      unfold m_w_markIntS_l0
      simp only
      rw [if_pos (by simp; omega), getI_nth (by omega) (by omega)]; simp only [Option.bind_some, Int.toNat_natCast, wrap_succ (show i < 9223372036854775807 by omega), wrap_succ (show k < 9223372036854775807 by omega)]) (fun ys k hl => by
      unfold m_w_markIntS_l0
      simp only
      rw [if_neg (by simp; omega)]))]
  · unfold m_w_heldIntS
    rw [bindL_brk (heldL (f := m_w_heldIntS_l0 _) xs (fun _ => 1) (fun _ k => (k : Int)) hN hk (fun i k' hi he hk => by
      unfold m_w_heldIntS_l0
      simp only
      rw [if_pos (by simp [mkd_length]; omega), getI_nth (by omega) (by rw [mkd_length]; omega), he]; simp only [Option.bind_some, bne_self_eq_false, Bool.false_eq_true, if_false, wrap_succ (show i < 9223372036854775807 by omega), wrap_succ (show k' < 9223372036854775807 by omega)]) (fun k' => by
      unfold m_w_heldIntS_l0
      simp only
      rw [if_neg (by simp [mkd_length])]))]
def nInts (xs : List Int) : Nat := smk (fun _ => 1) xs
theorem mark_IntSS (xs : List (List Int)) (hN : xs.length ≤ 9223372036854775807) (hx : ∀ x ∈ xs, x.length ≤ 9223372036854775807) {k : Nat} (hk : k + smk nInts xs ≤ 4611686018427387904) : m_w_markIntSS xs (k : Int) = some (((k + smk nInts xs : Nat) : Int), mkd nInts mInts xs k) ∧ m_w_heldIntSS (mkd nInts mInts xs k) (k : Int) = some ((k + smk nInts xs : Nat) : Int) := by
  constructor
  · unfold m_w_markIntSS
    rw [bindL_brk (markL (f := m_w_markIntSS_l0) xs nInts mInts hN hk (fun ys i k hi hl he hk => by
      unfold m_w_markIntSS_l0
      simp only
      rw [if_pos (by simp; omega), getI_nth (by omega) (by omega), he]; simp only [Option.bind_some]
      rw [(mark_IntS _ (hx _ (nth_mem (by omega) (by omega))) hk).1]; simp only [Option.bind_some, Int.toNat_natCast, wrap_succ (show i < 9223372036854775807 by omega)]
      rfl) (fun ys k hl => by
      unfold m_w_markIntSS_l0
      simp only
      rw [if_neg (by simp; omega)]))]
  · unfold m_w_heldIntSS
    rw [bindL_brk (heldL (f := m_w_heldIntSS_l0 _) xs nInts mInts hN hk (fun i k' hi he hk => by
      unfold m_w_heldIntSS_l0
      simp only
      rw [if_pos (by simp [mkd_length]; omega), getI_nth (by omega) (by rw [mkd_length]; omega), he]; simp only [Option.bind_some]
      rw [(mark_IntS _ (hx _ (nth_mem (by omega) (by omega))) hk).2]; simp only [Option.bind_some]
      rw [if_neg (by simp; omega), wrap_succ (show i < 9223372036854775807 by omega)]
      rfl) (fun k' => by
      unfold m_w_heldIntSS_l0
      simp only
      rw [if_neg (by simp [mkd_length])]))]
theorem mk_Automaton : MkOk m_w_markAutomaton (fun x y k => m_w_heldAutomaton (x.1, y.1, y.2) k) 1099512676352 := by
  rintro ⟨s, bs, ns⟩ ⟨-, ⟨ha, -⟩, hn, hr⟩
  have ha : bs.length ≤ 1048576 := ha
  have hn : ns.length ≤ 1048576 := hn
  have b1 := smk_bound (fun _ : Bool => 1) (B := 1) bs (by simp)
  have b2 := smk_bound nInts (B := 1048576) ns fun x hx => by
    have h1 := smk_bound (fun _ : Int => 1) (B := 1) x (by simp)
    have h2 : x.length ≤ 1048576 := (hr x hx).1
    unfold nInts; omega
  have b3 : ns.length * 1048576 ≤ 1048576 * 1048576 := Nat.mul_le_mul_right _ hn
  refine ⟨smk (fun _ => 1) bs + smk nInts ns, by omega, fun k hk => ?_⟩
  obtain ⟨e1, e2⟩ := mark_BoolS bs (by omega) (k := k) (by omega)
  obtain ⟨e3, e4⟩ := mark_IntSS ns (by omega) (fun x hx => by have : x.length ≤ 1048576 := (hr x hx).1; omega) (k := k + smk (fun _ => 1) bs) (by omega)
  refine ⟨(mkd (fun _ => 1) (fun _ k => (Int.tmod (k : Int) 3) == 0) bs k, mkd nInts mInts ns (k + smk (fun _ => 1) bs)), ?_, ?_⟩
  · unfold m_w_markAutomaton
    simp only
    rw [e1]; simp only [Option.bind_some]
    rw [e3]; simp only [Option.bind_some, Nat.add_assoc]
  · unfold m_w_heldAutomaton
    simp only
    rw [e2]; simp only [Option.bind_some]
    rw [if_neg (by simp; omega), e4]; simp only [Option.bind_some]
    rw [if_neg (by simp; omega), Nat.add_assoc]
end Go.Proofs.Ytcihbmdppgpmjaa.D
