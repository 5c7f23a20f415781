/- Automata: what is valid, the moves, what is live, by the reference and by the program. -/
import Derived.Test.YtcihbmdppgpmjaaCm
import Derived.Test.YtcihbmdppgpmjaaPure
set_option linter.unusedVariables false
set_option linter.unusedSimpArgs false
set_option linter.unnecessarySimpa false
namespace Go.Proofs.Ytcihbmdppgpmjaa.D
open Go.RowKit

abbrev AutT := Int × (List Bool) × (List (List Int))
/-- an automaton with n states -/
structure VA (a : AutT) (n : Nat) : Prop where
  len : a.2.1.length = n
  start : 0 ≤ a.1 ∧ a.1 < n
  nlen : a.2.2.length = n
  row : ∀ r ∈ a.2.2, r.length = 9
  ent : ∀ r ∈ a.2.2, ∀ t ∈ r, -1 ≤ t ∧ t < n
def mv (a : AutT) (s : Int) (k : Nat) : Int := nth (nth a.2.2 s) k
theorem s_in (x l h : Int) : m_s_l1In x l h = some (decide (l ≤ x ∧ x ≤ h)) := by
  unfold m_s_l1In
  by_cases c : l ≤ x
  · simp [c]
  · have : ¬ l ≤ x ∧ True := ⟨c, trivial⟩
    simp [c]
theorem i_in (x l h : Int) : m_i_within x l h = some (decide (l ≤ x ∧ x ≤ h)) := by
  unfold m_i_within
  by_cases c : l ≤ x
  · simp [c]
  · simp [c]
/-- a loop that looks through a list and ends at the first element that is not fine -/
theorem scan {α R : Type} [Inhabited α] {f : Int → Option (Out R Int)} (xs : List α) (p : α → Prop) [DecidablePred p] (r : R) (hN : xs.length ≤ 9223372036854775807)
    (h : ∀ i : Nat, i < xs.length → f (i : Int) = some (if p (nth xs i) then .nxt ((i + 1 : Nat) : Int) else .ret r)) (he : f (xs.length : Int) = some (.brk (xs.length : Int))) :
    (loopM f FUEL 0 = some (.brk (xs.length : Int)) ∧ ∀ x ∈ xs, p x) ∨ (loopM f FUEL 0 = some (.ret r) ∧ ¬ ∀ x ∈ xs, p x) := by
  obtain ⟨o, e, hq⟩ := loopM_go (f := f) (fun i s => s = (i : Int) ∧ ∀ j : Nat, j < i → p (nth xs j)) (fun o => (o = .brk (xs.length : Int) ∧ ∀ x ∈ xs, p x) ∨ (o = .ret r ∧ ¬ ∀ x ∈ xs, p x)) xs.length (s := 0) (by
    rintro i s hi ⟨rfl, hp⟩
    by_cases hl : i < xs.length
    · by_cases c : p (nth xs i)
      · refine .inl ⟨hl, _, by rw [h i hl, if_pos c], rfl, fun j hj => ?_⟩
        by_cases e : j = i
        · subst e; exact c
        · exact hp j (by omega)
      · refine .inr ⟨_, by rw [h i hl, if_neg c], (fun s' e => by cases e), .inr ⟨rfl, fun hx => c (hx _ (nth_mem (by omega) (by omega)))⟩⟩
    · obtain rfl : i = xs.length := by omega
      refine .inr ⟨_, he, (fun s' e => by cases e), .inl ⟨rfl, fun x hx => ?_⟩⟩
      obtain ⟨j, hj, rfl⟩ := mem_nth hx
      exact hp j hj) ⟨rfl, by omega⟩ (up63 hN)
  rcases hq with ⟨rfl, hq⟩ | ⟨rfl, hq⟩
  · exact .inl ⟨e, hq⟩
  · exact .inr ⟨e, hq⟩
theorem ent_iff {n : Nat} {r : List Int} : (∀ t ∈ r, -1 ≤ t ∧ t ≤ (n : Int) - 1) ↔ ∀ t ∈ r, -1 ≤ t ∧ t < (n : Int) := forall_congr' fun t => forall_congr' fun _ => and_congr Iff.rfl (by omega)
theorem s_fits (a : AutT) (h1 : a.2.1.length ≤ 9223372036854775807) (h2 : a.2.2.length ≤ 9223372036854775807) : ∃ b, m_s_l11Fits a = some b ∧ (b = true ↔ VA a a.2.1.length) := by
  unfold m_s_l11Fits
  rw [s_in]; simp only [Option.bind_some, wrap_pred h1]
  by_cases c1 : 0 ≤ a.1 ∧ a.1 ≤ (a.2.1.length : Int) - 1
  case neg => exact ⟨false, by rw [if_neg (by simpa using c1)], by simp; exact fun h => c1 ⟨h.start.1, by have := h.start.2; omega⟩⟩
  rw [if_pos (by simpa using c1)]
  by_cases c2 : a.2.2.length = a.2.1.length
  case neg => exact ⟨false, by rw [if_pos (by simp; omega)], by simp; exact fun h => c2 h.nlen⟩
  rw [if_neg (by simp; omega)]
  have inner : ∀ i : Nat, i < a.2.2.length → (nth a.2.2 i).length = 9 → (loopM (m_s_l11Fits_l1 a i) FUEL 0 = some (.brk 9) ∧ ∀ t ∈ nth a.2.2 (i : Int), -1 ≤ t ∧ t ≤ (a.2.1.length : Int) - 1) ∨ (loopM (m_s_l11Fits_l1 a i) FUEL 0 = some (.ret false) ∧ ¬ ∀ t ∈ nth a.2.2 (i : Int), -1 ≤ t ∧ t ≤ (a.2.1.length : Int) - 1) := by
    intro i hi hr
    have := scan (f := m_s_l11Fits_l1 a i) (nth a.2.2 (i : Int)) (fun t => -1 ≤ t ∧ t ≤ (a.2.1.length : Int) - 1) false (by omega) (fun j hj => by
      unfold m_s_l11Fits_l1
      rw [if_pos (by simp; omega), getI_nth (by omega) (by omega)]; simp only [Option.bind_some]
      rw [getI_nth (by omega) (by omega)]; simp only [Option.bind_some, wrap_pred h1]
      rw [s_in]; simp only [Option.bind_some, wrap_succ (show j < 9223372036854775807 by omega)]
      by_cases c : -1 ≤ nth (nth a.2.2 (i : Int)) (j : Int) ∧ nth (nth a.2.2 (i : Int)) (j : Int) ≤ (a.2.1.length : Int) - 1
      · rw [if_pos (by simpa using c), if_pos c]
      · rw [if_neg (by simpa using c), if_neg c]) (by unfold m_s_l11Fits_l1; rw [if_neg (by simp [hr])])
    rwa [hr] at this
  have outer := scan (f := m_s_l11Fits_l0 a) a.2.2 (fun r => r.length = 9 ∧ ∀ t ∈ r, -1 ≤ t ∧ t ≤ (a.2.1.length : Int) - 1) false h2 (fun i hi => by
    unfold m_s_l11Fits_l0
    rw [if_pos (by simp; omega), getI_nth (by omega) (by omega)]; simp only [Option.bind_some]
    by_cases c : (nth a.2.2 (i : Int)).length = 9
    · rw [if_neg (by simp; omega)]
      rcases inner i hi c with ⟨e, k⟩ | ⟨e, k⟩
      · rw [bindL_brk e, if_pos ⟨c, k⟩, wrap_succ (show i < 9223372036854775807 by omega)]
      · rw [bindL_ret e, if_neg (fun h => k h.2)]
    · rw [if_pos (by simp; omega), if_neg (fun h => c h.1)]) (by unfold m_s_l11Fits_l0; rw [if_neg (by simp; omega)])
  rcases outer with ⟨e, k⟩ | ⟨e, k⟩
  · exact ⟨true, by rw [bindL_brk e], by simp; exact ⟨rfl, ⟨c1.1, by omega⟩, c2, fun r hr => (k r hr).1, fun r hr => ent_iff.1 (k r hr).2⟩⟩
  · exact ⟨false, by rw [bindL_ret e], by simp; exact fun h => k fun r hr => ⟨h.row r hr, ent_iff.2 (h.ent r hr)⟩⟩
theorem s_valid (a : AutT) (h1 : a.2.1.length ≤ 9223372036854775807) (h2 : a.2.2.length ≤ 9223372036854775807) : ∃ b, m_s_IsValidAutomaton a = some b ∧ (b = true ↔ a.2.1.length ≤ 12 ∧ VA a a.2.1.length) := by
  unfold m_s_IsValidAutomaton
  by_cases c : a.2.1.length ≤ 12
  · rw [if_pos (by simp; omega)]
    obtain ⟨b, e, hb⟩ := s_fits a h1 h2
    exact ⟨b, by show (m_s_l11Fits a).bind _ = _; rw [e]; rfl, by rw [hb]; simp [c]⟩
  · exact ⟨false, by rw [if_neg (by simp; omega)], by simp; exact fun h => absurd h c⟩
theorem i_valid (a : AutT) (h1 : a.2.1.length ≤ 9223372036854775807) (h2 : a.2.2.length ≤ 9223372036854775807) (h3 : ∀ r ∈ a.2.2, r.length ≤ 9223372036854775807) : ∃ b, m_i_IsValidAutomaton a = some b ∧ (b = true ↔ a.2.1.length ≤ 12 ∧ VA a a.2.1.length) := by
  unfold m_i_IsValidAutomaton
  rw [i_in]; simp only [Option.bind_some, wrap_pred h1]
  by_cases c0 : 1 ≤ (a.2.1.length : Int) ∧ (a.2.1.length : Int) ≤ 12
  case neg => exact ⟨false, by rw [if_neg (by simpa using c0)], by simp; exact fun h h' => c0 ⟨by have := h'.start; omega, by omega⟩⟩
  rw [if_pos (by simpa using c0), i_in]; simp only [Option.bind_some]
  by_cases c1 : 0 ≤ a.1 ∧ a.1 ≤ (a.2.1.length : Int) - 1
  case neg => exact ⟨false, by rw [if_neg (by simpa using c1)], by simp; exact fun _ h => c1 ⟨h.start.1, by have := h.start.2; omega⟩⟩
  rw [if_pos (by simpa using c1)]
  by_cases c2 : a.2.2.length = a.2.1.length
  case neg => exact ⟨false, by rw [if_pos (by simp; omega)], by simp; exact fun _ h => c2 h.nlen⟩
  rw [if_neg (by simp; omega)]
  have inner : ∀ x : List Int, x.length ≤ 9223372036854775807 → (loopM (m_i_IsValidAutomaton_l1 a x) FUEL 0 = some (.brk (x.length : Int)) ∧ ∀ t ∈ x, -1 ≤ t ∧ t ≤ (a.2.1.length : Int) - 1) ∨ (loopM (m_i_IsValidAutomaton_l1 a x) FUEL 0 = some (.ret false) ∧ ¬ ∀ t ∈ x, -1 ≤ t ∧ t ≤ (a.2.1.length : Int) - 1) := by
    intro x hx
    refine scan (f := m_i_IsValidAutomaton_l1 a x) x (fun t => -1 ≤ t ∧ t ≤ (a.2.1.length : Int) - 1) false hx (fun j hj => ?_) (by unfold m_i_IsValidAutomaton_l1; rw [if_neg (by simp)])
    unfold m_i_IsValidAutomaton_l1
    rw [if_pos (by simp; omega), getI_nth (by omega) (by omega)]; simp only [Option.bind_some, wrap_pred h1]
    rw [i_in]; simp only [Option.bind_some, wrap_succ (show j < 9223372036854775807 by omega)]
    by_cases c : -1 ≤ nth x (j : Int) ∧ nth x (j : Int) ≤ (a.2.1.length : Int) - 1
    · rw [if_pos (by simpa using c), if_pos c]
    · rw [if_neg (by simpa using c), if_neg c]
  have outer := scan (f := m_i_IsValidAutomaton_l0 a) a.2.2 (fun r => (∀ t ∈ r, -1 ≤ t ∧ t ≤ (a.2.1.length : Int) - 1) ∧ r.length = 9) false h2 (fun i hi => by
    unfold m_i_IsValidAutomaton_l0
    rw [if_pos (by simp; omega), getI_nth (by omega) (by omega)]; simp only [Option.bind_some]
    rcases inner (nth a.2.2 (i : Int)) (h3 _ (nth_mem (by omega) (by omega))) with ⟨e, k⟩ | ⟨e, k⟩
    · rw [bindL_brk e]
      by_cases c : (nth a.2.2 (i : Int)).length = 9
      · rw [if_neg (by simp; omega), if_pos ⟨k, c⟩, wrap_succ (show i < 9223372036854775807 by omega)]
      · rw [if_pos (by simp; omega), if_neg (fun h => c h.2)]
    · rw [bindL_ret e, if_neg (fun h => k h.1)]) (by unfold m_i_IsValidAutomaton_l0; rw [if_neg (by simp)])
  rcases outer with ⟨e, k⟩ | ⟨e, k⟩
  · exact ⟨true, by rw [bindL_brk e], by simp; exact ⟨by omega, rfl, ⟨c1.1, by omega⟩, c2, fun r hr => (k r hr).2, fun r hr => ent_iff.1 (k r hr).1⟩⟩
  · exact ⟨false, by rw [bindL_ret e], by simp; exact fun _ h => k fun r hr => ⟨ent_iff.2 (h.ent r hr), h.row r hr⟩⟩
section
variable {a : AutT} {n : Nat} (V : VA a n)
include V
theorem VA.pos : 0 < n := by have := V.start; omega
theorem VA.rowAt {s : Int} (h0 : 0 ≤ s) (h1 : s < n) : (nth a.2.2 s).length = 9 := V.row _ (nth_mem h0 (by rw [V.nlen]; exact h1))
theorem VA.mv {s : Int} {k : Nat} (h0 : 0 ≤ s) (h1 : s < n) (hk : k < 9) : -1 ≤ mv a s k ∧ mv a s k < n :=
  V.ent _ (nth_mem h0 (by rw [V.nlen]; exact h1)) _ (nth_mem (by omega) (by rw [V.rowAt h0 h1]; omega))
theorem VA.get {s : Int} (h0 : 0 ≤ s) (h1 : s < n) : getI a.2.2 s = some (nth a.2.2 s) := getI_nth h0 (by rw [V.nlen]; exact h1)
theorem VA.get2 {s : Int} {k : Nat} (h0 : 0 ≤ s) (h1 : s < n) (hk : k < 9) : getI (nth a.2.2 s) (k : Int) = some (D.mv a s k) := getI_nth (by omega) (by rw [V.rowAt h0 h1]; omega)
theorem VA.acc {s : Int} (h0 : 0 ≤ s) (h1 : s < n) : getI a.2.1 s = some (nth a.2.1 s) := getI_nth h0 (by rw [V.len]; exact h1)
theorem i_move {s : Int} {k : Nat} (h0 : 0 ≤ s) (h1 : s < n) (hk : k < 9) : m_i_Automaton_move a s (k : Int) = some (mv a s k) := by
  unfold m_i_Automaton_move m_i_isLetter
  rw [if_neg (by simp; omega), i_in]; simp only [Option.bind_some]
  rw [if_pos (by simp; omega), V.get h0 h1]; simp only [Option.bind_some]
  rw [V.get2 h0 h1 hk]; rfl
end
theorem i_move_neg {a : AutT} {s : Int} {k : Int} (h0 : s < 0) : m_i_Automaton_move a s k = some (-1) := by
  unfold m_i_Automaton_move; rw [if_pos (by simpa using h0)]
end Go.Proofs.Ytcihbmdppgpmjaa.D
