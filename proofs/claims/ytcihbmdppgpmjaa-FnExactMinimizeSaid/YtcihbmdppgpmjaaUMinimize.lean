/- The plain law of Minimize: the reference and the program find the same minimal automaton. -/
import Derived.Test.YtcihbmdppgpmjaaUPl
import Derived.Test.YtcihbmdppgpmjaaUMinim3
import Derived.Test.YtcihbmdppgpmjaaUAutK
set_option linter.unusedVariables false
set_option linter.unusedSimpArgs false
set_option linter.unnecessarySimpa false
set_option linter.unusedSectionVars false
namespace Go.Proofs.Ytcihbmdppgpmjaa.D
open Go.RowKit

theorem Min_eq (a : AutT) (hs : Data.sm a) : ∃ r, m_s_Minimize a = some r ∧ m_i_Minimize a = some r ∧ Data.sm r := by
  obtain ⟨-, ⟨ha, -⟩, hn, hr⟩ := hs
  obtain ⟨b1, e1, k1⟩ := s_valid a (by omega) (by omega)
  obtain ⟨b2, e2, k2⟩ := i_valid a (by omega) (by omega) (fun r h => by have : r.length ≤ 1048576 := (hr r h).1; omega)
  unfold m_s_Minimize m_i_Minimize
  simp only [peta]
  rw [e1, e2]; simp only [Option.bind_some]
  cases hb : b1 with
  | false =>
    have : b2 = false := by cases h2 : b2 with
      | false => rfl
      | true => have := k1.2 (k2.1 h2); rw [hb] at this; cases this
    subst this
    exact ⟨(0, [], []), rfl, rfl, trivial, ⟨by decide, fun _ h => by cases h⟩, by decide, fun _ h => by cases h⟩
  | true =>
    obtain ⟨h12, V⟩ := k1.1 hb
    have : b2 = true := k2.2 ⟨h12, V⟩
    subst this
    obtain ⟨r, er, ei, hsm⟩ := minim_eq V (by omega)
    refine ⟨r, ?_, ?_, hsm⟩
    · rw [if_pos rfl, er]; rfl
    · rw [if_pos rfl, ei]; rfl
theorem lawMinimize (x : AutT) (hx : Data.lim x) : m_w_FnExactMinimize x = some true := by
  unfold m_w_FnExactMinimize
  simp only [peta]
  obtain ⟨r1, e1, k1⟩ := z_szAutomaton x 1048576 hx (by decide) (by decide)
  rw [e1]; simp only [Option.bind_some]
  rcases k1 with k1 | ⟨k1, j1, s1⟩
  · rw [if_pos (decide_eq_true k1)]
  rw [if_neg (by simpa using k1)]
  obtain ⟨r, es, ei, sr⟩ := Min_eq x s1
  obtain ⟨c1, hc1, hm1⟩ := mk_Automaton x s1
  obtain ⟨y1, em1, -⟩ := hm1 1 (by omega)
  obtain ⟨c2, hc2, hm2⟩ := mk_Automaton r sr
  obtain ⟨y2, em2, eh2⟩ := hm2 1 (by omega)
  have em1 : m_w_markAutomaton x 1 = _ := em1
  have em2 : m_w_markAutomaton r 1 = _ := em2
  have eh2 : m_w_heldAutomaton (r.1, y2.1, y2.2) 1 = _ := eh2
  simp only [t_toAutomaton x s1, es, ei, q_eqAutomaton r r sr sr, q_eqAutomaton x x s1 s1, Option.bind_some, peta, em1, em2, eh2, decide_true, if_true]
  have n1 : ¬ ((1 + c1 : Nat) : Int) < 0 := by omega
  have n2 : ¬ ((1 + c2 : Nat) : Int) < 0 := by omega
  simp only [decide_eq_true_eq, n1, n2, if_false, bne_self_eq_false, Bool.false_eq_true]
end Go.Proofs.Ytcihbmdppgpmjaa.D
