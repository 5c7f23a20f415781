/- The plain law of UniteAutomata. -/
import Derived.Test.YtcihbmdppgpmjaaVPl
import Derived.Test.YtcihbmdppgpmjaaVBool2
import Derived.Test.YtcihbmdppgpmjaaVAutK
set_option linter.unusedVariables false
set_option linter.unusedSimpArgs false
set_option linter.unnecessarySimpa false
set_option linter.unusedSectionVars false
namespace Go.Proofs.Ytcihbmdppgpmjaa.D
open Go.RowKit

theorem UniteAutomata_eq (a b : AutT) (ha : Data.sm a) (hb : Data.sm b) : ∃ r, m_s_UniteAutomata a b = some r ∧ m_i_UniteAutomata a b = some r ∧ Data.sm r.1 := by
  obtain ⟨r, e1, e2, e3⟩ := bool_eq 2 (test := fun a0 a1 => m_i_UniteAutomata_1 a0 a1) (fun x y => by
    show m_i_UniteAutomata_1 x y = _
    unfold m_i_UniteAutomata_1 opB
    cases x <;> simp) ha hb
  unfold m_s_UniteAutomata m_i_UniteAutomata
  simp only [peta]
  refine ⟨r, by rw [e1]; rfl, ?_, e3⟩
  rw [e2]; rfl
theorem lawUniteAutomata (x y : AutT) (hx : Data.lim x) (hy : Data.lim y) : m_w_FnExactUniteAutomata x y = some true := by
  unfold m_w_FnExactUniteAutomata
  simp only [peta]
  obtain ⟨r1, e1, k1⟩ := z_szAutomaton x 1048576 hx (by decide) (by decide)
  rw [e1]; simp only [Option.bind_some]
  rcases k1 with k1 | ⟨k1, j1, s1⟩
  · rw [if_pos (decide_eq_true k1)]
  rw [if_neg (by simpa using k1)]
  obtain ⟨r2, e2, k2⟩ := z_szAutomaton y r1 hy k1 j1
  rw [e2]; simp only [Option.bind_some]
  rcases k2 with k2 | ⟨k2, j2, s2⟩
  · rw [if_pos (decide_eq_true k2)]
  rw [if_neg (by simpa using k2)]
  obtain ⟨r, es, ei, sr⟩ := UniteAutomata_eq x y s1 s2
  obtain ⟨c1, hc1, hm1⟩ := mk_Automaton x s1
  obtain ⟨y1, em1, -⟩ := hm1 1 (by omega)
  obtain ⟨c2, hc2, hm2⟩ := mk_Automaton y s2
  obtain ⟨y2, em2, -⟩ := hm2 (1 + c1) (by omega)
  obtain ⟨c3, hc3, hm3⟩ := mk_Automaton r.1 sr
  obtain ⟨y3, em3, eh3⟩ := hm3 1 (by omega)
  have em1 : m_w_markAutomaton x 1 = _ := em1
  have em3 : m_w_markAutomaton r.1 1 = _ := em3
  have eh3 : m_w_heldAutomaton (r.1.1, y3.1, y3.2) 1 = _ := eh3
  simp only [t_toAutomaton x s1, t_toAutomaton y s2, es, ei, q_eqAutomaton r.1 r.1 sr sr, q_eqAutomaton x x s1 s1, q_eqAutomaton y y s2 s2, Option.bind_some, peta, em1, em2, em3, eh3, decide_true, if_true]
  have n1 : ¬ ((1 + c1 + c2 : Nat) : Int) < 0 := by omega
  have n2 : ¬ ((1 + c3 : Nat) : Int) < 0 := by omega
  simp only [decide_eq_true_eq, n1, n2, if_false, bne_self_eq_false, Bool.false_eq_true]
end Go.Proofs.Ytcihbmdppgpmjaa.D
