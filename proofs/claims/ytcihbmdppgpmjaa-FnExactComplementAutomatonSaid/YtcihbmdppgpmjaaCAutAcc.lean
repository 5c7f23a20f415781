/- What an automaton accepts, by the program. -/
import Derived.Test.YtcihbmdppgpmjaaCAut
set_option linter.unusedVariables false
namespace Go.Proofs.Ytcihbmdppgpmjaa.D
open Go.RowKit
theorem i_accepts {a : AutT} {n : Nat} (V : VA a n) {s : Int} (h0 : 0 ≤ s) (h1 : s < n) : m_i_Automaton_accepts a s = some (nth a.2.1 s) := by
  unfold m_i_Automaton_accepts
  rw [if_pos (by simpa using h0), V.acc h0 h1]; rfl
theorem i_accepts_neg {a : AutT} {s : Int} (h0 : s < 0) : m_i_Automaton_accepts a s = some false := by
  unfold m_i_Automaton_accepts; rw [if_neg (by simp; omega)]
end Go.Proofs.Ytcihbmdppgpmjaa.D
