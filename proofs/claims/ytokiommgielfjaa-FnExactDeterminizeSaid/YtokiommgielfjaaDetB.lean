/- How much Determinize answers with. -/
import Derived.Test.YtokiommgielfjaaDetI
set_option linter.unusedVariables false
namespace Go.Proofs.Ytokiommgielfjaa
theorem sumL_ceInt : ∀ xs : List Int, sumL ceInt xs = xs.length
  | [] => rfl
  | x :: xs => by simp [sumL, sumL_ceInt xs, ceInt]; omega
theorem sumL_ceBool : ∀ xs : List Bool, sumL ceBool xs = xs.length
  | [] => rfl
  | x :: xs => by simp [sumL, sumL_ceBool xs, ceBool]; omega
theorem numb_cn (nx : Int → Nat → Option Int) (ac : Int → Bool) (most : Int) : ∀ f s L A N, cnAutomaton (numb nx ac most f s L A N).1 ≤ cnBoolS A + cnIntSS N + 10 * f
  | 0, s, L, A, N => by simp [numb, cnAutomaton, cnBoolS, cnIntSS, sumL]
  | f + 1, s, L, A, N => by
    unfold numb
    split
    · simp [cnAutomaton]
    · rename_i x hx
      split
      · simp [cnAutomaton, cnBoolS, cnIntSS, sumL]
      · have h := numb_cn nx ac most f (s + 1) (rowAt nx x L 9).1 (A ++ [ac x]) (N ++ [(rowAt nx x L 9).2])
        have h1 : cnBoolS (A ++ [ac x]) = cnBoolS A + 1 := by simp [cnBoolS, sumL_append, sumL, ceBool]
        have h2 : cnIntSS (N ++ [(rowAt nx x L 9).2]) = cnIntSS N + 9 := by
          simp only [cnIntSS, sumL_append, sumL, ceIntS, cnIntS, sumL_ceInt, (rowAt_len nx x L 9).2.2]
        omega
theorem cnbDeterminize0 (x : DPositions) (_ : szPositions x ≤ 1048576) : cnAutomaton (dDeterminize x).1 ≤ 8388608 := by
  unfold dDeterminize dSubsets
  split
  · have := numb_cn (nxSet x) (accSet x) 12 14 0 [1] [] []
    simp only [cnBoolS, cnIntSS, sumL] at this; omega
  · simp [cnAutomaton, cnBoolS, cnIntSS, sumL]
end Go.Proofs.Ytokiommgielfjaa
