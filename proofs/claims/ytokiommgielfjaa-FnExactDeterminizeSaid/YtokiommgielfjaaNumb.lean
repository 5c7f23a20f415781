/- Automata whose states are found from a first one, in plain Lean; l11Find. -/
import Derived.Test.YtokiommgielfjaaAccepts
set_option linter.unusedVariables false
set_option linter.unusedSimpArgs false
namespace Go.Proofs.Ytokiommgielfjaa
open Go.RowKit

/-- the numbers that are found so far and the row of s, behind the letters below k -/
def rowAt (nx : Int → Nat → Option Int) (s : Int) (L : List Int) : Nat → List Int × List Int
  | 0 => (L, [])
  | k + 1 => match nx s k with
    | none => ((rowAt nx s L k).1, (rowAt nx s L k).2 ++ [-1])
    | some t => match pos (rowAt nx s L k).1 t with
      | some n => ((rowAt nx s L k).1, (rowAt nx s L k).2 ++ [(n : Int)])
      | none => ((rowAt nx s L k).1 ++ [t], (rowAt nx s L k).2 ++ [((rowAt nx s L k).1.length : Int)])
def numb (nx : Int → Nat → Option Int) (ac : Int → Bool) (most : Int) : Nat → Nat → List Int → List Bool → List (List Int) → DAutomaton × Bool
  | 0, _, _, _, _ => ((0, [], []), false)
  | f + 1, s, L, A, N => match L[s]? with
    | none => ((0, A, N), true)
    | some x => if most < (rowAt nx x L 9).1.length then ((0, [], []), false) else numb nx ac most f (s + 1) (rowAt nx x L 9).1 (A ++ [ac x]) (N ++ [(rowAt nx x L 9).2])
theorem rowAt_len (nx : Int → Nat → Option Int) (s : Int) (L : List Int) : ∀ k, L.length ≤ (rowAt nx s L k).1.length ∧ (rowAt nx s L k).1.length ≤ L.length + k ∧ (rowAt nx s L k).2.length = k
  | 0 => by simp [rowAt]
  | k + 1 => by
    have := rowAt_len nx s L k
    unfold rowAt
    split
    · simp; omega
    · split <;> simp <;> omega
theorem rowAt_dead {nx : Int → Nat → Option Int} {s : Int} {L : List Int} {k : Nat} (h : nx s k = none) : rowAt nx s L (k + 1) = ((rowAt nx s L k).1, (rowAt nx s L k).2 ++ [-1]) := by
  rw [rowAt, h]
theorem rowAt_old {nx : Int → Nat → Option Int} {s t : Int} {L : List Int} {k n : Nat} (h : nx s k = some t) (hp : pos (rowAt nx s L k).1 t = some n) : rowAt nx s L (k + 1) = ((rowAt nx s L k).1, (rowAt nx s L k).2 ++ [(n : Int)]) := by
  rw [rowAt, h]; simp only [hp]
theorem rowAt_new {nx : Int → Nat → Option Int} {s t : Int} {L : List Int} {k : Nat} (h : nx s k = some t) (hp : pos (rowAt nx s L k).1 t = none) : rowAt nx s L (k + 1) = ((rowAt nx s L k).1 ++ [t], (rowAt nx s L k).2 ++ [((rowAt nx s L k).1.length : Int)]) := by
  rw [rowAt, h]; simp only [hp]
/-- what was found stays where it is -/
theorem rowAt_get (nx : Int → Nat → Option Int) (s : Int) (L : List Int) {i : Nat} {x : Int} (h : L[i]? = some x) : ∀ k, (rowAt nx s L k).1[i]? = some x
  | 0 => h
  | k + 1 => by
    have ih := rowAt_get nx s L h k
    unfold rowAt
    split
    · exact ih
    · split
      · exact ih
      · have := (List.getElem?_eq_some_iff.1 ih).1
        simp only
        rw [List.getElem?_append_left this]; exact ih
theorem rowAt_nodup (nx : Int → Nat → Option Int) (s : Int) (L : List Int) (h : L.Nodup) : ∀ k, (rowAt nx s L k).1.Nodup
  | 0 => h
  | k + 1 => by
    have ih := rowAt_nodup nx s L h k
    unfold rowAt
    split
    · exact ih
    · split
      · exact ih
      · rename_i hp
        have := pos_none.1 hp
        simp only
        refine List.nodup_append.2 ⟨ih, by simp, ?_⟩
        intro a ha b hb
        simp at hb; subst hb
        intro e; subst e; exact this ha
theorem numb_end {nx : Int → Nat → Option Int} {ac : Int → Bool} {most : Int} {f s : Nat} {L : List Int} {A : List Bool} {N : List (List Int)} (h : L.length ≤ s) : numb nx ac most (f + 1) s L A N = ((0, A, N), true) := by
  rw [numb, List.getElem?_eq_none h]
theorem numb_much {nx : Int → Nat → Option Int} {ac : Int → Bool} {most : Int} {f s : Nat} {L : List Int} {A : List Bool} {N : List (List Int)} {x : Int} (h : L[s]? = some x) (hm : most < (rowAt nx x L 9).1.length) : numb nx ac most (f + 1) s L A N = ((0, [], []), false) := by
  rw [numb, h]; simp only [if_pos hm]
theorem numb_go {nx : Int → Nat → Option Int} {ac : Int → Bool} {most : Int} {f s : Nat} {L : List Int} {A : List Bool} {N : List (List Int)} {x : Int} (h : L[s]? = some x) (hm : ¬ most < (rowAt nx x L 9).1.length) : numb nx ac most (f + 1) s L A N = numb nx ac most f (s + 1) (rowAt nx x L 9).1 (A ++ [ac x]) (N ++ [(rowAt nx x L 9).2]) := by
  rw [numb, h]; simp only [if_neg hm]

/-- where it is, -1 for nowhere -/
def fnd (L : List Int) (t : Int) : Int := match pos L t with | some n => n | none => -1
set_option maxHeartbeats 1000000 in
theorem sFind_any (v : Value) (L : List Int) (t : Int) (w : World) (h : rIntS.rd w.heap.size w [v] L) :
    Calls Try.prog 50 #[v, .int .i64 t] w fun e w' => e = .returned (.int .i64 (fnd L t)) ∧ St w w' [] := by
  obtain ⟨ao, cap, b, off, hv, hl, hao, hc⟩ := flat_open h
  obtain rfl : v = _ := by simpa using hv
  clear hv h
  unfold lim at hl
  have HC := hid hc; have HA := hid hao; clear hc hao
  go_enter Try.func50, Try.ntmps50
  go_wp2
  go_loopw [5] (fun i wr => ∃ k : Nat, k ≤ L.length ∧ i = .int .i64 k ∧ t ∉ L.take k ∧ St w wr []) (fun i _ => L.length - (intOf i).toNat)
  case atStart => exact ⟨0, Nat.zero_le _, rfl, by simp, St.init w⟩
  case round =>
    obtain ⟨k, hk, rfl, ht, st⟩ := hrel
    have S1 := hid st
    have HT := hid ht; clear ht
    by_cases hlt : k < L.length
    · obtain ⟨y, hy⟩ := get_of_lt hlt
      obtain ⟨q, iy⟩ := HC.out k y hy
      obtain ⟨rfl, hb⟩ := HA.out (by omega)
      have q1 := (st.below.cell (p := ⟨b, off + k, none⟩) hb).trans q
      clear q st
      have HY := hid hy; clear hy
      by_cases hyt : y = t
      · have E := hid (show fnd L t = (k : Int) by unfold fnd; rw [pos_of_take HT.out (hyt ▸ HY.out)])
        have h3 : (y == t) = true := by simpa using hyt
        clear hyt
        go_wp2
        go_ret
        exact ⟨by rw [E.out]; rfl, S1.out⟩
      · have h3 : (y == t) = false := by simpa using hyt
        have HN := hid hyt; clear hyt
        go_wp2
        go_roundw
        case rel => exact ⟨k + 1, by omega, by go_num, by rw [take_get HY.out]; simp; exact ⟨HT.out, fun e => HN.out e.symm⟩, S1.out⟩
        case measure => simp [intOf]; omega
    · obtain rfl : k = L.length := by omega
      have E := hid (show fnd L t = -1 by unfold fnd; rw [pos_none.2 (by have := HT.out; rwa [List.take_length] at this)])
      go_wp2
      go_ret
      exact ⟨by rw [E.out]; rfl, S1.out⟩
end Go.Proofs.Ytokiommgielfjaa
