/- The states from which an accepting state is reached: by rounds, and until nothing turns. -/
import Derived.Test.YtcihbmdppgpmjaaCAut
set_option linter.unusedVariables false
set_option linter.unusedSimpArgs false
set_option linter.unnecessarySimpa false
set_option linter.unusedSectionVars false
namespace Go.Proofs.Ytcihbmdppgpmjaa.D
open Go.RowKit

def hitT (out : List Bool) (t : Int) : Bool := decide (t ≥ 0) && nth out t
def hit (out : List Bool) (row : List Int) : Bool := row.any (hitT out)
def passAt (a : AutT) (out : List Bool) (s : Nat) : List Bool := if hit out (nth a.2.2 s) then out.set s true else out
def passTo (a : AutT) (out : List Bool) : Nat → List Bool
  | 0 => out
  | s + 1 => passAt a (passTo a out s) s
def cnt (out : List Bool) : Nat := out.count true
theorem cnt_le (out : List Bool) : cnt out ≤ out.length := List.count_le_length
theorem set_same {out : List Bool} {s : Nat} (h : s < out.length) (k : out[s] = true) : out.set s true = out := by
  refine List.ext_getElem (by simp) fun i h1 h2 => ?_
  rw [List.getElem_set]
  split
  · rename_i e; subst e; exact k.symm
  · rfl
theorem cnt_set {out : List Bool} {s : Nat} (h : s < out.length) (k : out[s] = false) : cnt (out.set s true) = cnt out + 1 := by
  unfold cnt
  rw [List.count_set h]; simp [k]
section
variable {a : AutT} {n : Nat}
theorem passAt_length (a : AutT) (out : List Bool) (s : Nat) : (passAt a out s).length = out.length := by unfold passAt; split <;> simp
theorem passTo_length (a : AutT) (out : List Bool) : ∀ s, (passTo a out s).length = out.length
  | 0 => rfl
  | s + 1 => by rw [passTo, passAt_length, passTo_length a out s]
theorem passAt_cases {out : List Bool} {s : Nat} (h : s < out.length) : (passAt a out s = out ∧ ¬ (hit out (nth a.2.2 s) = true ∧ nth out s = false)) ∨ (cnt (passAt a out s) = cnt out + 1 ∧ hit out (nth a.2.2 s) = true ∧ nth out s = false) := by
  unfold passAt
  rw [nth_nat h]
  cases hh : hit out (nth a.2.2 s) with
  | false => exact .inl ⟨by simp, by simp⟩
  | true =>
    cases hk : out[s] with
    | true => exact .inl ⟨by simp [set_same h hk], by simp⟩
    | false => exact .inr ⟨by simp [cnt_set h hk], rfl, rfl⟩
theorem passTo_cnt {out : List Bool} : ∀ s, s ≤ out.length → (passTo a out s = out ∧ cnt (passTo a out s) = cnt out) ∨ cnt out < cnt (passTo a out s)
  | 0, _ => .inl ⟨rfl, rfl⟩
  | s + 1, hs => by
    have hl : s < (passTo a out s).length := by rw [passTo_length]; omega
    have ih := passTo_cnt (out := out) s (by omega)
    rw [passTo]
    rcases passAt_cases (a := a) hl with ⟨e, -⟩ | ⟨e, -, -⟩
    · rw [e]; exact ih
    · rcases ih with ⟨-, h2⟩ | h
      · exact .inr (by omega)
      · exact .inr (by omega)
def it (a : AutT) : Nat → List Bool
  | 0 => a.2.1
  | j + 1 => passTo a (it a j) a.2.1.length
theorem it_length (a : AutT) : ∀ j, (it a j).length = a.2.1.length
  | 0 => rfl
  | j + 1 => by rw [it, passTo_length, it_length a j]
theorem it_cnt (a : AutT) (j : Nat) : cnt (it a j) ≤ a.2.1.length := by rw [← it_length a j]; exact cnt_le _
theorem it_step (a : AutT) (j : Nat) : (it a (j + 1) = it a j) ∨ cnt (it a j) < cnt (it a (j + 1)) := by
  rcases passTo_cnt (a := a) (out := it a j) a.2.1.length (by rw [it_length]; exact Nat.le_refl _) with h | h
  · exact .inl h.1
  · exact .inr h
theorem it_fix {j k : Nat} (h : it a (j + 1) = it a j) (hk : j ≤ k) : it a k = it a j := by
  induction hk with
  | refl => rfl
  | step _ ih => rw [it, ih]; exact h
theorem it_fix_eq {j k : Nat} (h : it a (j + 1) = it a j) (h' : it a (k + 1) = it a k) : it a j = it a k := by
  rcases Nat.le_total j k with e | e
  · exact (it_fix h e).symm
  · exact it_fix h' e
theorem it_done (a : AutT) : it a (a.2.1.length + 1) = it a a.2.1.length := by
  have key : ∀ j, it a (j + 1) = it a j ∨ j + 1 ≤ cnt (it a (j + 1)) := by
    intro j
    induction j with
    | zero => rcases it_step a 0 with h | h
              · exact .inl h
              · exact .inr (by omega)
    | succ j ih =>
      rcases it_step a (j + 1) with h | h
      · exact .inl h
      · rcases ih with h' | h'
        · left; rw [it, h']; exact h'
        · exact .inr (by omega)
  rcases key a.2.1.length with h | h
  · exact h
  · have := it_cnt a (a.2.1.length + 1); omega
/-- the live states -/
def live (a : AutT) : List Bool := it a a.2.1.length
theorem live_length (a : AutT) : (live a).length = a.2.1.length := it_length a _
theorem any_take {α : Type} [Inhabited α] {row : List α} {p : α → Bool} {k : Nat} (h : k < row.length) : (row.take (k + 1)).any p = ((row.take k).any p || p (nth row (k : Int))) := by
  rw [List.take_succ_eq_append_getElem h, List.any_append, nth_nat h]; simp
section
variable (V : VA a n) (hn : n ≤ 1000000)
include V hn
omit hn in
theorem hitT_ok {out : List Bool} {s : Int} {k : Nat} (h0 : 0 ≤ s) (h1 : s < n) (hk : k < 9) (hl : out.length = n) : mv a s k ≥ 0 → getI out (mv a s k) = some (nth out (mv a s k)) := fun h =>
  getI_nth h (by rw [hl]; exact (V.mv h0 h1 hk).2)
theorem s_live_in {out : List Bool} {s : Nat} (hs : s < n) (hl : out.length = n) : loopM (m_s_l11Live_l2 a (out, (s : Int))) FUEL (out, 0) = some (.brk (passAt a out s, 9)) := by
  have hr := V.rowAt (s := s) (by omega) (by omega)
  have hls : s < out.length := by omega
  have := loopM_at (f := m_s_l11Live_l2 a (out, (s : Int))) (fun k => (if ((nth a.2.2 (s : Int)).take k).any (hitT out) then out.set s true else out, (k : Int))) 9 (fun k hk => by
    unfold m_s_l11Live_l2
    simp only
    rw [if_pos (by simp; omega), V.get (by omega) (by omega)]; simp only [Option.bind_some]
    rw [V.get2 (by omega) (by omega) hk]; simp only [Option.bind_some]
    rw [any_take (by omega), show nth (nth a.2.2 (s : Int)) (k : Int) = mv a s k from rfl]
    simp only [wrap_succ (show k < 9223372036854775807 by omega)]
    by_cases c : mv a s k ≥ 0
    · have hset : (out.set s true).length = n := by simp [hl]
      have hm := (V.mv (s := s) (k := k) (by omega) (by omega) hk).2
      rw [if_pos (by simpa using c)]
      by_cases q : ((nth a.2.2 (s : Int)).take k).any (hitT out) = true
      · simp only [q, if_true, Bool.true_or]
        rw [getI_nth c (by rw [hset]; exact hm), getI_nth (by omega) (by rw [hset]; omega)]; simp only [Option.bind_some, Int.toNat_natCast]
        split <;> simp
      · simp only [q, Bool.false_eq_true, if_false, Bool.false_or, hitT]
        rw [getI_nth c (by rw [hl]; exact hm), getI_nth (by omega) (by rw [hl]; omega)]; simp only [Option.bind_some, Int.toNat_natCast]
        cases hc : nth out (mv a s k) <;> simp [hc, c]
    · rw [if_neg (by simpa using c)]
      simp [hitT, c]) (by unfold m_s_l11Live_l2; simp) (by unfold FUEL; omega)
  have e9 : (nth a.2.2 (s : Int)).take 9 = nth a.2.2 (s : Int) := List.take_of_length_le (by omega)
  rw [e9] at this
  exact this
theorem s_live_round {out : List Bool} (hl : out.length = n) : loopM (m_s_l11Live_l1 a) FUEL (out, 0) = some (.brk (passTo a out n, (n : Int))) := by
  have hlen := V.len
  refine loopM_at (f := m_s_l11Live_l1 a) (fun s => (passTo a out s, (s : Int))) n (fun s hs => ?_) ?_ (up63 (by omega))
  · unfold m_s_l11Live_l1
    simp only
    rw [if_pos (by simp; omega), bindL_brk (s_live_in V hn hs (by rw [passTo_length]; exact hl)), wrap_succ (by omega)]
    rfl
  · unfold m_s_l11Live_l1
    simp only
    rw [if_neg (by simp; omega)]
theorem s_live : m_s_l11Live a = some (live a) := by
  have hlen := V.len
  unfold m_s_l11Live
  rw [appI_ok (by simp; omega)]; simp only [Option.bind_some, List.nil_append]
  have := loopM_at (f := m_s_l11Live_l0 a) (fun j => (it a j, (j : Int))) n (fun j hj => by
    unfold m_s_l11Live_l0
    simp only
    rw [if_pos (by simp; omega), bindL_brk (s_live_round V hn (by rw [it_length]; exact hlen)), wrap_succ (by omega), it, hlen]) (by
    unfold m_s_l11Live_l0
    simp only
    rw [if_neg (by simp; omega)]) (up63 (by omega))
  exact (bindL_brk this).trans (by simp [live, hlen])
theorem i_live_in {out : List Bool} {g : Bool} {s : Nat} (hs : s < n) (hl : out.length = n) : loopM (m_i_Automaton_live_l2 (out, g, (s : Int)) (nth a.2.2 (s : Int))) FUEL (out, g, 0) = some (.brk (passAt a out s, g || (hit out (nth a.2.2 (s : Int)) && !nth out (s : Int)), 9)) := by
  have hr := V.rowAt (s := s) (by omega) (by omega)
  have hls : s < out.length := by omega
  have := loopM_at (f := m_i_Automaton_live_l2 (out, g, (s : Int)) (nth a.2.2 (s : Int))) (fun k => (if ((nth a.2.2 (s : Int)).take k).any (hitT out) then out.set s true else out, g || (((nth a.2.2 (s : Int)).take k).any (hitT out) && !nth out (s : Int)), (k : Int))) 9 (fun k hk => by
    unfold m_i_Automaton_live_l2
    simp only
    rw [if_pos (by simp [hr]; omega), V.get2 (by omega) (by omega) hk]; simp only [Option.bind_some]
    rw [any_take (by omega), show nth (nth a.2.2 (s : Int)) (k : Int) = mv a s k from rfl]
    simp only [wrap_succ (show k < 9223372036854775807 by omega)]
    by_cases c : mv a s k ≥ 0
    · have hset : (out.set s true).length = n := by simp [hl]
      have hm := (V.mv (s := s) (k := k) (by omega) (by omega) hk).2
      rw [if_pos (by simpa using c)]
      by_cases q : ((nth a.2.2 (s : Int)).take k).any (hitT out) = true
      · simp only [q, if_true, Bool.true_or]
        have hself : nth (out.set s true) (s : Int) = true := by
          have := nth_set_self (xs := out) (i := (s : Int)) (x := true) (by omega) (by omega)
          simpa using this
        rw [getI_nth c (by rw [hset]; exact hm), getI_nth (by omega) (by rw [hset]; omega)]; simp only [Option.bind_some, Int.toNat_natCast, hself, if_true]
        split <;> simp
      · simp only [q, Bool.false_eq_true, if_false, Bool.false_or, hitT, Bool.false_and, Bool.or_false]
        rw [getI_nth c (by rw [hl]; exact hm), getI_nth (by omega) (by rw [hl]; omega)]; simp only [Option.bind_some, Int.toNat_natCast]
        cases hc : nth out (mv a s k) with
        | false => simp [c]
        | true =>
          cases hd : nth out (s : Int) with
          | false => simp [c]
          | true =>
            rw [nth_nat hls] at hd
            simp [c, set_same hls hd]
    · rw [if_neg (by simpa using c)]
      simp [hitT, c]) (by unfold m_i_Automaton_live_l2; simp [hr]) (by unfold FUEL; omega)
  have e9 : (nth a.2.2 (s : Int)).take 9 = nth a.2.2 (s : Int) := List.take_of_length_le (by omega)
  rw [e9] at this
  have e0 : (g || (((nth a.2.2 (s : Int)).take 0).any (hitT out) && !nth out (s : Int))) = g := by simp
  rw [e0] at this
  exact this
theorem i_live_round {out : List Bool} (hl : out.length = n) : ∃ g, loopM (m_i_Automaton_live_l1 a) FUEL (out, false, 0) = some (.brk (passTo a out n, g, (n : Int))) ∧ (g = true ↔ cnt out < cnt (passTo a out n)) := by
  have hlen := V.len
  have hnl := V.nlen
  obtain ⟨s', e, ⟨g, rfl, hg⟩⟩ := loopM_for (f := m_i_Automaton_live_l1 a) (fun s st => ∃ g, st = (passTo a out s, g, (s : Int)) ∧ (g = true ↔ cnt out < cnt (passTo a out s))) n (by
    rintro s st hs ⟨g, rfl, hg⟩
    have hpl : (passTo a out s).length = n := by rw [passTo_length]; exact hl
    unfold m_i_Automaton_live_l1
    simp only
    rw [if_pos (by simp; omega), V.get (by omega) (by omega)]; simp only [Option.bind_some]
    rw [bindL_brk (i_live_in V hn hs hpl), wrap_succ (by omega)]
    refine ⟨_, rfl, _, rfl, ?_⟩
    rw [Bool.or_eq_true, Bool.and_eq_true, Bool.not_eq_true', hg, passTo]
    have hc := passTo_cnt (a := a) (out := out) s (by omega)
    rcases passAt_cases (a := a) (out := passTo a out s) (s := s) (by omega) with ⟨e, k⟩ | ⟨e, k⟩
    · rw [e]; exact ⟨fun h => h.elim id fun h => absurd h k, .inl⟩
    · rw [e]
      exact ⟨fun _ => by rcases hc with ⟨-, h⟩ | h <;> omega, fun _ => .inr k⟩) (by
    rintro s ⟨g, rfl, hg⟩
    unfold m_i_Automaton_live_l1
    simp only
    rw [if_neg (by simp; omega)]) ⟨false, rfl, by simp [passTo]⟩ (up63 (by omega))
  exact ⟨g, e, hg⟩
theorem i_live : m_i_Automaton_live a = some (live a) := by
  have hlen := V.len
  unfold m_i_Automaton_live m_g_slices_Clone_S_bool_bool
  rw [appI_ok (by simp; omega)]; simp only [Option.bind_some, List.nil_append]
  obtain ⟨o, e, i, rfl, hi⟩ := loopM_go (f := m_i_Automaton_live_l0 a) (fun i s => ∃ b, s = (it a i, b) ∧ (b = true → i ≤ cnt (it a i)) ∧ (b = false → it a (i + 1) = it a i)) (fun o => ∃ i, o = .brk (it a i, false) ∧ it a (i + 1) = it a i) (n + 1) (s := (a.2.1, true)) (by
    rintro i s hi ⟨b, rfl, h1, h2⟩
    unfold m_i_Automaton_live_l0
    simp only
    cases b with
    | false => exact .inr ⟨_, by rw [if_neg (by simp)], (fun s' e => by cases e), i, rfl, h2 rfl⟩
    | true =>
      have hc := it_cnt a i
      have h1 := h1 rfl
      obtain ⟨g, e, hg⟩ := i_live_round V hn (out := it a i) (by rw [it_length]; exact hlen)
      have ee : passTo a (it a i) n = it a (i + 1) := by rw [it, hlen]
      rw [ee] at e hg
      refine .inl ⟨by omega, (it a (i + 1), g), by rw [if_pos rfl, bindL_brk e], g, rfl, fun h => ?_, fun h => ?_⟩
      · have := hg.1 h; omega
      · have hs : it a (i + 1) = it a i := by
          rcases it_step a i with h' | h'
          · exact h'
          · rw [← hg, h] at h'; cases h'
        rw [it, hs]; exact hs) ⟨true, rfl, fun _ => Nat.zero_le _, fun h => by cases h⟩ (up63 (by omega))
  rw [bindL_brk e]
  have := it_fix_eq hi (it_done a)
  simp [live, this]
end
end
end Go.Proofs.Ytcihbmdppgpmjaa.D
