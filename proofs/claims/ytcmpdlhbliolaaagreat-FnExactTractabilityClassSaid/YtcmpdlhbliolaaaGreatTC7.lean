/- FnExactTractabilityClass: for every input the law returns true and changes nothing that was there. Part 8 of 8. -/
import Derived.Test.YtcmpdlhbliolaaaGreatTC6
set_option linter.unusedVariables false
set_option linter.unusedSimpArgs false
set_option linter.unnecessarySimpa false
set_option linter.unusedSectionVars false
/- States that are reached: by rounds (the reference) and by a queue (the program). -/
set_option linter.unusedVariables false
set_option linter.unusedSimpArgs false
set_option linter.unnecessarySimpa false
set_option linter.unusedSectionVars false
namespace Go.Proofs.YtcmpdlhbliolaaaGreat.D
open Go.RowKit

def Step (a : AutT) (x y : Int) : Prop := ∃ k : Nat, k < 9 ∧ mv a x k = y ∧ 0 ≤ y
def ofw (a : AutT) (x : Int) (out : List Bool) : Nat → List Bool
  | 0 => out
  | k + 1 => if mv a x k ≥ 0 then (ofw a x out k).set (mv a x k).toNat true else ofw a x out k
theorem ofw_length (a : AutT) (x : Int) (out : List Bool) : ∀ k, (ofw a x out k).length = out.length
  | 0 => rfl
  | k + 1 => by rw [ofw]; split <;> simp [ofw_length a x out k]
section
variable {a : AutT} {n : Nat}
theorem ofw_at (V : VA a n) {x : Int} (h0 : 0 ≤ x) (h1 : x < n) {out : List Bool} (hl : out.length = n) {t : Int} (t0 : 0 ≤ t) (t1 : t < n) : ∀ k, k ≤ 9 → (nth (ofw a x out k) t = true ↔ nth out t = true ∨ ∃ j : Nat, j < k ∧ mv a x j = t)
  | 0, _ => by
    rw [ofw]
    constructor
    · exact .inl
    · rintro (h | ⟨j, h, -⟩)
      · exact h
      · omega
  | k + 1, hk => by
    have ih := ofw_at V h0 h1 hl t0 t1 k (by omega)
    have hm := V.mv (s := x) (k := k) h0 h1 (by omega)
    have hlen := ofw_length a x out k
    rw [ofw]
    split
    · rename_i c
      by_cases e : mv a x k = t
      · subst e
        rw [nth_set_self (by omega) (by omega)]
        exact ⟨fun _ => .inr ⟨k, by omega, rfl⟩, fun _ => rfl⟩
      · rw [nth_set_ne (by omega) (by omega) e, ih]
        constructor
        · rintro (h | ⟨j, h, h2⟩)
          · exact .inl h
          · exact .inr ⟨j, by omega, h2⟩
        · rintro (h | ⟨j, h, h2⟩)
          · exact .inl h
          · by_cases f : j = k
            · subst f; exact absurd h2 e
            · exact .inr ⟨j, by omega, h2⟩
    · rename_i c
      rw [ih]
      constructor
      · rintro (h | ⟨j, h, h2⟩)
        · exact .inl h
        · exact .inr ⟨j, by omega, h2⟩
      · rintro (h | ⟨j, h, h2⟩)
        · exact .inl h
        · by_cases f : j = k
          · subst f; omega
          · exact .inr ⟨j, by omega, h2⟩
theorem s_onw_first (V : VA a n) {x : Int} (h0 : 0 ≤ x) (h1 : x < n) {out : List Bool} (hl : out.length = n) : loopM (m_s_l13Onward_l0 a x) FUEL (out, 0) = some (.brk (ofw a x out 9, 9)) := by
  exact loopM_at (f := m_s_l13Onward_l0 a x) (fun k => (ofw a x out k, (k : Int))) 9 (fun k hk => by
    have hm := V.mv (s := x) (k := k) h0 h1 hk
    have hlen := ofw_length a x out k
    unfold m_s_l13Onward_l0
    simp only
    rw [if_pos (by simp; omega), V.get h0 h1]; simp only [Option.bind_some]
    rw [V.get2 h0 h1 hk]; simp only [Option.bind_some, wrap_succ (show k < 9223372036854775807 by omega)]
    rw [ofw]
    by_cases c : mv a x k ≥ 0
    · rw [if_pos (by simpa using c), if_pos c, getI_nth c (by omega)]; rfl
    · rw [if_neg (by simpa using c), if_neg c]; rfl) (by
    unfold m_s_l13Onward_l0
    simp) (by unfold FUEL; omega)
def ofwAt (a : AutT) (x : Int) (out : List Bool) : List Bool := if nth out x = true then ofw a x out 9 else out
theorem ofw_keep (V : VA a n) {x : Int} (h0 : 0 ≤ x) (h1 : x < n) {out : List Bool} (hl : out.length = n) {k : Nat} (hk : k ≤ 9) (hx : nth out x = true) : nth (ofw a x out k) x = true := (ofw_at V h0 h1 hl h0 h1 k hk).2 (.inl hx)
theorem s_onw_in (V : VA a n) {x : Int} (h0 : 0 ≤ x) (h1 : x < n) {out out0 : List Bool} (hl : out.length = n) : loopM (m_s_l13Onward_l3 a (out0, x)) FUEL (out, 0) = some (.brk (ofwAt a x out, 9)) := by
  unfold ofwAt
  by_cases b : nth out x = true
  · rw [if_pos b]
    exact loopM_at (f := m_s_l13Onward_l3 a (out0, x)) (fun k => (ofw a x out k, (k : Int))) 9 (fun k hk => by
      have hm := V.mv (s := x) (k := k) h0 h1 hk
      have hlen := ofw_length a x out k
      unfold m_s_l13Onward_l3
      simp only
      rw [if_pos (by simp; omega), getI_nth h0 (by omega), ofw_keep V h0 h1 hl (by omega) b]; simp only [Option.bind_some, if_true]
      rw [V.get h0 h1]; simp only [Option.bind_some]
      rw [V.get2 h0 h1 hk]; simp only [Option.bind_some, wrap_succ (show k < 9223372036854775807 by omega)]
      rw [ofw]
      by_cases c : mv a x k ≥ 0
      · rw [if_pos (by simpa using c), if_pos c, getI_nth c (by omega)]; rfl
      · rw [if_neg (by simpa using c), if_neg c]; rfl) (by
      unfold m_s_l13Onward_l3
      simp) (by unfold FUEL; omega)
  · rw [if_neg b]
    exact loopM_at (f := m_s_l13Onward_l3 a (out0, x)) (fun k => (out, (k : Int))) 9 (fun k hk => by
      unfold m_s_l13Onward_l3
      simp only
      rw [if_pos (by simp; omega), getI_nth h0 (by omega)]; simp only [Option.bind_some, wrap_succ (show k < 9223372036854775807 by omega)]
      rw [if_neg b]; rfl) (by
      unfold m_s_l13Onward_l3
      simp) (by unfold FUEL; omega)
theorem ofwAt_length (a : AutT) (x : Int) (out : List Bool) : (ofwAt a x out).length = out.length := by
  unfold ofwAt
  split
  · exact ofw_length a x out 9
  · rfl
def rnd (a : AutT) (out : List Bool) : Nat → List Bool
  | 0 => out
  | s + 1 => ofwAt a (s : Int) (rnd a out s)
theorem rnd_length (a : AutT) (out : List Bool) : ∀ s, (rnd a out s).length = out.length
  | 0 => rfl
  | s + 1 => by rw [rnd, ofwAt_length, rnd_length a out s]
def rnds (a : AutT) (n : Nat) (out : List Bool) : Nat → List Bool
  | 0 => out
  | j + 1 => rnd a (rnds a n out j) n
theorem rnds_length (a : AutT) (n : Nat) (out : List Bool) : ∀ j, (rnds a n out j).length = out.length
  | 0 => rfl
  | j + 1 => by rw [rnds, rnd_length, rnds_length a n out j]
theorem s_onw_round (V : VA a n) (hn : n ≤ 1000000) {out : List Bool} (hl : out.length = n) : loopM (m_s_l13Onward_l2 a) FUEL (out, 0) = some (.brk (rnd a out n, (n : Int))) := by
  exact loopM_at (f := m_s_l13Onward_l2 a) (fun s => (rnd a out s, (s : Int))) n (fun s hs => by
    unfold m_s_l13Onward_l2
    simp only
    rw [V.len, if_pos (by simp; omega), bindL_brk (s_onw_in V (by omega) (by omega) ((rnd_length a out s).trans hl)), wrap_succ (by omega)]; rfl) (by
    unfold m_s_l13Onward_l2
    simp only
    rw [V.len, if_neg (by simp)]) (up63 (by omega))
def onw (a : AutT) (n : Nat) (x : Int) : List Bool := rnds a n (ofw a x (List.replicate n false) 9) n
theorem onw_length (a : AutT) (n : Nat) (x : Int) : (onw a n x).length = n := by unfold onw; rw [rnds_length, ofw_length, List.length_replicate]
theorem s_onward (V : VA a n) (hn : n ≤ 1000000) {x : Int} (h0 : 0 ≤ x) (h1 : x < n) : m_s_l13Onward a x = some (onw a n x) := by
  have hl0 : (ofw a x (List.replicate n false) 9).length = n := by rw [ofw_length, List.length_replicate]
  unfold m_s_l13Onward
  rw [V.len, show mkI 1 (n : Int) false = some (List.replicate n false) from by unfold mkI; rw [if_pos (by omega)]; simp]; simp only [Option.bind_some]
  rw [bindL_brk (s_onw_first V h0 h1 (List.length_replicate ..))]
  simp only
  have := loopM_at (f := m_s_l13Onward_l1 a) (fun j => (rnds a n (ofw a x (List.replicate n false) 9) j, (j : Int))) n (fun j hj => by
    unfold m_s_l13Onward_l1
    simp only
    rw [V.len, if_pos (by simp; omega), bindL_brk (s_onw_round V hn ((rnds_length a n _ j).trans hl0)), wrap_succ (by omega)]; rfl) (by
    unfold m_s_l13Onward_l1
    simp only
    rw [V.len, if_neg (by simp)]) (up63 (by omega))
  have this : loopM (m_s_l13Onward_l1 a) FUEL (ofw a x (List.replicate n false) 9, 0) = _ := this
  rw [bindL_brk this]; rfl
theorem ofwAt_at (V : VA a n) {x : Int} (h0 : 0 ≤ x) (h1 : x < n) {out : List Bool} (hl : out.length = n) {t : Int} (t0 : 0 ≤ t) (t1 : t < n) : nth (ofwAt a x out) t = true ↔ nth out t = true ∨ (nth out x = true ∧ Step a x t) := by
  unfold ofwAt
  split
  · rename_i b
    rw [ofw_at V h0 h1 hl t0 t1 9 (by omega)]
    constructor
    · rintro (h | ⟨j, h2, h3⟩)
      · exact .inl h
      · exact .inr ⟨b, j, h2, h3, t0⟩
    · rintro (h | ⟨-, j, h2, h3, -⟩)
      · exact .inl h
      · exact .inr ⟨j, h2, h3⟩
  · rename_i b
    constructor
    · exact .inl
    · rintro (h | ⟨h, -⟩)
      · exact h
      · exact absurd h b
theorem rnd_sound (V : VA a n) {P : Int → Prop} (hP : ∀ x y, 0 ≤ x → x < n → P x → Step a x y → P y) {out : List Bool} (hl : out.length = n) (ho : ∀ t : Int, 0 ≤ t → t < n → nth out t = true → P t) : ∀ s, s ≤ n → ∀ t : Int, 0 ≤ t → t < n → nth (rnd a out s) t = true → P t
  | 0, _ => ho
  | s + 1, hs => fun t t0 t1 h => by
    rw [rnd] at h
    rcases (ofwAt_at V (x := (s : Int)) (by omega) (by omega) ((rnd_length a out s).trans hl) t0 t1).1 h with h | ⟨h, h2⟩
    · exact rnd_sound V hP hl ho s (by omega) t t0 t1 h
    · exact hP _ _ (by omega) (by omega) (rnd_sound V hP hl ho s (by omega) (s : Int) (by omega) (by omega) h) h2
theorem set_cnt {out : List Bool} {i : Nat} (h : i < out.length) : out.set i true = out ∨ cnt out < cnt (out.set i true) := by
  cases hb : out[i] with
  | true => exact .inl (set_same h hb)
  | false => exact .inr (by rw [cnt_set h hb]; omega)
theorem ofw_cnt (V : VA a n) {x : Int} (h0 : 0 ≤ x) (h1 : x < n) {out : List Bool} (hl : out.length = n) : ∀ k, k ≤ 9 → ofw a x out k = out ∨ cnt out < cnt (ofw a x out k)
  | 0, _ => .inl rfl
  | k + 1, hk => by
    have ih := ofw_cnt V h0 h1 hl k (by omega)
    have hm := V.mv (s := x) (k := k) h0 h1 (by omega)
    have hlen := ofw_length a x out k
    rw [ofw]
    split
    · have := set_cnt (out := ofw a x out k) (i := (mv a x k).toNat) (by omega)
      rcases this with e | e
      · rw [e]; exact ih
      · rcases ih with f | f
        · rw [f] at e ⊢; exact .inr e
        · exact .inr (by omega)
    · exact ih
theorem ofwAt_cnt (V : VA a n) {x : Int} (h0 : 0 ≤ x) (h1 : x < n) {out : List Bool} (hl : out.length = n) : ofwAt a x out = out ∨ cnt out < cnt (ofwAt a x out) := by
  unfold ofwAt
  split
  · exact ofw_cnt V h0 h1 hl 9 (by omega)
  · exact .inl rfl
theorem rnd_cnt (V : VA a n) {out : List Bool} (hl : out.length = n) : ∀ s, s ≤ n → rnd a out s = out ∨ cnt out < cnt (rnd a out s)
  | 0, _ => .inl rfl
  | s + 1, hs => by
    have ih := rnd_cnt V hl s (by omega)
    rw [rnd]
    rcases ofwAt_cnt V (x := (s : Int)) (by omega) (by omega) ((rnd_length a out s).trans hl) with e | e
    · rw [e]; exact ih
    · rcases ih with f | f
      · rw [f] at e ⊢; exact .inr e
      · exact .inr (by omega)
theorem rnd_le (V : VA a n) {out : List Bool} (hl : out.length = n) {s : Nat} : ∀ d, s + d ≤ n → cnt (rnd a out s) ≤ cnt (rnd a out (s + d))
  | 0, _ => Nat.le_refl _
  | d + 1, hd => by
    have ih := rnd_le V hl (s := s) d (by omega)
    rw [show s + (d + 1) = (s + d) + 1 from rfl, rnd]
    rcases ofwAt_cnt V (x := ((s + d : Nat) : Int)) (by omega) (by omega) ((rnd_length a out (s + d)).trans hl) with e | e
    · rw [e]; exact ih
    · omega
theorem rnd_fix (V : VA a n) {out : List Bool} (hl : out.length = n) (hf : rnd a out n = out) {x t : Int} (x0 : 0 ≤ x) (x1 : x < n) (t1 : t < n) (hx : nth out x = true) (hs : Step a x t) : nth out t = true := by
  have t0 : 0 ≤ t := by obtain ⟨_, _, _, h⟩ := hs; exact h
  have same : ∀ s, s ≤ n → rnd a out s = out := fun s hs => by
    rcases rnd_cnt V hl s hs with e | e
    · exact e
    · have := rnd_le V hl (s := s) (n - s) (by omega)
      rw [show s + (n - s) = n by omega, hf] at this
      omega
  have h1 := same (x.toNat + 1) (by omega)
  rw [rnd, same x.toNat (by omega), show ((x.toNat : Nat) : Int) = x by omega] at h1
  rw [← h1]
  exact (ofwAt_at V x0 x1 hl t0 t1).2 (.inr ⟨hx, hs⟩)
theorem rnds_fix (V : VA a n) {out : List Bool} (hl : out.length = n) : rnd a (rnds a n out n) n = rnds a n out n := by
  have key : ∀ j, rnd a (rnds a n out j) n = rnds a n out j ∨ j ≤ cnt (rnds a n out j) := fun j => by
    induction j with
    | zero => exact .inr (Nat.zero_le _)
    | succ j ih =>
      have hl1 := (rnds_length a n out j).trans hl
      rcases ih with e | e
      · left
        rw [rnds, e, e]
      · rcases rnd_cnt V hl1 n (Nat.le_refl _) with f | f
        · left
          rw [rnds, f, f]
        · right
          rw [rnds]; omega
  rcases key n with e | e
  · exact e
  · have hl1 := (rnds_length a n out n).trans hl
    rcases rnd_cnt V hl1 n (Nat.le_refl _) with f | f
    · exact f
    · have := cnt_le (rnd a (rnds a n out n) n)
      rw [rnd_length, hl1] at this
      omega
theorem step_in (V : VA a n) {x y : Int} (h0 : 0 ≤ x) (h1 : x < n) (h : Step a x y) : 0 ≤ y ∧ y < n := by
  obtain ⟨k, hk, rfl, hy⟩ := h
  exact ⟨hy, (V.mv h0 h1 hk).2⟩
theorem trans_in (V : VA a n) {x y : Int} (h0 : 0 ≤ x) (h1 : x < n) (h : Relation.TransGen (Step a) x y) : 0 ≤ y ∧ y < n := by
  induction h with
  | single h => exact step_in V h0 h1 h
  | tail _ h ih => exact step_in V ih.1 ih.2 h
theorem rnds_sound (V : VA a n) {P : Int → Prop} (hP : ∀ x y, 0 ≤ x → x < n → P x → Step a x y → P y) {out : List Bool} (hl : out.length = n) (ho : ∀ t : Int, 0 ≤ t → t < n → nth out t = true → P t) : ∀ j, ∀ t : Int, 0 ≤ t → t < n → nth (rnds a n out j) t = true → P t
  | 0 => ho
  | j + 1 => rnd_sound V hP ((rnds_length a n out j).trans hl) (rnds_sound V hP hl ho j) n (Nat.le_refl _)
theorem rnd_mono (V : VA a n) {out : List Bool} (hl : out.length = n) {t : Int} (t0 : 0 ≤ t) (t1 : t < n) (h : nth out t = true) : ∀ s, s ≤ n → nth (rnd a out s) t = true
  | 0, _ => h
  | s + 1, hs => by
    rw [rnd]
    exact (ofwAt_at V (by omega) (by omega) ((rnd_length a out s).trans hl) t0 t1).2 (.inl (rnd_mono V hl t0 t1 h s (by omega)))
theorem rnds_mono (V : VA a n) {out : List Bool} (hl : out.length = n) {t : Int} (t0 : 0 ≤ t) (t1 : t < n) (h : nth out t = true) : ∀ j, nth (rnds a n out j) t = true
  | 0 => h
  | j + 1 => by
    rw [rnds]
    exact rnd_mono V ((rnds_length a n out j).trans hl) t0 t1 (rnds_mono V hl t0 t1 h j) n (Nat.le_refl _)
theorem nth_falses (n : Nat) (t : Int) : nth (List.replicate n false) t = false := by
  unfold nth
  rw [List.getD_eq_getElem?_getD, List.getElem?_replicate]
  split <;> rfl
theorem onw_mem (V : VA a n) {x : Int} (h0 : 0 ≤ x) (h1 : x < n) {t : Int} (t0 : 0 ≤ t) (t1 : t < n) : nth (onw a n x) t = true ↔ Relation.TransGen (Step a) x t := by
  have hl0 : (ofw a x (List.replicate n false) 9).length = n := by rw [ofw_length, List.length_replicate]
  have hl1 := (rnds_length a n _ n).trans hl0
  unfold onw
  constructor
  · refine rnds_sound V (P := fun t => Relation.TransGen (Step a) x t) (fun y z _ _ hy hs => .tail hy hs) hl0 (fun u u0 u1 hu => ?_) n t t0 t1
    rcases (ofw_at V h0 h1 (List.length_replicate ..) u0 u1 9 (by omega)).1 hu with h | ⟨j, h2, h3⟩
    · rw [nth_falses] at h; cases h
    · exact .single ⟨j, h2, h3, u0⟩
  · intro h
    induction h with
    | single hs =>
      obtain ⟨k, hk, e, hy⟩ := hs
      exact rnds_mono V hl0 t0 t1 ((ofw_at V h0 h1 (List.length_replicate ..) t0 t1 9 (by omega)).2 (.inr ⟨k, hk, e⟩)) n
    | tail ht hs ih =>
      have hb := trans_in V h0 h1 ht
      exact rnd_fix V hl1 (rnds_fix V hl0) hb.1 hb.2 t1 (ih hb.1 hb.2) hs
end
/-! ### by a queue -/
structure FI (a : AutT) (n : Nat) (x : Int) (Q : List Int) (out : List Bool) (i : Nat) : Prop where
  len : out.length = n
  q : ∀ t ∈ Q, 0 ≤ t ∧ t < n ∧ nth out t = true
  first : nth out x = true
  sound : ∀ t : Int, 0 ≤ t → t < n → nth out t = true → t = x ∨ Relation.TransGen (Step a) x t
  all : i + Q.length = cnt out
  closed : ∀ s : Int, 0 ≤ s → s < n → nth out s = true → s ∈ Q ∨ ∀ t, Step a s t → nth out t = true
section
variable {a : AutT} {n : Nat}
theorem set_keep {out : List Bool} {m t : Int} (m0 : 0 ≤ m) (m1 : m < out.length) (t0 : 0 ≤ t) (h : nth out t = true) : nth (out.set m.toNat true) t = true := by
  by_cases e : m = t
  · subst e; exact nth_set_self m0 m1
  · rw [nth_set_ne m0 t0 e]; exact h
theorem FI.turn (V : VA a n) {x s m : Int} {Q : List Int} {out : List Bool} {i : Nat} (H : FI a n x (s :: Q) out i) (x0 : 0 ≤ x) (hm : Step a s m) (hb : ¬ nth out m = true) : FI a n x (s :: (Q ++ [m])) (out.set m.toNat true) i := by
  obtain ⟨s0, s1, sm⟩ := H.q s (List.mem_cons_self ..)
  obtain ⟨m0, m1⟩ := step_in V s0 s1 hm
  have hl := H.len
  refine ⟨by rw [List.length_set]; exact hl, fun t ht => ?_, set_keep m0 (by omega) x0 H.first, fun t t0 t1 ht => ?_, ?_, fun t t0 t1 ht => ?_⟩
  · rcases List.mem_cons.1 ht with rfl | ht
    · exact ⟨s0, s1, set_keep m0 (by omega) s0 sm⟩
    · rcases List.mem_append.1 ht with ht | ht
      · obtain ⟨u0, u1, u2⟩ := H.q t (List.mem_cons_of_mem _ ht)
        exact ⟨u0, u1, set_keep m0 (by omega) u0 u2⟩
      · obtain rfl := List.mem_singleton.1 ht
        exact ⟨m0, m1, nth_set_self m0 (by omega)⟩
  · by_cases e : m = t
    · subst e
      rcases H.sound s s0 s1 sm with rfl | h
      · exact .inr (.single hm)
      · exact .inr (.tail h hm)
    · rw [nth_set_ne m0 t0 e] at ht
      exact H.sound t t0 t1 ht
  · have hall := H.all
    have e : out[m.toNat]'(by omega) = false := by
      have : nth out m = out[m.toNat]'(by omega) := by
        have := nth_nat (xs := out) (i := m.toNat) (by omega)
        rwa [show ((m.toNat : Nat) : Int) = m by omega] at this
      rw [this] at hb
      simpa using hb
    rw [cnt_set (by omega) e]
    simp at hall ⊢
    omega
  · by_cases e : m = t
    · subst e
      exact .inl (List.mem_cons_of_mem _ (List.mem_append.2 (.inr (List.mem_singleton.2 rfl))))
    · rw [nth_set_ne m0 t0 e] at ht
      rcases H.closed t t0 t1 ht with h | h
      · refine .inl ?_
        rcases List.mem_cons.1 h with rfl | h
        · exact List.mem_cons_self ..
        · exact List.mem_cons_of_mem _ (List.mem_append.2 (.inl h))
      · exact .inr fun u hu => set_keep m0 (by omega) (step_in V t0 t1 hu).1 (h u hu)
theorem i_found_in (V : VA a n) (hn : n ≤ 1000000) {x : Int} (x0 : 0 ≤ x) {s : Int} {Q : List Int} {out : List Bool} {i : Nat} (H : FI a n x (s :: Q) out i) :
    ∃ Q' out', loopM (m_i_Automaton_found_l1 (nth a.2.2 s)) FUEL (s :: Q, 0, out) = some (.brk (s :: Q', 9, out')) ∧ FI a n x (s :: Q') out' i ∧ ∀ t, Step a s t → nth out' t = true := by
  obtain ⟨s0, s1, sm⟩ := H.q s (List.mem_cons_self ..)
  have hr := V.rowAt s0 s1
  obtain ⟨st, e, Q', out', rfl, H', hp⟩ := loopM_for (f := m_i_Automaton_found_l1 (nth a.2.2 s)) (fun k st => ∃ Q' out', st = (s :: Q', (k : Int), out') ∧ FI a n x (s :: Q') out' i ∧ ∀ j : Nat, j < k → 0 ≤ mv a s j → nth out' (mv a s j) = true) 9 (by
    rintro k st hk ⟨Q1, o1, rfl, H1, hp⟩
    have hm := V.mv (s := s) (k := k) s0 s1 hk
    have hl := H1.len
    have hall := H1.all
    have hc := cnt_le o1
    unfold m_i_Automaton_found_l1
    simp only
    rw [if_pos (by simp; omega), V.get2 s0 s1 hk]; simp only [Option.bind_some, wrap_succ (show k < 9223372036854775807 by omega)]
    by_cases c : mv a s k ≥ 0
    · rw [if_pos (by simpa using c), getI_nth c (by omega)]; simp only [Option.bind_some]
      by_cases b : nth o1 (mv a s k) = true
      · rw [if_pos b]
        refine ⟨_, rfl, Q1, o1, rfl, H1, fun j hj h0 => ?_⟩
        by_cases e : j = k
        · subst e; exact b
        · exact hp j (by omega) h0
      · rw [if_neg b, appI_ok (by simp at hall ⊢; omega)]
        refine ⟨_, rfl, Q1 ++ [mv a s k], o1.set (mv a s k).toNat true, rfl, H1.turn V x0 ⟨k, hk, rfl, c⟩ b, fun j hj h0 => ?_⟩
        by_cases e : j = k
        · subst e; exact nth_set_self c (by omega)
        · exact set_keep c (by omega) h0 (hp j (by omega) h0)
    · rw [if_neg (by simpa using c)]
      refine ⟨_, rfl, Q1, o1, rfl, H1, fun j hj h0 => ?_⟩
      by_cases e : j = k
      · subst e; exact absurd h0 c
      · exact hp j (by omega) h0) (by
    rintro st ⟨Q1, o1, rfl, -⟩
    unfold m_i_Automaton_found_l1
    simp only
    rw [if_neg (by simp; omega)]) (s := (s :: Q, 0, out)) ⟨Q, out, rfl, H, fun j hj => by omega⟩ (by unfold FUEL; omega)
  exact ⟨Q', out', e, H', fun t ⟨k, hk, e, h0⟩ => by subst e; exact hp k hk h0⟩
theorem i_found (V : VA a n) (hn : n ≤ 1000000) {x : Int} (h0 : 0 ≤ x) (h1 : x < n) : ∃ out, m_i_Automaton_found (x, a.2.1, a.2.2) = some out ∧ out.length = n ∧ ∀ t : Int, 0 ≤ t → t < n → (nth out t = true ↔ t = x ∨ Relation.TransGen (Step a) x t) := by
  have hx : (x.toNat : Int) = x := by omega
  have hlr : (List.replicate n false).length = n := List.length_replicate ..
  have hx' : ((List.replicate n false).set x.toNat true).length = n := by rw [List.length_set, hlr]
  have hS : ∀ t : Int, 0 ≤ t → t < n → (nth ((List.replicate n false).set x.toNat true) t = true ↔ t = x) := fun t t0 t1 => by
    by_cases e : x = t
    · subst e
      rw [nth_set_self h0 (by omega)]; simp
    · rw [nth_set_ne h0 t0 e, nth_falses]
      constructor
      · intro h; cases h
      · intro h; exact absurd h.symm e
  unfold m_i_Automaton_found
  simp only
  rw [V.len, show mkI 1 (n : Int) false = some (List.replicate n false) from by unfold mkI; rw [if_pos (by omega)]; simp]; simp only [Option.bind_some]
  rw [getI_nth h0 (by omega)]; simp only [Option.bind_some]
  obtain ⟨o, e, out, rfl, hl, hs, hc, hf⟩ := loopM_go (f := m_i_Automaton_found_l0 (x, a.2.1, a.2.2)) (fun i st => FI a n x st.1 st.2 i) (fun o => ∃ out, o = .brk ([], out) ∧ out.length = n ∧ (∀ t : Int, 0 ≤ t → t < n → nth out t = true → t = x ∨ Relation.TransGen (Step a) x t) ∧ (∀ s : Int, 0 ≤ s → s < n → nth out s = true → ∀ t, Step a s t → nth out t = true) ∧ nth out x = true) n (s := ([x], (List.replicate n false).set x.toNat true)) (by
    rintro i ⟨Q, out⟩ hi H
    have H : FI a n x Q out i := H
    unfold m_i_Automaton_found_l0
    simp only
    cases Q with
    | nil =>
      right
      refine ⟨_, by rw [if_neg (by simp)], fun s' e => (by cases e), out, rfl, H.len, H.sound, fun s s0 s1 hs => ?_, H.first⟩
      rcases H.closed s s0 s1 hs with h | h
      · cases h
      · exact h
    | cons s Q =>
      left
      have hall := H.all
      have hc := cnt_le out
      have hl := H.len
      obtain ⟨s0, s1, sm⟩ := H.q s (List.mem_cons_self ..)
      simp at hall
      refine ⟨by omega, ?_⟩
      obtain ⟨Q', out', e, H', hp⟩ := i_found_in V hn h0 H
      rw [if_pos (by simp), show getI (s :: Q) 0 = some s from rfl]; simp only [Option.bind_some]
      rw [V.get s0 s1]; simp only [Option.bind_some]
      rw [bindL_brk e]; simp only
      rw [chk_is (by simp; omega)]; simp only [Option.bind_some]
      refine ⟨_, rfl, H'.len, fun t ht => H'.q t (List.mem_cons_of_mem _ ht), H'.first, H'.sound, ?_, fun t t0 t1 ht => ?_⟩
      · have := H'.all
        simp at this ⊢
        omega
      · rcases H'.closed t t0 t1 ht with h | h
        · rcases List.mem_cons.1 h with rfl | h
          · exact .inr hp
          · exact .inl h
        · exact .inr h) (by
    refine ⟨hx', fun t ht => ?_, (hS x h0 h1).2 rfl, fun t t0 t1 ht => .inl ((hS t t0 t1).1 ht), ?_, fun t t0 t1 ht => .inl ?_⟩
    · obtain rfl := List.mem_singleton.1 ht
      exact ⟨h0, h1, (hS _ h0 h1).2 rfl⟩
    · show 0 + 1 = _
      rw [cnt_set (by omega) (by simp)]
      unfold cnt
      rw [List.count_replicate]; rfl
    · rw [(hS t t0 t1).1 ht]; exact List.mem_singleton.2 rfl) (up63 (by omega))
  rw [bindL_brk e]
  refine ⟨out, rfl, hl, fun t t0 t1 => ⟨hs t t0 t1, ?_⟩⟩
  rintro (rfl | h)
  · exact hf
  · have key : ∀ u, Relation.TransGen (Step a) x u → nth out u = true := fun u hu => by
      induction hu with
      | single h => exact hc x h0 h1 hf _ h
      | tail h k ih =>
        have hb := trans_in V h0 h1 h
        exact hc _ hb.1 hb.2 ih _ k
    exact key t h
end
end Go.Proofs.YtcmpdlhbliolaaaGreat.D
/- Lists of ints: where the first is that is fine, and whether there is one. -/
set_option linter.unusedVariables false
set_option linter.unusedSimpArgs false
set_option linter.unnecessarySimpa false
set_option linter.unusedSectionVars false
namespace Go.Proofs.YtcmpdlhbliolaaaGreat.D
open Go.RowKit

theorem findI_go {R : Type} {f : Int → Option (Out R Int)} (l : List Int) (b : Int → Bool) (r : Nat → R) (hN : l.length ≤ 9223372036854775807) (h : ∀ i (hi : i < l.length), f (i : Int) = some (if b l[i] then .ret (r i) else .nxt ((i + 1 : Nat) : Int))) (he : f (l.length : Int) = some (.brk (l.length : Int))) :
    (∃ (i : Nat) (hi : i < l.length), b l[i] = true ∧ loopM f FUEL 0 = some (.ret (r i))) ∨ ((∀ x, x ∈ l → b x = false) ∧ loopM f FUEL 0 = some (.brk (l.length : Int))) := by
  obtain ⟨o, e, hQ⟩ := loopM_go (f := f) (fun i s => s = (i : Int) ∧ ∀ j (hj : j < l.length), j < i → b l[j] = false) (fun o => (∃ (i : Nat) (hi : i < l.length), b l[i] = true ∧ o = .ret (r i)) ∨ ((∀ x, x ∈ l → b x = false) ∧ o = .brk (l.length : Int))) l.length (fun i s hi hI => by
    obtain ⟨rfl, hI⟩ := hI
    by_cases h1 : i < l.length
    · cases hb : b l[i] with
      | true => exact .inr ⟨_, by rw [h i h1, hb, if_pos rfl], fun s' hh => by simp at hh, .inl ⟨i, h1, hb, by simp⟩⟩
      | false => exact .inl ⟨h1, _, by rw [h i h1, hb, if_neg (by simp)], rfl, fun j hj hji => by
          by_cases c : j = i
          · subst c; exact hb
          · exact hI j hj (by omega)⟩
    · obtain rfl : i = l.length := by omega
      exact .inr ⟨_, he, fun s' hh => by simp at hh, .inr ⟨fun x hx => by
        obtain ⟨j, hj, rfl⟩ := List.getElem_of_mem hx
        exact hI j hj hj, rfl⟩⟩) (s := 0) ⟨rfl, fun j hj h0 => by omega⟩ (fuelUp _ hN)
  rcases hQ with ⟨i, hi, h1, rfl⟩ | ⟨h1, rfl⟩
  · exact .inl ⟨i, hi, h1, e⟩
  · exact .inr ⟨h1, e⟩
section
variable {l : List Int} {b : Int → Bool} {f : Int → Option Bool}
theorem i_indexFunc (hl : l.length ≤ 1073741824) (hf : ∀ x ∈ l, f x = some (b x)) : (∃ (i : Nat) (hi : i < l.length), b l[i] = true ∧ m_g_slices_IndexFunc_S_int_int l f = some (i : Int)) ∨ ((∀ x, x ∈ l → b x = false) ∧ m_g_slices_IndexFunc_S_int_int l f = some (-1)) := by
  unfold m_g_slices_IndexFunc_S_int_int
  rcases findI_go (f := m_g_slices_IndexFunc_S_int_int_l0 l f) l b (fun i => (i : Int)) (by omega) (fun i hi => by
      unfold m_g_slices_IndexFunc_S_int_int_l0
      rw [lt_nat hi, if_pos rfl, getI_nat hi]
      simp only [Option.bind_some, hf _ (List.getElem_mem hi), wrap_succ (show i < 9223372036854775807 by omega)]
      split <;> rfl) (by
      unfold m_g_slices_IndexFunc_S_int_int_l0
      rw [lt_self]; rfl) with ⟨i, hi, h1, e⟩ | ⟨h1, e⟩
  · exact .inl ⟨i, hi, h1, by rw [bindL_ret e]⟩
  · exact .inr ⟨h1, by rw [bindL_brk e]⟩
theorem i_containsFunc (hl : l.length ≤ 1073741824) (hf : ∀ x ∈ l, f x = some (b x)) : m_g_slices_ContainsFunc_S_int_int l f = some (l.any b) := by
  unfold m_g_slices_ContainsFunc_S_int_int
  rcases i_indexFunc hl hf with ⟨i, hi, h1, e⟩ | ⟨h1, e⟩
  · have e : m_g_slices_IndexFunc_S_int_int l (fun a0 => f a0) = _ := e
    rw [e]; simp only [Option.bind_some]
    rw [show l.any b = true from List.any_eq_true.2 ⟨_, List.getElem_mem hi, h1⟩, decide_eq_true (show (i : Int) ≥ 0 by omega)]
  · have e : m_g_slices_IndexFunc_S_int_int l (fun a0 => f a0) = _ := e
    rw [e]; simp only [Option.bind_some]
    rw [show l.any b = false from by
      rw [List.any_eq_false]
      intro x hx
      rw [h1 x hx]; simp]; rfl
theorem i_contains {x : Int} (hl : l.length ≤ 1073741824) : m_g_slices_Contains_S_int_int l x = some (decide (x ∈ l)) := by
  unfold m_g_slices_Contains_S_int_int m_g_slices_Index_S_int_int
  rcases findI_go (f := m_g_slices_Index_S_int_int_l0 l x) l (fun y => x == y) (fun i => (i : Int)) (by omega) (fun i hi => by
      unfold m_g_slices_Index_S_int_int_l0
      rw [lt_nat hi, if_pos rfl, getI_nat hi]
      simp only [Option.bind_some, wrap_succ (show i < 9223372036854775807 by omega)]
      split <;> rfl) (by
      unfold m_g_slices_Index_S_int_int_l0
      rw [lt_self]; rfl) with ⟨i, hi, h1, e⟩ | ⟨h1, e⟩
  · rw [bindL_ret e]; simp only [Option.bind_some]
    rw [decide_eq_true (show (i : Int) ≥ 0 by omega), decide_eq_true (by rw [eq_of_beq h1]; exact List.getElem_mem hi)]
  · rw [bindL_brk e]; simp only [Option.bind_some]
    rw [decide_eq_false (show x ∉ l from fun hm => by have := h1 x hm; simp at this)]; rfl
end
end Go.Proofs.YtcmpdlhbliolaaaGreat.D
/- Finite languages: no useful state lies on a cycle; by the reference and by the program. -/
set_option linter.unusedVariables false
set_option linter.unusedSimpArgs false
set_option linter.unnecessarySimpa false
set_option linter.unusedSectionVars false
namespace Go.Proofs.YtcmpdlhbliolaaaGreat.D
open Go.RowKit

theorem passTo_le {a : AutT} {out : List Bool} {s : Nat} : ∀ d, s + d ≤ out.length → cnt (passTo a out s) ≤ cnt (passTo a out (s + d))
  | 0, _ => Nat.le_refl _
  | d + 1, hd => by
    have ih := passTo_le (a := a) (out := out) (s := s) d (by omega)
    rw [show s + (d + 1) = (s + d) + 1 from rfl, passTo]
    rcases passAt_cases (a := a) (out := passTo a out (s + d)) (s := s + d) (by rw [passTo_length]; omega) with ⟨e, -⟩ | ⟨e, -, -⟩
    · rw [e]; exact ih
    · omega
section
variable {a : AutT} {n : Nat}
theorem live_back (V : VA a n) {s t : Int} (s0 : 0 ≤ s) (s1 : s < n) (h : Step a s t) (ht : nth (live a) t = true) : nth (live a) s = true := by
  have hn := V.len
  have hll := live_length a
  have hf : passTo a (live a) a.2.1.length = live a := it_done a
  have same : ∀ i, i ≤ a.2.1.length → passTo a (live a) i = live a := fun i hi => by
    rcases passTo_cnt (a := a) (out := live a) i (by omega) with e | e
    · exact e.1
    · have := passTo_le (a := a) (out := live a) (s := i) (a.2.1.length - i) (by omega)
      rw [show i + (a.2.1.length - i) = a.2.1.length by omega, hf] at this
      omega
  have h1 := same (s.toNat + 1) (by omega)
  rw [passTo, same s.toNat (by omega)] at h1
  have hh : hit (live a) (nth a.2.2 ((s.toNat : Nat) : Int)) = true := by
    rw [show ((s.toNat : Nat) : Int) = s by omega]
    obtain ⟨k, hk, e, h0⟩ := h
    unfold hit
    rw [List.any_eq_true]
    refine ⟨t, ?_, ?_⟩
    · rw [← e]; exact nth_mem (by omega) (by rw [V.rowAt s0 s1]; omega)
    · unfold hitT; simp [h0, ht]
  unfold passAt at h1
  rw [if_pos hh] at h1
  rw [← h1]
  exact nth_set_self s0 (by omega)
theorem live_backT (V : VA a n) {s t : Int} (s0 : 0 ≤ s) (s1 : s < n) (h : Relation.TransGen (Step a) s t) : nth (live a) t = true → nth (live a) s = true := by
  induction h with
  | single h => exact fun ht => live_back V s0 s1 h ht
  | tail h k ih =>
    have hb := trans_in V s0 s1 h
    exact fun ht => ih (live_back V hb.1 hb.2 k ht)
def Use (a : AutT) (x : Int) : Prop := (x = a.1 ∨ Relation.TransGen (Step a) a.1 x) ∧ nth (live a) x = true
theorem Use.in (V : VA a n) {x : Int} (h : Use a x) : 0 ≤ x ∧ x < n := by
  rcases h.1 with rfl | h
  · exact V.start
  · exact trans_in V V.start.1 V.start.2 h
theorem Use.next (V : VA a n) {x y : Int} (h : Use a x) (k : Relation.TransGen (Step a) x y) (hl : nth (live a) y = true) : Use a y := by
  refine ⟨.inr ?_, hl⟩
  rcases h.1 with rfl | h
  · exact k
  · exact h.trans k
theorem trans_first {x y : Int} (h : Relation.TransGen (Step a) x y) : ∃ u, Step a x u ∧ (u = y ∨ Relation.TransGen (Step a) u y) := by
  induction h with
  | single h => exact ⟨_, h, .inl rfl⟩
  | tail _ k ih =>
    obtain ⟨u, h1, rfl | h2⟩ := ih
    · exact ⟨_, h1, .inr (.single k)⟩
    · exact ⟨u, h1, .inr (.tail h2 k)⟩
theorem cyc_set (V : VA a n) {s : Int} (hs : Use a s) (hc : Relation.TransGen (Step a) s s) : ∃ C : Int → Prop, C s ∧ (∀ x, C x → Use a x) ∧ ∀ x, C x → ∃ y, C y ∧ Step a x y := by
  have hi := hs.in V
  refine ⟨fun x => Relation.TransGen (Step a) s x ∧ Relation.TransGen (Step a) x s, ⟨hc, hc⟩, fun x ⟨h1, h2⟩ => ?_, fun x ⟨h1, h2⟩ => ?_⟩
  · have hx := trans_in V hi.1 hi.2 h1
    exact hs.next V h1 (live_backT V hx.1 hx.2 h2 hs.2)
  · obtain ⟨u, h3, h4⟩ := trans_first h2
    refine ⟨u, ⟨h1.tail h3, ?_⟩, h3⟩
    rcases h4 with rfl | h4
    · exact hc
    · exact h4
theorem cyc_ex {U : List Int} (h0 : U ≠ []) (h : ∀ x ∈ U, ∃ y ∈ U, Step a x y) : ∃ x ∈ U, Relation.TransGen (Step a) x x := by
  obtain ⟨f, hf⟩ := Classical.axiomOfChoice (r := fun (x : Int) (y : Int) => x ∈ U → y ∈ U ∧ Step a x y) (fun x => by
    by_cases hx : x ∈ U
    · obtain ⟨y, hy⟩ := h x hx
      exact ⟨y, fun _ => hy⟩
    · exact ⟨0, fun h => absurd h hx⟩)
  obtain ⟨x0, hx0⟩ := List.exists_mem_of_ne_nil U h0
  let sq : Nat → Int := fun i => Nat.rec x0 (fun _ y => f y) i
  have hin : ∀ i, sq i ∈ U := fun i => by
    induction i with
    | zero => exact hx0
    | succ i ih => exact (hf _ ih).1
  have hst : ∀ i, Step a (sq i) (sq (i + 1)) := fun i => (hf _ (hin i)).2
  have htr : ∀ i d, Relation.TransGen (Step a) (sq i) (sq (i + d + 1)) := fun i d => by
    induction d with
    | zero => exact .single (hst i)
    | succ d ih => exact .tail ih (hst (i + d + 1))
  apply Classical.byContradiction
  intro hno
  have hd : ∀ i j, i < j → sq i ≠ sq j := fun i j hij e => by
    refine hno ⟨sq i, hin i, ?_⟩
    have := htr i (j - i - 1)
    rw [show i + (j - i - 1) + 1 = j by omega, ← e] at this
    exact this
  have hnd : ((List.range (U.length + 1)).map sq).Nodup := by
    rw [List.nodup_iff_pairwise_ne, List.pairwise_map]
    exact List.pairwise_lt_range.imp fun h => hd _ _ h
  have := hnd.length_le_of_subset (l₂ := U) (fun x hx => by
    obtain ⟨i, -, rfl⟩ := List.mem_map.1 hx
    exact hin i)
  simp at this
  omega
end
end Go.Proofs.YtcmpdlhbliolaaaGreat.D
/- The plain law of HardPair. -/
set_option linter.unusedVariables false
set_option linter.unusedSimpArgs false
set_option linter.unnecessarySimpa false
set_option linter.unusedSectionVars false
namespace Go.Proofs.YtcmpdlhbliolaaaGreat.D
open Go.RowKit

section
variable {b : AutT} (V : VA b b.2.1.length) (hn : b.2.1.length ≤ 12) (hs : Data.sm b)
include V hn hs
theorem s_reach {s t : Int} (h0 : 0 ≤ s ∧ s < b.2.1.length) (h1 : 0 ≤ t ∧ t < b.2.1.length) : ∃ r, m_s_StateReaches b s t = some r ∧ (r = true ↔ (s = t ∨ Relation.TransGen (Step b) s t)) := by
  have hl := onw_length b b.2.1.length s
  have hm := onw_mem V h0.1 h0.2 h1.1 h1.2
  unfold m_s_StateReaches
  simp only [peta]
  rw [s_state V hn hs, s_state V hn hs]; simp only [Option.bind_some]
  rw [if_pos (decide_eq_true h0), if_pos (decide_eq_true h1), s_onward V (by omega) h0.1 h0.2]; simp only [Option.bind_some]
  rw [getI_nth h1.1 (by omega)]
  by_cases c : s = t
  · exact ⟨true, by simp [c], by simp [c]⟩
  · refine ⟨nth (onw b b.2.1.length s) t, by simp [c], ?_⟩
    rw [hm]; simp [c]
theorem s_loop {s : Int} (h0 : 0 ≤ s ∧ s < b.2.1.length) : ∃ r, m_s_HasLoop b s = some r ∧ (r = true ↔ Relation.TransGen (Step b) s s) := by
  have hl := onw_length b b.2.1.length s
  unfold m_s_HasLoop
  simp only [peta]
  rw [s_state V hn hs]; simp only [Option.bind_some]
  rw [if_pos (decide_eq_true h0), s_onward V (by omega) h0.1 h0.2]; simp only [Option.bind_some]
  rw [getI_nth h0.1 (by omega)]
  exact ⟨_, rfl, onw_mem V h0.1 h0.2 h0.1 h0.2⟩
theorem i_reach {s t : Int} (h0 : 0 ≤ s ∧ s < b.2.1.length) (h1 : 0 ≤ t ∧ t < b.2.1.length) : ∃ r, m_i_StateReaches b s t = some r ∧ (r = true ↔ (t = s ∨ Relation.TransGen (Step b) s t)) := by
  obtain ⟨out, e, hl, hm⟩ := i_found V (by omega) h0.1 h0.2
  unfold m_i_StateReaches
  simp only [peta]
  have e2 := i_states V hn hs [s, t] (by simp)
  rw [e2, decide_eq_true (by
    intro x hx
    rcases List.mem_cons.1 hx with rfl | hx
    · exact h0
    · obtain rfl := List.mem_singleton.1 hx
      exact h1)]; simp only [Option.bind_some, if_true]
  rw [e]; simp only [Option.bind_some]
  rw [getI_nth h1.1 (by omega)]
  exact ⟨_, rfl, hm t h1.1 h1.2⟩
theorem row_step {s t : Int} (h0 : 0 ≤ s ∧ s < b.2.1.length) (ht : t ∈ nth b.2.2 s) (t0 : 0 ≤ t) : Step b s t := by
  obtain ⟨k, hk, e⟩ := mem_nth ht
  rw [V.rowAt h0.1 h0.2] at hk
  exact ⟨k, hk, e, t0⟩
theorem i_loop {s : Int} (h0 : 0 ≤ s ∧ s < b.2.1.length) : ∃ r, m_i_HasLoop b s = some r ∧ (r = true ↔ Relation.TransGen (Step b) s s) := by
  classical
  unfold m_i_HasLoop
  simp only [peta]
  rw [i_states V hn hs [s] (by simp), decide_eq_true (by
    intro x hx
    obtain rfl := List.mem_singleton.1 hx
    exact h0)]; simp only [Option.bind_some, if_true]
  rw [V.get h0.1 h0.2]; simp only [Option.bind_some]
  have hr := V.rowAt h0.1 h0.2
  have hf : ∀ t ∈ nth b.2.2 s, m_i_HasLoop_1 t b s = some (decide (0 ≤ t ∧ (s = t ∨ Relation.TransGen (Step b) t s))) := fun t ht => by
    have hb := V.ent _ (nth_mem h0.1 (by rw [V.nlen]; exact h0.2)) t ht
    unfold m_i_HasLoop_1
    by_cases c : t ≥ 0
    · obtain ⟨r, e, k⟩ := i_reach V hn hs (s := t) (t := s) ⟨c, hb.2⟩ h0
      simp only [peta]
      rw [if_pos (by simpa using c), e]; simp only [Option.bind_some]
      congr 1
      rw [Bool.eq_iff_iff, k, decide_eq_true_eq]
      exact ⟨fun h => ⟨c, h⟩, fun h => h.2⟩
    · rw [if_neg (by simpa using c), decide_eq_false (fun h => c h.1)]
  have e := i_containsFunc (f := fun a0 => m_i_HasLoop_1 a0 b s) (by omega) hf
  have e : m_g_slices_ContainsFunc_S_int_int (nth b.2.2 s) (fun a0 => m_i_HasLoop_1 a0 (b.1, b.2.1, b.2.2) s) = _ := e
  rw [e]
  refine ⟨_, rfl, ?_⟩
  rw [List.any_eq_true]
  constructor
  · rintro ⟨t, ht, h⟩
    obtain ⟨t0, h⟩ := of_decide_eq_true h
    have hst := row_step V hn hs h0 ht t0
    rcases h with rfl | h
    · exact .single hst
    · exact .trans (.single hst) h
  · intro h
    obtain ⟨u, h1, h2⟩ := trans_first h
    obtain ⟨k, hk, e, u0⟩ := h1
    refine ⟨u, by rw [← e]; exact nth_mem (by omega) (by omega), decide_eq_true ⟨u0, ?_⟩⟩
    rcases h2 with rfl | h2
    · exact .inl rfl
    · exact .inr h2
theorem bad_both {p q : Int} (hp : 0 ≤ p ∧ p < b.2.1.length) (hq : 0 ≤ q ∧ q < b.2.1.length) : ∃ L r, m_i_PumpedStates b p q (b.2.1.length : Int) = some L ∧ m_g_slices_ContainsFunc_S_int_int L (fun u => m_i_HardPair_1 u b q) = some r ∧ m_s_l22Bad b p q = some r := by
  have hch : ∀ s : Int, ∃ m : Nat, -1 ≤ s → s < b.2.1.length → m < 2 ^ (b.2.1.length + 1) ∧ m_s_l22Images b s q = some (shl1 m) ∧ m_i_images b s q = some (shl1 m) := fun s => by
    by_cases c : -1 ≤ s ∧ s < b.2.1.length
    · obtain ⟨m, h⟩ := images_both V hn c hq
      exact ⟨m, fun _ _ => h⟩
    · exact ⟨0, fun h1 h2 => absurd ⟨h1, h2⟩ c⟩
  obtain ⟨ms, hms⟩ := Classical.axiomOfChoice hch
  have hS : 2 ^ (p + 1).toNat < 2 ^ (b.2.1.length + 1) := Nat.pow_lt_pow_right (by decide) (by omega)
  have hlt := turnM_lt hn hms hS b.2.1.length
  have hlen := shl1_len (turnM ms b.2.1.length (2 ^ (p + 1).toNat) b.2.1.length)
  have hin : ∀ x ∈ shl1 (turnM ms b.2.1.length (2 ^ (p + 1).toNat) b.2.1.length), -1 ≤ x ∧ x < b.2.1.length := fun x hx => by
    obtain ⟨i, -, h2, rfl⟩ := mem_shl1.1 hx
    have := (ms_bit hn hms hlt i h2).1
    omega
  have hb : ∀ x ∈ shl1 (turnM ms b.2.1.length (2 ^ (p + 1).toNat) b.2.1.length), ∃ w, m_s_l12Differ b x b q true = some (w, (m_i_misses b x q).getD false) ∧ m_i_misses b x q = some ((m_i_misses b x q).getD false) := fun x hx => by
    obtain ⟨w, r, e1, e2⟩ := misses_both V hn (s0 := x) (q := q) ⟨hin x hx, by show -1 ≤ q; omega, hq.2⟩
    exact ⟨w, by rw [e1, e2]; rfl, by rw [e2]; rfl⟩
  have ei := i_pumped V hn hms (p := p) ⟨by omega, hp.2⟩ (by
    rw [i_states V hn hs [p, q] (by simp), decide_eq_true (by
      intro x hx
      rcases List.mem_cons.1 hx with rfl | hx
      · exact hp
      · obtain rfl := List.mem_singleton.1 hx
        exact hq)])
  have es := s_pumped V hn hms (p := p) ⟨by omega, hp.2⟩ (by omega)
  generalize shl1 (turnM ms b.2.1.length (2 ^ (p + 1).toNat) b.2.1.length) = L at *
  refine ⟨L, L.any (fun x => (m_i_misses b x q).getD false), ei, i_containsFunc (by omega) (fun x hx => ?_), ?_⟩
  · obtain ⟨w, -, e⟩ := hb x hx
    unfold m_i_HardPair_1
    simp only [peta]
    rw [e]; rfl
  · unfold m_s_l22Bad
    simp only [peta]
    rw [es]; simp only [Option.bind_some]
    rcases findI_go (f := m_s_l22Bad_l0 b q L) L (fun x => (m_i_misses b x q).getD false) (fun _ => true) (by omega) (fun i hi => by
        obtain ⟨w, e, -⟩ := hb _ (List.getElem_mem hi)
        unfold m_s_l22Bad_l0
        simp only [peta]
        rw [lt_nat hi, if_pos rfl, getI_nat hi]; simp only [Option.bind_some]
        rw [e]; simp only [Option.bind_some, wrap_succ (show i < 9223372036854775807 by omega)]
        split <;> rfl) (by
        unfold m_s_l22Bad_l0
        rw [lt_self]; rfl) with ⟨i, hi, h1, e⟩ | ⟨h1, e⟩
    · rw [bindL_ret e, show L.any _ = true from List.any_eq_true.2 ⟨_, List.getElem_mem hi, h1⟩]
    · rw [bindL_brk e, show L.any (fun x => (m_i_misses b x q).getD false) = false from by
        rw [List.any_eq_false]
        intro x hx
        rw [h1 x hx]; simp]
end
theorem two_loops {R : Type} {f g : Int → Option (Out R Int)} (n : Nat) (hn : n ≤ 9223372036854775807) (h : ∀ i : Nat, i < n → f (i : Int) = g (i : Int) ∧ (f (i : Int) = some (.nxt ((i + 1 : Nat) : Int)) ∨ ∃ r, f (i : Int) = some (.ret r))) (hf : f (n : Int) = some (.brk (n : Int))) (hg : g (n : Int) = some (.brk (n : Int))) :
    loopM f FUEL 0 = loopM g FUEL 0 ∧ ((∃ r, loopM f FUEL 0 = some (.ret r)) ∨ loopM f FUEL 0 = some (.brk (n : Int))) := by
  constructor
  · have key : ∀ k (i : Nat), i ≤ n → loopM f k (i : Int) = loopM g k (i : Int) := fun k => by
      induction k with
      | zero => intro i hi; rfl
      | succ k ih =>
        intro i hi
        rw [loopM, loopM]
        by_cases c : i < n
        · obtain ⟨e, h2⟩ := h i c
          rw [← e]
          rcases h2 with h2 | ⟨r, h2⟩
          · rw [h2]; exact ih (i + 1) (by omega)
          · rw [h2]
        · obtain rfl : i = n := by omega
          rw [hf, hg]
    exact key FUEL 0 (by omega)
  · obtain ⟨o, e, hQ⟩ := loopM_go (f := f) (fun i s => s = (i : Int)) (fun o => (∃ r, o = .ret r) ∨ o = .brk (n : Int)) n (fun i s hi hI => by
      subst hI
      by_cases c : i < n
      · rcases (h i c).2 with h2 | ⟨r, h2⟩
        · exact .inl ⟨c, _, h2, rfl⟩
        · exact .inr ⟨_, h2, fun s' hh => by simp at hh, .inl ⟨r, rfl⟩⟩
      · obtain rfl : i = n := by omega
        exact .inr ⟨_, hf, fun s' hh => by simp at hh, .inr rfl⟩) (s := 0) rfl (up63 hn)
    rcases hQ with ⟨r, rfl⟩ | rfl
    · exact .inl ⟨r, e⟩
    · exact .inr e
theorem pair_in {b : AutT} (V : VA b b.2.1.length) (hn : b.2.1.length ≤ 12) (hs : Data.sm b) {p : Nat} (hp : p < b.2.1.length) :
    loopM (m_s_HardPair_l1 b (p : Int)) FUEL 0 = loopM (m_i_HardPair_l1 b (p : Int)) FUEL 0 ∧ ((∃ r, loopM (m_s_HardPair_l1 b (p : Int)) FUEL 0 = some (.ret r)) ∨ loopM (m_s_HardPair_l1 b (p : Int)) FUEL 0 = some (.brk (b.2.1.length : Int))) := by
  refine two_loops b.2.1.length (by omega) (fun q hq => ?_) ?_ ?_
  · obtain ⟨r1, e1, k1⟩ := s_loop V hn hs (s := (p : Int)) ⟨by omega, by omega⟩
    obtain ⟨r1', e1', k1'⟩ := i_loop V hn hs (s := (p : Int)) ⟨by omega, by omega⟩
    obtain ⟨r2, e2, k2⟩ := s_loop V hn hs (s := (q : Int)) ⟨by omega, by omega⟩
    obtain ⟨r2', e2', k2'⟩ := i_loop V hn hs (s := (q : Int)) ⟨by omega, by omega⟩
    obtain ⟨r3, e3, k3⟩ := s_reach V hn hs (s := (p : Int)) (t := (q : Int)) ⟨by omega, by omega⟩ ⟨by omega, by omega⟩
    obtain ⟨r3', e3', k3'⟩ := i_reach V hn hs (s := (p : Int)) (t := (q : Int)) ⟨by omega, by omega⟩ ⟨by omega, by omega⟩
    obtain ⟨L, r4, e4, e5, e6⟩ := bad_both V hn hs (p := (p : Int)) (q := (q : Int)) ⟨by omega, by omega⟩ ⟨by omega, by omega⟩
    obtain rfl : r1' = r1 := by rw [Bool.eq_iff_iff, k1, k1']
    obtain rfl : r2' = r2 := by rw [Bool.eq_iff_iff, k2, k2']
    obtain rfl : r3' = r3 := by rw [Bool.eq_iff_iff, k3, k3', eq_comm]
    unfold m_s_HardPair_l1 m_i_HardPair_l1
    simp only [peta]
    rw [if_pos (by simp; omega), if_pos (by simp; omega), e1, e1']; simp only [Option.bind_some]
    cases r1' with
    | false => simp only [Bool.false_eq_true, if_false, bindJ, wrap_succ (show q < 9223372036854775807 by omega)]; simp
    | true =>
      simp only [if_true]
      rw [e2, e2']; simp only [Option.bind_some]
      cases r2' with
      | false => simp only [Bool.false_eq_true, if_false, bindJ, wrap_succ (show q < 9223372036854775807 by omega)]; simp
      | true =>
        simp only [if_true]
        rw [e3, e3']; simp only [Option.bind_some]
        cases r3' with
        | false => simp only [Bool.false_eq_true, if_false, bindJ, wrap_succ (show q < 9223372036854775807 by omega)]; simp
        | true =>
          simp only [if_true]
          rw [e4, e6]; simp only [Option.bind_some]
          rw [e5]; simp only [Option.bind_some]
          cases r4 with
          | false => simp only [Bool.false_eq_true, if_false, bindJ, wrap_succ (show q < 9223372036854775807 by omega)]; simp
          | true => simp only [if_true, bindJ]; simp
  · unfold m_s_HardPair_l1; rw [if_neg (by simp)]
  · unfold m_i_HardPair_l1; rw [if_neg (by simp)]
theorem hard_both (a : AutT) (hs : Data.sm a) : ∃ r, m_s_HardPair a = some r ∧ m_i_HardPair a = some r := by
  have hsm := hs
  obtain ⟨-, ⟨ha, -⟩, hn, hr⟩ := hs
  obtain ⟨b1, e1, k1⟩ := s_valid a (by omega) (by omega)
  obtain ⟨b2, e2, k2⟩ := i_valid a (by omega) (by omega) (fun r h => by have : r.length ≤ 1048576 := (hr r h).1; omega)
  have : b2 = b1 := by rw [Bool.eq_iff_iff, k1, k2]
  subst this
  unfold m_s_HardPair m_i_HardPair m_s_Minimize
  simp only [peta]
  rw [e1, e2]; simp only [Option.bind_some]
  cases b2 with
  | false =>
    simp only [Bool.false_eq_true, if_false, Option.bind_some]
    have : loopM (m_s_HardPair_l0 (0, [], [])) FUEL 0 = some (.brk 0) := loopM_at (f := m_s_HardPair_l0 (0, [], [])) (fun i => (i : Int)) 0 (fun i hi => by omega) (by unfold m_s_HardPair_l0; simp) (by unfold FUEL; omega)
    rw [bindL_brk this]
    exact ⟨_, rfl, rfl⟩
  | true =>
    obtain ⟨h12, V⟩ := k1.1 rfl
    obtain ⟨m, em, ei, hm, Vm, hl⟩ := minim_full V (by omega)
    simp only [if_true]
    rw [em, ei]; simp only [Option.bind_some]
    obtain ⟨e, ho⟩ := two_loops (f := m_s_HardPair_l0 m) (g := m_i_HardPair_l0 m) m.2.1.length (by omega) (fun p hp => by
      obtain ⟨e, ho⟩ := pair_in Vm (by omega) hm hp
      unfold m_s_HardPair_l0 m_i_HardPair_l0
      rw [if_pos (by simp; omega), if_pos (by simp; omega), ← e]
      rcases ho with ⟨r, ho⟩ | ho
      · rw [bindL_ret ho]; exact ⟨rfl, .inr ⟨_, rfl⟩⟩
      · rw [bindL_brk ho, wrap_succ (by omega)]; exact ⟨rfl, .inl rfl⟩) (by
      unfold m_s_HardPair_l0; rw [if_neg (by simp)]) (by
      unfold m_i_HardPair_l0; rw [if_neg (by simp)])
    rw [← e]
    rcases ho with ⟨r, ho⟩ | ho
    · rw [bindL_ret ho]; exact ⟨_, rfl, rfl⟩
    · rw [bindL_brk ho]; exact ⟨_, rfl, rfl⟩
end Go.Proofs.YtcmpdlhbliolaaaGreat.D
/- The plain law of TractabilityClass: useful states, finite languages. -/
set_option linter.unusedVariables false
set_option linter.unusedSimpArgs false
set_option linter.unnecessarySimpa false
set_option linter.unusedSectionVars false
namespace Go.Proofs.YtcmpdlhbliolaaaGreat.D
open Go.RowKit

theorem reach_l1 : m_s_l11Reach_l1 = m_s_l13Onward_l2 := rfl
theorem one_set {n : Nat} {x : Int} (h0 : 0 ≤ x) (h1 : x < n) {t : Int} (t0 : 0 ≤ t) : nth ((List.replicate n false).set x.toNat true) t = true ↔ t = x := by
  by_cases e : x = t
  · subst e
    rw [nth_set_self h0 (by rw [List.length_replicate]; exact h1)]; simp
  · rw [nth_set_ne h0 t0 e, nth_falses]
    constructor
    · intro h; cases h
    · intro h; exact absurd h.symm e
section
variable {a : AutT} {n : Nat}
theorem s_reached (V : VA a n) (hn : n ≤ 1000000) : ∃ out, m_s_l11Reach a = some out ∧ out.length = n ∧ ∀ t : Int, 0 ≤ t → t < n → (nth out t = true ↔ t = a.1 ∨ Relation.TransGen (Step a) a.1 t) := by
  have h0 := V.start
  have hlr : (List.replicate n false).length = n := List.length_replicate ..
  have hl0 : ((List.replicate n false).set a.1.toNat true).length = n := by rw [List.length_set, hlr]
  have hl1 := (rnds_length a n _ n).trans hl0
  refine ⟨rnds a n ((List.replicate n false).set a.1.toNat true) n, ?_, hl1, fun t t0 t1 => ⟨?_, ?_⟩⟩
  · unfold m_s_l11Reach
    rw [V.len, show mkI 1 (n : Int) false = some (List.replicate n false) from by unfold mkI; rw [if_pos (by omega)]; simp]; simp only [Option.bind_some]
    rw [getI_nth h0.1 (by omega)]; simp only [Option.bind_some]
    have := loopM_at (f := m_s_l11Reach_l0 a) (fun j => (rnds a n ((List.replicate n false).set a.1.toNat true) j, (j : Int))) n (fun j hj => by
      have e := s_onw_round V hn ((rnds_length a n _ j).trans hl0)
      unfold m_s_l11Reach_l0
      simp only
      rw [V.len, if_pos (by simp; omega), reach_l1, bindL_brk e, wrap_succ (by omega)]; rfl) (by
      unfold m_s_l11Reach_l0
      simp only
      rw [V.len, if_neg (by simp)]) (up63 (by omega))
    have this : loopM (m_s_l11Reach_l0 a) FUEL ((List.replicate n false).set a.1.toNat true, 0) = _ := this
    rw [bindL_brk this]
  · refine rnds_sound V (P := fun t => t = a.1 ∨ Relation.TransGen (Step a) a.1 t) (fun y z _ _ hy hs => ?_) hl0 (fun u u0 u1 hu => .inl ((one_set h0.1 h0.2 u0).1 hu)) n t t0 t1
    rcases hy with hy | hy
    · rw [hy] at hs; exact .inr (.single hs)
    · exact .inr (.tail hy hs)
  · have hst := rnds_mono V hl0 h0.1 h0.2 ((one_set h0.1 h0.2 h0.1).2 rfl) n
    have key : ∀ u, Relation.TransGen (Step a) a.1 u → nth (rnds a n ((List.replicate n false).set a.1.toNat true) n) u = true := fun u hu => by
      induction hu with
      | single h => exact rnd_fix V hl1 (rnds_fix V hl0) h0.1 h0.2 (step_in V h0.1 h0.2 h).2 hst h
      | tail h k ih =>
        have hb := trans_in V h0.1 h0.2 h
        exact rnd_fix V hl1 (rnds_fix V hl0) hb.1 hb.2 (step_in V hb.1 hb.2 k).2 ih k
    rintro (rfl | h)
    · exact hst
    · exact key t h
def useL (x y : List Bool) : Nat → List Int
  | 0 => []
  | k + 1 => if nth x k = true ∧ nth y k = true then useL x y k ++ [(k : Int)] else useL x y k
theorem useL_len (x y : List Bool) : ∀ k, (useL x y k).length ≤ k
  | 0 => Nat.le_refl _
  | k + 1 => by
    have := useL_len x y k
    rw [useL]; split <;> simp <;> omega
theorem mem_useL {x y : List Bool} {t : Int} : ∀ k, (t ∈ useL x y k ↔ 0 ≤ t ∧ t < (k : Int) ∧ nth x t = true ∧ nth y t = true)
  | 0 => by simp [useL]; omega
  | k + 1 => by
    have ih := mem_useL (x := x) (y := y) (t := t) k
    rw [useL]
    split
    · rename_i c
      rw [List.mem_append, ih, List.mem_singleton]
      constructor
      · rintro (h | rfl)
        · exact ⟨h.1, by omega, h.2.2⟩
        · exact ⟨by omega, by omega, c⟩
      · rintro ⟨h1, h2, h3⟩
        by_cases e : t = (k : Int)
        · exact .inr e
        · exact .inl ⟨h1, by omega, h3⟩
    · rename_i c
      rw [ih]
      constructor
      · rintro h; exact ⟨h.1, by omega, h.2.2⟩
      · rintro ⟨h1, h2, h3⟩
        by_cases e : t = (k : Int)
        · subst e; exact absurd h3 c
        · exact ⟨h1, by omega, h3⟩
theorem use_both (V : VA a a.2.1.length) (hn : a.2.1.length ≤ 12) (hs : Data.sm a) : ∃ U, m_s_UsefulStates a = some U ∧ m_i_UsefulStates a = some U ∧ U.length ≤ 12 ∧ ∀ x, x ∈ U ↔ Use a x := by
  obtain ⟨r, er, hl, hr⟩ := s_reached V (by omega)
  obtain ⟨f, ef, hfl, hf⟩ := i_found V (by omega) V.start.1 V.start.2
  have ef : m_i_Automaton_found a = some f := ef
  have hll := live_length a
  have e1 : r = f := ext_nth (by omega) (fun i hi => by
    rw [Bool.eq_iff_iff, hr i (by omega) (by omega), hf i (by omega) (by omega)])
  subst e1
  have esw : ∀ k, useL (live a) r k = useL r (live a) k := fun k => by
    induction k with
    | zero => rfl
    | succ k ih => rw [useL, useL, ih]; simp only [and_comm]
  refine ⟨useL r (live a) a.2.1.length, ?_, ?_, by have := useL_len r (live a) a.2.1.length; omega, fun x => ?_⟩
  · unfold m_s_UsefulStates
    simp only [peta]
    rw [valid_s V hn hs]; simp only [Option.bind_some, if_true]
    rw [er, s_live V (by omega)]; simp only [Option.bind_some]
    have := loopM_at (f := m_s_UsefulStates_l0 a r (live a)) (fun k => (useL r (live a) k, (k : Int))) a.2.1.length (fun k hk => by
      have := useL_len r (live a) k
      unfold m_s_UsefulStates_l0
      simp only
      rw [if_pos (by simp; omega), getI_nth (by omega) (by omega), getI_nth (by omega) (by omega), appI_ok (by simp; omega), wrap_succ (by omega), useL]; simp only [Option.bind_some]
      cases nth r (k : Int) <;> cases nth (live a) (k : Int) <;> simp) (by
      unfold m_s_UsefulStates_l0
      simp only
      rw [if_neg (by simp)]) (up63 (by omega))
    have this : loopM (m_s_UsefulStates_l0 a r (live a)) FUEL (([] : List Int), 0) = _ := this
    rw [bindL_brk this]
  · unfold m_i_UsefulStates
    simp only [peta]
    rw [valid_i V hn hs]; simp only [Option.bind_some, if_true]
    rw [ef, i_live V (by omega)]; simp only [Option.bind_some]
    have := loopM_at (f := m_i_UsefulStates_l0 (live a) r) (fun k => (useL (live a) r k, (k : Int))) a.2.1.length (fun k hk => by
      have := useL_len (live a) r k
      unfold m_i_UsefulStates_l0
      simp only
      rw [if_pos (by simp; omega), getI_nth (by omega) (by omega), getI_nth (by omega) (by omega), appI_ok (by simp; omega), wrap_succ (by omega), useL]; simp only [Option.bind_some]
      cases nth r (k : Int) <;> cases nth (live a) (k : Int) <;> simp) (by
      unfold m_i_UsefulStates_l0
      simp only
      rw [if_neg (by simp; omega)]) (up63 (by omega))
    have this : loopM (m_i_UsefulStates_l0 (live a) r) FUEL (([] : List Int), 0) = _ := this
    rw [bindL_brk this, esw]
  · rw [mem_useL]
    constructor
    · rintro ⟨h0, h1, h2, h3⟩
      exact ⟨(hr x h0 h1).1 h2, h3⟩
    · intro h
      obtain ⟨h0, h1⟩ := h.in V
      exact ⟨h0, h1, (hr x h0 h1).2 h.1, h.2⟩
theorem s_finite (V : VA a a.2.1.length) (hn : a.2.1.length ≤ 12) (hs : Data.sm a) : ∃ r, m_s_IsFiniteLanguage a = some r ∧ (r = true ↔ ∀ x, Use a x → ¬ Relation.TransGen (Step a) x x) := by
  obtain ⟨U, es, -, hU, hm⟩ := use_both V hn hs
  unfold m_s_IsFiniteLanguage
  simp only [peta]
  rw [valid_s V hn hs]; simp only [Option.bind_some, if_true]
  rw [es]; simp only [Option.bind_some]
  rcases findI_go (f := m_s_IsFiniteLanguage_l0 a U) U (fun x => nth (onw a a.2.1.length x) x) (fun _ => false) (by omega) (fun i hi => by
      obtain ⟨h0, h1⟩ := ((hm _).1 (List.getElem_mem hi)).in V
      have hl := onw_length a a.2.1.length U[i]
      unfold m_s_IsFiniteLanguage_l0
      simp only [peta]
      rw [lt_nat hi, if_pos rfl, getI_nat hi]; simp only [Option.bind_some]
      rw [s_onward V (by omega) h0 h1]; simp only [Option.bind_some]
      rw [getI_nth h0 (by omega)]; simp only [Option.bind_some, wrap_succ (show i < 9223372036854775807 by omega)]
      split <;> rfl) (by
      unfold m_s_IsFiniteLanguage_l0
      rw [lt_self]; rfl) with ⟨i, hi, h1, e⟩ | ⟨h1, e⟩
  · refine ⟨false, bindL_ret e, ?_⟩
    obtain ⟨h0, h2⟩ := ((hm _).1 (List.getElem_mem hi)).in V
    constructor
    · intro h; cases h
    · intro h
      exact absurd ((onw_mem V h0 h2 h0 h2).1 h1) (h _ ((hm _).1 (List.getElem_mem hi)))
  · refine ⟨true, bindL_brk e, ?_⟩
    constructor
    · intro _ x hx hc
      obtain ⟨h0, h2⟩ := hx.in V
      have := h1 x ((hm x).2 hx)
      rw [(onw_mem V h0 h2 h0 h2).2 hc] at this
      cases this
    · intro _; rfl
structure FinI (a : AutT) (U : List Int) (i : Nat) : Prop where
  len : U.length + i ≤ 12
  use : ∀ x ∈ U, Use a x
  cyc : ∀ C : Int → Prop, (∀ x, C x → Use a x) → (∀ x, C x → ∃ y, C y ∧ Step a x y) → ∀ x, C x → x ∈ U
theorem i_finite (V : VA a a.2.1.length) (hn : a.2.1.length ≤ 12) (hs : Data.sm a) : ∃ r, m_i_IsFiniteLanguage a = some r ∧ (r = true ↔ ∀ x, Use a x → ¬ Relation.TransGen (Step a) x x) := by
  obtain ⟨U, -, ei, hU, hm⟩ := use_both V hn hs
  unfold m_i_IsFiniteLanguage
  simp only [peta]
  rw [valid_i V hn hs]; simp only [Option.bind_some, if_true]
  rw [ei]; simp only [Option.bind_some]
  obtain ⟨o, e, hQ⟩ := loopM_go (f := m_i_IsFiniteLanguage_l0 a) (fun i U => FinI a U i) (fun o => (o = .brk [] ∧ ∀ x, Use a x → ¬ Relation.TransGen (Step a) x x) ∨ (o = .ret false ∧ ∃ x, Use a x ∧ Relation.TransGen (Step a) x x)) 12 (s := U) (by
    intro i U hi H
    have hlen := H.len
    unfold m_i_IsFiniteLanguage_l0
    simp only [peta]
    cases hU : U with
    | nil =>
      subst hU
      refine .inr ⟨_, by rw [if_neg (by simp)], fun s' h => (by cases h), .inl ⟨rfl, fun x hx hc => ?_⟩⟩
      obtain ⟨C, h1, h2, h3⟩ := cyc_set V hx hc
      cases H.cyc C h2 h3 x h1
    | cons z zs =>
      rw [← hU]
      have hpos : 0 < U.length := by rw [hU]; simp
      rw [if_pos (by simp; omega)]
      have hf : ∀ s ∈ U, m_i_IsFiniteLanguage_1 s a U = some (!((nth a.2.2 s).any fun t => decide (t ∈ U))) := fun s hs' => by
        obtain ⟨s0, s1⟩ := (H.use s hs').in V
        have hrw := V.rowAt s0 s1
        unfold m_i_IsFiniteLanguage_1
        rw [V.get s0 s1]; simp only [Option.bind_some]
        rw [i_containsFunc (b := fun t => decide (t ∈ U)) (by omega) (fun t _ => by
          unfold m_i_IsFiniteLanguage_1_1
          rw [i_contains (by omega)]; rfl)]; rfl
      have hrow : ∀ s ∈ U, ((nth a.2.2 s).any fun t => decide (t ∈ U)) = true ↔ ∃ y ∈ U, Step a s y := fun s hs' => by
        have hi' := (H.use s hs').in V
        have hrw := V.rowAt hi'.1 hi'.2
        rw [List.any_eq_true]
        constructor
        · rintro ⟨t, ht, h⟩
          have h := of_decide_eq_true h
          exact ⟨t, h, row_step V hn hs hi' ht ((H.use t h).in V).1⟩
        · rintro ⟨y, hy, k, hk, e, h0⟩
          exact ⟨y, by rw [← e]; exact nth_mem (by omega) (by omega), decide_eq_true hy⟩
      rcases i_indexFunc (f := fun u => m_i_IsFiniteLanguage_1 u a U) (by omega) hf with ⟨k, hk, h1, e⟩ | ⟨h1, e⟩
      · left
        have e : m_g_slices_IndexFunc_S_int_int U (fun u => m_i_IsFiniteLanguage_1 u (a.1, a.2.1, a.2.2) U) = _ := e
        rw [e]; simp only [Option.bind_some]
        rw [if_neg (by simp), wrap_succ (by omega)]
        unfold m_g_slices_Delete_S_int_int R.delI
        rw [chk_is (by omega)]; simp only [Option.bind_some]
        have hsp : U.take k ++ (U[k] :: U.drop (k + 1)) = U := by rw [← List.drop_eq_getElem_cons hk, List.take_append_drop]
        refine ⟨by omega, _, rfl, ?_, fun x hx => ?_, fun C h2 h3 x hx => ?_⟩
        · simp; omega
        · refine H.use x ?_
          have hx : x ∈ U.take k ++ U.drop (k + 1) := hx
          rw [← hsp]
          rcases List.mem_append.1 hx with h | h
          · exact List.mem_append.2 (.inl h)
          · exact List.mem_append.2 (.inr (List.mem_cons_of_mem _ h))
        · have hin := H.cyc C h2 h3
          have hne : x ≠ U[k] := fun e => by
            obtain ⟨y, h4, h5⟩ := h3 x hx
            have := (hrow U[k] (List.getElem_mem hk)).2 ⟨y, hin y h4, by rw [← e]; exact h5⟩
            rw [this] at h1
            cases h1
          have hx' := hin x hx
          rw [← hsp] at hx'
          show x ∈ U.take k ++ U.drop (k + 1)
          rcases List.mem_append.1 hx' with h | h
          · exact List.mem_append.2 (.inl h)
          · rcases List.mem_cons.1 h with h | h
            · exact absurd h hne
            · exact List.mem_append.2 (.inr h)
      · right
        have e : m_g_slices_IndexFunc_S_int_int U (fun u => m_i_IsFiniteLanguage_1 u (a.1, a.2.1, a.2.2) U) = _ := e
        rw [e]; simp only [Option.bind_some]
        refine ⟨_, by rw [if_pos (by decide)], fun s' h => (by cases h), .inr ⟨rfl, ?_⟩⟩
        obtain ⟨x, hx, hc⟩ := cyc_ex (a := a) (U := U) (by intro h; rw [h] at hpos; simp at hpos) (fun x hx => by
          have := h1 x hx
          refine (hrow x hx).1 ?_
          simpa using this)
        exact ⟨x, H.use x hx, hc⟩) ⟨by omega, fun x hx => (hm x).1 hx, fun C h1 h2 x hx => (hm x).2 (h1 x hx)⟩ (by unfold FUEL; omega)
  rcases hQ with ⟨rfl, hQ⟩ | ⟨rfl, x, hx, hc⟩
  · exact ⟨true, bindL_brk e, fun _ => hQ, fun _ => rfl⟩
  · refine ⟨false, bindL_ret e, fun h => (by cases h), fun h => absurd hc (h x hx)⟩
end
theorem class_both (a : AutT) (hs : Data.sm a) : ∃ r, m_s_TractabilityClass a = some r ∧ m_i_TractabilityClass a = some r := by
  have hsm := hs
  obtain ⟨x, h1, h2⟩ := hard_both a hs
  obtain ⟨-, ⟨ha, -⟩, hn, hr⟩ := hs
  obtain ⟨b1, e1, k1⟩ := s_valid a (by omega) (by omega)
  obtain ⟨b2, e2, k2⟩ := i_valid a (by omega) (by omega) (fun r h => by have : r.length ≤ 1048576 := (hr r h).1; omega)
  have : b2 = b1 := by rw [Bool.eq_iff_iff, k1, k2]
  subst this
  unfold m_s_TractabilityClass m_i_TractabilityClass
  simp only [peta]
  rw [e1, e2, h1, h2]; simp only [Option.bind_some]
  cases b2 with
  | false => exact ⟨_, rfl, rfl⟩
  | true =>
    obtain ⟨h12, V⟩ := k1.1 rfl
    obtain ⟨f1, g1, m1⟩ := s_finite V h12 hsm
    obtain ⟨f2, g2, m2⟩ := i_finite V h12 hsm
    obtain rfl : f2 = f1 := by rw [Bool.eq_iff_iff, m1, m2]
    simp only [if_true]
    rw [g1, g2]; simp only [Option.bind_some]
    cases f2 with
    | true => exact ⟨_, rfl, rfl⟩
    | false => simp only [Bool.false_eq_true, if_false]; split <;> exact ⟨_, rfl, rfl⟩
theorem lawTractabilityClass (x : AutT) (hx : Data.lim x) : m_w_FnExactTractabilityClass x = some true := by
  unfold m_w_FnExactTractabilityClass
  simp only [peta]
  obtain ⟨r1, e1, k1⟩ := z_szAutomaton x 1048576 hx (by decide) (by decide)
  rw [e1]; simp only [Option.bind_some]
  rcases k1 with k1 | ⟨k1, j1, s1⟩
  · rw [if_pos (decide_eq_true k1)]
  rw [if_neg (by simpa using k1)]
  obtain ⟨r, es, ei⟩ := class_both x s1
  simp only [t_toAutomaton x s1, es, ei, q_eqAutomaton x x s1 s1, Option.bind_some, peta, decide_true, if_true]
  simp
end Go.Proofs.YtcmpdlhbliolaaaGreat.D
/- From 'the call returns true and changes nothing that was there' to the row's own post, whatever the arguments' types. -/
set_option linter.unusedVariables false
set_option linter.unusedSimpArgs false
namespace Go.Proofs.YtcmpdlhbliolaaaGreat
open Go.ChangeShapes Go.WideShapes Go.ChangeAt Go.RowKit
theorem own : ownKnob Tryz.prog.godebug = none := by kernel_rfl
theorem laidOut : laidOutB Tryz.prog = true := by kernel_rfl
theorem below_trodAll {H : Type} {enc : TypeId × Value → H} {P : Program} (hl : laidOutB P = true) {W W' : World} (hb : Below W.heap.size W W') :
    ∀ {ts : List TypeId} {vs : List Value} {ds : List (DataW H)} {ps : List MemPlace}, (∀ t ∈ ts, P.readableRec t = true ∧ t < P.types.size) →
      DataW.TrodAll enc P W 0 (fun _ => true) true ts vs ds ps → (∀ x ∈ ps, x.block < W.heap.size) → DataW.TrodAll enc P W' 0 (fun b => decide (b < W.heap.size)) true ts vs ds ps
  | [], [], [], ps, _, h, _ => h
  | t :: ts, v :: vs, d :: ds, ps, hr, ⟨p, q, h1, h2, h3⟩, hlt => by
    subst h3
    exact ⟨p, q, Below.trod hl (hr t (by simp)).1 (hr t (by simp)).2 h1 hb fun x hx => hlt x (by simp [hx]), below_trodAll hl hb (fun t ht => hr t (by simp [ht])) h2 fun x hx => hlt x (by simp [hx]), rfl⟩
  | [], _ :: _, _, _, _, h, _ => h.elim
  | [], [], _ :: _, _, _, h, _ => h.elim
  | _ :: _, [], _, _, _, h, _ => h.elim
  | _ :: _, _ :: _, [], _, _, h, _ => h.elim
theorem law_post {H : Type} {enc : TypeId × Value → H} {f : Func} {s : ChangeSpec} {W W' : World} {args : Array Value} {ds : List (DataW H)} {before : List MemPlace} (tb : TypeId)
    (hb : Tryz.prog.underlying tb = some .bool) (hr : f.resultTypes = #[tb]) (hp : (f.params.toList.all fun t => Tryz.prog.readableRec t && decide (t < Tryz.prog.types.size)) = true) (hv : s.vars = [])
    (hW : DataW.Whole enc Tryz.prog f.params.toList s.vars false W args.toList ds [] before) (hres : (s.fn H (ds ++ [])).results = [.lit (.bool true)]) (hargs : (s.fn H (ds ++ [])).args = ds) (hvars : (s.fn H (ds ++ [])).vars = [])
    (hbel : Below W.heap.size W W') : s.post enc Tryz.prog f false true false false W args (.bool true) W' := by
  obtain ⟨p, q, h1, h2, h3, h4, h5⟩ := hW
  have hW' : DataW.Whole enc Tryz.prog f.params.toList s.vars false W args.toList ds [] before := ⟨p, q, h1, h2, h3, h4, h5⟩
  have hq : q = [] := by rw [hv] at h2; exact h2
  subst hq
  simp only [List.append_nil] at h3
  subst h3
  refine ⟨ds, [], before, [], before, [], hW', ?_, ?_, ?_, hbel.frame _, fun h => by cases h⟩
  · rw [hres, hr]
    exact trodAll_mk1 (shut_bool hb true)
  · rw [hargs]
    exact below_trodAll laidOut hbel (fun t ht => by have := List.all_eq_true.1 hp t ht; simpa using this) h1 fun x hx => by simpa using hW'.lt x hx
  · rw [hvars, hv]; rfl
end Go.Proofs.YtcmpdlhbliolaaaGreat
/- FnExactTractabilityClass: for every input the law returns true and changes nothing that was there. (Printed by genrow.py over the walk and the plain law.) -/
set_option linter.unusedVariables false
set_option linter.unusedSimpArgs false
set_option linter.unnecessarySimpa false
set_option maxRecDepth 100000
namespace Go.Proofs.YtcmpdlhbliolaaaGreat
open Go.ChangeShapes Go.WideShapes Go.ChangeAt Go.RowKit
namespace D
theorem op3 : Opens Tryz.prog 3 rInt := opens_int Tryz.underlying3
theorem op4 : Opens Tryz.prog 4 rBool := opens_bool Tryz.underlying4
theorem op22 : Opens Tryz.prog 22 (rSlice 4 rBool) := opens_slice Tryz.underlying22 (by kernel_rfl) (by decide) op4
theorem op39 : Opens Tryz.prog 39 (rSlice 3 rInt) := opens_slice Tryz.underlying39 (by kernel_rfl) (by decide) op3
theorem op23 : Opens Tryz.prog 23 (rSlice 39 (rSlice 3 rInt)) := opens_slice Tryz.underlying23 (by kernel_rfl) (by decide) op39
theorem op25 : Opens Tryz.prog 25 (rProd rInt (rProd (rSlice 4 rBool) (rSlice 39 (rSlice 3 rInt)))) := by
  refine opens_struct Tryz.underlying25 (by kernel_rfl) ?_
  refine opens_next (R := rInt) (S := rProd (rSlice 4 rBool) (rSlice 39 (rSlice 3 rInt))) rfl (by kernel_rfl) op3 ?_
  refine opens_next (R := rSlice 4 rBool) (S := rSlice 39 (rSlice 3 rInt)) rfl (by kernel_rfl) op22 ?_
  exact opens_last rfl (by kernel_rfl) op23
theorem rdL25 {W : World} {base : Nat} {z : Value} {H : Type} {enc : TypeId × Value → H} {d : DataW H} {p : List MemPlace} (hv : Value.okWide Tryz.prog W .any base 25 z) (h : DataW.Trod enc Tryz.prog W 0 (fun _ => true) true 25 z d p) :
    ∃ (x : Int × (List Bool) × (List (List Int))) (v0 : Value) (v1 : Value), z = .agg #[.int .i64 x.1, v0, v1] ∧ Data.lim x ∧ (rSlice 4 rBool).rd (hp W) [v0] x.2.1 ∧ (rSlice 39 (rSlice 3 rInt)).rd (hp W) [v1] x.2.2 := by
  obtain ⟨fuel, hf⟩ := h
  obtain ⟨⟨cs⟩, rfl, -⟩ := okWide_struct Tryz.underlying25 hv
  obtain ⟨x, hx, hl⟩ := op25.out enc W _ _ _ hf
  have hx : (rProd rInt (rProd (rSlice 4 rBool) (rSlice 39 (rSlice 3 rInt)))).rd (hp W) cs x := hx
  obtain ⟨_, _, rfl, rfl, ⟨_, _, rfl, r0, r1⟩⟩ := hx
  obtain ⟨v0, rfl⟩ := one_cell r0 rfl
  obtain ⟨v1, rfl⟩ := one_cell r1 rfl
  exact ⟨x, v0, v1, rfl, hl, r0, r1⟩
end D
open D (Data)
theorem rowLTractabilityClass (W : World) (args : Array Value) (H : Type) (enc : TypeId × Value → H) (base : Nat) (ds gs : List (DataW H)) (before : List MemPlace)
    (hval : ∀ (j : Nat) t v, Tryz.f4.params[j]? = some t → args[j]? = some v → Value.okWide Tryz.prog W .any base t v)
    (hW : DataW.Whole enc Tryz.prog Tryz.f4.params.toList Rows.fnExactTractabilityClassSpec.vars false W args.toList ds gs before) :
    Calls Tryz.prog 4 args W fun e W' => ∃ v, e = .returned v ∧ Rows.fnExactTractabilityClassSpec.post enc Tryz.prog Tryz.f4 false true false false W args v W' := by
  have hW' := hW
  obtain ⟨p, q, hA, hV, rfl, hfz, hnd⟩ := hW
  rw [Tryz.params4] at hA hval
  obtain ⟨z0, vs0, d0, ds0, p0, q0, hargs, rfl, rfl, h0, r0⟩ := trodAll_cons hA
  obtain ⟨rfl, rfl, rfl⟩ := trodAll_nil r0
  obtain rfl : args = #[z0] := by cases args; simp_all
  obtain ⟨rfl, rfl⟩ := trodVars_none hV
  obtain ⟨x0, v0_0, v0_1, rfl, l0, r0_0, r0_1⟩ := D.rdL25 (hval 0 _ _ rfl rfl) h0
  have hc := D.c_w_FnExactTractabilityClass x0 true (D.lawTractabilityClass x0 l0) (I := D.hp W) (w0 := W) v0_0 v0_1 r0_0 r0_1 D.Lay.all W [] (D.St.init W)
  refine hc.mono fun e W' ⟨v, he, hv, hs⟩ => ?_
  subst he; subst hv
  exact ⟨_, rfl, law_post (f := Tryz.f4) (s := Rows.fnExactTractabilityClassSpec) 4 Tryz.underlying4 rfl (by kernel_rfl) rfl hW' rfl rfl rfl (D.St.below hs)⟩
theorem liftedLTractabilityClass (os : Os) (started : os.Started) (H : Type) (enc : TypeId × Value → H) :
    ReturnsInHanded {} Tryz.checked os 4 .any (Rows.fnExactTractabilityClassSpec.pre6 enc Tryz.prog Tryz.f4 Rows.fnExactTractabilityClassRow.domain false) (Rows.fnExactTractabilityClassSpec.post enc Tryz.prog Tryz.f4 false true false false) := by
  refine returnsInHanded_of_change_sized (C := Tryz.checked) own started (by kernel_rfl) Tryz.func4
    (ChangeSpec.witness6 (enc := enc) (C := Tryz.checked) false ⟨#[], #[.agg #[.int .i64 0, .slice none 0 0, .slice none 0 0]], []⟩ 8 (by kernel_rfl) (by kernel_rfl) (by kernel_rfl) (by kernel_rfl)) ?_
  intro W base args ds gs before hval hW hcnd hsz _
  exact rowLTractabilityClass W args H enc base ds gs before hval hW
set_option maxHeartbeats 4000000 in
theorem closedLTractabilityClass : joinedFacts Tryz.pinned.checked.prog 4 Tryz.f4 Rows.fnExactTractabilityClassSpec Rows.fnExactTractabilityClassRow = true := by
  unfold joinedFacts
  repeat' (with_reducible refine Bool.and_eq_true_iff.2 ⟨?_, ?_⟩)
  all_goals as_aux_lemma => kernel_rfl
theorem holdsLTractabilityClass : Rows.FnExactTractabilityClassSaid :=
  OpenClaim.holds_of_wide 4 Tryz.f4 rfl rfl rfl rfl rfl rfl rfl ⟨rfl, rfl, rfl, rfl, rfl⟩ rfl rfl rfl rfl rfl (by kernel_rfl) Tryz.func4 closedLTractabilityClass
    (of_decide_eq_true (by kernel_rfl)) (by unfold Func.isWrapper; first | (rw [if_pos (by decide +kernel)]; kernel_rfl) | (rw [if_neg (by decide +kernel)]; exact ⟨rfl, rfl⟩))
    (fun os started H enc _ => liftedLTractabilityClass os started H enc)
end Go.Proofs.YtcmpdlhbliolaaaGreat
