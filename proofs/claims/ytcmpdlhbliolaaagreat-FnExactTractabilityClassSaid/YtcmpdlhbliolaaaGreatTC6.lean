/- FnExactTractabilityClass: for every input the law returns true and changes nothing that was there. Part 7 of 8. -/
import Derived.Test.YtcmpdlhbliolaaaGreatTC5
set_option linter.unusedVariables false
set_option linter.unusedSimpArgs false
set_option linter.unnecessarySimpa false
set_option linter.unusedSectionVars false
/- Loops as steps on invariants; numbering in the order of discovery. No program text is named here. -/
set_option linter.unusedVariables false
set_option linter.unusedSimpArgs false
set_option linter.unnecessarySimpa false
namespace Go.Proofs.YtcmpdlhbliolaaaGreat.D
open Go.RowKit

/-! ### Loops -/
theorem loopM_go {R S : Type} {f : S → Option (Out R S)} (Inv : Nat → S → Prop) (Q : Out R S → Prop) (N : Nat)
    (h : ∀ i s, i ≤ N → Inv i s → (i < N ∧ ∃ s', f s = some (.nxt s') ∧ Inv (i + 1) s') ∨ ∃ o, f s = some o ∧ (∀ s', o ≠ .nxt s') ∧ Q o) {s : S} (h0 : Inv 0 s) (hN : N < FUEL) : ∃ o, loopM f FUEL s = some o ∧ Q o := by
  have key : ∀ (k i : Nat) (s : S), i ≤ N → N < i + k → Inv i s → ∃ o, loopM f k s = some o ∧ Q o := by
    intro k
    induction k with
    | zero => intro i s h1 h2; omega
    | succ k ih =>
      intro i s h1 h2 hI
      rcases h i s h1 hI with ⟨hi, s', e, hI'⟩ | ⟨o, e, hn, hq⟩
      · obtain ⟨o, e', hq⟩ := ih (i + 1) s' (by omega) (by omega) hI'
        exact ⟨o, by rw [loopM, e]; exact e', hq⟩
      · refine ⟨o, ?_, hq⟩
        rw [loopM, e]
        cases o with
        | nxt s' => exact absurd rfl (hn s')
        | brk s' => rfl
        | ret r => rfl
  exact key FUEL 0 s (by omega) (by omega) h0
theorem loopM_for {R S : Type} {f : S → Option (Out R S)} (Inv : Nat → S → Prop) (N : Nat) (h : ∀ i s, i < N → Inv i s → ∃ s', f s = some (.nxt s') ∧ Inv (i + 1) s') (he : ∀ s, Inv N s → f s = some (.brk s)) {s : S} (h0 : Inv 0 s) (hN : N < FUEL) : ∃ s', loopM f FUEL s = some (.brk s') ∧ Inv N s' := by
  obtain ⟨o, e, s', rfl, h⟩ := loopM_go (f := f) Inv (fun o => ∃ s', o = .brk s' ∧ Inv N s') N (fun i s hi hI => by
    by_cases h1 : i < N
    · exact .inl ⟨h1, h i s h1 hI⟩
    · obtain rfl : i = N := by omega
      exact .inr ⟨_, he s hI, (fun s' e => by cases e), s, rfl, hI⟩) h0 hN
  exact ⟨s', e, h⟩
theorem loopM_at {R S : Type} {f : S → Option (Out R S)} (st : Nat → S) (N : Nat) (h : ∀ i, i < N → f (st i) = some (.nxt (st (i + 1)))) (he : f (st N) = some (.brk (st N))) (hN : N < FUEL) : loopM f FUEL (st 0) = some (.brk (st N)) := loopM_all st N h he hN
theorem up63 {k : Nat} (h : k ≤ 9223372036854775807) : k < FUEL := fuelUp k h
theorem wrap_nat {i : Nat} (h : i ≤ 9223372036854775807) : IntKind.i64.wrap (i : Int) = (i : Int) := wrapI (by omega) (by omega)
theorem wrap_pred {i : Nat} (h : i ≤ 9223372036854775807) : IntKind.i64.wrap ((i : Int) - 1) = (i : Int) - 1 := wrapI (by omega) (by omega)
theorem appI_ok {α : Type} {b : Nat} {xs ys : List α} (h : (xs.length + ys.length) * b ≤ 140737488355328) : appI b xs ys = some (xs ++ ys) := by unfold appI; rw [if_pos h]
theorem bindL_ret {R S T : Type} {x : Option (Out R S)} {r : R} {kr : R → Option T} {k : S → Option T} (h : x = some (.ret r)) : bindL x kr k = kr r := by rw [h]; rfl
theorem bindL_brk {R S T : Type} {x : Option (Out R S)} {s : S} {kr : R → Option T} {k : S → Option T} (h : x = some (.brk s)) : bindL x kr k = k s := by rw [h]; rfl

/-! ### Places of lists -/
def nth {α : Type} [Inhabited α] (xs : List α) (i : Int) : α := xs.getD i.toNat default
section
variable {α : Type} [Inhabited α] {xs ys : List α}
theorem getI_nth {i : Int} (h0 : 0 ≤ i) (h1 : i < xs.length) : getI xs i = some (nth xs i) := by
  unfold getI nth
  rw [if_pos h0]
  have : i.toNat < xs.length := by omega
  simp [List.getD_eq_getElem?_getD, this]
theorem nth_nat {i : Nat} (h : i < xs.length) : nth xs (i : Int) = xs[i] := by simp [nth, List.getD_eq_getElem?_getD, h]
theorem nth_mem {i : Int} (h0 : 0 ≤ i) (h1 : i < xs.length) : nth xs i ∈ xs := by
  have : i.toNat < xs.length := by omega
  have e : nth xs i = xs[i.toNat] := by simp [nth, List.getD_eq_getElem?_getD, this]
  rw [e]; exact List.getElem_mem this
theorem nth_append_left {i : Int} (h0 : 0 ≤ i) (h1 : i < xs.length) : nth (xs ++ ys) i = nth xs i := by
  have : i.toNat < xs.length := by omega
  simp [nth, List.getD_eq_getElem?_getD, List.getElem?_append_left this]
theorem nth_map {β : Type} [Inhabited β] {f : α → β} {i : Int} (h0 : 0 ≤ i) (h1 : i < xs.length) : nth (xs.map f) i = f (nth xs i) := by
  have : i.toNat < xs.length := by omega
  simp [nth, List.getD_eq_getElem?_getD, this]
theorem mem_nth {x : α} (h : x ∈ xs) : ∃ i : Nat, i < xs.length ∧ nth xs (i : Int) = x := by
  obtain ⟨i, hi, rfl⟩ := List.getElem_of_mem h
  exact ⟨i, hi, nth_nat hi⟩
theorem nth_set_self {i : Int} {x : α} (h0 : 0 ≤ i) (h1 : i < xs.length) : nth (xs.set i.toNat x) i = x := by
  have : i.toNat < xs.length := by omega
  simp [nth, List.getD_eq_getElem?_getD, this]
theorem nth_set_ne {i j : Int} {x : α} (h0 : 0 ≤ i) (hj : 0 ≤ j) (h : i ≠ j) : nth (xs.set i.toNat x) j = nth xs j := by
  have : i.toNat ≠ j.toNat := by omega
  simp [nth, List.getD_eq_getElem?_getD, List.getElem?_set_ne this]
theorem ext_nth (h : xs.length = ys.length) (k : ∀ i : Nat, i < xs.length → nth xs (i : Int) = nth ys (i : Int)) : xs = ys := by
  refine List.ext_getElem h fun i h1 h2 => ?_
  have := k i h1
  rwa [nth_nat h1, nth_nat h2] at this
end

/-! ### Numbering in the order of discovery -/
section
variable {κ : Type} [DecidableEq κ]
def nbL (l : List κ) : Option κ → List κ
  | none => l
  | some x => if x ∈ l then l else l ++ [x]
def nbI (l : List κ) : Option κ → Int
  | none => -1
  | some x => (l.idxOf x : Int)
def nbS (l : List κ) (os : List (Option κ)) : List κ := os.foldl nbL l
def nbR (l : List κ) : List (Option κ) → List Int
  | [] => []
  | o :: os => nbI l o :: nbR (nbL l o) os
theorem nbS_snoc (l : List κ) (os : List (Option κ)) (o : Option κ) : nbS l (os ++ [o]) = nbL (nbS l os) o := by simp [nbS]
theorem nbR_snoc : ∀ (l : List κ) (os : List (Option κ)) (o : Option κ), nbR l (os ++ [o]) = nbR l os ++ [nbI (nbS l os) o]
  | l, [], o => rfl
  | l, p :: os, o => by
    show nbI l p :: nbR (nbL l p) (os ++ [o]) = nbI l p :: nbR (nbL l p) os ++ [nbI (nbS (nbL l p) os) o]
    rw [nbR_snoc (nbL l p) os o]; rfl
theorem nbR_length : ∀ (l : List κ) (os : List (Option κ)), (nbR l os).length = os.length
  | l, [] => rfl
  | l, o :: os => by show (nbR (nbL l o) os).length + 1 = _; rw [nbR_length]; rfl
theorem nbL_prefix (l : List κ) (o : Option κ) : l <+: nbL l o := by
  cases o with
  | none => exact List.prefix_refl l
  | some x => unfold nbL; simp only; split
              · exact List.prefix_refl l
              · exact List.prefix_append l [x]
theorem nbS_prefix : ∀ (l : List κ) (os : List (Option κ)), l <+: nbS l os
  | l, [] => List.prefix_refl l
  | l, o :: os => (nbL_prefix l o).trans (nbS_prefix (nbL l o) os)
theorem nbL_nodup {l : List κ} {o : Option κ} (h : l.Nodup) : (nbL l o).Nodup := by
  cases o with
  | none => exact h
  | some x => unfold nbL; simp only; split
              · exact h
              · rename_i hx; exact List.nodup_append.2 ⟨h, by simp, by rintro a ha b hb rfl; simp at hb; exact hx (hb ▸ ha)⟩
theorem nbS_nodup : ∀ {l : List κ} {os : List (Option κ)}, l.Nodup → (nbS l os).Nodup
  | l, [], h => h
  | l, o :: os, h => nbS_nodup (l := nbL l o) (os := os) (nbL_nodup h)
theorem mem_nbL {l : List κ} {o : Option κ} {x : κ} : x ∈ nbL l o ↔ x ∈ l ∨ o = some x := by
  cases o with
  | none => simp [nbL]
  | some y => unfold nbL; simp only; split
              · rename_i h; constructor
                · exact .inl
                · rintro (h' | h')
                  · exact h'
                  · simp at h'; exact h' ▸ h
              · simp; exact or_congr Iff.rfl eq_comm
theorem mem_nbS : ∀ {l : List κ} {os : List (Option κ)} {x : κ}, x ∈ nbS l os ↔ x ∈ l ∨ some x ∈ os
  | l, [], x => by simp [nbS]
  | l, o :: os, x => by
    show x ∈ nbS (nbL l o) os ↔ _
    rw [mem_nbS, mem_nbL, List.mem_cons, or_assoc]
    exact or_congr Iff.rfl (or_congr eq_comm Iff.rfl)
theorem nbL_old {l : List κ} {x : κ} (h : x ∈ l) : nbL l (some x) = l := by simp [nbL, h]
theorem nbL_new {l : List κ} {x : κ} (h : x ∉ l) : nbL l (some x) = l ++ [x] := by simp [nbL, h]
theorem idxOf_nbL {l : List κ} {x : κ} (h : x ∉ l) : l.idxOf x = l.length := List.idxOf_eq_length h

def bfS (nx : κ → List (Option κ)) (first : κ) : Nat → List κ
  | 0 => [first]
  | i + 1 => match (bfS nx first i)[i]? with
    | some x => nbS (bfS nx first i) (nx x)
    | none => bfS nx first i
def bfR (nx : κ → List (Option κ)) (first : κ) : Nat → List (List Int)
  | 0 => []
  | i + 1 => bfR nx first i ++ (match (bfS nx first i)[i]? with
    | some x => [nbR (bfS nx first i) (nx x)]
    | none => [])
variable {nx : κ → List (Option κ)} {first : κ}
theorem bfS_succ {i : Nat} (h : i < (bfS nx first i).length) : bfS nx first (i + 1) = nbS (bfS nx first i) (nx ((bfS nx first i)[i])) := by
  rw [bfS, List.getElem?_eq_getElem h]
theorem bfR_succ {i : Nat} (h : i < (bfS nx first i).length) : bfR nx first (i + 1) = bfR nx first i ++ [nbR (bfS nx first i) (nx ((bfS nx first i)[i]))] := by
  rw [bfR, List.getElem?_eq_getElem h]
theorem bfS_step_prefix (i : Nat) : bfS nx first i <+: bfS nx first (i + 1) := by
  rw [bfS]
  split
  · exact nbS_prefix _ _
  · exact List.prefix_refl _
theorem bfS_prefix {i j : Nat} (h : i ≤ j) : bfS nx first i <+: bfS nx first j := by
  induction h with
  | refl => exact List.prefix_refl _
  | step _ ih => exact ih.trans (bfS_step_prefix _)
theorem bfS_nodup : ∀ i, (bfS nx first i).Nodup
  | 0 => by simp [bfS]
  | i + 1 => by
    rw [bfS]
    split
    · exact nbS_nodup (bfS_nodup i)
    · exact bfS_nodup i
theorem bfS_good {G : κ → Prop} (h0 : G first) (h : ∀ x, G x → ∀ y, some y ∈ nx x → G y) : ∀ i, ∀ x ∈ bfS nx first i, G x
  | 0 => by simp [bfS]; exact h0
  | i + 1 => by
    rw [bfS]
    split
    · rename_i y hy
      intro x hx
      rcases mem_nbS.1 hx with hx | hx
      · exact bfS_good h0 h i x hx
      · exact h y (bfS_good h0 h i y (List.mem_of_getElem? hy)) x hx
    · exact bfS_good h0 h i
theorem bfS_first (i : Nat) : (bfS nx first i)[0]? = some first := by
  obtain ⟨t, ht⟩ := bfS_prefix (nx := nx) (first := first) (Nat.zero_le i)
  rw [← ht]; rfl
theorem bfR_length : ∀ {i : Nat}, (∀ j, j < i → j < (bfS nx first j).length) → (bfR nx first i).length = i
  | 0, _ => rfl
  | i + 1, h => by rw [bfR_succ (h i (by omega)), List.length_append, bfR_length fun j hj => h j (by omega)]; rfl
def bfE (nx : κ → List (Option κ)) (first : κ) (N : Nat) : Prop := N = (bfS nx first N).length ∧ ∀ i, i < N → i < (bfS nx first i).length
theorem bfE_ex {B : Nat} (hB : ∀ i, (bfS nx first i).length ≤ B) : ∃ N, N ≤ B ∧ bfE nx first N := by
  have key : ∀ m i, i + m = B → (∀ j, j < i → j < (bfS nx first j).length) → ∃ N, N ≤ B ∧ bfE nx first N := by
    intro m
    induction m with
    | zero =>
      intro i hi hj
      have h1 := hB i
      have h2 : i ≤ (bfS nx first i).length := by
        cases i with
        | zero => omega
        | succ i =>
          have := hj i (by omega)
          have hp := (bfS_step_prefix (nx := nx) (first := first) i).length_le
          omega
      exact ⟨i, by omega, by omega, hj⟩
    | succ m ih =>
      intro i hi hj
      by_cases h : i < (bfS nx first i).length
      · exact ih (i + 1) (by omega) fun j hj' => by
          by_cases e : j = i
          · subst e; exact h
          · exact hj j (by omega)
      · have h2 : i ≤ (bfS nx first i).length := by
          cases i with
          | zero => omega
          | succ i =>
            have := hj i (by omega)
            have hp := (bfS_step_prefix (nx := nx) (first := first) i).length_le
            omega
        exact ⟨i, by omega, by omega, hj⟩
  exact key B 0 (by omega) (by omega)
theorem bfE_uniq {N M : Nat} (h : bfE nx first N) (k : bfE nx first M) : N = M := by
  rcases Nat.lt_trichotomy N M with e | e | e
  · have := k.2 N e; have := h.1; omega
  · exact e
  · have := h.2 M e; have := k.1; omega
end
end Go.Proofs.YtcmpdlhbliolaaaGreat.D
/- Automata: what is valid, the moves, what is live, by the reference and by the program. -/
set_option linter.unusedVariables false
set_option linter.unusedSimpArgs false
set_option linter.unnecessarySimpa false
namespace Go.Proofs.YtcmpdlhbliolaaaGreat.D
open Go.RowKit

abbrev AutT := Int × (List Bool) × (List (List Int))
structure VA (a : AutT) (n : Nat) : Prop where
  len : a.2.1.length = n
  start : 0 ≤ a.1 ∧ a.1 < n
  nlen : a.2.2.length = n
  row : ∀ r ∈ a.2.2, r.length = 9
  ent : ∀ r ∈ a.2.2, ∀ t ∈ r, -1 ≤ t ∧ t < n
def mv (a : AutT) (s : Int) (k : Nat) : Int := nth (nth a.2.2 s) k
theorem s_in (x l h : Int) : m_s_l1In x l h = some (decide (l ≤ x ∧ x ≤ h)) := by
  unfold m_s_l1In
  by_cases c : l ≤ x
  · simp [c]
  · have : ¬ l ≤ x ∧ True := ⟨c, trivial⟩
    simp [c]
theorem i_in (x l h : Int) : m_i_within x l h = some (decide (l ≤ x ∧ x ≤ h)) := by
  unfold m_i_within
  by_cases c : l ≤ x
  · simp [c]
  · simp [c]
theorem scan {α R : Type} [Inhabited α] {f : Int → Option (Out R Int)} (xs : List α) (p : α → Prop) [DecidablePred p] (r : R) (hN : xs.length ≤ 9223372036854775807)
    (h : ∀ i : Nat, i < xs.length → f (i : Int) = some (if p (nth xs i) then .nxt ((i + 1 : Nat) : Int) else .ret r)) (he : f (xs.length : Int) = some (.brk (xs.length : Int))) :
    (loopM f FUEL 0 = some (.brk (xs.length : Int)) ∧ ∀ x ∈ xs, p x) ∨ (loopM f FUEL 0 = some (.ret r) ∧ ¬ ∀ x ∈ xs, p x) := by
  obtain ⟨o, e, hq⟩ := loopM_go (f := f) (fun i s => s = (i : Int) ∧ ∀ j : Nat, j < i → p (nth xs j)) (fun o => (o = .brk (xs.length : Int) ∧ ∀ x ∈ xs, p x) ∨ (o = .ret r ∧ ¬ ∀ x ∈ xs, p x)) xs.length (s := 0) (by
    rintro i s hi ⟨rfl, hp⟩
    by_cases hl : i < xs.length
    · by_cases c : p (nth xs i)
      · refine .inl ⟨hl, _, by rw [h i hl, if_pos c], rfl, fun j hj => ?_⟩
        by_cases e : j = i
        · subst e; exact c
        · exact hp j (by omega)
      · refine .inr ⟨_, by rw [h i hl, if_neg c], (fun s' e => by cases e), .inr ⟨rfl, fun hx => c (hx _ (nth_mem (by omega) (by omega)))⟩⟩
    · obtain rfl : i = xs.length := by omega
      refine .inr ⟨_, he, (fun s' e => by cases e), .inl ⟨rfl, fun x hx => ?_⟩⟩
      obtain ⟨j, hj, rfl⟩ := mem_nth hx
      exact hp j hj) ⟨rfl, by omega⟩ (up63 hN)
  rcases hq with ⟨rfl, hq⟩ | ⟨rfl, hq⟩
  · exact .inl ⟨e, hq⟩
  · exact .inr ⟨e, hq⟩
section
variable {a : AutT} {n : Nat} (V : VA a n)
include V
theorem VA.pos : 0 < n := by have := V.start; omega
theorem VA.rowAt {s : Int} (h0 : 0 ≤ s) (h1 : s < n) : (nth a.2.2 s).length = 9 := V.row _ (nth_mem h0 (by rw [V.nlen]; exact h1))
theorem VA.mv {s : Int} {k : Nat} (h0 : 0 ≤ s) (h1 : s < n) (hk : k < 9) : -1 ≤ mv a s k ∧ mv a s k < n :=
  V.ent _ (nth_mem h0 (by rw [V.nlen]; exact h1)) _ (nth_mem (by omega) (by rw [V.rowAt h0 h1]; omega))
theorem VA.get {s : Int} (h0 : 0 ≤ s) (h1 : s < n) : getI a.2.2 s = some (nth a.2.2 s) := getI_nth h0 (by rw [V.nlen]; exact h1)
theorem VA.get2 {s : Int} {k : Nat} (h0 : 0 ≤ s) (h1 : s < n) (hk : k < 9) : getI (nth a.2.2 s) (k : Int) = some (D.mv a s k) := getI_nth (by omega) (by rw [V.rowAt h0 h1]; omega)
theorem VA.acc {s : Int} (h0 : 0 ≤ s) (h1 : s < n) : getI a.2.1 s = some (nth a.2.1 s) := getI_nth h0 (by rw [V.len]; exact h1)
theorem i_move {s : Int} {k : Nat} (h0 : 0 ≤ s) (h1 : s < n) (hk : k < 9) : m_i_Automaton_move a s (k : Int) = some (mv a s k) := by
  unfold m_i_Automaton_move m_i_isLetter
  rw [if_neg (by simp; omega), i_in]; simp only [Option.bind_some]
  rw [if_pos (by simp; omega), V.get h0 h1]; simp only [Option.bind_some]
  rw [V.get2 h0 h1 hk]; rfl
end
theorem i_move_neg {a : AutT} {s : Int} {k : Int} (h0 : s < 0) : m_i_Automaton_move a s k = some (-1) := by
  unfold m_i_Automaton_move; rw [if_pos (by simpa using h0)]
end Go.Proofs.YtcmpdlhbliolaaaGreat.D
/- The states from which an accepting state is reached: by rounds, and until nothing turns. -/
set_option linter.unusedVariables false
set_option linter.unusedSimpArgs false
set_option linter.unnecessarySimpa false
set_option linter.unusedSectionVars false
namespace Go.Proofs.YtcmpdlhbliolaaaGreat.D
open Go.RowKit

def hitT (out : List Bool) (t : Int) : Bool := decide (t ≥ 0) && nth out t
def hit (out : List Bool) (row : List Int) : Bool := row.any (hitT out)
def passAt (a : AutT) (out : List Bool) (s : Nat) : List Bool := if hit out (nth a.2.2 s) then out.set s true else out
def passTo (a : AutT) (out : List Bool) : Nat → List Bool
  | 0 => out
  | s + 1 => passAt a (passTo a out s) s
def cnt (out : List Bool) : Nat := out.count true
theorem cnt_le (out : List Bool) : cnt out ≤ out.length := List.count_le_length
theorem set_same {out : List Bool} {s : Nat} (h : s < out.length) (k : out[s] = true) : out.set s true = out := by
  refine List.ext_getElem (by simp) fun i h1 h2 => ?_
  rw [List.getElem_set]
  split
  · rename_i e; subst e; exact k.symm
  · rfl
theorem cnt_set {out : List Bool} {s : Nat} (h : s < out.length) (k : out[s] = false) : cnt (out.set s true) = cnt out + 1 := by
  unfold cnt
  rw [List.count_set h]; simp [k]
section
variable {a : AutT} {n : Nat}
theorem passAt_length (a : AutT) (out : List Bool) (s : Nat) : (passAt a out s).length = out.length := by unfold passAt; split <;> simp
theorem passTo_length (a : AutT) (out : List Bool) : ∀ s, (passTo a out s).length = out.length
  | 0 => rfl
  | s + 1 => by rw [passTo, passAt_length, passTo_length a out s]
theorem passAt_cases {out : List Bool} {s : Nat} (h : s < out.length) : (passAt a out s = out ∧ ¬ (hit out (nth a.2.2 s) = true ∧ nth out s = false)) ∨ (cnt (passAt a out s) = cnt out + 1 ∧ hit out (nth a.2.2 s) = true ∧ nth out s = false) := by
  unfold passAt
  rw [nth_nat h]
  cases hh : hit out (nth a.2.2 s) with
  | false => exact .inl ⟨by simp, by simp⟩
  | true =>
    cases hk : out[s] with
    | true => exact .inl ⟨by simp [set_same h hk], by simp⟩
    | false => exact .inr ⟨by simp [cnt_set h hk], rfl, rfl⟩
theorem passTo_cnt {out : List Bool} : ∀ s, s ≤ out.length → (passTo a out s = out ∧ cnt (passTo a out s) = cnt out) ∨ cnt out < cnt (passTo a out s)
  | 0, _ => .inl ⟨rfl, rfl⟩
  | s + 1, hs => by
    have hl : s < (passTo a out s).length := by rw [passTo_length]; omega
    have ih := passTo_cnt (out := out) s (by omega)
    rw [passTo]
    rcases passAt_cases (a := a) hl with ⟨e, -⟩ | ⟨e, -, -⟩
    · rw [e]; exact ih
    · rcases ih with ⟨-, h2⟩ | h
      · exact .inr (by omega)
      · exact .inr (by omega)
def it (a : AutT) : Nat → List Bool
  | 0 => a.2.1
  | j + 1 => passTo a (it a j) a.2.1.length
theorem it_length (a : AutT) : ∀ j, (it a j).length = a.2.1.length
  | 0 => rfl
  | j + 1 => by rw [it, passTo_length, it_length a j]
theorem it_cnt (a : AutT) (j : Nat) : cnt (it a j) ≤ a.2.1.length := by rw [← it_length a j]; exact cnt_le _
theorem it_step (a : AutT) (j : Nat) : (it a (j + 1) = it a j) ∨ cnt (it a j) < cnt (it a (j + 1)) := by
  rcases passTo_cnt (a := a) (out := it a j) a.2.1.length (by rw [it_length]; exact Nat.le_refl _) with h | h
  · exact .inl h.1
  · exact .inr h
theorem it_fix {j k : Nat} (h : it a (j + 1) = it a j) (hk : j ≤ k) : it a k = it a j := by
  induction hk with
  | refl => rfl
  | step _ ih => rw [it, ih]; exact h
theorem it_fix_eq {j k : Nat} (h : it a (j + 1) = it a j) (h' : it a (k + 1) = it a k) : it a j = it a k := by
  rcases Nat.le_total j k with e | e
  · exact (it_fix h e).symm
  · exact it_fix h' e
theorem it_done (a : AutT) : it a (a.2.1.length + 1) = it a a.2.1.length := by
  have key : ∀ j, it a (j + 1) = it a j ∨ j + 1 ≤ cnt (it a (j + 1)) := by
    intro j
    induction j with
    | zero => rcases it_step a 0 with h | h
              · exact .inl h
              · exact .inr (by omega)
    | succ j ih =>
      rcases it_step a (j + 1) with h | h
      · exact .inl h
      · rcases ih with h' | h'
        · left; rw [it, h']; exact h'
        · exact .inr (by omega)
  rcases key a.2.1.length with h | h
  · exact h
  · have := it_cnt a (a.2.1.length + 1); omega
def live (a : AutT) : List Bool := it a a.2.1.length
theorem live_length (a : AutT) : (live a).length = a.2.1.length := it_length a _
theorem any_take {α : Type} [Inhabited α] {row : List α} {p : α → Bool} {k : Nat} (h : k < row.length) : (row.take (k + 1)).any p = ((row.take k).any p || p (nth row (k : Int))) := by
  rw [List.take_succ_eq_append_getElem h, List.any_append, nth_nat h]; simp
section
variable (V : VA a n) (hn : n ≤ 1000000)
include V hn
theorem s_live_in {out : List Bool} {s : Nat} (hs : s < n) (hl : out.length = n) : loopM (m_s_l11Live_l2 a (out, (s : Int))) FUEL (out, 0) = some (.brk (passAt a out s, 9)) := by
  have hr := V.rowAt (s := s) (by omega) (by omega)
  have hls : s < out.length := by omega
  have := loopM_at (f := m_s_l11Live_l2 a (out, (s : Int))) (fun k => (if ((nth a.2.2 (s : Int)).take k).any (hitT out) then out.set s true else out, (k : Int))) 9 (fun k hk => by
    unfold m_s_l11Live_l2
    simp only
    rw [if_pos (by simp; omega), V.get (by omega) (by omega)]; simp only [Option.bind_some]
    rw [V.get2 (by omega) (by omega) hk]; simp only [Option.bind_some]
    rw [any_take (by omega), show nth (nth a.2.2 (s : Int)) (k : Int) = mv a s k from rfl]
    simp only [wrap_succ (show k < 9223372036854775807 by omega)]
    by_cases c : mv a s k ≥ 0
    · have hset : (out.set s true).length = n := by simp [hl]
      have hm := (V.mv (s := s) (k := k) (by omega) (by omega) hk).2
      rw [if_pos (by simpa using c)]
      by_cases q : ((nth a.2.2 (s : Int)).take k).any (hitT out) = true
      · simp only [q, if_true, Bool.true_or]
        rw [getI_nth c (by rw [hset]; exact hm), getI_nth (by omega) (by rw [hset]; omega)]; simp only [Option.bind_some, Int.toNat_natCast]
        split <;> simp
      · simp only [q, Bool.false_eq_true, if_false, Bool.false_or, hitT]
        rw [getI_nth c (by rw [hl]; exact hm), getI_nth (by omega) (by rw [hl]; omega)]; simp only [Option.bind_some, Int.toNat_natCast]
        cases hc : nth out (mv a s k) <;> simp [hc, c]
    · rw [if_neg (by simpa using c)]
      simp [hitT, c]) (by unfold m_s_l11Live_l2; simp) (by unfold FUEL; omega)
  have e9 : (nth a.2.2 (s : Int)).take 9 = nth a.2.2 (s : Int) := List.take_of_length_le (by omega)
  rw [e9] at this
  exact this
theorem s_live_round {out : List Bool} (hl : out.length = n) : loopM (m_s_l11Live_l1 a) FUEL (out, 0) = some (.brk (passTo a out n, (n : Int))) := by
  have hlen := V.len
  refine loopM_at (f := m_s_l11Live_l1 a) (fun s => (passTo a out s, (s : Int))) n (fun s hs => ?_) ?_ (up63 (by omega))
  · unfold m_s_l11Live_l1
    simp only
    rw [if_pos (by simp; omega), bindL_brk (s_live_in V hn hs (by rw [passTo_length]; exact hl)), wrap_succ (by omega)]
    rfl
  · unfold m_s_l11Live_l1
    simp only
    rw [if_neg (by simp; omega)]
theorem s_live : m_s_l11Live a = some (live a) := by
  have hlen := V.len
  unfold m_s_l11Live
  rw [appI_ok (by simp; omega)]; simp only [Option.bind_some, List.nil_append]
  have := loopM_at (f := m_s_l11Live_l0 a) (fun j => (it a j, (j : Int))) n (fun j hj => by
    unfold m_s_l11Live_l0
    simp only
    rw [if_pos (by simp; omega), bindL_brk (s_live_round V hn (by rw [it_length]; exact hlen)), wrap_succ (by omega), it, hlen]) (by
    unfold m_s_l11Live_l0
    simp only
    rw [if_neg (by simp; omega)]) (up63 (by omega))
  exact (bindL_brk this).trans (by simp [live, hlen])
theorem i_live_in {out : List Bool} {g : Bool} {s : Nat} (hs : s < n) (hl : out.length = n) : loopM (m_i_Automaton_live_l2 (g, (s : Int), out) (nth a.2.2 (s : Int))) FUEL (g, 0, out) = some (.brk (g || (hit out (nth a.2.2 (s : Int)) && !nth out (s : Int)), 9, passAt a out s)) := by
  have hr := V.rowAt (s := s) (by omega) (by omega)
  have hls : s < out.length := by omega
  have := loopM_at (f := m_i_Automaton_live_l2 (g, (s : Int), out) (nth a.2.2 (s : Int))) (fun k => (g || (((nth a.2.2 (s : Int)).take k).any (hitT out) && !nth out (s : Int)), (k : Int), if ((nth a.2.2 (s : Int)).take k).any (hitT out) then out.set s true else out)) 9 (fun k hk => by
    unfold m_i_Automaton_live_l2
    simp only
    rw [if_pos (by simp [hr]; omega), V.get2 (by omega) (by omega) hk]; simp only [Option.bind_some]
    rw [any_take (by omega), show nth (nth a.2.2 (s : Int)) (k : Int) = mv a s k from rfl]
    simp only [wrap_succ (show k < 9223372036854775807 by omega)]
    by_cases c : mv a s k ≥ 0
    · have hset : (out.set s true).length = n := by simp [hl]
      have hm := (V.mv (s := s) (k := k) (by omega) (by omega) hk).2
      rw [if_pos (by simpa using c)]
      by_cases q : ((nth a.2.2 (s : Int)).take k).any (hitT out) = true
      · simp only [q, if_true, Bool.true_or]
        have hself : nth (out.set s true) (s : Int) = true := by
          have := nth_set_self (xs := out) (i := (s : Int)) (x := true) (by omega) (by omega)
          simpa using this
        rw [getI_nth c (by rw [hset]; exact hm), getI_nth (by omega) (by rw [hset]; omega)]; simp only [Option.bind_some, Int.toNat_natCast, hself, if_true]
        split <;> simp
      · simp only [q, Bool.false_eq_true, if_false, Bool.false_or, hitT, Bool.false_and, Bool.or_false]
        rw [getI_nth c (by rw [hl]; exact hm), getI_nth (by omega) (by rw [hl]; omega)]; simp only [Option.bind_some, Int.toNat_natCast]
        cases hc : nth out (mv a s k) with
        | false => simp [c]
        | true =>
          cases hd : nth out (s : Int) with
          | false => simp [c]
          | true =>
            rw [nth_nat hls] at hd
            simp [c, set_same hls hd]
    · rw [if_neg (by simpa using c)]
      simp [hitT, c]) (by unfold m_i_Automaton_live_l2; simp [hr]) (by unfold FUEL; omega)
  have e9 : (nth a.2.2 (s : Int)).take 9 = nth a.2.2 (s : Int) := List.take_of_length_le (by omega)
  rw [e9] at this
  have e0 : (g || (((nth a.2.2 (s : Int)).take 0).any (hitT out) && !nth out (s : Int))) = g := by simp
  rw [e0] at this
  exact this
theorem i_live_round {out : List Bool} (hl : out.length = n) : ∃ g, loopM (m_i_Automaton_live_l1 a) FUEL (false, 0, out) = some (.brk (g, (n : Int), passTo a out n)) ∧ (g = true ↔ cnt out < cnt (passTo a out n)) := by
  have hlen := V.len
  have hnl := V.nlen
  obtain ⟨s', e, ⟨g, rfl, hg⟩⟩ := loopM_for (f := m_i_Automaton_live_l1 a) (fun s st => ∃ g, st = (g, (s : Int), passTo a out s) ∧ (g = true ↔ cnt out < cnt (passTo a out s))) n (by
    rintro s st hs ⟨g, rfl, hg⟩
    have hpl : (passTo a out s).length = n := by rw [passTo_length]; exact hl
    unfold m_i_Automaton_live_l1
    simp only
    rw [if_pos (by simp; omega), V.get (by omega) (by omega)]; simp only [Option.bind_some]
    rw [bindL_brk (i_live_in V hn hs hpl), wrap_succ (by omega)]
    refine ⟨_, rfl, _, rfl, ?_⟩
    rw [Bool.or_eq_true, Bool.and_eq_true, Bool.not_eq_true', hg, passTo]
    have hc := passTo_cnt (a := a) (out := out) s (by omega)
    rcases passAt_cases (a := a) (out := passTo a out s) (s := s) (by omega) with ⟨e, k⟩ | ⟨e, k⟩
    · rw [e]; exact ⟨fun h => h.elim id fun h => absurd h k, .inl⟩
    · rw [e]
      exact ⟨fun _ => by rcases hc with ⟨-, h⟩ | h <;> omega, fun _ => .inr k⟩) (by
    rintro s ⟨g, rfl, hg⟩
    unfold m_i_Automaton_live_l1
    simp only
    rw [if_neg (by simp; omega)]) ⟨false, rfl, by simp [passTo]⟩ (up63 (by omega))
  exact ⟨g, e, hg⟩
theorem i_live : m_i_Automaton_live a = some (live a) := by
  have hlen := V.len
  unfold m_i_Automaton_live
  rw [appI_ok (by simp; omega)]; simp only [Option.bind_some, List.nil_append]
  obtain ⟨o, e, i, rfl, hi⟩ := loopM_go (f := m_i_Automaton_live_l0 a) (fun i s => ∃ b, s = (b, it a i) ∧ (b = true → i ≤ cnt (it a i)) ∧ (b = false → it a (i + 1) = it a i)) (fun o => ∃ i, o = .brk (false, it a i) ∧ it a (i + 1) = it a i) (n + 1) (s := (true, a.2.1)) (by
    rintro i s hi ⟨b, rfl, h1, h2⟩
    unfold m_i_Automaton_live_l0
    simp only
    cases b with
    | false => exact .inr ⟨_, by rw [if_neg (by simp)], (fun s' e => by cases e), i, rfl, h2 rfl⟩
    | true =>
      have hc := it_cnt a i
      have h1 := h1 rfl
      obtain ⟨g, e, hg⟩ := i_live_round V hn (out := it a i) (by rw [it_length]; exact hlen)
      have ee : passTo a (it a i) n = it a (i + 1) := by rw [it, hlen]
      rw [ee] at e hg
      refine .inl ⟨by omega, (g, it a (i + 1)), by rw [if_pos rfl, bindL_brk e], g, rfl, fun h => ?_, fun h => ?_⟩
      · have := hg.1 h; omega
      · have hs : it a (i + 1) = it a i := by
          rcases it_step a i with h' | h'
          · exact h'
          · rw [← hg, h] at h'; cases h'
        rw [it, hs]; exact hs) ⟨true, rfl, fun _ => Nat.zero_le _, fun h => by cases h⟩ (up63 (by omega))
  rw [bindL_brk e]
  have := it_fix_eq hi (it_done a)
  simp [live, this]
end
end
end Go.Proofs.YtcmpdlhbliolaaaGreat.D
/- Automata numbered from their first state on: by the program over a map, by the reference over representatives. -/
set_option linter.unusedVariables false
set_option linter.unusedSimpArgs false
set_option linter.unnecessarySimpa false
set_option linter.unusedSectionVars false
namespace Go.Proofs.YtcmpdlhbliolaaaGreat.D
open Go.RowKit

def nothing : AutT := (0, [false], [[-1, -1, -1, -1, -1, -1, -1, -1, -1]])
theorem s_nothing : m_s_l11Nothing = some nothing := by kernel_rfl
theorem i_nothing : m_i_nothing = some nothing := by kernel_rfl
theorem iOk_nat {n : Nat} (h : n ≤ 1000000) : iOk (n : Int) = true := by
  have h1 : IntKind.i64.min = -9223372036854775808 := by decide
  have h2 : IntKind.i64.max = 9223372036854775807 := by decide
  simp only [iOk, Lit.wf, h1, h2, Bool.and_eq_true, decide_eq_true_eq]
  omega
theorem take_one {α : Type} [Inhabited α] {xs : List α} {k : Nat} (h : k < xs.length) : xs.take (k + 1) = xs.take k ++ [nth xs (k : Int)] := by
  rw [List.take_succ_eq_append_getElem h, nth_nat h]
theorem prefix_nth {α : Type} [Inhabited α] {xs ys : List α} (h : xs <+: ys) {i : Int} (h0 : 0 ≤ i) (h1 : i < xs.length) : nth ys i = nth xs i := by
  obtain ⟨t, rfl⟩ := h
  exact nth_append_left h0 h1
structure NumOk {κ : Type} [DecidableEq κ] (nx : κ → List (Option κ)) (first : κ) (G : κ → Prop) (B : Nat) : Prop where
  g0 : G first
  gn : ∀ x, G x → ∀ y, some y ∈ nx x → G y
  len : ∀ x, G x → (nx x).length = 9
  bound : ∀ l : List κ, l.Nodup → (∀ x ∈ l, G x) → l.length ≤ B
section
variable {κ : Type} [DecidableEq κ] [Inhabited κ] {nx : κ → List (Option κ)} {first : κ} {G : κ → Prop} {B : Nat}
theorem NumOk.le (H : NumOk nx first G B) (i : Nat) : (bfS nx first i).length ≤ B := H.bound _ (bfS_nodup i) (bfS_good H.g0 H.gn i)
theorem NumOk.at (H : NumOk nx first G B) {i : Nat} (h : i < (bfS nx first i).length) : G (nth (bfS nx first i) (i : Int)) := bfS_good H.g0 H.gn i _ (nth_mem (by omega) (by omega))
theorem bfS_succ' {i : Nat} (h : i < (bfS nx first i).length) : bfS nx first (i + 1) = nbS (bfS nx first i) (nx (nth (bfS nx first i) (i : Int))) := by rw [bfS_succ h, nth_nat h]
theorem bfR_succ' {i : Nat} (h : i < (bfS nx first i).length) : bfR nx first (i + 1) = bfR nx first i ++ [nbR (bfS nx first i) (nx (nth (bfS nx first i) (i : Int)))] := by rw [bfR_succ h, nth_nat h]
theorem acc_succ {β : Type} {acc : κ → β} {i : Nat} (h : i < (bfS nx first i).length) : ((bfS nx first (i + 1)).take (i + 1)).map acc = ((bfS nx first i).take i).map acc ++ [acc (nth (bfS nx first i) (i : Int))] := by
  have hp := bfS_step_prefix (nx := nx) (first := first) i
  have hl := hp.length_le
  have e : (bfS nx first (i + 1)).take i = (bfS nx first i).take i := by
    obtain ⟨t, ht⟩ := hp
    rw [← ht, List.take_append_of_le_length (by omega)]
  rw [take_one (by omega), List.map_append, e, prefix_nth hp (by omega) (by omega)]; rfl
def MapOf (M : List (κ × Int)) (l : List κ) : Prop := M.length = l.length ∧ ∀ x, M.lookup x = if x ∈ l then some (l.idxOf x : Int) else none
theorem MapOf.one (x : κ) : MapOf [(x, 0)] [x] := by
  refine ⟨rfl, fun y => ?_⟩
  rw [List.lookup_cons]
  by_cases e : y = x
  · subst e; simp
  · simp only [show (y == x) = false from by simp [e]]; simp [e]
theorem MapOf.put {M : List (κ × Int)} {l : List κ} (h : MapOf M l) {x : κ} (hx : x ∉ l) : MapOf ((x, (l.length : Int)) :: M) (l ++ [x]) := by
  refine ⟨by simp [h.1], fun y => ?_⟩
  rw [List.lookup_cons]
  by_cases e : y = x
  · subst e
    simp [List.idxOf_append, hx]
  · simp only [show (y == x) = false from by simp [e], h.2 y, List.mem_append, List.mem_singleton, e, or_false]
    by_cases k : y ∈ l
    · simp [k, List.idxOf_append]
    · simp [k]
end

/-! ### The program: keys that are ints -/
section
variable {nx : Int → List (Option Int)} {first : Int} {G : Int → Prop} {B : Nat}
theorem i_numb_in {p3 : Int → Int → Option (Int × Bool)} {l : List Int} {M : List (Int × Int)} {os : List (Option Int)} {acs : List Bool} {rws : List (List Int)} {i : Nat}
    (hi : i < l.length) (hos : os.length = 9) (hM : MapOf M l) (hok : ∀ y, some y ∈ os → iOk y = true) (hB : ∀ k, (nbS l (os.take k)).length ≤ 1000000)
    (hp : ∀ (k : Nat) (hk : k < 9), ∃ j, p3 (nth l (i : Int)) (k : Int) = some (match nth os (k : Int) with | some y => (y, true) | none => (j, false))) :
    ∃ M', loopM (m_i_numbered_int_l1 p3 (l, M, (i : Int), 0, acs, rws)) FUEL (l, M, [], 0) = some (.brk (nbS l os, M', nbR l os, 9)) ∧ MapOf M' (nbS l os) := by
  obtain ⟨s', e, M', rfl, hM'⟩ := loopM_for (f := m_i_numbered_int_l1 p3 (l, M, (i : Int), 0, acs, rws)) (fun k s => ∃ M', s = (nbS l (os.take k), M', nbR l (os.take k), (k : Int)) ∧ MapOf M' (nbS l (os.take k))) 9 (by
    rintro k s hk ⟨M1, rfl, hM1⟩
    have hpre := nbS_prefix l (os.take k)
    have hlen := hpre.length_le
    have hBk := hB k
    obtain ⟨j, hj⟩ := hp k hk
    have hrl : (nbR l (os.take k)).length ≤ 9 := by rw [nbR_length, List.length_take]; omega
    unfold m_i_numbered_int_l1
    simp only
    rw [if_pos (by simp; omega), getI_nth (by omega) (by omega)]; simp only [Option.bind_some]
    rw [prefix_nth hpre (by omega) (by omega), hj, take_one (by omega), nbS_snoc, nbR_snoc]
    simp only [Option.bind_some, wrap_succ (show k < 9223372036854775807 by omega)]
    cases ho : nth os (k : Int) with
    | none =>
      simp only [Bool.false_eq_true, if_false]
      rw [appI_ok (by simp; omega)]
      exact ⟨_, rfl, M1, rfl, hM1⟩
    | some y =>
      have hy : iOk y = true := hok y (ho ▸ nth_mem (by omega) (by omega))
      simp only [if_true]
      rw [show chk (iOk y = true) = some () from by unfold chk; rw [if_pos hy]]; simp only [Option.bind_some]
      rw [show lkM M1 y = _ from hM1.2 y]
      by_cases c : y ∈ nbS l (os.take k)
      · simp only [c, if_true, Option.isSome_some, Option.getD_some, Option.bind_some]
        rw [appI_ok (by simp; omega)]
        exact ⟨_, rfl, M1, by rw [nbL_old c]; rfl, by rw [nbL_old c]; exact hM1⟩
      · have hput : putM M1 iOk iOk y ((nbS l (os.take k)).length : Int) = some ((y, ((nbS l (os.take k)).length : Int)) :: M1) := by
          unfold putM
          rw [if_pos ⟨by have := hM1.1; omega, hy, iOk_nat hBk⟩]
        simp only [c, if_false, Option.isSome_none, Bool.false_eq_true, hput, Option.bind_some]
        rw [appI_ok (by simp; omega)]; simp only [Option.bind_some]
        rw [appI_ok (by simp; omega)]
        refine ⟨_, rfl, (y, ((nbS l (os.take k)).length : Int)) :: M1, ?_, ?_⟩
        · rw [nbL_new c]; simp only [nbI, idxOf_nbL c]
        · rw [nbL_new c]; exact hM1.put c) (by
    rintro s ⟨M1, rfl, hM1⟩
    unfold m_i_numbered_int_l1
    simp) (s := (l, M, [], 0)) ⟨M, rfl, hM⟩ (by unfold FUEL; omega)
  rw [List.take_of_length_le (by omega)] at e hM'
  exact ⟨M', e, hM'⟩
theorem i_numb {most : Int} {p2 : Int → Option Bool} {p3 : Int → Int → Option (Int × Bool)} {acc : Int → Bool} (H : NumOk nx first G B) (hB : B ≤ 1000000) (hmost : (B : Int) ≤ most) (hok : ∀ x, G x → iOk x = true)
    (h2 : ∀ x, G x → p2 x = some (acc x)) (h3 : ∀ x (k : Nat), G x → k < 9 → ∃ j, p3 x (k : Int) = some (match nth (nx x) (k : Int) with | some y => (y, true) | none => (j, false))) :
    ∃ N, bfE nx first N ∧ m_i_numbered_int first most p2 p3 = some ((0, (bfS nx first N).map acc, bfR nx first N), true) := by
  obtain ⟨N, hNB, hN⟩ := bfE_ex (nx := nx) (first := first) (H.le)
  refine ⟨N, hN, ?_⟩
  unfold m_i_numbered_int
  rw [show putM ([] : List (Int × Int)) iOk iOk first 0 = some [(first, 0)] from by unfold putM; rw [if_pos ⟨by simp, hok _ H.g0, by decide⟩]]; simp only [Option.bind_some]
  obtain ⟨s', e, M', rfl, hM'⟩ := loopM_for (f := m_i_numbered_int_l0 most p2 p3) (fun i s => ∃ M, s = (bfS nx first i, M, (i : Int), 0, ((bfS nx first i).take i).map acc, bfR nx first i) ∧ MapOf M (bfS nx first i)) N (by
    rintro i s hi ⟨M, rfl, hM⟩
    have hlt := hN.2 i hi
    have hG := H.at hlt
    have hle := H.le i
    have hle' := H.le (i + 1)
    obtain ⟨M', e, hM'⟩ := i_numb_in (p3 := p3) (l := bfS nx first i) (M := M) (os := nx (nth (bfS nx first i) (i : Int))) (acs := ((bfS nx first i).take i).map acc) (rws := bfR nx first i) hlt (H.len _ hG) hM (fun y hy => hok y (H.gn _ hG y hy))
      (fun k => by
        have : (nbS (bfS nx first i) ((nx (nth (bfS nx first i) (i : Int))).take k)).length ≤ B := H.bound _ (nbS_nodup (bfS_nodup i)) fun x hx => by
          rcases mem_nbS.1 hx with hx | hx
          · exact bfS_good H.g0 H.gn i x hx
          · exact H.gn _ hG x (List.mem_of_mem_take hx)
        omega) (fun k hk => h3 _ k hG hk)
    unfold m_i_numbered_int_l0
    simp only
    rw [if_pos (by simp; omega), bindL_brk e, ← bfS_succ' hlt]
    rw [← bfS_succ' hlt] at hM'
    have hl2 := (bfS_step_prefix (nx := nx) (first := first) i).length_le
    simp only
    rw [if_neg (by simp; omega), getI_nth (by omega) (by omega)]; simp only [Option.bind_some]
    rw [prefix_nth (bfS_step_prefix i) (by omega) (by omega), h2 _ hG]; simp only [Option.bind_some]
    have hr : (bfR nx first i).length = i := bfR_length fun j hj => hN.2 j (by omega)
    rw [appI_ok (by simp; omega)]; simp only [Option.bind_some]
    rw [appI_ok (by simp; omega)]; simp only [Option.bind_some, wrap_succ (show i < 9223372036854775807 by omega)]
    exact ⟨_, rfl, M', by rw [acc_succ hlt, bfR_succ' hlt], hM'⟩) (by
    rintro s ⟨M, rfl, hM⟩
    unfold m_i_numbered_int_l0
    simp only
    rw [if_neg (by have := hN.1; simp; omega)]) (s := ([first], [(first, 0)], 0, 0, [], [])) ⟨_, rfl, MapOf.one first⟩ (up63 (by omega))
  rw [bindL_brk e]
  simp only
  rw [List.take_of_length_le (by have := hN.1; omega)]
end

/-! ### The reference: classes and their representatives -/
theorem s_find {l : List Int} {x : Int} (h : l.length ≤ 9223372036854775807) : m_s_l11Find l x = some (if x ∈ l then (l.idxOf x : Int) else -1) := by
  unfold m_s_l11Find
  obtain ⟨o, e, hq⟩ := loopM_go (f := m_s_l11Find_l0 l x) (fun i s => s = (i : Int) ∧ x ∉ l.take i) (fun o => (x ∈ l ∧ o = .ret (l.idxOf x : Int)) ∨ (x ∉ l ∧ ∃ s, o = .brk s)) l.length (s := 0) (by
    rintro i s hi ⟨rfl, hx⟩
    unfold m_s_l11Find_l0
    by_cases hl : i < l.length
    · rw [if_pos (by simp; omega), getI_nth (by omega) (by omega)]; simp only [Option.bind_some]
      by_cases c : nth l (i : Int) = x
      · refine .inr ⟨_, by rw [if_pos (by simpa using c)], (fun s' e => by cases e), .inl ?_⟩
        have e : l = l.take i ++ (x :: l.drop (i + 1)) := by
          rw [← c, nth_nat hl, ← List.drop_eq_getElem_cons hl, List.take_append_drop]
        refine ⟨by rw [e]; simp, ?_⟩
        congr 1
        conv => rhs; rw [e, List.idxOf_append, if_neg hx, List.idxOf_cons_self]
        simp [List.length_take]; first | done | omega
      · refine .inl ⟨hl, _, by rw [if_neg (by simpa using c)], by rw [wrap_succ (by omega)], ?_⟩
        rw [take_one hl, List.mem_append, List.mem_singleton]
        rintro (h | h)
        · exact hx h
        · exact c h.symm
    · refine .inr ⟨_, by rw [if_neg (by simp; omega)], (fun s' e => by cases e), .inr ⟨?_, _, rfl⟩⟩
      rwa [List.take_of_length_le (by omega)] at hx) ⟨rfl, by simp⟩ (up63 h)
  rcases hq with ⟨hx, rfl⟩ | ⟨hx, s, rfl⟩
  · rw [bindL_ret e, if_pos hx]
  · rw [bindL_brk e, if_neg hx]
section
variable {a : AutT} {n : Nat} {c : List Int} {lv : List Bool} {nx : Int → List (Option Int)} {G : Int → Prop} {B : Nat} {acc : Int → Bool}
def good (n : Nat) (lv : List Bool) (r : Int) : Prop := 0 ≤ r ∧ r < n ∧ nth lv r = true
def succs (a : AutT) (c : List Int) (lv : List Bool) (r : Int) : List (Option Int) := (List.range 9).map fun k => if mv a r k ≥ 0 ∧ nth lv (mv a r k) = true then some (nth c (mv a r k)) else none
theorem succs_at {r : Int} {k : Nat} (hk : k < 9) : nth (succs a c lv r) (k : Int) = if mv a r k ≥ 0 ∧ nth lv (mv a r k) = true then some (nth c (mv a r k)) else none := by
  have : k < (succs a c lv r).length := by simp [succs]; omega
  rw [nth_nat this]; simp [succs]
def RepsOf (n : Nat) (lv : List Bool) (c : List Int) (rs l : List Int) : Prop := rs.length = l.length ∧ ∀ j : Nat, j < l.length → good n lv (nth rs j) ∧ nth c (nth rs j) = nth l (j : Int)
theorem RepsOf.snoc {rs l : List Int} (h : RepsOf n lv c rs l) {t : Int} (ht : good n lv t) : RepsOf n lv c (rs ++ [t]) (l ++ [nth c t]) := by
  refine ⟨by simp [h.1], fun j hj => ?_⟩
  by_cases e : j < l.length
  · rw [nth_append_left (by omega) (by have := h.1; omega), nth_append_left (by omega) (by omega)]; exact h.2 j e
  · have e : j = l.length := by simp at hj; omega
    subst e
    have h1 : nth (rs ++ [t]) (l.length : Int) = t := by rw [nth_nat (by simp [h.1])]; simp [← h.1]
    have h2 : nth (l ++ [nth c t]) (l.length : Int) = nth c t := by rw [nth_nat (by simp)]; simp
    rw [h1, h2]; exact ⟨ht, rfl⟩
theorem s_numb_in (V : VA a n) (hn : n ≤ 1000000) (hc : c.length = n) (hlv : lv.length = n) {l rs : List Int} {acs : List Bool} {rws : List (List Int)} {i : Nat} (hi : i < l.length) (hR : RepsOf n lv c rs l) {os : List (Option Int)} (hos : os.length = 9)
    (ho : ∀ r, good n lv r → nth c r = nth l (i : Int) → succs a c lv r = os) (hB : ∀ k, (nbS l (os.take k)).length ≤ 1000000) :
    ∃ rs', loopM (m_s_l11Number_l1 a c lv (l, rs, (i : Int), 0, acs, rws)) FUEL (l, rs, [], 0) = some (.brk (nbS l os, rs', nbR l os, 9)) ∧ RepsOf n lv c rs' (nbS l os) := by
  obtain ⟨s', e, rs', rfl, hR'⟩ := loopM_for (f := m_s_l11Number_l1 a c lv (l, rs, (i : Int), 0, acs, rws)) (fun k s => ∃ rs', s = (nbS l (os.take k), rs', nbR l (os.take k), (k : Int)) ∧ RepsOf n lv c rs' (nbS l (os.take k))) 9 (by
    rintro k s hk ⟨r1, rfl, hR1⟩
    have hpre := nbS_prefix l (os.take k)
    have hlen := hpre.length_le
    have hBk := hB k
    have hrl : (nbR l (os.take k)).length ≤ 9 := by rw [nbR_length, List.length_take]; omega
    have hr1 := hR1.1
    obtain ⟨⟨g0, g1, g2⟩, gc⟩ := hR1.2 i (by omega)
    rw [prefix_nth hpre (by omega) (by omega)] at gc
    have hsu := ho _ ⟨g0, g1, g2⟩ gc
    have hok : nth os (k : Int) = if mv a (nth r1 (i : Int)) k ≥ 0 ∧ nth lv (mv a (nth r1 (i : Int)) k) = true then some (nth c (mv a (nth r1 (i : Int)) k)) else none := by
      rw [← hsu]; exact succs_at hk
    have hmv := V.mv (s := nth r1 (i : Int)) (k := k) g0 g1 hk
    unfold m_s_l11Number_l1
    simp only
    rw [if_pos (by simp; omega), getI_nth (xs := r1) (by omega) (by omega)]; simp only [Option.bind_some]
    rw [V.get g0 g1]; simp only [Option.bind_some]
    rw [V.get2 g0 g1 hk, take_one (by omega), nbS_snoc, nbR_snoc]
    simp only [Option.bind_some, wrap_succ (show k < 9223372036854775807 by omega)]
    by_cases c1 : mv a (nth r1 (i : Int)) k ≥ 0
    · rw [if_pos (by simpa using c1), getI_nth (xs := lv) c1 (by omega)]; simp only [Option.bind_some]
      by_cases c2 : nth lv (mv a (nth r1 (i : Int)) k) = true
      · rw [if_pos ⟨c1, c2⟩] at hok
        rw [if_pos c2, getI_nth (xs := c) c1 (by omega), hok]; simp only [Option.bind_some]
        rw [s_find (by omega)]; simp only [Option.bind_some]
        by_cases c3 : nth c (mv a (nth r1 (i : Int)) k) ∈ nbS l (os.take k)
        · rw [if_pos c3, if_neg (by simp)]; simp only [Option.bind_some]
          rw [appI_ok (by simp; omega)]
          exact ⟨_, rfl, r1, by rw [nbL_old c3]; rfl, by rw [nbL_old c3]; exact hR1⟩
        · rw [if_neg c3, if_pos (by decide)]
          rw [appI_ok (by simp; omega)]; simp only [Option.bind_some]
          rw [appI_ok (by simp; omega)]; simp only [Option.bind_some]
          rw [appI_ok (by simp; omega)]; simp only [Option.bind_some]
          refine ⟨_, rfl, r1 ++ [mv a (nth r1 (i : Int)) k], ?_, ?_⟩
          · rw [nbL_new c3]; simp only [nbI, idxOf_nbL c3]
          · rw [nbL_new c3]; exact hR1.snoc ⟨c1, hmv.2, c2⟩
      · rw [if_neg (fun h => c2 h.2)] at hok
        rw [if_neg c2, hok]; simp only [Option.bind_some]
        rw [appI_ok (by simp; omega)]
        exact ⟨_, rfl, r1, rfl, hR1⟩
    · rw [if_neg (fun h => c1 h.1)] at hok
      rw [if_neg (by simpa using c1), hok]; simp only [Option.bind_some]
      rw [appI_ok (by simp; omega)]
      exact ⟨_, rfl, r1, rfl, hR1⟩) (by
    rintro s ⟨r1, rfl, hR1⟩
    unfold m_s_l11Number_l1
    simp) (s := (l, rs, [], 0)) ⟨rs, rfl, hR⟩ (by unfold FUEL; omega)
  rw [List.take_of_length_le (by omega)] at e hR'
  exact ⟨rs', e, hR'⟩
theorem s_numb (V : VA a n) (hn : n ≤ 1000000) (hc : c.length = n) (hlv : lv.length = n) (hs : nth lv a.1 = true) (H : NumOk nx (nth c a.1) G B) (hB : B ≤ 1000000)
    (hnx : ∀ r, good n lv r → nx (nth c r) = succs a c lv r) (hacc : ∀ r, good n lv r → acc (nth c r) = nth a.2.1 r) :
    ∃ N, bfE nx (nth c a.1) N ∧ m_s_l11Number a c lv = some (0, (bfS nx (nth c a.1) N).map acc, bfR nx (nth c a.1) N) := by
  obtain ⟨N, hNB, hN⟩ := bfE_ex (nx := nx) (first := nth c a.1) (H.le)
  refine ⟨N, hN, ?_⟩
  have hst := V.start
  have hlen := V.len
  unfold m_s_l11Number
  rw [getI_nth hst.1 (by omega)]; simp only [Option.bind_some]
  rw [if_pos hs, getI_nth hst.1 (by omega)]; simp only [Option.bind_some]
  obtain ⟨s', e, rs, rfl, hR⟩ := loopM_for (f := m_s_l11Number_l0 a c lv) (fun i s => ∃ rs, s = (bfS nx (nth c a.1) i, rs, (i : Int), 0, ((bfS nx (nth c a.1) i).take i).map acc, bfR nx (nth c a.1) i) ∧ RepsOf n lv c rs (bfS nx (nth c a.1) i)) N (by
    rintro i s hi ⟨rs, rfl, hR⟩
    have hlt := hN.2 i hi
    have hG := H.at hlt
    have hle := H.le i
    have hle' := H.le (i + 1)
    obtain ⟨rs', e, hR'⟩ := s_numb_in (acs := ((bfS nx (nth c a.1) i).take i).map acc) (rws := bfR nx (nth c a.1) i) V hn hc hlv hlt hR (os := nx (nth (bfS nx (nth c a.1) i) (i : Int))) (H.len _ hG) (fun r hr e => by rw [← hnx r hr, e]) (fun k => by
        have : (nbS (bfS nx (nth c a.1) i) ((nx (nth (bfS nx (nth c a.1) i) (i : Int))).take k)).length ≤ B := H.bound _ (nbS_nodup (bfS_nodup i)) fun x hx => by
          rcases mem_nbS.1 hx with hx | hx
          · exact bfS_good H.g0 H.gn i x hx
          · exact H.gn _ hG x (List.mem_of_mem_take hx)
        omega)
    unfold m_s_l11Number_l0
    simp only
    rw [if_pos (by simp; omega), bindL_brk e]
    rw [← bfS_succ' hlt] at hR'
    have hl2 := (bfS_step_prefix (nx := nx) (first := nth c a.1) i).length_le
    have hr1 := hR'.1
    obtain ⟨⟨g0, g1, g2⟩, gc⟩ := hR'.2 i (by omega)
    rw [prefix_nth (bfS_step_prefix i) (by omega) (by omega)] at gc
    rw [getI_nth (xs := rs') (by omega) (by omega)]; simp only [Option.bind_some]
    rw [V.acc g0 g1, ← hacc _ ⟨g0, g1, g2⟩, gc]; simp only [Option.bind_some]
    have hr : (bfR nx (nth c a.1) i).length = i := bfR_length fun j hj => hN.2 j (by omega)
    rw [appI_ok (by simp; omega)]; simp only [Option.bind_some]
    rw [appI_ok (by simp; omega)]; simp only [Option.bind_some, wrap_succ (show i < 9223372036854775807 by omega)]
    exact ⟨_, rfl, rs', by rw [← bfS_succ' hlt, acc_succ hlt, bfR_succ' hlt], hR'⟩) (by
    rintro s ⟨rs, rfl, hR⟩
    unfold m_s_l11Number_l0
    simp only
    rw [if_neg (by have := hN.1; simp; omega)]) (s := ([nth c a.1], [a.1], 0, 0, [], [])) ⟨[a.1], rfl, rfl, fun j hj => by
      obtain rfl : j = 0 := by simpa [bfS] using hj
      exact ⟨⟨hst.1, hst.2, hs⟩, rfl⟩⟩ (up63 (by omega))
  rw [bindL_brk e]
  simp only
  rw [List.take_of_length_le (by have := hN.1; omega)]
theorem s_numb_dead (V : VA a n) (hlv : lv.length = n) (hs : nth lv a.1 = false) : m_s_l11Number a c lv = some nothing := by
  have hst := V.start
  unfold m_s_l11Number
  rw [getI_nth hst.1 (by omega)]; simp only [Option.bind_some]
  rw [hs, s_nothing]; rfl
end
end Go.Proofs.YtcmpdlhbliolaaaGreat.D
/- What is numbered is small. -/
set_option linter.unusedVariables false
set_option linter.unusedSimpArgs false
set_option linter.unnecessarySimpa false
set_option linter.unusedSectionVars false
namespace Go.Proofs.YtcmpdlhbliolaaaGreat.D
open Go.RowKit

theorem bound_ints (n : Nat) (l : List Int) (hd : l.Nodup) (h : ∀ x ∈ l, 0 ≤ x ∧ x < n) : l.length ≤ n := by
  have := hd.length_le_of_subset (l₂ := (List.range n).map Int.ofNat) (fun x hx => by
    obtain ⟨h0, h1⟩ := h x hx
    exact List.mem_map.2 ⟨x.toNat, List.mem_range.2 (by omega), by show ((x.toNat : Nat) : Int) = x; omega⟩)
  simpa using this
theorem iOk_in {n : Nat} {x : Int} (hn : n ≤ 1000000) (h0 : 0 ≤ x) (h1 : x < n) : iOk x = true := by
  have := iOk_nat (n := x.toNat) (by omega)
  rwa [show ((x.toNat : Nat) : Int) = x from by omega] at this
theorem num_sm {κ : Type} [DecidableEq κ] {nx : κ → List (Option κ)} {first : κ} {G : κ → Prop} {B N : Nat} {acc : κ → Bool} (H : NumOk nx first G B) (hB : B ≤ 1000000) (hN : bfE nx first N) : Data.sm ((0, (bfS nx first N).map acc, bfR nx first N) : AutT) := by
  have hl := H.bound _ (bfS_nodup (nx := nx) (first := first) N) (bfS_good H.g0 H.gn N)
  refine ⟨trivial, ⟨by rw [List.length_map]; omega, fun _ _ => trivial⟩, ?_, ?_⟩
  · rw [bfR_length hN.2]; have := hN.1; omega
  · have key : ∀ i, i ≤ N → ∀ r ∈ bfR nx first i, r.length = 9 := by
      intro i
      induction i with
      | zero => intro _ r hr; cases hr
      | succ i ih =>
        intro hi r hr
        have hlt := hN.2 i (by omega)
        rw [bfR_succ hlt] at hr
        rcases List.mem_append.1 hr with hr | hr
        · exact ih (by omega) r hr
        · obtain rfl := List.mem_singleton.1 hr
          rw [nbR_length, H.len _ (bfS_good H.g0 H.gn i _ (List.getElem_mem hlt))]
    intro r hr
    exact ⟨by rw [key N (Nat.le_refl _) r hr]; decide, fun _ _ => trivial⟩
theorem nothing_sm : Data.sm nothing := ⟨trivial, ⟨by decide, fun _ _ => trivial⟩, by decide, fun r hr => by
  obtain rfl := List.mem_singleton.1 hr
  exact ⟨by decide, fun _ _ => trivial⟩⟩
end Go.Proofs.YtcmpdlhbliolaaaGreat.D
/- Automata numbered over pairs of states, by the program. -/
set_option linter.unusedVariables false
set_option linter.unusedSimpArgs false
set_option linter.unnecessarySimpa false
set_option linter.unusedSectionVars false
namespace Go.Proofs.YtcmpdlhbliolaaaGreat.D
open Go.RowKit

/-! ### The program: keys that are pairs of states -/
section
variable {nx : Int × Int → List (Option (Int × Int))} {first : Int × Int} {G : Int × Int → Prop} {B : Nat}
end

end Go.Proofs.YtcmpdlhbliolaaaGreat.D
/- Classes of states and the minimal automaton, by the reference and by the program. -/
set_option linter.unusedVariables false
set_option linter.unusedSimpArgs false
set_option linter.unnecessarySimpa false
set_option linter.unusedSectionVars false
namespace Go.Proofs.YtcmpdlhbliolaaaGreat.D
open Go.RowKit

/-! ### Numberings that refine -/
theorem nbI_stable {κ : Type} [DecidableEq κ] {l m : List κ} (h : l <+: m) {y : κ} (hy : y ∈ l) : (m.idxOf y : Int) = l.idxOf y := by
  obtain ⟨t, rfl⟩ := h
  rw [List.idxOf_append, if_pos hy]
theorem nbR_at {κ : Type} [DecidableEq κ] : ∀ (l : List κ) (os : List (Option κ)) (i : Nat), i < os.length → nth (nbR l os) (i : Int) = nbI (nbS l os) (nth os (i : Int))
  | l, o :: os, 0, _ => by
    show nbI l o = nbI (nbS (nbL l o) os) o
    cases o with
    | none => rfl
    | some y =>
      have hm : y ∈ nbL l (some y) := mem_nbL.2 (.inr rfl)
      simp only [nbI]
      rw [nbI_stable (nbS_prefix _ os) hm]
      by_cases c : y ∈ l
      · rw [nbL_old c]
      · rw [nbL_new c, List.idxOf_append, if_neg c, idxOf_nbL c]; simp
  | l, o :: os, i + 1, h => by
    have h' : i < os.length := by simpa using h
    have ih := nbR_at (nbL l o) os i h'
    have e1 : nth (nbR l (o :: os)) ((i + 1 : Nat) : Int) = nth (nbR (nbL l o) os) (i : Int) := by
      rw [nth_nat (by rw [nbR_length]; exact h), nth_nat (by rw [nbR_length]; exact h')]; rfl
    have e2 : nth (o :: os) ((i + 1 : Nat) : Int) = nth os (i : Int) := by rw [nth_nat h, nth_nat h']; rfl
    rw [e1, e2]; exact ih
theorem nbI_mem {κ : Type} [DecidableEq κ] {l : List κ} {y : κ} (h : y ∈ l) : ∃ (q : Nat) (hq : q < l.length), nbI l (some y) = (q : Int) ∧ l[q] = y :=
  ⟨l.idxOf y, List.idxOf_lt_length_of_mem h, rfl, by simp⟩
theorem nbI_new {κ : Type} [DecidableEq κ] {l : List κ} {y : κ} (h : y ∉ l) : nbI l (some y) = (l.length : Int) := by simp only [nbI, idxOf_nbL h]
def Norm : List Int → Nat → Nat → Prop
  | [], c, m => c = m
  | x :: xs, c, m => (x = -1 ∧ Norm xs c m) ∨ (0 ≤ x ∧ x < c ∧ Norm xs c m) ∨ (x = c ∧ Norm xs (c + 1) m)
theorem norm_nb {κ : Type} [DecidableEq κ] : ∀ (os : List (Option κ)) (l : List κ), Norm (nbR l os) l.length (nbS l os).length
  | [], l => rfl
  | none :: os, l => .inl ⟨rfl, norm_nb os l⟩
  | some y :: os, l => by
    by_cases c : y ∈ l
    · refine .inr (.inl ⟨Int.natCast_nonneg _, ?_, ?_⟩)
      · have := List.idxOf_lt_length_of_mem c
        simp only [nbI]; omega
      · show Norm (nbR (nbL l (some y)) os) l.length (nbS (nbL l (some y)) os).length
        rw [nbL_old c]; exact norm_nb os l
    · refine .inr (.inr ⟨by simp only [nbI, idxOf_nbL c], ?_⟩)
      show Norm (nbR (nbL l (some y)) os) (l.length + 1) (nbS (nbL l (some y)) os).length
      have := norm_nb os (l ++ [y])
      rw [nbL_new c]
      simpa using this
def RelL : List Int → List (Option (List Int)) → Prop
  | [], [] => True
  | x :: xs, o :: os => ((x < 0 ∧ o = none) ∨ (0 ≤ x ∧ ∃ t, o = some (x :: t))) ∧ RelL xs os
  | _, _ => False
theorem relL_of : ∀ (xs : List Int) (os : List (Option (List Int))), xs.length = os.length → (∀ i (h : i < xs.length) (h' : i < os.length), (xs[i] < 0 ∧ os[i] = none) ∨ (0 ≤ xs[i] ∧ ∃ t, os[i] = some (xs[i] :: t))) → RelL xs os
  | [], [], _, _ => trivial
  | x :: xs, o :: os, hl, h => ⟨h 0 (by simp) (by simp), relL_of xs os (by simpa using hl) fun i h1 h2 => h (i + 1) (by simpa using h1) (by simpa using h2)⟩
theorem norm_refine : ∀ (xs : List Int) (os : List (Option (List Int))) (l : List (List Int)) (c m : Nat), RelL xs os → Norm xs c m → (∀ y ∈ l, ∃ h t, y = h :: t ∧ h < c) →
    m + l.length ≤ (nbS l os).length + c ∧ (l.length = c → (∀ (q : Nat) (hq : q < l.length), ∃ t, l[q] = (q : Int) :: t) → (nbS l os).length = m → nbR l os = xs)
  | [], [], l, c, m, _, hn, _ => by
    have hn : c = m := hn
    subst hn
    exact ⟨by simp [nbS]; omega, fun _ _ _ => rfl⟩
  | x :: xs, o :: os, l, c, m, hr, hn, hh => by
    obtain ⟨hr1, hr2⟩ := hr
    rcases hn with ⟨rfl, hn⟩ | ⟨hx0, hxc, hn⟩ | ⟨rfl, hn⟩
    · have ho : o = none := by
        rcases hr1 with ⟨-, h⟩ | ⟨h, -⟩
        · exact h
        · omega
      subst ho
      obtain ⟨i1, i2⟩ := norm_refine xs os l c m hr2 hn hh
      exact ⟨i1, fun h1 h2 h3 => by show -1 :: nbR l os = _; rw [i2 h1 h2 h3]⟩
    · obtain ⟨t, rfl⟩ : ∃ t, o = some (x :: t) := by
        rcases hr1 with ⟨h, -⟩ | ⟨-, h⟩
        · omega
        · exact h
      by_cases k : (x :: t) ∈ l
      · obtain ⟨i1, i2⟩ := norm_refine xs os l c m hr2 hn hh
        have hb : nbL l (some (x :: t)) = l := nbL_old k
        refine ⟨by show m + l.length ≤ (nbS (nbL l (some (x :: t))) os).length + c; rw [hb]; exact i1, fun h1 h2 h3 => ?_⟩
        have h3 : (nbS (nbL l (some (x :: t))) os).length = m := h3
        rw [hb] at h3
        obtain ⟨q, hq, e1, e2⟩ := nbI_mem k
        obtain ⟨t', ht'⟩ := h2 _ hq
        rw [e2] at ht'
        have : x = (q : Int) := by injection ht'
        show nbI l (some (x :: t)) :: nbR (nbL l (some (x :: t))) os = _
        rw [e1, ← this, hb, i2 h1 h2 h3]
      · have hb : nbL l (some (x :: t)) = l ++ [x :: t] := nbL_new k
        obtain ⟨i1, i2⟩ := norm_refine xs os (l ++ [x :: t]) c m hr2 hn (fun y hy => by
          rcases List.mem_append.1 hy with hy | hy
          · exact hh y hy
          · obtain rfl := List.mem_singleton.1 hy
            exact ⟨x, t, rfl, hxc⟩)
        rw [List.length_append, List.length_singleton] at i1
        refine ⟨by show m + l.length ≤ (nbS (nbL l (some (x :: t))) os).length + c; rw [hb]; omega, fun h1 h2 h3 => ?_⟩
        have h3 : (nbS (nbL l (some (x :: t))) os).length = m := h3
        rw [hb] at h3
        omega
    · obtain ⟨t, rfl⟩ : ∃ t, o = some ((c : Int) :: t) := by
        rcases hr1 with ⟨h, -⟩ | ⟨-, h⟩
        · omega
        · exact h
      have k : ((c : Int) :: t) ∉ l := fun k => by
        obtain ⟨h, t', e, hlt⟩ := hh _ k
        have : (c : Int) = h := by injection e
        omega
      have hb : nbL l (some ((c : Int) :: t)) = l ++ [(c : Int) :: t] := nbL_new k
      obtain ⟨i1, i2⟩ := norm_refine xs os (l ++ [(c : Int) :: t]) (c + 1) m hr2 hn (fun y hy => by
        rcases List.mem_append.1 hy with hy | hy
        · obtain ⟨h, t', e, hlt⟩ := hh y hy
          exact ⟨h, t', e, by omega⟩
        · obtain rfl := List.mem_singleton.1 hy
          exact ⟨c, t, rfl, by omega⟩)
      have hlen : (l ++ [(c : Int) :: t]).length = l.length + 1 := by simp
      rw [hlen] at i1
      refine ⟨by show m + l.length ≤ (nbS (nbL l (some ((c : Int) :: t))) os).length + c; rw [hb]; omega, fun h1 h2 h3 => ?_⟩
      have h3 : (nbS (nbL l (some ((c : Int) :: t))) os).length = m := h3
      rw [hb] at h3
      have := i2 (by rw [hlen, h1]) (fun q hq => by
        by_cases e : q < l.length
        · rw [List.getElem_append_left e]; exact h2 q e
        · have e : q = l.length := by omega
          subst e
          exact ⟨t, by simp; omega⟩) h3
      show nbI l (some ((c : Int) :: t)) :: nbR (nbL l (some ((c : Int) :: t))) os = _
      rw [hb, this, nbI_new k, h1]

/-! ### Comparing rows -/
theorem q_l2Cmp (xs ys : List Int) (hN : xs.length ≤ 1048576) : ∃ r, m_s_l2Cmp xs ys = some r ∧ (r = 0 ↔ xs = ys) := by
  unfold m_s_l2Cmp
  have h0 := cmpGo (f := m_s_l2Cmp_l0 xs ys) xs ys (fun i h h' => by
    simp only [m_s_l2Cmp_l0, lt_nat h, lt_nat h', if_true, getI_nat h, getI_nat h', Option.bind_some, wrap_succ (show i < 9223372036854775807 by omega)]
    by_cases h1 : xs[i] < ys[i]
    · simp [h1]
    · by_cases h2 : xs[i] > ys[i]
      · simp [h1, h2]
      · simp [h1, h2]) (fun i hi => by
    simp only [m_s_l2Cmp_l0]
    by_cases h1 : i < xs.length
    · have h2 : ¬ i < ys.length := by omega
      simp [h1, h2]
    · simp [h1]) xs.length 0 FUEL (by omega) (fuelUp _ (by omega))
  rw [show (((0 : Nat) : Int)) = (0 : Int) from rfl] at h0
  rcases h0 with ⟨r, e, h1, h2⟩ | ⟨s, e, h1⟩
  · exact ⟨r, by rw [e]; rfl, by simp [h1, h2]⟩
  · rw [e]
    simp only [bindL]
    by_cases c1 : xs.length < ys.length
    · exact ⟨-1, by simp [c1], by simp; intro e; subst e; omega⟩
    · by_cases c2 : xs.length > ys.length
      · exact ⟨1, by simp [c1, c2], by simp; intro e; subst e; omega⟩
      · exact ⟨0, by simp [c1, c2], by simpa using h1 (by omega)⟩
theorem q_sliceEq (xs ys : List Int) (hN : xs.length ≤ 9223372036854775807) : m_g_slices_Equal_S_int_int xs ys = some (decide (xs = ys)) :=
  eqL (f := m_g_slices_Equal_S_int_int_l0 xs ys) xs ys hN (fun i h h' => by
    simp only [m_g_slices_Equal_S_int_int_l0, lt_nat h, if_true, getI_nat h, getI_nat h', Option.bind_some, wrap_succ (show i < 9223372036854775807 by omega)]
    by_cases c : xs[i] = ys[i] <;> simp [c]) (by simp only [m_g_slices_Equal_S_int_int_l0, lt_self]; rfl)

/-! ### Classes -/
def cls0 (a : AutT) : List Int := (List.range a.2.1.length).map fun s : Nat => if nth (live a) (s : Int) = true then (if nth a.2.1 (s : Int) = true then 1 else 0) else -1
def ent (a : AutT) (c : List Int) (s : Int) (k : Nat) : Int := if mv a s k < 0 then -1 else nth c (mv a s k)
def keyL (a : AutT) (c : List Int) (s : Int) : List Int := nth c s :: (List.range 9).map fun k => ent a c s k
def keyO (a : AutT) (c : List Int) (s : Nat) : Option (List Int) := if nth c (s : Int) < 0 then none else some (keyL a c s)
def keys (a : AutT) (c : List Int) : List (Option (List Int)) := (List.range a.2.1.length).map (keyO a c)
def refn (a : AutT) (c : List Int) : List Int := nbR [] (keys a c)
def refN (a : AutT) (c : List Int) : Nat := (nbS [] (keys a c)).length
def cI (a : AutT) : Nat → List Int
  | 0 => cls0 a
  | j + 1 => refn a (cI a j)
section
variable {a : AutT} {n : Nat}
theorem keys_length (a : AutT) (c : List Int) : (keys a c).length = a.2.1.length := by simp [keys]
theorem keys_at {c : List Int} {s : Nat} (h : s < a.2.1.length) : nth (keys a c) (s : Int) = keyO a c s := by
  rw [nth_nat (by simpa [keys] using h)]; simp [keys]
theorem refn_length (a : AutT) (c : List Int) : (refn a c).length = a.2.1.length := by rw [refn, nbR_length, keys_length]
theorem cI_length (a : AutT) : ∀ j, (cI a j).length = a.2.1.length
  | 0 => by simp [cI, cls0]
  | j + 1 => refn_length a _
theorem nbS_length_le {κ : Type} [DecidableEq κ] : ∀ (l : List κ) (os : List (Option κ)), (nbS l os).length ≤ l.length + os.length
  | l, [] => by simp [nbS]
  | l, o :: os => by
    have h := nbS_length_le (nbL l o) os
    have : (nbL l o).length ≤ l.length + 1 := by
      cases o with
      | none => simp [nbL]
      | some x => unfold nbL; simp only; split <;> simp
    show (nbS (nbL l o) os).length ≤ _
    rw [List.length_cons]; omega
theorem refN_le (a : AutT) (c : List Int) : refN a c ≤ a.2.1.length := by
  have := nbS_length_le ([] : List (List Int)) (keys a c)
  rw [keys_length] at this
  simpa [refN] using this
theorem refn_at {c : List Int} {s : Nat} (h : s < a.2.1.length) : nth (refn a c) (s : Int) = nbI (nbS [] (keys a c)) (keyO a c s) := by
  rw [refn, nbR_at _ _ _ (by rw [keys_length]; exact h), keys_at h]
theorem key_mem {c : List Int} {s : Nat} (h : s < a.2.1.length) (hc : ¬ nth c (s : Int) < 0) : keyL a c s ∈ nbS [] (keys a c) := by
  refine mem_nbS.2 (.inr ?_)
  refine List.mem_map.2 ⟨s, List.mem_range.2 h, ?_⟩
  unfold keyO; rw [if_neg hc]
theorem refn_neg {c : List Int} {s : Nat} (h : s < a.2.1.length) : (nth (refn a c) (s : Int) < 0 ↔ nth c (s : Int) < 0) ∧ (nth (refn a c) (s : Int) < 0 → nth (refn a c) (s : Int) = -1) := by
  rw [refn_at h]
  unfold keyO
  by_cases hc : nth c (s : Int) < 0
  · rw [if_pos hc]; simp [nbI, hc]
  · rw [if_neg hc]
    obtain ⟨q, hq, e, -⟩ := nbI_mem (key_mem h hc)
    rw [e]
    exact ⟨⟨fun h => by omega, fun h => absurd h hc⟩, fun h => by omega⟩
theorem refn_lt {c : List Int} {s : Nat} (h : s < a.2.1.length) : nth (refn a c) (s : Int) < (a.2.1.length : Int) := by
  rw [refn_at h]
  unfold keyO
  by_cases hc : nth c (s : Int) < 0
  · rw [if_pos hc]; simp only [nbI]; omega
  · rw [if_neg hc]
    obtain ⟨q, hq, e, -⟩ := nbI_mem (key_mem h hc)
    have := refN_le a c
    unfold refN at this
    rw [e]; omega
theorem refn_eq {c : List Int} {s t : Nat} (hs : s < a.2.1.length) (ht : t < a.2.1.length) (h0 : 0 ≤ nth (refn a c) (s : Int)) (h : nth (refn a c) (s : Int) = nth (refn a c) (t : Int)) : keyL a c s = keyL a c t := by
  have n1 : ¬ nth c (s : Int) < 0 := fun k => by have := (refn_neg hs).1.2 k; omega
  have n2 : ¬ nth c (t : Int) < 0 := fun k => by have := (refn_neg ht).1.2 k; omega
  rw [refn_at hs, refn_at ht] at h
  unfold keyO at h
  rw [if_neg n1, if_neg n2] at h
  obtain ⟨q, hq, e1, e2⟩ := nbI_mem (key_mem hs n1)
  obtain ⟨q', hq', e1', e2'⟩ := nbI_mem (key_mem ht n2)
  rw [e1, e1'] at h
  obtain rfl : q = q' := by omega
  rw [← e2, ← e2']
theorem cI_neg (a : AutT) {s : Nat} (h : s < a.2.1.length) : ∀ j, (nth (cI a j) (s : Int) < 0 ↔ nth (live a) (s : Int) = false) ∧ (nth (cI a j) (s : Int) < 0 → nth (cI a j) (s : Int) = -1)
  | 0 => by
    have e : nth (cI a 0) (s : Int) = if nth (live a) (s : Int) = true then (if nth a.2.1 (s : Int) = true then 1 else 0) else -1 := by
      show nth (cls0 a) (s : Int) = _
      rw [nth_nat (by simpa [cls0] using h)]; simp [cls0]
    rw [e]
    cases nth (live a) (s : Int) <;> cases nth a.2.1 (s : Int) <;> simp
  | j + 1 => by
    have ih := cI_neg a h j
    have := refn_neg (c := cI a j) h
    exact ⟨this.1.trans ih.1, this.2⟩
theorem cI_acc (a : AutT) {s t : Nat} (hs : s < a.2.1.length) (ht : t < a.2.1.length) : ∀ j, 0 ≤ nth (cI a j) (s : Int) → nth (cI a j) (s : Int) = nth (cI a j) (t : Int) → nth a.2.1 (s : Int) = nth a.2.1 (t : Int)
  | 0, h0, h => by
    have e : ∀ {s : Nat}, s < a.2.1.length → nth (cI a 0) (s : Int) = if nth (live a) (s : Int) = true then (if nth a.2.1 (s : Int) = true then 1 else 0) else -1 := by
      intro s h
      show nth (cls0 a) (s : Int) = _
      rw [nth_nat (by simpa [cls0] using h)]; simp [cls0]
    rw [e hs] at h0 h
    rw [e ht] at h
    revert h0 h
    cases nth (live a) (s : Int) <;> cases nth a.2.1 (s : Int) <;> cases nth (live a) (t : Int) <;> cases nth a.2.1 (t : Int) <;> simp
  | j + 1, h0, h => by
    have k := refn_eq (c := cI a j) hs ht h0 h
    have h1 : nth (cI a j) (s : Int) = nth (cI a j) (t : Int) := by
      unfold keyL at k; injection k
    refine cI_acc a hs ht j ?_ h1
    have := (refn_neg (c := cI a j) hs).1
    by_cases q : nth (cI a j) (s : Int) < 0
    · have := this.2 q
      have h0 : 0 ≤ nth (refn a (cI a j)) (s : Int) := h0
      omega
    · omega
theorem cI_norm (a : AutT) (j : Nat) : Norm (cI a (j + 1)) 0 (refN a (cI a j)) := norm_nb (keys a (cI a j)) []
theorem rel_keys (a : AutT) {c : List Int} (hc : c.length = a.2.1.length) : RelL c (keys a c) := by
  refine relL_of _ _ (by rw [keys_length, hc]) fun i h h' => ?_
  have e1 : c[i] = nth c (i : Int) := (nth_nat h).symm
  have e2 : (keys a c)[i] = keyO a c i := by simp [keys]
  rw [e1, e2]
  unfold keyO
  by_cases k : nth c (i : Int) < 0
  · exact .inl ⟨k, by rw [if_pos k]⟩
  · exact .inr ⟨by omega, _, by rw [if_neg k]; rfl⟩
theorem cI_grow (a : AutT) (j : Nat) : refN a (cI a j) ≤ refN a (cI a (j + 1)) ∧ (refN a (cI a (j + 1)) = refN a (cI a j) → cI a (j + 2) = cI a (j + 1)) := by
  obtain ⟨h1, h2⟩ := norm_refine (cI a (j + 1)) (keys a (cI a (j + 1))) [] 0 (refN a (cI a j)) (rel_keys a (cI_length a _)) (cI_norm a j) (fun y hy => by cases hy)
  exact ⟨by simpa [refN] using h1, fun h => h2 rfl (fun q hq => absurd hq (Nat.not_lt_zero q)) h⟩
theorem cI_fix {j k : Nat} (h : cI a (j + 1) = cI a j) (hk : j ≤ k) : cI a k = cI a j := by
  induction hk with
  | refl => rfl
  | step _ ih => rw [cI, ih]; exact h
theorem cI_fix_eq {j k : Nat} (h : cI a (j + 1) = cI a j) (h' : cI a (k + 1) = cI a k) : cI a j = cI a k := by
  rcases Nat.le_total j k with e | e
  · exact (cI_fix h e).symm
  · exact cI_fix h' e
theorem cI_stop (a : AutT) : ∃ j, j ≤ a.2.1.length ∧ cI a (j + 1) = cI a j := by
  by_cases h0 : cI a 1 = cI a 0
  · exact ⟨0, Nat.zero_le _, h0⟩
  have hpos : 1 ≤ refN a (cI a 0) := by
    refine Nat.one_le_iff_ne_zero.2 fun hz => h0 ?_
    have hnone : ∀ s : Nat, s < a.2.1.length → nth (cI a 0) (s : Int) < 0 := fun s hs => by
      refine Classical.byContradiction fun k => ?_
      have := key_mem (c := cI a 0) hs k
      have hl := List.length_pos_of_mem this
      unfold refN at hz; omega
    refine ext_nth (by rw [cI_length, cI_length]) fun i hi => ?_
    rw [cI_length] at hi
    have h1 := (cI_neg a hi 0).2 (hnone i hi)
    have h2 := (cI_neg a hi 1).2 (((cI_neg a hi 1).1.trans (cI_neg a hi 0).1.symm).2 (hnone i hi))
    rw [h1, h2]
  have key : ∀ m, (∃ j, j ≤ m ∧ cI a (j + 1) = cI a j) ∨ m + 1 ≤ refN a (cI a m) := by
    intro m
    induction m with
    | zero => exact .inr hpos
    | succ m ih =>
      rcases ih with ⟨j, hj, e⟩ | ih
      · exact .inl ⟨j, by omega, e⟩
      · obtain ⟨g1, g2⟩ := cI_grow a m
        by_cases e : refN a (cI a (m + 1)) = refN a (cI a m)
        · exact .inl ⟨m + 1, Nat.le_refl _, g2 e⟩
        · exact .inr (by omega)
  rcases key a.2.1.length with h | h
  · exact h
  · have := refN_le a (cI a a.2.1.length); omega
end
end Go.Proofs.YtcmpdlhbliolaaaGreat.D
/- The classes and the minimal automaton as the reference and the program reckon them. -/
set_option linter.unusedVariables false
set_option linter.unusedSimpArgs false
set_option linter.unnecessarySimpa false
set_option linter.unusedSectionVars false
namespace Go.Proofs.YtcmpdlhbliolaaaGreat.D
open Go.RowKit

section
variable {a : AutT} {n : Nat} {c : List Int}
theorem ent_snoc (k : Nat) (s : Int) : (List.range (k + 1)).map (fun k => ent a c s k) = (List.range k).map (fun k => ent a c s k) ++ [ent a c s k] := by simp [List.range_succ]
theorem s_key (V : VA a n) (hn : n ≤ 1000000) (hc : c.length = n) {s : Nat} (hs : s < n) : m_s_l12Key a c s = some (keyL a c s) := by
  unfold m_s_l12Key
  rw [getI_nth (by omega) (by omega)]; simp only [Option.bind_some]
  have := loopM_at (f := m_s_l12Key_l0 a c s) (fun k => (nth c (s : Int) :: (List.range k).map (fun k => ent a c s k), (k : Int))) 9 (fun k hk => by
    have hm := V.mv (s := s) (k := k) (by omega) (by omega) hk
    unfold m_s_l12Key_l0
    simp only
    rw [if_pos (by simp; omega), V.get (by omega) (by omega)]; simp only [Option.bind_some]
    rw [V.get2 (by omega) (by omega) hk, ent_snoc]; simp only [Option.bind_some, wrap_succ (show k < 9223372036854775807 by omega)]
    by_cases h : mv a s k < 0
    · rw [if_pos (by simpa using h), appI_ok (by simp; omega), show ent a c s k = -1 from by unfold ent; rw [if_pos h]]; rfl
    · rw [if_neg (by simpa using h), getI_nth (by omega) (by omega)]; simp only [Option.bind_some]
      rw [appI_ok (by simp; omega), show ent a c s k = nth c (mv a s k) from by unfold ent; rw [if_neg h]]; rfl) (by unfold m_s_l12Key_l0; simp) (by unfold FUEL; omega)
  exact bindL_brk this
theorem i_key (V : VA a n) (hn : n ≤ 1000000) (hc : c.length = n) {s : Nat} (hs : s < n) : loopM (m_i_Automaton_refine_l1 c (nth a.2.2 (s : Int))) FUEL (0, [nth c (s : Int)]) = some (.brk (9, keyL a c s)) := by
  have hr := V.rowAt (s := s) (by omega) (by omega)
  exact loopM_at (f := m_i_Automaton_refine_l1 c (nth a.2.2 (s : Int))) (fun k => ((k : Int), nth c (s : Int) :: (List.range k).map (fun k => ent a c s k))) 9 (fun k hk => by
    have hm := V.mv (s := s) (k := k) (by omega) (by omega) hk
    unfold m_i_Automaton_refine_l1
    simp only
    rw [if_pos (by simp [hr]; omega), V.get2 (by omega) (by omega) hk, ent_snoc]; simp only [Option.bind_some, wrap_succ (show k < 9223372036854775807 by omega)]
    by_cases h : mv a s k < 0
    · have e : mv a s k = -1 := by omega
      rw [if_neg (by simp; omega)]; simp only [Option.bind_some]
      rw [appI_ok (by simp; omega), show ent a c s k = mv a s k from by unfold ent; rw [if_pos h, e]]; rfl
    · rw [if_pos (by simp; omega), getI_nth (by omega) (by omega)]; simp only [Option.bind_some]
      rw [appI_ok (by simp; omega), show ent a c s k = nth c (mv a s k) from by unfold ent; rw [if_neg h]]; rfl) (by unfold m_i_Automaton_refine_l1; simp [hr]) (by unfold FUEL; omega)
theorem nbI_first {κ : Type} [DecidableEq κ] {l t r : List κ} {x : κ} (e : l = t ++ x :: r) (hx : x ∉ t) : nbI l (some x) = (t.length : Int) := by
  subst e
  simp only [nbI]
  rw [List.idxOf_append, if_neg hx, List.idxOf_cons_self, Nat.zero_add]
def seek (l : List (List Int)) (x : List Int) : Int := if x ∈ l then nbI l (some x) else -1
theorem s_seek {l : List (List Int)} {x cs : List Int} {q : Int} (hl : l.length ≤ 1000000) (hd : l.Nodup) (hx : ∀ y ∈ l, y.length ≤ 1048576) : loopM (m_s_l12Classes_l3 (l, cs, q) x) FUEL (-1, 0) = some (.brk (seek l x, (l.length : Int))) := by
  have := loopM_at (f := m_s_l12Classes_l3 (l, cs, q) x) (fun k => (if x ∈ l.take k then nbI l (some x) else -1, (k : Int))) l.length (fun k hk => by
    unfold m_s_l12Classes_l3
    simp only
    rw [if_pos (by simp; omega), getI_nth (by omega) (by omega)]; simp only [Option.bind_some, Int.toNat_natCast, wrap_succ (show k < 9223372036854775807 by omega)]
    obtain ⟨r, e, hr⟩ := q_l2Cmp (nth l (k : Int)) x (hx _ (nth_mem (by omega) (by omega)))
    rw [e, take_one hk]; simp only [Option.bind_some, List.mem_append, List.mem_singleton]
    by_cases h : nth l (k : Int) = x
    · have h0 : r = 0 := hr.2 h
      have hm : x ∈ l := h ▸ nth_mem (by omega) (by omega)
      obtain ⟨q, hq, e1, e2⟩ := nbI_mem hm
      have : q = k := by
        have h1 : l[q]? = some x := by rw [List.getElem?_eq_getElem hq, e2]
        have h2 : l[k]? = some x := by rw [List.getElem?_eq_getElem hk, ← nth_nat hk, h]
        exact (List.getElem?_inj hq hd).1 (h1.trans h2.symm)
      subst this
      rw [if_pos (by simp [h0]), if_pos (.inr h.symm), e1]; rfl
    · have h0 : r ≠ 0 := fun e => h (hr.1 e)
      have hn : ¬ x = nth l (k : Int) := fun e => h e.symm
      rw [if_neg (by simpa using h0)]
      simp [hn]) (by unfold m_s_l12Classes_l3; simp) (up63 (by omega))
  rw [List.take_of_length_le (Nat.le_refl _)] at this
  exact this
theorem i_seek {l : List (List Int)} {x : List Int} {f : List Int → Option Bool} (hl : l.length ≤ 1000000) (hf : ∀ y ∈ l, f y = some (decide (y = x))) : m_g_slices_IndexFunc_S_S_int_S_int l f = some (seek l x) := by
  unfold m_g_slices_IndexFunc_S_S_int_S_int
  obtain ⟨o, e, hq⟩ := loopM_go (f := m_g_slices_IndexFunc_S_S_int_S_int_l0 l f) (fun k s => s = (k : Int) ∧ x ∉ l.take k) (fun o => (x ∈ l ∧ o = .ret (nbI l (some x))) ∨ (x ∉ l ∧ ∃ s, o = .brk s)) l.length (s := 0) (by
    rintro k s hk ⟨rfl, hx⟩
    unfold m_g_slices_IndexFunc_S_S_int_S_int_l0
    by_cases hkl : k < l.length
    · rw [if_pos (by simp; omega), getI_nth (by omega) (by omega)]; simp only [Option.bind_some]
      rw [hf _ (nth_mem (by omega) (by omega))]; simp only [Option.bind_some]
      by_cases h : nth l (k : Int) = x
      · refine .inr ⟨_, by rw [if_pos (by simpa using h)], (fun s' e => by cases e), .inl ?_⟩
        have hm : x ∈ l := h ▸ nth_mem (by omega) (by omega)
        refine ⟨hm, ?_⟩
        have e : l = l.take k ++ (x :: l.drop (k + 1)) := by
          rw [← h, nth_nat hkl, ← List.drop_eq_getElem_cons hkl, List.take_append_drop]
        rw [nbI_first e hx, List.length_take, Nat.min_eq_left (by omega)]
      · refine .inl ⟨hkl, _, by rw [if_neg (by simpa using h)], by rw [wrap_succ (by omega)], ?_⟩
        rw [take_one hkl, List.mem_append, List.mem_singleton]
        rintro (h' | h')
        · exact hx h'
        · exact h h'.symm
    · refine .inr ⟨_, by rw [if_neg (by simp; omega)], (fun s' e => by cases e), .inr ⟨?_, _, rfl⟩⟩
      rwa [List.take_of_length_le (by omega)] at hx) ⟨rfl, by simp⟩ (up63 (by omega))
  unfold seek
  rcases hq with ⟨hx, rfl⟩ | ⟨hx, s, rfl⟩
  · rw [bindL_ret e, if_pos hx]
  · rw [bindL_brk e, if_neg hx]
theorem kinds_short {os : List (Option (List Int))} (h : ∀ y, some y ∈ os → y.length = 10) : ∀ y ∈ nbS [] os, y.length = 10 := fun y hy => by
  rcases mem_nbS.1 hy with hy | hy
  · cases hy
  · exact h y hy
theorem keys_short (a : AutT) (c : List Int) : ∀ y, some y ∈ keys a c → y.length = 10 := by
  intro y hy
  obtain ⟨s, -, e⟩ := List.mem_map.1 hy
  unfold keyO at e
  split at e
  · cases e
  · rw [← Option.some.inj e]; simp [keyL]
section
variable (V : VA a n) (hn : n ≤ 1000000) (hc : c.length = n)
include V hn hc
theorem kinds_le (s : Nat) : (nbS [] ((keys a c).take s)).length ≤ n := by
  have := nbS_length_le ([] : List (List Int)) ((keys a c).take s)
  rw [List.length_take, keys_length, V.len] at this
  simp at this; omega
theorem s_refine {m : Int} : loopM (m_s_l12Classes_l2 a (c, m)) FUEL ([], [], 0) = some (.brk (nbS [] (keys a c), refn a c, (n : Int))) := by
  have hlen := V.len
  have := loopM_at (f := m_s_l12Classes_l2 a (c, m)) (fun s => (nbS [] ((keys a c).take s), nbR [] ((keys a c).take s), (s : Int))) n (fun s hs => by
    have hkl := kinds_le V hn hc s
    have hrl : (nbR [] ((keys a c).take s)).length ≤ n := by rw [nbR_length, List.length_take, keys_length]; omega
    unfold m_s_l12Classes_l2
    simp only
    rw [if_pos (by simp; omega), getI_nth (by omega) (by omega)]; simp only [Option.bind_some]
    rw [take_one (by rw [keys_length]; omega), nbS_snoc, nbR_snoc, keys_at (by omega)]
    simp only [wrap_succ (show s < 9223372036854775807 by omega)]
    by_cases h : nth c (s : Int) < 0
    · rw [if_pos (by simpa using h), appI_ok (by simp; omega), show keyO a c s = none from by unfold keyO; rw [if_pos h]]; rfl
    · rw [if_neg (by simpa using h), show keyO a c s = some (keyL a c s) from by unfold keyO; rw [if_neg h]]
      rw [show m_s_l12Key (a.1, a.2.1, a.2.2) c (s : Int) = some (keyL a c s) from s_key V hn hc hs]; simp only [Option.bind_some]
      rw [bindL_brk (s_seek (by omega) (nbS_nodup (by simp)) (fun y hy => by rw [kinds_short (fun y hy => keys_short a c y (List.mem_of_mem_take hy)) y hy]; decide))]
      simp only
      unfold seek
      by_cases k : keyL a c s ∈ nbS [] ((keys a c).take s)
      · obtain ⟨q, hq, e1, e2⟩ := nbI_mem k
        rw [if_pos k, nbL_old k, e1, if_neg (by simp)]; simp only [Option.bind_some]
        rw [appI_ok (by simp; omega)]; rfl
      · rw [if_neg k, nbL_new k, nbI_new k, if_pos (show decide ((-1 : Int) < 0) = true from rfl), appI_ok (by simp; omega)]; simp only [Option.bind_some]
        rw [appI_ok (by simp; omega)]; rfl) (by
    unfold m_s_l12Classes_l2
    simp only
    rw [if_neg (by simp; omega)]) (up63 (by omega))
  rw [show (keys a c).take n = keys a c from List.take_of_length_le (by rw [keys_length]; omega)] at this
  exact this
theorem i_refine : m_i_Automaton_refine a c = some (refn a c, (refN a c : Int)) := by
  have hlen := V.len
  unfold m_i_Automaton_refine
  have := loopM_at (f := m_i_Automaton_refine_l0 a c) (fun s => (nbS [] ((keys a c).take s), nbR [] ((keys a c).take s), (s : Int))) n (fun s hs => by
    have hkl := kinds_le V hn hc s
    have hrl : (nbR [] ((keys a c).take s)).length ≤ n := by rw [nbR_length, List.length_take, keys_length]; omega
    unfold m_i_Automaton_refine_l0
    simp only
    rw [if_pos (by simp; omega), getI_nth (by omega) (by omega)]; simp only [Option.bind_some]
    rw [take_one (by rw [keys_length]; omega), nbS_snoc, nbR_snoc, keys_at (by omega)]
    simp only [wrap_succ (show s < 9223372036854775807 by omega)]
    by_cases h : nth c (s : Int) < 0
    · rw [if_pos (by simpa using h), appI_ok (by simp; omega), show keyO a c s = none from by unfold keyO; rw [if_pos h]]; rfl
    · rw [if_neg (by simpa using h), show keyO a c s = some (keyL a c s) from by unfold keyO; rw [if_neg h], V.get (by omega) (by omega)]; simp only [Option.bind_some]
      rw [bindL_brk (i_key V hn hc hs)]; simp only
      rw [i_seek (x := keyL a c s) (by omega) (fun y hy => by
        unfold m_i_Automaton_refine_1
        rw [q_sliceEq _ _ (by rw [kinds_short (fun y hy => keys_short a c y (List.mem_of_mem_take hy)) y hy]; decide)]; rfl)]; simp only [Option.bind_some]
      unfold seek
      by_cases k : keyL a c s ∈ nbS [] ((keys a c).take s)
      · obtain ⟨q, hq, e1, e2⟩ := nbI_mem k
        rw [if_pos k, nbL_old k, e1, if_neg (by simp)]; simp only [Option.bind_some]
        rw [appI_ok (by simp; omega)]; rfl
      · rw [if_neg k, nbL_new k, nbI_new k, if_pos (show decide ((-1 : Int) < 0) = true from rfl), appI_ok (by simp; omega)]; simp only [Option.bind_some]
        rw [appI_ok (by simp; omega)]; rfl) (by
    unfold m_i_Automaton_refine_l0
    simp only
    rw [if_neg (by simp; omega)]) (up63 (by omega))
  rw [show (keys a c).take n = keys a c from List.take_of_length_le (by rw [keys_length]; omega)] at this
  exact bindL_brk this
end
end
section
variable {a : AutT} {n : Nat} (V : VA a n) (hn : n ≤ 1000000)
include V hn
theorem cls0_snoc (s : Nat) : (List.range (s + 1)).map (fun s : Nat => if nth (live a) (s : Int) = true then (if nth a.2.1 (s : Int) = true then (1 : Int) else 0) else -1) = (List.range s).map (fun s : Nat => if nth (live a) (s : Int) = true then (if nth a.2.1 (s : Int) = true then 1 else 0) else -1) ++ [if nth (live a) (s : Int) = true then (if nth a.2.1 (s : Int) = true then 1 else 0) else -1] := by simp [List.range_succ]
theorem s_cls0 : loopM (m_s_l12Classes_l0 a (live a)) FUEL ([], 0) = some (.brk (cls0 a, (n : Int))) := by
  have hlen := V.len
  have hll : (live a).length = n := by rw [live_length, hlen]
  have := loopM_at (f := m_s_l12Classes_l0 a (live a)) (fun s => ((List.range s).map (fun s : Nat => if nth (live a) (s : Int) = true then (if nth a.2.1 (s : Int) = true then (1 : Int) else 0) else -1), (s : Int))) n (fun s hs => by
    unfold m_s_l12Classes_l0
    simp only
    rw [if_pos (by simp; omega), V.acc (by omega) (by omega)]; simp only [Option.bind_some]
    rw [cls0_snoc V hn, getI_nth (xs := live a) (by omega) (by omega)]; simp only [wrap_succ (show s < 9223372036854775807 by omega)]
    cases nth (live a) (s : Int) <;> cases nth a.2.1 (s : Int) <;> simp only [if_true, if_false, Bool.false_eq_true, Option.bind_some] <;> rw [appI_ok (by simp; omega)] <;> rfl) (by
    unfold m_s_l12Classes_l0
    simp only
    rw [if_neg (by simp; omega)]) (up63 (by omega))
  unfold cls0
  rw [hlen]
  exact this
theorem i_cls0 : loopM (m_i_Automaton_classes_l0 a (live a)) FUEL ([], 0) = some (.brk (cls0 a, (n : Int))) := by
  have hlen := V.len
  have hll : (live a).length = n := by rw [live_length, hlen]
  have := loopM_at (f := m_i_Automaton_classes_l0 a (live a)) (fun s => ((List.range s).map (fun s : Nat => if nth (live a) (s : Int) = true then (if nth a.2.1 (s : Int) = true then (1 : Int) else 0) else -1), (s : Int))) n (fun s hs => by
    unfold m_i_Automaton_classes_l0
    simp only
    rw [if_pos (by simp; omega), getI_nth (xs := live a) (by omega) (by omega)]; simp only [Option.bind_some]
    rw [cls0_snoc V hn, V.acc (by omega) (by omega)]; simp only [wrap_succ (show s < 9223372036854775807 by omega)]
    cases nth (live a) (s : Int) <;> cases nth a.2.1 (s : Int) <;> simp only [if_true, if_false, Bool.false_eq_true, Option.bind_some] <;> rw [appI_ok (by simp; omega)] <;> rfl) (by
    unfold m_i_Automaton_classes_l0
    simp only
    rw [if_neg (by simp; omega)]) (up63 (by omega))
  unfold cls0
  rw [hlen]
  exact this
theorem s_classes : ∃ J, cI a (J + 1) = cI a J ∧ m_s_l12Classes a = some (cI a J) := by
  have hlen := V.len
  unfold m_s_l12Classes
  rw [show m_s_l11Live (a.1, a.2.1, a.2.2) = some (live a) from s_live V hn]; simp only [Option.bind_some]
  rw [bindL_brk (s_cls0 V hn)]
  obtain ⟨J0, hJ0, hfix⟩ := cI_stop a
  obtain ⟨o, e, j, rfl, hj⟩ := loopM_go (f := m_s_l12Classes_l1 a) (fun j s => s = (cI a j, (j : Int)) ∧ j ≤ J0) (fun o => ∃ j, o = .ret (cI a j) ∧ cI a (j + 1) = cI a j) (J0 + 1) (s := (cI a 0, 0)) (by
    rintro j s hj ⟨rfl, hjJ⟩
    have hcl : (cI a j).length = n := by rw [cI_length, hlen]
    unfold m_s_l12Classes_l1
    simp only
    rw [if_pos (by simp; omega), bindL_brk (s_refine V hn hcl)]
    simp only
    obtain ⟨r, er, hr⟩ := q_l2Cmp (refn a (cI a j)) (cI a j) (by rw [refn_length]; omega)
    rw [er]; simp only [Option.bind_some, wrap_succ (show j < 9223372036854775807 by omega)]
    by_cases h : refn a (cI a j) = cI a j
    · exact .inr ⟨_, by rw [if_pos (by simpa using hr.2 h)], (fun s' e => by cases e), j, rfl, h⟩
    · refine .inl ⟨by omega, (cI a (j + 1), ((j + 1 : Nat) : Int)), by rw [if_neg (by simpa using fun e => h (hr.1 e))]; rfl, rfl, ?_⟩
      by_cases e : j = J0
      · subst e; exact absurd hfix h
      · omega) ⟨rfl, Nat.zero_le _⟩ (up63 (by omega))
  exact ⟨j, hj, bindL_ret e⟩
theorem i_classes : ∃ J, cI a (J + 1) = cI a J ∧ m_i_Automaton_classes a = some (cI a J) := by
  have hlen := V.len
  unfold m_i_Automaton_classes
  rw [show m_i_Automaton_live (a.1, a.2.1, a.2.2) = some (live a) from i_live V hn]; simp only [Option.bind_some]
  rw [bindL_brk (i_cls0 V hn)]
  let kk : Nat → Int := fun j => match j with | 0 => -1 | i + 1 => (refN a (cI a i) : Int)
  obtain ⟨o, e, j, rfl, hj⟩ := loopM_go (f := m_i_Automaton_classes_l1 a) (fun j s => s = (cI a j, kk j) ∧ (j : Int) ≤ kk j + 1) (fun o => ∃ j, o = .ret (cI a j) ∧ cI a (j + 1) = cI a j) (n + 2) (s := (cI a 0, -1)) (by
    rintro j s hj ⟨rfl, hjk⟩
    have hcl : (cI a j).length = n := by rw [cI_length, hlen]
    have hle := refN_le a (cI a j)
    unfold m_i_Automaton_classes_l1
    simp only
    rw [show m_i_Automaton_refine (a.1, a.2.1, a.2.2) (cI a j) = some (refn a (cI a j), (refN a (cI a j) : Int)) from i_refine V hn hcl]; simp only [Option.bind_some]
    cases j with
    | zero =>
      refine .inl ⟨by omega, (cI a 1, kk 1), by rw [if_neg (by show ¬ ((refN a (cI a 0) : Int) == -1) = true; simp)]; rfl, rfl, ?_⟩
      show (1 : Int) ≤ (refN a (cI a 0) : Int) + 1
      omega
    | succ i =>
      obtain ⟨g1, g2⟩ := cI_grow a i
      have hki : kk (i + 1) = (refN a (cI a i) : Int) := rfl
      rw [hki] at hjk ⊢
      by_cases h : refN a (cI a (i + 1)) = refN a (cI a i)
      · refine .inr ⟨.ret (cI a (i + 2)), by rw [if_pos (by simp [h])]; rfl, (fun s' e => by cases e), i + 2, rfl, ?_⟩
        have := g2 h
        show refn a (cI a (i + 2)) = cI a (i + 2)
        rw [this]; exact this
      · refine .inl ⟨?_, (cI a (i + 2), kk (i + 2)), by rw [if_neg (by simp; omega)]; rfl, rfl, ?_⟩
        · omega
        · show ((i + 1 + 1 : Nat) : Int) ≤ (refN a (cI a (i + 1)) : Int) + 1
          omega) ⟨rfl, by show ((0 : Nat) : Int) ≤ -1 + 1; omega⟩ (up63 (by omega))
  exact ⟨j, hj, bindL_ret e⟩
theorem classes_eq : ∃ c, m_s_l12Classes a = some c ∧ m_i_Automaton_classes a = some c ∧ c.length = n ∧ refn a c = c ∧ ∃ j, c = cI a j := by
  obtain ⟨J, hJ, es⟩ := s_classes V hn
  obtain ⟨J', hJ', ei⟩ := i_classes V hn
  have := cI_fix_eq hJ hJ'
  exact ⟨cI a J, es, by rw [this]; exact ei, by rw [cI_length, V.len], hJ, J, rfl⟩
end
end Go.Proofs.YtcmpdlhbliolaaaGreat.D
/- What is numbered is an automaton. -/
set_option linter.unusedVariables false
set_option linter.unusedSimpArgs false
set_option linter.unnecessarySimpa false
set_option linter.unusedSectionVars false
namespace Go.Proofs.YtcmpdlhbliolaaaGreat.D
open Go.RowKit
section
variable {κ : Type} [DecidableEq κ] [Inhabited κ] {nx : κ → List (Option κ)} {first : κ} {G : κ → Prop} {B N : Nat} {acc : κ → Bool}
theorem nbR_range : ∀ (l : List κ) (os : List (Option κ)), ∀ t ∈ nbR l os, -1 ≤ t ∧ t < ((nbS l os).length : Int)
  | l, [] => fun t ht => by cases ht
  | l, o :: os => fun t ht => by
    have hp := nbS_prefix (nbL l o) os
    have hl := hp.length_le
    rcases List.mem_cons.1 ht with rfl | ht
    · show -1 ≤ nbI l o ∧ nbI l o < ((nbS (nbL l o) os).length : Int)
      cases o with
      | none => exact ⟨by simp [nbI], by simp only [nbI]; omega⟩
      | some y =>
        by_cases c : y ∈ l
        · obtain ⟨q, hq, e, -⟩ := nbI_mem c
          rw [nbL_old c] at hl
          rw [e]; exact ⟨by omega, by rw [nbL_old c]; omega⟩
        · rw [nbL_new c] at hl
          rw [nbI_new c]; rw [List.length_append] at hl
          exact ⟨by omega, by rw [nbL_new c]; simp at hl; omega⟩
    · exact nbR_range (nbL l o) os t ht
theorem num_VA (H : NumOk nx first G B) (hN : bfE nx first N) : VA ((0, (bfS nx first N).map acc, bfR nx first N) : AutT) N := by
  have h0 : 0 < N := by
    have := bfS_first (nx := nx) (first := first) N
    have := (List.getElem?_eq_some_iff.1 this).1
    have := hN.1; omega
  have key : ∀ i, i ≤ N → ∀ r ∈ bfR nx first i, r.length = 9 ∧ ∀ t ∈ r, -1 ≤ t ∧ t < (N : Int) := by
    intro i
    induction i with
    | zero => intro _ r hr; cases hr
    | succ i ih =>
      intro hi r hr
      have hlt := hN.2 i (by omega)
      rw [bfR_succ hlt] at hr
      rcases List.mem_append.1 hr with hr | hr
      · exact ih (by omega) r hr
      · obtain rfl := List.mem_singleton.1 hr
        refine ⟨by rw [nbR_length, H.len _ (bfS_good H.g0 H.gn i _ (List.getElem_mem hlt))], fun t ht => ?_⟩
        have := nbR_range _ _ t ht
        rw [← bfS_succ hlt] at this
        have hl := (bfS_prefix (nx := nx) (first := first) hi).length_le
        have := hN.1
        omega
  exact ⟨by show ((bfS nx first N).map acc).length = N; rw [List.length_map]; exact hN.1.symm, ⟨Int.le_refl _, by show (0 : Int) < N; omega⟩, bfR_length hN.2, fun r hr => (key N (Nat.le_refl _) r hr).1, fun r hr => (key N (Nat.le_refl _) r hr).2⟩
end
theorem VA.self {a : AutT} {n : Nat} (v : VA a n) : VA a a.2.1.length := by
  have e := v.len
  subst e
  exact v
theorem nothing_VA : VA nothing 1 := ⟨rfl, ⟨by decide, by decide⟩, rfl, fun r hr => by
  obtain rfl := List.mem_singleton.1 hr
  decide, fun r hr => by
  obtain rfl := List.mem_singleton.1 hr
  decide⟩
end Go.Proofs.YtcmpdlhbliolaaaGreat.D
/- The minimal automaton: the reference numbers representatives, the program numbers classes. -/
set_option linter.unusedVariables false
set_option linter.unusedSimpArgs false
set_option linter.unnecessarySimpa false
set_option linter.unusedSectionVars false
namespace Go.Proofs.YtcmpdlhbliolaaaGreat.D
open Go.RowKit

theorem i_index {l : List Int} {x : Int} (hl : l.length ≤ 1000000) (hx : x ∈ l) : m_i_Automaton_minimize_1 x l = some (nbI l (some x)) := by
  unfold m_i_Automaton_minimize_1 m_g_slices_Index_S_int_int
  obtain ⟨o, e, hq⟩ := loopM_go (f := m_g_slices_Index_S_int_int_l0 l x) (fun k s => s = (k : Int) ∧ x ∉ l.take k) (fun o => o = .ret (nbI l (some x))) l.length (s := 0) (by
    rintro k s hk ⟨rfl, hx'⟩
    unfold m_g_slices_Index_S_int_int_l0
    by_cases hkl : k < l.length
    · rw [if_pos (by simp; omega), getI_nth (by omega) (by omega)]; simp only [Option.bind_some]
      by_cases h : nth l (k : Int) = x
      · refine .inr ⟨_, by rw [if_pos (by simp [h])], (fun s' e => by cases e), ?_⟩
        have e : l = l.take k ++ (x :: l.drop (k + 1)) := by
          rw [← h, nth_nat hkl, ← List.drop_eq_getElem_cons hkl, List.take_append_drop]
        rw [nbI_first e hx', List.length_take, Nat.min_eq_left (by omega)]
      · have h' : ¬ x = nth l (k : Int) := fun e => h e.symm
        refine .inl ⟨hkl, _, by rw [if_neg (by simpa using h')], by rw [wrap_succ (by omega)], ?_⟩
        rw [take_one hkl, List.mem_append, List.mem_singleton]
        rintro (h' | h')
        · exact hx' h'
        · exact h h'.symm
    · rw [List.take_of_length_le (by omega)] at hx'
      exact absurd hx hx') ⟨rfl, by simp⟩ (up63 (by omega))
  subst hq
  rw [bindL_ret e]; rfl
section
variable {a : AutT} {n : Nat}
def rep (c : List Int) (x : Int) : Int := nbI c (some x)
theorem rep_ok {c : List Int} {x : Int} (h : x ∈ c) : 0 ≤ rep c x ∧ rep c x < c.length ∧ nth c (rep c x) = x := by
  obtain ⟨q, hq, e1, e2⟩ := nbI_mem h
  unfold rep
  rw [e1]
  exact ⟨by omega, by omega, by rw [nth_nat hq, e2]⟩
theorem minim_full (V : VA a n) (hn : n ≤ 1000000) : ∃ r, m_s_l12Minimize a = some r ∧ m_i_Automaton_minimize a = some r ∧ Data.sm r ∧ VA r r.2.1.length ∧ r.2.1.length ≤ n := by
  have hlen := V.len
  have hst := V.start
  have hll : (live a).length = n := by rw [live_length, hlen]
  obtain ⟨c, es, ei, hcl, hfix, j, hj⟩ := classes_eq V hn
  have hneg : ∀ s : Int, 0 ≤ s → s < n → (nth c s < 0 ↔ nth (live a) s = false) := fun s h0 h1 => by
    have := (cI_neg a (s := s.toNat) (by omega) j).1
    rw [← hj, show ((s.toNat : Nat) : Int) = s from by omega] at this
    exact this
  have hlt : ∀ s : Int, 0 ≤ s → s < n → nth c s < n := fun s h0 h1 => by
    have := refn_lt (c := c) (a := a) (s := s.toNat) (by omega)
    rw [hfix, hlen, show ((s.toNat : Nat) : Int) = s from by omega] at this
    exact this
  have hpos : ∀ r, good n (live a) r → 0 ≤ nth c r := fun r hr => by
    have := hneg r hr.1 hr.2.1
    by_cases k : nth c r < 0
    · have := this.1 k; rw [hr.2.2] at this; cases this
    · omega
  -- states of one class are alike
  have hkey : ∀ r t : Int, 0 ≤ r → r < n → 0 ≤ t → t < n → 0 ≤ nth c r → nth c r = nth c t → keyL a c r = keyL a c t := fun r t r0 r1 t0 t1 h0 h => by
    have := refn_eq (a := a) (c := c) (s := r.toNat) (t := t.toNat) (by omega) (by omega) (by rw [hfix, show ((r.toNat : Nat) : Int) = r from by omega]; exact h0) (by rw [hfix, show ((r.toNat : Nat) : Int) = r from by omega, show ((t.toNat : Nat) : Int) = t from by omega]; exact h)
    rwa [show ((r.toNat : Nat) : Int) = r from by omega, show ((t.toNat : Nat) : Int) = t from by omega] at this
  have hacc : ∀ r t : Int, 0 ≤ r → r < n → 0 ≤ t → t < n → 0 ≤ nth c r → nth c r = nth c t → nth a.2.1 r = nth a.2.1 t := fun r t r0 r1 t0 t1 h0 h => by
    have := cI_acc a (s := r.toNat) (t := t.toNat) (by omega) (by omega) j (by rw [← hj, show ((r.toNat : Nat) : Int) = r from by omega]; exact h0) (by rw [← hj, show ((r.toNat : Nat) : Int) = r from by omega, show ((t.toNat : Nat) : Int) = t from by omega]; exact h)
    rwa [show ((r.toNat : Nat) : Int) = r from by omega, show ((t.toNat : Nat) : Int) = t from by omega] at this
  have hsuccs : ∀ r, good n (live a) r → succs a c (live a) r = (List.range 9).map fun k => if 0 ≤ ent a c r k then some (ent a c r k) else none := fun r hr => by
    refine List.map_congr_left fun k hk => ?_
    have hk : k < 9 := List.mem_range.1 hk
    have hm := V.mv hr.1 hr.2.1 hk
    unfold ent
    by_cases h : mv a r k < 0
    · rw [if_pos h, if_neg (fun h' => by omega), if_neg (by omega)]
    · rw [if_neg h]
      have := hneg (mv a r k) (by omega) hm.2
      cases hl : nth (live a) (mv a r k) with
      | false =>
        have := this.2 hl
        rw [if_neg (fun h' => by cases h'.2), if_neg (by omega)]
      | true =>
        have : ¬ nth c (mv a r k) < 0 := fun h' => by have := this.1 h'; rw [hl] at this; cases this
        rw [if_pos ⟨by omega, rfl⟩, if_pos (by omega)]
  have hent : ∀ r t : Int, keyL a c r = keyL a c t → ∀ k, k < 9 → ent a c r k = ent a c t k := fun r t h k hk => by
    have h : (List.range 9).map (fun k => ent a c r k) = (List.range 9).map (fun k => ent a c t k) := by unfold keyL at h; injection h
    have := congrArg (fun l : List Int => l[k]?) h
    simpa [hk] using this
  -- the keys that are numbered
  let nx : Int → List (Option Int) := fun x => succs a c (live a) (rep c x)
  let acc : Int → Bool := fun x => nth a.2.1 (rep c x)
  let G : Int → Prop := fun x => ∃ r, good n (live a) r ∧ nth c r = x
  have Gm : ∀ x, G x → x ∈ c ∧ 0 ≤ x ∧ good n (live a) (rep c x) := by
    rintro x ⟨r, hr, rfl⟩
    have hm : nth c r ∈ c := nth_mem hr.1 (by rw [hcl]; exact hr.2.1)
    obtain ⟨h0, h1, h2⟩ := rep_ok hm
    have hp := hpos r hr
    refine ⟨hm, hp, h0, by omega, ?_⟩
    have := hneg (rep c (nth c r)) h0 (by omega)
    rw [h2] at this
    cases hl : nth (live a) (rep c (nth c r)) with
    | true => rfl
    | false => have := this.2 hl; omega
  have hnx : ∀ r, good n (live a) r → nx (nth c r) = succs a c (live a) r := fun r hr => by
    obtain ⟨hm, hp, hg⟩ := Gm _ ⟨r, hr, rfl⟩
    obtain ⟨h0, h1, h2⟩ := rep_ok hm
    show succs a c (live a) (rep c (nth c r)) = _
    rw [hsuccs _ hg, hsuccs _ hr]
    refine List.map_congr_left fun k hk => ?_
    rw [hent _ _ (hkey _ _ hg.1 hg.2.1 hr.1 hr.2.1 (by rw [h2]; exact hp) h2) k (List.mem_range.1 hk)]
  have hac : ∀ r, good n (live a) r → acc (nth c r) = nth a.2.1 r := fun r hr => by
    obtain ⟨hm, hp, hg⟩ := Gm _ ⟨r, hr, rfl⟩
    obtain ⟨h0, h1, h2⟩ := rep_ok hm
    exact hacc _ _ hg.1 hg.2.1 hr.1 hr.2.1 (by rw [h2]; exact hp) h2
  have hgn : ∀ r, good n (live a) r → ∀ y, some y ∈ succs a c (live a) r → G y := fun r hr y h => by
    obtain ⟨k, hk, e⟩ := List.mem_map.1 h
    have hk : k < 9 := List.mem_range.1 hk
    split at e
    · rename_i hc
      exact ⟨mv a r k, ⟨hc.1, (V.mv hr.1 hr.2.1 hk).2, hc.2⟩, Option.some.inj e⟩
    · cases e
  unfold m_s_l12Minimize m_i_Automaton_minimize
  simp only [peta]
  rw [es, ei, s_live V hn]; simp only [Option.bind_some]
  rw [getI_nth hst.1 (by omega)]; simp only [Option.bind_some]
  cases hs : nth (live a) a.1 with
  | false =>
    have := (hneg a.1 hst.1 hst.2).2 hs
    rw [s_numb_dead V hll hs, if_pos (by simpa using this), i_nothing]
    exact ⟨nothing, rfl, rfl, nothing_sm, nothing_VA, V.pos⟩
  | true =>
    have hst' : good n (live a) a.1 := ⟨hst.1, hst.2, hs⟩
    have hp := hpos _ hst'
    have H : NumOk nx (nth c a.1) G n := ⟨⟨a.1, hst', rfl⟩, fun x hx y hy => hgn _ (Gm x hx).2.2 y hy, fun x hx => by simp [nx, succs], fun l hd h => bound_ints n l hd fun x hx => by
      obtain ⟨r, hr, rfl⟩ := h x hx
      exact ⟨hpos r hr, hlt r hr.1 hr.2.1⟩⟩
    obtain ⟨N, hN, e1⟩ := s_numb (acc := acc) V hn hcl hll hs H hn hnx hac
    have hfirst : ∀ x, G x → m_i_Automaton_minimize_1 x c = some (rep c x) := fun x hx => i_index (by omega) (Gm x hx).1
    obtain ⟨N', hN', e2⟩ := i_numb (most := (c.length : Int)) (p2 := fun a0 => m_i_Automaton_minimize_2 a0 (a.1, a.2.1, a.2.2) (fun a0 => m_i_Automaton_minimize_1 a0 c)) (p3 := fun a0 a1 => m_i_Automaton_minimize_3 a0 a1 (a.1, a.2.1, a.2.2) (fun a0 => m_i_Automaton_minimize_1 a0 c) c) (acc := acc) H hn (by omega) (fun x hx => iOk_in hn (Gm x hx).2.1 (by
        obtain ⟨r, hr, rfl⟩ := hx
        exact hlt r hr.1 hr.2.1)) (fun x hx => by
      show m_i_Automaton_minimize_2 x (a.1, a.2.1, a.2.2) (fun a0 => m_i_Automaton_minimize_1 a0 c) = _
      unfold m_i_Automaton_minimize_2
      simp only
      rw [hfirst x hx]; simp only [Option.bind_some]
      rw [V.acc (Gm x hx).2.2.1 (Gm x hx).2.2.2.1]; rfl) (fun x k hx hk => by
      obtain ⟨hm, hx0, hg⟩ := Gm x hx
      have hm' := V.mv hg.1 hg.2.1 hk
      refine ⟨0, ?_⟩
      show m_i_Automaton_minimize_3 x k (a.1, a.2.1, a.2.2) (fun a0 => m_i_Automaton_minimize_1 a0 c) c = _
      unfold m_i_Automaton_minimize_3
      simp only
      rw [hfirst x hx]; simp only [Option.bind_some]
      rw [show m_i_Automaton_move (a.1, a.2.1, a.2.2) (rep c x) k = some (mv a (rep c x) k) from i_move V hg.1 hg.2.1 hk]; simp only [Option.bind_some]
      show _ = some (match nth (succs a c (live a) (rep c x)) (k : Int) with | some y => (y, true) | none => (0, false))
      rw [succs_at hk]
      by_cases h : mv a (rep c x) k < 0
      · rw [if_pos (by simpa using h), if_neg (fun h' => by omega)]
      · rw [if_neg (by simpa using h), getI_nth (by omega) (by omega)]; simp only [Option.bind_some]
        have hng := hneg (mv a (rep c x) k) (by omega) hm'.2
        cases hl : nth (live a) (mv a (rep c x) k) with
        | false =>
          have := hng.2 hl
          rw [if_pos (by simpa using this), if_neg (fun h' => by cases h'.2)]
        | true =>
          have : ¬ nth c (mv a (rep c x) k) < 0 := fun h' => by have := hng.1 h'; rw [hl] at this; cases this
          rw [if_neg (by simpa using this), if_pos ⟨by omega, rfl⟩])
    obtain rfl := bfE_uniq hN hN'
    have v := num_VA (acc := acc) H hN
    refine ⟨_, by rw [e1]; rfl, ?_, num_sm H hn hN, v.self, ?_⟩
    rotate_left
    · rw [v.len, hN.1]; exact H.bound _ (bfS_nodup N) (bfS_good H.g0 H.gn N)
    rw [if_neg (by simp; omega)]
    exact (congrArg (fun x => Option.bind x _) e2).trans rfl
end
end Go.Proofs.YtcmpdlhbliolaaaGreat.D
/- What an automaton accepts, by the program. -/
set_option linter.unusedVariables false
namespace Go.Proofs.YtcmpdlhbliolaaaGreat.D
open Go.RowKit
theorem i_accepts {a : AutT} {n : Nat} (V : VA a n) {s : Int} (h0 : 0 ≤ s) (h1 : s < n) : m_i_Automaton_accepts a s = some (nth a.2.1 s) := by
  unfold m_i_Automaton_accepts
  rw [if_pos (by simpa using h0), V.acc h0 h1]; rfl
theorem i_accepts_neg {a : AutT} {s : Int} (h0 : s < 0) : m_i_Automaton_accepts a s = some false := by
  unfold m_i_Automaton_accepts; rw [if_neg (by simp; omega)]
end Go.Proofs.YtcmpdlhbliolaaaGreat.D
/- Intersection, union, difference and complement: pairs of states, by the reference and by the program. -/
set_option linter.unusedVariables false
set_option linter.unusedSimpArgs false
set_option linter.unnecessarySimpa false
set_option linter.unusedSectionVars false
namespace Go.Proofs.YtcmpdlhbliolaaaGreat.D
open Go.RowKit

/-! ### What is numbered is an automaton -/

/-! ### States, and none -/
section
variable {a b : AutT} {n m : Nat}
def mvn (a : AutT) (s : Int) (k : Nat) : Int := if s < 0 then -1 else mv a s k
def acn (a : AutT) (s : Int) : Bool := if s < 0 then false else nth a.2.1 s
theorem mvn_in (V : VA a n) {s : Int} {k : Nat} (h0 : -1 ≤ s) (h1 : s < n) (hk : k < 9) : -1 ≤ mvn a s k ∧ mvn a s k < n := by
  unfold mvn
  split
  · have := V.pos; omega
  · exact V.mv (by omega) h1 hk
theorem i_mvn (V : VA a n) {s : Int} {k : Nat} (h0 : -1 ≤ s) (h1 : s < n) (hk : k < 9) : m_i_Automaton_move a s (k : Int) = some (mvn a s k) := by
  unfold mvn
  split
  · exact i_move_neg ‹_›
  · exact i_move V (by omega) h1 hk
theorem s_mvn (V : VA a n) {s : Int} {k : Nat} (h0 : -1 ≤ s) (h1 : s < n) (hk : k < 9) : m_s_l12Next a s (k : Int) = some (mvn a s k) := by
  unfold mvn m_s_l12Next
  by_cases c : s < 0
  · rw [if_pos (by simpa using c), if_pos c]
  · rw [if_neg (by simpa using c), if_neg c, V.get (by omega) h1]; simp only [Option.bind_some]
    rw [V.get2 (by omega) h1 hk]; rfl
theorem i_acn (V : VA a n) {s : Int} (h0 : -1 ≤ s) (h1 : s < n) : m_i_Automaton_accepts a s = some (acn a s) := by
  unfold acn
  split
  · exact i_accepts_neg ‹_›
  · exact i_accepts V (by omega) h1
theorem s_acn (V : VA a n) {s : Int} (h0 : -1 ≤ s) (h1 : s < n) : m_s_l12Accept a s = some (acn a s) := by
  unfold acn m_s_l12Accept
  by_cases c : s < 0
  · rw [if_neg (by simp; omega), if_pos c]
  · rw [if_pos (by simp; omega), if_neg c, V.acc (by omega) h1]; rfl
def nxP (a b : AutT) (x : Int × Int) : List (Option (Int × Int)) := (List.range 9).map fun k => some (mvn a x.1 k, mvn b x.2 k)
def inP (n m : Nat) (x : Int × Int) : Prop := (-1 ≤ x.1 ∧ x.1 < n) ∧ -1 ≤ x.2 ∧ x.2 < m
theorem nxP_at {x : Int × Int} {k : Nat} (hk : k < 9) : nth (nxP a b x) (k : Int) = some (mvn a x.1 k, mvn b x.2 k) := by
  have : k < (nxP a b x).length := by simp [nxP]; omega
  rw [nth_nat this]; simp [nxP]
theorem bound_pairs (n m : Nat) (l : List (Int × Int)) (hd : l.Nodup) (h : ∀ x ∈ l, inP n m x) : l.length ≤ (n + 1) * (m + 1) := by
  have := hd.length_le_of_subset (l₂ := (List.range (n + 1)).flatMap fun i : Nat => (List.range (m + 1)).map fun j : Nat => ((i : Int) - 1, (j : Int) - 1)) (fun x hx => by
    obtain ⟨⟨h0, h1⟩, h2, h3⟩ := h x hx
    refine List.mem_flatMap.2 ⟨(x.1 + 1).toNat, List.mem_range.2 (by omega), List.mem_map.2 ⟨(x.2 + 1).toNat, List.mem_range.2 (by omega), ?_⟩⟩
    exact Prod.ext (by show (((x.1 + 1).toNat : Nat) : Int) - 1 = x.1; omega) (by show (((x.2 + 1).toNat : Nat) : Int) - 1 = x.2; omega))
  have e : ((List.range (n + 1)).flatMap fun i : Nat => (List.range (m + 1)).map fun j : Nat => ((i : Int) - 1, (j : Int) - 1)).length = (n + 1) * (m + 1) := by
    rw [List.length_flatMap]
    simp only [List.length_map, List.length_range]
    rw [List.map_const', List.sum_replicate_nat, List.length_range]
  omega
theorem pairs_num (Va : VA a n) (Vb : VA b m) (hn : n ≤ 12) (hm : m ≤ 12) : NumOk (nxP a b) (a.1, b.1) (inP n m) 169 where
  g0 := ⟨⟨by have := Va.start.1; show -1 ≤ a.1; omega, Va.start.2⟩, by have := Vb.start.1; show -1 ≤ b.1; omega, Vb.start.2⟩
  gn x hx y hy := by
    obtain ⟨k, hk, e⟩ := List.mem_map.1 hy
    have hk : k < 9 := List.mem_range.1 hk
    obtain rfl := Option.some.inj e
    exact ⟨mvn_in Va hx.1.1 hx.1.2 hk, mvn_in Vb hx.2.1 hx.2.2 hk⟩
  len x _ := by simp [nxP]
  bound l hd h := by
    have h1 := bound_pairs n m l hd h
    have : (n + 1) * (m + 1) ≤ 13 * 13 := Nat.mul_le_mul (by omega) (by omega)
    omega
/-! ### The reference -/
end
end Go.Proofs.YtcmpdlhbliolaaaGreat.D
/- Words that tell two automata apart: the program's search and the reference's. -/
set_option linter.unusedVariables false
set_option linter.unusedSimpArgs false
set_option linter.unnecessarySimpa false
set_option linter.unusedSectionVars false
namespace Go.Proofs.YtcmpdlhbliolaaaGreat.D
open Go.RowKit

/-! ### The program -/
theorem cpw {l : List Int} (h : l.length ≤ 1000000) : m_i_copyInts l = some l := by
  unfold m_i_copyInts
  rw [appI_ok (by simp; omega)]; rfl
section
variable {κ : Type} [DecidableEq κ]
def SeenOf (M : List (κ × Bool)) (l : List (κ)) : Prop := M.length = l.length ∧ ∀ x, M.lookup x = if x ∈ l then some true else none
theorem SeenOf.one (x : κ) : SeenOf [(x, true)] [x] := by
  refine ⟨rfl, fun y => ?_⟩
  rw [List.lookup_cons]
  by_cases e : y = x
  · subst e; simp
  · simp only [show (y == x) = false from by simp [e]]; simp [e]
theorem SeenOf.put {M : List (κ × Bool)} {l : List (κ)} (h : SeenOf M l) {x : κ} (hx : x ∉ l) : SeenOf ((x, true) :: M) (l ++ [x]) := by
  refine ⟨by simp [h.1], fun y => ?_⟩
  rw [List.lookup_cons]
  by_cases e : y = x
  · subst e; simp
  · simp only [show (y == x) = false from by simp [e], h.2 y, List.mem_append, List.mem_singleton, e, or_false]
end
section
variable {nx : Int × Int → List (Option (Int × Int))} {first : Int × Int} {G : Int × Int → Prop} {B : Nat} {p1 : Int × Int → Int → Option (Int × Int)} {p2 : Int × Int → Option Bool} {tt : Int × Int → Bool}
theorem i_least_in {l : List (Int × Int)} {Q : List ((Int × Int) × List Int)} {M : List ((Int × Int) × Bool)} {os : List (Option (Int × Int))} {i : Nat} {x4 : (Int × Int) × List Int}
    (hi : i ≤ l.length) (hos : os.length = 9) (hM : SeenOf M l) (hQ : Q.map (·.1) = l.drop i) (hw : ∀ q ∈ Q, q.2.length ≤ i) (hx : x4.2.length ≤ i) (hok : ∀ y, some y ∈ os → iiOk y = true) (hB : ∀ k, (nbS l (os.take k)).length ≤ 1000)
    (hp : ∀ (k : Nat), k < 9 → ∃ y, p1 x4.1 (k : Int) = some y ∧ nth os (k : Int) = some y) :
    ∃ Q' M', loopM (m_i_leastWord_states_l1 p1 x4) FUEL (Q, 0, M) = some (.brk (Q', 9, M')) ∧ SeenOf M' (nbS l os) ∧ Q'.map (·.1) = (nbS l os).drop i ∧ ∀ q ∈ Q', q.2.length ≤ i + 1 := by
  obtain ⟨s', e, Q', M', rfl, hM', hQ', hw'⟩ := loopM_for (f := m_i_leastWord_states_l1 p1 x4) (fun k s => ∃ Q' M', s = (Q', (k : Int), M') ∧ SeenOf M' (nbS l (os.take k)) ∧ Q'.map (·.1) = (nbS l (os.take k)).drop i ∧ ∀ q ∈ Q', q.2.length ≤ i + 1) 9 (by
    rintro k s hk ⟨Q1, M1, rfl, hM1, hQ1, hw1⟩
    have hpre := nbS_prefix l (os.take k)
    have hlen := hpre.length_le
    have hBk := hB k
    have hB0 := hB 0
    obtain ⟨y, hy, ho⟩ := hp k hk
    have hoky : iiOk y = true := hok y (ho ▸ nth_mem (by omega) (by omega))
    have hQl : Q1.length ≤ 1000 := by
      have := congrArg List.length hQ1
      simp at this; omega
    unfold m_i_leastWord_states_l1
    simp only [peta]
    rw [if_pos (by simp; omega), hy, take_one (by omega), nbS_snoc]; simp only [Option.bind_some]
    rw [show chk (iiOk y = true) = some () from by unfold chk; rw [if_pos hoky]]; simp only [Option.bind_some, wrap_succ (show k < 9223372036854775807 by omega)]
    rw [show lkM M1 y = _ from hM1.2 y, ho]
    by_cases c : y ∈ nbS l (os.take k)
    · simp only [c, if_true, Option.getD_some, Option.bind_some]
      refine ⟨_, rfl, Q1, M1, rfl, ?_, ?_, hw1⟩
      · rw [nbL_old c]; exact hM1
      · rw [nbL_old c]; exact hQ1
    · have hput : putM M1 iiOk bOk y true = some ((y, true) :: M1) := by
        unfold putM
        rw [if_pos ⟨by have := hM1.1; omega, hoky, rfl⟩]
      have hl9 : l.length ≤ 1000 := by omega
      simp only [c, if_false, Option.getD_none, Bool.false_eq_true, hput, Option.bind_some]
      rw [cpw (by omega)]; simp only [Option.bind_some]
      rw [appI_ok (by simp; omega)]; simp only [Option.bind_some]
      rw [appI_ok (by simp; omega)]; simp only [Option.bind_some]
      refine ⟨_, rfl, _, _, rfl, ?_, ?_, ?_⟩
      · rw [nbL_new c]; exact hM1.put c
      · rw [nbL_new c, List.map_append, hQ1, List.drop_append_of_le_length (by omega)]; rfl
      · intro q hq
        rcases List.mem_append.1 hq with h | h
        · exact hw1 q h
        · obtain rfl := List.mem_singleton.1 h
          simp; omega) (by
    rintro s ⟨Q1, M1, rfl, -⟩
    unfold m_i_leastWord_states_l1
    simp) (s := (Q, 0, M)) ⟨Q, M, rfl, hM, hQ, fun q hq => by have := hw q hq; omega⟩ (by unfold FUEL; omega)
  rw [List.take_of_length_le (by omega)] at hM' hQ'
  exact ⟨Q', M', e, hM', hQ', hw'⟩
theorem i_least (H : NumOk nx first G B) (hB : B ≤ 1000) (hok : ∀ x, G x → iiOk x = true) (h2 : ∀ x, G x → p2 x = some (tt x)) (h1 : ∀ x (k : Nat), G x → k < 9 → ∃ y, p1 x (k : Int) = some y ∧ nth (nx x) (k : Int) = some y) :
    ∃ N w, bfE nx first N ∧ m_i_leastWord_states first p1 p2 = some (w, (bfS nx first N).any tt) := by
  obtain ⟨N, hNB, hN⟩ := bfE_ex (nx := nx) (first := first) (H.le)
  refine ⟨N, ?_⟩
  unfold m_i_leastWord_states
  simp only [peta]
  rw [show putM ([] : List ((Int × Int) × Bool)) iiOk bOk first true = some [(first, true)] from by unfold putM; rw [if_pos ⟨by simp, hok _ H.g0, rfl⟩]]; simp only [Option.bind_some]
  obtain ⟨o, e, ho⟩ := loopM_go (f := m_i_leastWord_states_l0 p1 p2) (fun i s => ∃ Q M, s = (Q, M) ∧ SeenOf M (bfS nx first i) ∧ Q.map (·.1) = (bfS nx first i).drop i ∧ (∀ q ∈ Q, q.2.length ≤ i) ∧ ((bfS nx first i).take i).any tt = false)
    (fun o => (∃ w, o = .ret (w, true) ∧ (bfS nx first N).any tt = true) ∨ ∃ s, o = .brk s ∧ (bfS nx first N).any tt = false) N (s := ([(first, ([] : List Int))], [(first, true)])) (by
    rintro i s hi ⟨Q, M, rfl, hM, hQ, hw, ha⟩
    unfold m_i_leastWord_states_l0
    simp only [peta]
    have hl := congrArg List.length hQ
    simp only [List.length_map, List.length_drop] at hl
    by_cases hiN : i < N
    · have hlt := hN.2 i hiN
      have hle := H.le i
      have hG := H.at hlt
      cases Q with
      | nil => simp at hl; omega
      | cons q Q =>
        have hq1 : q.1 = nth (bfS nx first i) (i : Int) := by
          have : (q.1 :: Q.map (·.1)) = (bfS nx first i).drop i := hQ
          rw [List.drop_eq_getElem_cons hlt] at this
          rw [nth_nat hlt]; exact (List.cons.inj this).1
        rw [if_pos (by simp <;> omega), show getI (q :: Q) 0 = some q from rfl]; simp only [Option.bind_some]
        rw [h2 _ (hq1 ▸ hG)]; simp only [Option.bind_some]
        cases ht : tt q.1 with
        | true =>
          refine .inr ⟨_, by rw [if_pos rfl, cpw (by have := hw q (by simp); omega)]; rfl, (fun s' e => by cases e), .inl ⟨_, rfl, ?_⟩⟩
          refine List.any_eq_true.2 ⟨q.1, ?_, ht⟩
          exact (bfS_prefix (nx := nx) (first := first) (by omega : i ≤ N)).subset (hq1 ▸ nth_mem (by omega) (by omega))
        | false =>
          left
          refine ⟨hiN, ?_⟩
          obtain ⟨Q', M', e, hM', hQ', hw'⟩ := i_least_in (p1 := p1) (l := bfS nx first i) (Q := q :: Q) (M := M) (os := nx (nth (bfS nx first i) (i : Int))) (i := i) (x4 := q) (by omega) (H.len _ hG) hM hQ hw (hw q (by simp)) (fun y hy => hok y (H.gn _ hG y hy)) (fun k => by
            have : (nbS (bfS nx first i) ((nx (nth (bfS nx first i) (i : Int))).take k)).length ≤ B := H.bound _ (nbS_nodup (bfS_nodup i)) fun x hx => by
              rcases mem_nbS.1 hx with hx | hx
              · exact bfS_good H.g0 H.gn i x hx
              · exact H.gn _ hG x (List.mem_of_mem_take hx)
            omega) (fun k hk => by rw [hq1]; exact h1 _ k hG hk)
          rw [← bfS_succ' hlt] at hM' hQ'
          have hp := bfS_step_prefix (nx := nx) (first := first) i
          have hpl := hp.length_le
          have hl' := congrArg List.length hQ'
          simp only [List.length_map, List.length_drop] at hl'
          simp only [Bool.false_eq_true, if_false]
          rw [bindL_brk e]
          simp only
          rw [show chk ((0 : Int) ≤ 1 ∧ (1 : Int) ≤ (Q'.length : Int)) = some () from by unfold chk; rw [if_pos ⟨by omega, by omega⟩]]
          refine ⟨_, rfl, _, _, rfl, hM', ?_, ?_, ?_⟩
          · rw [List.map_drop, hQ', List.drop_drop]
          · exact fun z hz => hw' z (List.mem_of_mem_drop hz)
          · have e := acc_succ (nx := nx) (first := first) (acc := tt) hlt
            have f : ∀ l : List (Int × Int), l.any tt = (l.map tt).any id := fun l => by simp [List.any_map]
            rw [f, e, List.any_append, ← f, ha, ← hq1]; simp [ht]
    · obtain rfl : i = N := by omega
      cases Q with
      | nil =>
        refine .inr ⟨_, by rw [if_neg (by simp)], (fun s' e => by cases e), .inr ⟨_, rfl, ?_⟩⟩
        rw [List.take_of_length_le (by have := hN.1; omega)] at ha; exact ha
      | cons q Q => have := hN.1; simp at hl; omega) ⟨_, _, rfl, SeenOf.one first, rfl, by simp, rfl⟩ (up63 (by omega))
  rcases ho with ⟨w, rfl, h⟩ | ⟨s, rfl, h⟩
  · exact ⟨w, hN, by rw [bindL_ret e, h]⟩
  · exact ⟨[], hN, by rw [bindL_brk e, h]⟩
end
end Go.Proofs.YtcmpdlhbliolaaaGreat.D
/- Words that tell two automata apart: the reference, and both. -/
set_option linter.unusedVariables false
set_option linter.unusedSimpArgs false
set_option linter.unnecessarySimpa false
set_option linter.unusedSectionVars false
namespace Go.Proofs.YtcmpdlhbliolaaaGreat.D
open Go.RowKit

abbrev EntT := Int × Int × Bool × Int × Int
def pr (z : EntT) : Int × Int := (z.1, z.2.1)
structure Ent (l : List EntT) (L : List (Int × Int)) : Prop where
  map : l.map pr = L
  flat : ∀ z ∈ l, z.2.2.1 = false
  back : ∀ j : Nat, 0 < j → j < l.length → 0 ≤ (nth l (j : Int)).2.2.2.1 ∧ (nth l (j : Int)).2.2.2.1 < j
theorem Ent.len {l : List EntT} {L : List (Int × Int)} (h : Ent l L) : l.length = L.length := by rw [← h.map]; simp
theorem Ent.at {l : List EntT} {L : List (Int × Int)} (h : Ent l L) {i : Nat} (hi : i < l.length) : (nth l (i : Int)).1 = (nth L (i : Int)).1 ∧ (nth l (i : Int)).2.1 = (nth L (i : Int)).2 := by
  rw [← h.map, nth_map (by omega) (by omega)]; exact ⟨rfl, rfl⟩
theorem Ent.snoc {l : List EntT} {L : List (Int × Int)} (h : Ent l L) {x y : Int} {i : Nat} (hi : i < l.length) (k : Int) : Ent (l ++ [(x, y, false, (i : Int), k)]) (L ++ [(x, y)]) where
  map := by rw [List.map_append, h.map]; rfl
  flat z hz := by
    rcases List.mem_append.1 hz with hz | hz
    · exact h.flat z hz
    · obtain rfl := List.mem_singleton.1 hz; rfl
  back j h0 hj := by
    by_cases c : j < l.length
    · rw [nth_append_left (by omega) (by omega)]; exact h.back j h0 c
    · have : j = l.length := by simp at hj; omega
      subst this
      have : nth (l ++ [(x, y, false, (i : Int), k)]) (l.length : Int) = (x, y, false, (i : Int), k) := by rw [nth_nat (by simp)]; simp
      rw [this]; exact ⟨by show (0 : Int) ≤ (i : Int); omega, by show (i : Int) < (l.length : Int); omega⟩
theorem s_entHas {l : List EntT} {L : List (Int × Int)} (h : Ent l L) (hl : l.length ≤ 1000000) (x y f k : Int) : m_s_l10Has l (x, y, false, f, k) = some (decide ((x, y) ∈ L)) := by
  unfold m_s_l10Has
  have := scan (f := m_s_l10Has_l0 l (x, y, false, f, k)) l (fun z => ¬ pr z = (x, y)) true (by omega) (by
    intro i hi
    have hf := h.flat _ (nth_mem (i := (i : Int)) (by omega) (by omega))
    unfold m_s_l10Has_l0
    rw [if_pos (by simp; omega), getI_nth (by omega) (by omega)]; simp only [Option.bind_some, wrap_succ (show i < 9223372036854775807 by omega), hf]
    by_cases c1 : (nth l (i : Int)).1 = x
    · by_cases c2 : (nth l (i : Int)).2.1 = y
      · rw [if_pos (by simpa using c1), if_pos (by simpa using c2), if_pos (by rfl), if_neg (fun hc => hc (Prod.ext c1 c2))]
      · rw [if_pos (by simpa using c1), if_neg (by simpa using c2), if_pos (fun e => c2 (congrArg Prod.snd e))]
    · rw [if_neg (by simpa using c1), if_pos (fun e => c1 (congrArg Prod.fst e))]) (by
    unfold m_s_l10Has_l0
    rw [if_neg (by simp)])
  rcases this with ⟨e, hp⟩ | ⟨e, hp⟩
  · rw [bindL_brk e, decide_eq_false]
    rintro hm
    rw [← h.map] at hm
    obtain ⟨z, hz, e⟩ := List.mem_map.1 hm
    exact hp z hz e
  · rw [bindL_ret e, decide_eq_true]
    by_cases c : (x, y) ∈ L
    · exact c
    · refine absurd (fun z hz e => c ?_) hp
      rw [← h.map, ← e]; exact List.mem_map.2 ⟨z, hz, rfl⟩
theorem s_entWord {l : List EntT} {L : List (Int × Int)} (h : Ent l L) (hl : l.length ≤ 1000000) {i : Nat} (hi : i < l.length) : ∃ w, m_s_l10Word l (i : Int) = some w := by
  unfold m_s_l10Word
  obtain ⟨o, e, s, rfl⟩ := loopM_go (f := m_s_l10Word_l0 l) (fun n s => 0 ≤ s.1 ∧ s.1 + n ≤ i ∧ s.2.length ≤ n) (fun o => ∃ s, o = .brk s) i (s := ((i : Int), [])) (by
    rintro n ⟨j, w⟩ hn ⟨h0, h1, h2⟩
    simp only at h0 h1 h2
    unfold m_s_l10Word_l0
    simp only
    by_cases c : j > 0
    · have hb := h.back j.toNat (by omega) (by omega)
      rw [Int.toNat_of_nonneg h0] at hb
      left
      refine ⟨by omega, ?_⟩
      rw [if_pos (by simpa using c), getI_nth (by omega) (by omega)]; simp only [Option.bind_some]
      rw [appI_ok (by simp; omega)]; simp only [Option.bind_some]
      refine ⟨_, rfl, hb.1, ?_, ?_⟩
      · show (nth l j).2.2.2.1 + ((n + 1 : Nat) : Int) ≤ i; omega
      · simp; omega
    · exact .inr ⟨_, by rw [if_neg (by simpa using c)], (fun s' e => by cases e), _, rfl⟩) ⟨by show (0 : Int) ≤ (i : Int); omega, by show (i : Int) + ((0 : Nat) : Int) ≤ (i : Int); omega, by simp⟩ (up63 (by omega))
  exact ⟨_, bindL_brk e⟩
section
variable {a b : AutT} {n m : Nat}
def lackP (a b : AutT) (x : Int × Int) : Bool := acn b x.2 && !acn a x.1
theorem s_differ_in (Va : VA a n) (Vb : VA b m) (hn : n ≤ 12) (hm : m ≤ 12) {l : List EntT} {L : List (Int × Int)} {i : Nat} (hE : Ent l L) (hd : L.Nodup) (hG : ∀ x ∈ L, inP n m x) (hi : i < L.length) :
    ∃ l', loopM (m_s_l12Differ_l1 a b (l, (i : Int))) FUEL (l, 0) = some (.brk (l', 9)) ∧ Ent l' (nbS L (nxP a b (nth L (i : Int)))) := by
  have hx := hG _ (nth_mem (i := (i : Int)) (by omega) (by omega))
  have hos : (nxP a b (nth L (i : Int))).length = 9 := by simp [nxP]
  have H := pairs_num Va Vb hn hm
  have hB : ∀ k, (nbS L ((nxP a b (nth L (i : Int))).take k)).length ≤ 169 := fun k => H.bound _ (nbS_nodup hd) fun x hx' => by
    rcases mem_nbS.1 hx' with h | h
    · exact hG x h
    · exact H.gn _ hx x (List.mem_of_mem_take h)
  obtain ⟨s', e, l', rfl, hE'⟩ := loopM_for (f := m_s_l12Differ_l1 a b (l, (i : Int))) (fun k s => ∃ l', s = (l', (k : Int)) ∧ Ent l' (nbS L ((nxP a b (nth L (i : Int))).take k))) 9 (by
    rintro k s hk ⟨l1, rfl, hE1⟩
    have hpre := nbS_prefix L ((nxP a b (nth L (i : Int))).take k)
    have hlen := hpre.length_le
    have hBk := hB k
    have hl1 := hE1.len
    obtain ⟨g1, g2⟩ := hE1.at (i := i) (by omega)
    rw [prefix_nth hpre (by omega) (by omega)] at g1 g2
    unfold m_s_l12Differ_l1
    simp only [peta]
    rw [if_pos (by simp; omega), getI_nth (by omega) (by omega)]; simp only [Option.bind_some]
    rw [g1, g2, s_mvn Va hx.1.1 hx.1.2 hk]; simp only [Option.bind_some]
    rw [s_mvn Vb hx.2.1 hx.2.2 hk]; simp only [Option.bind_some]
    rw [s_entHas hE1 (by omega)]; simp only [Option.bind_some, wrap_succ (show k < 9223372036854775807 by omega)]
    rw [take_one (by omega), nbS_snoc, nxP_at hk]
    by_cases c : (mvn a (nth L (i : Int)).1 k, mvn b (nth L (i : Int)).2 k) ∈ nbS L ((nxP a b (nth L (i : Int))).take k)
    · rw [if_pos (by simpa using c), nbL_old c]
      exact ⟨_, rfl, l1, rfl, hE1⟩
    · rw [if_neg (by simpa using c), nbL_new c, appI_ok (by simp; omega)]
      exact ⟨_, rfl, _, rfl, hE1.snoc (by omega) _⟩) (by
    rintro s ⟨l1, rfl, -⟩
    unfold m_s_l12Differ_l1
    simp) (s := (l, 0)) ⟨l, rfl, hE⟩ (by unfold FUEL; omega)
  rw [List.take_of_length_le (by omega)] at hE'
  exact ⟨l', e, hE'⟩
theorem pairs_from (Va : VA a n) (Vb : VA b m) (hn : n ≤ 12) (hm : m ≤ 12) {x : Int × Int} (hx : inP n m x) : NumOk (nxP a b) x (inP n m) 169 where
  g0 := hx
  gn := (pairs_num Va Vb hn hm).gn
  len := (pairs_num Va Vb hn hm).len
  bound := (pairs_num Va Vb hn hm).bound
theorem s_differ (Va : VA a n) (Vb : VA b m) (hn : n ≤ 12) (hm : m ≤ 12) {s0 t0 : Int} (h0 : inP n m (s0, t0)) : ∃ N w, bfE (nxP a b) (s0, t0) N ∧ m_s_l12Differ a s0 b t0 true = some (w, (bfS (nxP a b) (s0, t0) N).any (lackP a b)) := by
  have H := pairs_from Va Vb hn hm h0
  obtain ⟨N, hNB, hN⟩ := bfE_ex (nx := nxP a b) (first := (s0, t0)) (H.le)
  refine ⟨N, ?_⟩
  unfold m_s_l12Differ
  obtain ⟨o, e, ho⟩ := loopM_go (f := m_s_l12Differ_l0 a b true) (fun i s => ∃ l, s = (l, (i : Int)) ∧ Ent l (bfS (nxP a b) (s0, t0) i) ∧ ((bfS (nxP a b) (s0, t0) i).take i).any (lackP a b) = false)
    (fun o => (∃ w, o = .ret (w, true) ∧ (bfS (nxP a b) (s0, t0) N).any (lackP a b) = true) ∨ ∃ s, o = .brk s ∧ (bfS (nxP a b) (s0, t0) N).any (lackP a b) = false) N (s := ([(s0, t0, false, 0, 0)], 0)) (by
    rintro i s hi ⟨l, rfl, hE, ha⟩
    have hl := hE.len
    have hle := H.le i
    unfold m_s_l12Differ_l0
    simp only [peta]
    by_cases hiN : i < N
    · have hlt := hN.2 i hiN
      have hG := H.at hlt
      obtain ⟨g1, g2⟩ := hE.at (i := i) (by omega)
      rw [if_pos (by simp; omega), getI_nth (by omega) (by omega)]; simp only [Option.bind_some]
      rw [g1, g2, s_acn Va hG.1.1 hG.1.2]; simp only [Option.bind_some]
      rw [s_acn Vb hG.2.1 hG.2.2]; simp only [Option.bind_some]
      have hb : ∀ r50 r49 : Bool, (if r50 then (if r49 then (if r49 then (if r50 then some false else some (!true)) else some false) else some true) else (if r49 then (if r50 then some false else some (!true)) else some false) : Option Bool) = some (r50 && !r49) := by decide
      rw [hb]; simp only [Option.bind_some]
      have hlp : (acn b (nth (bfS (nxP a b) (s0, t0) i) (i : Int)).2 && !acn a (nth (bfS (nxP a b) (s0, t0) i) (i : Int)).1) = lackP a b (nth (bfS (nxP a b) (s0, t0) i) (i : Int)) := rfl
      rw [hlp]
      cases ht : lackP a b (nth (bfS (nxP a b) (s0, t0) i) (i : Int)) with
      | true =>
        obtain ⟨w, hw⟩ := s_entWord hE (by omega) (i := i) (by omega)
        refine .inr ⟨_, by rw [if_pos rfl, hw]; rfl, (fun s' e => by cases e), .inl ⟨_, rfl, ?_⟩⟩
        refine List.any_eq_true.2 ⟨_, ?_, ht⟩
        exact (bfS_prefix (nx := nxP a b) (first := (s0, t0)) (by omega : i ≤ N)).subset (nth_mem (by omega) (by omega))
      | false =>
        left
        refine ⟨hiN, ?_⟩
        obtain ⟨l', e, hE'⟩ := s_differ_in Va Vb hn hm hE (bfS_nodup i) (bfS_good H.g0 H.gn i) hlt
        rw [if_neg (by simp), bindL_brk e]
        rw [← bfS_succ' hlt] at hE'
        simp only [wrap_succ (show i < 9223372036854775807 by omega)]
        refine ⟨_, rfl, l', rfl, hE', ?_⟩
        have e := acc_succ (nx := nxP a b) (first := (s0, t0)) (acc := lackP a b) hlt
        have f : ∀ l : List (Int × Int), l.any (lackP a b) = (l.map (lackP a b)).any id := fun l => by simp [List.any_map]
        rw [f, e, List.any_append, ← f, ha]; simp [ht]
    · obtain rfl : i = N := by omega
      have hN1 := hN.1
      refine .inr ⟨_, by rw [if_neg (by simp; omega)], (fun s' e => by cases e), .inr ⟨_, rfl, ?_⟩⟩
      rw [List.take_of_length_le (by omega)] at ha; exact ha) ⟨_, rfl, ⟨rfl, by simp, by intro j h0 h1; simp at h1; omega⟩, rfl⟩ (up63 (by omega))
  rcases ho with ⟨w, rfl, h⟩ | ⟨s, rfl, h⟩
  · exact ⟨w, hN, by rw [bindL_ret e, h]⟩
  · exact ⟨[], hN, by rw [bindL_brk e, h]⟩
theorem iiOk_in {x : Int × Int} (hn : n ≤ 12) (hm : m ≤ 12) (h : inP n m x) : iiOk x = true := by
  obtain ⟨⟨h0, h1⟩, h2, h3⟩ := h
  have e1 : IntKind.i64.min = -9223372036854775808 := by decide
  have e2 : IntKind.i64.max = 9223372036854775807 := by decide
  simp only [iiOk, Lit.wf, e1, e2, Bool.and_eq_true, decide_eq_true_eq]
  omega
theorem telling (Va : VA a n) (Vb : VA b m) (hn : n ≤ 12) (hm : m ≤ 12) {s0 t0 : Int} (h0 : inP n m (s0, t0)) {p1 : Int × Int → Int → Option (Int × Int)} {p2 : Int × Int → Option Bool}
    (h1 : ∀ x (k : Nat), inP n m x → k < 9 → p1 x (k : Int) = some (mvn a x.1 k, mvn b x.2 k)) (h2 : ∀ x, inP n m x → p2 x = some (lackP a b x)) :
    ∃ w w' r, m_s_l12Differ a s0 b t0 true = some (w, r) ∧ m_i_leastWord_states (s0, t0) p1 p2 = some (w', r) := by
  have H := pairs_from Va Vb hn hm h0
  obtain ⟨N, w, hN, e⟩ := s_differ Va Vb hn hm h0
  obtain ⟨N', w', hN', e'⟩ := i_least (p1 := p1) (p2 := p2) (tt := lackP a b) H (by omega) (fun x hx => iiOk_in hn hm hx) h2 (fun x k hx hk => ⟨_, h1 x k hx hk, nxP_at hk⟩)
  obtain rfl := bfE_uniq hN hN'
  exact ⟨w, w', _, e, e'⟩
theorem together_at (Va : VA a n) (Vb : VA b m) {x : Int × Int} {k : Nat} (hx : inP n m x) (hk : k < 9) : m_i_together_1 x (k : Int) a b = some (mvn a x.1 k, mvn b x.2 k) := by
  unfold m_i_together_1
  simp only [peta]
  rw [i_mvn Va hx.1.1 hx.1.2 hk]; simp only [Option.bind_some]
  rw [i_mvn Vb hx.2.1 hx.2.2 hk]; rfl
theorem misses_both (V : VA a n) (hn : n ≤ 12) {s0 q : Int} (h0 : inP n n (s0, q)) : ∃ w r, m_s_l12Differ a s0 a q true = some (w, r) ∧ m_i_misses a s0 q = some r := by
  obtain ⟨w, w', r, e, e'⟩ := telling V V hn hn h0 (p1 := fun u0 u1 => m_i_together_1 u0 u1 a a) (p2 := fun u2 => m_i_misses_1 u2 a) (fun x k hx hk => together_at V V hx hk) fun x hx => by
    unfold m_i_misses_1 lackP
    simp only [peta]
    rw [i_acn V hx.2.1 hx.2.2]; simp only [Option.bind_some]
    first
    | (rw [i_acn V hx.1.1 hx.1.2]; simp only [Option.bind_some]; cases acn a x.2 <;> rfl)
    | (cases acn a x.2 <;> simp [i_acn V hx.1.1 hx.1.2])
  refine ⟨w, r, e, ?_⟩
  unfold m_i_misses
  exact (congrArg (fun z => Option.bind z _) e').trans rfl
end
end Go.Proofs.YtcmpdlhbliolaaaGreat.D
/- Lists made thin: neighbours alike are left out. No program text is named here. -/
set_option linter.unusedVariables false
set_option linter.unusedSimpArgs false
set_option linter.unnecessarySimpa false
set_option linter.unusedSectionVars false
namespace Go.Proofs.YtcmpdlhbliolaaaGreat.D
open Go.RowKit

theorem chk_t {c : Prop} [Decidable c] (h : c) : chk c = some () := if_pos h
theorem take_zeroM {α : Type} {xs : List α} {i n : Nat} {z : α} (h : i ≤ xs.length) : (zeroM xs i n z).take i = xs.take i := by
  unfold zeroM
  rw [List.take_append_of_le_length (by rw [List.length_take]; omega), List.take_take, Nat.min_self]
theorem zeroM_len {α : Type} {xs : List α} {i : Nat} {z : α} (h : i ≤ xs.length) : (zeroM xs i xs.length z).length = xs.length := zeroM_length h (Nat.le_refl _)
theorem set_take {α : Type} {ys : List α} {i : Nat} {x : α} (h : i < ys.length) : (ys.set i x).take (i + 1) = ys.take i ++ [x] := by
  rw [List.take_succ_eq_append_getElem (by simpa using h)]
  simp [List.take_set_of_le]
theorem set_drop {α : Type} {ys : List α} {i j : Nat} {x : α} (h : i < j) : (ys.set i x).drop j = ys.drop j := by
  apply List.ext_getElem?
  intro q
  rw [List.getElem?_drop, List.getElem?_drop, List.getElem?_set_ne (by omega)]
theorem drop_next {α : Type} {ys xs : List α} {j : Nat} (h : ys.drop j = xs.drop j) : ys.drop (j + 1) = xs.drop (j + 1) := by
  rw [← List.drop_drop, h, List.drop_drop]
theorem drop_get {α : Type} {ys xs : List α} {j q : Nat} (h : ys.drop j = xs.drop j) (hq : j ≤ q) (h1 : q < ys.length) (h2 : q < xs.length) : ys[q] = xs[q] := by
  have e := congrArg (fun l => l[q - j]?) h
  simp only [List.getElem?_drop, show j + (q - j) = q from by omega] at e
  rw [List.getElem?_eq_getElem h1, List.getElem?_eq_getElem h2] at e
  exact Option.some.inj e
section
variable {α : Type} [DecidableEq α]
def nubG : List α → List α
  | [] => []
  | [a] => [a]
  | a :: b :: l => if a = b then nubG (b :: l) else a :: nubG (b :: l)
theorem nubG_mem {x : α} : ∀ {l : List α}, x ∈ nubG l ↔ x ∈ l
  | [] => Iff.rfl
  | [a] => Iff.rfl
  | a :: b :: l => by
    rw [nubG]
    split
    · rename_i e; subst e; rw [nubG_mem]; simp
    · rw [List.mem_cons, nubG_mem, List.mem_cons (l := b :: l)]
theorem nubG_snoc : ∀ (l : List α) (b : α), l ≠ [] → nubG (l ++ [b]) = if l.getLast? = some b then nubG l else nubG l ++ [b]
  | [], b, h => absurd rfl h
  | [a], b, _ => by
    by_cases e : a = b
    · subst e; simp [nubG]
    · simp [nubG, e]
  | a :: c :: l, b, _ => by
    have ih := nubG_snoc (c :: l) b (by simp)
    have hg : (a :: c :: l).getLast? = (c :: l).getLast? := by simp [List.getLast?_cons_cons]
    rw [hg]
    show nubG (a :: c :: (l ++ [b])) = _
    rw [nubG, nubG]
    rw [show c :: (l ++ [b]) = (c :: l) ++ [b] from rfl, ih]
    by_cases e : a = c
    · rw [if_pos e, if_pos e]
    · rw [if_neg e, if_neg e]
      split <;> simp
theorem nubG_take {xs : List α} {j : Nat} (h0 : 0 < j) (h : j < xs.length) : nubG (xs.take (j + 1)) = if xs[j - 1] = xs[j] then nubG (xs.take j) else nubG (xs.take j) ++ [xs[j]] := by
  rw [List.take_succ_eq_append_getElem h, nubG_snoc _ _ (by
    intro e
    have h9 := congrArg List.length e
    rw [List.length_take, Nat.min_eq_left (Nat.le_of_lt h), List.length_nil] at h9
    omega)]
  have hg : (xs.take j).getLast? = some xs[j - 1] := by
    rw [List.getLast?_eq_getElem?, List.length_take, Nat.min_eq_left (Nat.le_of_lt h), List.getElem?_take, if_pos (show j - 1 < j by omega), List.getElem?_eq_getElem (show j - 1 < xs.length by omega)]
  rw [hg]
  by_cases e : xs[j - 1] = xs[j]
  · rw [if_pos (by rw [e]), if_pos e]
  · rw [if_neg (by simpa using e), if_neg e]
theorem nubG_self {xs : List α} : ∀ (j : Nat), j ≤ xs.length → (∀ q (hq : q < j) (h0 : 0 < q) (hx : j ≤ xs.length), xs[q - 1]'(by omega) ≠ xs[q]'(by omega)) → nubG (xs.take j) = xs.take j
  | 0, _, _ => by simp [nubG]
  | 1, h, _ => by
    cases xs with
    | nil => simp [nubG]
    | cons a l => simp [nubG]
  | j + 2, h, hq => by
    rw [nubG_take (by omega) (by omega), if_neg (hq (j + 1) (by omega) (by omega) h), nubG_self (j + 1) (by omega) (fun q h1 h2 h3 => hq q (by omega) h2 h), ← List.take_succ_eq_append_getElem]
end
theorem nubI_str : ∀ {l : List Int}, l.Pairwise (fun a b => a ≤ b) → (nubG l).Pairwise (fun a b => a < b)
  | [], _ => List.Pairwise.nil
  | [a], _ => by simp [nubG]
  | a :: b :: l, h => by
    obtain ⟨h1, h2⟩ := List.pairwise_cons.1 h
    rw [nubG]
    split
    · exact nubI_str h2
    · rename_i hn
      refine List.pairwise_cons.2 ⟨fun x hx => ?_, nubI_str h2⟩
      have hab : a < b := by have := h1 b (List.mem_cons_self ..); omega
      rcases List.mem_cons.1 (nubG_mem.1 hx) with rfl | hx
      · exact hab
      · have := (List.pairwise_cons.1 h2).1 x hx
        omega
theorem strI_uniq : ∀ {l m : List Int}, l.Pairwise (fun a b => a < b) → m.Pairwise (fun a b => a < b) → (∀ x, x ∈ l ↔ x ∈ m) → l = m
  | [], [], _, _, _ => rfl
  | [], b :: m, _, _, h => absurd ((h b).2 (by simp)) (by simp)
  | a :: l, [], _, _, h => absurd ((h a).1 (by simp)) (by simp)
  | a :: l, b :: m, h1, h2, h => by
    obtain ⟨k1, k2⟩ := List.pairwise_cons.1 h1
    obtain ⟨j1, j2⟩ := List.pairwise_cons.1 h2
    have hab : a = b := by
      have ha := (h a).1 (by simp)
      have hb := (h b).2 (by simp)
      rcases List.mem_cons.1 ha with e | ha
      · exact e
      · rcases List.mem_cons.1 hb with e | hb
        · exact e.symm
        · have := k1 b hb; have := j1 a ha; omega
    subst hab
    rw [strI_uniq k2 j2 fun x => ?_]
    have := h x
    rw [List.mem_cons, List.mem_cons] at this
    constructor
    · intro hx
      rcases this.1 (.inr hx) with e | e
      · subst e; have := k1 x hx; omega
      · exact e
    · intro hx
      rcases this.2 (.inr hx) with e | e
      · subst e; have := j1 x hx; omega
      · exact e
end Go.Proofs.YtcmpdlhbliolaaaGreat.D
/- Sets of small numbers as the bits of one number. No program text is named here. -/
set_option linter.unusedVariables false
set_option linter.unusedSimpArgs false
namespace Go.Proofs.YtcmpdlhbliolaaaGreat.D
open Go.RowKit

/-! ### Sets as bits -/
theorem ofInt_nat (m : Nat) : BitVec.ofInt 64 (m : Int) = BitVec.ofNat 64 m := by simp
theorem and_nat {m n : Nat} (hm : m < 2 ^ 62) (hn : n < 2 ^ 62) : andI (m : Int) (n : Int) = ((m &&& n : Nat) : Int) := by
  unfold andI
  rw [ofInt_nat, ofInt_nat, BitVec.toNat_and, BitVec.toNat_ofNat, BitVec.toNat_ofNat, Nat.mod_eq_of_lt (by omega), Nat.mod_eq_of_lt (by omega)]
  have : m &&& n ≤ m := Nat.and_le_left
  exact wrapI (by omega) (by omega)
theorem or_nat {m n : Nat} (hm : m < 2 ^ 62) (hn : n < 2 ^ 62) : orI (m : Int) (n : Int) = ((m ||| n : Nat) : Int) := by
  unfold orI
  rw [ofInt_nat, ofInt_nat, BitVec.toNat_or, BitVec.toNat_ofNat, BitVec.toNat_ofNat, Nat.mod_eq_of_lt (by omega), Nat.mod_eq_of_lt (by omega)]
  have : m ||| n < 2 ^ 62 := Nat.or_lt_two_pow hm hn
  exact wrapI (by omega) (by omega)
theorem shr_nat {m i : Nat} (hi : i < 64) : shrI (m : Int) (i : Int) = ((m >>> i : Nat) : Int) := by
  unfold shrI
  rw [show min (i : Int).toNat 64 = i from by simp; omega, Nat.shiftRight_eq_div_pow, Int.fdiv_eq_ediv_of_nonneg _ (by exact_mod_cast Nat.zero_le _)]
  simp
theorem shl_nat {i : Nat} (hi : i < 62) : shlI 1 (i : Int) = ((2 ^ i : Nat) : Int) := by
  unfold shlI
  rw [show min (i : Int).toNat 64 = i from by simp; omega, Int.one_mul]
  have : 2 ^ i < 2 ^ 62 := Nat.pow_lt_pow_right (by decide) hi
  rw [show ((2 : Int) ^ i) = ((2 ^ i : Nat) : Int) from by simp]
  generalize 2 ^ i = z at this
  exact wrapI (by omega) (by omega)
theorem bit_nat {m i : Nat} (hm : m < 2 ^ 62) (hi : i < 64) : ((andI (shrI (m : Int) (i : Int)) 1) == 1) = m.testBit i := by
  have h1 : m >>> i < 2 ^ 62 := Nat.lt_of_le_of_lt (by rw [Nat.shiftRight_eq_div_pow]; exact Nat.div_le_self _ _) hm
  rw [shr_nat hi, show (1 : Int) = ((1 : Nat) : Int) from rfl, and_nat h1 (by decide), Nat.testBit, Nat.and_comm]
  have e : m >>> i &&& 1 = m >>> i % 2 := Nat.and_one_is_mod _
  rw [Nat.and_comm 1, e]
  rcases Nat.mod_two_eq_zero_or_one (m >>> i) with h | h <;> rw [h] <;> rfl
def mem30 (m k : Nat) : List Int := ((List.range k).filter fun i => m.testBit i).map fun (i : Nat) => (i : Int)
theorem mem30_succ (m k : Nat) : mem30 m (k + 1) = if m.testBit k then mem30 m k ++ [(k : Int)] else mem30 m k := by
  unfold mem30
  rw [List.range_succ, List.filter_append, List.map_append]
  by_cases h : m.testBit k = true
  · simp [h]
  · simp [h]
theorem mem30_more {m k l : Nat} (h : m < 2 ^ k) (hl : k ≤ l) : mem30 m l = mem30 m k := by
  induction hl with
  | refl => rfl
  | step hl ih =>
    rw [mem30_succ, Nat.testBit_lt_two_pow (Nat.lt_of_lt_of_le h (Nat.pow_le_pow_right (by decide) hl)), ih]; rfl
theorem mem_mem30 {m k : Nat} {x : Int} : x ∈ mem30 m k ↔ ∃ i : Nat, i < k ∧ m.testBit i = true ∧ x = (i : Int) := by
  unfold mem30
  simp only [List.mem_map, List.mem_filter, List.mem_range]
  constructor
  · rintro ⟨i, ⟨h1, h2⟩, rfl⟩; exact ⟨i, h1, h2, rfl⟩
  · rintro ⟨i, h1, h2, rfl⟩; exact ⟨i, ⟨h1, h2⟩, rfl⟩
theorem mem30_len (m k : Nat) : (mem30 m k).length ≤ k := by
  unfold mem30; rw [List.length_map]; exact Nat.le_trans (List.length_filter_le _ _) (by simp)
theorem mem30_none {m : Nat} : ∀ {k : Nat}, (∀ i, i < k → m.testBit i = false) → mem30 m k = []
  | 0, _ => rfl
  | k + 1, h => by rw [mem30_succ, h k (by omega), mem30_none fun i hi => h i (by omega)]; rfl
theorem mem30_two {s k : Nat} (h : s < k) : mem30 (2 ^ s) k = [(s : Int)] := by
  rw [mem30_more (k := s + 1) (Nat.pow_lt_pow_right (by decide) (by omega)) h, mem30_succ, Nat.testBit_two_pow, mem30_none fun i hi => by rw [Nat.testBit_two_pow]; simp; omega]
  simp
theorem testBit_or_two (m i j : Nat) : (m ||| 2 ^ i).testBit j = (m.testBit j || decide (i = j)) := by
  rw [Nat.testBit_or, Nat.testBit_two_pow]
theorem or_two_lt {m i k : Nat} (h : m < 2 ^ k) (hi : i < k) : m ||| 2 ^ i < 2 ^ k := Nat.or_lt_two_pow h (Nat.pow_lt_pow_right (by decide) hi)
theorem set_ext {m n k : Nat} (hm : m < 2 ^ k) (hn : n < 2 ^ k) (h : ∀ i, i < k → m.testBit i = n.testBit i) : m = n := by
  refine Nat.eq_of_testBit_eq fun i => ?_
  by_cases c : i < k
  · exact h i c
  · rw [Nat.testBit_lt_two_pow (Nat.lt_of_lt_of_le hm (Nat.pow_le_pow_right (by decide) (by omega))), Nat.testBit_lt_two_pow (Nat.lt_of_lt_of_le hn (Nat.pow_le_pow_right (by decide) (by omega)))]
end Go.Proofs.YtcmpdlhbliolaaaGreat.D
/- Numbers put in order, each once, by the program. -/
set_option linter.unusedVariables false
set_option linter.unusedSimpArgs false
set_option linter.unnecessarySimpa false
set_option linter.unusedSectionVars false
namespace Go.Proofs.YtcmpdlhbliolaaaGreat.D
open Go.RowKit

theorem eqB9 {a b : Int} : (a == b) = decide (a = b) := by rw [Bool.eq_iff_iff]; simp
theorem compact_int (xs : List Int) (hl : xs.length ≤ 1073741824) : m_g_slices_Compact_S_int_int xs = some (nubG xs) := by
  unfold m_g_slices_Compact_S_int_int
  by_cases h2 : xs.length < 2
  · rw [if_pos (by simp; omega)]
    cases xs with
    | nil => rfl
    | cons a l =>
      cases l with
      | nil => rfl
      | cons b l => simp only [List.length_cons] at h2; omega
  rw [if_neg (by simp; omega)]
  have key : (loopM (m_g_slices_Compact_S_int_int_l0 xs) FUEL 1 = some (.ret (nubG xs))) ∨ (∃ s, loopM (m_g_slices_Compact_S_int_int_l0 xs) FUEL 1 = some (.brk s) ∧ nubG xs = xs) := by
    obtain ⟨o, e, hQ⟩ := loopM_go (f := m_g_slices_Compact_S_int_int_l0 xs) (fun t s => s = ((t + 1 : Nat) : Int) ∧ nubG (xs.take (t + 1)) = xs.take (t + 1)) (fun o => o = .ret (nubG xs) ∨ ∃ s, o = .brk s ∧ nubG xs = xs) (xs.length - 1) (fun t s ht hI => by
      obtain ⟨rfl, hI⟩ := hI
      unfold m_g_slices_Compact_S_int_int_l0
      by_cases h1 : t + 1 < xs.length
      · have hp : ((t + 1 : Nat) : Int) - 1 = ((t : Nat) : Int) := by omega
        rw [lt_nat h1, if_pos rfl, getI_nat h1, wrapI (n := ((t + 1 : Nat) : Int) - 1) (by omega) (by omega), hp, getI_nat (show t < xs.length by omega)]
        simp only [Option.bind_some, eqB9]
        have hn := nubG_take (xs := xs) (j := t + 1) (by omega) h1
        rw [hI] at hn
        simp only [Nat.add_sub_cancel] at hn
        by_cases he : xs[t + 1] = xs[t]
        · rw [if_pos (decide_eq_true he), chk_t (by omega), Option.bind_some]
          rw [if_pos he.symm] at hn
          have hlt : (xs.take (t + 1)).length = t + 1 := by rw [List.length_take]; omega
          obtain ⟨s, e1, ys, rfl, k1, k2, k3, k4⟩ := loopM_for (f := m_g_slices_Compact_S_int_int_l1 xs ((t + 1 : Nat) : Int)) (fun u s => ∃ ys : List Int, s = (((nubG (xs.take (t + 2 + u))).length : Int), ((u + 1 : Nat) : Int), ys) ∧ ys.length = xs.length ∧ ys.take (nubG (xs.take (t + 2 + u))).length = nubG (xs.take (t + 2 + u)) ∧ ys.drop (t + 1 + u) = xs.drop (t + 1 + u) ∧ (nubG (xs.take (t + 2 + u))).length ≤ t + 1 + u) (xs.length - (t + 2)) (fun u s hu hI => by
            obtain ⟨ys, rfl, k1, k2, k3, k4⟩ := hI
            have hj : t + 2 + u < xs.length := by clear k4 k2; omega
            have hj1 : t + 1 + u < xs.length := by clear k4 k2; omega
            have hj2 : t + 2 + u < ys.length := by clear k4 k2; omega
            have hj3 : t + 1 + u < ys.length := by clear k4 k2; omega
            have a1 : (0 + ((t + 1 : Nat) : Int)) + ((u + 1 : Nat) : Int) = ((t + 2 + u : Nat) : Int) := by omega
            have a2 : ((u + 1 : Nat) : Int) - 1 = ((u : Nat) : Int) := by omega
            have a3 : (0 + ((t + 1 : Nat) : Int)) + ((u : Nat) : Int) = ((t + 1 + u : Nat) : Int) := by omega
            unfold m_g_slices_Compact_S_int_int_l1
            dsimp only
            rw [if_pos (by simp; omega), chk_t (by omega)]
            simp only [Option.bind_some]
            rw [wrapI (n := ((u + 1 : Nat) : Int) - 1) (by omega) (by omega), a1, a2, a3, getI_nat (xs := ys) hj2, getI_nat (xs := ys) hj3, chk_t (by omega), drop_get k3 (by omega) hj2 hj, drop_get k3 (Nat.le_refl _) hj3 hj1]
            simp only [Option.bind_some, eqB9, peta]
            have e9 : t + 2 + u - 1 = t + 1 + u := by clear k4 k2; omega
            have e8 : 0 < t + 2 + u := by clear k4 k2; omega
            have hnx := nubG_take (xs := xs) (j := t + 2 + u) e8 hj
            simp only [e9] at hnx
            have hd := drop_next k3
            rw [show t + 1 + u + 1 = t + 1 + (u + 1) from by omega] at hd
            rw [show t + 2 + (u + 1) = t + 2 + u + 1 from by omega, hnx]
            generalize nubG (xs.take (t + 2 + u)) = K at *
            by_cases hq : xs[t + 2 + u] = xs[t + 1 + u]
            · rw [if_neg (by simpa using hq), if_pos hq.symm]
              simp only [Option.bind_some]
              rw [wrap_succ (by omega)]
              exact ⟨_, rfl, ys, rfl, k1, k2, hd, by omega⟩
            · rw [if_pos (by simpa using hq), if_neg (fun e => hq e.symm), getI_nat (xs := ys) (show K.length < ys.length by omega)]
              simp only [Option.bind_some]
              rw [wrap_succ (by omega), wrap_succ (by omega)]
              refine ⟨_, rfl, ys.set K.length xs[t + 2 + u], ?_, by simpa using k1, ?_, ?_, ?_⟩
              · rw [List.length_append, List.length_singleton]; rfl
              · rw [List.length_append, List.length_singleton, set_take (by omega), k2]
              · rw [set_drop (by omega)]; exact hd
              · rw [List.length_append, List.length_singleton]; omega) (fun s hI => by
            obtain ⟨ys, rfl, k1, k2, k3, k4⟩ := hI
            unfold m_g_slices_Compact_S_int_int_l1
            rw [if_neg (by simp; omega)]) (s := (((t + 1 : Nat) : Int), 1, xs)) ⟨xs, by rw [Nat.add_zero, hn, hlt]; rfl, rfl, by rw [Nat.add_zero, hn, hlt], rfl, by rw [Nat.add_zero, hn, hlt]; omega⟩ (fuelUp _ (by omega))
          refine .inr ⟨.ret (nubG xs), ?_, fun s' hh => (by simp at hh), .inl rfl⟩
          rw [bindL_brk e1]
          have hall : xs.take (t + 2 + (xs.length - (t + 2))) = xs := List.take_of_length_le (by omega)
          rw [hall] at k2 k4 ⊢
          generalize nubG xs = K at *
          have q0 : K.length ≤ ys.length := by omega
          have z1 : ((0 : Int) + ((K.length : Nat) : Int)).toNat = K.length := by omega
          have z2 : ((0 : Int) + (((ys.length : Nat) : Int) - 0)).toNat = ys.length := by omega
          simp only [z1, z2]
          have zl := zeroM_len (z := (0 : Int)) q0
          rw [chk_t (by omega), Option.bind_some, chk_t (by omega), Option.bind_some, chk_t (by rw [zl]; omega), Option.bind_some, take_zeroM q0, k2, List.drop_zero]
        · rw [if_neg (by simpa using he), wrap_succ (by omega)]
          rw [if_neg (fun e => he e.symm), ← List.take_succ_eq_append_getElem h1] at hn
          exact .inl ⟨by omega, _, rfl, rfl, hn⟩
      · refine .inr ⟨.brk ((t + 1 : Nat) : Int), ?_, fun s' hh => (by simp at hh), .inr ⟨_, rfl, ?_⟩⟩
        · rw [if_neg (by simp; omega)]
        · rw [List.take_of_length_le (by omega)] at hI; exact hI) (s := 1) ⟨rfl, nubG_self 1 (by omega) (fun q h1 h0 => by omega)⟩ (fuelUp _ (by omega))
    rcases hQ with rfl | ⟨s, rfl, h⟩
    · exact .inl e
    · exact .inr ⟨s, e, h⟩
  rcases key with e | ⟨s, e, h⟩
  · rw [bindL_ret e]
  · rw [bindL_brk e, h]
theorem mem30_str (m : Nat) : ∀ k, (mem30 m k).Pairwise (fun a b => a < b)
  | 0 => List.Pairwise.nil
  | k + 1 => by
    rw [mem30_succ]
    split
    · refine List.pairwise_append.2 ⟨mem30_str m k, List.pairwise_singleton _ _, fun a ha b hb => ?_⟩
      obtain ⟨i, hi, _, rfl⟩ := mem_mem30.1 ha
      obtain rfl : b = (k : Int) := by simpa using hb
      omega
    · exact mem30_str m k
end Go.Proofs.YtcmpdlhbliolaaaGreat.D
/- Sets of small numbers, in order. -/
set_option linter.unusedVariables false
set_option linter.unusedSimpArgs false
set_option linter.unnecessarySimpa false
set_option linter.unusedSectionVars false
namespace Go.Proofs.YtcmpdlhbliolaaaGreat.D
open Go.RowKit

theorem chk_is {p : Prop} [Decidable p] (h : p) : chk p = some () := by unfold chk; rw [if_pos h]
theorem s_set {m : Nat} (hm : m < 2 ^ 30) : m_s_l4Set (m : Int) = some (mem30 m 30) := by
  have hm' : m < 2 ^ 62 := Nat.lt_of_lt_of_le hm (Nat.pow_le_pow_right (by decide) (by decide))
  unfold m_s_l4Set
  have := loopM_at (f := m_s_l4Set_l0 (m : Int)) (fun i => (mem30 m i, (i : Int))) 30 (fun i hi => by
    have hl := mem30_len m i
    unfold m_s_l4Set_l0
    simp only
    rw [if_pos (by simp; omega), chk_is (by omega), bit_nat hm' (by omega), wrap_succ (by omega), mem30_succ]; simp only [Option.bind_some]
    by_cases b : m.testBit i = true
    · rw [if_pos b, if_pos b, appI_ok (by simp; omega)]; rfl
    · rw [if_neg b, if_neg b]; rfl) (by unfold m_s_l4Set_l0; simp) (by unfold FUEL; omega)
  have this : loopM (m_s_l4Set_l0 (m : Int)) FUEL (([] : List Int), 0) = _ := this
  rw [bindL_brk this]
theorem i_ascending (xs : List Int) (h : xs.length ≤ 1000000) : m_i_ascending xs = some (nubG (xs.mergeSort fun x y => decide (x ≤ y))) := by
  unfold m_i_ascending m_i_copyInts m_g_slices_Sort_S_int_int R.sortI
  rw [appI_ok (by simp; omega)]; simp only [Option.bind_some, List.nil_append]
  rw [chk_is (by omega)]; simp only [Option.bind_some]
  rw [compact_int _ (by rw [List.length_mergeSort]; omega)]; rfl
def shl1 (m : Nat) : List Int := (mem30 m 30).map fun x => x - 1
theorem mem_shl1 {m : Nat} {x : Int} : x ∈ shl1 m ↔ ∃ i : Nat, i < 30 ∧ m.testBit i = true ∧ x = (i : Int) - 1 := by
  unfold shl1
  rw [List.mem_map]
  constructor
  · rintro ⟨y, hy, rfl⟩
    obtain ⟨i, h1, h2, rfl⟩ := mem_mem30.1 hy
    exact ⟨i, h1, h2, rfl⟩
  · rintro ⟨i, h1, h2, rfl⟩
    exact ⟨(i : Int), mem_mem30.2 ⟨i, h1, h2, rfl⟩, rfl⟩
theorem shl1_str (m : Nat) : (shl1 m).Pairwise (fun a b => a < b) := by
  unfold shl1
  rw [List.pairwise_map]
  exact (mem30_str m 30).imp fun h => by omega
theorem shl1_len (m : Nat) : (shl1 m).length ≤ 30 := by unfold shl1; rw [List.length_map]; exact mem30_len m 30
theorem asc_shl1 {X : List Int} {m : Nat} (h : ∀ x, x ∈ X ↔ x ∈ shl1 m) : nubG (X.mergeSort fun x y => decide (x ≤ y)) = shl1 m := by
  have hp : (X.mergeSort fun x y => decide (x ≤ y)).Pairwise (fun a b => a ≤ b) := by
    have := List.pairwise_mergeSort (le := fun (x y : Int) => decide (x ≤ y)) (fun a b c h1 h2 => by
      have h1 := of_decide_eq_true h1; have h2 := of_decide_eq_true h2
      exact decide_eq_true (by omega)) (fun a b => by
      rw [Bool.or_eq_true, decide_eq_true_eq, decide_eq_true_eq]; omega) X
    exact this.imp fun h => of_decide_eq_true h
  refine strI_uniq (nubI_str hp) (shl1_str m) fun x => ?_
  rw [nubG_mem, List.mem_mergeSort]; exact h x
end Go.Proofs.YtcmpdlhbliolaaaGreat.D
/- Images of a loop: the program's search and the reference's. -/
set_option linter.unusedVariables false
set_option linter.unusedSimpArgs false
set_option linter.unnecessarySimpa false
set_option linter.unusedSectionVars false
namespace Go.Proofs.YtcmpdlhbliolaaaGreat.D
open Go.RowKit

abbrev KeyT := Int × Int × Bool
def nxI (a : AutT) (x : KeyT) : List (Option KeyT) := (List.range 9).map fun k => if mvn a x.2.1 k < 0 then none else some (mvn a x.1 k, mvn a x.2.1 k, true)
def inK (n : Nat) (x : KeyT) : Prop := (-1 ≤ x.1 ∧ x.1 < n) ∧ -1 ≤ x.2.1 ∧ x.2.1 < n
theorem nxI_at {a : AutT} {x : KeyT} {k : Nat} (hk : k < 9) : nth (nxI a x) (k : Int) = if mvn a x.2.1 k < 0 then none else some (mvn a x.1 k, mvn a x.2.1 k, true) := by
  have : k < (nxI a x).length := by simp [nxI]; omega
  rw [nth_nat this]; simp [nxI]
theorem bound_keys (n : Nat) (l : List KeyT) (hd : l.Nodup) (h : ∀ x ∈ l, inK n x) : l.length ≤ (n + 1) * ((n + 1) * 2) := by
  have := hd.length_le_of_subset (l₂ := (List.range (n + 1)).flatMap fun i : Nat => (List.range (n + 1)).flatMap fun j : Nat => [((i : Int) - 1, (j : Int) - 1, true), ((i : Int) - 1, (j : Int) - 1, false)]) (fun x hx => by
    obtain ⟨⟨h0, h1⟩, h2, h3⟩ := h x hx
    refine List.mem_flatMap.2 ⟨(x.1 + 1).toNat, List.mem_range.2 (by omega), List.mem_flatMap.2 ⟨(x.2.1 + 1).toNat, List.mem_range.2 (by omega), ?_⟩⟩
    obtain ⟨x1, x2, x3⟩ := x
    simp only at h0 h1 h2 h3 ⊢
    rw [show (((x1 + 1).toNat : Nat) : Int) - 1 = x1 by omega, show (((x2 + 1).toNat : Nat) : Int) - 1 = x2 by omega]
    cases x3 <;> simp)
  have e : ((List.range (n + 1)).flatMap fun i : Nat => (List.range (n + 1)).flatMap fun j : Nat => [((i : Int) - 1, (j : Int) - 1, true), ((i : Int) - 1, (j : Int) - 1, false)]).length = (n + 1) * ((n + 1) * 2) := by
    simp only [List.length_flatMap, List.length_cons, List.length_nil, List.map_const', List.sum_replicate_nat, List.length_range]
  omega
section
variable {a : AutT} {n : Nat}
theorem img_num (V : VA a n) (hn : n ≤ 12) {first : KeyT} (h0 : inK n first) : NumOk (nxI a) first (inK n) 338 where
  g0 := h0
  gn x hx y hy := by
    obtain ⟨k, hk, e⟩ := List.mem_map.1 hy
    have hk : k < 9 := List.mem_range.1 hk
    split at e
    · cases e
    · obtain rfl := Option.some.inj e
      exact ⟨mvn_in V hx.1.1 hx.1.2 hk, mvn_in V hx.2.1 hx.2.2 hk⟩
  len x _ := by simp [nxI]
  bound l hd h := by
    have h1 := bound_keys n l hd h
    have : (n + 1) * ((n + 1) * 2) ≤ 13 * (13 * 2) := Nat.mul_le_mul (by omega) (Nat.mul_le_mul (by omega) (by omega))
    omega
end
/-! ### The reference -/
def pk (z : EntT) : KeyT := (z.1, z.2.1, z.2.2.1)
theorem s_keyHas {l : List EntT} (hl : l.length ≤ 1000000) (x y : Int) (b : Bool) (f k : Int) : m_s_l10Has l (x, y, b, f, k) = some (decide ((x, y, b) ∈ l.map pk)) := by
  unfold m_s_l10Has
  have := scan (f := m_s_l10Has_l0 l (x, y, b, f, k)) l (fun z => ¬ pk z = (x, y, b)) true (by omega) (by
    intro i hi
    unfold m_s_l10Has_l0
    rw [if_pos (by simp; omega), getI_nth (by omega) (by omega)]; simp only [Option.bind_some, wrap_succ (show i < 9223372036854775807 by omega)]
    by_cases c1 : (nth l (i : Int)).1 = x
    · by_cases c2 : (nth l (i : Int)).2.1 = y
      · by_cases c3 : (nth l (i : Int)).2.2.1 = b
        · rw [if_pos (by simpa using c1), if_pos (by simpa using c2), if_pos (by simpa using c3), if_neg (fun hc => hc (by unfold pk; rw [c1, c2, c3]))]
        · rw [if_pos (by simpa using c1), if_pos (by simpa using c2), if_neg (by simpa using c3), if_pos (fun e => c3 (congrArg (fun z => z.2.2) e))]
      · rw [if_pos (by simpa using c1), if_neg (by simpa using c2), if_pos (fun e => c2 (congrArg (fun z => z.2.1) e))]
    · rw [if_neg (by simpa using c1), if_pos (fun e => c1 (congrArg Prod.fst e))]) (by
    unfold m_s_l10Has_l0
    rw [if_neg (by simp)])
  rcases this with ⟨e, hp⟩ | ⟨e, hp⟩
  · rw [bindL_brk e, decide_eq_false]
    rintro hm
    obtain ⟨z, hz, e⟩ := List.mem_map.1 hm
    exact hp z hz e
  · rw [bindL_ret e, decide_eq_true]
    by_cases c : (x, y, b) ∈ l.map pk
    · exact c
    · refine absurd (fun z hz e => c ?_) hp
      rw [← e]; exact List.mem_map.2 ⟨z, hz, rfl⟩
def MaskOf (n : Nat) (q : Int) (L : List KeyT) (m : Nat) : Prop := m < 2 ^ (n + 1) ∧ ∀ j : Nat, m.testBit j = true ↔ ∃ x ∈ L, x.2.2 = true ∧ x.2.1 = q ∧ x.1 = (j : Int) - 1
section
variable {a : AutT} {n : Nat} {p q : Int}
theorem s_img_in (V : VA a n) (hn : n ≤ 12) {l l0 : List EntT} {L : List KeyT} {m : Nat} {m0 : Int} {i : Nat} (hE : l.map pk = L) (hd : L.Nodup) (hG : ∀ x ∈ L, inK n x) (hi : i < L.length) (hM : MaskOf n q L m) :
    ∃ l' m', loopM (m_s_l22Images_l1 a q (l0, m0, (i : Int))) FUEL (l, (m : Int), 0) = some (.brk (l', ((m' : Nat) : Int), 9)) ∧ l'.map pk = nbS L (nxI a (nth L (i : Int))) ∧ MaskOf n q (nbS L (nxI a (nth L (i : Int)))) m' := by
  have hx := hG _ (nth_mem (i := (i : Int)) (by omega) (by omega))
  have hos : (nxI a (nth L (i : Int))).length = 9 := by simp [nxI]
  have H := img_num V hn hx
  have hB : ∀ k, (nbS L ((nxI a (nth L (i : Int))).take k)).length ≤ 338 := fun k => H.bound _ (nbS_nodup hd) fun x hx' => by
    rcases mem_nbS.1 hx' with h | h
    · exact hG x h
    · exact H.gn _ hx x (List.mem_of_mem_take h)
  obtain ⟨s', e, l', m', rfl, hE', hM'⟩ := loopM_for (f := m_s_l22Images_l1 a q (l0, m0, (i : Int))) (fun k s => ∃ l' m', s = (l', ((m' : Nat) : Int), (k : Int)) ∧ l'.map pk = nbS L ((nxI a (nth L (i : Int))).take k) ∧ MaskOf n q (nbS L ((nxI a (nth L (i : Int))).take k)) m') 9 (by
    rintro k s hk ⟨l1, m1, rfl, hE1, hM1⟩
    have hpre := nbS_prefix L ((nxI a (nth L (i : Int))).take k)
    have hlen := hpre.length_le
    have hBk := hB k
    have hl1 : l1.length = (nbS L ((nxI a (nth L (i : Int))).take k)).length := by rw [← hE1]; simp
    have g : pk (nth l1 (i : Int)) = nth L (i : Int) := by
      rw [← prefix_nth hpre (by omega) (by omega), ← hE1, nth_map (by omega) (by omega)]
    have g1 : (nth l1 (i : Int)).1 = (nth L (i : Int)).1 := congrArg Prod.fst g
    have g2 : (nth l1 (i : Int)).2.1 = (nth L (i : Int)).2.1 := congrArg (fun z => z.2.1) g
    have r1 := mvn_in V hx.1.1 hx.1.2 hk
    have r2 := mvn_in V hx.2.1 hx.2.2 hk
    unfold m_s_l22Images_l1
    simp only [peta]
    rw [if_pos (by simp; omega), getI_nth (by omega) (by omega)]; simp only [Option.bind_some]
    rw [g1, g2, s_mvn V hx.1.1 hx.1.2 hk]; simp only [Option.bind_some]
    rw [s_mvn V hx.2.1 hx.2.2 hk]; simp only [Option.bind_some, wrap_succ (show k < 9223372036854775807 by omega)]
    rw [take_one (by omega), nbS_snoc, nxI_at hk]
    generalize mvn a (nth L (i : Int)).1 k = u at *
    generalize mvn a (nth L (i : Int)).2.1 k = v at *
    generalize nbS L ((nxI a (nth L (i : Int))).take k) = L1 at *
    by_cases c : v < 0
    · rw [if_pos (by simpa using c), if_pos c]
      exact ⟨_, rfl, l1, m1, rfl, hE1, hM1⟩
    · rw [if_neg (by simpa using c), if_neg c]
      obtain ⟨t, rfl⟩ : ∃ t : Nat, u = (t : Int) - 1 := ⟨(u + 1).toNat, by omega⟩
      have hm62 : m1 < 2 ^ 62 := Nat.lt_of_lt_of_le hM1.1 (Nat.pow_le_pow_right (by decide) (by omega))
      have hor : MaskOf n q (nbL L1 (some ((t : Int) - 1, v, true))) (if v = q then m1 ||| 2 ^ t else m1) := by
        split
        · rename_i hv
          refine ⟨or_two_lt hM1.1 (by omega), fun j => ?_⟩
          rw [testBit_or_two, Bool.or_eq_true, hM1.2 j, decide_eq_true_eq]
          constructor
          · rintro (⟨x, h1, h2⟩ | rfl)
            · exact ⟨x, mem_nbL.2 (.inl h1), h2⟩
            · exact ⟨_, mem_nbL.2 (.inr rfl), rfl, hv, rfl⟩
          · rintro ⟨x, h1, h2, h3, h4⟩
            rcases mem_nbL.1 h1 with h1 | h1
            · exact .inl ⟨x, h1, h2, h3, h4⟩
            · obtain rfl := Option.some.inj h1
              exact .inr (by simp only at h4; omega)
        · rename_i hv
          refine ⟨hM1.1, fun j => ?_⟩
          rw [hM1.2 j]
          constructor
          · rintro ⟨x, h1, h2⟩
            exact ⟨x, mem_nbL.2 (.inl h1), h2⟩
          · rintro ⟨x, h1, h2, h3, h4⟩
            rcases mem_nbL.1 h1 with h1 | h1
            · exact ⟨x, h1, h2, h3, h4⟩
            · obtain rfl := Option.some.inj h1
              exact absurd h3 hv
      have hmask : (if v == q then ((chk (0 ≤ IntKind.i64.wrap ((t : Int) - 1 + 1))).bind fun _ => some (orI (m1 : Int) (shlI 1 (IntKind.i64.wrap ((t : Int) - 1 + 1))))) else (some (m1 : Int)) : Option Int) = some (((if v = q then m1 ||| 2 ^ t else m1 : Nat) : Nat) : Int) := by
        by_cases hv : v = q
        · rw [if_pos (by simpa using hv), if_pos hv, show (t : Int) - 1 + 1 = (t : Int) by omega, wrap_nat (by omega), chk_is (by omega), shl_nat (by omega)]; simp only [Option.bind_some]
          rw [or_nat hm62 (Nat.pow_lt_pow_right (by decide) (by omega))]
        · rw [if_neg (by simpa using hv), if_neg hv]
      rw [hmask]; simp only [Option.bind_some]
      rw [s_keyHas (by omega), hE1]; simp only [Option.bind_some]
      by_cases d : ((t : Int) - 1, v, true) ∈ L1
      · rw [if_pos (by simpa using d)]
        rw [nbL_old d] at hor ⊢
        exact ⟨_, rfl, l1, _, rfl, hE1, hor⟩
      · rw [if_neg (by simpa using d), appI_ok (by simp; omega)]
        rw [nbL_new d] at hor ⊢
        exact ⟨_, rfl, _, _, rfl, by rw [List.map_append, hE1]; rfl, hor⟩) (by
    rintro s ⟨l1, m1, rfl, -⟩
    unfold m_s_l22Images_l1
    simp) (s := (l, (m : Int), 0)) ⟨l, m, rfl, hE, hM⟩ (by unfold FUEL; omega)
  rw [List.take_of_length_le (by omega)] at hE' hM'
  exact ⟨l', m', e, hE', hM'⟩
theorem s_images (V : VA a n) (hn : n ≤ 12) (hp : -1 ≤ p ∧ p < n) (hq : 0 ≤ q ∧ q < n) : ∃ N m, bfE (nxI a) (p, q, false) N ∧ m_s_l22Images a p q = some (shl1 m) ∧ MaskOf n q (bfS (nxI a) (p, q, false) N) m := by
  have h0 : inK n (p, q, false) := ⟨hp, by show -1 ≤ q; omega, hq.2⟩
  have H := img_num V hn h0
  obtain ⟨N, hNB, hN⟩ := bfE_ex (nx := nxI a) (first := (p, q, false)) (H.le)
  refine ⟨N, ?_⟩
  unfold m_s_l22Images
  obtain ⟨s', e, l, m, rfl, hE, hM⟩ := loopM_for (f := m_s_l22Images_l0 a q) (fun i s => ∃ l m, s = (l, ((m : Nat) : Int), (i : Int)) ∧ l.map pk = bfS (nxI a) (p, q, false) i ∧ MaskOf n q (bfS (nxI a) (p, q, false) i) m) N (by
    rintro i s hi ⟨l, m, rfl, hE, hM⟩
    have hlt := hN.2 i hi
    have hle := H.le i
    have hl : l.length = (bfS (nxI a) (p, q, false) i).length := by rw [← hE]; simp
    obtain ⟨l', m', e, hE', hM'⟩ := s_img_in (l0 := l) (m0 := (m : Int)) V hn hE (bfS_nodup i) (bfS_good H.g0 H.gn i) hlt hM
    rw [← bfS_succ' hlt] at hE' hM'
    unfold m_s_l22Images_l0
    simp only
    rw [if_pos (by simp; omega), bindL_brk e]
    simp only [wrap_succ (show i < 9223372036854775807 by omega)]
    exact ⟨_, rfl, l', m', rfl, hE', hM'⟩) (by
    rintro s ⟨l, m, rfl, hE, hM⟩
    have hl : l.length = (bfS (nxI a) (p, q, false) N).length := by rw [← hE]; simp
    have hN1 := hN.1
    unfold m_s_l22Images_l0
    simp only
    rw [if_neg (by simp; omega)]) (s := ([(p, q, false, 0, 0)], 0, 0)) ⟨_, 0, rfl, rfl, by exact Nat.two_pow_pos _, fun j => by
      rw [Nat.zero_testBit]
      constructor
      · intro h; cases h
      · rintro ⟨x, h1, h2, -⟩
        obtain rfl := List.mem_singleton.1 (show x ∈ [(p, q, false)] from h1)
        cases h2⟩ (up63 (by omega))
  refine ⟨m, hN, ?_, hM⟩
  rw [bindL_brk e]
  simp only
  rw [s_set (Nat.lt_of_lt_of_le hM.1 (Nat.pow_le_pow_right (by decide) (by omega)))]; simp only [Option.bind_some]
  have hlen := mem30_len m 30
  have hrng : ∀ x ∈ mem30 m 30, 0 ≤ x ∧ x < 30 := fun x hx => by
    obtain ⟨i, h1, -, rfl⟩ := mem_mem30.1 hx
    omega
  obtain ⟨s', e, l2, rfl, h2⟩ := loopM_for (f := m_s_l22Images_l2) (fun i s => ∃ l2, s = (l2, (i : Int)) ∧ l2 = ((mem30 m 30).take i).map (fun x => x - 1) ++ (mem30 m 30).drop i) (mem30 m 30).length (by
    rintro i s hi ⟨l2, rfl, h2⟩
    have hl2 : l2.length = (mem30 m 30).length := by rw [h2]; simp; omega
    have hat : nth l2 (i : Int) = nth (mem30 m 30) (i : Int) := by
      rw [nth_nat (by omega), nth_nat hi]
      simp only [h2]
      rw [List.getElem_append_right (by simp; omega)]
      simp [List.length_take, Nat.min_eq_left (Nat.le_of_lt hi)]
    have hr := hrng _ (nth_mem (xs := mem30 m 30) (i := (i : Int)) (by omega) (by omega))
    unfold m_s_l22Images_l2
    simp only
    rw [if_pos (by simp; omega), getI_nth (by omega) (by omega)]; simp only [Option.bind_some, wrap_succ (show i < 9223372036854775807 by omega)]
    rw [hat, wrapI (by omega) (by omega)]
    refine ⟨_, rfl, _, rfl, ?_⟩
    rw [h2, take_one hi, List.map_append, show ((i : Int)).toNat = i by omega, List.set_append_right _ _ (by simp; omega)]
    simp [List.length_take, Nat.min_eq_left (Nat.le_of_lt hi)]
    rw [List.drop_eq_getElem_cons hi]; rfl) (by
    rintro s ⟨l2, rfl, h2⟩
    have hl2 : l2.length = (mem30 m 30).length := by rw [h2]; simp
    unfold m_s_l22Images_l2
    simp only
    rw [if_neg (by simp; omega)]) (s := (mem30 m 30, 0)) ⟨_, rfl, by simp⟩ (up63 (by omega))
  have e' : loopM m_s_l22Images_l2 FUEL (mem30 m 30, 0) = _ := e
  rw [bindL_brk e', h2]
  simp [shl1]
end
/-! ### The program -/
def p2 (z : KeyT) : Int × Int := (z.1, z.2.1)
def SeenK (M : List ((Int × Int) × Bool)) (L : List KeyT) : Prop := M.length ≤ L.length ∧ ∀ x : Int × Int, lkM M x = if (x.1, x.2, true) ∈ L then some true else none
theorem lk_cons {κ : Type} [DecidableEq κ] (M : List (κ × Bool)) (x y : κ) : lkM ((x, true) :: M) y = if y = x then some true else lkM M y := by
  unfold lkM
  rw [List.lookup_cons]
  by_cases e : y = x
  · subst e; simp
  · simp only [show (y == x) = false from by simp [e], e, if_false]
theorem SeenK.put {M : List ((Int × Int) × Bool)} {L : List KeyT} (h : SeenK M L) {u v : Int} (hx : (u, v, true) ∉ L) : SeenK (((u, v), true) :: M) (L ++ [(u, v, true)]) := by
  refine ⟨by have := h.1; simp; omega, fun y => ?_⟩
  rw [lk_cons, h.2 y]
  by_cases e : y = (u, v)
  · subst e; simp
  · have e' : ¬ (y.1, y.2, true) = (u, v, true) := fun h => e (Prod.ext (congrArg (fun z : KeyT => z.1) h) (congrArg (fun z : KeyT => z.2.1) h))
    rw [if_neg e]
    simp only [List.mem_append, List.mem_singleton, e', or_false]
def OutOf (q : Int) (out : List Int) (L : List KeyT) : Prop := out.length ≤ L.length ∧ ∀ x, x ∈ out ↔ ∃ y ∈ L, y.2.2 = true ∧ y.2.1 = q ∧ y.1 = x
section
variable {a : AutT} {n : Nat} {p q : Int}
theorem iiOk_key (hn : n ≤ 12) {u v : Int} (hu : -1 ≤ u ∧ u < n) (hv : -1 ≤ v ∧ v < n) : iiOk (u, v) = true := by
  have e1 : IntKind.i64.min = -9223372036854775808 := by decide
  have e2 : IntKind.i64.max = 9223372036854775807 := by decide
  simp only [iiOk, Lit.wf, e1, e2, Bool.and_eq_true, decide_eq_true_eq]
  omega
theorem i_img_in (V : VA a n) (hn : n ≤ 12) {out : List Int} {Q : List (Int × Int)} {M : List ((Int × Int) × Bool)} {L : List KeyT} {i : Nat} (hQ : Q = (L.drop i).map p2) (hd : L.Nodup) (hG : ∀ x ∈ L, inK n x) (hi : i < L.length) (hM : SeenK M L) (hO : OutOf q out L) :
    ∃ out' Q' M', loopM (m_i_images_l1 a q) FUEL (out, Q, 0, M) = some (.brk (out', Q', 9, M')) ∧ Q' = ((nbS L (nxI a (nth L (i : Int)))).drop i).map p2 ∧ SeenK M' (nbS L (nxI a (nth L (i : Int)))) ∧ OutOf q out' (nbS L (nxI a (nth L (i : Int)))) := by
  have hx := hG _ (nth_mem (i := (i : Int)) (by omega) (by omega))
  have hos : (nxI a (nth L (i : Int))).length = 9 := by simp [nxI]
  have H := img_num V hn hx
  have hB : ∀ k, (nbS L ((nxI a (nth L (i : Int))).take k)).length ≤ 338 := fun k => H.bound _ (nbS_nodup hd) fun x hx' => by
    rcases mem_nbS.1 hx' with h | h
    · exact hG x h
    · exact H.gn _ hx x (List.mem_of_mem_take h)
  obtain ⟨s', e, out', Q', M', rfl, hQ', hM', hO'⟩ := loopM_for (f := m_i_images_l1 a q) (fun k s => ∃ out' Q' M', s = (out', Q', (k : Int), M') ∧ Q' = ((nbS L ((nxI a (nth L (i : Int))).take k)).drop i).map p2 ∧ SeenK M' (nbS L ((nxI a (nth L (i : Int))).take k)) ∧ OutOf q out' (nbS L ((nxI a (nth L (i : Int))).take k))) 9 (by
    rintro k s hk ⟨o1, Q1, M1, rfl, hQ1, hM1, hO1⟩
    have hpre := nbS_prefix L ((nxI a (nth L (i : Int))).take k)
    have hlen := hpre.length_le
    have hBk := hB k
    have hg : getI Q1 0 = some (p2 (nth L (i : Int))) := by
      have hlt : i < (nbS L ((nxI a (nth L (i : Int))).take k)).length := by omega
      have h0 : nth (nbS L ((nxI a (nth L (i : Int))).take k)) (i : Int) = nth L (i : Int) := prefix_nth hpre (by omega) (by omega)
      rw [nth_nat (xs := nbS L ((nxI a (nth L (i : Int))).take k)) hlt] at h0
      rw [hQ1, List.drop_eq_getElem_cons hlt]
      exact congrArg (fun z => some (p2 z)) h0
    have hQl : Q1.length ≤ 338 := by rw [hQ1]; simp; omega
    have hol := hO1.1
    have hMl := hM1.1
    have r1 := mvn_in V hx.1.1 hx.1.2 hk
    have r2 := mvn_in V hx.2.1 hx.2.2 hk
    have htg : m_i_together_1 ((nth L (i : Int)).1, (nth L (i : Int)).2.1) (k : Int) a a = some (mvn a (nth L (i : Int)).1 k, mvn a (nth L (i : Int)).2.1 k) := by
      unfold m_i_together_1
      simp only [peta]
      rw [i_mvn V hx.1.1 hx.1.2 hk]; simp only [Option.bind_some]
      rw [i_mvn V hx.2.1 hx.2.2 hk]; rfl
    unfold m_i_images_l1
    simp only [peta]
    rw [if_pos (by simp; omega), hg]; simp only [Option.bind_some, p2]
    rw [htg]; simp only [Option.bind_some, wrap_succ (show k < 9223372036854775807 by omega)]
    rw [take_one (by omega), nbS_snoc, nxI_at hk]
    generalize mvn a (nth L (i : Int)).1 k = u at *
    generalize mvn a (nth L (i : Int)).2.1 k = v at *
    generalize nbS L ((nxI a (nth L (i : Int))).take k) = L1 at *
    by_cases c : v < 0
    · rw [if_pos (by simpa using c), if_pos c]
      exact ⟨_, rfl, o1, Q1, M1, rfl, hQ1, hM1, hO1⟩
    · rw [if_neg (by simpa using c), if_neg c, show chk (iiOk (u, v) = true) = some () from by unfold chk; rw [if_pos (iiOk_key hn r1 r2)]]; simp only [Option.bind_some]
      rw [hM1.2 (u, v)]
      by_cases d : (u, v, true) ∈ L1
      · rw [if_pos d]; simp only [Option.getD_some, if_true, Option.bind_some]
        rw [nbL_old d]
        exact ⟨_, rfl, o1, Q1, M1, rfl, hQ1, hM1, hO1⟩
      · rw [if_neg d]; simp only [Option.getD_none, Bool.false_eq_true, if_false]
        rw [show putM M1 iiOk bOk (u, v) true = some (((u, v), true) :: M1) from by unfold putM; rw [if_pos ⟨by omega, iiOk_key hn r1 r2, rfl⟩]]; simp only [Option.bind_some]
        rw [appI_ok (by simp; omega)]; simp only [Option.bind_some]
        rw [nbL_new d]
        have hQn : Q1 ++ [(u, v)] = ((L1 ++ [(u, v, true)]).drop i).map p2 := by
          rw [hQ1, List.drop_append_of_le_length (by omega), List.map_append]; rfl
        by_cases hv : v = q
        · rw [if_pos (by simpa using hv), appI_ok (by simp; omega)]
          refine ⟨_, rfl, _, _, _, rfl, hQn, hM1.put d, by simp; omega, fun x => ?_⟩
          rw [List.mem_append, hO1.2 x, List.mem_singleton]
          constructor
          · rintro (⟨y, h1, h2⟩ | rfl)
            · exact ⟨y, List.mem_append.2 (.inl h1), h2⟩
            · exact ⟨_, List.mem_append.2 (.inr (List.mem_singleton.2 rfl)), rfl, hv, rfl⟩
          · rintro ⟨y, h1, h2, h3, h4⟩
            rcases List.mem_append.1 h1 with h1 | h1
            · exact .inl ⟨y, h1, h2, h3, h4⟩
            · obtain rfl := List.mem_singleton.1 h1
              exact .inr h4.symm
        · rw [if_neg (by simpa using hv)]
          refine ⟨_, rfl, _, _, _, rfl, hQn, hM1.put d, by simp; omega, fun x => ?_⟩
          rw [hO1.2 x]
          constructor
          · rintro ⟨y, h1, h2⟩
            exact ⟨y, List.mem_append.2 (.inl h1), h2⟩
          · rintro ⟨y, h1, h2, h3, h4⟩
            rcases List.mem_append.1 h1 with h1 | h1
            · exact ⟨y, h1, h2, h3, h4⟩
            · obtain rfl := List.mem_singleton.1 h1
              exact absurd h3 hv) (by
    rintro s ⟨o1, Q1, M1, rfl, -⟩
    unfold m_i_images_l1
    simp) (s := (out, Q, 0, M)) ⟨out, Q, M, rfl, hQ, hM, hO⟩ (by unfold FUEL; omega)
  rw [List.take_of_length_le (by omega)] at hQ' hM' hO'
  exact ⟨out', Q', M', e, hQ', hM', hO'⟩
theorem images_both (V : VA a n) (hn : n ≤ 12) (hp : -1 ≤ p ∧ p < n) (hq : 0 ≤ q ∧ q < n) : ∃ m : Nat, m < 2 ^ (n + 1) ∧ m_s_l22Images a p q = some (shl1 m) ∧ m_i_images a p q = some (shl1 m) := by
  obtain ⟨N, m, hN, es, hm⟩ := s_images V hn hp hq
  refine ⟨m, hm.1, es, ?_⟩
  have h0 : inK n (p, q, false) := ⟨hp, by show -1 ≤ q; omega, hq.2⟩
  have H := img_num V hn h0
  unfold m_i_images
  obtain ⟨s', e, out, Q, M, rfl, hQ, hM, hO⟩ := loopM_for (f := m_i_images_l0 a q) (fun i s => ∃ out Q M, s = (out, Q, M) ∧ Q = ((bfS (nxI a) (p, q, false) i).drop i).map p2 ∧ SeenK M (bfS (nxI a) (p, q, false) i) ∧ OutOf q out (bfS (nxI a) (p, q, false) i)) N (by
    rintro i s hi ⟨out, Q, M, rfl, hQ, hM, hO⟩
    have hlt := hN.2 i hi
    have hle := H.le (i + 1)
    obtain ⟨out', Q', M', e, hQ', hM', hO'⟩ := i_img_in V hn hQ (bfS_nodup i) (bfS_good H.g0 H.gn i) hlt hM hO
    rw [← bfS_succ' hlt] at hQ' hM' hO'
    have hpl := (bfS_step_prefix (nx := nxI a) (first := (p, q, false)) i).length_le
    have hl' : Q'.length = (bfS (nxI a) (p, q, false) (i + 1)).length - i := by rw [hQ']; simp
    have hl : Q.length = (bfS (nxI a) (p, q, false) i).length - i := by rw [hQ]; simp
    unfold m_i_images_l0
    simp only
    rw [if_pos (by simp; omega), bindL_brk e]
    simp only
    rw [show chk ((0 : Int) ≤ 1 ∧ (1 : Int) ≤ (Q'.length : Int)) = some () from by unfold chk; rw [if_pos ⟨by omega, by omega⟩]]
    refine ⟨_, rfl, _, _, _, rfl, ?_, hM', hO'⟩
    rw [hQ', ← List.map_drop, List.drop_drop]) (by
    rintro s ⟨out, Q, M, rfl, hQ, -⟩
    have hl : Q.length = 0 := by rw [hQ]; simp; have := hN.1; omega
    unfold m_i_images_l0
    simp only
    rw [if_neg (by rw [hl]; simp)]) (s := ([], [(p, q)], [])) ⟨_, _, _, rfl, rfl, ⟨by simp, fun x => by
      rw [if_neg (by
        intro h
        have := List.mem_singleton.1 (show (x.1, x.2, true) ∈ [(p, q, false)] from h)
        cases congrArg (fun z : KeyT => z.2.2) this)]
      rfl⟩, by simp, fun x => by
      constructor
      · intro h; cases h
      · rintro ⟨y, h1, h2, -⟩
        obtain rfl := List.mem_singleton.1 (show y ∈ [(p, q, false)] from h1)
        cases h2⟩ (up63 (by have := H.le N; have := hN.1; omega))
  rw [bindL_brk e]
  simp only
  have hlo := hO.1
  have hNle := H.le N
  rw [i_ascending _ (by omega), asc_shl1 (m := m) fun x => ?_]; rfl
  rw [hO.2 x, mem_shl1]
  constructor
  · rintro ⟨y, h1, h2, h3, rfl⟩
    have hy := bfS_good H.g0 H.gn N y h1
    have hy1 := hy.1
    exact ⟨(y.1 + 1).toNat, by omega, (hm.2 _).2 ⟨y, h1, h2, h3, by omega⟩, by omega⟩
  · rintro ⟨i, h1, h2, rfl⟩
    obtain ⟨y, h3, h4, h5, h6⟩ := (hm.2 i).1 h2
    exact ⟨y, h3, h4, h5, h6⟩
end
end Go.Proofs.YtcmpdlhbliolaaaGreat.D
/- States behind a pumped loop, by the reference and by the program. -/
set_option linter.unusedVariables false
set_option linter.unusedSimpArgs false
set_option linter.unnecessarySimpa false
set_option linter.unusedSectionVars false
namespace Go.Proofs.YtcmpdlhbliolaaaGreat.D
open Go.RowKit

def orM (ms : Int → Nat) (S : Nat) : Nat → Nat
  | 0 => 0
  | k + 1 => if S.testBit k = true then orM ms S k ||| ms ((k : Int) - 1) else orM ms S k
theorem orM_bit (ms : Int → Nat) (S j : Nat) : ∀ k, (orM ms S k).testBit j = true ↔ ∃ i : Nat, i < k ∧ S.testBit i = true ∧ (ms ((i : Int) - 1)).testBit j = true
  | 0 => by
    rw [orM, Nat.zero_testBit]
    constructor
    · intro h; cases h
    · rintro ⟨i, h, -⟩; omega
  | k + 1 => by
    have ih := orM_bit ms S j k
    rw [orM]
    split
    · rename_i hb
      rw [Nat.testBit_or, Bool.or_eq_true, ih]
      constructor
      · rintro (⟨i, h1, h2⟩ | h)
        · exact ⟨i, by omega, h2⟩
        · exact ⟨k, by omega, hb, h⟩
      · rintro ⟨i, h1, h2, h3⟩
        by_cases e : i = k
        · subst e; exact .inr h3
        · exact .inl ⟨i, by omega, h2, h3⟩
    · rename_i hb
      rw [ih]
      constructor
      · rintro ⟨i, h1, h2⟩
        exact ⟨i, by omega, h2⟩
      · rintro ⟨i, h1, h2, h3⟩
        by_cases e : i = k
        · subst e; exact absurd h2 hb
        · exact ⟨i, by omega, h2, h3⟩
theorem orM_lt {ms : Int → Nat} {S B : Nat} (h : ∀ i : Nat, S.testBit i = true → ms ((i : Int) - 1) < 2 ^ B) : ∀ k, orM ms S k < 2 ^ B
  | 0 => Nat.two_pow_pos _
  | k + 1 => by
    rw [orM]
    split
    · exact Nat.or_lt_two_pow (orM_lt h k) (h k ‹_›)
    · exact orM_lt h k
theorem s_pump_mask {m : Nat} (hm : m < 2 ^ 30) : loopM (m_s_l22Pumped_l1 (shl1 m)) FUEL (0, 0) = some (.brk ((m : Int), ((shl1 m).length : Int))) := by
  have hlen := shl1_len m
  obtain ⟨s', e, x, rfl, hx1, hx2⟩ := loopM_for (f := m_s_l22Pumped_l1 (shl1 m)) (fun i s => ∃ x : Nat, s = ((x : Int), (i : Int)) ∧ x < 2 ^ 30 ∧ ∀ j : Nat, x.testBit j = true ↔ (j : Int) - 1 ∈ (shl1 m).take i) (shl1 m).length (by
    rintro i s hi ⟨x, rfl, hx1, hx2⟩
    obtain ⟨t, h1, h2, h3⟩ := mem_shl1.1 (nth_mem (xs := shl1 m) (i := (i : Int)) (by omega) (by omega))
    unfold m_s_l22Pumped_l1
    simp only
    rw [if_pos (by simp; omega), getI_nth (by omega) (by omega)]; simp only [Option.bind_some]
    rw [h3, show (t : Int) - 1 + 1 = (t : Int) by omega, wrap_nat (by omega), chk_is (by omega), shl_nat (by omega), wrap_succ (by omega)]; simp only [Option.bind_some]
    rw [or_nat (Nat.lt_of_lt_of_le hx1 (Nat.pow_le_pow_right (by decide) (by decide))) (Nat.pow_lt_pow_right (by decide) (by omega))]
    refine ⟨_, rfl, _, rfl, or_two_lt hx1 h1, fun j => ?_⟩
    rw [testBit_or_two, Bool.or_eq_true, hx2 j, decide_eq_true_eq, take_one hi, List.mem_append, List.mem_singleton, h3]
    constructor
    · rintro (h | rfl)
      · exact .inl h
      · exact .inr rfl
    · rintro (h | h)
      · exact .inl h
      · exact .inr (by omega)) (by
    rintro s ⟨x, rfl, -⟩
    unfold m_s_l22Pumped_l1
    simp) (s := (0, 0)) ⟨0, rfl, Nat.two_pow_pos _, fun j => by simp⟩ (up63 (by omega))
  rw [List.take_of_length_le (Nat.le_refl _)] at hx2
  have : x = m := set_ext hx1 hm fun j hj => by
    rw [Bool.eq_iff_iff, hx2 j, mem_shl1]
    constructor
    · rintro ⟨i, h1, h2, h3⟩
      obtain rfl : i = j := by omega
      exact h2
    · intro h; exact ⟨j, hj, h, rfl⟩
  rw [e, this]
def mskF (ms : Int → Nat) (i : Nat) : Int := ((ms ((i : Int) - 1) : Nat) : Int)
section
variable {a : AutT} {n : Nat} {q : Int} {ms : Int → Nat} (V : VA a n) (hn : n ≤ 12) (hms : ∀ s : Int, -1 ≤ s → s < n → ms s < 2 ^ (n + 1) ∧ m_s_l22Images a s q = some (shl1 (ms s)) ∧ m_i_images a s q = some (shl1 (ms s)))
include V hn hms
theorem s_pump_masks {p3 : Int} (hp3 : 0 < p3) : loopM (m_s_l22Pumped_l0 a q p3) FUEL ([], -1) = some (.brk ((List.range (n + 1)).map (mskF ms), (n : Int))) := by
  have := loopM_at (f := m_s_l22Pumped_l0 a q p3) (fun i => ((List.range i).map (mskF ms), (i : Int) - 1)) (n + 1) (fun i hi => by
    obtain ⟨h1, h2, -⟩ := hms ((i : Int) - 1) (by omega) (by omega)
    unfold m_s_l22Pumped_l0
    simp only [peta]
    rw [V.len, if_pos (by simp; omega), if_pos (by simpa using hp3), h2]; simp only [Option.bind_some]
    rw [bindL_brk (s_pump_mask (Nat.lt_of_lt_of_le h1 (Nat.pow_le_pow_right (by decide) (by omega))))]
    simp only
    rw [appI_ok (by simp; omega), show (i : Int) - 1 + 1 = (i : Int) by omega, wrap_nat (by omega), List.range_succ, List.map_append]
    simp only [Option.bind_some, List.map_cons, List.map_nil]
    rw [show (((i + 1 : Nat) : Int) - 1) = (i : Int) by omega]; rfl) (by
    unfold m_s_l22Pumped_l0
    simp only
    rw [V.len, if_neg (by simp)]) (up63 (by omega))
  have e : (((n + 1 : Nat) : Int) - 1) = (n : Int) := by omega
  simp only [e] at this
  exact this
theorem s_pump_turn {S : Nat} (hS : S < 2 ^ (n + 1)) {k x : Int} : loopM (m_s_l22Pumped_l3 ((List.range (n + 1)).map (mskF ms), x) ((S : Int), k)) FUEL (0, 0) = some (.brk (((orM ms S (n + 1) : Nat) : Int), ((n + 1 : Nat) : Int))) := by
  have hS62 : S < 2 ^ 62 := Nat.lt_of_lt_of_le hS (Nat.pow_le_pow_right (by decide) (by omega))
  have hb : ∀ i : Nat, S.testBit i = true → ms ((i : Int) - 1) < 2 ^ (n + 1) := fun i hi => by
    have : i < n + 1 := by
      apply Classical.byContradiction
      intro hc
      rw [Nat.testBit_lt_two_pow (Nat.lt_of_lt_of_le hS (Nat.pow_le_pow_right (by decide) (by omega)))] at hi
      cases hi
    exact (hms ((i : Int) - 1) (by omega) (by omega)).1
  have p62' : 2 ^ (n + 1) ≤ 2 ^ 62 := Nat.pow_le_pow_right (by decide) (by omega)
  exact loopM_at (f := m_s_l22Pumped_l3 ((List.range (n + 1)).map (mskF ms), x) ((S : Int), k)) (fun i => (((orM ms S i : Nat) : Int), (i : Int))) (n + 1) (fun i hi => by
    have ho := orM_lt hb i
    have hg : getI ((List.range (n + 1)).map (mskF ms)) (i : Int) = some ((ms ((i : Int) - 1) : Nat) : Int) := by
      rw [getI_nth (by omega) (by simp; omega), nth_nat (by simp; omega)]; simp [mskF]
    unfold m_s_l22Pumped_l3
    simp only
    rw [if_pos (by simp; omega), chk_is (by omega), bit_nat hS62 (by omega), wrap_succ (by omega)]; simp only [Option.bind_some]
    rw [orM]
    by_cases c : S.testBit i = true
    · rw [if_pos c, if_pos c, hg]; simp only [Option.bind_some]
      rw [or_nat (by omega) (by have := hb i c; omega)]
    · rw [if_neg c, if_neg c]; rfl) (by
    unfold m_s_l22Pumped_l3
    simp only
    rw [if_neg (by simp)]) (up63 (by omega))
end
theorem less_one (m : Nat) : ∃ k : Int, loopM m_s_l22Pumped_l4 FUEL (mem30 m 30, 0) = some (.brk (shl1 m, k)) := by
  have hlen := mem30_len m 30
  have hrng : ∀ x ∈ mem30 m 30, 0 ≤ x ∧ x < 30 := fun x hx => by
    obtain ⟨i, h1, -, rfl⟩ := mem_mem30.1 hx
    omega
  obtain ⟨s', e, l2, rfl, h2⟩ := loopM_for (f := m_s_l22Pumped_l4) (fun i s => ∃ l2, s = (l2, (i : Int)) ∧ l2 = ((mem30 m 30).take i).map (fun x => x - 1) ++ (mem30 m 30).drop i) (mem30 m 30).length (by
    rintro i s hi ⟨l2, rfl, h2⟩
    have hl2 : l2.length = (mem30 m 30).length := by rw [h2]; simp; omega
    have hat : nth l2 (i : Int) = nth (mem30 m 30) (i : Int) := by
      rw [nth_nat (by omega), nth_nat hi]
      simp only [h2]
      rw [List.getElem_append_right (by simp; omega)]
      simp [List.length_take, Nat.min_eq_left (Nat.le_of_lt hi)]
    have hr := hrng _ (nth_mem (xs := mem30 m 30) (i := (i : Int)) (by omega) (by omega))
    unfold m_s_l22Pumped_l4
    simp only
    rw [if_pos (by simp; omega), getI_nth (by omega) (by omega)]; simp only [Option.bind_some, wrap_succ (show i < 9223372036854775807 by omega)]
    rw [hat, wrapI (by omega) (by omega)]
    refine ⟨_, rfl, _, rfl, ?_⟩
    rw [h2, take_one hi, List.map_append, show ((i : Int)).toNat = i by omega, List.set_append_right _ _ (by simp; omega)]
    simp [List.length_take, Nat.min_eq_left (Nat.le_of_lt hi)]
    rw [List.drop_eq_getElem_cons hi]; rfl) (by
    rintro s ⟨l2, rfl, h2⟩
    have hl2 : l2.length = (mem30 m 30).length := by rw [h2]; simp
    unfold m_s_l22Pumped_l4
    simp only
    rw [if_neg (by simp; omega)]) (s := (mem30 m 30, 0)) ⟨_, rfl, by simp⟩ (up63 (by omega))
  have e' : loopM m_s_l22Pumped_l4 FUEL (mem30 m 30, 0) = _ := e
  have h3 : l2 = shl1 m := by rw [h2]; simp [shl1]
  exact ⟨_, h3 ▸ e'⟩
def turnM (ms : Int → Nat) (n S : Nat) : Nat → Nat
  | 0 => S
  | k + 1 => orM ms (turnM ms n S k) (n + 1)
section
variable {a : AutT} {n : Nat} {p q : Int} {ms : Int → Nat} (V : VA a n) (hn : n ≤ 12) (hms : ∀ s : Int, -1 ≤ s → s < n → ms s < 2 ^ (n + 1) ∧ m_s_l22Images a s q = some (shl1 (ms s)) ∧ m_i_images a s q = some (shl1 (ms s)))
include hn hms
theorem ms_bit {S : Nat} (hS : S < 2 ^ (n + 1)) : ∀ i : Nat, S.testBit i = true → i < n + 1 ∧ ms ((i : Int) - 1) < 2 ^ (n + 1) := fun i hi => by
  have : i < n + 1 := by
    apply Classical.byContradiction
    intro hc
    rw [Nat.testBit_lt_two_pow (Nat.lt_of_lt_of_le hS (Nat.pow_le_pow_right (by decide) (by omega)))] at hi
    cases hi
  exact ⟨this, (hms ((i : Int) - 1) (by omega) (by omega)).1⟩
theorem turnM_lt {S : Nat} (hS : S < 2 ^ (n + 1)) : ∀ k, turnM ms n S k < 2 ^ (n + 1)
  | 0 => hS
  | k + 1 => orM_lt (fun i hi => (ms_bit hn hms (turnM_lt hS k) i hi).2) _
include V
theorem s_pumped (hp : -1 ≤ p ∧ p < n) (h0 : 0 < n) : m_s_l22Pumped a p q (n : Int) = some (shl1 (turnM ms n (2 ^ (p + 1).toNat) n)) := by
  obtain ⟨t, rfl⟩ : ∃ t : Nat, p = (t : Int) - 1 := ⟨(p + 1).toNat, by omega⟩
  have et : ((t : Int) - 1 + 1).toNat = t := by omega
  have hS : 2 ^ t < 2 ^ (n + 1) := Nat.pow_lt_pow_right (by decide) (by omega)
  rw [et]
  unfold m_s_l22Pumped
  rw [bindL_brk (s_pump_masks V hn hms (p3 := (n : Int)) (by omega))]
  rw [show (t : Int) - 1 + 1 = (t : Int) by omega, wrap_nat (by omega), chk_is (by omega), shl_nat (by omega)]; simp only [Option.bind_some]
  have := loopM_at (f := m_s_l22Pumped_l2 (n : Int) ((List.range (n + 1)).map (mskF ms), (n : Int))) (fun k => (((turnM ms n (2 ^ t) k : Nat) : Int), (k : Int))) n (fun k hk => by
    unfold m_s_l22Pumped_l2
    simp only
    rw [if_pos (by simp; omega), bindL_brk (s_pump_turn V hn hms (turnM_lt hn hms hS k)), wrap_succ (by omega)]; rfl) (by
    unfold m_s_l22Pumped_l2
    simp only
    rw [if_neg (by simp)]) (up63 (by omega))
  have this : loopM (m_s_l22Pumped_l2 (n : Int) ((List.range (n + 1)).map (mskF ms), (n : Int))) FUEL (((2 ^ t : Nat) : Int), 0) = _ := this
  rw [bindL_brk this]
  rw [s_set (Nat.lt_of_lt_of_le (turnM_lt hn hms hS n) (Nat.pow_le_pow_right (by decide) (by omega)))]; simp only [Option.bind_some]
  obtain ⟨k, e⟩ := less_one (turnM ms n (2 ^ t) n)
  rw [bindL_brk e]
theorem i_pump_in {S : Nat} (hS : S < 2 ^ (n + 1)) {x : Int} : ∃ out k, loopM (m_i_PumpedStates_l1 a q (x, shl1 S)) FUEL ([], 0) = some (.brk (out, k)) ∧ m_i_ascending out = some (shl1 (orM ms S (n + 1))) := by
  have hlen := shl1_len S
  have hin : ∀ z ∈ shl1 S, -1 ≤ z ∧ z < n := fun z hz => by
    obtain ⟨i, h1, h2, rfl⟩ := mem_shl1.1 hz
    have := (ms_bit hn hms hS i h2).1
    omega
  have hfl : ∀ i, (((shl1 S).take i).flatMap fun s => shl1 (ms s)).length ≤ 900 := fun i => by
    have : ∀ l : List Int, (l.flatMap fun s => shl1 (ms s)).length ≤ l.length * 30 := fun l => by
      induction l with
      | nil => simp
      | cons z l ih => have := shl1_len (ms z); rw [List.flatMap_cons, List.length_append, List.length_cons]; omega
    have h1 := this ((shl1 S).take i)
    have h2 : ((shl1 S).take i).length ≤ 30 := by rw [List.length_take]; omega
    omega
  have := loopM_at (f := m_i_PumpedStates_l1 a q (x, shl1 S)) (fun i => (((shl1 S).take i).flatMap fun s => shl1 (ms s), (i : Int))) (shl1 S).length (fun i hi => by
    have hz := hin _ (nth_mem (xs := shl1 S) (i := (i : Int)) (by omega) (by omega))
    have h2 := hfl i
    have h3 := shl1_len (ms (nth (shl1 S) (i : Int)))
    unfold m_i_PumpedStates_l1
    simp only [peta]
    rw [if_pos (by simp; omega), getI_nth (by omega) (by omega)]; simp only [Option.bind_some]
    rw [(hms _ hz.1 hz.2).2.2]; simp only [Option.bind_some]
    rw [appI_ok (by omega), wrap_succ (by omega), take_one hi, List.flatMap_append]; simp) (by
    unfold m_i_PumpedStates_l1
    simp only
    rw [if_neg (by simp)]) (up63 (by omega))
  have h2 := hfl (shl1 S).length
  rw [List.take_of_length_le (Nat.le_refl _)] at this h2
  refine ⟨_, _, this, ?_⟩
  rw [i_ascending _ (by omega), asc_shl1 (m := orM ms S (n + 1)) fun z => ?_]
  rw [List.mem_flatMap, mem_shl1]
  constructor
  · rintro ⟨s, h3, h4⟩
    obtain ⟨i, h5, h6, rfl⟩ := mem_shl1.1 h3
    obtain ⟨j, h7, h8, rfl⟩ := mem_shl1.1 h4
    exact ⟨j, h7, (orM_bit ms S j (n + 1)).2 ⟨i, (ms_bit hn hms hS i h6).1, h6, h8⟩, rfl⟩
  · rintro ⟨j, h3, h4, rfl⟩
    obtain ⟨i, h5, h6, h7⟩ := (orM_bit ms S j (n + 1)).1 h4
    exact ⟨(i : Int) - 1, mem_shl1.2 ⟨i, by omega, h6, rfl⟩, mem_shl1.2 ⟨j, h3, h7, rfl⟩⟩
theorem i_pumped (hp : -1 ≤ p ∧ p < n) (hok : m_i_statesOk a [p, q] = some true) : m_i_PumpedStates a p q (n : Int) = some (shl1 (turnM ms n (2 ^ (p + 1).toNat) n)) := by
  obtain ⟨t, rfl⟩ : ∃ t : Nat, p = (t : Int) - 1 := ⟨(p + 1).toNat, by omega⟩
  have et : ((t : Int) - 1 + 1).toNat = t := by omega
  have hS : 2 ^ t < 2 ^ (n + 1) := Nat.pow_lt_pow_right (by decide) (by omega)
  rw [et]
  unfold m_i_PumpedStates
  simp only [peta]
  rw [hok]; simp only [Option.bind_some, if_true]
  rw [i_in]; simp only [Option.bind_some]
  rw [if_pos (by simp; omega)]
  have h1 : shl1 (2 ^ t) = [(t : Int) - 1] := by unfold shl1; rw [mem30_two (by omega)]; rfl
  have := loopM_at (f := m_i_PumpedStates_l0 a q) (fun k => ((n : Int) - (k : Int), shl1 (turnM ms n (2 ^ t) k))) n (fun k hk => by
    obtain ⟨out, j, e1, e2⟩ := i_pump_in V hn hms (turnM_lt hn hms hS k) (x := (n : Int) - (k : Int))
    unfold m_i_PumpedStates_l0
    simp only
    rw [if_pos (by simp; omega), bindL_brk e1]
    simp only
    rw [e2, wrapI (by omega) (by omega)]; simp only [Option.bind_some]
    rw [show (n : Int) - (k : Int) - 1 = (n : Int) - ((k + 1 : Nat) : Int) by omega]; rfl) (by
    unfold m_i_PumpedStates_l0
    simp only
    rw [if_neg (by simp)]) (up63 (by omega))
  have e0 : (((n : Int) - ((0 : Nat) : Int)), shl1 (turnM ms n (2 ^ t) 0)) = ((n : Int), [(t : Int) - 1]) := by
    rw [show turnM ms n (2 ^ t) 0 = 2 ^ t from rfl, h1]; simp
  simp only [e0] at this
  rw [bindL_brk this]
end
end Go.Proofs.YtcmpdlhbliolaaaGreat.D
/- Automata: what is valid, by the reference and by the program. -/
set_option linter.unusedVariables false
set_option linter.unusedSimpArgs false
set_option linter.unnecessarySimpa false
namespace Go.Proofs.YtcmpdlhbliolaaaGreat.D
open Go.RowKit
theorem ent_iff {n : Nat} {r : List Int} : (∀ t ∈ r, -1 ≤ t ∧ t ≤ (n : Int) - 1) ↔ ∀ t ∈ r, -1 ≤ t ∧ t < (n : Int) := forall_congr' fun t => forall_congr' fun _ => and_congr Iff.rfl (by omega)
theorem s_fits (a : AutT) (h1 : a.2.1.length ≤ 9223372036854775807) (h2 : a.2.2.length ≤ 9223372036854775807) : ∃ b, m_s_l11Fits a = some b ∧ (b = true ↔ VA a a.2.1.length) := by
  unfold m_s_l11Fits
  rw [s_in]; simp only [Option.bind_some, wrap_pred h1]
  by_cases c1 : 0 ≤ a.1 ∧ a.1 ≤ (a.2.1.length : Int) - 1
  case neg => exact ⟨false, by rw [if_neg (by simpa using c1)], by simp; exact fun h => c1 ⟨h.start.1, by have := h.start.2; omega⟩⟩
  rw [if_pos (by simpa using c1)]
  by_cases c2 : a.2.2.length = a.2.1.length
  case neg => exact ⟨false, by rw [if_pos (by simp; omega)], by simp; exact fun h => c2 h.nlen⟩
  rw [if_neg (by simp; omega)]
  have inner : ∀ i : Nat, i < a.2.2.length → (nth a.2.2 i).length = 9 → (loopM (m_s_l11Fits_l1 a i) FUEL 0 = some (.brk 9) ∧ ∀ t ∈ nth a.2.2 (i : Int), -1 ≤ t ∧ t ≤ (a.2.1.length : Int) - 1) ∨ (loopM (m_s_l11Fits_l1 a i) FUEL 0 = some (.ret false) ∧ ¬ ∀ t ∈ nth a.2.2 (i : Int), -1 ≤ t ∧ t ≤ (a.2.1.length : Int) - 1) := by
    intro i hi hr
    have := scan (f := m_s_l11Fits_l1 a i) (nth a.2.2 (i : Int)) (fun t => -1 ≤ t ∧ t ≤ (a.2.1.length : Int) - 1) false (by omega) (fun j hj => by
      unfold m_s_l11Fits_l1
      rw [if_pos (by simp; omega), getI_nth (by omega) (by omega)]; simp only [Option.bind_some]
      rw [getI_nth (by omega) (by omega)]; simp only [Option.bind_some, wrap_pred h1]
      rw [s_in]; simp only [Option.bind_some, wrap_succ (show j < 9223372036854775807 by omega)]
      by_cases c : -1 ≤ nth (nth a.2.2 (i : Int)) (j : Int) ∧ nth (nth a.2.2 (i : Int)) (j : Int) ≤ (a.2.1.length : Int) - 1
      · rw [if_pos (by simpa using c), if_pos c]
      · rw [if_neg (by simpa using c), if_neg c]) (by unfold m_s_l11Fits_l1; rw [if_neg (by simp [hr])])
    rwa [hr] at this
  have outer := scan (f := m_s_l11Fits_l0 a) a.2.2 (fun r => r.length = 9 ∧ ∀ t ∈ r, -1 ≤ t ∧ t ≤ (a.2.1.length : Int) - 1) false h2 (fun i hi => by
    unfold m_s_l11Fits_l0
    rw [if_pos (by simp; omega), getI_nth (by omega) (by omega)]; simp only [Option.bind_some]
    by_cases c : (nth a.2.2 (i : Int)).length = 9
    · rw [if_neg (by simp; omega)]
      rcases inner i hi c with ⟨e, k⟩ | ⟨e, k⟩
      · rw [bindL_brk e, if_pos ⟨c, k⟩, wrap_succ (show i < 9223372036854775807 by omega)]
      · rw [bindL_ret e, if_neg (fun h => k h.2)]
    · rw [if_pos (by simp; omega), if_neg (fun h => c h.1)]) (by unfold m_s_l11Fits_l0; rw [if_neg (by simp; omega)])
  rcases outer with ⟨e, k⟩ | ⟨e, k⟩
  · exact ⟨true, by rw [bindL_brk e], by simp; exact ⟨rfl, ⟨c1.1, by omega⟩, c2, fun r hr => (k r hr).1, fun r hr => ent_iff.1 (k r hr).2⟩⟩
  · exact ⟨false, by rw [bindL_ret e], by simp; exact fun h => k fun r hr => ⟨h.row r hr, ent_iff.2 (h.ent r hr)⟩⟩
theorem s_valid (a : AutT) (h1 : a.2.1.length ≤ 9223372036854775807) (h2 : a.2.2.length ≤ 9223372036854775807) : ∃ b, m_s_IsValidAutomaton a = some b ∧ (b = true ↔ a.2.1.length ≤ 12 ∧ VA a a.2.1.length) := by
  unfold m_s_IsValidAutomaton
  by_cases c : a.2.1.length ≤ 12
  · rw [if_pos (by simp; omega)]
    obtain ⟨b, e, hb⟩ := s_fits a h1 h2
    exact ⟨b, by show (m_s_l11Fits a).bind _ = _; rw [e]; rfl, by rw [hb]; simp [c]⟩
  · exact ⟨false, by rw [if_neg (by simp; omega)], by simp; exact fun h => absurd h c⟩
theorem i_valid (a : AutT) (h1 : a.2.1.length ≤ 9223372036854775807) (h2 : a.2.2.length ≤ 9223372036854775807) (h3 : ∀ r ∈ a.2.2, r.length ≤ 9223372036854775807) : ∃ b, m_i_IsValidAutomaton a = some b ∧ (b = true ↔ a.2.1.length ≤ 12 ∧ VA a a.2.1.length) := by
  unfold m_i_IsValidAutomaton
  rw [i_in]; simp only [Option.bind_some, wrap_pred h1]
  by_cases c0 : 1 ≤ (a.2.1.length : Int) ∧ (a.2.1.length : Int) ≤ 12
  case neg => exact ⟨false, by rw [if_neg (by simpa using c0)], by simp; exact fun h h' => c0 ⟨by have := h'.start; omega, by omega⟩⟩
  rw [if_pos (by simpa using c0), i_in]; simp only [Option.bind_some]
  by_cases c1 : 0 ≤ a.1 ∧ a.1 ≤ (a.2.1.length : Int) - 1
  case neg => exact ⟨false, by rw [if_neg (by simpa using c1)], by simp; exact fun _ h => c1 ⟨h.start.1, by have := h.start.2; omega⟩⟩
  rw [if_pos (by simpa using c1)]
  by_cases c2 : a.2.2.length = a.2.1.length
  case neg => exact ⟨false, by rw [if_pos (by simp; omega)], by simp; exact fun _ h => c2 h.nlen⟩
  rw [if_neg (by simp; omega)]
  have inner : ∀ x : List Int, x.length ≤ 9223372036854775807 → (loopM (m_i_IsValidAutomaton_l1 a x) FUEL 0 = some (.brk (x.length : Int)) ∧ ∀ t ∈ x, -1 ≤ t ∧ t ≤ (a.2.1.length : Int) - 1) ∨ (loopM (m_i_IsValidAutomaton_l1 a x) FUEL 0 = some (.ret false) ∧ ¬ ∀ t ∈ x, -1 ≤ t ∧ t ≤ (a.2.1.length : Int) - 1) := by
    intro x hx
    refine scan (f := m_i_IsValidAutomaton_l1 a x) x (fun t => -1 ≤ t ∧ t ≤ (a.2.1.length : Int) - 1) false hx (fun j hj => ?_) (by unfold m_i_IsValidAutomaton_l1; rw [if_neg (by simp)])
    unfold m_i_IsValidAutomaton_l1
    rw [if_pos (by simp; omega), getI_nth (by omega) (by omega)]; simp only [Option.bind_some, wrap_pred h1]
    rw [i_in]; simp only [Option.bind_some, wrap_succ (show j < 9223372036854775807 by omega)]
    by_cases c : -1 ≤ nth x (j : Int) ∧ nth x (j : Int) ≤ (a.2.1.length : Int) - 1
    · rw [if_pos (by simpa using c), if_pos c]
    · rw [if_neg (by simpa using c), if_neg c]
  have outer := scan (f := m_i_IsValidAutomaton_l0 a) a.2.2 (fun r => (∀ t ∈ r, -1 ≤ t ∧ t ≤ (a.2.1.length : Int) - 1) ∧ r.length = 9) false h2 (fun i hi => by
    unfold m_i_IsValidAutomaton_l0
    rw [if_pos (by simp; omega), getI_nth (by omega) (by omega)]; simp only [Option.bind_some]
    rcases inner (nth a.2.2 (i : Int)) (h3 _ (nth_mem (by omega) (by omega))) with ⟨e, k⟩ | ⟨e, k⟩
    · rw [bindL_brk e]
      by_cases c : (nth a.2.2 (i : Int)).length = 9
      · rw [if_neg (by simp; omega), if_pos ⟨k, c⟩, wrap_succ (show i < 9223372036854775807 by omega)]
      · rw [if_pos (by simp; omega), if_neg (fun h => c h.2)]
    · rw [bindL_ret e, if_neg (fun h => k h.1)]) (by unfold m_i_IsValidAutomaton_l0; rw [if_neg (by simp)])
  rcases outer with ⟨e, k⟩ | ⟨e, k⟩
  · exact ⟨true, by rw [bindL_brk e], by simp; exact ⟨by omega, rfl, ⟨c1.1, by omega⟩, c2, fun r hr => (k r hr).2, fun r hr => ent_iff.1 (k r hr).1⟩⟩
  · exact ⟨false, by rw [bindL_ret e], by simp; exact fun _ h => k fun r hr => ⟨ent_iff.2 (h.ent r hr), h.row r hr⟩⟩
end Go.Proofs.YtcmpdlhbliolaaaGreat.D
/- States that are in range, by the reference and by the program. -/
set_option linter.unusedVariables false
set_option linter.unusedSimpArgs false
set_option linter.unnecessarySimpa false
set_option linter.unusedSectionVars false
namespace Go.Proofs.YtcmpdlhbliolaaaGreat.D
open Go.RowKit

section
variable {a : AutT} (V : VA a a.2.1.length) (hn : a.2.1.length ≤ 12) (hs : Data.sm a)
include V hn hs
theorem valid_s : m_s_IsValidAutomaton a = some true := by
  obtain ⟨-, ⟨ha, -⟩, hl, hr⟩ := hs
  obtain ⟨b1, e1, k1⟩ := s_valid a (by omega) (by omega)
  rw [e1, k1.2 ⟨hn, V⟩]
theorem valid_i : m_i_IsValidAutomaton a = some true := by
  obtain ⟨-, ⟨ha, -⟩, hl, hr⟩ := hs
  obtain ⟨b1, e1, k1⟩ := i_valid a (by omega) (by omega) (fun r h => by have : r.length ≤ 1048576 := (hr r h).1; omega)
  rw [e1, k1.2 ⟨hn, V⟩]
theorem s_state (s : Int) : m_s_l22State a s = some (decide (0 ≤ s ∧ s < (a.2.1.length : Int))) := by
  unfold m_s_l22State
  simp only [peta]
  rw [valid_s V hn hs]; simp only [Option.bind_some, if_true]
  rw [wrapI (by omega) (by omega), s_in]; simp only [Option.bind_some]
  congr 1
  exact decide_eq_decide.2 (by omega)
theorem i_states (l : List Int) (hl : l.length ≤ 1000) : m_i_statesOk a l = some (decide (∀ x ∈ l, 0 ≤ x ∧ x < (a.2.1.length : Int))) := by
  unfold m_i_statesOk
  rcases scan (f := m_i_statesOk_l0 a l) l (fun x => 0 ≤ x ∧ x < (a.2.1.length : Int)) false (by omega) (fun i hi => by
    unfold m_i_statesOk_l0
    rw [if_pos (by simp; omega), getI_nth (by omega) (by omega)]; simp only [Option.bind_some]
    rw [wrapI (by omega) (by omega), i_in, wrap_succ (by omega)]; simp only [Option.bind_some]
    by_cases c : 0 ≤ nth l (i : Int) ∧ nth l (i : Int) < (a.2.1.length : Int)
    · rw [if_pos (by simp; omega), if_pos c]
    · rw [if_neg (by simp; omega), if_neg c]) (by unfold m_i_statesOk_l0; simp) with ⟨e, h⟩ | ⟨e, h⟩
  · rw [bindL_brk e, decide_eq_true h]
    simp only [peta]
    rw [valid_i V hn hs]; rfl
  · rw [bindL_ret e, decide_eq_false h]
end
end Go.Proofs.YtcmpdlhbliolaaaGreat.D
