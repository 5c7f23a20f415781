/- Loops as steps on invariants; numbering in the order of discovery. No program text is named here. -/
import Derived.Test.YtfkocnnphjkmfaaLoop
set_option linter.unusedVariables false
set_option linter.unusedSimpArgs false
set_option linter.unnecessarySimpa false
namespace Go.Proofs.Ytfkocnnphjkmfaa.D
open Go.RowKit

/-! ### Loops -/
/-- A loop by an invariant: at round i it goes on, or it ends with what Q says. -/
theorem loopM_go {R S : Type} {f : S → Option (Out R S)} (Inv : Nat → S → Prop) (Q : Out R S → Prop) (N : Nat)
    (h : ∀ i s, i ≤ N → Inv i s → (i < N ∧ ∃ s', f s = some (.nxt s') ∧ Inv (i + 1) s') ∨ ∃ o, f s = some o ∧ (∀ s', o ≠ .nxt s') ∧ Q o) {s : S} (h0 : Inv 0 s) (hN : N < FUEL) : ∃ o, loopM f FUEL s = some o ∧ Q o := by
  have key : ∀ (k i : Nat) (s : S), i ≤ N → N < i + k → Inv i s → ∃ o, loopM f k s = some o ∧ Q o := by
    intro k
    induction k with
    | zero => intro i s h1 h2; omega
    | succ k ih =>
      intro i s h1 h2 hI
      rcases h i s h1 hI with ⟨hi, s', e, hI'⟩ | ⟨o, e, hn, hq⟩
      · obtain ⟨o, e', hq⟩ := ih (i + 1) s' (by omega) (by omega) hI'
        exact ⟨o, by rw [loopM, e]; exact e', hq⟩
      · refine ⟨o, ?_, hq⟩
        rw [loopM, e]
        cases o with
        | nxt s' => exact absurd rfl (hn s')
        | brk s' => rfl
        | ret r => rfl
  exact key FUEL 0 s (by omega) (by omega) h0
/-- A loop of N rounds that ends by itself. -/
theorem loopM_for {R S : Type} {f : S → Option (Out R S)} (Inv : Nat → S → Prop) (N : Nat) (h : ∀ i s, i < N → Inv i s → ∃ s', f s = some (.nxt s') ∧ Inv (i + 1) s') (he : ∀ s, Inv N s → f s = some (.brk s)) {s : S} (h0 : Inv 0 s) (hN : N < FUEL) : ∃ s', loopM f FUEL s = some (.brk s') ∧ Inv N s' := by
  obtain ⟨o, e, s', rfl, h⟩ := loopM_go (f := f) Inv (fun o => ∃ s', o = .brk s' ∧ Inv N s') N (fun i s hi hI => by
    by_cases h1 : i < N
    · exact .inl ⟨h1, h i s h1 hI⟩
    · obtain rfl : i = N := by omega
      exact .inr ⟨_, he s hI, (fun s' e => by cases e), s, rfl, hI⟩) h0 hN
  exact ⟨s', e, h⟩
/-- the same, the state known at each round -/
theorem loopM_at {R S : Type} {f : S → Option (Out R S)} (st : Nat → S) (N : Nat) (h : ∀ i, i < N → f (st i) = some (.nxt (st (i + 1)))) (he : f (st N) = some (.brk (st N))) (hN : N < FUEL) : loopM f FUEL (st 0) = some (.brk (st N)) := loopM_all st N h he hN
theorem up63 {k : Nat} (h : k ≤ 9223372036854775807) : k < FUEL := fuelUp k h
theorem wrap_nat {i : Nat} (h : i ≤ 9223372036854775807) : IntKind.i64.wrap (i : Int) = (i : Int) := wrapI (by omega) (by omega)
theorem wrap_pred {i : Nat} (h : i ≤ 9223372036854775807) : IntKind.i64.wrap ((i : Int) - 1) = (i : Int) - 1 := wrapI (by omega) (by omega)
theorem appI_ok {α : Type} {b : Nat} {xs ys : List α} (h : (xs.length + ys.length) * b ≤ 140737488355328) : appI b xs ys = some (xs ++ ys) := by unfold appI; rw [if_pos h]
theorem lt_nat' {i n : Nat} : decide ((i : Int) < (n : Int)) = decide (i < n) := by simp
theorem bindL_ret {R S T : Type} {x : Option (Out R S)} {r : R} {kr : R → Option T} {k : S → Option T} (h : x = some (.ret r)) : bindL x kr k = kr r := by rw [h]; rfl
theorem bindL_brk {R S T : Type} {x : Option (Out R S)} {s : S} {kr : R → Option T} {k : S → Option T} (h : x = some (.brk s)) : bindL x kr k = k s := by rw [h]; rfl

/-! ### Places of lists -/
def nth {α : Type} [Inhabited α] (xs : List α) (i : Int) : α := xs.getD i.toNat default
section
variable {α : Type} [Inhabited α] {xs ys : List α}
theorem getI_nth {i : Int} (h0 : 0 ≤ i) (h1 : i < xs.length) : getI xs i = some (nth xs i) := by
  unfold getI nth
  rw [if_pos h0]
  have : i.toNat < xs.length := by omega
  simp [List.getD_eq_getElem?_getD, this]
theorem nth_nat {i : Nat} (h : i < xs.length) : nth xs (i : Int) = xs[i] := by simp [nth, List.getD_eq_getElem?_getD, h]
theorem nth_mem {i : Int} (h0 : 0 ≤ i) (h1 : i < xs.length) : nth xs i ∈ xs := by
  have : i.toNat < xs.length := by omega
  have e : nth xs i = xs[i.toNat] := by simp [nth, List.getD_eq_getElem?_getD, this]
  rw [e]; exact List.getElem_mem this
theorem nth_append_left {i : Int} (h0 : 0 ≤ i) (h1 : i < xs.length) : nth (xs ++ ys) i = nth xs i := by
  have : i.toNat < xs.length := by omega
  simp [nth, List.getD_eq_getElem?_getD, List.getElem?_append_left this]
theorem nth_map {β : Type} [Inhabited β] {f : α → β} {i : Int} (h0 : 0 ≤ i) (h1 : i < xs.length) : nth (xs.map f) i = f (nth xs i) := by
  have : i.toNat < xs.length := by omega
  simp [nth, List.getD_eq_getElem?_getD, this]
theorem mem_nth {x : α} (h : x ∈ xs) : ∃ i : Nat, i < xs.length ∧ nth xs (i : Int) = x := by
  obtain ⟨i, hi, rfl⟩ := List.getElem_of_mem h
  exact ⟨i, hi, nth_nat hi⟩
theorem nth_set_self {i : Int} {x : α} (h0 : 0 ≤ i) (h1 : i < xs.length) : nth (xs.set i.toNat x) i = x := by
  have : i.toNat < xs.length := by omega
  simp [nth, List.getD_eq_getElem?_getD, this]
theorem nth_set_ne {i j : Int} {x : α} (h0 : 0 ≤ i) (hj : 0 ≤ j) (h : i ≠ j) : nth (xs.set i.toNat x) j = nth xs j := by
  have : i.toNat ≠ j.toNat := by omega
  simp [nth, List.getD_eq_getElem?_getD, List.getElem?_set_ne this]
theorem ext_nth (h : xs.length = ys.length) (k : ∀ i : Nat, i < xs.length → nth xs (i : Int) = nth ys (i : Int)) : xs = ys := by
  refine List.ext_getElem h fun i h1 h2 => ?_
  have := k i h1
  rwa [nth_nat h1, nth_nat h2] at this
end

/-! ### Numbering in the order of discovery -/
section
variable {κ : Type} [DecidableEq κ]
def nbL (l : List κ) : Option κ → List κ
  | none => l
  | some x => if x ∈ l then l else l ++ [x]
def nbI (l : List κ) : Option κ → Int
  | none => -1
  | some x => (l.idxOf x : Int)
def nbS (l : List κ) (os : List (Option κ)) : List κ := os.foldl nbL l
def nbR (l : List κ) : List (Option κ) → List Int
  | [] => []
  | o :: os => nbI l o :: nbR (nbL l o) os
theorem nbS_snoc (l : List κ) (os : List (Option κ)) (o : Option κ) : nbS l (os ++ [o]) = nbL (nbS l os) o := by simp [nbS]
theorem nbR_snoc : ∀ (l : List κ) (os : List (Option κ)) (o : Option κ), nbR l (os ++ [o]) = nbR l os ++ [nbI (nbS l os) o]
  | l, [], o => rfl
  | l, p :: os, o => by
    show nbI l p :: nbR (nbL l p) (os ++ [o]) = nbI l p :: nbR (nbL l p) os ++ [nbI (nbS (nbL l p) os) o]
    rw [nbR_snoc (nbL l p) os o]; rfl
theorem nbR_length : ∀ (l : List κ) (os : List (Option κ)), (nbR l os).length = os.length
  | l, [] => rfl
  | l, o :: os => by show (nbR (nbL l o) os).length + 1 = _; rw [nbR_length]; rfl
theorem nbL_prefix (l : List κ) (o : Option κ) : l <+: nbL l o := by
  cases o with
  | none => exact List.prefix_refl l
  | some x => unfold nbL; simp only; split
              · exact List.prefix_refl l
              · exact List.prefix_append l [x]
theorem nbS_prefix : ∀ (l : List κ) (os : List (Option κ)), l <+: nbS l os
  | l, [] => List.prefix_refl l
  | l, o :: os => (nbL_prefix l o).trans (nbS_prefix (nbL l o) os)
theorem nbL_nodup {l : List κ} {o : Option κ} (h : l.Nodup) : (nbL l o).Nodup := by
  cases o with
  | none => exact h
  | some x => unfold nbL; simp only; split
              · exact h
              · rename_i hx; exact List.nodup_append.2 ⟨h, by simp, by rintro a ha b hb rfl; simp at hb; exact hx (hb ▸ ha)⟩
theorem nbS_nodup : ∀ {l : List κ} {os : List (Option κ)}, l.Nodup → (nbS l os).Nodup
  | l, [], h => h
  | l, o :: os, h => nbS_nodup (l := nbL l o) (os := os) (nbL_nodup h)
theorem mem_nbL {l : List κ} {o : Option κ} {x : κ} : x ∈ nbL l o ↔ x ∈ l ∨ o = some x := by
  cases o with
  | none => simp [nbL]
  | some y => unfold nbL; simp only; split
              · rename_i h; constructor
                · exact .inl
                · rintro (h' | h')
                  · exact h'
                  · simp at h'; exact h' ▸ h
              · simp; exact or_congr Iff.rfl eq_comm
theorem mem_nbS : ∀ {l : List κ} {os : List (Option κ)} {x : κ}, x ∈ nbS l os ↔ x ∈ l ∨ some x ∈ os
  | l, [], x => by simp [nbS]
  | l, o :: os, x => by
    show x ∈ nbS (nbL l o) os ↔ _
    rw [mem_nbS, mem_nbL, List.mem_cons, or_assoc]
    exact or_congr Iff.rfl (or_congr eq_comm Iff.rfl)
theorem nbL_old {l : List κ} {x : κ} (h : x ∈ l) : nbL l (some x) = l := by simp [nbL, h]
theorem nbL_new {l : List κ} {x : κ} (h : x ∉ l) : nbL l (some x) = l ++ [x] := by simp [nbL, h]
theorem idxOf_nbL {l : List κ} {x : κ} (h : x ∉ l) : l.idxOf x = l.length := List.idxOf_eq_length h

/-- the list of what is found from 'first', i of it having been looked at -/
def bfS (nx : κ → List (Option κ)) (first : κ) : Nat → List κ
  | 0 => [first]
  | i + 1 => match (bfS nx first i)[i]? with
    | some x => nbS (bfS nx first i) (nx x)
    | none => bfS nx first i
def bfR (nx : κ → List (Option κ)) (first : κ) : Nat → List (List Int)
  | 0 => []
  | i + 1 => bfR nx first i ++ (match (bfS nx first i)[i]? with
    | some x => [nbR (bfS nx first i) (nx x)]
    | none => [])
variable {nx : κ → List (Option κ)} {first : κ}
theorem bfS_succ {i : Nat} (h : i < (bfS nx first i).length) : bfS nx first (i + 1) = nbS (bfS nx first i) (nx ((bfS nx first i)[i])) := by
  rw [bfS, List.getElem?_eq_getElem h]
theorem bfR_succ {i : Nat} (h : i < (bfS nx first i).length) : bfR nx first (i + 1) = bfR nx first i ++ [nbR (bfS nx first i) (nx ((bfS nx first i)[i]))] := by
  rw [bfR, List.getElem?_eq_getElem h]
theorem bfS_step_prefix (i : Nat) : bfS nx first i <+: bfS nx first (i + 1) := by
  rw [bfS]
  split
  · exact nbS_prefix _ _
  · exact List.prefix_refl _
theorem bfS_prefix {i j : Nat} (h : i ≤ j) : bfS nx first i <+: bfS nx first j := by
  induction h with
  | refl => exact List.prefix_refl _
  | step _ ih => exact ih.trans (bfS_step_prefix _)
theorem bfS_nodup : ∀ i, (bfS nx first i).Nodup
  | 0 => by simp [bfS]
  | i + 1 => by
    rw [bfS]
    split
    · exact nbS_nodup (bfS_nodup i)
    · exact bfS_nodup i
theorem bfS_good {G : κ → Prop} (h0 : G first) (h : ∀ x, G x → ∀ y, some y ∈ nx x → G y) : ∀ i, ∀ x ∈ bfS nx first i, G x
  | 0 => by simp [bfS]; exact h0
  | i + 1 => by
    rw [bfS]
    split
    · rename_i y hy
      intro x hx
      rcases mem_nbS.1 hx with hx | hx
      · exact bfS_good h0 h i x hx
      · exact h y (bfS_good h0 h i y (List.mem_of_getElem? hy)) x hx
    · exact bfS_good h0 h i
theorem bfS_first (i : Nat) : (bfS nx first i)[0]? = some first := by
  obtain ⟨t, ht⟩ := bfS_prefix (nx := nx) (first := first) (Nat.zero_le i)
  rw [← ht]; rfl
theorem bfR_length : ∀ {i : Nat}, (∀ j, j < i → j < (bfS nx first j).length) → (bfR nx first i).length = i
  | 0, _ => rfl
  | i + 1, h => by rw [bfR_succ (h i (by omega)), List.length_append, bfR_length fun j hj => h j (by omega)]; rfl
/-- where all has been looked at -/
def bfE (nx : κ → List (Option κ)) (first : κ) (N : Nat) : Prop := N = (bfS nx first N).length ∧ ∀ i, i < N → i < (bfS nx first i).length
theorem bfE_ex {B : Nat} (hB : ∀ i, (bfS nx first i).length ≤ B) : ∃ N, N ≤ B ∧ bfE nx first N := by
  have key : ∀ m i, i + m = B → (∀ j, j < i → j < (bfS nx first j).length) → ∃ N, N ≤ B ∧ bfE nx first N := by
    intro m
    induction m with
    | zero =>
      intro i hi hj
      have h1 := hB i
      have h2 : i ≤ (bfS nx first i).length := by
        cases i with
        | zero => omega
        | succ i =>
          have := hj i (by omega)
          have hp := (bfS_step_prefix (nx := nx) (first := first) i).length_le
          omega
      exact ⟨i, by omega, by omega, hj⟩
    | succ m ih =>
      intro i hi hj
      by_cases h : i < (bfS nx first i).length
      · exact ih (i + 1) (by omega) fun j hj' => by
          by_cases e : j = i
          · subst e; exact h
          · exact hj j (by omega)
      · have h2 : i ≤ (bfS nx first i).length := by
          cases i with
          | zero => omega
          | succ i =>
            have := hj i (by omega)
            have hp := (bfS_step_prefix (nx := nx) (first := first) i).length_le
            omega
        exact ⟨i, by omega, by omega, hj⟩
  exact key B 0 (by omega) (by omega)
theorem bfE_uniq {N M : Nat} (h : bfE nx first N) (k : bfE nx first M) : N = M := by
  rcases Nat.lt_trichotomy N M with e | e | e
  · have := k.2 N e; have := h.1; omega
  · exact e
  · have := h.2 M e; have := k.1; omega
end
end Go.Proofs.Ytfkocnnphjkmfaa.D
