/- Classes of states and the minimal automaton, by the reference and by the program. -/
import Derived.Test.YtcihbmdppgpmjaaCNumb
set_option linter.unusedVariables false
set_option linter.unusedSimpArgs false
set_option linter.unnecessarySimpa false
set_option linter.unusedSectionVars false
namespace Go.Proofs.Ytcihbmdppgpmjaa.D
open Go.RowKit

/-! ### Numberings that refine -/
theorem nbI_stable {κ : Type} [DecidableEq κ] {l m : List κ} (h : l <+: m) {y : κ} (hy : y ∈ l) : (m.idxOf y : Int) = l.idxOf y := by
  obtain ⟨t, rfl⟩ := h
  rw [List.idxOf_append, if_pos hy]
theorem nbR_at {κ : Type} [DecidableEq κ] : ∀ (l : List κ) (os : List (Option κ)) (i : Nat), i < os.length → nth (nbR l os) (i : Int) = nbI (nbS l os) (nth os (i : Int))
  | l, o :: os, 0, _ => by
    show nbI l o = nbI (nbS (nbL l o) os) o
    cases o with
    | none => rfl
    | some y =>
      have hm : y ∈ nbL l (some y) := mem_nbL.2 (.inr rfl)
      simp only [nbI]
      rw [nbI_stable (nbS_prefix _ os) hm]
      by_cases c : y ∈ l
      · rw [nbL_old c]
      · rw [nbL_new c, List.idxOf_append, if_neg c, idxOf_nbL c]; simp
  | l, o :: os, i + 1, h => by
    have h' : i < os.length := by simpa using h
    have ih := nbR_at (nbL l o) os i h'
    have e1 : nth (nbR l (o :: os)) ((i + 1 : Nat) : Int) = nth (nbR (nbL l o) os) (i : Int) := by
      rw [nth_nat (by rw [nbR_length]; exact h), nth_nat (by rw [nbR_length]; exact h')]; rfl
    have e2 : nth (o :: os) ((i + 1 : Nat) : Int) = nth os (i : Int) := by rw [nth_nat h, nth_nat h']; rfl
    rw [e1, e2]; exact ih
theorem nbI_mem {κ : Type} [DecidableEq κ] {l : List κ} {y : κ} (h : y ∈ l) : ∃ (q : Nat) (hq : q < l.length), nbI l (some y) = (q : Int) ∧ l[q] = y :=
  ⟨l.idxOf y, List.idxOf_lt_length_of_mem h, rfl, by simp⟩
theorem nbI_new {κ : Type} [DecidableEq κ] {l : List κ} {y : κ} (h : y ∉ l) : nbI l (some y) = (l.length : Int) := by simp only [nbI, idxOf_nbL h]
/-- a numbering in the order of the first places, from c on to m -/
def Norm : List Int → Nat → Nat → Prop
  | [], c, m => c = m
  | x :: xs, c, m => (x = -1 ∧ Norm xs c m) ∨ (0 ≤ x ∧ x < c ∧ Norm xs c m) ∨ (x = c ∧ Norm xs (c + 1) m)
theorem norm_nb {κ : Type} [DecidableEq κ] : ∀ (os : List (Option κ)) (l : List κ), Norm (nbR l os) l.length (nbS l os).length
  | [], l => rfl
  | none :: os, l => .inl ⟨rfl, norm_nb os l⟩
  | some y :: os, l => by
    by_cases c : y ∈ l
    · refine .inr (.inl ⟨Int.natCast_nonneg _, ?_, ?_⟩)
      · have := List.idxOf_lt_length_of_mem c
        simp only [nbI]; omega
      · show Norm (nbR (nbL l (some y)) os) l.length (nbS (nbL l (some y)) os).length
        rw [nbL_old c]; exact norm_nb os l
    · refine .inr (.inr ⟨by simp only [nbI, idxOf_nbL c], ?_⟩)
      show Norm (nbR (nbL l (some y)) os) (l.length + 1) (nbS (nbL l (some y)) os).length
      have := norm_nb os (l ++ [y])
      rw [nbL_new c]
      simpa using this
def RelL : List Int → List (Option (List Int)) → Prop
  | [], [] => True
  | x :: xs, o :: os => ((x < 0 ∧ o = none) ∨ (0 ≤ x ∧ ∃ t, o = some (x :: t))) ∧ RelL xs os
  | _, _ => False
theorem relL_of : ∀ (xs : List Int) (os : List (Option (List Int))), xs.length = os.length → (∀ i (h : i < xs.length) (h' : i < os.length), (xs[i] < 0 ∧ os[i] = none) ∨ (0 ≤ xs[i] ∧ ∃ t, os[i] = some (xs[i] :: t))) → RelL xs os
  | [], [], _, _ => trivial
  | x :: xs, o :: os, hl, h => ⟨h 0 (by simp) (by simp), relL_of xs os (by simpa using hl) fun i h1 h2 => h (i + 1) (by simpa using h1) (by simpa using h2)⟩
/-- a refinement has as many numbers at least; if no more, it is the same -/
theorem norm_refine : ∀ (xs : List Int) (os : List (Option (List Int))) (l : List (List Int)) (c m : Nat), RelL xs os → Norm xs c m → (∀ y ∈ l, ∃ h t, y = h :: t ∧ h < c) →
    m + l.length ≤ (nbS l os).length + c ∧ (l.length = c → (∀ (q : Nat) (hq : q < l.length), ∃ t, l[q] = (q : Int) :: t) → (nbS l os).length = m → nbR l os = xs)
  | [], [], l, c, m, _, hn, _ => by
    have hn : c = m := hn
    subst hn
    exact ⟨by simp [nbS]; omega, fun _ _ _ => rfl⟩
  | x :: xs, o :: os, l, c, m, hr, hn, hh => by
    obtain ⟨hr1, hr2⟩ := hr
    rcases hn with ⟨rfl, hn⟩ | ⟨hx0, hxc, hn⟩ | ⟨rfl, hn⟩
    · have ho : o = none := by
        rcases hr1 with ⟨-, h⟩ | ⟨h, -⟩
        · exact h
        · omega
      subst ho
      obtain ⟨i1, i2⟩ := norm_refine xs os l c m hr2 hn hh
      exact ⟨i1, fun h1 h2 h3 => by show -1 :: nbR l os = _; rw [i2 h1 h2 h3]⟩
    · obtain ⟨t, rfl⟩ : ∃ t, o = some (x :: t) := by
        rcases hr1 with ⟨h, -⟩ | ⟨-, h⟩
        · omega
        · exact h
      by_cases k : (x :: t) ∈ l
      · obtain ⟨i1, i2⟩ := norm_refine xs os l c m hr2 hn hh
        have hb : nbL l (some (x :: t)) = l := nbL_old k
        refine ⟨by show m + l.length ≤ (nbS (nbL l (some (x :: t))) os).length + c; rw [hb]; exact i1, fun h1 h2 h3 => ?_⟩
        have h3 : (nbS (nbL l (some (x :: t))) os).length = m := h3
        rw [hb] at h3
        obtain ⟨q, hq, e1, e2⟩ := nbI_mem k
        obtain ⟨t', ht'⟩ := h2 _ hq
        rw [e2] at ht'
        have : x = (q : Int) := by injection ht'
        show nbI l (some (x :: t)) :: nbR (nbL l (some (x :: t))) os = _
        rw [e1, ← this, hb, i2 h1 h2 h3]
      · have hb : nbL l (some (x :: t)) = l ++ [x :: t] := nbL_new k
        obtain ⟨i1, i2⟩ := norm_refine xs os (l ++ [x :: t]) c m hr2 hn (fun y hy => by
          rcases List.mem_append.1 hy with hy | hy
          · exact hh y hy
          · obtain rfl := List.mem_singleton.1 hy
            exact ⟨x, t, rfl, hxc⟩)
        rw [List.length_append, List.length_singleton] at i1
        refine ⟨by show m + l.length ≤ (nbS (nbL l (some (x :: t))) os).length + c; rw [hb]; omega, fun h1 h2 h3 => ?_⟩
        have h3 : (nbS (nbL l (some (x :: t))) os).length = m := h3
        rw [hb] at h3
        omega
    · obtain ⟨t, rfl⟩ : ∃ t, o = some ((c : Int) :: t) := by
        rcases hr1 with ⟨h, -⟩ | ⟨-, h⟩
        · omega
        · exact h
      have k : ((c : Int) :: t) ∉ l := fun k => by
        obtain ⟨h, t', e, hlt⟩ := hh _ k
        have : (c : Int) = h := by injection e
        omega
      have hb : nbL l (some ((c : Int) :: t)) = l ++ [(c : Int) :: t] := nbL_new k
      obtain ⟨i1, i2⟩ := norm_refine xs os (l ++ [(c : Int) :: t]) (c + 1) m hr2 hn (fun y hy => by
        rcases List.mem_append.1 hy with hy | hy
        · obtain ⟨h, t', e, hlt⟩ := hh y hy
          exact ⟨h, t', e, by omega⟩
        · obtain rfl := List.mem_singleton.1 hy
          exact ⟨c, t, rfl, by omega⟩)
      have hlen : (l ++ [(c : Int) :: t]).length = l.length + 1 := by simp
      rw [hlen] at i1
      refine ⟨by show m + l.length ≤ (nbS (nbL l (some ((c : Int) :: t))) os).length + c; rw [hb]; omega, fun h1 h2 h3 => ?_⟩
      have h3 : (nbS (nbL l (some ((c : Int) :: t))) os).length = m := h3
      rw [hb] at h3
      have := i2 (by rw [hlen, h1]) (fun q hq => by
        by_cases e : q < l.length
        · rw [List.getElem_append_left e]; exact h2 q e
        · have e : q = l.length := by omega
          subst e
          exact ⟨t, by simp; omega⟩) h3
      show nbI l (some ((c : Int) :: t)) :: nbR (nbL l (some ((c : Int) :: t))) os = _
      rw [hb, this, nbI_new k, h1]

/-! ### Comparing rows -/
theorem q_l2Cmp (xs ys : List Int) (hN : xs.length ≤ 1048576) : ∃ r, m_s_l2Cmp xs ys = some r ∧ (r = 0 ↔ xs = ys) := by
  unfold m_s_l2Cmp
  have h0 := cmpGo (f := m_s_l2Cmp_l0 xs ys) xs ys (fun i h h' => by
    simp only [m_s_l2Cmp_l0, lt_nat h, lt_nat h', if_true, getI_nat h, getI_nat h', Option.bind_some, wrap_succ (show i < 9223372036854775807 by omega)]
    by_cases h1 : xs[i] < ys[i]
    · simp [h1]
    · by_cases h2 : xs[i] > ys[i]
      · simp [h1, h2]
      · simp [h1, h2]) (fun i hi => by
    simp only [m_s_l2Cmp_l0]
    by_cases h1 : i < xs.length
    · have h2 : ¬ i < ys.length := by omega
      simp [h1, h2]
    · simp [h1]) xs.length 0 FUEL (by omega) (fuelUp _ (by omega))
  rw [show (((0 : Nat) : Int)) = (0 : Int) from rfl] at h0
  rcases h0 with ⟨r, e, h1, h2⟩ | ⟨s, e, h1⟩
  · exact ⟨r, by rw [e]; rfl, by simp [h1, h2]⟩
  · rw [e]
    simp only [bindL]
    by_cases c1 : xs.length < ys.length
    · exact ⟨-1, by simp [c1], by simp; intro e; subst e; omega⟩
    · by_cases c2 : xs.length > ys.length
      · exact ⟨1, by simp [c1, c2], by simp; intro e; subst e; omega⟩
      · exact ⟨0, by simp [c1, c2], by simpa using h1 (by omega)⟩
theorem q_sliceEq (xs ys : List Int) (hN : xs.length ≤ 9223372036854775807) : m_g_slices_Equal_S_int_int xs ys = some (decide (xs = ys)) :=
  eqL (f := m_g_slices_Equal_S_int_int_l0 xs ys) xs ys hN (fun i h h' => by
    simp only [m_g_slices_Equal_S_int_int_l0, lt_nat h, if_true, getI_nat h, getI_nat h', Option.bind_some, wrap_succ (show i < 9223372036854775807 by omega)]
    by_cases c : xs[i] = ys[i] <;> simp [c]) (by simp only [m_g_slices_Equal_S_int_int_l0, lt_self]; rfl)

/-! ### Classes -/
def cls0 (a : AutT) : List Int := (List.range a.2.1.length).map fun s : Nat => if nth (live a) (s : Int) = true then (if nth a.2.1 (s : Int) = true then 1 else 0) else -1
def ent (a : AutT) (c : List Int) (s : Int) (k : Nat) : Int := if mv a s k < 0 then -1 else nth c (mv a s k)
def keyL (a : AutT) (c : List Int) (s : Int) : List Int := nth c s :: (List.range 9).map fun k => ent a c s k
def keyO (a : AutT) (c : List Int) (s : Nat) : Option (List Int) := if nth c (s : Int) < 0 then none else some (keyL a c s)
def keys (a : AutT) (c : List Int) : List (Option (List Int)) := (List.range a.2.1.length).map (keyO a c)
def refn (a : AutT) (c : List Int) : List Int := nbR [] (keys a c)
def refN (a : AutT) (c : List Int) : Nat := (nbS [] (keys a c)).length
def cI (a : AutT) : Nat → List Int
  | 0 => cls0 a
  | j + 1 => refn a (cI a j)
section
variable {a : AutT} {n : Nat}
theorem keys_length (a : AutT) (c : List Int) : (keys a c).length = a.2.1.length := by simp [keys]
theorem keys_at {c : List Int} {s : Nat} (h : s < a.2.1.length) : nth (keys a c) (s : Int) = keyO a c s := by
  rw [nth_nat (by simpa [keys] using h)]; simp [keys]
theorem refn_length (a : AutT) (c : List Int) : (refn a c).length = a.2.1.length := by rw [refn, nbR_length, keys_length]
theorem cI_length (a : AutT) : ∀ j, (cI a j).length = a.2.1.length
  | 0 => by simp [cI, cls0]
  | j + 1 => refn_length a _
theorem nbS_length_le {κ : Type} [DecidableEq κ] : ∀ (l : List κ) (os : List (Option κ)), (nbS l os).length ≤ l.length + os.length
  | l, [] => by simp [nbS]
  | l, o :: os => by
    have h := nbS_length_le (nbL l o) os
    have : (nbL l o).length ≤ l.length + 1 := by
      cases o with
      | none => simp [nbL]
      | some x => unfold nbL; simp only; split <;> simp
    show (nbS (nbL l o) os).length ≤ _
    rw [List.length_cons]; omega
theorem refN_le (a : AutT) (c : List Int) : refN a c ≤ a.2.1.length := by
  have := nbS_length_le ([] : List (List Int)) (keys a c)
  rw [keys_length] at this
  simpa [refN] using this
theorem refn_at {c : List Int} {s : Nat} (h : s < a.2.1.length) : nth (refn a c) (s : Int) = nbI (nbS [] (keys a c)) (keyO a c s) := by
  rw [refn, nbR_at _ _ _ (by rw [keys_length]; exact h), keys_at h]
theorem key_mem {c : List Int} {s : Nat} (h : s < a.2.1.length) (hc : ¬ nth c (s : Int) < 0) : keyL a c s ∈ nbS [] (keys a c) := by
  refine mem_nbS.2 (.inr ?_)
  refine List.mem_map.2 ⟨s, List.mem_range.2 h, ?_⟩
  unfold keyO; rw [if_neg hc]
theorem refn_neg {c : List Int} {s : Nat} (h : s < a.2.1.length) : (nth (refn a c) (s : Int) < 0 ↔ nth c (s : Int) < 0) ∧ (nth (refn a c) (s : Int) < 0 → nth (refn a c) (s : Int) = -1) := by
  rw [refn_at h]
  unfold keyO
  by_cases hc : nth c (s : Int) < 0
  · rw [if_pos hc]; simp [nbI, hc]
  · rw [if_neg hc]
    obtain ⟨q, hq, e, -⟩ := nbI_mem (key_mem h hc)
    rw [e]
    exact ⟨⟨fun h => by omega, fun h => absurd h hc⟩, fun h => by omega⟩
theorem refn_lt {c : List Int} {s : Nat} (h : s < a.2.1.length) : nth (refn a c) (s : Int) < (a.2.1.length : Int) := by
  rw [refn_at h]
  unfold keyO
  by_cases hc : nth c (s : Int) < 0
  · rw [if_pos hc]; simp only [nbI]; omega
  · rw [if_neg hc]
    obtain ⟨q, hq, e, -⟩ := nbI_mem (key_mem h hc)
    have := refN_le a c
    unfold refN at this
    rw [e]; omega
/-- alike in the refinement: alike in all that the key says -/
theorem refn_eq {c : List Int} {s t : Nat} (hs : s < a.2.1.length) (ht : t < a.2.1.length) (h0 : 0 ≤ nth (refn a c) (s : Int)) (h : nth (refn a c) (s : Int) = nth (refn a c) (t : Int)) : keyL a c s = keyL a c t := by
  have n1 : ¬ nth c (s : Int) < 0 := fun k => by have := (refn_neg hs).1.2 k; omega
  have n2 : ¬ nth c (t : Int) < 0 := fun k => by have := (refn_neg ht).1.2 k; omega
  rw [refn_at hs, refn_at ht] at h
  unfold keyO at h
  rw [if_neg n1, if_neg n2] at h
  obtain ⟨q, hq, e1, e2⟩ := nbI_mem (key_mem hs n1)
  obtain ⟨q', hq', e1', e2'⟩ := nbI_mem (key_mem ht n2)
  rw [e1, e1'] at h
  obtain rfl : q = q' := by omega
  rw [← e2, ← e2']
theorem cI_neg (a : AutT) {s : Nat} (h : s < a.2.1.length) : ∀ j, (nth (cI a j) (s : Int) < 0 ↔ nth (live a) (s : Int) = false) ∧ (nth (cI a j) (s : Int) < 0 → nth (cI a j) (s : Int) = -1)
  | 0 => by
    have e : nth (cI a 0) (s : Int) = if nth (live a) (s : Int) = true then (if nth a.2.1 (s : Int) = true then 1 else 0) else -1 := by
      show nth (cls0 a) (s : Int) = _
      rw [nth_nat (by simpa [cls0] using h)]; simp [cls0]
    rw [e]
    cases nth (live a) (s : Int) <;> cases nth a.2.1 (s : Int) <;> simp
  | j + 1 => by
    have ih := cI_neg a h j
    have := refn_neg (c := cI a j) h
    exact ⟨this.1.trans ih.1, this.2⟩
theorem cI_acc (a : AutT) {s t : Nat} (hs : s < a.2.1.length) (ht : t < a.2.1.length) : ∀ j, 0 ≤ nth (cI a j) (s : Int) → nth (cI a j) (s : Int) = nth (cI a j) (t : Int) → nth a.2.1 (s : Int) = nth a.2.1 (t : Int)
  | 0, h0, h => by
    have e : ∀ {s : Nat}, s < a.2.1.length → nth (cI a 0) (s : Int) = if nth (live a) (s : Int) = true then (if nth a.2.1 (s : Int) = true then 1 else 0) else -1 := by
      intro s h
      show nth (cls0 a) (s : Int) = _
      rw [nth_nat (by simpa [cls0] using h)]; simp [cls0]
    rw [e hs] at h0 h
    rw [e ht] at h
    revert h0 h
    cases nth (live a) (s : Int) <;> cases nth a.2.1 (s : Int) <;> cases nth (live a) (t : Int) <;> cases nth a.2.1 (t : Int) <;> simp
  | j + 1, h0, h => by
    have k := refn_eq (c := cI a j) hs ht h0 h
    have h1 : nth (cI a j) (s : Int) = nth (cI a j) (t : Int) := by
      unfold keyL at k; injection k
    refine cI_acc a hs ht j ?_ h1
    have := (refn_neg (c := cI a j) hs).1
    by_cases q : nth (cI a j) (s : Int) < 0
    · have := this.2 q
      have h0 : 0 ≤ nth (refn a (cI a j)) (s : Int) := h0
      omega
    · omega
theorem cI_norm (a : AutT) (j : Nat) : Norm (cI a (j + 1)) 0 (refN a (cI a j)) := norm_nb (keys a (cI a j)) []
theorem rel_keys (a : AutT) {c : List Int} (hc : c.length = a.2.1.length) : RelL c (keys a c) := by
  refine relL_of _ _ (by rw [keys_length, hc]) fun i h h' => ?_
  have e1 : c[i] = nth c (i : Int) := (nth_nat h).symm
  have e2 : (keys a c)[i] = keyO a c i := by simp [keys]
  rw [e1, e2]
  unfold keyO
  by_cases k : nth c (i : Int) < 0
  · exact .inl ⟨k, by rw [if_pos k]⟩
  · exact .inr ⟨by omega, _, by rw [if_neg k]; rfl⟩
theorem cI_grow (a : AutT) (j : Nat) : refN a (cI a j) ≤ refN a (cI a (j + 1)) ∧ (refN a (cI a (j + 1)) = refN a (cI a j) → cI a (j + 2) = cI a (j + 1)) := by
  obtain ⟨h1, h2⟩ := norm_refine (cI a (j + 1)) (keys a (cI a (j + 1))) [] 0 (refN a (cI a j)) (rel_keys a (cI_length a _)) (cI_norm a j) (fun y hy => by cases hy)
  exact ⟨by simpa [refN] using h1, fun h => h2 rfl (fun q hq => absurd hq (Nat.not_lt_zero q)) h⟩
theorem cI_fix {j k : Nat} (h : cI a (j + 1) = cI a j) (hk : j ≤ k) : cI a k = cI a j := by
  induction hk with
  | refl => rfl
  | step _ ih => rw [cI, ih]; exact h
theorem cI_fix_eq {j k : Nat} (h : cI a (j + 1) = cI a j) (h' : cI a (k + 1) = cI a k) : cI a j = cI a k := by
  rcases Nat.le_total j k with e | e
  · exact (cI_fix h e).symm
  · exact cI_fix h' e
theorem cI_stop (a : AutT) : ∃ j, j ≤ a.2.1.length ∧ cI a (j + 1) = cI a j := by
  by_cases h0 : cI a 1 = cI a 0
  · exact ⟨0, Nat.zero_le _, h0⟩
  have hpos : 1 ≤ refN a (cI a 0) := by
    refine Nat.one_le_iff_ne_zero.2 fun hz => h0 ?_
    have hnone : ∀ s : Nat, s < a.2.1.length → nth (cI a 0) (s : Int) < 0 := fun s hs => by
      refine Classical.byContradiction fun k => ?_
      have := key_mem (c := cI a 0) hs k
      have hl := List.length_pos_of_mem this
      unfold refN at hz; omega
    refine ext_nth (by rw [cI_length, cI_length]) fun i hi => ?_
    rw [cI_length] at hi
    have h1 := (cI_neg a hi 0).2 (hnone i hi)
    have h2 := (cI_neg a hi 1).2 (((cI_neg a hi 1).1.trans (cI_neg a hi 0).1.symm).2 (hnone i hi))
    rw [h1, h2]
  have key : ∀ m, (∃ j, j ≤ m ∧ cI a (j + 1) = cI a j) ∨ m + 1 ≤ refN a (cI a m) := by
    intro m
    induction m with
    | zero => exact .inr hpos
    | succ m ih =>
      rcases ih with ⟨j, hj, e⟩ | ih
      · exact .inl ⟨j, by omega, e⟩
      · obtain ⟨g1, g2⟩ := cI_grow a m
        by_cases e : refN a (cI a (m + 1)) = refN a (cI a m)
        · exact .inl ⟨m + 1, Nat.le_refl _, g2 e⟩
        · exact .inr (by omega)
  rcases key a.2.1.length with h | h
  · exact h
  · have := refN_le a (cI a a.2.1.length); omega
end
end Go.Proofs.Ytcihbmdppgpmjaa.D
