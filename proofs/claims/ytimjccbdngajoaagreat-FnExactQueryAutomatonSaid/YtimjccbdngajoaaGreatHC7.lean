/- FnExactQueryAutomaton: for every input the law returns true and changes nothing that was there. Part 8 of 8. -/
import Derived.Test.YtimjccbdngajoaaGreatHC6
/- The classes and the minimal automaton as the reference and the program reckon them. -/
set_option linter.unusedVariables false
set_option linter.unusedSimpArgs false
set_option linter.unnecessarySimpa false
set_option linter.unusedSectionVars false
namespace Go.Proofs.YtimjccbdngajoaaGreat.D
open Go.RowKit

section
variable {a : AutT} {n : Nat} {c : List Int}
theorem ent_snoc (k : Nat) (s : Int) : (List.range (k + 1)).map (fun k => ent a c s k) = (List.range k).map (fun k => ent a c s k) ++ [ent a c s k] := by simp [List.range_succ]
theorem s_key (V : VA a n) (hn : n ≤ 1000000) (hc : c.length = n) {s : Nat} (hs : s < n) : m_s_l12Key a c s = some (keyL a c s) := by
  unfold m_s_l12Key
  rw [getI_nth (by omega) (by omega)]; simp only [Option.bind_some]
  have := loopM_at (f := m_s_l12Key_l0 a c s) (fun k => (nth c (s : Int) :: (List.range k).map (fun k => ent a c s k), (k : Int))) 9 (fun k hk => by
    have hm := V.mv (s := s) (k := k) (by omega) (by omega) hk
    unfold m_s_l12Key_l0
    simp only
    rw [if_pos (by simp; omega), V.get (by omega) (by omega)]; simp only [Option.bind_some]
    rw [V.get2 (by omega) (by omega) hk, ent_snoc]; simp only [Option.bind_some, wrap_succ (show k < 9223372036854775807 by omega)]
    by_cases h : mv a s k < 0
    · rw [if_pos (by simpa using h), appI_ok (by simp; omega), show ent a c s k = -1 from by unfold ent; rw [if_pos h]]; rfl
    · rw [if_neg (by simpa using h), getI_nth (by omega) (by omega)]; simp only [Option.bind_some]
      rw [appI_ok (by simp; omega), show ent a c s k = nth c (mv a s k) from by unfold ent; rw [if_neg h]]; rfl) (by unfold m_s_l12Key_l0; simp) (by unfold FUEL; omega)
  exact bindL_brk this
theorem i_key (V : VA a n) (hn : n ≤ 1000000) (hc : c.length = n) {s : Nat} (hs : s < n) : loopM (m_i_Automaton_refine_l1 c (nth a.2.2 (s : Int))) FUEL (0, [nth c (s : Int)]) = some (.brk (9, keyL a c s)) := by
  have hr := V.rowAt (s := s) (by omega) (by omega)
  exact loopM_at (f := m_i_Automaton_refine_l1 c (nth a.2.2 (s : Int))) (fun k => ((k : Int), nth c (s : Int) :: (List.range k).map (fun k => ent a c s k))) 9 (fun k hk => by
    have hm := V.mv (s := s) (k := k) (by omega) (by omega) hk
    unfold m_i_Automaton_refine_l1
    simp only
    rw [if_pos (by simp [hr]; omega), V.get2 (by omega) (by omega) hk, ent_snoc]; simp only [Option.bind_some, wrap_succ (show k < 9223372036854775807 by omega)]
    by_cases h : mv a s k < 0
    · have e : mv a s k = -1 := by omega
      rw [if_neg (by simp; omega)]; simp only [Option.bind_some]
      rw [appI_ok (by simp; omega), show ent a c s k = mv a s k from by unfold ent; rw [if_pos h, e]]; rfl
    · rw [if_pos (by simp; omega), getI_nth (by omega) (by omega)]; simp only [Option.bind_some]
      rw [appI_ok (by simp; omega), show ent a c s k = nth c (mv a s k) from by unfold ent; rw [if_neg h]]; rfl) (by unfold m_i_Automaton_refine_l1; simp [hr]) (by unfold FUEL; omega)
theorem nbI_first {κ : Type} [DecidableEq κ] {l t r : List κ} {x : κ} (e : l = t ++ x :: r) (hx : x ∉ t) : nbI l (some x) = (t.length : Int) := by
  subst e
  simp only [nbI]
  rw [List.idxOf_append, if_neg hx, List.idxOf_cons_self, Nat.zero_add]
def seek (l : List (List Int)) (x : List Int) : Int := if x ∈ l then nbI l (some x) else -1
theorem set_nth {α : Type} [Inhabited α] {xs : List α} {i : Nat} (h : i < xs.length) : xs.set i (nth xs (i : Int)) = xs := by
  rw [nth_nat h]
  exact List.set_getElem_self h
theorem s_seek {l : List (List Int)} {x cs : List Int} {q : Int} (hl : l.length ≤ 1000000) (hd : l.Nodup) (hx : ∀ y ∈ l, y.length ≤ 1048576) : loopM (m_s_l12Classes_l3 (l, cs, q) x) FUEL (-1, 0) = some (.brk (seek l x, (l.length : Int))) := by
  have := loopM_at (f := m_s_l12Classes_l3 (l, cs, q) x) (fun k => (if x ∈ l.take k then nbI l (some x) else -1, (k : Int))) l.length (fun k hk => by
    unfold m_s_l12Classes_l3
    simp only
    rw [if_pos (by simp; omega), getI_nth (by omega) (by omega)]; simp only [Option.bind_some, Int.toNat_natCast, wrap_succ (show k < 9223372036854775807 by omega)]
    obtain ⟨r, e, hr⟩ := q_l2Cmp (nth l (k : Int)) x (hx _ (nth_mem (by omega) (by omega)))
    rw [e, take_one hk]; simp only [Option.bind_some, List.mem_append, List.mem_singleton]
    by_cases h : nth l (k : Int) = x
    · have h0 : r = 0 := hr.2 h
      have hm : x ∈ l := h ▸ nth_mem (by omega) (by omega)
      obtain ⟨q, hq, e1, e2⟩ := nbI_mem hm
      have : q = k := by
        have h1 : l[q]? = some x := by rw [List.getElem?_eq_getElem hq, e2]
        have h2 : l[k]? = some x := by rw [List.getElem?_eq_getElem hk, ← nth_nat hk, h]
        exact (List.getElem?_inj hq hd).1 (h1.trans h2.symm)
      subst this
      rw [if_pos (by simp [h0]), if_pos (.inr h.symm), e1]; rfl
    · have h0 : r ≠ 0 := fun e => h (hr.1 e)
      have hn : ¬ x = nth l (k : Int) := fun e => h e.symm
      rw [if_neg (by simpa using h0)]
      simp [hn]) (by unfold m_s_l12Classes_l3; simp) (up63 (by omega))
  rw [List.take_of_length_le (Nat.le_refl _)] at this
  exact this
theorem i_seek {l : List (List Int)} {x : List Int} {f : List Int → Option Bool} (hl : l.length ≤ 1000000) (hf : ∀ y ∈ l, f y = some (decide (y = x))) : m_g_slices_IndexFunc_S_S_int_S_int l f = some (seek l x) := by
  unfold m_g_slices_IndexFunc_S_S_int_S_int
  obtain ⟨o, e, hq⟩ := loopM_go (f := m_g_slices_IndexFunc_S_S_int_S_int_l0 l f) (fun k s => s = (k : Int) ∧ x ∉ l.take k) (fun o => (x ∈ l ∧ o = .ret (nbI l (some x))) ∨ (x ∉ l ∧ ∃ s, o = .brk s)) l.length (s := 0) (by
    rintro k s hk ⟨rfl, hx⟩
    unfold m_g_slices_IndexFunc_S_S_int_S_int_l0
    by_cases hkl : k < l.length
    · rw [if_pos (by simp; omega), getI_nth (by omega) (by omega)]; simp only [Option.bind_some]
      rw [hf _ (nth_mem (by omega) (by omega))]; simp only [Option.bind_some]
      by_cases h : nth l (k : Int) = x
      · refine .inr ⟨_, by rw [if_pos (by simpa using h)], (fun s' e => by cases e), .inl ?_⟩
        have hm : x ∈ l := h ▸ nth_mem (by omega) (by omega)
        refine ⟨hm, ?_⟩
        have e : l = l.take k ++ (x :: l.drop (k + 1)) := by
          rw [← h, nth_nat hkl, ← List.drop_eq_getElem_cons hkl, List.take_append_drop]
        rw [nbI_first e hx, List.length_take, Nat.min_eq_left (by omega)]
      · refine .inl ⟨hkl, _, by rw [if_neg (by simpa using h)], by rw [wrap_succ (by omega)], ?_⟩
        rw [take_one hkl, List.mem_append, List.mem_singleton]
        rintro (h' | h')
        · exact hx h'
        · exact h h'.symm
    · refine .inr ⟨_, by rw [if_neg (by simp; omega)], (fun s' e => by cases e), .inr ⟨?_, _, rfl⟩⟩
      rwa [List.take_of_length_le (by omega)] at hx) ⟨rfl, by simp⟩ (up63 (by omega))
  unfold seek
  rcases hq with ⟨hx, rfl⟩ | ⟨hx, s, rfl⟩
  · rw [bindL_ret e, if_pos hx]
  · rw [bindL_brk e, if_neg hx]
theorem kinds_short {os : List (Option (List Int))} (h : ∀ y, some y ∈ os → y.length = 10) : ∀ y ∈ nbS [] os, y.length = 10 := fun y hy => by
  rcases mem_nbS.1 hy with hy | hy
  · cases hy
  · exact h y hy
theorem keys_short (a : AutT) (c : List Int) : ∀ y, some y ∈ keys a c → y.length = 10 := by
  intro y hy
  obtain ⟨s, -, e⟩ := List.mem_map.1 hy
  unfold keyO at e
  split at e
  · cases e
  · rw [← Option.some.inj e]; simp [keyL]
section
variable (V : VA a n) (hn : n ≤ 1000000) (hc : c.length = n)
include V hn hc
theorem kinds_le (s : Nat) : (nbS [] ((keys a c).take s)).length ≤ n := by
  have := nbS_length_le ([] : List (List Int)) ((keys a c).take s)
  rw [List.length_take, keys_length, V.len] at this
  simp at this; omega
theorem s_refine {m : Int} : loopM (m_s_l12Classes_l2 a (c, m)) FUEL ([], [], 0) = some (.brk (nbS [] (keys a c), refn a c, (n : Int))) := by
  have hlen := V.len
  have := loopM_at (f := m_s_l12Classes_l2 a (c, m)) (fun s => (nbS [] ((keys a c).take s), nbR [] ((keys a c).take s), (s : Int))) n (fun s hs => by
    have hkl := kinds_le V hn hc s
    have hrl : (nbR [] ((keys a c).take s)).length ≤ n := by rw [nbR_length, List.length_take, keys_length]; omega
    unfold m_s_l12Classes_l2
    simp only
    rw [if_pos (by simp; omega), getI_nth (by omega) (by omega)]; simp only [Option.bind_some]
    rw [take_one (by rw [keys_length]; omega), nbS_snoc, nbR_snoc, keys_at (by omega)]
    simp only [wrap_succ (show s < 9223372036854775807 by omega)]
    by_cases h : nth c (s : Int) < 0
    · rw [if_pos (by simpa using h), appI_ok (by simp; omega), show keyO a c s = none from by unfold keyO; rw [if_pos h]]; rfl
    · rw [if_neg (by simpa using h), show keyO a c s = some (keyL a c s) from by unfold keyO; rw [if_neg h]]
      rw [show m_s_l12Key (a.1, a.2.1, a.2.2) c (s : Int) = some (keyL a c s) from s_key V hn hc hs]; simp only [Option.bind_some]
      rw [bindL_brk (s_seek (by omega) (nbS_nodup (by simp)) (fun y hy => by rw [kinds_short (fun y hy => keys_short a c y (List.mem_of_mem_take hy)) y hy]; decide))]
      simp only
      unfold seek
      by_cases k : keyL a c s ∈ nbS [] ((keys a c).take s)
      · obtain ⟨q, hq, e1, e2⟩ := nbI_mem k
        rw [if_pos k, nbL_old k, e1, if_neg (by simp)]; simp only [Option.bind_some]
        rw [appI_ok (by simp; omega)]; rfl
      · rw [if_neg k, nbL_new k, nbI_new k, if_pos (show decide ((-1 : Int) < 0) = true from rfl), appI_ok (by simp; omega)]; simp only [Option.bind_some]
        rw [appI_ok (by simp; omega)]; rfl) (by
    unfold m_s_l12Classes_l2
    simp only
    rw [if_neg (by simp; omega)]) (up63 (by omega))
  rw [show (keys a c).take n = keys a c from List.take_of_length_le (by rw [keys_length]; omega)] at this
  exact this
theorem i_refine : m_i_Automaton_refine a c = some (refn a c, (refN a c : Int)) := by
  have hlen := V.len
  unfold m_i_Automaton_refine
  have := loopM_at (f := m_i_Automaton_refine_l0 a c) (fun s => (nbS [] ((keys a c).take s), nbR [] ((keys a c).take s), (s : Int))) n (fun s hs => by
    have hkl := kinds_le V hn hc s
    have hrl : (nbR [] ((keys a c).take s)).length ≤ n := by rw [nbR_length, List.length_take, keys_length]; omega
    unfold m_i_Automaton_refine_l0
    simp only
    rw [if_pos (by simp; omega), getI_nth (by omega) (by omega)]; simp only [Option.bind_some]
    rw [take_one (by rw [keys_length]; omega), nbS_snoc, nbR_snoc, keys_at (by omega)]
    simp only [wrap_succ (show s < 9223372036854775807 by omega)]
    by_cases h : nth c (s : Int) < 0
    · rw [if_pos (by simpa using h), appI_ok (by simp; omega), show keyO a c s = none from by unfold keyO; rw [if_pos h]]; rfl
    · rw [if_neg (by simpa using h), show keyO a c s = some (keyL a c s) from by unfold keyO; rw [if_neg h], V.get (by omega) (by omega)]; simp only [Option.bind_some]
      rw [bindL_brk (i_key V hn hc hs)]; simp only
      rw [i_seek (x := keyL a c s) (by omega) (fun y hy => by
        unfold m_i_Automaton_refine_1
        rw [q_sliceEq _ _ (by rw [kinds_short (fun y hy => keys_short a c y (List.mem_of_mem_take hy)) y hy]; decide)]; rfl)]; simp only [Option.bind_some]
      unfold seek
      by_cases k : keyL a c s ∈ nbS [] ((keys a c).take s)
      · obtain ⟨q, hq, e1, e2⟩ := nbI_mem k
        rw [if_pos k, nbL_old k, e1, if_neg (by simp)]; simp only [Option.bind_some]
        rw [appI_ok (by simp; omega)]; rfl
      · rw [if_neg k, nbL_new k, nbI_new k, if_pos (show decide ((-1 : Int) < 0) = true from rfl), appI_ok (by simp; omega)]; simp only [Option.bind_some]
        rw [appI_ok (by simp; omega)]; rfl) (by
    unfold m_i_Automaton_refine_l0
    simp only
    rw [if_neg (by simp; omega)]) (up63 (by omega))
  rw [show (keys a c).take n = keys a c from List.take_of_length_le (by rw [keys_length]; omega)] at this
  exact bindL_brk this
end
end
section
variable {a : AutT} {n : Nat} (V : VA a n) (hn : n ≤ 1000000)
include V hn
theorem cls0_snoc (s : Nat) : (List.range (s + 1)).map (fun s : Nat => if nth (live a) (s : Int) = true then (if nth a.2.1 (s : Int) = true then (1 : Int) else 0) else -1) = (List.range s).map (fun s : Nat => if nth (live a) (s : Int) = true then (if nth a.2.1 (s : Int) = true then 1 else 0) else -1) ++ [if nth (live a) (s : Int) = true then (if nth a.2.1 (s : Int) = true then 1 else 0) else -1] := by simp [List.range_succ]
theorem s_cls0 : loopM (m_s_l12Classes_l0 a (live a)) FUEL ([], 0) = some (.brk (cls0 a, (n : Int))) := by
  have hlen := V.len
  have hll : (live a).length = n := by rw [live_length, hlen]
  have := loopM_at (f := m_s_l12Classes_l0 a (live a)) (fun s => ((List.range s).map (fun s : Nat => if nth (live a) (s : Int) = true then (if nth a.2.1 (s : Int) = true then (1 : Int) else 0) else -1), (s : Int))) n (fun s hs => by
    unfold m_s_l12Classes_l0
    simp only
    rw [if_pos (by simp; omega), V.acc (by omega) (by omega)]; simp only [Option.bind_some]
    rw [cls0_snoc V hn, getI_nth (xs := live a) (by omega) (by omega)]; simp only [wrap_succ (show s < 9223372036854775807 by omega)]
    cases nth (live a) (s : Int) <;> cases nth a.2.1 (s : Int) <;> simp only [if_true, if_false, Bool.false_eq_true, Option.bind_some] <;> rw [appI_ok (by simp; omega)] <;> rfl) (by
    unfold m_s_l12Classes_l0
    simp only
    rw [if_neg (by simp; omega)]) (up63 (by omega))
  unfold cls0
  rw [hlen]
  exact this
theorem i_cls0 : loopM (m_i_Automaton_classes_l0 a (live a)) FUEL ([], 0) = some (.brk (cls0 a, (n : Int))) := by
  have hlen := V.len
  have hll : (live a).length = n := by rw [live_length, hlen]
  have := loopM_at (f := m_i_Automaton_classes_l0 a (live a)) (fun s => ((List.range s).map (fun s : Nat => if nth (live a) (s : Int) = true then (if nth a.2.1 (s : Int) = true then (1 : Int) else 0) else -1), (s : Int))) n (fun s hs => by
    unfold m_i_Automaton_classes_l0
    simp only
    rw [if_pos (by simp; omega), getI_nth (xs := live a) (by omega) (by omega)]; simp only [Option.bind_some]
    rw [cls0_snoc V hn, V.acc (by omega) (by omega)]; simp only [wrap_succ (show s < 9223372036854775807 by omega)]
    cases nth (live a) (s : Int) <;> cases nth a.2.1 (s : Int) <;> simp only [if_true, if_false, Bool.false_eq_true, Option.bind_some] <;> rw [appI_ok (by simp; omega)] <;> rfl) (by
    unfold m_i_Automaton_classes_l0
    simp only
    rw [if_neg (by simp; omega)]) (up63 (by omega))
  unfold cls0
  rw [hlen]
  exact this
theorem s_classes : ∃ J, cI a (J + 1) = cI a J ∧ m_s_l12Classes a = some (cI a J) := by
  have hlen := V.len
  unfold m_s_l12Classes
  rw [show m_s_l11Live (a.1, a.2.1, a.2.2) = some (live a) from s_live V hn]; simp only [Option.bind_some]
  rw [bindL_brk (s_cls0 V hn)]
  obtain ⟨J0, hJ0, hfix⟩ := cI_stop a
  obtain ⟨o, e, j, rfl, hj⟩ := loopM_go (f := m_s_l12Classes_l1 a) (fun j s => s = (cI a j, (j : Int)) ∧ j ≤ J0) (fun o => ∃ j, o = .ret (cI a j) ∧ cI a (j + 1) = cI a j) (J0 + 1) (s := (cI a 0, 0)) (by
    rintro j s hj ⟨rfl, hjJ⟩
    have hcl : (cI a j).length = n := by rw [cI_length, hlen]
    unfold m_s_l12Classes_l1
    simp only
    rw [if_pos (by simp; omega), bindL_brk (s_refine V hn hcl)]
    simp only
    obtain ⟨r, er, hr⟩ := q_l2Cmp (refn a (cI a j)) (cI a j) (by rw [refn_length]; omega)
    rw [er]; simp only [Option.bind_some, wrap_succ (show j < 9223372036854775807 by omega)]
    by_cases h : refn a (cI a j) = cI a j
    · exact .inr ⟨_, by rw [if_pos (by simpa using hr.2 h)], (fun s' e => by cases e), j, rfl, h⟩
    · refine .inl ⟨by omega, (cI a (j + 1), ((j + 1 : Nat) : Int)), by rw [if_neg (by simpa using fun e => h (hr.1 e))]; rfl, rfl, ?_⟩
      by_cases e : j = J0
      · subst e; exact absurd hfix h
      · omega) ⟨rfl, Nat.zero_le _⟩ (up63 (by omega))
  exact ⟨j, hj, bindL_ret e⟩
theorem i_classes : ∃ J, cI a (J + 1) = cI a J ∧ m_i_Automaton_classes a = some (cI a J) := by
  have hlen := V.len
  unfold m_i_Automaton_classes
  rw [show m_i_Automaton_live (a.1, a.2.1, a.2.2) = some (live a) from i_live V hn]; simp only [Option.bind_some]
  rw [bindL_brk (i_cls0 V hn)]
  let kk : Nat → Int := fun j => match j with | 0 => -1 | i + 1 => (refN a (cI a i) : Int)
  obtain ⟨o, e, j, rfl, hj⟩ := loopM_go (f := m_i_Automaton_classes_l1 a) (fun j s => s = (cI a j, kk j) ∧ (j : Int) ≤ kk j + 1) (fun o => ∃ j, o = .ret (cI a j) ∧ cI a (j + 1) = cI a j) (n + 2) (s := (cI a 0, -1)) (by
    rintro j s hj ⟨rfl, hjk⟩
    have hcl : (cI a j).length = n := by rw [cI_length, hlen]
    have hle := refN_le a (cI a j)
    unfold m_i_Automaton_classes_l1
    simp only
    rw [show m_i_Automaton_refine (a.1, a.2.1, a.2.2) (cI a j) = some (refn a (cI a j), (refN a (cI a j) : Int)) from i_refine V hn hcl]; simp only [Option.bind_some]
    cases j with
    | zero =>
      refine .inl ⟨by omega, (cI a 1, kk 1), by rw [if_neg (by show ¬ ((refN a (cI a 0) : Int) == -1) = true; simp)]; rfl, rfl, ?_⟩
      show (1 : Int) ≤ (refN a (cI a 0) : Int) + 1
      omega
    | succ i =>
      obtain ⟨g1, g2⟩ := cI_grow a i
      have hki : kk (i + 1) = (refN a (cI a i) : Int) := rfl
      rw [hki] at hjk ⊢
      by_cases h : refN a (cI a (i + 1)) = refN a (cI a i)
      · refine .inr ⟨.ret (cI a (i + 2)), by rw [if_pos (by simp [h])]; rfl, (fun s' e => by cases e), i + 2, rfl, ?_⟩
        have := g2 h
        show refn a (cI a (i + 2)) = cI a (i + 2)
        rw [this]; exact this
      · refine .inl ⟨?_, (cI a (i + 2), kk (i + 2)), by rw [if_neg (by simp; omega)]; rfl, rfl, ?_⟩
        · omega
        · show ((i + 1 + 1 : Nat) : Int) ≤ (refN a (cI a (i + 1)) : Int) + 1
          omega) ⟨rfl, by show ((0 : Nat) : Int) ≤ -1 + 1; omega⟩ (up63 (by omega))
  exact ⟨j, hj, bindL_ret e⟩
/-- the classes, the same by both -/
theorem classes_eq : ∃ c, m_s_l12Classes a = some c ∧ m_i_Automaton_classes a = some c ∧ c.length = n ∧ refn a c = c ∧ ∃ j, c = cI a j := by
  obtain ⟨J, hJ, es⟩ := s_classes V hn
  obtain ⟨J', hJ', ei⟩ := i_classes V hn
  have := cI_fix_eq hJ hJ'
  exact ⟨cI a J, es, by rw [this]; exact ei, by rw [cI_length, V.len], hJ, J, rfl⟩
end
end Go.Proofs.YtimjccbdngajoaaGreat.D
/- What is numbered is small. -/
set_option linter.unusedVariables false
set_option linter.unusedSimpArgs false
set_option linter.unnecessarySimpa false
set_option linter.unusedSectionVars false
namespace Go.Proofs.YtimjccbdngajoaaGreat.D
open Go.RowKit

theorem bound_ints (n : Nat) (l : List Int) (hd : l.Nodup) (h : ∀ x ∈ l, 0 ≤ x ∧ x < n) : l.length ≤ n := by
  have := hd.length_le_of_subset (l₂ := (List.range n).map Int.ofNat) (fun x hx => by
    obtain ⟨h0, h1⟩ := h x hx
    exact List.mem_map.2 ⟨x.toNat, List.mem_range.2 (by omega), by show ((x.toNat : Nat) : Int) = x; omega⟩)
  simpa using this
theorem iOk_in {n : Nat} {x : Int} (hn : n ≤ 1000000) (h0 : 0 ≤ x) (h1 : x < n) : iOk x = true := by
  have := iOk_nat (n := x.toNat) (by omega)
  rwa [show ((x.toNat : Nat) : Int) = x from by omega] at this
/-- the numbered automata are small -/
theorem num_sm {κ : Type} [DecidableEq κ] {nx : κ → List (Option κ)} {first : κ} {G : κ → Prop} {B N : Nat} {acc : κ → Bool} (H : NumOk nx first G B) (hB : B ≤ 1000000) (hN : bfE nx first N) : Data.sm ((0, (bfS nx first N).map acc, bfR nx first N) : AutT) := by
  have hl := H.bound _ (bfS_nodup (nx := nx) (first := first) N) (bfS_good H.g0 H.gn N)
  refine ⟨trivial, ⟨by rw [List.length_map]; omega, fun _ _ => trivial⟩, ?_, ?_⟩
  · rw [bfR_length hN.2]; have := hN.1; omega
  · have key : ∀ i, i ≤ N → ∀ r ∈ bfR nx first i, r.length = 9 := by
      intro i
      induction i with
      | zero => intro _ r hr; cases hr
      | succ i ih =>
        intro hi r hr
        have hlt := hN.2 i (by omega)
        rw [bfR_succ hlt] at hr
        rcases List.mem_append.1 hr with hr | hr
        · exact ih (by omega) r hr
        · obtain rfl := List.mem_singleton.1 hr
          rw [nbR_length, H.len _ (bfS_good H.g0 H.gn i _ (List.getElem_mem hlt))]
    intro r hr
    exact ⟨by rw [key N (Nat.le_refl _) r hr]; decide, fun _ _ => trivial⟩
theorem nothing_sm : Data.sm nothing := ⟨trivial, ⟨by decide, fun _ _ => trivial⟩, by decide, fun r hr => by
  obtain rfl := List.mem_singleton.1 hr
  exact ⟨by decide, fun _ _ => trivial⟩⟩
end Go.Proofs.YtimjccbdngajoaaGreat.D
/- The minimal automaton: the reference numbers representatives, the program numbers classes. -/
set_option linter.unusedVariables false
set_option linter.unusedSimpArgs false
set_option linter.unnecessarySimpa false
set_option linter.unusedSectionVars false
namespace Go.Proofs.YtimjccbdngajoaaGreat.D
open Go.RowKit

theorem i_index {l : List Int} {x : Int} (hl : l.length ≤ 1000000) (hx : x ∈ l) : m_i_Automaton_minimize_1 x l = some (nbI l (some x)) := by
  unfold m_i_Automaton_minimize_1 m_g_slices_Index_S_int_int
  obtain ⟨o, e, hq⟩ := loopM_go (f := m_g_slices_Index_S_int_int_l0 l x) (fun k s => s = (k : Int) ∧ x ∉ l.take k) (fun o => o = .ret (nbI l (some x))) l.length (s := 0) (by
    rintro k s hk ⟨rfl, hx'⟩
    unfold m_g_slices_Index_S_int_int_l0
    by_cases hkl : k < l.length
    · rw [if_pos (by simp; omega), getI_nth (by omega) (by omega)]; simp only [Option.bind_some]
      by_cases h : nth l (k : Int) = x
      · refine .inr ⟨_, by rw [if_pos (by simp [h])], (fun s' e => by cases e), ?_⟩
        have e : l = l.take k ++ (x :: l.drop (k + 1)) := by
          rw [← h, nth_nat hkl, ← List.drop_eq_getElem_cons hkl, List.take_append_drop]
        rw [nbI_first e hx', List.length_take, Nat.min_eq_left (by omega)]
      · have h' : ¬ x = nth l (k : Int) := fun e => h e.symm
        refine .inl ⟨hkl, _, by rw [if_neg (by simpa using h')], by rw [wrap_succ (by omega)], ?_⟩
        rw [take_one hkl, List.mem_append, List.mem_singleton]
        rintro (h' | h')
        · exact hx' h'
        · exact h h'.symm
    · rw [List.take_of_length_le (by omega)] at hx'
      exact absurd hx hx') ⟨rfl, by simp⟩ (up63 (by omega))
  subst hq
  rw [bindL_ret e]; rfl
section
variable {a : AutT} {n : Nat}
/-- the first state of a class -/
def rep (c : List Int) (x : Int) : Int := nbI c (some x)
theorem rep_ok {c : List Int} {x : Int} (h : x ∈ c) : 0 ≤ rep c x ∧ rep c x < c.length ∧ nth c (rep c x) = x := by
  obtain ⟨q, hq, e1, e2⟩ := nbI_mem h
  unfold rep
  rw [e1]
  exact ⟨by omega, by omega, by rw [nth_nat hq, e2]⟩
theorem minim_eq (V : VA a n) (hn : n ≤ 1000000) : ∃ r, m_s_l12Minimize a = some r ∧ m_i_Automaton_minimize a = some r ∧ Data.sm r := by
  have hlen := V.len
  have hst := V.start
  have hll : (live a).length = n := by rw [live_length, hlen]
  obtain ⟨c, es, ei, hcl, hfix, j, hj⟩ := classes_eq V hn
  have hneg : ∀ s : Int, 0 ≤ s → s < n → (nth c s < 0 ↔ nth (live a) s = false) := fun s h0 h1 => by
    have := (cI_neg a (s := s.toNat) (by omega) j).1
    rw [← hj, show ((s.toNat : Nat) : Int) = s from by omega] at this
    exact this
  have hlt : ∀ s : Int, 0 ≤ s → s < n → nth c s < n := fun s h0 h1 => by
    have := refn_lt (c := c) (a := a) (s := s.toNat) (by omega)
    rw [hfix, hlen, show ((s.toNat : Nat) : Int) = s from by omega] at this
    exact this
  have hpos : ∀ r, good n (live a) r → 0 ≤ nth c r := fun r hr => by
    have := hneg r hr.1 hr.2.1
    by_cases k : nth c r < 0
    · have := this.1 k; rw [hr.2.2] at this; cases this
    · omega
  -- states of one class are alike
  have hkey : ∀ r t : Int, 0 ≤ r → r < n → 0 ≤ t → t < n → 0 ≤ nth c r → nth c r = nth c t → keyL a c r = keyL a c t := fun r t r0 r1 t0 t1 h0 h => by
    have := refn_eq (a := a) (c := c) (s := r.toNat) (t := t.toNat) (by omega) (by omega) (by rw [hfix, show ((r.toNat : Nat) : Int) = r from by omega]; exact h0) (by rw [hfix, show ((r.toNat : Nat) : Int) = r from by omega, show ((t.toNat : Nat) : Int) = t from by omega]; exact h)
    rwa [show ((r.toNat : Nat) : Int) = r from by omega, show ((t.toNat : Nat) : Int) = t from by omega] at this
  have hacc : ∀ r t : Int, 0 ≤ r → r < n → 0 ≤ t → t < n → 0 ≤ nth c r → nth c r = nth c t → nth a.2.1 r = nth a.2.1 t := fun r t r0 r1 t0 t1 h0 h => by
    have := cI_acc a (s := r.toNat) (t := t.toNat) (by omega) (by omega) j (by rw [← hj, show ((r.toNat : Nat) : Int) = r from by omega]; exact h0) (by rw [← hj, show ((r.toNat : Nat) : Int) = r from by omega, show ((t.toNat : Nat) : Int) = t from by omega]; exact h)
    rwa [show ((r.toNat : Nat) : Int) = r from by omega, show ((t.toNat : Nat) : Int) = t from by omega] at this
  have hsuccs : ∀ r, good n (live a) r → succs a c (live a) r = (List.range 9).map fun k => if 0 ≤ ent a c r k then some (ent a c r k) else none := fun r hr => by
    refine List.map_congr_left fun k hk => ?_
    have hk : k < 9 := List.mem_range.1 hk
    have hm := V.mv hr.1 hr.2.1 hk
    unfold ent
    by_cases h : mv a r k < 0
    · rw [if_pos h, if_neg (fun h' => by omega), if_neg (by omega)]
    · rw [if_neg h]
      have := hneg (mv a r k) (by omega) hm.2
      cases hl : nth (live a) (mv a r k) with
      | false =>
        have := this.2 hl
        rw [if_neg (fun h' => by cases h'.2), if_neg (by omega)]
      | true =>
        have : ¬ nth c (mv a r k) < 0 := fun h' => by have := this.1 h'; rw [hl] at this; cases this
        rw [if_pos ⟨by omega, rfl⟩, if_pos (by omega)]
  have hent : ∀ r t : Int, keyL a c r = keyL a c t → ∀ k, k < 9 → ent a c r k = ent a c t k := fun r t h k hk => by
    have h : (List.range 9).map (fun k => ent a c r k) = (List.range 9).map (fun k => ent a c t k) := by unfold keyL at h; injection h
    have := congrArg (fun l : List Int => l[k]?) h
    simpa [hk] using this
  -- the keys that are numbered
  let nx : Int → List (Option Int) := fun x => succs a c (live a) (rep c x)
  let acc : Int → Bool := fun x => nth a.2.1 (rep c x)
  let G : Int → Prop := fun x => ∃ r, good n (live a) r ∧ nth c r = x
  have Gm : ∀ x, G x → x ∈ c ∧ 0 ≤ x ∧ good n (live a) (rep c x) := by
    rintro x ⟨r, hr, rfl⟩
    have hm : nth c r ∈ c := nth_mem hr.1 (by rw [hcl]; exact hr.2.1)
    obtain ⟨h0, h1, h2⟩ := rep_ok hm
    have hp := hpos r hr
    refine ⟨hm, hp, h0, by omega, ?_⟩
    have := hneg (rep c (nth c r)) h0 (by omega)
    rw [h2] at this
    cases hl : nth (live a) (rep c (nth c r)) with
    | true => rfl
    | false => have := this.2 hl; omega
  have hnx : ∀ r, good n (live a) r → nx (nth c r) = succs a c (live a) r := fun r hr => by
    obtain ⟨hm, hp, hg⟩ := Gm _ ⟨r, hr, rfl⟩
    obtain ⟨h0, h1, h2⟩ := rep_ok hm
    show succs a c (live a) (rep c (nth c r)) = _
    rw [hsuccs _ hg, hsuccs _ hr]
    refine List.map_congr_left fun k hk => ?_
    rw [hent _ _ (hkey _ _ hg.1 hg.2.1 hr.1 hr.2.1 (by rw [h2]; exact hp) h2) k (List.mem_range.1 hk)]
  have hac : ∀ r, good n (live a) r → acc (nth c r) = nth a.2.1 r := fun r hr => by
    obtain ⟨hm, hp, hg⟩ := Gm _ ⟨r, hr, rfl⟩
    obtain ⟨h0, h1, h2⟩ := rep_ok hm
    exact hacc _ _ hg.1 hg.2.1 hr.1 hr.2.1 (by rw [h2]; exact hp) h2
  have hgn : ∀ r, good n (live a) r → ∀ y, some y ∈ succs a c (live a) r → G y := fun r hr y h => by
    obtain ⟨k, hk, e⟩ := List.mem_map.1 h
    have hk : k < 9 := List.mem_range.1 hk
    split at e
    · rename_i hc
      exact ⟨mv a r k, ⟨hc.1, (V.mv hr.1 hr.2.1 hk).2, hc.2⟩, Option.some.inj e⟩
    · cases e
  unfold m_s_l12Minimize m_i_Automaton_minimize
  simp only [peta]
  rw [es, ei, s_live V hn]; simp only [Option.bind_some]
  rw [getI_nth hst.1 (by omega)]; simp only [Option.bind_some]
  cases hs : nth (live a) a.1 with
  | false =>
    have := (hneg a.1 hst.1 hst.2).2 hs
    rw [s_numb_dead V hll hs, if_pos (by simpa using this), i_nothing]
    exact ⟨nothing, rfl, rfl, nothing_sm⟩
  | true =>
    have hst' : good n (live a) a.1 := ⟨hst.1, hst.2, hs⟩
    have hp := hpos _ hst'
    have H : NumOk nx (nth c a.1) G n := ⟨⟨a.1, hst', rfl⟩, fun x hx y hy => hgn _ (Gm x hx).2.2 y hy, fun x hx => by simp [nx, succs], fun l hd h => bound_ints n l hd fun x hx => by
      obtain ⟨r, hr, rfl⟩ := h x hx
      exact ⟨hpos r hr, hlt r hr.1 hr.2.1⟩⟩
    obtain ⟨N, hN, e1⟩ := s_numb (acc := acc) V hn hcl hll hs H hn hnx hac
    have hfirst : ∀ x, G x → m_i_Automaton_minimize_1 x c = some (rep c x) := fun x hx => i_index (by omega) (Gm x hx).1
    obtain ⟨N', hN', e2⟩ := i_numb (most := (c.length : Int)) (p2 := fun a0 => m_i_Automaton_minimize_2 a0 (a.1, a.2.1, a.2.2) (fun a0 => m_i_Automaton_minimize_1 a0 c)) (p3 := fun a0 a1 => m_i_Automaton_minimize_3 a0 a1 (a.1, a.2.1, a.2.2) (fun a0 => m_i_Automaton_minimize_1 a0 c) c) (acc := acc) H hn (by omega) (fun x hx => iOk_in hn (Gm x hx).2.1 (by
        obtain ⟨r, hr, rfl⟩ := hx
        exact hlt r hr.1 hr.2.1)) (fun x hx => by
      show m_i_Automaton_minimize_2 x (a.1, a.2.1, a.2.2) (fun a0 => m_i_Automaton_minimize_1 a0 c) = _
      unfold m_i_Automaton_minimize_2
      simp only
      rw [hfirst x hx]; simp only [Option.bind_some]
      rw [V.acc (Gm x hx).2.2.1 (Gm x hx).2.2.2.1]; rfl) (fun x k hx hk => by
      obtain ⟨hm, hx0, hg⟩ := Gm x hx
      have hm' := V.mv hg.1 hg.2.1 hk
      refine ⟨0, ?_⟩
      show m_i_Automaton_minimize_3 x k (a.1, a.2.1, a.2.2) (fun a0 => m_i_Automaton_minimize_1 a0 c) c = _
      unfold m_i_Automaton_minimize_3
      simp only
      rw [hfirst x hx]; simp only [Option.bind_some]
      rw [show m_i_Automaton_move (a.1, a.2.1, a.2.2) (rep c x) k = some (mv a (rep c x) k) from i_move V hg.1 hg.2.1 hk]; simp only [Option.bind_some]
      show _ = some (match nth (succs a c (live a) (rep c x)) (k : Int) with | some y => (y, true) | none => (0, false))
      rw [succs_at hk]
      by_cases h : mv a (rep c x) k < 0
      · rw [if_pos (by simpa using h), if_neg (fun h' => by omega)]
      · rw [if_neg (by simpa using h), getI_nth (by omega) (by omega)]; simp only [Option.bind_some]
        have hng := hneg (mv a (rep c x) k) (by omega) hm'.2
        cases hl : nth (live a) (mv a (rep c x) k) with
        | false =>
          have := hng.2 hl
          rw [if_pos (by simpa using this), if_neg (fun h' => by cases h'.2)]
        | true =>
          have : ¬ nth c (mv a (rep c x) k) < 0 := fun h' => by have := hng.1 h'; rw [hl] at this; cases this
          rw [if_neg (by simpa using this), if_pos ⟨by omega, rfl⟩])
    obtain rfl := bfE_uniq hN hN'
    refine ⟨_, by rw [e1]; rfl, ?_, num_sm H hn hN⟩
    rw [if_neg (by simp; omega)]
    exact (congrArg (fun x => Option.bind x _) e2).trans rfl
end
end Go.Proofs.YtimjccbdngajoaaGreat.D
/- What is numbered is an automaton. -/
set_option linter.unusedVariables false
set_option linter.unusedSimpArgs false
set_option linter.unnecessarySimpa false
set_option linter.unusedSectionVars false
namespace Go.Proofs.YtimjccbdngajoaaGreat.D
open Go.RowKit
section
variable {κ : Type} [DecidableEq κ] [Inhabited κ] {nx : κ → List (Option κ)} {first : κ} {G : κ → Prop} {B N : Nat} {acc : κ → Bool}
theorem nbR_range : ∀ (l : List κ) (os : List (Option κ)), ∀ t ∈ nbR l os, -1 ≤ t ∧ t < ((nbS l os).length : Int)
  | l, [] => fun t ht => by cases ht
  | l, o :: os => fun t ht => by
    have hp := nbS_prefix (nbL l o) os
    have hl := hp.length_le
    rcases List.mem_cons.1 ht with rfl | ht
    · show -1 ≤ nbI l o ∧ nbI l o < ((nbS (nbL l o) os).length : Int)
      cases o with
      | none => exact ⟨by simp [nbI], by simp only [nbI]; omega⟩
      | some y =>
        by_cases c : y ∈ l
        · obtain ⟨q, hq, e, -⟩ := nbI_mem c
          rw [nbL_old c] at hl
          rw [e]; exact ⟨by omega, by rw [nbL_old c]; omega⟩
        · rw [nbL_new c] at hl
          rw [nbI_new c]; rw [List.length_append] at hl
          exact ⟨by omega, by rw [nbL_new c]; simp at hl; omega⟩
    · exact nbR_range (nbL l o) os t ht
theorem num_VA (H : NumOk nx first G B) (hN : bfE nx first N) : VA ((0, (bfS nx first N).map acc, bfR nx first N) : AutT) N := by
  have h0 : 0 < N := by
    have := bfS_first (nx := nx) (first := first) N
    have := (List.getElem?_eq_some_iff.1 this).1
    have := hN.1; omega
  have key : ∀ i, i ≤ N → ∀ r ∈ bfR nx first i, r.length = 9 ∧ ∀ t ∈ r, -1 ≤ t ∧ t < (N : Int) := by
    intro i
    induction i with
    | zero => intro _ r hr; cases hr
    | succ i ih =>
      intro hi r hr
      have hlt := hN.2 i (by omega)
      rw [bfR_succ hlt] at hr
      rcases List.mem_append.1 hr with hr | hr
      · exact ih (by omega) r hr
      · obtain rfl := List.mem_singleton.1 hr
        refine ⟨by rw [nbR_length, H.len _ (bfS_good H.g0 H.gn i _ (List.getElem_mem hlt))], fun t ht => ?_⟩
        have := nbR_range _ _ t ht
        rw [← bfS_succ hlt] at this
        have hl := (bfS_prefix (nx := nx) (first := first) hi).length_le
        have := hN.1
        omega
  exact ⟨by show ((bfS nx first N).map acc).length = N; rw [List.length_map]; exact hN.1.symm, ⟨Int.le_refl _, by show (0 : Int) < N; omega⟩, bfR_length hN.2, fun r hr => (key N (Nat.le_refl _) r hr).1, fun r hr => (key N (Nat.le_refl _) r hr).2⟩
theorem num_VA' (hlen : ∀ x, (nx x).length = 9) (hN : bfE nx first N) : VA ((0, (bfS nx first N).map acc, bfR nx first N) : AutT) N := by
  have h0 : 0 < N := by
    have := bfS_first (nx := nx) (first := first) N
    have := (List.getElem?_eq_some_iff.1 this).1
    have := hN.1; omega
  have key : ∀ i, i ≤ N → ∀ r ∈ bfR nx first i, r.length = 9 ∧ ∀ t ∈ r, -1 ≤ t ∧ t < (N : Int) := by
    intro i
    induction i with
    | zero => intro _ r hr; cases hr
    | succ i ih =>
      intro hi r hr
      have hlt := hN.2 i (by omega)
      rw [bfR_succ hlt] at hr
      rcases List.mem_append.1 hr with hr | hr
      · exact ih (by omega) r hr
      · obtain rfl := List.mem_singleton.1 hr
        refine ⟨by rw [nbR_length, hlen _], fun t ht => ?_⟩
        have := nbR_range _ _ t ht
        rw [← bfS_succ hlt] at this
        have hl := (bfS_prefix (nx := nx) (first := first) hi).length_le
        have := hN.1
        omega
  exact ⟨by show ((bfS nx first N).map acc).length = N; rw [List.length_map]; exact hN.1.symm, ⟨Int.le_refl _, by show (0 : Int) < N; omega⟩, bfR_length hN.2, fun r hr => (key N (Nat.le_refl _) r hr).1, fun r hr => (key N (Nat.le_refl _) r hr).2⟩
end
end Go.Proofs.YtimjccbdngajoaaGreat.D
/- Marks put into a result, and held there. No program text is named here. -/
set_option linter.unusedVariables false
set_option linter.unusedSimpArgs false
set_option linter.unnecessarySimpa false
set_option linter.unusedSectionVars false
namespace Go.Proofs.YtimjccbdngajoaaGreat.D
open Go.RowKit

section
variable {α : Type} [Inhabited α]
def smk (mk : α → Nat) : List α → Nat
  | [] => 0
  | x :: xs => mk x + smk mk xs
def mkd (mk : α → Nat) (m : α → Nat → α) : List α → Nat → List α
  | [], _ => []
  | x :: xs, k => m x k :: mkd mk m xs (k + mk x)
theorem smk_snoc (mk : α → Nat) : ∀ (xs : List α) (x : α), smk mk (xs ++ [x]) = smk mk xs + mk x
  | [], x => by simp [smk]
  | y :: xs, x => by simp [smk, smk_snoc mk xs x, Nat.add_assoc]
theorem mkd_snoc (mk : α → Nat) (m : α → Nat → α) : ∀ (xs : List α) (x : α) (k : Nat), mkd mk m (xs ++ [x]) k = mkd mk m xs k ++ [m x (k + smk mk xs)]
  | [], x, k => by simp [mkd, smk]
  | y :: xs, x, k => by simp [mkd, smk, mkd_snoc mk m xs x, Nat.add_assoc]
theorem mkd_length (mk : α → Nat) (m : α → Nat → α) : ∀ (xs : List α) (k : Nat), (mkd mk m xs k).length = xs.length
  | [], _ => rfl
  | x :: xs, k => by simp [mkd, mkd_length mk m xs]
theorem mkd_take (mk : α → Nat) (m : α → Nat → α) : ∀ (xs : List α) (k i : Nat), (mkd mk m xs k).take i = mkd mk m (xs.take i) k
  | [], _, _ => by simp [mkd]
  | x :: xs, k, 0 => by simp [mkd]
  | x :: xs, k, i + 1 => by simp [mkd, mkd_take mk m xs]
theorem takeS {xs : List α} {k : Nat} (h : k < xs.length) : xs.take (k + 1) = xs.take k ++ [nth xs (k : Int)] := by
  rw [List.take_succ_eq_append_getElem h, nth_nat h]
theorem mkd_at (mk : α → Nat) (m : α → Nat → α) (xs : List α) (k : Nat) {i : Nat} (h : i < xs.length) : nth (mkd mk m xs k) (i : Int) = m (nth xs (i : Int)) (k + smk mk (xs.take i)) := by
  have h' : i < (mkd mk m xs k).length := by rw [mkd_length]; exact h
  have e := takeS h'
  rw [mkd_take, mkd_take, takeS h, mkd_snoc] at e
  have := List.append_cancel_left e
  simpa using this.symm
theorem smk_take (mk : α → Nat) {xs : List α} {i : Nat} (h : i < xs.length) : smk mk (xs.take (i + 1)) = smk mk (xs.take i) + mk (nth xs (i : Int)) := by rw [takeS h, smk_snoc]
theorem smk_le (mk : α → Nat) : ∀ (xs : List α) (i : Nat), smk mk (xs.take i) ≤ smk mk xs
  | [], _ => by simp
  | x :: xs, 0 => by simp [smk]
  | x :: xs, i + 1 => by simp [smk]; exact smk_le mk xs i
theorem smk_bound (mk : α → Nat) {B : Nat} : ∀ (xs : List α), (∀ x ∈ xs, mk x ≤ B) → smk mk xs ≤ xs.length * B
  | [], _ => by simp [smk]
  | x :: xs, h => by
    have h1 := smk_bound mk xs fun y hy => h y (by simp [hy])
    have h2 := h x (by simp)
    simp only [smk, List.length_cons, Nat.add_mul, Nat.one_mul]; omega
theorem set_mid {xs ys : List α} {i : Nat} (hi : i < xs.length) (hl : ys.length = i) (x : α) : (ys ++ xs.drop i).set i x = ys ++ [x] ++ xs.drop (i + 1) := by
  rw [List.set_append_right _ _ (by omega), hl, Nat.sub_self, List.drop_eq_getElem_cons hi, List.set_cons_zero, List.append_assoc]; rfl
/-- putting marks into a row -/
theorem markL {R : Type} {f : List α × Int × Int → Option (Out R (List α × Int × Int))} (xs : List α) (mk : α → Nat) (m : α → Nat → α) (hN : xs.length ≤ 9223372036854775807) {k : Nat} (hk : k + smk mk xs ≤ 4611686018427387904)
    (hstep : ∀ ys (i k : Nat), i < xs.length → ys.length = xs.length → nth ys (i : Int) = nth xs (i : Int) → k + mk (nth xs (i : Int)) ≤ 4611686018427387904 → f (ys, (k : Int), (i : Int)) = some (.nxt (ys.set i (m (nth xs (i : Int)) k), ((k + mk (nth xs (i : Int)) : Nat) : Int), ((i + 1 : Nat) : Int))))
    (hend : ∀ ys (k : Nat), ys.length = xs.length → f (ys, (k : Int), (xs.length : Int)) = some (.brk (ys, (k : Int), (xs.length : Int)))) :
    loopM f FUEL (xs, (k : Int), 0) = some (.brk (mkd mk m xs k, ((k + smk mk xs : Nat) : Int), (xs.length : Int))) := by
  have hlen : ∀ i, i ≤ xs.length → (mkd mk m (xs.take i) k ++ xs.drop i).length = xs.length := fun i hi => by
    rw [List.length_append, mkd_length, List.length_take, List.length_drop]; omega
  have := loopM_at (f := f) (fun i => (mkd mk m (xs.take i) k ++ xs.drop i, ((k + smk mk (xs.take i) : Nat) : Int), (i : Int))) xs.length (fun i hi => by
    have hl : (mkd mk m (xs.take i) k).length = i := by rw [mkd_length, List.length_take]; omega
    have hle := smk_le mk xs (i + 1)
    rw [smk_take mk hi] at hle
    rw [hstep _ i (k + smk mk (xs.take i)) hi (hlen i (by omega)) ?_ (by omega), set_mid hi hl, takeS hi, mkd_snoc, smk_snoc, Nat.add_assoc]
    have h' : i < (mkd mk m (xs.take i) k ++ xs.drop i).length := by rw [hlen i (by omega)]; exact hi
    rw [nth_nat h', nth_nat hi, List.getElem_append_right (by omega)]
    simp [hl]) (by
    have := hend (mkd mk m (xs.take xs.length) k ++ xs.drop xs.length) (k + smk mk (xs.take xs.length)) (hlen _ (Nat.le_refl _))
    exact this) (up63 hN)
  simpa [mkd, smk] using this
/-- finding them there -/
theorem heldL {f : Int × Int → Option (Out Int (Int × Int))} (xs : List α) (mk : α → Nat) (m : α → Nat → α) (hN : xs.length ≤ 9223372036854775807) {k : Nat} (hk : k + smk mk xs ≤ 4611686018427387904)
    (hstep : ∀ (i k' : Nat), i < xs.length → nth (mkd mk m xs k) (i : Int) = m (nth xs (i : Int)) k' → k' + mk (nth xs (i : Int)) ≤ 4611686018427387904 → f ((k' : Int), (i : Int)) = some (.nxt (((k' + mk (nth xs (i : Int)) : Nat) : Int), ((i + 1 : Nat) : Int))))
    (hend : ∀ (k' : Nat), f ((k' : Int), (xs.length : Int)) = some (.brk ((k' : Int), (xs.length : Int)))) :
    loopM f FUEL ((k : Int), 0) = some (.brk (((k + smk mk xs : Nat) : Int), (xs.length : Int))) := by
  have := loopM_at (f := f) (fun i => (((k + smk mk (xs.take i) : Nat) : Int), (i : Int))) xs.length (fun i hi => by
    have hle := smk_le mk xs (i + 1)
    rw [smk_take mk hi] at hle
    rw [hstep i (k + smk mk (xs.take i)) hi (mkd_at mk m xs k hi) (by omega), smk_take mk hi, Nat.add_assoc]) (hend _) (up63 hN)
  simpa [smk] using this
end
/-- marks of a type: how many, what is left, what is found -/
def MkOk {α β : Type} [Data α] (mark : α → Int → Option (Int × β)) (held : α → β → Int → Option Int) (B : Nat) : Prop :=
  ∀ x, Data.sm x → ∃ c : Nat, c ≤ B ∧ ∀ k : Nat, k + c ≤ 4611686018427387904 → ∃ y, mark x (k : Int) = some (((k + c : Nat) : Int), y) ∧ held x y (k : Int) = some ((k + c : Nat) : Int)
end Go.Proofs.YtimjccbdngajoaaGreat.D
/- Marks in automata. -/
set_option linter.unusedVariables false
set_option linter.unusedSimpArgs false
set_option linter.unnecessarySimpa false
namespace Go.Proofs.YtimjccbdngajoaaGreat.D
open Go.RowKit

theorem mark_BoolS (xs : List Bool) (hN : xs.length ≤ 9223372036854775807) {k : Nat} (hk : k + smk (fun _ => 1) xs ≤ 4611686018427387904) : m_w_markBoolS xs (k : Int) = some (((k + smk (fun _ => 1) xs : Nat) : Int), mkd (fun _ => 1) (fun _ k => (Int.tmod (k : Int) 3) == 0) xs k) ∧ m_w_heldBoolS (mkd (fun _ => 1) (fun _ k => (Int.tmod (k : Int) 3) == 0) xs k) (k : Int) = some ((k + smk (fun _ => 1) xs : Nat) : Int) := by
  constructor
  · unfold m_w_markBoolS
    rw [bindL_brk (markL (f := m_w_markBoolS_l0) xs (fun _ => 1) (fun _ k => (Int.tmod (k : Int) 3) == 0) hN hk (fun ys i k hi hl _ hk => by
      unfold m_w_markBoolS_l0
      simp only
      rw [if_pos (by simp; omega), getI_nth (by omega) (by omega)]; simp only [Option.bind_some, Int.toNat_natCast, wrap_succ (show i < 9223372036854775807 by omega), wrap_succ (show k < 9223372036854775807 by omega)]) (fun ys k hl => by
      unfold m_w_markBoolS_l0
      simp only
      rw [if_neg (by simp; omega)]))]
  · unfold m_w_heldBoolS
    rw [bindL_brk (heldL (f := m_w_heldBoolS_l0 _) xs (fun _ => 1) (fun _ k => (Int.tmod (k : Int) 3) == 0) hN hk (fun i k' hi he hk => by
      unfold m_w_heldBoolS_l0
      simp only
      rw [if_pos (by simp [mkd_length]; omega), getI_nth (by omega) (by rw [mkd_length]; omega), he]; simp only [Option.bind_some, bne_self_eq_false, Bool.false_eq_true, if_false, wrap_succ (show i < 9223372036854775807 by omega), wrap_succ (show k' < 9223372036854775807 by omega)]) (fun k' => by
      unfold m_w_heldBoolS_l0
      simp only
      rw [if_neg (by simp [mkd_length])]))]
def mInts (xs : List Int) (k : Nat) : List Int := mkd (fun _ => 1) (fun _ k => (k : Int)) xs k
theorem mark_IntS (xs : List Int) (hN : xs.length ≤ 9223372036854775807) {k : Nat} (hk : k + smk (fun _ => 1) xs ≤ 4611686018427387904) : m_w_markIntS xs (k : Int) = some (((k + smk (fun _ => 1) xs : Nat) : Int), mInts xs k) ∧ m_w_heldIntS (mInts xs k) (k : Int) = some ((k + smk (fun _ => 1) xs : Nat) : Int) := by
  unfold mInts
  constructor
  · unfold m_w_markIntS
    rw [bindL_brk (markL (f := m_w_markIntS_l0) xs (fun _ => 1) (fun _ k => (k : Int)) hN hk (fun ys i k hi hl _ hk => by
      unfold m_w_markIntS_l0
      simp only
      rw [if_pos (by simp; omega), getI_nth (by omega) (by omega)]; simp only [Option.bind_some, Int.toNat_natCast, wrap_succ (show i < 9223372036854775807 by omega), wrap_succ (show k < 9223372036854775807 by omega)]) (fun ys k hl => by
      unfold m_w_markIntS_l0
      simp only
      rw [if_neg (by simp; omega)]))]
  · unfold m_w_heldIntS
    rw [bindL_brk (heldL (f := m_w_heldIntS_l0 _) xs (fun _ => 1) (fun _ k => (k : Int)) hN hk (fun i k' hi he hk => by
      unfold m_w_heldIntS_l0
      simp only
      rw [if_pos (by simp [mkd_length]; omega), getI_nth (by omega) (by rw [mkd_length]; omega), he]; simp only [Option.bind_some, bne_self_eq_false, Bool.false_eq_true, if_false, wrap_succ (show i < 9223372036854775807 by omega), wrap_succ (show k' < 9223372036854775807 by omega)]) (fun k' => by
      unfold m_w_heldIntS_l0
      simp only
      rw [if_neg (by simp [mkd_length])]))]
def nInts (xs : List Int) : Nat := smk (fun _ => 1) xs
theorem mark_IntSS (xs : List (List Int)) (hN : xs.length ≤ 9223372036854775807) (hx : ∀ x ∈ xs, x.length ≤ 9223372036854775807) {k : Nat} (hk : k + smk nInts xs ≤ 4611686018427387904) : m_w_markIntSS xs (k : Int) = some (((k + smk nInts xs : Nat) : Int), mkd nInts mInts xs k) ∧ m_w_heldIntSS (mkd nInts mInts xs k) (k : Int) = some ((k + smk nInts xs : Nat) : Int) := by
  constructor
  · unfold m_w_markIntSS
    rw [bindL_brk (markL (f := m_w_markIntSS_l0) xs nInts mInts hN hk (fun ys i k hi hl he hk => by
      unfold m_w_markIntSS_l0
      simp only
      rw [if_pos (by simp; omega), getI_nth (by omega) (by omega), he]; simp only [Option.bind_some]
      rw [(mark_IntS _ (hx _ (nth_mem (by omega) (by omega))) hk).1]; simp only [Option.bind_some, Int.toNat_natCast, wrap_succ (show i < 9223372036854775807 by omega)]
      rfl) (fun ys k hl => by
      unfold m_w_markIntSS_l0
      simp only
      rw [if_neg (by simp; omega)]))]
  · unfold m_w_heldIntSS
    rw [bindL_brk (heldL (f := m_w_heldIntSS_l0 _) xs nInts mInts hN hk (fun i k' hi he hk => by
      unfold m_w_heldIntSS_l0
      simp only
      rw [if_pos (by simp [mkd_length]; omega), getI_nth (by omega) (by rw [mkd_length]; omega), he]; simp only [Option.bind_some]
      rw [(mark_IntS _ (hx _ (nth_mem (by omega) (by omega))) hk).2]; simp only [Option.bind_some]
      rw [if_neg (by simp; omega), wrap_succ (show i < 9223372036854775807 by omega)]
      rfl) (fun k' => by
      unfold m_w_heldIntSS_l0
      simp only
      rw [if_neg (by simp [mkd_length])]))]
theorem mk_Automaton : MkOk m_w_markAutomaton (fun x y k => m_w_heldAutomaton (x.1, y.2.1, y.2.2) k) 1099512676352 := by
  rintro ⟨s, bs, ns⟩ ⟨-, ⟨ha, -⟩, hn, hr⟩
  have ha : bs.length ≤ 1048576 := ha
  have hn : ns.length ≤ 1048576 := hn
  have b1 := smk_bound (fun _ : Bool => 1) (B := 1) bs (by simp)
  have b2 := smk_bound nInts (B := 1048576) ns fun x hx => by
    have h1 := smk_bound (fun _ : Int => 1) (B := 1) x (by simp)
    have h2 : x.length ≤ 1048576 := (hr x hx).1
    unfold nInts; omega
  have b3 : ns.length * 1048576 ≤ 1048576 * 1048576 := Nat.mul_le_mul_right _ hn
  refine ⟨smk (fun _ => 1) bs + smk nInts ns, by omega, fun k hk => ?_⟩
  obtain ⟨e1, e2⟩ := mark_BoolS bs (by omega) (k := k) (by omega)
  obtain ⟨e3, e4⟩ := mark_IntSS ns (by omega) (fun x hx => by have : x.length ≤ 1048576 := (hr x hx).1; omega) (k := k + smk (fun _ => 1) bs) (by omega)
  refine ⟨(s, mkd (fun _ => 1) (fun _ k => (Int.tmod (k : Int) 3) == 0) bs k, mkd nInts mInts ns (k + smk (fun _ => 1) bs)), ?_, ?_⟩
  · unfold m_w_markAutomaton
    simp only
    rw [e1]; simp only [Option.bind_some]
    rw [e3]; simp only [Option.bind_some, Nat.add_assoc]
  · unfold m_w_heldAutomaton
    simp only
    rw [e2]; simp only [Option.bind_some]
    rw [if_neg (by simp; omega), e4]; simp only [Option.bind_some]
    rw [if_neg (by simp; omega), Nat.add_assoc]
end Go.Proofs.YtimjccbdngajoaaGreat.D
/- The reference and the program compile an expression to the same automaton. -/
set_option linter.unusedVariables false
set_option linter.unusedSimpArgs false
set_option linter.unnecessarySimpa false
set_option linter.unusedSectionVars false
namespace Go.Proofs.YtimjccbdngajoaaGreat.D
open Go.RowKit

theorem zero_sm' : Data.sm ((0, [], []) : AutT) := ⟨trivial, ⟨by decide, fun _ h => by cases h⟩, by decide, fun _ h => by cases h⟩
theorem goM_end {κ : Type} [DecidableEq κ] {nx : κ → List (Option κ)} {first : κ} {acc : κ → Bool} {most : Nat} : ∀ (f i : Nat), (∀ j, j < i → j < (bfS nx first j).length) → (bfS nx first i).length ≤ most → goM nx first acc most f i = ((0, [], []), false) ∨ ∃ N, bfE nx first N ∧ N ≤ most ∧ goM nx first acc most f i = ((0, (bfS nx first N).map acc, bfR nx first N), true)
  | 0, i, _, _ => .inl rfl
  | f + 1, i, h, hl => by
    have hle := seen_le h
    rw [goM]
    by_cases c : i < (bfS nx first i).length
    · rw [if_pos c]
      by_cases d : (bfS nx first (i + 1)).length > most
      · rw [if_pos d]; exact .inl rfl
      · rw [if_neg d]
        exact goM_end f (i + 1) (fun j hj => by
          by_cases e : j = i
          · subst e; exact c
          · exact h j (by omega)) (by omega)
    · rw [if_neg c]
      exact .inr ⟨i, ⟨by omega, h⟩, by omega, by rw [List.take_of_length_le (by omega)]⟩
theorem compile_both {e : List Tok} (he : e.length ≤ 1048576) : ∃ r : AutT × Bool, m_s_CompileExpr e = some r ∧ m_i_CompileExpr e = some r ∧ Data.sm r.1 := by
  obtain ⟨⟨p, b⟩, e1, e2, h1, h2⟩ := buildPositions_both he
  have h1 : p.2.2.2.1.length = p.1.length := h1
  have h2 : p.1.length ≤ 100000 := h2
  unfold m_s_CompileExpr m_i_CompileExpr
  rw [e1, e2]; simp only [Option.bind_some, peta]
  cases b with
  | false => exact ⟨((0, [], []), false), rfl, rfl, zero_sm'⟩
  | true =>
    have d1 := s_det (p := p) (most := 200) h1 (by omega) (by omega) (by omega)
    have d2 := i_det (p := p) (most := 200) h1 (by omega) (by omega) (by omega)
    have d1 : m_s_l11Subsets p 200 = _ := d1
    have d2 : m_i_determinize p 200 = _ := d2
    rw [d1, d2]; simp only [if_true, Option.bind_some]
    rcases goM_end (nx := nxS p) (first := 1) (acc := accP1 p) (most := 200) (200 + 2) 0 (fun j hj => by omega) (by simp [bfS]) with e | ⟨N, hN, hNm, e⟩
    · rw [e]
      exact ⟨((0, [], []), false), rfl, rfl, zero_sm'⟩
    · rw [e]; simp only [if_true]
      have V := num_VA' (acc := accP1 p) (nxS_len p) hN
      obtain ⟨r, es, ei, hr⟩ := minim_eq V (by omega)
      unfold m_i_small
      rw [es]; simp only [Option.bind_some, peta]
      rw [ei]; simp only [Option.bind_some, peta]
      by_cases c : (r.2.1.length : Int) > 12
      · have c' : decide ((r.2.1.length : Int) > 12) = true := decide_eq_true c
        simp only [c', if_true, Option.bind_some]
        exact ⟨((0, [], []), false), rfl, rfl, zero_sm'⟩
      · have c' : decide ((r.2.1.length : Int) > 12) = false := decide_eq_false c
        simp only [c', Bool.false_eq_true, if_false, Option.bind_some]
        exact ⟨(r, true), rfl, rfl, hr⟩
theorem compile_any {e : List Tok} (he : e.length ≤ 1048576) : ∃ r : AutT × Bool, m_s_CompileExpr e = some r ∧ m_i_CompileExpr e = some r ∧ Data.sm r.1 := compile_both he
theorem getI_setX {α : Type} {xs : List α} {i : Nat} {x : α} (h : i < xs.length) : getI (xs.set i x) (i : Int) = some x := by
  unfold getI
  rw [if_pos (by omega)]
  simp [h]
end Go.Proofs.YtimjccbdngajoaaGreat.D
/- Automata, expressions and registries compared; registries built. -/
set_option linter.unusedVariables false
set_option linter.unusedSimpArgs false
set_option linter.unnecessarySimpa false
set_option linter.unusedSectionVars false
set_option synthInstance.maxSize 20000
set_option synthInstance.maxHeartbeats 2000000
namespace Go.Proofs.YtimjccbdngajoaaGreat.D
open Go.RowKit

theorem q_sBools {α : Type} {f : Int → Option (Out Bool Int)} {K : Option Bool} (xs ys : List Bool) (hN : xs.length ≤ 9223372036854775807) (hl : xs.length = ys.length)
    (hf : ∀ i (h : i < xs.length) (h' : i < ys.length), f (i : Int) = some (if xs[i] = ys[i] then .nxt ((i + 1 : Nat) : Int) else .ret false)) (he : f (xs.length : Int) = some (.brk (xs.length : Int))) :
    bindL (loopM f FUEL 0) (fun r => some r) (fun s4 => K) = (if xs = ys then K else some false) := eqB xs ys hN hl hf he
theorem q_sAutomata (x y : AutT) (hx : Data.sm x) : m_s_EqualAutomata x y = some (decide (x = y)) := by
  obtain ⟨-, ⟨ha, -⟩, hn, hr⟩ := hx
  unfold m_s_EqualAutomata
  by_cases c1 : x.1 = y.1
  case neg => rw [if_pos (by simpa using c1)]; simp [Prod.ext_iff, c1]
  rw [if_neg (by simpa using c1)]
  by_cases c2 : x.2.1.length = y.2.1.length
  case neg => rw [if_pos (by simp; omega)]; simp [Prod.ext_iff]; exact fun _ e => absurd (by rw [e]) c2
  rw [if_neg (by simp; omega)]
  by_cases c3 : x.2.2.length = y.2.2.length
  case neg => rw [if_pos (by simp; omega)]; simp [Prod.ext_iff]; exact fun _ _ e => absurd (by rw [e]) c3
  rw [if_neg (by simp; omega)]
  rw [eqB (f := m_s_EqualAutomata_l0 x y) x.2.1 y.2.1 (by omega) c2 (fun i h h' => by
    simp only [m_s_EqualAutomata_l0, lt_nat h, if_true, getI_nat h, getI_nat h', Option.bind_some, wrap_succ (show i < 9223372036854775807 by omega)]
    by_cases c : x.2.1[i] = y.2.1[i] <;> simp [c]) (by simp only [m_s_EqualAutomata_l0, lt_self]; rfl)]
  by_cases c4 : x.2.1 = y.2.1
  case neg => rw [if_neg c4]; simp [Prod.ext_iff, c4]
  rw [if_pos c4]
  rw [eqB (f := m_s_EqualAutomata_l1 x y) x.2.2 y.2.2 (by omega) c3 (fun i h h' => by
    obtain ⟨r, e, hr'⟩ := q_l2Cmp x.2.2[i] y.2.2[i] ((hr _ (List.getElem_mem h)).1)
    simp only [m_s_EqualAutomata_l1, lt_nat h, if_true, getI_nat h, getI_nat h', Option.bind_some, wrap_succ (show i < 9223372036854775807 by omega), e]
    by_cases c : x.2.2[i] = y.2.2[i]
    · rw [if_neg (by simpa using hr'.2 c), if_pos c]
    · rw [if_pos (by simpa using fun e => c (hr'.1 e)), if_neg c]) (by simp only [m_s_EqualAutomata_l1, lt_self]; rfl)]
  by_cases c5 : x.2.2 = y.2.2
  · rw [if_pos c5]; simp [Prod.ext_iff, c1, c4, c5]
  · rw [if_neg c5]; simp [Prod.ext_iff, c5]
theorem q_iBools (xs ys : List Bool) (hN : xs.length ≤ 9223372036854775807) : m_g_slices_Equal_S_bool_bool xs ys = some (decide (xs = ys)) :=
  eqL (f := m_g_slices_Equal_S_bool_bool_l0 xs ys) xs ys hN (fun i h h' => by
    simp only [m_g_slices_Equal_S_bool_bool_l0, lt_nat h, if_true, getI_nat h, getI_nat h', Option.bind_some, wrap_succ (show i < 9223372036854775807 by omega)]
    by_cases c : xs[i] = ys[i] <;> simp [c]) (by simp only [m_g_slices_Equal_S_bool_bool_l0, lt_self]; rfl)
theorem q_iAutomata (x y : AutT) (hx : Data.sm x) : m_i_EqualAutomata x y = some (decide (x = y)) := by
  obtain ⟨-, ⟨ha, -⟩, hn, hr⟩ := hx
  unfold m_i_EqualAutomata
  by_cases c1 : x.1 = y.1
  case neg => rw [if_neg (by simpa using c1)]; simp [Prod.ext_iff, c1]
  rw [if_pos (by simpa using c1), q_iBools _ _ (by omega)]; simp only [Option.bind_some]
  by_cases c2 : x.2.1 = y.2.1
  case neg => rw [if_neg (by simpa using c2)]; simp [Prod.ext_iff, c2]
  rw [if_pos (by simpa using c2)]
  have : m_g_slices_EqualFunc_S_S_int_S_S_int_S_int_S_int x.2.2 y.2.2 (fun a0 a1 => m_i_EqualAutomata_1 a0 a1) = some (decide (x.2.2 = y.2.2)) :=
    eqL (f := m_g_slices_EqualFunc_S_S_int_S_S_int_S_int_S_int_l0 x.2.2 y.2.2 _) x.2.2 y.2.2 (by omega) (fun i h h' => by
      simp only [m_g_slices_EqualFunc_S_S_int_S_S_int_S_int_S_int_l0, lt_nat h, if_true, getI_nat h, getI_nat h', Option.bind_some, wrap_succ (show i < 9223372036854775807 by omega), m_i_EqualAutomata_1]
      rw [q_sliceEq _ _ (by have : x.2.2[i].length ≤ 1048576 := (hr _ (List.getElem_mem h)).1; omega)]; simp only [Option.bind_some]
      by_cases c : x.2.2[i] = y.2.2[i] <;> simp [c]) (by simp only [m_g_slices_EqualFunc_S_S_int_S_S_int_S_int_S_int_l0, lt_self]; rfl)
  rw [this]
  by_cases c3 : x.2.2 = y.2.2 <;> simp [Prod.ext_iff, c1, c2, c3]

abbrev QT := Int × List Tok × Int
abbrev RegT := List AutT × List QT
theorem q_sExprs (x y : List Tok) (hx : x.length ≤ 1048576) : m_s_EqualExprs x y = some (decide (x = y)) := by
  unfold m_s_EqualExprs
  exact eqL (f := m_s_EqualExprs_l0 x y) x y (by omega) (fun i h h' => by
    simp only [m_s_EqualExprs_l0 , lt_nat h, if_true, getI_nat h, getI_nat h', Option.bind_some, peta, wrap_succ (show i < 9223372036854775807 by omega)]
    refine iteOpt ?_; simp only [Bool.and_true, Bool.and_eq_true, beq_iff_eq]; exact peq4) (by simp only [m_s_EqualExprs_l0 , lt_self]; rfl)
theorem q_iTokens (x y : List Tok) (hx : x.length ≤ 1048576) : m_g_slices_Equal_S_Token_Token x y = some (decide (x = y)) := by
  unfold m_g_slices_Equal_S_Token_Token
  exact eqL (f := m_g_slices_Equal_S_Token_Token_l0 x y) x y (by omega) (fun i h h' => by
    simp only [m_g_slices_Equal_S_Token_Token_l0 , lt_nat h, if_true, getI_nat h, getI_nat h', Option.bind_some, peta, wrap_succ (show i < 9223372036854775807 by omega)]
    refine iteOpt ?_; simp only [Bool.and_true, Bool.and_eq_true, beq_iff_eq]; exact peq4) (by simp only [m_g_slices_Equal_S_Token_Token_l0 , lt_self]; rfl)
theorem q_iExprs (x y : List Tok) (hx : x.length ≤ 1048576) : m_i_EqualExprs x y = some (decide (x = y)) := by
  unfold m_i_EqualExprs
  rw [q_iTokens x y hx]; rfl
theorem q_sRegistries (x y : RegT) (hx : Data.sm x) : m_s_EqualRegistries x y = some (decide (x = y)) := by
  obtain ⟨⟨ha, hA⟩, hq, hQ⟩ := hx
  unfold m_s_EqualRegistries
  by_cases h1 : x.1.length = y.1.length
  · by_cases h2 : x.2.length = y.2.length
    · rw [if_neg (by rw [h1]; simp), if_neg (by rw [h2]; simp)]
      rw [eqB (f := m_s_EqualRegistries_l0 x y) x.1 y.1 (by omega) h1 (fun i h h' => by
        simp only [m_s_EqualRegistries_l0, lt_nat h, if_true, getI_nat h, getI_nat h', Option.bind_some, peta, q_sAutomata x.1[i] y.1[i] (hA _ (List.getElem_mem h)), wrap_succ (show i < 9223372036854775807 by omega)]
        exact iteOpt (by simp)) (by simp only [m_s_EqualRegistries_l0, lt_self]; rfl)]
      rw [eqB (f := m_s_EqualRegistries_l1 x y) x.2 y.2 (by omega) h2 (fun i h h' => by
        have e := q_sExprs x.2[i].2.1 y.2[i].2.1 (hQ _ (List.getElem_mem h)).2.1.1
        simp only [m_s_EqualRegistries_l1, lt_nat h, if_true, getI_nat h, getI_nat h', Option.bind_some, e, wrap_succ (show i < 9223372036854775807 by omega)]
        generalize x.2[i] = u; generalize y.2[i] = v
        by_cases e1 : u.1 = v.1 <;> by_cases e2 : u.2.1 = v.2.1 <;> by_cases e3 : u.2.2 = v.2.2 <;> simp [Prod.ext_iff, e1, e2, e3]) (by simp only [m_s_EqualRegistries_l1, lt_self]; rfl)]
      by_cases e1 : x.1 = y.1 <;> by_cases e2 : x.2 = y.2 <;> simp [Prod.ext_iff, e1, e2]
    · have : x.2 ≠ y.2 := fun e => h2 (by rw [e])
      rw [if_neg (by rw [h1]; simp), if_pos (by simp; omega)]; simp [Prod.ext_iff, this]
  · have : x.1 ≠ y.1 := fun e => h1 (by rw [e])
    rw [if_pos (by simp; omega)]; simp [Prod.ext_iff, this]
theorem q_iQueries (x y : QT) (hx : Data.sm x) : m_i_equalQueries x y = some (decide (x = y)) := by
  unfold m_i_equalQueries
  rw [q_iExprs x.2.1 y.2.1 hx.2.1.1]; simp only [Option.bind_some]
  by_cases h1 : x.1 = y.1 <;> by_cases h2 : x.2.1 = y.2.1 <;> by_cases h3 : x.2.2 = y.2.2 <;> simp [Prod.ext_iff, h1, h2, h3]
theorem q_iRegistries (x y : RegT) (hx : Data.sm x) : m_i_EqualRegistries x y = some (decide (x = y)) := by
  obtain ⟨⟨ha, hA⟩, hq, hQ⟩ := hx
  unfold m_i_EqualRegistries
  have e : m_g_slices_EqualFunc_S_Automaton_S_Automaton_Automaton_Automaton x.1 y.1 (fun a0 a1 => m_i_EqualAutomata a0 a1) = some (decide (x.1 = y.1)) :=
    eqL (f := m_g_slices_EqualFunc_S_Automaton_S_Automaton_Automaton_Automaton_l0 x.1 y.1 _) x.1 y.1 (by omega) (fun i h h' => by
      simp only [m_g_slices_EqualFunc_S_Automaton_S_Automaton_Automaton_Automaton_l0, lt_nat h, if_true, getI_nat h, getI_nat h', Option.bind_some, peta, wrap_succ (show i < 9223372036854775807 by omega), q_iAutomata x.1[i] y.1[i] (hA _ (List.getElem_mem h))]
      exact iteOpt (by simp)) (by simp only [m_g_slices_EqualFunc_S_Automaton_S_Automaton_Automaton_Automaton_l0, lt_self]; rfl)
  have e' : m_g_slices_EqualFunc_S_Registered_S_Registered_Registered_Registered x.2 y.2 (fun a0 a1 => m_i_equalQueries a0 a1) = some (decide (x.2 = y.2)) :=
    eqL (f := m_g_slices_EqualFunc_S_Registered_S_Registered_Registered_Registered_l0 x.2 y.2 _) x.2 y.2 (by omega) (fun i h h' => by
      simp only [m_g_slices_EqualFunc_S_Registered_S_Registered_Registered_Registered_l0, lt_nat h, if_true, getI_nat h, getI_nat h', Option.bind_some, peta, wrap_succ (show i < 9223372036854775807 by omega), q_iQueries x.2[i] y.2[i] (hQ _ (List.getElem_mem h))]
      exact iteOpt (by simp)) (by simp only [m_g_slices_EqualFunc_S_Registered_S_Registered_Registered_Registered_l0, lt_self]; rfl)
  rw [e, e']; simp only [Option.bind_some]
  by_cases h1 : x.1 = y.1 <;> by_cases h2 : x.2 = y.2 <;> simp [Prod.ext_iff, h1, h2]

/-! ### Two loops that do the same -/
theorem loopM_same {R S : Type} {f g : S → Option (Out R S)} (Inv : Nat → S → Prop) (h : ∀ i s, Inv i s → g s = f s ∧ ∀ s', f s = some (.nxt s') → Inv (i + 1) s') : ∀ (k i : Nat) (s : S), Inv i s → loopM g k s = loopM f k s
  | 0, _, _, _ => rfl
  | k + 1, i, s, hI => by
    obtain ⟨h1, h2⟩ := h i s hI
    rw [loopM, loopM, h1]
    cases e : f s with
    | none => rfl
    | some o =>
      cases o with
      | nxt s' => exact loopM_same Inv h k (i + 1) s' (h2 s' e)
      | brk s' => rfl
      | ret r => rfl
theorem idx_both {f g : Int → Option (Out Int Int)} (N : Nat) (hN : N ≤ 1048576) (h : ∀ i : Nat, i < N → f (i : Int) = some (.ret (i : Int)) ∨ f (i : Int) = some (.nxt ((i + 1 : Nat) : Int))) (he : f (N : Int) = some (.brk (N : Int))) (hfg : ∀ i : Nat, i ≤ N → g (i : Int) = f (i : Int)) :
    ∃ r : Int, bindL (loopM f FUEL 0) (fun r => some r) (fun _ => some (-1)) = some r ∧ bindL (loopM g FUEL 0) (fun r => some r) (fun _ => some (-1)) = some r ∧ (r = -1 ∨ ∃ i : Nat, i < N ∧ r = (i : Int)) := by
  have hs : loopM g FUEL 0 = loopM f FUEL 0 := loopM_same (fun i s => s = (i : Int) ∧ i ≤ N) (fun i s ⟨e, hi⟩ => by
    subst e
    refine ⟨hfg i hi, fun s' e => ?_⟩
    by_cases c : i < N
    · rcases h i c with e2 | e2
      · rw [e2] at e; cases e
      · rw [e2] at e; cases e; exact ⟨rfl, c⟩
    · obtain rfl : i = N := by omega
      rw [he] at e; cases e) FUEL 0 0 ⟨rfl, Nat.zero_le _⟩
  rw [hs]
  obtain ⟨o, e, ho⟩ := loopM_go (f := f) (fun i s => s = (i : Int)) (fun o => o = .brk (N : Int) ∨ ∃ i : Nat, i < N ∧ o = .ret (i : Int)) N (fun i s hi hs => by
    subst hs
    by_cases h1 : i < N
    · rcases h i h1 with h2 | h2
      · exact .inr ⟨_, h2, (fun s' e => by cases e), .inr ⟨i, h1, rfl⟩⟩
      · exact .inl ⟨h1, _, h2, rfl⟩
    · obtain rfl : i = N := by omega
      exact .inr ⟨_, he, (fun s' e => by cases e), .inl rfl⟩) (s := 0) rfl (fuelUp _ (by omega))
  rw [e]
  rcases ho with rfl | ⟨i, hi, rfl⟩
  · exact ⟨-1, rfl, rfl, .inl rfl⟩
  · exact ⟨i, rfl, rfl, .inr ⟨i, hi, rfl⟩⟩
theorem index_both (l : List AutT) (a : AutT) (hl : l.length ≤ 1048576) (hs : ∀ x ∈ l, Data.sm x) (ha : Data.sm a) : ∃ r : Int, m_s_l31Index l a = some r ∧ m_g_slices_IndexFunc_S_Automaton_Automaton l (fun a0 => m_i_shared_1 a0 a) = some r ∧ (r = -1 ∨ ∃ i : Nat, i < l.length ∧ r = (i : Int)) := by
  unfold m_s_l31Index m_g_slices_IndexFunc_S_Automaton_Automaton
  have hf : ∀ i (h : i < l.length), m_s_l31Index_l0 l a (i : Int) = if l[i] = a then some (.ret (i : Int)) else some (.nxt ((i + 1 : Nat) : Int)) := fun i h => by
    simp only [m_s_l31Index_l0, lt_nat h, if_true, getI_nat h, Option.bind_some, peta, q_sAutomata l[i] a (hs _ (List.getElem_mem h)), wrap_succ (show i < 9223372036854775807 by omega)]
    by_cases c : l[i] = a <;> simp [c]
  refine idx_both l.length hl (fun i h => ?_) (by simp only [m_s_l31Index_l0, lt_self]; rfl) (fun i hi => ?_)
  · rw [hf i h]; by_cases c : l[i] = a <;> simp [c]
  · by_cases h : i < l.length
    · rw [hf i h]
      simp only [m_g_slices_IndexFunc_S_Automaton_Automaton_l0, m_i_shared_1, lt_nat h, if_true, getI_nat h, Option.bind_some, peta, q_iAutomata a l[i] ha, wrap_succ (show i < 9223372036854775807 by omega)]
      by_cases c : l[i] = a
      · simp [c]
      · have : ¬ a = l[i] := fun e => c e.symm
        simp [c, this]
    · obtain rfl : i = l.length := by omega
      simp only [m_s_l31Index_l0, m_g_slices_IndexFunc_S_Automaton_Automaton_l0, lt_self]; rfl
theorem find_both (r : RegT) (id : Int) (hl : r.2.length ≤ 1048576) : ∃ k : Int, m_s_FindQuery r id = some k ∧ m_i_FindQuery r id = some k ∧ (k = -1 ∨ ∃ i : Nat, i < r.2.length ∧ k = (i : Int)) := by
  unfold m_s_FindQuery m_i_FindQuery m_g_slices_IndexFunc_S_Registered_Registered
  have hf : ∀ i (h : i < r.2.length), m_s_FindQuery_l0 r id (i : Int) = if r.2[i].1 = id then some (.ret (i : Int)) else some (.nxt ((i + 1 : Nat) : Int)) := fun i h => by
    simp only [m_s_FindQuery_l0, lt_nat h, if_true, getI_nat h, Option.bind_some, wrap_succ (show i < 9223372036854775807 by omega)]
    by_cases c : r.2[i].1 = id <;> simp [c]
  obtain ⟨k, e1, e2, h⟩ := idx_both (f := m_s_FindQuery_l0 r id) (g := m_g_slices_IndexFunc_S_Registered_Registered_l0 r.2 fun a0 => m_i_FindQuery_1 a0 id) r.2.length hl (fun i h => by
    rw [hf i h]; by_cases c : r.2[i].1 = id <;> simp [c]) (by simp only [m_s_FindQuery_l0, lt_self]; rfl) (fun i hi => by
    by_cases h : i < r.2.length
    · rw [hf i h]
      simp only [m_g_slices_IndexFunc_S_Registered_Registered_l0, m_i_FindQuery_1, lt_nat h, if_true, getI_nat h, Option.bind_some, wrap_succ (show i < 9223372036854775807 by omega)]
      by_cases c : r.2[i].1 = id <;> simp [c]
    · obtain rfl : i = r.2.length := by omega
      simp only [m_s_FindQuery_l0, m_g_slices_IndexFunc_S_Registered_Registered_l0, lt_self]; rfl)
  refine ⟨k, e1, ?_, h⟩
  rw [e2]; rfl

/-! ### The registry of some queries -/
def RegIn (n i : Nat) (s : Int × List AutT × List QT) : Prop := s.1 = (i : Int) ∧ i ≤ n ∧ s.2.2.length = i ∧ s.2.1.length ≤ i ∧ (∀ a ∈ s.2.1, Data.sm a) ∧ ∀ q ∈ s.2.2, Data.sm q ∧ 0 ≤ q.2.2 ∧ q.2.2 < (s.2.1.length : Int)
theorem reg_step {qs : List QT} (hq : Data.sm qs) {i : Nat} {s : Int × List AutT × List QT} (hI : RegIn qs.length i s) : m_i_shared_l0 qs s = m_s_l31Build_l0 qs s ∧
    ((i < qs.length ∧ ∃ s', m_s_l31Build_l0 qs s = some (.nxt s') ∧ RegIn qs.length (i + 1) s') ∨ ∃ o, m_s_l31Build_l0 qs s = some o ∧ (∀ s', o ≠ .nxt s') ∧ (o = .ret (([], []), false) ∨ o = .brk s ∧ i = qs.length)) := by
  obtain ⟨hn, hs⟩ := sm_list hq
  obtain ⟨s1, A, Q⟩ := s
  obtain ⟨h1, h2, h3, h4, h5, h6⟩ := hI
  simp only at h1 h3 h4 h5 h6
  subst h1
  by_cases hi : i < qs.length
  · have hqi := hs _ (List.getElem_mem hi)
    obtain ⟨r, es, ei, hr⟩ := compile_any (e := qs[i].2.1) hqi.2.1.1
    obtain ⟨k, ks, ki, hk⟩ := index_both A r.1 (by omega) h5 hr
    have a1 : appI 56 A [r.1] = some (A ++ [r.1]) := appI_ok (by simp; omega)
    have a2 : ∀ y, appI 40 Q [y] = some (Q ++ [y]) := fun y => appI_ok (by simp; omega)
    have a3 : m_s_l8Copy qs[i].2.1 = some qs[i].2.1 := by unfold m_s_l8Copy; rw [appI_ok (by have := hqi.2.1.1; simp; omega)]; rfl
    have a4 : m_i_copyExpr qs[i].2.1 = some qs[i].2.1 := by unfold m_i_copyExpr; rw [appI_ok (by have := hqi.2.1.1; simp; omega)]; rfl
    unfold m_i_shared_l0 m_s_l31Build_l0
    simp only [lt_nat hi, if_true, getI_nat hi, Option.bind_some, es, ei, s_in, i_in, peta, ks, ki, a1, a2, a3, a4, wrap_succ (show i < 9223372036854775807 by omega)]
    by_cases c1 : r.2 = true
    case neg =>
      simp only [c1, Bool.false_eq_true, if_false]
      exact ⟨by first | trivial | rfl, .inr ⟨_, rfl, (fun s' e => by cases e), .inl rfl⟩⟩
    simp only [c1, if_true]
    by_cases c2 : 1 ≤ qs[i].1 ∧ qs[i].1 ≤ 99
    case neg =>
      simp only [c2, decide_false, Bool.false_eq_true, if_false]
      exact ⟨by first | trivial | rfl, .inr ⟨_, rfl, (fun s' e => by cases e), .inl rfl⟩⟩
    simp only [c2, decide_true, if_true]
    have fin : ∃ s' : Int × List AutT × List QT, (∀ (y : Option (Out (RegT × Bool) (Int × List AutT × List QT))), True) ∧ (Option.bind (if decide (k < 0) then some ((A.length : Int), A ++ [r.1], Q) else some (k, A, Q)) fun s10 : Int × List AutT × List QT => (appI 40 s10.2.2 [(qs[i].1, qs[i].2.1, s10.1)]).bind fun z18 => some (.nxt (((i + 1 : Nat) : Int), s10.2.1, z18)) : Option (Out (RegT × Bool) (Int × List AutT × List QT))) = some (.nxt s') ∧ RegIn qs.length (i + 1) s' := by
      rcases hk with rfl | ⟨j, hj, rfl⟩
      · refine ⟨(((i + 1 : Nat) : Int), A ++ [r.1], Q ++ [(qs[i].1, qs[i].2.1, (A.length : Int))]), fun _ => trivial, ?_, rfl, hi, by simp; omega, by simp; omega, fun a ha => ?_, fun q hq' => ?_⟩
        · simp only [show decide ((-1 : Int) < 0) = true from rfl, if_true, Option.bind_some, a2]
        · simp only [List.mem_append, List.mem_singleton] at ha
          rcases ha with ha | rfl
          · exact h5 a ha
          · exact hr
        · simp only [List.mem_append, List.mem_singleton] at hq'
          simp only [List.length_append, List.length_singleton]
          rcases hq' with hq' | rfl
          · obtain ⟨b1, b2, b3⟩ := h6 q hq'
            exact ⟨b1, b2, by omega⟩
          · exact ⟨⟨trivial, hqi.2.1, trivial⟩, by simp, by simp; omega⟩
      · refine ⟨(((i + 1 : Nat) : Int), A, Q ++ [(qs[i].1, qs[i].2.1, (j : Int))]), fun _ => trivial, ?_, rfl, hi, by simp; omega, by simp only; omega, h5, fun q hq' => ?_⟩
        · have : decide ((j : Int) < 0) = false := by simp
          simp only [this, Bool.false_eq_true, if_false, Option.bind_some, a2]
        · simp only [List.mem_append, List.mem_singleton] at hq'
          rcases hq' with hq' | rfl
          · exact h6 q hq'
          · exact ⟨⟨trivial, hqi.2.1, trivial⟩, by simp, by simp; omega⟩
    obtain ⟨s', -, e, hI'⟩ := fin
    by_cases c3 : (i : Int) > 0
    · have hp : i - 1 < qs.length := by omega
      have hw : IntKind.i64.wrap ((i : Int) - 1) = ((i - 1 : Nat) : Int) := by rw [wrap_pred (by omega)]; omega
      simp only [c3, decide_true, if_true, hw, getI_nat hp, Option.bind_some]
      by_cases c4 : qs[i - 1].1 ≥ qs[i].1
      · simp only [c4, decide_true, if_true]
        exact ⟨by first | trivial | rfl, .inr ⟨_, rfl, (fun s' e => by cases e), .inl rfl⟩⟩
      · simp only [c4, decide_false, Bool.false_eq_true, if_false]
        exact ⟨by first | trivial | rfl, .inl ⟨hi, s', e, hI'⟩⟩
    · simp only [c3, decide_false, Bool.false_eq_true, if_false]
      exact ⟨by first | trivial | rfl, .inl ⟨hi, s', e, hI'⟩⟩
  · obtain rfl : i = qs.length := by omega
    unfold m_i_shared_l0 m_s_l31Build_l0
    simp only [lt_self, Bool.false_eq_true, if_false]
    exact ⟨by first | trivial | rfl, .inr ⟨_, rfl, (fun s' e => by cases e), .inr (by first | exact ⟨rfl, rfl⟩ | exact ⟨trivial, rfl⟩ | exact ⟨rfl, trivial⟩ | simp)⟩⟩
def RegOk (r : RegT) : Prop := Data.sm r ∧ ∀ q ∈ r.2, 0 ≤ q.2.2 ∧ q.2.2 < (r.1.length : Int)
theorem reg_both {qs : List QT} (hq : Data.sm qs) : ∃ r : RegT, ∃ b : Bool, m_s_l31Build qs = (if (qs.length : Int) > 4 then some (([], []), false) else some (r, b)) ∧ m_i_shared qs = some (r, b && decide ((qs.length : Int) ≤ 4)) ∧ RegOk r := by
  have hn := (sm_list hq).1
  have h0 : RegIn qs.length 0 (0, [], []) := ⟨rfl, Nat.zero_le _, rfl, Nat.le_refl _, fun _ h => (by cases h), fun _ h => (by cases h)⟩
  have hs : loopM (m_i_shared_l0 qs) FUEL (0, [], []) = loopM (m_s_l31Build_l0 qs) FUEL (0, [], []) := loopM_same (RegIn qs.length) (fun i s hI => by
    obtain ⟨e, h⟩ := reg_step hq hI
    refine ⟨e, fun s' e' => ?_⟩
    rcases h with ⟨_, s2, e2, hI2⟩ | ⟨o, e2, hne, -⟩
    · rw [e2] at e'; cases e'; exact hI2
    · rw [e2] at e'; cases e'; exact absurd rfl (hne s')) FUEL 0 _ h0
  obtain ⟨o, e, ho⟩ := loopM_go (f := m_s_l31Build_l0 qs) (RegIn qs.length) (fun o => o = .ret (([], []), false) ∨ ∃ A Q, o = .brk ((qs.length : Int), A, Q) ∧ RegIn qs.length qs.length ((qs.length : Int), A, Q)) qs.length (fun i s hi hI => by
    rcases (reg_step hq hI).2 with h | ⟨o, e, hne, h⟩
    · exact .inl h
    · refine .inr ⟨o, e, hne, ?_⟩
      rcases h with h | ⟨h, rfl⟩
      · exact .inl h
      · obtain ⟨s1, A, Q⟩ := s
        obtain ⟨rfl, -⟩ := id hI
        exact .inr ⟨A, Q, h, hI⟩) h0 (fuelUp _ (by omega))
  unfold m_s_l31Build m_i_shared
  rw [hs, e]
  rcases ho with rfl | ⟨A, Q, rfl, -, -, h3, h4, h5, h6⟩
  · refine ⟨([], []), false, ?_, rfl, ⟨⟨Nat.zero_le _, fun _ h => (by cases h)⟩, Nat.zero_le _, fun _ h => (by cases h)⟩, fun _ h => (by cases h)⟩
    by_cases c : (qs.length : Int) > 4 <;> simp [c, bindL]
  · simp only at h3 h4 h5 h6
    refine ⟨(A, Q), true, ?_, by simp [bindL], ⟨⟨show A.length ≤ 1048576 by omega, h5⟩, show Q.length ≤ 1048576 by omega, fun q h => (h6 q h).1⟩, fun q h => (h6 q h).2⟩
    by_cases c : (qs.length : Int) > 4 <;> simp [c, bindL]
theorem valid_both {r : RegT} (hr : Data.sm r) : ∃ b, m_s_IsValidRegistry r = some b ∧ m_i_IsValidRegistry r = some b ∧ (b = true → RegOk r) := by
  obtain ⟨x, b, e1, e2, hx⟩ := reg_both hr.2
  unfold m_s_IsValidRegistry m_i_IsValidRegistry
  rw [e1, e2]
  by_cases c : (r.2.length : Int) > 4
  · have c' : ¬ (r.2.length : Int) ≤ 4 := by omega
    exact ⟨false, by simp [c], by simp [c'], fun e => by cases e⟩
  · have c' : (r.2.length : Int) ≤ 4 := by omega
    cases b with
    | false => exact ⟨false, by simp [c], by simp, fun e => by cases e⟩
    | true =>
      simp only [c, if_false, Option.bind_some, if_true, c', decide_true, Bool.and_true, peta, q_sRegistries x r hx.1, q_iRegistries x r hx.1]
      exact ⟨_, rfl, rfl, fun e => by rw [← of_decide_eq_true e]; exact hx⟩
end Go.Proofs.YtimjccbdngajoaaGreat.D
/- Automata copied; queries asked for their automaton. -/
set_option linter.unusedVariables false
set_option linter.unusedSimpArgs false
set_option linter.unnecessarySimpa false
set_option linter.unusedSectionVars false
set_option synthInstance.maxSize 20000
set_option synthInstance.maxHeartbeats 2000000
namespace Go.Proofs.YtimjccbdngajoaaGreat.D
open Go.RowKit

theorem s_copyA (a : AutT) (ha : Data.sm a) : m_s_l11Copy a = some a := by
  obtain ⟨-, ⟨hb, -⟩, hn, hr⟩ := ha
  unfold m_s_l11Copy
  rw [appI_ok (by simp; omega)]; simp only [Option.bind_some, List.nil_append]
  have := loopM_at (f := m_s_l11Copy_l0 a) (fun i => ((i : Int), a.1, a.2.1, a.2.2.take i)) a.2.2.length (fun i hi => by
    unfold m_s_l11Copy_l0
    have h1 : appI 8 ([] : List Int) a.2.2[i] = some a.2.2[i] := by rw [appI_ok (by have : a.2.2[i].length ≤ 1048576 := (hr _ (List.getElem_mem hi)).1; simp; omega)]; rfl
    simp only [lt_nat hi, if_true, getI_nat hi, Option.bind_some, h1, wrap_succ (show i < 9223372036854775807 by omega)]
    rw [appI_ok (by simp; omega)]
    simp only [Option.bind_some]
    rw [List.take_succ_eq_append_getElem hi]) (by
    unfold m_s_l11Copy_l0
    simp only [lt_self, Bool.false_eq_true, if_false]) (fuelUp _ (by omega))
  have e : loopM (m_s_l11Copy_l0 a) FUEL (0, a.1, a.2.1, []) = _ := this
  rw [e]
  simp only [bindL, List.take_length]
theorem i_copyA (a : AutT) (ha : Data.sm a) : m_i_copyAutomaton a = some a := by
  obtain ⟨-, ⟨hb, -⟩, hn, hr⟩ := ha
  unfold m_i_copyAutomaton
  rw [appI_ok (by simp; omega)]; simp only [Option.bind_some, List.nil_append]
  have := loopM_at (f := m_i_copyAutomaton_l0 a) (fun i => ((i : Int), a.1, a.2.1, a.2.2.take i)) a.2.2.length (fun i hi => by
    unfold m_i_copyAutomaton_l0 m_i_copyInts
    have h1 : appI 8 ([] : List Int) a.2.2[i] = some a.2.2[i] := by rw [appI_ok (by have : a.2.2[i].length ≤ 1048576 := (hr _ (List.getElem_mem hi)).1; simp; omega)]; rfl
    simp only [lt_nat hi, if_true, getI_nat hi, Option.bind_some, h1, wrap_succ (show i < 9223372036854775807 by omega)]
    rw [appI_ok (by simp; omega)]
    simp only [Option.bind_some]
    rw [List.take_succ_eq_append_getElem hi]) (by
    unfold m_i_copyAutomaton_l0
    simp only [lt_self, Bool.false_eq_true, if_false]) (fuelUp _ (by omega))
  have e : loopM (m_i_copyAutomaton_l0 a) FUEL (0, a.1, a.2.1, []) = _ := this
  rw [e]
  simp only [bindL, List.take_length]
theorem query_both {r : RegT} (hr : Data.sm r) (id : Int) : ∃ x : AutT × Bool, m_s_QueryAutomaton r id = some x ∧ m_i_QueryAutomaton r id = some x ∧ Data.sm x.1 := by
  obtain ⟨k, f1, f2, hk⟩ := find_both r id (sm_list hr.2).1
  obtain ⟨b, v1, v2, hv⟩ := valid_both hr
  unfold m_s_QueryAutomaton m_i_QueryAutomaton
  simp only [f1, f2, v1, v2, Option.bind_some, peta]
  rcases hk with rfl | ⟨i, hi, rfl⟩
  · refine ⟨((0, [], []), false), ?_, ?_, zero_sm'⟩
    · cases b <;> rfl
    · rfl
  · have hk : decide ((i : Int) < 0) = false := by simp
    cases b with
    | false => exact ⟨((0, [], []), false), by simp [hk], by simp [hk], zero_sm'⟩
    | true =>
      obtain ⟨hs, hq⟩ := hv rfl
      obtain ⟨q1, q2⟩ := hq _ (List.getElem_mem hi)
      have e1 : getI r.1 r.2[i].2.2 = some (nth r.1 r.2[i].2.2) := getI_nth q1 q2
      have hm : Data.sm (nth r.1 r.2[i].2.2) := (sm_list hs.1).2 _ (nth_mem q1 q2)
      simp only [if_true, hk, Bool.false_eq_true, if_false, getI_nat hi, Option.bind_some, e1, peta, s_copyA _ hm, i_copyA _ hm]
      exact ⟨_, rfl, rfl, hm⟩
end Go.Proofs.YtimjccbdngajoaaGreat.D
/- Marks put into registries. -/
set_option linter.unusedVariables false
set_option linter.unusedSimpArgs false
set_option linter.unnecessarySimpa false
set_option linter.unusedSectionVars false
set_option synthInstance.maxSize 20000
set_option synthInstance.maxHeartbeats 2000000
namespace Go.Proofs.YtimjccbdngajoaaGreat.D
open Go.RowKit

def mBools (xs : List Bool) (k : Nat) : List Bool := mkd (fun _ => 1) (fun _ k => (Int.tmod (k : Int) 3) == 0) xs k
def nBools (xs : List Bool) : Nat := smk (fun _ => 1) xs
def nAut (a : AutT) : Nat := 1 + nBools a.2.1 + smk nInts a.2.2
def mAut (a : AutT) (k : Nat) : AutT := ((k : Int), mBools a.2.1 (k + 1), mkd nInts mInts a.2.2 (k + 1 + nBools a.2.1))
theorem nAut_le {a : AutT} (ha : Data.sm a) : nAut a ≤ 1099512676354 := by
  obtain ⟨-, ⟨hb, -⟩, hn, hr⟩ := ha
  have b1 := smk_bound (fun _ : Bool => 1) (B := 1) a.2.1 (by simp)
  have b2 := smk_bound nInts (B := 1048576) a.2.2 fun x hx => by
    have h1 := smk_bound (fun _ : Int => 1) (B := 1) x (by simp)
    have h2 : x.length ≤ 1048576 := (hr x hx).1
    unfold nInts; omega
  have b3 : a.2.2.length * 1048576 ≤ 1048576 * 1048576 := Nat.mul_le_mul_right _ hn
  unfold nAut nBools; omega
theorem mark_AutomatonS (xs : List AutT) (hx : Data.sm xs) {k : Nat} (hk : k + smk nAut xs ≤ 4611686018427387904) : m_w_markAutomatonS xs (k : Int) = some (((k + smk nAut xs : Nat) : Int), mkd nAut mAut xs k) := by
  obtain ⟨hN, hs⟩ := sm_list hx
  unfold m_w_markAutomatonS
  rw [bindL_brk (markL (f := m_w_markAutomatonS_l0) xs nAut mAut (by omega) hk (fun ys i k hi hl he hk => by
    obtain ⟨-, ⟨hb, -⟩, hn, hr⟩ := hs _ (nth_mem (xs := xs) (i := (i : Int)) (by omega) (by omega))
    unfold m_w_markAutomatonS_l0
    have hi' : i < ys.length := by omega
    generalize hz : nth xs (i : Int) = z at *
    have hk' : k + (1 + nBools z.2.1 + smk nInts z.2.2) ≤ 4611686018427387904 := hk
    have m1 : m_w_markBoolS z.2.1 ((k + 1 : Nat) : Int) = some (((k + 1 + nBools z.2.1 : Nat) : Int), mBools z.2.1 (k + 1)) := (mark_BoolS z.2.1 (by omega) (k := k + 1) (by unfold nBools at hk'; omega)).1
    have m2 : m_w_markIntSS z.2.2 ((k + 1 + nBools z.2.1 : Nat) : Int) = some (((k + 1 + nBools z.2.1 + smk nInts z.2.2 : Nat) : Int), mkd nInts mInts z.2.2 (k + 1 + nBools z.2.1)) := (mark_IntSS z.2.2 (by omega) (fun x hx => by have : x.length ≤ 1048576 := (hr x hx).1; omega) (k := k + 1 + nBools z.2.1) (by omega)).1
    simp only
    rw [if_pos (by simp; omega), getI_nth (by omega) (by omega), he]
    simp only [Option.bind_some, Int.toNat_natCast, getI_setX hi', List.set_set, wrap_succ (show k < 9223372036854775807 by omega), wrap_succ (show i < 9223372036854775807 by omega), m1, m2]
    have e : k + nAut z = k + 1 + nBools z.2.1 + smk nInts z.2.2 := by unfold nAut; omega
    rw [e]; rfl) (fun ys k hl => by
    unfold m_w_markAutomatonS_l0
    simp only
    rw [if_neg (by simp; omega)]))]
def mTok (_ : Tok) (k : Nat) : Tok := ((k : Int), ((k + 1 : Nat) : Int), ((k + 1 + 1 : Nat) : Int), ((k + 1 + 1 + 1 : Nat) : Int))
theorem mark_TokenS (xs : List Tok) (hN : xs.length ≤ 1048576) {k : Nat} (hk : k + smk (fun _ => 4) xs ≤ 4611686018427387904) : m_w_markTokenS xs (k : Int) = some (((k + smk (fun _ => 4) xs : Nat) : Int), mkd (fun _ => 4) mTok xs k) := by
  unfold m_w_markTokenS
  rw [bindL_brk (markL (f := m_w_markTokenS_l0) xs (fun _ => 4) mTok (by omega) hk (fun ys i k hi hl _ hk => by
    unfold m_w_markTokenS_l0
    have hi' : i < ys.length := by omega
    simp only
    rw [if_pos (by simp; omega), getI_nth (by omega) (by omega)]
    simp only [Option.bind_some, Int.toNat_natCast, getI_setX hi', List.set_set, wrap_succ (show i < 9223372036854775807 by omega), wrap_succ (show k < 9223372036854775807 by omega), wrap_succ (show k + 1 < 9223372036854775807 by omega), wrap_succ (show k + 1 + 1 < 9223372036854775807 by omega), wrap_succ (show k + 1 + 1 + 1 < 9223372036854775807 by omega)]
    rfl) (fun ys k hl => by
    unfold m_w_markTokenS_l0
    simp only
    rw [if_neg (by simp; omega)]))]
def nTok (xs : List Tok) : Nat := smk (fun _ => 4) xs
def nQ (q : QT) : Nat := 1 + nTok q.2.1 + 1
def mQ (q : QT) (k : Nat) : QT := ((k : Int), mkd (fun _ => 4) mTok q.2.1 (k + 1), ((k + 1 + nTok q.2.1 : Nat) : Int))
theorem nQ_le {q : QT} (hq : Data.sm q) : nQ q ≤ 4194306 := by
  have b1 := smk_bound (fun _ : Tok => 4) (B := 4) q.2.1 (by simp)
  have b2 : q.2.1.length ≤ 1048576 := hq.2.1.1
  unfold nQ nTok; omega
theorem mark_RegisteredS (xs : List QT) (hx : Data.sm xs) {k : Nat} (hk : k + smk nQ xs ≤ 4611686018427387904) : m_w_markRegisteredS xs (k : Int) = some (((k + smk nQ xs : Nat) : Int), mkd nQ mQ xs k) := by
  obtain ⟨hN, hs⟩ := sm_list hx
  unfold m_w_markRegisteredS
  rw [bindL_brk (markL (f := m_w_markRegisteredS_l0) xs nQ mQ (by omega) hk (fun ys i k hi hl he hk => by
    have hn : (nth xs (i : Int)).2.1.length ≤ 1048576 := (hs _ (nth_mem (xs := xs) (i := (i : Int)) (by omega) (by omega))).2.1.1
    unfold m_w_markRegisteredS_l0
    have hi' : i < ys.length := by omega
    generalize hz : nth xs (i : Int) = z at *
    have hk' : k + (1 + nTok z.2.1 + 1) ≤ 4611686018427387904 := hk
    have m1 : m_w_markTokenS z.2.1 ((k + 1 : Nat) : Int) = some (((k + 1 + nTok z.2.1 : Nat) : Int), mkd (fun _ => 4) mTok z.2.1 (k + 1)) := mark_TokenS z.2.1 hn (k := k + 1) (by unfold nTok at hk'; omega)
    simp only
    rw [if_pos (by simp; omega), getI_nth (by omega) (by omega), he]
    simp only [Option.bind_some, Int.toNat_natCast, getI_setX hi', List.set_set, wrap_succ (show k < 9223372036854775807 by omega), wrap_succ (show i < 9223372036854775807 by omega), m1, wrap_succ (show k + 1 + nTok z.2.1 < 9223372036854775807 by omega)]
    have e : k + nQ z = k + 1 + nTok z.2.1 + 1 := by unfold nQ; omega
    rw [e]; rfl) (fun ys k hl => by
    unfold m_w_markRegisteredS_l0
    simp only
    rw [if_neg (by simp; omega)]))]
theorem nReg_le {r : RegT} (hr : Data.sm r) : smk nAut r.1 + smk nQ r.2 ≤ 1152927002968948736 := by
  obtain ⟨h1, h2⟩ := sm_list hr.1
  obtain ⟨h3, h4⟩ := sm_list hr.2
  have b1 := smk_bound nAut (B := 1099512676354) r.1 fun x hx => nAut_le (h2 x hx)
  have b2 := smk_bound nQ (B := 4194306) r.2 fun x hx => nQ_le (h4 x hx)
  have b3 : r.1.length * 1099512676354 ≤ 1048576 * 1099512676354 := Nat.mul_le_mul_right _ h1
  have b4 : r.2.length * 4194306 ≤ 1048576 * 4194306 := Nat.mul_le_mul_right _ h3
  omega
def mReg (r : RegT) (k : Nat) : RegT := (mkd nAut mAut r.1 k, mkd nQ mQ r.2 (k + smk nAut r.1))
theorem mark_Registry {r : RegT} (hr : Data.sm r) {k : Nat} (hk : k ≤ 1000000) : m_w_markRegistry r (k : Int) = some (((k + smk nAut r.1 + smk nQ r.2 : Nat) : Int), mReg r k) := by
  have := nReg_le hr
  unfold m_w_markRegistry
  rw [mark_AutomatonS r.1 hr.1 (k := k) (by omega)]; simp only [Option.bind_some]
  rw [mark_RegisteredS r.2 hr.2 (k := k + smk nAut r.1) (by omega)]; rfl
end Go.Proofs.YtimjccbdngajoaaGreat.D
/- The plain law of QueryAutomaton. -/
set_option linter.unusedVariables false
set_option linter.unusedSimpArgs false
set_option linter.unnecessarySimpa false
set_option linter.unusedSectionVars false
set_option synthInstance.maxSize 20000
set_option synthInstance.maxHeartbeats 2000000
namespace Go.Proofs.YtimjccbdngajoaaGreat.D
open Go.RowKit

theorem lawQueryAutomaton (x : RegT) (id : Int) (hx : Data.lim x) (_ : Data.lim id) : m_w_FnExactQueryAutomaton x id = some true := by
  unfold m_w_FnExactQueryAutomaton
  simp only [peta]
  obtain ⟨r1, e1, k1⟩ := z_szRegistry x 1048576 hx (by decide) (by decide)
  rw [e1]; simp only [Option.bind_some]
  rcases k1 with k1 | ⟨k1, j1, s1⟩
  · rw [if_pos (decide_eq_true k1)]
  rw [if_neg (by simpa using k1)]
  obtain ⟨r, es, ei, sr⟩ := query_both s1 id
  have em1 := mark_Registry s1 (k := 1) (by omega)
  obtain ⟨c2, hc2, hm2⟩ := mk_Automaton r.1 sr
  obtain ⟨y2, em2, eh2⟩ := hm2 1 (by omega)
  have em1 : m_w_markRegistry x 1 = _ := em1
  have em2 : m_w_markAutomaton r.1 1 = _ := em2
  have eh2 : m_w_heldAutomaton (r.1.1, y2.2.1, y2.2.2) 1 = _ := eh2
  simp only [t_toRegistry x s1, es, ei, q_eqAutomaton r.1 r.1 sr sr, q_eqRegistry x x s1 s1, Option.bind_some, peta, em1, em2, eh2, decide_true, if_true]
  have n1 : ¬ ((1 + smk nAut x.1 + smk nQ x.2 : Nat) : Int) < 0 := by omega
  have n2 : ¬ ((1 + c2 : Nat) : Int) < 0 := by omega
  simp only [decide_eq_true_eq, n1, n2, if_false, bne_self_eq_false, Bool.false_eq_true]
end Go.Proofs.YtimjccbdngajoaaGreat.D
/- From 'the call returns true and changes nothing that was there' to the row's own post, whatever the arguments' types. -/
set_option linter.unusedVariables false
set_option linter.unusedSimpArgs false
namespace Go.Proofs.YtimjccbdngajoaaGreat
open Go.ChangeShapes Go.WideShapes Go.ChangeAt Go.RowKit
theorem own : ownKnob Tryz.prog.godebug = none := by kernel_rfl
theorem laidOut : laidOutB Tryz.prog = true := by kernel_rfl
theorem below_trodAll {H : Type} {enc : TypeId × Value → H} {P : Program} (hl : laidOutB P = true) {W W' : World} (hb : Below W.heap.size W W') :
    ∀ {ts : List TypeId} {vs : List Value} {ds : List (DataW H)} {ps : List MemPlace}, (∀ t ∈ ts, P.readableRec t = true ∧ t < P.types.size) →
      DataW.TrodAll enc P W 0 (fun _ => true) true ts vs ds ps → (∀ x ∈ ps, x.block < W.heap.size) → DataW.TrodAll enc P W' 0 (fun b => decide (b < W.heap.size)) true ts vs ds ps
  | [], [], [], ps, _, h, _ => h
  | t :: ts, v :: vs, d :: ds, ps, hr, ⟨p, q, h1, h2, h3⟩, hlt => by
    subst h3
    exact ⟨p, q, Below.trod hl (hr t (by simp)).1 (hr t (by simp)).2 h1 hb fun x hx => hlt x (by simp [hx]), below_trodAll hl hb (fun t ht => hr t (by simp [ht])) h2 fun x hx => hlt x (by simp [hx]), rfl⟩
  | [], _ :: _, _, _, _, h, _ => h.elim
  | [], [], _ :: _, _, _, h, _ => h.elim
  | _ :: _, [], _, _, _, h, _ => h.elim
  | _ :: _, _ :: _, [], _, _, h, _ => h.elim
theorem law_post {H : Type} {enc : TypeId × Value → H} {f : Func} {s : ChangeSpec} {W W' : World} {args : Array Value} {ds : List (DataW H)} {before : List MemPlace} (tb : TypeId)
    (hb : Tryz.prog.underlying tb = some .bool) (hr : f.resultTypes = #[tb]) (hp : (f.params.toList.all fun t => Tryz.prog.readableRec t && decide (t < Tryz.prog.types.size)) = true) (hv : s.vars = [])
    (hW : DataW.Whole enc Tryz.prog f.params.toList s.vars false W args.toList ds [] before) (hres : (s.fn H (ds ++ [])).results = [.lit (.bool true)]) (hargs : (s.fn H (ds ++ [])).args = ds) (hvars : (s.fn H (ds ++ [])).vars = [])
    (hbel : Below W.heap.size W W') : s.post enc Tryz.prog f false true false false W args (.bool true) W' := by
  obtain ⟨p, q, h1, h2, h3, h4, h5⟩ := hW
  have hW' : DataW.Whole enc Tryz.prog f.params.toList s.vars false W args.toList ds [] before := ⟨p, q, h1, h2, h3, h4, h5⟩
  have hq : q = [] := by rw [hv] at h2; exact h2
  subst hq
  simp only [List.append_nil] at h3
  subst h3
  refine ⟨ds, [], before, [], before, [], hW', ?_, ?_, ?_, hbel.frame _, fun h => by cases h⟩
  · rw [hres, hr]
    exact trodAll_mk1 (shut_bool hb true)
  · rw [hargs]
    exact below_trodAll laidOut hbel (fun t ht => by have := List.all_eq_true.1 hp t ht; simpa using this) h1 fun x hx => by simpa using hW'.lt x hx
  · rw [hvars, hv]; rfl
end Go.Proofs.YtimjccbdngajoaaGreat
/- FnExactQueryAutomaton: for every input the law returns true and changes nothing that was there. (Printed by genrow.py over the walk and the plain law.) -/
set_option linter.unusedVariables false
set_option linter.unusedSimpArgs false
set_option linter.unnecessarySimpa false
set_option maxRecDepth 100000
namespace Go.Proofs.YtimjccbdngajoaaGreat
open Go.ChangeShapes Go.WideShapes Go.ChangeAt Go.RowKit
namespace D
theorem op3 : Opens Tryz.prog 3 rInt := opens_int Tryz.underlying3
theorem op4 : Opens Tryz.prog 4 rBool := opens_bool Tryz.underlying4
theorem op35 : Opens Tryz.prog 35 (rSlice 4 rBool) := opens_slice Tryz.underlying35 (by kernel_rfl) (by decide) op4
theorem op56 : Opens Tryz.prog 56 (rSlice 3 rInt) := opens_slice Tryz.underlying56 (by kernel_rfl) (by decide) op3
theorem op36 : Opens Tryz.prog 36 (rSlice 56 (rSlice 3 rInt)) := opens_slice Tryz.underlying36 (by kernel_rfl) (by decide) op56
theorem op109 : Opens Tryz.prog 109 (rProd rInt (rProd (rSlice 4 rBool) (rSlice 56 (rSlice 3 rInt)))) := by
  refine opens_struct Tryz.underlying109 (by kernel_rfl) ?_
  refine opens_next (R := rInt) (S := rProd (rSlice 4 rBool) (rSlice 56 (rSlice 3 rInt))) rfl (by kernel_rfl) op3 ?_
  refine opens_next (R := rSlice 4 rBool) (S := rSlice 56 (rSlice 3 rInt)) rfl (by kernel_rfl) op35 ?_
  exact opens_last rfl (by kernel_rfl) op36
theorem op22 : Opens Tryz.prog 22 (rSlice 109 (rProd rInt (rProd (rSlice 4 rBool) (rSlice 56 (rSlice 3 rInt))))) := opens_slice Tryz.underlying22 (by kernel_rfl) (by decide) op109
theorem op145 : Opens Tryz.prog 145 (rProd rInt (rProd rInt (rProd rInt rInt))) := by
  refine opens_struct Tryz.underlying145 (by kernel_rfl) ?_
  refine opens_next (R := rInt) (S := rProd (rInt) (rProd (rInt) (rInt))) rfl (by kernel_rfl) op3 ?_
  refine opens_next (R := rInt) (S := rProd (rInt) (rInt)) rfl (by kernel_rfl) op3 ?_
  refine opens_next (R := rInt) (S := rInt) rfl (by kernel_rfl) op3 ?_
  exact opens_last rfl (by kernel_rfl) op3
theorem op60 : Opens Tryz.prog 60 (rSlice 145 (rProd rInt (rProd rInt (rProd rInt rInt)))) := opens_slice Tryz.underlying60 (by kernel_rfl) (by decide) op145
theorem op62 : Opens Tryz.prog 62 (rSlice 145 (rProd rInt (rProd rInt (rProd rInt rInt)))) := by
  refine opens_struct Tryz.underlying62 (by kernel_rfl) ?_
  exact opens_last rfl (by kernel_rfl) op60
theorem op112 : Opens Tryz.prog 112 (rProd rInt (rProd (rSlice 145 (rProd rInt (rProd rInt (rProd rInt rInt)))) rInt)) := by
  refine opens_struct Tryz.underlying112 (by kernel_rfl) ?_
  refine opens_next (R := rInt) (S := rProd (rSlice 145 (rProd rInt (rProd rInt (rProd rInt rInt)))) (rInt)) rfl (by kernel_rfl) op3 ?_
  refine opens_next (R := rSlice 145 (rProd rInt (rProd rInt (rProd rInt rInt)))) (S := rInt) rfl (by kernel_rfl) op62 ?_
  exact opens_last rfl (by kernel_rfl) op3
theorem op23 : Opens Tryz.prog 23 (rSlice 112 (rProd rInt (rProd (rSlice 145 (rProd rInt (rProd rInt (rProd rInt rInt)))) rInt))) := opens_slice Tryz.underlying23 (by kernel_rfl) (by decide) op112
theorem op25 : Opens Tryz.prog 25 (rProd (rSlice 109 (rProd rInt (rProd (rSlice 4 rBool) (rSlice 56 (rSlice 3 rInt))))) (rSlice 112 (rProd rInt (rProd (rSlice 145 (rProd rInt (rProd rInt (rProd rInt rInt)))) rInt)))) := by
  refine opens_struct Tryz.underlying25 (by kernel_rfl) ?_
  refine opens_next (R := rSlice 109 (rProd rInt (rProd (rSlice 4 rBool) (rSlice 56 (rSlice 3 rInt))))) (S := rSlice 112 (rProd rInt (rProd (rSlice 145 (rProd rInt (rProd rInt (rProd rInt rInt)))) rInt))) rfl (by kernel_rfl) op22 ?_
  exact opens_last rfl (by kernel_rfl) op23
theorem rdL25 {W : World} {base : Nat} {z : Value} {H : Type} {enc : TypeId × Value → H} {d : DataW H} {p : List MemPlace} (hv : Value.okWide Tryz.prog W .any base 25 z) (h : DataW.Trod enc Tryz.prog W 0 (fun _ => true) true 25 z d p) :
    ∃ (x : (List (Int × (List Bool) × (List (List Int)))) × (List (Int × ((List (Int × Int × Int × Int))) × Int))) (v0 : Value) (v1 : Value), z = .agg #[v0, v1] ∧ Data.lim x ∧ (rSlice 109 (rProd rInt (rProd (rSlice 4 rBool) (rSlice 56 (rSlice 3 rInt))))).rd (hp W) [v0] x.1 ∧ (rSlice 112 (rProd rInt (rProd (rSlice 145 (rProd rInt (rProd rInt (rProd rInt rInt)))) rInt))).rd (hp W) [v1] x.2 := by
  obtain ⟨fuel, hf⟩ := h
  obtain ⟨⟨cs⟩, rfl, -⟩ := okWide_struct Tryz.underlying25 hv
  obtain ⟨x, hx, hl⟩ := op25.out enc W _ _ _ hf
  have hx : (rProd (rSlice 109 (rProd rInt (rProd (rSlice 4 rBool) (rSlice 56 (rSlice 3 rInt))))) (rSlice 112 (rProd rInt (rProd (rSlice 145 (rProd rInt (rProd rInt (rProd rInt rInt)))) rInt)))).rd (hp W) cs x := hx
  obtain ⟨_, _, rfl, r0, r1⟩ := hx
  obtain ⟨v0, rfl⟩ := one_cell r0 rfl
  obtain ⟨v1, rfl⟩ := one_cell r1 rfl
  exact ⟨x, v0, v1, rfl, hl, r0, r1⟩
theorem rdL3 {W : World} {base : Nat} {z : Value} {H : Type} {enc : TypeId × Value → H} {d : DataW H} {p : List MemPlace} (hv : Value.okWide Tryz.prog W .any base 3 z) (h : DataW.Trod enc Tryz.prog W 0 (fun _ => true) true 3 z d p) :
    ∃ (x : Int), z = .int .i64 x ∧ Data.lim x := by
  obtain ⟨fuel, hf⟩ := h
  obtain ⟨n, rfl⟩ := okWide_int Tryz.underlying3 hv
  obtain ⟨x, hx, hl⟩ := op3.out enc W _ _ _ hf
  exact ⟨x, (List.cons.inj (show [_] = [_] from hx)).1, hl⟩
end D
open D (Data)
theorem rowLQueryAutomaton (W : World) (args : Array Value) (H : Type) (enc : TypeId × Value → H) (base : Nat) (ds gs : List (DataW H)) (before : List MemPlace)
    (hval : ∀ (j : Nat) t v, Tryz.f4.params[j]? = some t → args[j]? = some v → Value.okWide Tryz.prog W .any base t v)
    (hW : DataW.Whole enc Tryz.prog Tryz.f4.params.toList Rows.fnExactQueryAutomatonSpec.vars false W args.toList ds gs before) :
    Calls Tryz.prog 4 args W fun e W' => ∃ v, e = .returned v ∧ Rows.fnExactQueryAutomatonSpec.post enc Tryz.prog Tryz.f4 false true false false W args v W' := by
  have hW' := hW
  obtain ⟨p, q, hA, hV, rfl, hfz, hnd⟩ := hW
  rw [Tryz.params4] at hA hval
  obtain ⟨z0, vs0, d0, ds0, p0, q0, hargs, rfl, rfl, h0, r0⟩ := trodAll_cons hA
  obtain ⟨z1, vs1, d1, ds1, p1, q1, rfl, rfl, rfl, h1, r1⟩ := trodAll_cons r0
  obtain ⟨rfl, rfl, rfl⟩ := trodAll_nil r1
  obtain rfl : args = #[z0, z1] := by cases args; simp_all
  obtain ⟨rfl, rfl⟩ := trodVars_none hV
  obtain ⟨x0, v0_0, v0_1, rfl, l0, r0_0, r0_1⟩ := D.rdL25 (hval 0 _ _ rfl rfl) h0
  obtain ⟨x1, rfl, l1⟩ := D.rdL3 (hval 1 _ _ rfl rfl) h1
  have hc := D.c_w_FnExactQueryAutomaton x0 x1 true (D.lawQueryAutomaton x0 x1 l0 l1) (I := D.hp W) (w0 := W) v0_0 v0_1 r0_0 r0_1 W [] (D.St.init W)
  refine hc.mono fun e W' ⟨v, he, hv, hs⟩ => ?_
  subst he; subst hv
  exact ⟨_, rfl, law_post (f := Tryz.f4) (s := Rows.fnExactQueryAutomatonSpec) 4 Tryz.underlying4 rfl (by kernel_rfl) rfl hW' rfl rfl rfl (D.St.below hs)⟩
theorem liftedLQueryAutomaton (os : Os) (started : os.Started) (H : Type) (enc : TypeId × Value → H) :
    ReturnsInHanded {} Tryz.checked os 4 .any (Rows.fnExactQueryAutomatonSpec.pre6 enc Tryz.prog Tryz.f4 Rows.fnExactQueryAutomatonRow.domain false) (Rows.fnExactQueryAutomatonSpec.post enc Tryz.prog Tryz.f4 false true false false) := by
  refine returnsInHanded_of_change_sized (C := Tryz.checked) own started (by kernel_rfl) Tryz.func4
    (ChangeSpec.witness6 (enc := enc) (C := Tryz.checked) false ⟨#[], #[.agg #[.slice none 0 0, .slice none 0 0], .int .i64 0], []⟩ 8 (by kernel_rfl) (by kernel_rfl) (by kernel_rfl) (by kernel_rfl)) ?_
  intro W base args ds gs before hval hW hcnd hsz _
  exact rowLQueryAutomaton W args H enc base ds gs before hval hW
theorem holdsLQueryAutomaton : Rows.FnExactQueryAutomatonSaid :=
  OpenClaim.holds_of_wide 4 Tryz.f4 rfl rfl rfl rfl rfl rfl rfl ⟨rfl, rfl, rfl, rfl, rfl⟩ rfl rfl rfl rfl rfl (by kernel_rfl) Tryz.func4 (by kernel_rfl)
    (of_decide_eq_true (by kernel_rfl)) (by unfold Func.isWrapper; first | (rw [if_pos (by decide +kernel)]; kernel_rfl) | (rw [if_neg (by decide +kernel)]; exact ⟨rfl, rfl⟩))
    (fun os started H enc _ => liftedLQueryAutomaton os started H enc)
end Go.Proofs.YtimjccbdngajoaaGreat
