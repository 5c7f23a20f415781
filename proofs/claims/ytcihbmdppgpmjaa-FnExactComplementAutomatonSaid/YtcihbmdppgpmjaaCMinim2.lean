/- The classes and the minimal automaton as the reference and the program reckon them. -/
import Derived.Test.YtcihbmdppgpmjaaCMinim
set_option linter.unusedVariables false
set_option linter.unusedSimpArgs false
set_option linter.unnecessarySimpa false
set_option linter.unusedSectionVars false
namespace Go.Proofs.Ytcihbmdppgpmjaa.D
open Go.RowKit

section
variable {a : AutT} {n : Nat} {c : List Int}
theorem ent_snoc (k : Nat) (s : Int) : (List.range (k + 1)).map (fun k => ent a c s k) = (List.range k).map (fun k => ent a c s k) ++ [ent a c s k] := by simp [List.range_succ]
theorem s_key (V : VA a n) (hn : n ≤ 1000000) (hc : c.length = n) {s : Nat} (hs : s < n) : m_s_l12Key a c s = some (keyL a c s) := by
  unfold m_s_l12Key
  rw [getI_nth (by omega) (by omega)]; simp only [Option.bind_some]
  have := loopM_at (f := m_s_l12Key_l0 a c s) (fun k => (nth c (s : Int) :: (List.range k).map (fun k => ent a c s k), (k : Int))) 9 (fun k hk => by
    have hm := V.mv (s := s) (k := k) (by omega) (by omega) hk
    unfold m_s_l12Key_l0
    simp only
    rw [if_pos (by simp; omega), V.get (by omega) (by omega)]; simp only [Option.bind_some]
    rw [V.get2 (by omega) (by omega) hk, ent_snoc]; simp only [Option.bind_some, wrap_succ (show k < 9223372036854775807 by omega)]
    by_cases h : mv a s k < 0
    · rw [if_pos (by simpa using h), appI_ok (by simp; omega), show ent a c s k = -1 from by unfold ent; rw [if_pos h]]; rfl
    · rw [if_neg (by simpa using h), getI_nth (by omega) (by omega)]; simp only [Option.bind_some]
      rw [appI_ok (by simp; omega), show ent a c s k = nth c (mv a s k) from by unfold ent; rw [if_neg h]]; rfl) (by unfold m_s_l12Key_l0; simp) (by unfold FUEL; omega)
  exact bindL_brk this
theorem i_key (V : VA a n) (hn : n ≤ 1000000) (hc : c.length = n) {s : Nat} (hs : s < n) : loopM (m_i_Automaton_refine_l1 c (nth a.2.2 (s : Int))) FUEL (0, [nth c (s : Int)]) = some (.brk (9, keyL a c s)) := by
  have hr := V.rowAt (s := s) (by omega) (by omega)
  exact loopM_at (f := m_i_Automaton_refine_l1 c (nth a.2.2 (s : Int))) (fun k => ((k : Int), nth c (s : Int) :: (List.range k).map (fun k => ent a c s k))) 9 (fun k hk => by
    have hm := V.mv (s := s) (k := k) (by omega) (by omega) hk
    unfold m_i_Automaton_refine_l1
    simp only
    rw [if_pos (by simp [hr]; omega), V.get2 (by omega) (by omega) hk, ent_snoc]; simp only [Option.bind_some, wrap_succ (show k < 9223372036854775807 by omega)]
    by_cases h : mv a s k < 0
    · have e : mv a s k = -1 := by omega
      rw [if_neg (by simp; omega)]; simp only [Option.bind_some]
      rw [appI_ok (by simp; omega), show ent a c s k = mv a s k from by unfold ent; rw [if_pos h, e]]; rfl
    · rw [if_pos (by simp; omega), getI_nth (by omega) (by omega)]; simp only [Option.bind_some]
      rw [appI_ok (by simp; omega), show ent a c s k = nth c (mv a s k) from by unfold ent; rw [if_neg h]]; rfl) (by unfold m_i_Automaton_refine_l1; simp [hr]) (by unfold FUEL; omega)
theorem nbI_first {κ : Type} [DecidableEq κ] {l t r : List κ} {x : κ} (e : l = t ++ x :: r) (hx : x ∉ t) : nbI l (some x) = (t.length : Int) := by
  subst e
  simp only [nbI]
  rw [List.idxOf_append, if_neg hx, List.idxOf_cons_self, Nat.zero_add]
def seek (l : List (List Int)) (x : List Int) : Int := if x ∈ l then nbI l (some x) else -1
theorem set_nth {α : Type} [Inhabited α] {xs : List α} {i : Nat} (h : i < xs.length) : xs.set i (nth xs (i : Int)) = xs := by
  rw [nth_nat h]
  exact List.set_getElem_self h
theorem s_seek {l : List (List Int)} {x : List Int} (hl : l.length ≤ 1000000) (hd : l.Nodup) (hx : ∀ y ∈ l, y.length ≤ 1048576) : loopM (m_s_l12Classes_l3 x) FUEL (l, -1, 0) = some (.brk (l, seek l x, (l.length : Int))) := by
  have := loopM_at (f := m_s_l12Classes_l3 x) (fun k => (l, if x ∈ l.take k then nbI l (some x) else -1, (k : Int))) l.length (fun k hk => by
    unfold m_s_l12Classes_l3
    simp only
    rw [if_pos (by simp; omega), getI_nth (by omega) (by omega)]; simp only [Option.bind_some, Int.toNat_natCast, wrap_succ (show k < 9223372036854775807 by omega)]
    obtain ⟨r, e, hr⟩ := q_l2Cmp (nth l (k : Int)) x (hx _ (nth_mem (by omega) (by omega)))
    rw [e, set_nth hk, take_one hk]; simp only [Option.bind_some, List.mem_append, List.mem_singleton]
    by_cases h : nth l (k : Int) = x
    · have h0 : r = 0 := hr.2 h
      have hm : x ∈ l := h ▸ nth_mem (by omega) (by omega)
      obtain ⟨q, hq, e1, e2⟩ := nbI_mem hm
      have : q = k := by
        have h1 : l[q]? = some x := by rw [List.getElem?_eq_getElem hq, e2]
        have h2 : l[k]? = some x := by rw [List.getElem?_eq_getElem hk, ← nth_nat hk, h]
        exact (List.getElem?_inj hq hd).1 (h1.trans h2.symm)
      subst this
      rw [if_pos (by simp [h0]), if_pos (.inr h.symm), e1]; rfl
    · have h0 : r ≠ 0 := fun e => h (hr.1 e)
      have hn : ¬ x = nth l (k : Int) := fun e => h e.symm
      rw [if_neg (by simpa using h0)]
      simp [hn]) (by unfold m_s_l12Classes_l3; simp) (up63 (by omega))
  rw [List.take_of_length_le (Nat.le_refl _)] at this
  exact this
theorem i_seek {l : List (List Int)} {x : List Int} {f : List Int → Option Bool} (hl : l.length ≤ 1000000) (hf : ∀ y ∈ l, f y = some (decide (y = x))) : m_g_slices_IndexFunc_S_S_int_S_int l f = some (seek l x) := by
  unfold m_g_slices_IndexFunc_S_S_int_S_int
  obtain ⟨o, e, hq⟩ := loopM_go (f := m_g_slices_IndexFunc_S_S_int_S_int_l0 l f) (fun k s => s = (k : Int) ∧ x ∉ l.take k) (fun o => (x ∈ l ∧ o = .ret (nbI l (some x))) ∨ (x ∉ l ∧ ∃ s, o = .brk s)) l.length (s := 0) (by
    rintro k s hk ⟨rfl, hx⟩
    unfold m_g_slices_IndexFunc_S_S_int_S_int_l0
    by_cases hkl : k < l.length
    · rw [if_pos (by simp; omega), getI_nth (by omega) (by omega)]; simp only [Option.bind_some]
      rw [hf _ (nth_mem (by omega) (by omega))]; simp only [Option.bind_some]
      by_cases h : nth l (k : Int) = x
      · refine .inr ⟨_, by rw [if_pos (by simpa using h)], (fun s' e => by cases e), .inl ?_⟩
        have hm : x ∈ l := h ▸ nth_mem (by omega) (by omega)
        refine ⟨hm, ?_⟩
        have e : l = l.take k ++ (x :: l.drop (k + 1)) := by
          rw [← h, nth_nat hkl, ← List.drop_eq_getElem_cons hkl, List.take_append_drop]
        rw [nbI_first e hx, List.length_take, Nat.min_eq_left (by omega)]
      · refine .inl ⟨hkl, _, by rw [if_neg (by simpa using h)], by rw [wrap_succ (by omega)], ?_⟩
        rw [take_one hkl, List.mem_append, List.mem_singleton]
        rintro (h' | h')
        · exact hx h'
        · exact h h'.symm
    · refine .inr ⟨_, by rw [if_neg (by simp; omega)], (fun s' e => by cases e), .inr ⟨?_, _, rfl⟩⟩
      rwa [List.take_of_length_le (by omega)] at hx) ⟨rfl, by simp⟩ (up63 (by omega))
  unfold seek
  rcases hq with ⟨hx, rfl⟩ | ⟨hx, s, rfl⟩
  · rw [bindL_ret e, if_pos hx]
  · rw [bindL_brk e, if_neg hx]
theorem kinds_short {os : List (Option (List Int))} (h : ∀ y, some y ∈ os → y.length = 10) : ∀ y ∈ nbS [] os, y.length = 10 := fun y hy => by
  rcases mem_nbS.1 hy with hy | hy
  · cases hy
  · exact h y hy
theorem keys_short (a : AutT) (c : List Int) : ∀ y, some y ∈ keys a c → y.length = 10 := by
  intro y hy
  obtain ⟨s, -, e⟩ := List.mem_map.1 hy
  unfold keyO at e
  split at e
  · cases e
  · rw [← Option.some.inj e]; simp [keyL]
section
variable (V : VA a n) (hn : n ≤ 1000000) (hc : c.length = n)
include V hn hc
theorem kinds_le (s : Nat) : (nbS [] ((keys a c).take s)).length ≤ n := by
  have := nbS_length_le ([] : List (List Int)) ((keys a c).take s)
  rw [List.length_take, keys_length, V.len] at this
  simp at this; omega
theorem s_refine {m : Int} : loopM (m_s_l12Classes_l2 a (c, m)) FUEL ([], [], 0) = some (.brk (nbS [] (keys a c), refn a c, (n : Int))) := by
  have hlen := V.len
  have := loopM_at (f := m_s_l12Classes_l2 a (c, m)) (fun s => (nbS [] ((keys a c).take s), nbR [] ((keys a c).take s), (s : Int))) n (fun s hs => by
    have hkl := kinds_le V hn hc s
    have hrl : (nbR [] ((keys a c).take s)).length ≤ n := by rw [nbR_length, List.length_take, keys_length]; omega
    unfold m_s_l12Classes_l2
    simp only
    rw [if_pos (by simp; omega), getI_nth (by omega) (by omega)]; simp only [Option.bind_some]
    rw [take_one (by rw [keys_length]; omega), nbS_snoc, nbR_snoc, keys_at (by omega)]
    simp only [wrap_succ (show s < 9223372036854775807 by omega)]
    by_cases h : nth c (s : Int) < 0
    · rw [if_pos (by simpa using h), appI_ok (by simp; omega), show keyO a c s = none from by unfold keyO; rw [if_pos h]]; rfl
    · rw [if_neg (by simpa using h), show keyO a c s = some (keyL a c s) from by unfold keyO; rw [if_neg h]]
      rw [show m_s_l12Key (a.1, a.2.1, a.2.2) c (s : Int) = some (keyL a c s) from s_key V hn hc hs]; simp only [Option.bind_some]
      rw [bindL_brk (s_seek (by omega) (nbS_nodup (by simp)) (fun y hy => by rw [kinds_short (fun y hy => keys_short a c y (List.mem_of_mem_take hy)) y hy]; decide))]
      simp only
      unfold seek
      by_cases k : keyL a c s ∈ nbS [] ((keys a c).take s)
      · obtain ⟨q, hq, e1, e2⟩ := nbI_mem k
        rw [if_pos k, nbL_old k, e1, if_neg (by simp)]; simp only [Option.bind_some]
        rw [appI_ok (by simp; omega)]; rfl
      · rw [if_neg k, nbL_new k, nbI_new k, if_pos (show decide ((-1 : Int) < 0) = true from rfl), appI_ok (by simp; omega)]; simp only [Option.bind_some]
        rw [appI_ok (by simp; omega)]; rfl) (by
    unfold m_s_l12Classes_l2
    simp only
    rw [if_neg (by simp; omega)]) (up63 (by omega))
  rw [show (keys a c).take n = keys a c from List.take_of_length_le (by rw [keys_length]; omega)] at this
  exact this
theorem i_refine : m_i_Automaton_refine a c = some (refn a c, (refN a c : Int)) := by
  have hlen := V.len
  unfold m_i_Automaton_refine
  have := loopM_at (f := m_i_Automaton_refine_l0 a c) (fun s => (nbS [] ((keys a c).take s), nbR [] ((keys a c).take s), (s : Int))) n (fun s hs => by
    have hkl := kinds_le V hn hc s
    have hrl : (nbR [] ((keys a c).take s)).length ≤ n := by rw [nbR_length, List.length_take, keys_length]; omega
    unfold m_i_Automaton_refine_l0
    simp only
    rw [if_pos (by simp; omega), getI_nth (by omega) (by omega)]; simp only [Option.bind_some]
    rw [take_one (by rw [keys_length]; omega), nbS_snoc, nbR_snoc, keys_at (by omega)]
    simp only [wrap_succ (show s < 9223372036854775807 by omega)]
    by_cases h : nth c (s : Int) < 0
    · rw [if_pos (by simpa using h), appI_ok (by simp; omega), show keyO a c s = none from by unfold keyO; rw [if_pos h]]; rfl
    · rw [if_neg (by simpa using h), show keyO a c s = some (keyL a c s) from by unfold keyO; rw [if_neg h], V.get (by omega) (by omega)]; simp only [Option.bind_some]
      rw [bindL_brk (i_key V hn hc hs)]; simp only
      rw [i_seek (x := keyL a c s) (by omega) (fun y hy => by
        unfold m_i_Automaton_refine_1
        rw [q_sliceEq _ _ (by rw [kinds_short (fun y hy => keys_short a c y (List.mem_of_mem_take hy)) y hy]; decide)]; rfl)]; simp only [Option.bind_some]
      unfold seek
      by_cases k : keyL a c s ∈ nbS [] ((keys a c).take s)
      · obtain ⟨q, hq, e1, e2⟩ := nbI_mem k
        rw [if_pos k, nbL_old k, e1, if_neg (by simp)]; simp only [Option.bind_some]
        rw [appI_ok (by simp; omega)]; rfl
      · rw [if_neg k, nbL_new k, nbI_new k, if_pos (show decide ((-1 : Int) < 0) = true from rfl), appI_ok (by simp; omega)]; simp only [Option.bind_some]
        rw [appI_ok (by simp; omega)]; rfl) (by
    unfold m_i_Automaton_refine_l0
    simp only
    rw [if_neg (by simp; omega)]) (up63 (by omega))
  rw [show (keys a c).take n = keys a c from List.take_of_length_le (by rw [keys_length]; omega)] at this
  exact bindL_brk this
end
end
section
variable {a : AutT} {n : Nat} (V : VA a n) (hn : n ≤ 1000000)
include V hn
theorem cls0_snoc (s : Nat) : (List.range (s + 1)).map (fun s : Nat => if nth (live a) (s : Int) = true then (if nth a.2.1 (s : Int) = true then (1 : Int) else 0) else -1) = (List.range s).map (fun s : Nat => if nth (live a) (s : Int) = true then (if nth a.2.1 (s : Int) = true then 1 else 0) else -1) ++ [if nth (live a) (s : Int) = true then (if nth a.2.1 (s : Int) = true then 1 else 0) else -1] := by simp [List.range_succ]
theorem s_cls0 : loopM (m_s_l12Classes_l0 a (live a)) FUEL ([], 0) = some (.brk (cls0 a, (n : Int))) := by
  have hlen := V.len
  have hll : (live a).length = n := by rw [live_length, hlen]
  have := loopM_at (f := m_s_l12Classes_l0 a (live a)) (fun s => ((List.range s).map (fun s : Nat => if nth (live a) (s : Int) = true then (if nth a.2.1 (s : Int) = true then (1 : Int) else 0) else -1), (s : Int))) n (fun s hs => by
    unfold m_s_l12Classes_l0
    simp only
    rw [if_pos (by simp; omega), V.acc (by omega) (by omega)]; simp only [Option.bind_some]
    rw [cls0_snoc V hn, getI_nth (xs := live a) (by omega) (by omega)]; simp only [wrap_succ (show s < 9223372036854775807 by omega)]
    cases nth (live a) (s : Int) <;> cases nth a.2.1 (s : Int) <;> simp only [if_true, if_false, Bool.false_eq_true, Option.bind_some] <;> rw [appI_ok (by simp; omega)] <;> rfl) (by
    unfold m_s_l12Classes_l0
    simp only
    rw [if_neg (by simp; omega)]) (up63 (by omega))
  unfold cls0
  rw [hlen]
  exact this
theorem i_cls0 : loopM (m_i_Automaton_classes_l0 a (live a)) FUEL ([], 0) = some (.brk (cls0 a, (n : Int))) := by
  have hlen := V.len
  have hll : (live a).length = n := by rw [live_length, hlen]
  have := loopM_at (f := m_i_Automaton_classes_l0 a (live a)) (fun s => ((List.range s).map (fun s : Nat => if nth (live a) (s : Int) = true then (if nth a.2.1 (s : Int) = true then (1 : Int) else 0) else -1), (s : Int))) n (fun s hs => by
    unfold m_i_Automaton_classes_l0
    simp only
    rw [if_pos (by simp; omega), getI_nth (xs := live a) (by omega) (by omega)]; simp only [Option.bind_some]
    rw [cls0_snoc V hn, V.acc (by omega) (by omega)]; simp only [wrap_succ (show s < 9223372036854775807 by omega)]
    cases nth (live a) (s : Int) <;> cases nth a.2.1 (s : Int) <;> simp only [if_true, if_false, Bool.false_eq_true, Option.bind_some] <;> rw [appI_ok (by simp; omega)] <;> rfl) (by
    unfold m_i_Automaton_classes_l0
    simp only
    rw [if_neg (by simp; omega)]) (up63 (by omega))
  unfold cls0
  rw [hlen]
  exact this
theorem s_classes : ∃ J, cI a (J + 1) = cI a J ∧ m_s_l12Classes a = some (cI a J) := by
  have hlen := V.len
  unfold m_s_l12Classes
  rw [show m_s_l11Live (a.1, a.2.1, a.2.2) = some (live a) from s_live V hn]; simp only [Option.bind_some]
  rw [bindL_brk (s_cls0 V hn)]
  obtain ⟨J0, hJ0, hfix⟩ := cI_stop a
  obtain ⟨o, e, j, rfl, hj⟩ := loopM_go (f := m_s_l12Classes_l1 a) (fun j s => s = (cI a j, (j : Int)) ∧ j ≤ J0) (fun o => ∃ j, o = .ret (cI a j) ∧ cI a (j + 1) = cI a j) (J0 + 1) (s := (cI a 0, 0)) (by
    rintro j s hj ⟨rfl, hjJ⟩
    have hcl : (cI a j).length = n := by rw [cI_length, hlen]
    unfold m_s_l12Classes_l1
    simp only
    rw [if_pos (by simp; omega), bindL_brk (s_refine V hn hcl)]
    simp only
    obtain ⟨r, er, hr⟩ := q_l2Cmp (refn a (cI a j)) (cI a j) (by rw [refn_length]; omega)
    rw [er]; simp only [Option.bind_some, wrap_succ (show j < 9223372036854775807 by omega)]
    by_cases h : refn a (cI a j) = cI a j
    · exact .inr ⟨_, by rw [if_pos (by simpa using hr.2 h)], (fun s' e => by cases e), j, rfl, h⟩
    · refine .inl ⟨by omega, (cI a (j + 1), ((j + 1 : Nat) : Int)), by rw [if_neg (by simpa using fun e => h (hr.1 e))]; rfl, rfl, ?_⟩
      by_cases e : j = J0
      · subst e; exact absurd hfix h
      · omega) ⟨rfl, Nat.zero_le _⟩ (up63 (by omega))
  exact ⟨j, hj, bindL_ret e⟩
theorem i_classes : ∃ J, cI a (J + 1) = cI a J ∧ m_i_Automaton_classes a = some (cI a J) := by
  have hlen := V.len
  unfold m_i_Automaton_classes
  rw [show m_i_Automaton_live (a.1, a.2.1, a.2.2) = some (live a) from i_live V hn]; simp only [Option.bind_some]
  rw [bindL_brk (i_cls0 V hn)]
  let kk : Nat → Int := fun j => match j with | 0 => -1 | i + 1 => (refN a (cI a i) : Int)
  obtain ⟨o, e, j, rfl, hj⟩ := loopM_go (f := m_i_Automaton_classes_l1 a) (fun j s => s = (cI a j, kk j) ∧ (j : Int) ≤ kk j + 1) (fun o => ∃ j, o = .ret (cI a j) ∧ cI a (j + 1) = cI a j) (n + 2) (s := (cI a 0, -1)) (by
    rintro j s hj ⟨rfl, hjk⟩
    have hcl : (cI a j).length = n := by rw [cI_length, hlen]
    have hle := refN_le a (cI a j)
    unfold m_i_Automaton_classes_l1
    simp only
    rw [show m_i_Automaton_refine (a.1, a.2.1, a.2.2) (cI a j) = some (refn a (cI a j), (refN a (cI a j) : Int)) from i_refine V hn hcl]; simp only [Option.bind_some]
    cases j with
    | zero =>
      refine .inl ⟨by omega, (cI a 1, kk 1), by rw [if_neg (by show ¬ ((refN a (cI a 0) : Int) == -1) = true; simp)]; rfl, rfl, ?_⟩
      show (1 : Int) ≤ (refN a (cI a 0) : Int) + 1
      omega
    | succ i =>
      obtain ⟨g1, g2⟩ := cI_grow a i
      have hki : kk (i + 1) = (refN a (cI a i) : Int) := rfl
      rw [hki] at hjk ⊢
      by_cases h : refN a (cI a (i + 1)) = refN a (cI a i)
      · refine .inr ⟨.ret (cI a (i + 2)), by rw [if_pos (by simp [h])]; rfl, (fun s' e => by cases e), i + 2, rfl, ?_⟩
        have := g2 h
        show refn a (cI a (i + 2)) = cI a (i + 2)
        rw [this]; exact this
      · refine .inl ⟨?_, (cI a (i + 2), kk (i + 2)), by rw [if_neg (by simp; omega)]; rfl, rfl, ?_⟩
        · omega
        · show ((i + 1 + 1 : Nat) : Int) ≤ (refN a (cI a (i + 1)) : Int) + 1
          omega) ⟨rfl, by show ((0 : Nat) : Int) ≤ -1 + 1; omega⟩ (up63 (by omega))
  exact ⟨j, hj, bindL_ret e⟩
/-- the classes, the same by both -/
theorem classes_eq : ∃ c, m_s_l12Classes a = some c ∧ m_i_Automaton_classes a = some c ∧ c.length = n ∧ refn a c = c ∧ ∃ j, c = cI a j := by
  obtain ⟨J, hJ, es⟩ := s_classes V hn
  obtain ⟨J', hJ', ei⟩ := i_classes V hn
  have := cI_fix_eq hJ hJ'
  exact ⟨cI a J, es, by rw [this]; exact ei, by rw [cI_length, V.len], hJ, J, rfl⟩
end
end Go.Proofs.Ytcihbmdppgpmjaa.D
