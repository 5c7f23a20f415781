/- The minimal automaton: the reference numbers representatives, the program numbers classes. -/
import Derived.Test.YtcihbmdppgpmjaaCMinim2
import Derived.Test.YtcihbmdppgpmjaaCNumSm
set_option linter.unusedVariables false
set_option linter.unusedSimpArgs false
set_option linter.unnecessarySimpa false
set_option linter.unusedSectionVars false
namespace Go.Proofs.Ytcihbmdppgpmjaa.D
open Go.RowKit

theorem i_index {l : List Int} {x : Int} (hl : l.length ≤ 1000000) (hx : x ∈ l) : m_i_Automaton_minimize_1 x l = some (nbI l (some x)) := by
  unfold m_i_Automaton_minimize_1 m_g_slices_Index_S_int_int
  obtain ⟨o, e, hq⟩ := loopM_go (f := m_g_slices_Index_S_int_int_l0 l x) (fun k s => s = (k : Int) ∧ x ∉ l.take k) (fun o => o = .ret (nbI l (some x))) l.length (s := 0) (by
    rintro k s hk ⟨rfl, hx'⟩
    unfold m_g_slices_Index_S_int_int_l0
    by_cases hkl : k < l.length
    · rw [if_pos (by simp; omega), getI_nth (by omega) (by omega)]; simp only [Option.bind_some]
      by_cases h : nth l (k : Int) = x
      · refine .inr ⟨_, by rw [if_pos (by simp [h])], (fun s' e => by cases e), ?_⟩
        have e : l = l.take k ++ (x :: l.drop (k + 1)) := by
          rw [← h, nth_nat hkl, ← List.drop_eq_getElem_cons hkl, List.take_append_drop]
        rw [nbI_first e hx', List.length_take, Nat.min_eq_left (by omega)]
      · have h' : ¬ x = nth l (k : Int) := fun e => h e.symm
        refine .inl ⟨hkl, _, by rw [if_neg (by simpa using h')], by rw [wrap_succ (by omega)], ?_⟩
        rw [take_one hkl, List.mem_append, List.mem_singleton]
        rintro (h' | h')
        · exact hx' h'
        · exact h h'.symm
    · rw [List.take_of_length_le (by omega)] at hx'
      exact absurd hx hx') ⟨rfl, by simp⟩ (up63 (by omega))
  subst hq
  rw [bindL_ret e]; rfl
section
variable {a : AutT} {n : Nat}
/-- the first state of a class -/
def rep (c : List Int) (x : Int) : Int := nbI c (some x)
theorem rep_ok {c : List Int} {x : Int} (h : x ∈ c) : 0 ≤ rep c x ∧ rep c x < c.length ∧ nth c (rep c x) = x := by
  obtain ⟨q, hq, e1, e2⟩ := nbI_mem h
  unfold rep
  rw [e1]
  exact ⟨by omega, by omega, by rw [nth_nat hq, e2]⟩
theorem minim_eq (V : VA a n) (hn : n ≤ 1000000) : ∃ r, m_s_l12Minimize a = some r ∧ m_i_Automaton_minimize a = some r ∧ Data.sm r := by
  have hlen := V.len
  have hst := V.start
  have hll : (live a).length = n := by rw [live_length, hlen]
  obtain ⟨c, es, ei, hcl, hfix, j, hj⟩ := classes_eq V hn
  have hneg : ∀ s : Int, 0 ≤ s → s < n → (nth c s < 0 ↔ nth (live a) s = false) := fun s h0 h1 => by
    have := (cI_neg a (s := s.toNat) (by omega) j).1
    rw [← hj, show ((s.toNat : Nat) : Int) = s from by omega] at this
    exact this
  have hlt : ∀ s : Int, 0 ≤ s → s < n → nth c s < n := fun s h0 h1 => by
    have := refn_lt (c := c) (a := a) (s := s.toNat) (by omega)
    rw [hfix, hlen, show ((s.toNat : Nat) : Int) = s from by omega] at this
    exact this
  have hpos : ∀ r, good n (live a) r → 0 ≤ nth c r := fun r hr => by
    have := hneg r hr.1 hr.2.1
    by_cases k : nth c r < 0
    · have := this.1 k; rw [hr.2.2] at this; cases this
    · omega
  -- states of one class are alike
  have hkey : ∀ r t : Int, 0 ≤ r → r < n → 0 ≤ t → t < n → 0 ≤ nth c r → nth c r = nth c t → keyL a c r = keyL a c t := fun r t r0 r1 t0 t1 h0 h => by
    have := refn_eq (a := a) (c := c) (s := r.toNat) (t := t.toNat) (by omega) (by omega) (by rw [hfix, show ((r.toNat : Nat) : Int) = r from by omega]; exact h0) (by rw [hfix, show ((r.toNat : Nat) : Int) = r from by omega, show ((t.toNat : Nat) : Int) = t from by omega]; exact h)
    rwa [show ((r.toNat : Nat) : Int) = r from by omega, show ((t.toNat : Nat) : Int) = t from by omega] at this
  have hacc : ∀ r t : Int, 0 ≤ r → r < n → 0 ≤ t → t < n → 0 ≤ nth c r → nth c r = nth c t → nth a.2.1 r = nth a.2.1 t := fun r t r0 r1 t0 t1 h0 h => by
    have := cI_acc a (s := r.toNat) (t := t.toNat) (by omega) (by omega) j (by rw [← hj, show ((r.toNat : Nat) : Int) = r from by omega]; exact h0) (by rw [← hj, show ((r.toNat : Nat) : Int) = r from by omega, show ((t.toNat : Nat) : Int) = t from by omega]; exact h)
    rwa [show ((r.toNat : Nat) : Int) = r from by omega, show ((t.toNat : Nat) : Int) = t from by omega] at this
  have hsuccs : ∀ r, good n (live a) r → succs a c (live a) r = (List.range 9).map fun k => if 0 ≤ ent a c r k then some (ent a c r k) else none := fun r hr => by
    refine List.map_congr_left fun k hk => ?_
    have hk : k < 9 := List.mem_range.1 hk
    have hm := V.mv hr.1 hr.2.1 hk
    unfold ent
    by_cases h : mv a r k < 0
    · rw [if_pos h, if_neg (fun h' => by omega), if_neg (by omega)]
    · rw [if_neg h]
      have := hneg (mv a r k) (by omega) hm.2
      cases hl : nth (live a) (mv a r k) with
      | false =>
        have := this.2 hl
        rw [if_neg (fun h' => by cases h'.2), if_neg (by omega)]
      | true =>
        have : ¬ nth c (mv a r k) < 0 := fun h' => by have := this.1 h'; rw [hl] at this; cases this
        rw [if_pos ⟨by omega, rfl⟩, if_pos (by omega)]
  have hent : ∀ r t : Int, keyL a c r = keyL a c t → ∀ k, k < 9 → ent a c r k = ent a c t k := fun r t h k hk => by
    have h : (List.range 9).map (fun k => ent a c r k) = (List.range 9).map (fun k => ent a c t k) := by unfold keyL at h; injection h
    have := congrArg (fun l : List Int => l[k]?) h
    simpa [hk] using this
  -- the keys that are numbered
  let nx : Int → List (Option Int) := fun x => succs a c (live a) (rep c x)
  let acc : Int → Bool := fun x => nth a.2.1 (rep c x)
  let G : Int → Prop := fun x => ∃ r, good n (live a) r ∧ nth c r = x
  have Gm : ∀ x, G x → x ∈ c ∧ 0 ≤ x ∧ good n (live a) (rep c x) := by
    rintro x ⟨r, hr, rfl⟩
    have hm : nth c r ∈ c := nth_mem hr.1 (by rw [hcl]; exact hr.2.1)
    obtain ⟨h0, h1, h2⟩ := rep_ok hm
    have hp := hpos r hr
    refine ⟨hm, hp, h0, by omega, ?_⟩
    have := hneg (rep c (nth c r)) h0 (by omega)
    rw [h2] at this
    cases hl : nth (live a) (rep c (nth c r)) with
    | true => rfl
    | false => have := this.2 hl; omega
  have hnx : ∀ r, good n (live a) r → nx (nth c r) = succs a c (live a) r := fun r hr => by
    obtain ⟨hm, hp, hg⟩ := Gm _ ⟨r, hr, rfl⟩
    obtain ⟨h0, h1, h2⟩ := rep_ok hm
    show succs a c (live a) (rep c (nth c r)) = _
    rw [hsuccs _ hg, hsuccs _ hr]
    refine List.map_congr_left fun k hk => ?_
    rw [hent _ _ (hkey _ _ hg.1 hg.2.1 hr.1 hr.2.1 (by rw [h2]; exact hp) h2) k (List.mem_range.1 hk)]
  have hac : ∀ r, good n (live a) r → acc (nth c r) = nth a.2.1 r := fun r hr => by
    obtain ⟨hm, hp, hg⟩ := Gm _ ⟨r, hr, rfl⟩
    obtain ⟨h0, h1, h2⟩ := rep_ok hm
    exact hacc _ _ hg.1 hg.2.1 hr.1 hr.2.1 (by rw [h2]; exact hp) h2
  have hgn : ∀ r, good n (live a) r → ∀ y, some y ∈ succs a c (live a) r → G y := fun r hr y h => by
    obtain ⟨k, hk, e⟩ := List.mem_map.1 h
    have hk : k < 9 := List.mem_range.1 hk
    split at e
    · rename_i hc
      exact ⟨mv a r k, ⟨hc.1, (V.mv hr.1 hr.2.1 hk).2, hc.2⟩, Option.some.inj e⟩
    · cases e
  unfold m_s_l12Minimize m_i_Automaton_minimize
  simp only [peta]
  rw [es, ei, s_live V hn]; simp only [Option.bind_some]
  rw [getI_nth hst.1 (by omega)]; simp only [Option.bind_some]
  cases hs : nth (live a) a.1 with
  | false =>
    have := (hneg a.1 hst.1 hst.2).2 hs
    rw [s_numb_dead V hll hs, if_pos (by simpa using this), i_nothing]
    exact ⟨nothing, rfl, rfl, nothing_sm⟩
  | true =>
    have hst' : good n (live a) a.1 := ⟨hst.1, hst.2, hs⟩
    have hp := hpos _ hst'
    have H : NumOk nx (nth c a.1) G n := ⟨⟨a.1, hst', rfl⟩, fun x hx y hy => hgn _ (Gm x hx).2.2 y hy, fun x hx => by simp [nx, succs], fun l hd h => bound_ints n l hd fun x hx => by
      obtain ⟨r, hr, rfl⟩ := h x hx
      exact ⟨hpos r hr, hlt r hr.1 hr.2.1⟩⟩
    obtain ⟨N, hN, e1⟩ := s_numb (acc := acc) V hn hcl hll hs H hn hnx hac
    have hfirst : ∀ x, G x → m_i_Automaton_minimize_1 x c = some (rep c x) := fun x hx => i_index (by omega) (Gm x hx).1
    obtain ⟨N', hN', e2⟩ := i_numb (most := (c.length : Int)) (p2 := fun a0 => m_i_Automaton_minimize_2 a0 (a.1, a.2.1, a.2.2) (fun a0 => m_i_Automaton_minimize_1 a0 c)) (p3 := fun a0 a1 => m_i_Automaton_minimize_3 a0 a1 (a.1, a.2.1, a.2.2) (fun a0 => m_i_Automaton_minimize_1 a0 c) c) (acc := acc) H hn (by omega) (fun x hx => iOk_in hn (Gm x hx).2.1 (by
        obtain ⟨r, hr, rfl⟩ := hx
        exact hlt r hr.1 hr.2.1)) (fun x hx => by
      show m_i_Automaton_minimize_2 x (a.1, a.2.1, a.2.2) (fun a0 => m_i_Automaton_minimize_1 a0 c) = _
      unfold m_i_Automaton_minimize_2
      simp only
      rw [hfirst x hx]; simp only [Option.bind_some]
      rw [V.acc (Gm x hx).2.2.1 (Gm x hx).2.2.2.1]; rfl) (fun x k hx hk => by
      obtain ⟨hm, hx0, hg⟩ := Gm x hx
      have hm' := V.mv hg.1 hg.2.1 hk
      refine ⟨0, ?_⟩
      show m_i_Automaton_minimize_3 x k (a.1, a.2.1, a.2.2) (fun a0 => m_i_Automaton_minimize_1 a0 c) c = _
      unfold m_i_Automaton_minimize_3
      simp only
      rw [hfirst x hx]; simp only [Option.bind_some]
      rw [show m_i_Automaton_move (a.1, a.2.1, a.2.2) (rep c x) k = some (mv a (rep c x) k) from i_move V hg.1 hg.2.1 hk]; simp only [Option.bind_some]
      show _ = some (match nth (succs a c (live a) (rep c x)) (k : Int) with | some y => (y, true) | none => (0, false))
      rw [succs_at hk]
      by_cases h : mv a (rep c x) k < 0
      · rw [if_pos (by simpa using h), if_neg (fun h' => by omega)]
      · rw [if_neg (by simpa using h), getI_nth (by omega) (by omega)]; simp only [Option.bind_some]
        have hng := hneg (mv a (rep c x) k) (by omega) hm'.2
        cases hl : nth (live a) (mv a (rep c x) k) with
        | false =>
          have := hng.2 hl
          rw [if_pos (by simpa using this), if_neg (fun h' => by cases h'.2)]
        | true =>
          have : ¬ nth c (mv a (rep c x) k) < 0 := fun h' => by have := hng.1 h'; rw [hl] at this; cases this
          rw [if_neg (by simpa using this), if_pos ⟨by omega, rfl⟩])
    obtain rfl := bfE_uniq hN hN'
    refine ⟨_, by rw [e1]; rfl, ?_, num_sm H hn hN⟩
    rw [if_neg (by simp; omega)]
    exact (congrArg (fun x => Option.bind x _) e2).trans rfl
end
end Go.Proofs.Ytcihbmdppgpmjaa.D
