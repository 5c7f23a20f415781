/- The plain law of TrimAutomaton: the reference and the program number the live states alike. -/
import Derived.Test.YtcihbmdppgpmjaaTPl
import Derived.Test.YtcihbmdppgpmjaaTNumb
import Derived.Test.YtcihbmdppgpmjaaTAutK
set_option linter.unusedVariables false
set_option linter.unusedSimpArgs false
set_option linter.unnecessarySimpa false
set_option linter.unusedSectionVars false
namespace Go.Proofs.Ytcihbmdppgpmjaa.D
open Go.RowKit

theorem bound_ints (n : Nat) (l : List Int) (hd : l.Nodup) (h : ∀ x ∈ l, 0 ≤ x ∧ x < n) : l.length ≤ n := by
  have := hd.length_le_of_subset (l₂ := (List.range n).map Int.ofNat) (fun x hx => by
    obtain ⟨h0, h1⟩ := h x hx
    exact List.mem_map.2 ⟨x.toNat, List.mem_range.2 (by omega), by show ((x.toNat : Nat) : Int) = x; omega⟩)
  simpa using this
theorem iOk_in {n : Nat} {x : Int} (hn : n ≤ 1000000) (h0 : 0 ≤ x) (h1 : x < n) : iOk x = true := by
  have := iOk_nat (n := x.toNat) (by omega)
  rwa [show ((x.toNat : Nat) : Int) = x from by omega] at this
/-- the numbered automata are small -/
theorem num_sm {κ : Type} [DecidableEq κ] {nx : κ → List (Option κ)} {first : κ} {G : κ → Prop} {B N : Nat} {acc : κ → Bool} (H : NumOk nx first G B) (hB : B ≤ 1000000) (hN : bfE nx first N) : Data.sm ((0, (bfS nx first N).map acc, bfR nx first N) : AutT) := by
  have hl := H.bound _ (bfS_nodup (nx := nx) (first := first) N) (bfS_good H.g0 H.gn N)
  refine ⟨trivial, ⟨by rw [List.length_map]; omega, fun _ _ => trivial⟩, ?_, ?_⟩
  · rw [bfR_length hN.2]; have := hN.1; omega
  · have key : ∀ i, i ≤ N → ∀ r ∈ bfR nx first i, r.length = 9 := by
      intro i
      induction i with
      | zero => intro _ r hr; cases hr
      | succ i ih =>
        intro hi r hr
        have hlt := hN.2 i (by omega)
        rw [bfR_succ hlt] at hr
        rcases List.mem_append.1 hr with hr | hr
        · exact ih (by omega) r hr
        · obtain rfl := List.mem_singleton.1 hr
          rw [nbR_length, H.len _ (bfS_good H.g0 H.gn i _ (List.getElem_mem hlt))]
    intro r hr
    exact ⟨by rw [key N (Nat.le_refl _) r hr]; decide, fun _ _ => trivial⟩
theorem nothing_sm : Data.sm nothing := ⟨trivial, ⟨by decide, fun _ _ => trivial⟩, by decide, fun r hr => by
  obtain rfl := List.mem_singleton.1 hr
  exact ⟨by decide, fun _ _ => trivial⟩⟩
section
variable {a : AutT} {n : Nat}
def ids (n : Nat) : List Int := (List.range n).map fun i : Nat => (i : Int)
theorem ids_nth {n : Nat} {r : Int} (h0 : 0 ≤ r) (h1 : r < n) : nth (ids n) r = r := by
  have h : r.toNat < (ids n).length := by simp [ids]; omega
  have := nth_nat (xs := ids n) h
  rw [show ((r.toNat : Nat) : Int) = r from by omega] at this
  rw [this]; simp [ids]; omega
theorem s_ids (V : VA a n) (hn : n ≤ 1000000) : loopM (m_s_TrimAutomaton_l0 a) FUEL ([], 0) = some (.brk (ids n, (n : Int))) := by
  have hlen := V.len
  refine loopM_at (f := m_s_TrimAutomaton_l0 a) (fun i => (ids i, (i : Int))) n (fun i hi => ?_) ?_ (up63 (by omega))
  · unfold m_s_TrimAutomaton_l0
    simp only
    rw [if_pos (by simp; omega), appI_ok (by simp [ids]; omega)]; simp only [Option.bind_some, wrap_succ (show i < 9223372036854775807 by omega)]
    simp [ids, List.range_succ]
  · unfold m_s_TrimAutomaton_l0
    simp only
    rw [if_neg (by simp; omega)]
theorem succs_good {c : List Int} {lv : List Bool} (V : VA a n) (hlv : lv.length = n) {r : Int} (hr : good n lv r) {y : Int} (h : some y ∈ succs a c lv r) : ∃ t, good n lv t ∧ y = nth c t := by
  obtain ⟨k, hk, e⟩ := List.mem_map.1 h
  have hk : k < 9 := List.mem_range.1 hk
  split at e
  · rename_i hc
    exact ⟨mv a r k, ⟨hc.1, (V.mv hr.1 hr.2.1 hk).2, hc.2⟩, (Option.some.inj e).symm⟩
  · cases e
theorem trim_num (V : VA a n) (hs : nth (live a) a.1 = true) : NumOk (succs a (ids n) (live a)) a.1 (good n (live a)) n where
  g0 := ⟨V.start.1, V.start.2, hs⟩
  gn x hx y hy := by
    obtain ⟨t, ht, rfl⟩ := succs_good V (by rw [live_length, V.len]) hx hy
    rw [ids_nth ht.1 ht.2.1]; exact ht
  len x hx := by simp [succs]
  bound l hd h := bound_ints n l hd fun x hx => ⟨(h x hx).1, (h x hx).2.1⟩
theorem trim_eq (V : VA a n) (hn : n ≤ 1000000) : ∃ r, (m_s_l11Number a (ids n) (live a) = some r) ∧ m_i_Automaton_trim a = some r ∧ Data.sm r := by
  have hlen := V.len
  have hll : (live a).length = n := by rw [live_length, hlen]
  have hst := V.start
  unfold m_i_Automaton_trim
  rw [i_live V hn]; simp only [Option.bind_some]
  rw [getI_nth hst.1 (by omega)]; simp only [Option.bind_some]
  cases hs : nth (live a) a.1 with
  | false => exact ⟨nothing, s_numb_dead V hll hs, by rw [if_neg (by simp), i_nothing]; rfl, nothing_sm⟩
  | true =>
    have H := trim_num V hs
    have e1 : nth (ids n) a.1 = a.1 := ids_nth hst.1 hst.2
    obtain ⟨N, hN, es⟩ := s_numb (nx := succs a (ids n) (live a)) (acc := fun x => nth a.2.1 x) (c := ids n) V hn (by simp [ids]) hll hs (by rw [e1]; exact H) hn (fun r hr => by rw [ids_nth hr.1 hr.2.1]) (fun r hr => by rw [ids_nth hr.1 hr.2.1])
    rw [e1] at hN es
    obtain ⟨N', hN', ei⟩ := i_numb (most := (a.2.1.length : Int)) (p2 := fun a0 => m_i_Automaton_accepts a a0) (p3 := fun a0 a1 => m_i_Automaton_trim_1 a0 a1 a (live a)) (acc := fun x => nth a.2.1 x) H hn (by omega) (fun x hx => iOk_in hn hx.1 hx.2.1) (fun x hx => i_accepts V hx.1 hx.2.1) (fun x k hx hk => by
      refine ⟨mv a x k, ?_⟩
      have hm := V.mv hx.1 hx.2.1 hk
      show m_i_Automaton_trim_1 x k a (live a) = _
      unfold m_i_Automaton_trim_1
      rw [show m_i_Automaton_move (a.1, a.2.1, a.2.2) x k = some (mv a x k) from i_move V hx.1 hx.2.1 hk]; simp only [Option.bind_some]
      rw [succs_at hk]
      by_cases c : mv a x k ≥ 0
      · rw [if_pos (by simpa using c), getI_nth c (by omega)]; simp only [Option.bind_some]
        cases hl : nth (live a) (mv a x k) with
        | true => rw [if_pos ⟨c, rfl⟩, ids_nth c hm.2]
        | false => rw [if_neg (fun h => by cases h.2)]
      · rw [if_neg (by simpa using c), if_neg (fun h => c h.1)])
    obtain rfl := bfE_uniq hN hN'
    refine ⟨_, es, ?_, num_sm H hn hN⟩
    rw [if_pos rfl]
    exact (congrArg (fun x => Option.bind x _) ei).trans rfl
end
theorem Trim_eq (a : AutT) (hs : Data.sm a) : ∃ r, m_s_TrimAutomaton a = some r ∧ m_i_TrimAutomaton a = some r ∧ Data.sm r := by
  obtain ⟨-, ⟨ha, -⟩, hn, hr⟩ := hs
  obtain ⟨b1, e1, k1⟩ := s_valid a (by omega) (by omega)
  obtain ⟨b2, e2, k2⟩ := i_valid a (by omega) (by omega) (fun r h => by have : r.length ≤ 1048576 := (hr r h).1; omega)
  unfold m_s_TrimAutomaton m_i_TrimAutomaton
  simp only [peta]
  rw [e1, e2]; simp only [Option.bind_some]
  cases hb : b1 with
  | false =>
    have : b2 = false := by cases h2 : b2 with
      | false => rfl
      | true => have := k1.2 (k2.1 h2); rw [hb] at this; cases this
    subst this
    exact ⟨(0, [], []), rfl, rfl, trivial, ⟨by decide, fun _ h => by cases h⟩, by decide, fun _ h => by cases h⟩
  | true =>
    obtain ⟨h12, V⟩ := k1.1 hb
    have : b2 = true := k2.2 ⟨h12, V⟩
    subst this
    obtain ⟨r, er, ei, hsm⟩ := trim_eq V (by omega)
    refine ⟨r, ?_, ?_, hsm⟩
    · rw [if_pos rfl, bindL_brk (s_ids V (by omega)), s_live V (by omega)]; simp only [Option.bind_some]
      rw [er]; rfl
    · rw [if_pos rfl, ei]; rfl
theorem lawTrimAutomaton (x : AutT) (hx : Data.lim x) : m_w_FnExactTrimAutomaton x = some true := by
  unfold m_w_FnExactTrimAutomaton
  simp only [peta]
  obtain ⟨r1, e1, k1⟩ := z_szAutomaton x 1048576 hx (by decide) (by decide)
  rw [e1]; simp only [Option.bind_some]
  rcases k1 with k1 | ⟨k1, j1, s1⟩
  · rw [if_pos (decide_eq_true k1)]
  rw [if_neg (by simpa using k1)]
  obtain ⟨r, es, ei, sr⟩ := Trim_eq x s1
  obtain ⟨c1, hc1, hm1⟩ := mk_Automaton x s1
  obtain ⟨y1, em1, -⟩ := hm1 1 (by omega)
  obtain ⟨c2, hc2, hm2⟩ := mk_Automaton r sr
  obtain ⟨y2, em2, eh2⟩ := hm2 1 (by omega)
  have em1 : m_w_markAutomaton x 1 = _ := em1
  have em2 : m_w_markAutomaton r 1 = _ := em2
  have eh2 : m_w_heldAutomaton (r.1, y2.1, y2.2) 1 = _ := eh2
  simp only [t_toAutomaton x s1, es, ei, q_eqAutomaton r r sr sr, q_eqAutomaton x x s1 s1, Option.bind_some, peta, em1, em2, eh2, decide_true, if_true]
  have n1 : ¬ ((1 + c1 : Nat) : Int) < 0 := by omega
  have n2 : ¬ ((1 + c2 : Nat) : Int) < 0 := by omega
  simp only [decide_eq_true_eq, n1, n2, if_false, bne_self_eq_false, Bool.false_eq_true]
end Go.Proofs.Ytcihbmdppgpmjaa.D
