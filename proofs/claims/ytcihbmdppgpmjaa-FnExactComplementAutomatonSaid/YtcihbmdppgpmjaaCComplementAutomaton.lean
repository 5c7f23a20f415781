/- The plain law of ComplementAutomaton. -/
import Derived.Test.YtcihbmdppgpmjaaCPl
import Derived.Test.YtcihbmdppgpmjaaCBool2
import Derived.Test.YtcihbmdppgpmjaaCAutK
set_option linter.unusedVariables false
set_option linter.unusedSimpArgs false
set_option linter.unnecessarySimpa false
set_option linter.unusedSectionVars false
namespace Go.Proofs.Ytcihbmdppgpmjaa.D
open Go.RowKit

def allA : AutT := (0, [true], [[0, 0, 0, 0, 0, 0, 0, 0, 0]])
theorem s_all : m_s_l13All = some allA := by kernel_rfl
theorem all_VA : VA allA 1 := ⟨rfl, by decide, rfl, fun r hr => by obtain rfl := List.mem_singleton.1 hr; rfl, fun r hr t ht => by
  obtain rfl := List.mem_singleton.1 hr
  have : t = 0 := by simpa using ht
  subst this; decide⟩
theorem all_mv : ∀ k, k < 9 → mvn allA 0 k = 0 := by decide
theorem all_acn : acn allA 0 = true := by decide
def nx0 (a : AutT) (t : Int) : List (Option Int) := (List.range 9).map fun k => some (mvn a t k)
theorem nx_all (a : AutT) (t : Int) : nxP allA a (0, t) = (nx0 a t).map (Option.map fun t => ((0 : Int), t)) := by
  unfold nxP nx0
  rw [List.map_map]
  refine List.map_congr_left fun k hk => ?_
  simp only [Function.comp, Option.map_some, all_mv k (List.mem_range.1 hk)]
theorem nx_self (a : AutT) (t : Int) : nxP a a (t, t) = (nx0 a t).map (Option.map fun t => (t, t)) := by
  unfold nxP nx0
  rw [List.map_map]; rfl
theorem compl_eq (a : AutT) (hs : Data.sm a) : ∃ r, m_s_ComplementAutomaton a = some r ∧ m_i_ComplementAutomaton a = some r ∧ Data.sm r.1 := by
  obtain ⟨va, e1, e2, ka⟩ := valid_both a hs
  obtain ⟨vb, e3, kb⟩ := s_valid allA (by decide) (by decide)
  have hvb : vb = true := kb.2 ⟨by decide, all_VA⟩
  subst hvb
  unfold m_s_ComplementAutomaton m_i_ComplementAutomaton m_s_l13Make m_i_combine
  rw [s_all]; simp only [Option.bind_some, peta]
  rw [e3]; simp only [Option.bind_some, if_true]
  rw [e1, e2]; simp only [Option.bind_some]
  cases va with
  | false => exact ⟨((0, [], []), false), rfl, rfl, zero_sm⟩
  | true =>
    obtain ⟨h12, Va⟩ := ka rfl
    obtain ⟨N, hN, es⟩ := s_pairs all_VA Va (by decide) h12 3
    obtain ⟨N', hN', ei⟩ := i_pairs (test := fun a0 a1 => m_i_ComplementAutomaton_1 a0 a1) (tb := fun x _ => !x) Va Va h12 h12 (fun x y => rfl)
    have j1 : ∀ x y : Int, ((0 : Int), x) = (0, y) → x = y := fun x y h => (Prod.ext_iff.1 h).2
    have j2 : ∀ x y : Int, (x, x) = (y, y) → x = y := fun x y h => (Prod.ext_iff.1 h).1
    have H := pairs_num all_VA Va (by decide) h12
    have f1 : (allA.1, a.1) = (fun t => ((0 : Int), t)) a.1 := rfl
    have f2 : (a.1, a.1) = (fun t : Int => (t, t)) a.1 := rfl
    have k1 : bfE (nx0 a) a.1 N := (bfE_map (nx' := nxP allA a) j1 (nx_all a)).1 hN
    have k2 : bfE (nx0 a) a.1 N' := (bfE_map (nx' := nxP a a) j2 (nx_self a)).1 hN'
    obtain rfl := bfE_uniq k1 k2
    obtain ⟨r, r1, r2, r3⟩ := small_eq (acc := accP allA a 3) H hN
    have eS : (0, (bfS (nxP a a) (a.1, a.1) N).map (fun x : Int × Int => !(acn a x.1)), bfR (nxP a a) (a.1, a.1) N) = ((0, (bfS (nxP allA a) (allA.1, a.1) N).map (accP allA a 3), bfR (nxP allA a) (allA.1, a.1) N) : AutT) := by
      rw [f1, f2, bfS_map j1 (nx_all a), bfS_map j2 (nx_self a), bfR_map j1 (nx_all a), bfR_map j2 (nx_self a), List.map_map, List.map_map]
      refine congrArg (fun x => ((0 : Int), x, bfR (nx0 a) a.1 N)) (List.map_congr_left fun t _ => ?_)
      show (!(acn a t)) = accP allA a 3 (0, t)
      unfold accP opB
      rw [all_acn]; simp
    refine ⟨r, ?_, ?_, r3⟩
    · rw [if_pos rfl, es]; simp only [Option.bind_some]
      exact (congrArg (fun x => Option.bind x fun r2 : AutT × Bool => some ((r2.1.1, r2.1.2.1, r2.1.2.2), r2.2)) r1).trans rfl
    · rw [if_pos rfl]
      unfold m_i_together
      simp only [Option.bind_some, if_true]
      have ei' := congrArg (fun x => (Option.bind x fun r4 : AutT × Bool => (m_i_small (r4.1.1, r4.1.2.1, r4.1.2.2)).bind fun r5 => some ((r5.1.1, r5.1.2.1, r5.1.2.2), r5.2)).bind fun r1 => some ((r1.1.1, r1.1.2.1, r1.1.2.2), r1.2)) ei
      refine ei'.trans ?_
      simp only [Option.bind_some, peta]
      rw [eS, r2]; rfl

theorem lawComplementAutomaton (x : AutT) (hx : Data.lim x) : m_w_FnExactComplementAutomaton x = some true := by
  unfold m_w_FnExactComplementAutomaton
  simp only [peta]
  obtain ⟨r1, e1, k1⟩ := z_szAutomaton x 1048576 hx (by decide) (by decide)
  rw [e1]; simp only [Option.bind_some]
  rcases k1 with k1 | ⟨k1, j1, s1⟩
  · rw [if_pos (decide_eq_true k1)]
  rw [if_neg (by simpa using k1)]
  obtain ⟨r, es, ei, sr⟩ := compl_eq x s1
  obtain ⟨c1, hc1, hm1⟩ := mk_Automaton x s1
  obtain ⟨y1, em1, -⟩ := hm1 1 (by omega)
  obtain ⟨c3, hc3, hm3⟩ := mk_Automaton r.1 sr
  obtain ⟨y3, em3, eh3⟩ := hm3 1 (by omega)
  have em1 : m_w_markAutomaton x 1 = _ := em1
  have em3 : m_w_markAutomaton r.1 1 = _ := em3
  have eh3 : m_w_heldAutomaton (r.1.1, y3.1, y3.2) 1 = _ := eh3
  simp only [t_toAutomaton x s1, es, ei, q_eqAutomaton r.1 r.1 sr sr, q_eqAutomaton x x s1 s1, Option.bind_some, peta, em1, em3, eh3, decide_true, if_true]
  have n1 : ¬ ((1 + c1 : Nat) : Int) < 0 := by omega
  have n2 : ¬ ((1 + c3 : Nat) : Int) < 0 := by omega
  simp only [decide_eq_true_eq, n1, n2, if_false, bne_self_eq_false, Bool.false_eq_true]
end Go.Proofs.Ytcihbmdppgpmjaa.D
