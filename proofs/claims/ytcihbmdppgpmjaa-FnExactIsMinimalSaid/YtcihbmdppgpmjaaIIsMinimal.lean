/- The plain law of IsMinimal: both compare the automaton with its minimal one. -/
import Derived.Test.YtcihbmdppgpmjaaIPl
import Derived.Test.YtcihbmdppgpmjaaIMinim3
set_option linter.unusedVariables false
set_option linter.unusedSimpArgs false
set_option linter.unnecessarySimpa false
set_option linter.unusedSectionVars false
namespace Go.Proofs.Ytcihbmdppgpmjaa.D
open Go.RowKit

theorem q_sBools {α : Type} {f : Int → Option (Out Bool Int)} {K : Option Bool} (xs ys : List Bool) (hN : xs.length ≤ 9223372036854775807) (hl : xs.length = ys.length)
    (hf : ∀ i (h : i < xs.length) (h' : i < ys.length), f (i : Int) = some (if xs[i] = ys[i] then .nxt ((i + 1 : Nat) : Int) else .ret false)) (he : f (xs.length : Int) = some (.brk (xs.length : Int))) :
    bindL (loopM f FUEL 0) (fun r => some r) (fun s4 => K) = (if xs = ys then K else some false) := eqB xs ys hN hl hf he
theorem q_sAutomata (x y : AutT) (hx : Data.sm x) : m_s_EqualAutomata x y = some (decide (x = y)) := by
  obtain ⟨-, ⟨ha, -⟩, hn, hr⟩ := hx
  unfold m_s_EqualAutomata
  by_cases c1 : x.1 = y.1
  case neg => rw [if_pos (by simpa using c1)]; simp [Prod.ext_iff, c1]
  rw [if_neg (by simpa using c1)]
  by_cases c2 : x.2.1.length = y.2.1.length
  case neg => rw [if_pos (by simp; omega)]; simp [Prod.ext_iff]; exact fun _ e => absurd (by rw [e]) c2
  rw [if_neg (by simp; omega)]
  by_cases c3 : x.2.2.length = y.2.2.length
  case neg => rw [if_pos (by simp; omega)]; simp [Prod.ext_iff]; exact fun _ _ e => absurd (by rw [e]) c3
  rw [if_neg (by simp; omega)]
  rw [eqB (f := m_s_EqualAutomata_l0 x y) x.2.1 y.2.1 (by omega) c2 (fun i h h' => by
    simp only [m_s_EqualAutomata_l0, lt_nat h, if_true, getI_nat h, getI_nat h', Option.bind_some, wrap_succ (show i < 9223372036854775807 by omega)]
    by_cases c : x.2.1[i] = y.2.1[i] <;> simp [c]) (by simp only [m_s_EqualAutomata_l0, lt_self]; rfl)]
  by_cases c4 : x.2.1 = y.2.1
  case neg => rw [if_neg c4]; simp [Prod.ext_iff, c4]
  rw [if_pos c4]
  rw [eqB (f := m_s_EqualAutomata_l1 x y) x.2.2 y.2.2 (by omega) c3 (fun i h h' => by
    obtain ⟨r, e, hr'⟩ := q_l2Cmp x.2.2[i] y.2.2[i] ((hr _ (List.getElem_mem h)).1)
    simp only [m_s_EqualAutomata_l1, lt_nat h, if_true, getI_nat h, getI_nat h', Option.bind_some, wrap_succ (show i < 9223372036854775807 by omega), e]
    by_cases c : x.2.2[i] = y.2.2[i]
    · rw [if_neg (by simpa using hr'.2 c), if_pos c]
    · rw [if_pos (by simpa using fun e => c (hr'.1 e)), if_neg c]) (by simp only [m_s_EqualAutomata_l1, lt_self]; rfl)]
  by_cases c5 : x.2.2 = y.2.2
  · rw [if_pos c5]; simp [Prod.ext_iff, c1, c4, c5]
  · rw [if_neg c5]; simp [Prod.ext_iff, c5]
theorem q_iBools (xs ys : List Bool) (hN : xs.length ≤ 9223372036854775807) : m_g_slices_Equal_S_bool_bool xs ys = some (decide (xs = ys)) :=
  eqL (f := m_g_slices_Equal_S_bool_bool_l0 xs ys) xs ys hN (fun i h h' => by
    simp only [m_g_slices_Equal_S_bool_bool_l0, lt_nat h, if_true, getI_nat h, getI_nat h', Option.bind_some, wrap_succ (show i < 9223372036854775807 by omega)]
    by_cases c : xs[i] = ys[i] <;> simp [c]) (by simp only [m_g_slices_Equal_S_bool_bool_l0, lt_self]; rfl)
theorem q_iAutomata (x y : AutT) (hx : Data.sm x) : m_i_EqualAutomata x y = some (decide (x = y)) := by
  obtain ⟨-, ⟨ha, -⟩, hn, hr⟩ := hx
  unfold m_i_EqualAutomata
  by_cases c1 : x.1 = y.1
  case neg => rw [if_neg (by simpa using c1)]; simp [Prod.ext_iff, c1]
  rw [if_pos (by simpa using c1), q_iBools _ _ (by omega)]; simp only [Option.bind_some]
  by_cases c2 : x.2.1 = y.2.1
  case neg => rw [if_neg (by simpa using c2)]; simp [Prod.ext_iff, c2]
  rw [if_pos (by simpa using c2)]
  have : m_g_slices_EqualFunc_S_S_int_S_S_int_S_int_S_int x.2.2 y.2.2 (fun a0 a1 => m_i_EqualAutomata_1 a0 a1) = some (decide (x.2.2 = y.2.2)) :=
    eqL (f := m_g_slices_EqualFunc_S_S_int_S_S_int_S_int_S_int_l0 x.2.2 y.2.2 _) x.2.2 y.2.2 (by omega) (fun i h h' => by
      simp only [m_g_slices_EqualFunc_S_S_int_S_S_int_S_int_S_int_l0, lt_nat h, if_true, getI_nat h, getI_nat h', Option.bind_some, wrap_succ (show i < 9223372036854775807 by omega), m_i_EqualAutomata_1]
      rw [q_sliceEq _ _ (by have : x.2.2[i].length ≤ 1048576 := (hr _ (List.getElem_mem h)).1; omega)]; simp only [Option.bind_some]
      by_cases c : x.2.2[i] = y.2.2[i] <;> simp [c]) (by simp only [m_g_slices_EqualFunc_S_S_int_S_S_int_S_int_S_int_l0, lt_self]; rfl)
  rw [this]
  by_cases c3 : x.2.2 = y.2.2 <;> simp [Prod.ext_iff, c1, c2, c3]
theorem IsMin_eq (a : AutT) (hs : Data.sm a) : ∃ r, m_s_IsMinimal a = some r ∧ m_i_IsMinimal a = some r := by
  have hsm := hs
  obtain ⟨-, ⟨ha, -⟩, hn, hr⟩ := hs
  obtain ⟨b1, e1, k1⟩ := s_valid a (by omega) (by omega)
  obtain ⟨b2, e2, k2⟩ := i_valid a (by omega) (by omega) (fun r h => by have : r.length ≤ 1048576 := (hr r h).1; omega)
  unfold m_s_IsMinimal m_i_IsMinimal
  simp only [peta]
  rw [e1, e2]; simp only [Option.bind_some]
  cases hb : b1 with
  | false =>
    have : b2 = false := by cases h2 : b2 with
      | false => rfl
      | true => have := k1.2 (k2.1 h2); rw [hb] at this; cases this
    subst this
    exact ⟨false, rfl, rfl⟩
  | true =>
    obtain ⟨h12, V⟩ := k1.1 hb
    have : b2 = true := k2.2 ⟨h12, V⟩
    subst this
    obtain ⟨r, er, ei, hr'⟩ := minim_eq V (by omega)
    refine ⟨decide (r = a), ?_, ?_⟩
    · rw [if_pos rfl, er]; simp only [Option.bind_some]
      rw [q_sAutomata r a hr']; rfl
    · rw [if_pos rfl, ei]; simp only [Option.bind_some]
      rw [q_iAutomata a r hsm]; simp only [Option.bind_some]
      congr 1
      exact decide_eq_decide.2 eq_comm
theorem lawIsMinimal (x : AutT) (hx : Data.lim x) : m_w_FnExactIsMinimal x = some true := by
  unfold m_w_FnExactIsMinimal
  simp only [peta]
  obtain ⟨r1, e1, k1⟩ := z_szAutomaton x 1048576 hx (by decide) (by decide)
  rw [e1]; simp only [Option.bind_some]
  rcases k1 with k1 | ⟨k1, j1, s1⟩
  · rw [if_pos (decide_eq_true k1)]
  rw [if_neg (by simpa using k1)]
  obtain ⟨r, es, ei⟩ := IsMin_eq x s1
  simp only [t_toAutomaton x s1, es, ei, q_eqAutomaton x x s1 s1, Option.bind_some, peta, decide_true, if_true]
  simp
end Go.Proofs.Ytcihbmdppgpmjaa.D
