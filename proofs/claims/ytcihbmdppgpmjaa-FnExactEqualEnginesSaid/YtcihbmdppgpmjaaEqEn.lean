/- The plain law of EqualEngines: the reference's models and the program's both answer whether the data are equal. -/
import Derived.Test.YtcihbmdppgpmjaaEPl
set_option linter.unusedVariables false
set_option linter.unusedSimpArgs false
set_option linter.unnecessarySimpa false
set_option synthInstance.maxSize 20000
set_option synthInstance.maxHeartbeats 2000000
namespace Go.Proofs.Ytcihbmdppgpmjaa.D
open Go.RowKit
theorem q_l2Cmp (xs ys : List Int) (hN : xs.length ≤ 1048576) : ∃ r, m_s_l2Cmp xs ys = some r ∧ (r = 0 ↔ xs = ys) := by
  unfold m_s_l2Cmp
  have h0 := cmpGo (f := m_s_l2Cmp_l0 xs ys) xs ys (fun i h h' => by
    simp only [m_s_l2Cmp_l0, lt_nat h, lt_nat h', if_true, getI_nat h, getI_nat h', Option.bind_some, wrap_succ (show i < 9223372036854775807 by omega)]
    by_cases h1 : xs[i] < ys[i]
    · simp [h1]
    · by_cases h2 : xs[i] > ys[i]
      · simp [h1, h2]
      · simp [h1, h2]) (fun i hi => by
    simp only [m_s_l2Cmp_l0]
    by_cases h1 : i < xs.length
    · have h2 : ¬ i < ys.length := by omega
      simp [h1, h2]
    · simp [h1]) xs.length 0 FUEL (by omega) (fuelUp _ (by omega))
  rw [show (((0 : Nat) : Int)) = (0 : Int) from rfl] at h0
  rcases h0 with ⟨r, e, h1, h2⟩ | ⟨s, e, h1⟩
  · exact ⟨r, by rw [e]; rfl, by simp [h1, h2]⟩
  · rw [e]
    simp only [bindL]
    by_cases c1 : xs.length < ys.length
    · exact ⟨-1, by simp [c1], by simp; intro e; subst e; omega⟩
    · by_cases c2 : xs.length > ys.length
      · exact ⟨1, by simp [c1, c2], by simp; intro e; subst e; omega⟩
      · have c3 : xs.length = ys.length := by omega
        have := h1 c3
        simp at this
        exact ⟨0, by simp [c3], by simp [this]⟩
theorem q_sGraphs : EqOk m_s_EqualGraphs := by
  intro x y hx hy
  unfold m_s_EqualGraphs
  obtain ⟨r, e, hr⟩ := q_l2Cmp x.1 y.1 (sm_list hx.1).1
  rw [e]; simp only [Option.bind_some]
  rw [eqL (f := m_s_EqualGraphs_l0 x y) x.2 y.2 (by have := (sm_list hx.2).1; omega) (fun i h h' => by
    simp only [m_s_EqualGraphs_l0, lt_nat h, if_true, getI_nat h, getI_nat h', Option.bind_some, peta, wrap_succ (show i < 9223372036854775807 by have := (sm_list hx.2).1; omega)]
    first | (refine iteOpt ?_; simp only [Bool.and_true, Bool.and_eq_true, beq_iff_eq]; first | exact peq2 | exact peq3 | exact peq4) | exact iteOpt (by simp) | exact iteOptN (by simp)) (by simp only [m_s_EqualGraphs_l0, lt_self]; rfl)]
  by_cases h : x.1 = y.1
  · rw [if_neg (by simp [hr.2 h])]; simp [Prod.ext_iff, h]
  · rw [if_pos (by simp [hr, h])]; simp [Prod.ext_iff, h]
theorem q_sHistories : EqOk m_s_EqualHistories := by
  intro x y hx hy
  unfold m_s_EqualHistories
  rw [eqL (f := m_s_EqualHistories_l0 x y) x.2 y.2 (by have := (sm_list hx.2).1; omega) (fun i h h' => by
    simp only [m_s_EqualHistories_l0, lt_nat h, if_true, getI_nat h, getI_nat h', Option.bind_some, peta, q_sGraphs x.2[i] y.2[i] ((sm_list hx.2).2 _ (List.getElem_mem h)) ((sm_list hy.2).2 _ (List.getElem_mem h')), wrap_succ (show i < 9223372036854775807 by have := (sm_list hx.2).1; omega)]
    first | (refine iteOpt ?_; simp only [Bool.and_true, Bool.and_eq_true, beq_iff_eq]; first | exact peq2 | exact peq3 | exact peq4) | exact iteOpt (by simp) | exact iteOptN (by simp)) (by simp only [m_s_EqualHistories_l0, lt_self]; rfl)]
  by_cases h : x.1 = y.1
  · simp [Prod.ext_iff, h]
  · simp [Prod.ext_iff, h]
theorem q_sAutomata : EqOk m_s_EqualAutomata := by
  intro x y hx hy
  unfold m_s_EqualAutomata
  by_cases h : x.1 = y.1
  · by_cases h1 : x.2.1.length = y.2.1.length
    · by_cases h2 : x.2.2.length = y.2.2.length
      · rw [if_neg (by simp [h]), if_neg (by rw [h1]; simp), if_neg (by rw [h2]; simp)]
        rw [eqB (f := m_s_EqualAutomata_l0 x y) x.2.1 y.2.1 (by have := (sm_list hx.2.1).1; omega) h1 (fun i h h' => by
    simp only [m_s_EqualAutomata_l0, lt_nat h, if_true, getI_nat h, getI_nat h', Option.bind_some, peta, wrap_succ (show i < 9223372036854775807 by have := (sm_list hx.2.1).1; omega)]
    first | (refine iteOpt ?_; simp only [Bool.and_true, Bool.and_eq_true, beq_iff_eq]; first | exact peq2 | exact peq3 | exact peq4) | exact iteOpt (by simp) | exact iteOptN (by simp)) (by simp only [m_s_EqualAutomata_l0, lt_self]; rfl)]
        rw [eqB (f := m_s_EqualAutomata_l1 x y) x.2.2 y.2.2 (by have := (sm_list hx.2.2).1; omega) h2 (fun i h h' => by
          obtain ⟨r, e, hr⟩ := q_l2Cmp x.2.2[i] y.2.2[i] (sm_list ((sm_list hx.2.2).2 _ (List.getElem_mem h))).1
          simp only [m_s_EqualAutomata_l1, lt_nat h, if_true, getI_nat h, getI_nat h', Option.bind_some, e, wrap_succ (show i < 9223372036854775807 by have := (sm_list hx.2.2).1; omega)]
          exact iteOptN (by simp [hr])) (by simp only [m_s_EqualAutomata_l1, lt_self]; rfl)]
        by_cases e1 : x.2.1 = y.2.1 <;> by_cases e2 : x.2.2 = y.2.2 <;> simp [Prod.ext_iff, h, e1, e2]
      · have : x.2.2 ≠ y.2.2 := fun e => h2 (by rw [e])
        rw [if_neg (by simp [h]), if_neg (by rw [h1]; simp), if_pos (by simp; omega)]; simp [Prod.ext_iff, this]
    · have : x.2.1 ≠ y.2.1 := fun e => h1 (by rw [e])
      rw [if_neg (by simp [h]), if_pos (by simp; omega)]; simp [Prod.ext_iff, this]
  · simp [Prod.ext_iff, h]
theorem q_sExprs : EqOk m_s_EqualExprs := by
  intro x y hx hy
  unfold m_s_EqualExprs
  exact eqL (f := m_s_EqualExprs_l0 x y) x y (by have := (sm_list hx).1; omega) (fun i h h' => by
    simp only [m_s_EqualExprs_l0, lt_nat h, if_true, getI_nat h, getI_nat h', Option.bind_some, peta, wrap_succ (show i < 9223372036854775807 by have := (sm_list hx).1; omega)]
    first | (refine iteOpt ?_; simp only [Bool.and_true, Bool.and_eq_true, beq_iff_eq]; first | exact peq2 | exact peq3 | exact peq4) | exact iteOpt (by simp) | exact iteOptN (by simp)) (by simp only [m_s_EqualExprs_l0, lt_self]; rfl)
theorem q_sRegistries : EqOk m_s_EqualRegistries := by
  intro x y hx hy
  unfold m_s_EqualRegistries
  by_cases h1 : x.1.length = y.1.length
  · by_cases h2 : x.2.length = y.2.length
    · rw [if_neg (by rw [h1]; simp), if_neg (by rw [h2]; simp)]
      rw [eqB (f := m_s_EqualRegistries_l0 x y) x.1 y.1 (by have := (sm_list hx.1).1; omega) h1 (fun i h h' => by
    simp only [m_s_EqualRegistries_l0, lt_nat h, if_true, getI_nat h, getI_nat h', Option.bind_some, peta, q_sAutomata x.1[i] y.1[i] ((sm_list hx.1).2 _ (List.getElem_mem h)) ((sm_list hy.1).2 _ (List.getElem_mem h')), wrap_succ (show i < 9223372036854775807 by have := (sm_list hx.1).1; omega)]
    first | (refine iteOpt ?_; simp only [Bool.and_true, Bool.and_eq_true, beq_iff_eq]; first | exact peq2 | exact peq3 | exact peq4) | exact iteOpt (by simp) | exact iteOptN (by simp)) (by simp only [m_s_EqualRegistries_l0, lt_self]; rfl)]
      rw [eqB (f := m_s_EqualRegistries_l1 x y) x.2 y.2 (by have := (sm_list hx.2).1; omega) h2 (fun i h h' => by
        have e := q_sExprs x.2[i].2.1 y.2[i].2.1 ((sm_list hx.2).2 _ (List.getElem_mem h)).2.1 ((sm_list hy.2).2 _ (List.getElem_mem h')).2.1
        simp only [m_s_EqualRegistries_l1, lt_nat h, if_true, getI_nat h, getI_nat h', Option.bind_some, e, wrap_succ (show i < 9223372036854775807 by have := (sm_list hx.2).1; omega)]
        generalize x.2[i] = u; generalize y.2[i] = v
        by_cases e1 : u.1 = v.1 <;> by_cases e2 : u.2.1 = v.2.1 <;> by_cases e3 : u.2.2 = v.2.2 <;> simp [Prod.ext_iff, e1, e2, e3]) (by simp only [m_s_EqualRegistries_l1, lt_self]; rfl)]
      by_cases e1 : x.1 = y.1 <;> by_cases e2 : x.2 = y.2 <;> simp [Prod.ext_iff, e1, e2]
    · have : x.2 ≠ y.2 := fun e => h2 (by rw [e])
      rw [if_neg (by rw [h1]; simp), if_pos (by simp; omega)]; simp [Prod.ext_iff, this]
  · have : x.1 ≠ y.1 := fun e => h1 (by rw [e])
    rw [if_pos (by simp; omega)]; simp [Prod.ext_iff, this]
theorem q_sEngines : EqOk m_s_EqualEngines := by
  intro x y hx hy
  unfold m_s_EqualEngines
  simp only [peta, q_sHistories x.1 y.1 hx.1 hy.1, q_sRegistries x.2.1 y.2.1 hx.2.1 hy.2.1, Option.bind_some]
  have e := eqL (f := m_s_EqualEngines_l0 x y) x.2.2.1 y.2.2.1 (by have := (sm_list hx.2.2.1).1; omega) (fun i h h' => by
    simp only [m_s_EqualEngines_l0, lt_nat h, if_true, getI_nat h, getI_nat h', Option.bind_some, peta, wrap_succ (show i < 9223372036854775807 by have := (sm_list hx.2.2.1).1; omega)]
    first | (refine iteOpt ?_; simp only [Bool.and_true, Bool.and_eq_true, beq_iff_eq]; first | exact peq2 | exact peq3 | exact peq4) | exact iteOpt (by simp) | exact iteOptN (by simp)) (by simp only [m_s_EqualEngines_l0, lt_self]; rfl)
  by_cases h1 : x.1 = y.1 <;> by_cases h2 : x.2.1 = y.2.1 <;> by_cases h3 : x.2.2.2 = y.2.2.2 <;> simp only [h1, h2, h3, decide_true, decide_false, if_true, if_false, Bool.false_eq_true, bne_self_eq_false]
  · rw [e]; by_cases h4 : x.2.2.1 = y.2.2.1 <;> simp [Prod.ext_iff, h1, h2, h3, h4]
  all_goals simp [Prod.ext_iff, h1, h2, h3]
theorem q_iInts : EqOk m_g_slices_Equal_S_int_int := by
  intro x y hx hy
  unfold m_g_slices_Equal_S_int_int
  exact eqL (f := m_g_slices_Equal_S_int_int_l0 x y) x y (by have := (sm_list hx).1; omega) (fun i h h' => by
    simp only [m_g_slices_Equal_S_int_int_l0, lt_nat h, if_true, getI_nat h, getI_nat h', Option.bind_some, peta, wrap_succ (show i < 9223372036854775807 by have := (sm_list hx).1; omega)]
    first | (refine iteOpt ?_; simp only [Bool.and_true, Bool.and_eq_true, beq_iff_eq]; first | exact peq2 | exact peq3 | exact peq4) | exact iteOpt (by simp) | exact iteOptN (by simp)) (by simp only [m_g_slices_Equal_S_int_int_l0, lt_self]; rfl)
theorem q_iBools : EqOk m_g_slices_Equal_S_bool_bool := by
  intro x y hx hy
  unfold m_g_slices_Equal_S_bool_bool
  exact eqL (f := m_g_slices_Equal_S_bool_bool_l0 x y) x y (by have := (sm_list hx).1; omega) (fun i h h' => by
    simp only [m_g_slices_Equal_S_bool_bool_l0, lt_nat h, if_true, getI_nat h, getI_nat h', Option.bind_some, peta, wrap_succ (show i < 9223372036854775807 by have := (sm_list hx).1; omega)]
    first | (refine iteOpt ?_; simp only [Bool.and_true, Bool.and_eq_true, beq_iff_eq]; first | exact peq2 | exact peq3 | exact peq4) | exact iteOpt (by simp) | exact iteOptN (by simp)) (by simp only [m_g_slices_Equal_S_bool_bool_l0, lt_self]; rfl)
theorem q_iEdges : EqOk m_g_slices_Equal_S_Edge_Edge := by
  intro x y hx hy
  unfold m_g_slices_Equal_S_Edge_Edge
  exact eqL (f := m_g_slices_Equal_S_Edge_Edge_l0 x y) x y (by have := (sm_list hx).1; omega) (fun i h h' => by
    simp only [m_g_slices_Equal_S_Edge_Edge_l0, lt_nat h, if_true, getI_nat h, getI_nat h', Option.bind_some, peta, wrap_succ (show i < 9223372036854775807 by have := (sm_list hx).1; omega)]
    first | (refine iteOpt ?_; simp only [Bool.and_true, Bool.and_eq_true, beq_iff_eq]; first | exact peq2 | exact peq3 | exact peq4) | exact iteOpt (by simp) | exact iteOptN (by simp)) (by simp only [m_g_slices_Equal_S_Edge_Edge_l0, lt_self]; rfl)
theorem q_iTokens : EqOk m_g_slices_Equal_S_Token_Token := by
  intro x y hx hy
  unfold m_g_slices_Equal_S_Token_Token
  exact eqL (f := m_g_slices_Equal_S_Token_Token_l0 x y) x y (by have := (sm_list hx).1; omega) (fun i h h' => by
    simp only [m_g_slices_Equal_S_Token_Token_l0, lt_nat h, if_true, getI_nat h, getI_nat h', Option.bind_some, peta, wrap_succ (show i < 9223372036854775807 by have := (sm_list hx).1; omega)]
    first | (refine iteOpt ?_; simp only [Bool.and_true, Bool.and_eq_true, beq_iff_eq]; first | exact peq2 | exact peq3 | exact peq4) | exact iteOpt (by simp) | exact iteOptN (by simp)) (by simp only [m_g_slices_Equal_S_Token_Token_l0, lt_self]; rfl)
theorem q_iSubs : EqOk m_g_slices_Equal_S_Subscriber_Subscriber := by
  intro x y hx hy
  unfold m_g_slices_Equal_S_Subscriber_Subscriber
  exact eqL (f := m_g_slices_Equal_S_Subscriber_Subscriber_l0 x y) x y (by have := (sm_list hx).1; omega) (fun i h h' => by
    simp only [m_g_slices_Equal_S_Subscriber_Subscriber_l0, lt_nat h, if_true, getI_nat h, getI_nat h', Option.bind_some, peta, wrap_succ (show i < 9223372036854775807 by have := (sm_list hx).1; omega)]
    first | (refine iteOpt ?_; simp only [Bool.and_true, Bool.and_eq_true, beq_iff_eq]; first | exact peq2 | exact peq3 | exact peq4) | exact iteOpt (by simp) | exact iteOptN (by simp)) (by simp only [m_g_slices_Equal_S_Subscriber_Subscriber_l0, lt_self]; rfl)
theorem q_iGraphsF {f : _ → _ → Option Bool} (hf : EqOk f) : EqOk (fun x y => m_g_slices_EqualFunc_S_Graph_S_Graph_Graph_Graph x y f) := by
  intro x y hx hy
  simp only
  unfold m_g_slices_EqualFunc_S_Graph_S_Graph_Graph_Graph
  exact eqL (f := m_g_slices_EqualFunc_S_Graph_S_Graph_Graph_Graph_l0 x y f) x y (by have := (sm_list hx).1; omega) (fun i h h' => by
    simp only [m_g_slices_EqualFunc_S_Graph_S_Graph_Graph_Graph_l0, lt_nat h, if_true, getI_nat h, getI_nat h', Option.bind_some, peta, hf x[i] y[i] ((sm_list hx).2 _ (List.getElem_mem h)) ((sm_list hy).2 _ (List.getElem_mem h')), wrap_succ (show i < 9223372036854775807 by have := (sm_list hx).1; omega)]
    first | (refine iteOpt ?_; simp only [Bool.and_true, Bool.and_eq_true, beq_iff_eq]; first | exact peq2 | exact peq3 | exact peq4) | exact iteOpt (by simp) | exact iteOptN (by simp)) (by simp only [m_g_slices_EqualFunc_S_Graph_S_Graph_Graph_Graph_l0, lt_self]; rfl)
theorem q_iIntsF {f : _ → _ → Option Bool} (hf : EqOk f) : EqOk (fun x y => m_g_slices_EqualFunc_S_S_int_S_S_int_S_int_S_int x y f) := by
  intro x y hx hy
  simp only
  unfold m_g_slices_EqualFunc_S_S_int_S_S_int_S_int_S_int
  exact eqL (f := m_g_slices_EqualFunc_S_S_int_S_S_int_S_int_S_int_l0 x y f) x y (by have := (sm_list hx).1; omega) (fun i h h' => by
    simp only [m_g_slices_EqualFunc_S_S_int_S_S_int_S_int_S_int_l0, lt_nat h, if_true, getI_nat h, getI_nat h', Option.bind_some, peta, hf x[i] y[i] ((sm_list hx).2 _ (List.getElem_mem h)) ((sm_list hy).2 _ (List.getElem_mem h')), wrap_succ (show i < 9223372036854775807 by have := (sm_list hx).1; omega)]
    first | (refine iteOpt ?_; simp only [Bool.and_true, Bool.and_eq_true, beq_iff_eq]; first | exact peq2 | exact peq3 | exact peq4) | exact iteOpt (by simp) | exact iteOptN (by simp)) (by simp only [m_g_slices_EqualFunc_S_S_int_S_S_int_S_int_S_int_l0, lt_self]; rfl)
theorem q_iAutomataF {f : _ → _ → Option Bool} (hf : EqOk f) : EqOk (fun x y => m_g_slices_EqualFunc_S_Automaton_S_Automaton_Automaton_Automaton x y f) := by
  intro x y hx hy
  simp only
  unfold m_g_slices_EqualFunc_S_Automaton_S_Automaton_Automaton_Automaton
  exact eqL (f := m_g_slices_EqualFunc_S_Automaton_S_Automaton_Automaton_Automaton_l0 x y f) x y (by have := (sm_list hx).1; omega) (fun i h h' => by
    simp only [m_g_slices_EqualFunc_S_Automaton_S_Automaton_Automaton_Automaton_l0, lt_nat h, if_true, getI_nat h, getI_nat h', Option.bind_some, peta, hf x[i] y[i] ((sm_list hx).2 _ (List.getElem_mem h)) ((sm_list hy).2 _ (List.getElem_mem h')), wrap_succ (show i < 9223372036854775807 by have := (sm_list hx).1; omega)]
    first | (refine iteOpt ?_; simp only [Bool.and_true, Bool.and_eq_true, beq_iff_eq]; first | exact peq2 | exact peq3 | exact peq4) | exact iteOpt (by simp) | exact iteOptN (by simp)) (by simp only [m_g_slices_EqualFunc_S_Automaton_S_Automaton_Automaton_Automaton_l0, lt_self]; rfl)
theorem q_iRegF {f : _ → _ → Option Bool} (hf : EqOk f) : EqOk (fun x y => m_g_slices_EqualFunc_S_Registered_S_Registered_Registered_Registered x y f) := by
  intro x y hx hy
  simp only
  unfold m_g_slices_EqualFunc_S_Registered_S_Registered_Registered_Registered
  exact eqL (f := m_g_slices_EqualFunc_S_Registered_S_Registered_Registered_Registered_l0 x y f) x y (by have := (sm_list hx).1; omega) (fun i h h' => by
    simp only [m_g_slices_EqualFunc_S_Registered_S_Registered_Registered_Registered_l0, lt_nat h, if_true, getI_nat h, getI_nat h', Option.bind_some, peta, hf x[i] y[i] ((sm_list hx).2 _ (List.getElem_mem h)) ((sm_list hy).2 _ (List.getElem_mem h')), wrap_succ (show i < 9223372036854775807 by have := (sm_list hx).1; omega)]
    first | (refine iteOpt ?_; simp only [Bool.and_true, Bool.and_eq_true, beq_iff_eq]; first | exact peq2 | exact peq3 | exact peq4) | exact iteOpt (by simp) | exact iteOptN (by simp)) (by simp only [m_g_slices_EqualFunc_S_Registered_S_Registered_Registered_Registered_l0, lt_self]; rfl)
theorem q_iGraphs : EqOk m_i_EqualGraphs := by
  intro x y hx hy
  unfold m_i_EqualGraphs
  simp only [q_iInts x.1 y.1 hx.1 hy.1, q_iEdges x.2 y.2 hx.2 hy.2, Option.bind_some]
  by_cases h1 : x.1 = y.1 <;> by_cases h2 : x.2 = y.2 <;> simp [Prod.ext_iff, h1, h2]
theorem q_iHistories : EqOk m_i_EqualHistories := by
  intro x y hx hy
  unfold m_i_EqualHistories
  have e := q_iGraphsF (f := fun a0 a1 => m_i_EqualGraphs a0 a1) q_iGraphs x.2 y.2 hx.2 hy.2
  simp only at e
  rw [e]; simp only [Option.bind_some]
  by_cases h1 : x.1 = y.1 <;> by_cases h2 : x.2 = y.2 <;> simp [Prod.ext_iff, h1, h2]
theorem q_iAutomata_1 : EqOk m_i_EqualAutomata_1 := by
  intro x y hx hy
  unfold m_i_EqualAutomata_1
  rw [q_iInts x y hx hy]; rfl
theorem q_iAutomata : EqOk m_i_EqualAutomata := by
  intro x y hx hy
  unfold m_i_EqualAutomata
  have e := q_iIntsF (f := fun a0 a1 => m_i_EqualAutomata_1 a0 a1) q_iAutomata_1 x.2.2 y.2.2 hx.2.2 hy.2.2
  simp only at e
  rw [e]; simp only [q_iBools x.2.1 y.2.1 hx.2.1 hy.2.1, Option.bind_some]
  by_cases h1 : x.1 = y.1 <;> by_cases h2 : x.2.1 = y.2.1 <;> by_cases h3 : x.2.2 = y.2.2 <;> simp [Prod.ext_iff, h1, h2, h3]
theorem q_iExprs : EqOk m_i_EqualExprs := by
  intro x y hx hy
  unfold m_i_EqualExprs
  rw [q_iTokens x y hx hy]; rfl
theorem q_iQueries : EqOk m_i_equalQueries := by
  intro x y hx hy
  unfold m_i_equalQueries
  simp only [q_iExprs x.2.1 y.2.1 hx.2.1 hy.2.1, Option.bind_some]
  by_cases h1 : x.1 = y.1 <;> by_cases h2 : x.2.1 = y.2.1 <;> by_cases h3 : x.2.2 = y.2.2 <;> simp [Prod.ext_iff, h1, h2, h3]
theorem q_iRegistries : EqOk m_i_EqualRegistries := by
  intro x y hx hy
  unfold m_i_EqualRegistries
  have e := q_iAutomataF (f := fun a0 a1 => m_i_EqualAutomata a0 a1) q_iAutomata x.1 y.1 hx.1 hy.1
  have e' := q_iRegF (f := fun a0 a1 => m_i_equalQueries a0 a1) q_iQueries x.2 y.2 hx.2 hy.2
  simp only at e e'
  rw [e, e']; simp only [Option.bind_some]
  by_cases h1 : x.1 = y.1 <;> by_cases h2 : x.2 = y.2 <;> simp [Prod.ext_iff, h1, h2]
theorem q_iEngines : EqOk m_i_EqualEngines := by
  intro x y hx hy
  unfold m_i_EqualEngines
  simp only [peta, q_iHistories x.1 y.1 hx.1 hy.1, q_iRegistries x.2.1 y.2.1 hx.2.1 hy.2.1, q_iSubs x.2.2.1 y.2.2.1 hx.2.2.1 hy.2.2.1, Option.bind_some]
  by_cases h1 : x.1 = y.1 <;> by_cases h2 : x.2.1 = y.2.1 <;> by_cases h3 : x.2.2.1 = y.2.2.1 <;> by_cases h4 : x.2.2.2 = y.2.2.2 <;> simp [Prod.ext_iff, h1, h2, h3, h4]
theorem lawEqualEngines (x y : _) (hx : Data.lim x) (hy : Data.lim y) : m_w_FnExactEqualEngines x y = some true := by
  unfold m_w_FnExactEqualEngines
  simp only [peta]
  obtain ⟨r1, e1, k1⟩ := z_szEngine x 1048576 hx (by decide) (by decide)
  rw [e1]; simp only [Option.bind_some]
  rcases k1 with k1 | ⟨k1, j1, s1⟩
  · rw [if_pos (decide_eq_true k1)]
  rw [if_neg (by simpa using k1)]
  obtain ⟨r2, e2, k2⟩ := z_szEngine y r1 hy k1 j1
  rw [e2]; simp only [Option.bind_some]
  rcases k2 with k2 | ⟨k2, j2, s2⟩
  · rw [if_pos (decide_eq_true k2)]
  rw [if_neg (by simpa using k2)]
  simp only [t_toEngine x s1, t_toEngine y s2, q_sEngines x y s1 s2, q_iEngines x y s1 s2, q_eqEngine x x s1 s1, q_eqEngine y y s2 s2, Option.bind_some, peta]
  simp
end Go.Proofs.Ytcihbmdppgpmjaa.D
