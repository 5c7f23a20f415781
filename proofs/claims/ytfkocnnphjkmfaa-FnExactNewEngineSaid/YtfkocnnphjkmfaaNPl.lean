/- Printed by genplain.py: what the helpers of the law FnExactNewEngine compute. -/
import Derived.Test.YtfkocnnphjkmfaaNm
import Derived.Test.YtfkocnnphjkmfaaLoop
set_option linter.unusedVariables false
set_option linter.unusedSimpArgs false
set_option linter.unnecessarySimpa false
set_option synthInstance.maxSize 20000
set_option synthInstance.maxHeartbeats 2000000
namespace Go.Proofs.Ytfkocnnphjkmfaa.D
open Go.RowKit
theorem z_szIntS : SzOk m_w_szIntS := fun xs l hl h0 h1 => szF xs (lim_list hl).1 (fun _ => trivial) h0 h1
theorem z_szEdgeS : SzOk m_w_szEdgeS := fun xs l hl h0 h1 => szF xs (lim_list hl).1 (fun _ => ⟨trivial, trivial, trivial, trivial⟩) h0 h1
theorem z_szGraph : SzOk m_w_szGraph := by
  intro x l hl h0 h1
  unfold m_w_szGraph
  try simp only [peta]
  obtain ⟨r1, e1, k1⟩ := z_szIntS x.1 l hl.1 (by omega) (by omega)
  rw [e1]; simp only [Option.bind_some]
  rcases k1 with k1 | ⟨k1, j1, s1⟩
  · exact ⟨-1, by rw [if_pos (decide_eq_true k1)], .inl (by decide)⟩
  rw [if_neg (by simpa using k1)]
  obtain ⟨r2, e2, k2⟩ := z_szEdgeS x.2 r1 hl.2 (by omega) (by omega)
  rw [e2]; simp only [Option.bind_some]
  rcases k2 with k2 | ⟨k2, j2, s2⟩
  · exact ⟨-1, by rw [if_pos (decide_eq_true k2)], .inl (by decide)⟩
  rw [if_neg (by simpa using k2)]
  exact ⟨_, rfl, .inr ⟨by omega, by omega, ⟨s1, s2⟩⟩⟩
theorem t_toIntS : ToOk m_w_toIntS := by
  intro xs hx
  have hn := (sm_list hx).1
  unfold m_w_toIntS
  rw [mkI_ok (by omega)]; simp only [Option.bind_some]
  rw [toL (f := m_w_toIntS_l0 xs) xs (by omega) (fun ys i h hy => by simp only [m_w_toIntS_l0, lt_nat h, if_true, getI_nat h, getI_nat (show i < ys.length by omega), Option.bind_some, peta, wrap_succ (show i < 9223372036854775807 by omega), Int.toNat_natCast]) (fun ys hy => by simp only [m_w_toIntS_l0, lt_self]; rfl)]
  rfl
theorem t_toEdge : ToOk m_w_toEdge := by
  intro x hx
  unfold m_w_toEdge
  simp only [peta, Option.bind_some]
theorem t_toEdgeS : ToOk m_w_toEdgeS := by
  intro xs hx
  have hn := (sm_list hx).1
  unfold m_w_toEdgeS
  rw [mkI_ok (by omega)]; simp only [Option.bind_some]
  rw [toL (f := m_w_toEdgeS_l0 xs) xs (by omega) (fun ys i h hy => by simp only [m_w_toEdgeS_l0, lt_nat h, if_true, getI_nat h, getI_nat (show i < ys.length by omega), Option.bind_some, peta, t_toEdge xs[i] ((sm_list hx).2 _ (List.getElem_mem h)), wrap_succ (show i < 9223372036854775807 by omega), Int.toNat_natCast]) (fun ys hy => by simp only [m_w_toEdgeS_l0, lt_self]; rfl)]
  rfl
theorem t_toGraph : ToOk m_w_toGraph := by
  intro x hx
  unfold m_w_toGraph
  simp only [peta, Option.bind_some, t_toIntS x.1 hx.1, t_toEdgeS x.2 hx.2]
theorem q_eqIntS : EqOk m_w_eqIntS := fun xs ys hx hy => eqL (f := m_w_eqIntS_l0 xs ys) xs ys (by have := (sm_list hx).1; omega) (fun i h h' => by
  simp only [m_w_eqIntS_l0, lt_nat h, if_true, getI_nat h, getI_nat h', Option.bind_some, peta, wrap_succ (show i < 9223372036854775807 by have := (sm_list hx).1; omega)]
  first | exact iteOpt (by simp) | exact iteOptN (by simp) | exact iteOpt (by simp [Prod.ext_iff])) (by simp only [m_w_eqIntS_l0, lt_self]; rfl)
theorem q_eqEdge : EqOk m_w_eqEdge := by
  intro x y hx hy
  unfold m_w_eqEdge
  try simp only [peta, Option.bind_some]
  repeat' split
  all_goals simp_all [Prod.ext_iff]
theorem q_eqEdgeS : EqOk m_w_eqEdgeS := fun xs ys hx hy => eqL (f := m_w_eqEdgeS_l0 xs ys) xs ys (by have := (sm_list hx).1; omega) (fun i h h' => by
  simp only [m_w_eqEdgeS_l0, lt_nat h, if_true, getI_nat h, getI_nat h', Option.bind_some, peta, q_eqEdge xs[i] ys[i] ((sm_list hx).2 _ (List.getElem_mem h)) ((sm_list hy).2 _ (List.getElem_mem h')), wrap_succ (show i < 9223372036854775807 by have := (sm_list hx).1; omega)]
  first | exact iteOpt (by simp) | exact iteOptN (by simp) | exact iteOpt (by simp [Prod.ext_iff])) (by simp only [m_w_eqEdgeS_l0, lt_self]; rfl)
theorem q_eqGraph : EqOk m_w_eqGraph := by
  intro x y hx hy
  unfold m_w_eqGraph
  try simp only [peta, Option.bind_some, q_eqIntS x.1 y.1 hx.1 hy.1, q_eqEdgeS x.2 y.2 hx.2 hy.2]
  repeat' split
  all_goals simp_all [Prod.ext_iff]
theorem q_eqGraphS : EqOk m_w_eqGraphS := fun xs ys hx hy => eqL (f := m_w_eqGraphS_l0 xs ys) xs ys (by have := (sm_list hx).1; omega) (fun i h h' => by
  simp only [m_w_eqGraphS_l0, lt_nat h, if_true, getI_nat h, getI_nat h', Option.bind_some, peta, q_eqGraph xs[i] ys[i] ((sm_list hx).2 _ (List.getElem_mem h)) ((sm_list hy).2 _ (List.getElem_mem h')), wrap_succ (show i < 9223372036854775807 by have := (sm_list hx).1; omega)]
  first | exact iteOpt (by simp) | exact iteOptN (by simp) | exact iteOpt (by simp [Prod.ext_iff])) (by simp only [m_w_eqGraphS_l0, lt_self]; rfl)
theorem q_eqHistory : EqOk m_w_eqHistory := by
  intro x y hx hy
  unfold m_w_eqHistory
  try simp only [peta, Option.bind_some, q_eqGraphS x.2 y.2 hx.2 hy.2]
  repeat' split
  all_goals simp_all [Prod.ext_iff]
theorem q_eqBoolS : EqOk m_w_eqBoolS := fun xs ys hx hy => eqL (f := m_w_eqBoolS_l0 xs ys) xs ys (by have := (sm_list hx).1; omega) (fun i h h' => by
  simp only [m_w_eqBoolS_l0, lt_nat h, if_true, getI_nat h, getI_nat h', Option.bind_some, peta, wrap_succ (show i < 9223372036854775807 by have := (sm_list hx).1; omega)]
  first | exact iteOpt (by simp) | exact iteOptN (by simp) | exact iteOpt (by simp [Prod.ext_iff])) (by simp only [m_w_eqBoolS_l0, lt_self]; rfl)
theorem q_eqIntSS : EqOk m_w_eqIntSS := fun xs ys hx hy => eqL (f := m_w_eqIntSS_l0 xs ys) xs ys (by have := (sm_list hx).1; omega) (fun i h h' => by
  simp only [m_w_eqIntSS_l0, lt_nat h, if_true, getI_nat h, getI_nat h', Option.bind_some, peta, q_eqIntS xs[i] ys[i] ((sm_list hx).2 _ (List.getElem_mem h)) ((sm_list hy).2 _ (List.getElem_mem h')), wrap_succ (show i < 9223372036854775807 by have := (sm_list hx).1; omega)]
  first | exact iteOpt (by simp) | exact iteOptN (by simp) | exact iteOpt (by simp [Prod.ext_iff])) (by simp only [m_w_eqIntSS_l0, lt_self]; rfl)
theorem q_eqAutomaton : EqOk m_w_eqAutomaton := by
  intro x y hx hy
  unfold m_w_eqAutomaton
  try simp only [peta, Option.bind_some, q_eqBoolS x.2.1 y.2.1 hx.2.1 hy.2.1, q_eqIntSS x.2.2 y.2.2 hx.2.2 hy.2.2]
  repeat' split
  all_goals simp_all [Prod.ext_iff]
theorem q_eqAutomatonS : EqOk m_w_eqAutomatonS := fun xs ys hx hy => eqL (f := m_w_eqAutomatonS_l0 xs ys) xs ys (by have := (sm_list hx).1; omega) (fun i h h' => by
  simp only [m_w_eqAutomatonS_l0, lt_nat h, if_true, getI_nat h, getI_nat h', Option.bind_some, peta, q_eqAutomaton xs[i] ys[i] ((sm_list hx).2 _ (List.getElem_mem h)) ((sm_list hy).2 _ (List.getElem_mem h')), wrap_succ (show i < 9223372036854775807 by have := (sm_list hx).1; omega)]
  first | exact iteOpt (by simp) | exact iteOptN (by simp) | exact iteOpt (by simp [Prod.ext_iff])) (by simp only [m_w_eqAutomatonS_l0, lt_self]; rfl)
theorem q_eqToken : EqOk m_w_eqToken := by
  intro x y hx hy
  unfold m_w_eqToken
  try simp only [peta, Option.bind_some]
  repeat' split
  all_goals simp_all [Prod.ext_iff]
theorem q_eqTokenS : EqOk m_w_eqTokenS := fun xs ys hx hy => eqL (f := m_w_eqTokenS_l0 xs ys) xs ys (by have := (sm_list hx).1; omega) (fun i h h' => by
  simp only [m_w_eqTokenS_l0, lt_nat h, if_true, getI_nat h, getI_nat h', Option.bind_some, peta, q_eqToken xs[i] ys[i] ((sm_list hx).2 _ (List.getElem_mem h)) ((sm_list hy).2 _ (List.getElem_mem h')), wrap_succ (show i < 9223372036854775807 by have := (sm_list hx).1; omega)]
  first | exact iteOpt (by simp) | exact iteOptN (by simp) | exact iteOpt (by simp [Prod.ext_iff])) (by simp only [m_w_eqTokenS_l0, lt_self]; rfl)
theorem q_eqExpr : EqOk m_w_eqExpr := by
  intro x y hx hy
  unfold m_w_eqExpr
  try simp only [peta, Option.bind_some, q_eqTokenS x y hx hy]
  repeat' split
  all_goals simp_all [Prod.ext_iff]
theorem q_eqRegistered : EqOk m_w_eqRegistered := by
  intro x y hx hy
  unfold m_w_eqRegistered
  try simp only [peta, Option.bind_some, q_eqExpr x.2.1 y.2.1 hx.2.1 hy.2.1]
  repeat' split
  all_goals simp_all [Prod.ext_iff]
theorem q_eqRegisteredS : EqOk m_w_eqRegisteredS := fun xs ys hx hy => eqL (f := m_w_eqRegisteredS_l0 xs ys) xs ys (by have := (sm_list hx).1; omega) (fun i h h' => by
  simp only [m_w_eqRegisteredS_l0, lt_nat h, if_true, getI_nat h, getI_nat h', Option.bind_some, peta, q_eqRegistered xs[i] ys[i] ((sm_list hx).2 _ (List.getElem_mem h)) ((sm_list hy).2 _ (List.getElem_mem h')), wrap_succ (show i < 9223372036854775807 by have := (sm_list hx).1; omega)]
  first | exact iteOpt (by simp) | exact iteOptN (by simp) | exact iteOpt (by simp [Prod.ext_iff])) (by simp only [m_w_eqRegisteredS_l0, lt_self]; rfl)
theorem q_eqRegistry : EqOk m_w_eqRegistry := by
  intro x y hx hy
  unfold m_w_eqRegistry
  try simp only [peta, Option.bind_some, q_eqAutomatonS x.1 y.1 hx.1 hy.1, q_eqRegisteredS x.2 y.2 hx.2 hy.2]
  repeat' split
  all_goals simp_all [Prod.ext_iff]
theorem q_eqSubscriber : EqOk m_w_eqSubscriber := by
  intro x y hx hy
  unfold m_w_eqSubscriber
  try simp only [peta, Option.bind_some]
  repeat' split
  all_goals simp_all [Prod.ext_iff]
theorem q_eqSubscriberS : EqOk m_w_eqSubscriberS := fun xs ys hx hy => eqL (f := m_w_eqSubscriberS_l0 xs ys) xs ys (by have := (sm_list hx).1; omega) (fun i h h' => by
  simp only [m_w_eqSubscriberS_l0, lt_nat h, if_true, getI_nat h, getI_nat h', Option.bind_some, peta, q_eqSubscriber xs[i] ys[i] ((sm_list hx).2 _ (List.getElem_mem h)) ((sm_list hy).2 _ (List.getElem_mem h')), wrap_succ (show i < 9223372036854775807 by have := (sm_list hx).1; omega)]
  first | exact iteOpt (by simp) | exact iteOptN (by simp) | exact iteOpt (by simp [Prod.ext_iff])) (by simp only [m_w_eqSubscriberS_l0, lt_self]; rfl)
theorem q_eqEngine : EqOk m_w_eqEngine := by
  intro x y hx hy
  unfold m_w_eqEngine
  try simp only [peta, Option.bind_some, q_eqHistory x.1 y.1 hx.1 hy.1, q_eqRegistry x.2.1 y.2.1 hx.2.1 hy.2.1, q_eqSubscriberS x.2.2.1 y.2.2.1 hx.2.2.1 hy.2.2.1]
  repeat' split
  all_goals simp_all [Prod.ext_iff]
end Go.Proofs.Ytfkocnnphjkmfaa.D
