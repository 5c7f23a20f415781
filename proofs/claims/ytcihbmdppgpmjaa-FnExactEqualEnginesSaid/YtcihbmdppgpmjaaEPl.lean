/- Printed by genplain.py: what the helpers of the law FnExactEqualEngines compute. -/
import Derived.Test.YtcihbmdppgpmjaaEm
import Derived.Test.YtcihbmdppgpmjaaLoop
set_option linter.unusedVariables false
set_option linter.unusedSimpArgs false
set_option linter.unnecessarySimpa false
set_option synthInstance.maxSize 20000
set_option synthInstance.maxHeartbeats 2000000
namespace Go.Proofs.Ytcihbmdppgpmjaa.D
open Go.RowKit
theorem z_szIntS : SzOk m_w_szIntS := fun xs l hl h0 h1 => szF xs (lim_list hl).1 (fun _ => trivial) h0 h1
theorem z_szEdgeS : SzOk m_w_szEdgeS := fun xs l hl h0 h1 => szF xs (lim_list hl).1 (fun _ => ⟨trivial, trivial, trivial, trivial⟩) h0 h1
theorem z_szGraph : SzOk m_w_szGraph := by
  intro x l hl h0 h1
  unfold m_w_szGraph
  try simp only [peta]
  obtain ⟨r1, e1, k1⟩ := z_szIntS x.1 l hl.1 (by omega) (by omega)
  rw [e1]; simp only [Option.bind_some]
  rcases k1 with k1 | ⟨k1, j1, s1⟩
  · exact ⟨-1, by rw [if_pos (decide_eq_true k1)], .inl (by decide)⟩
  rw [if_neg (by simpa using k1)]
  obtain ⟨r2, e2, k2⟩ := z_szEdgeS x.2 r1 hl.2 (by omega) (by omega)
  rw [e2]; simp only [Option.bind_some]
  rcases k2 with k2 | ⟨k2, j2, s2⟩
  · exact ⟨-1, by rw [if_pos (decide_eq_true k2)], .inl (by decide)⟩
  rw [if_neg (by simpa using k2)]
  exact ⟨_, rfl, .inr ⟨by omega, by omega, ⟨s1, s2⟩⟩⟩
theorem z_szGraphS : SzOk m_w_szGraphS := fun xs l hl h0 h1 => szL (f := m_w_szGraphS_l0 xs) xs (lim_list hl).1 (fun i h l k0 k1 => by
  obtain ⟨r, e, hr⟩ := z_szGraph xs[i] l ((lim_list hl).2 _ (List.getElem_mem h)) k0 k1
  refine ⟨r, ?_, hr⟩
  simp only [m_w_szGraphS_l0, lt_nat h, if_true, getI_nat h, Option.bind_some, peta, e, wrap_succ (show i < 9223372036854775807 by have := (lim_list hl).1; omega)]
  exact iteOpt (by simp)) (fun l => by simp only [m_w_szGraphS_l0, lt_self]; rfl) h0 h1
theorem z_szHistory : SzOk m_w_szHistory := by
  intro x l hl h0 h1
  unfold m_w_szHistory
  try simp only [peta]
  obtain ⟨r1, e1, k1⟩ := z_szGraphS x.2 l hl.2 (by omega) (by omega)
  rw [e1]; simp only [Option.bind_some]
  rcases k1 with k1 | ⟨k1, j1, s1⟩
  · exact ⟨-1, by rw [if_pos (decide_eq_true k1)], .inl (by decide)⟩
  rw [if_neg (by simpa using k1)]
  exact ⟨_, rfl, .inr ⟨by omega, by omega, ⟨trivial, s1⟩⟩⟩
theorem z_szBoolS : SzOk m_w_szBoolS := fun xs l hl h0 h1 => szF xs (lim_list hl).1 (fun _ => trivial) h0 h1
theorem z_szIntSS : SzOk m_w_szIntSS := fun xs l hl h0 h1 => szL (f := m_w_szIntSS_l0 xs) xs (lim_list hl).1 (fun i h l k0 k1 => by
  obtain ⟨r, e, hr⟩ := z_szIntS xs[i] l ((lim_list hl).2 _ (List.getElem_mem h)) k0 k1
  refine ⟨r, ?_, hr⟩
  simp only [m_w_szIntSS_l0, lt_nat h, if_true, getI_nat h, Option.bind_some, peta, e, wrap_succ (show i < 9223372036854775807 by have := (lim_list hl).1; omega)]
  exact iteOpt (by simp)) (fun l => by simp only [m_w_szIntSS_l0, lt_self]; rfl) h0 h1
theorem z_szAutomaton : SzOk m_w_szAutomaton := by
  intro x l hl h0 h1
  unfold m_w_szAutomaton
  try simp only [peta]
  obtain ⟨r1, e1, k1⟩ := z_szBoolS x.2.1 l hl.2.1 (by omega) (by omega)
  rw [e1]; simp only [Option.bind_some]
  rcases k1 with k1 | ⟨k1, j1, s1⟩
  · exact ⟨-1, by rw [if_pos (decide_eq_true k1)], .inl (by decide)⟩
  rw [if_neg (by simpa using k1)]
  obtain ⟨r2, e2, k2⟩ := z_szIntSS x.2.2 r1 hl.2.2 (by omega) (by omega)
  rw [e2]; simp only [Option.bind_some]
  rcases k2 with k2 | ⟨k2, j2, s2⟩
  · exact ⟨-1, by rw [if_pos (decide_eq_true k2)], .inl (by decide)⟩
  rw [if_neg (by simpa using k2)]
  exact ⟨_, rfl, .inr ⟨by omega, by omega, ⟨trivial, s1, s2⟩⟩⟩
theorem z_szAutomatonS : SzOk m_w_szAutomatonS := fun xs l hl h0 h1 => szL (f := m_w_szAutomatonS_l0 xs) xs (lim_list hl).1 (fun i h l k0 k1 => by
  obtain ⟨r, e, hr⟩ := z_szAutomaton xs[i] l ((lim_list hl).2 _ (List.getElem_mem h)) k0 k1
  refine ⟨r, ?_, hr⟩
  simp only [m_w_szAutomatonS_l0, lt_nat h, if_true, getI_nat h, Option.bind_some, peta, e, wrap_succ (show i < 9223372036854775807 by have := (lim_list hl).1; omega)]
  exact iteOpt (by simp)) (fun l => by simp only [m_w_szAutomatonS_l0, lt_self]; rfl) h0 h1
theorem z_szTokenS : SzOk m_w_szTokenS := fun xs l hl h0 h1 => szF xs (lim_list hl).1 (fun _ => ⟨trivial, trivial, trivial, trivial⟩) h0 h1
theorem z_szExpr : SzOk m_w_szExpr := by
  intro x l hl h0 h1
  unfold m_w_szExpr
  try simp only [peta]
  obtain ⟨r1, e1, k1⟩ := z_szTokenS x l hl (by omega) (by omega)
  rw [e1]; simp only [Option.bind_some]
  rcases k1 with k1 | ⟨k1, j1, s1⟩
  · exact ⟨-1, by rw [if_pos (decide_eq_true k1)], .inl (by decide)⟩
  rw [if_neg (by simpa using k1)]
  exact ⟨_, rfl, .inr ⟨by omega, by omega, s1⟩⟩
theorem z_szRegistered : SzOk m_w_szRegistered := by
  intro x l hl h0 h1
  unfold m_w_szRegistered
  try simp only [peta]
  obtain ⟨r1, e1, k1⟩ := z_szExpr x.2.1 l hl.2.1 (by omega) (by omega)
  rw [e1]; simp only [Option.bind_some]
  rcases k1 with k1 | ⟨k1, j1, s1⟩
  · exact ⟨-1, by rw [if_pos (decide_eq_true k1)], .inl (by decide)⟩
  rw [if_neg (by simpa using k1)]
  exact ⟨_, rfl, .inr ⟨by omega, by omega, ⟨trivial, s1, trivial⟩⟩⟩
theorem z_szRegisteredS : SzOk m_w_szRegisteredS := fun xs l hl h0 h1 => szL (f := m_w_szRegisteredS_l0 xs) xs (lim_list hl).1 (fun i h l k0 k1 => by
  obtain ⟨r, e, hr⟩ := z_szRegistered xs[i] l ((lim_list hl).2 _ (List.getElem_mem h)) k0 k1
  refine ⟨r, ?_, hr⟩
  simp only [m_w_szRegisteredS_l0, lt_nat h, if_true, getI_nat h, Option.bind_some, peta, e, wrap_succ (show i < 9223372036854775807 by have := (lim_list hl).1; omega)]
  exact iteOpt (by simp)) (fun l => by simp only [m_w_szRegisteredS_l0, lt_self]; rfl) h0 h1
theorem z_szRegistry : SzOk m_w_szRegistry := by
  intro x l hl h0 h1
  unfold m_w_szRegistry
  try simp only [peta]
  obtain ⟨r1, e1, k1⟩ := z_szAutomatonS x.1 l hl.1 (by omega) (by omega)
  rw [e1]; simp only [Option.bind_some]
  rcases k1 with k1 | ⟨k1, j1, s1⟩
  · exact ⟨-1, by rw [if_pos (decide_eq_true k1)], .inl (by decide)⟩
  rw [if_neg (by simpa using k1)]
  obtain ⟨r2, e2, k2⟩ := z_szRegisteredS x.2 r1 hl.2 (by omega) (by omega)
  rw [e2]; simp only [Option.bind_some]
  rcases k2 with k2 | ⟨k2, j2, s2⟩
  · exact ⟨-1, by rw [if_pos (decide_eq_true k2)], .inl (by decide)⟩
  rw [if_neg (by simpa using k2)]
  exact ⟨_, rfl, .inr ⟨by omega, by omega, ⟨s1, s2⟩⟩⟩
theorem z_szSubscriberS : SzOk m_w_szSubscriberS := fun xs l hl h0 h1 => szF xs (lim_list hl).1 (fun _ => ⟨trivial, trivial, trivial⟩) h0 h1
theorem z_szEngine : SzOk m_w_szEngine := by
  intro x l hl h0 h1
  unfold m_w_szEngine
  try simp only [peta]
  obtain ⟨r1, e1, k1⟩ := z_szHistory x.1 l hl.1 (by omega) (by omega)
  rw [e1]; simp only [Option.bind_some]
  rcases k1 with k1 | ⟨k1, j1, s1⟩
  · exact ⟨-1, by rw [if_pos (decide_eq_true k1)], .inl (by decide)⟩
  rw [if_neg (by simpa using k1)]
  obtain ⟨r2, e2, k2⟩ := z_szRegistry x.2.1 r1 hl.2.1 (by omega) (by omega)
  rw [e2]; simp only [Option.bind_some]
  rcases k2 with k2 | ⟨k2, j2, s2⟩
  · exact ⟨-1, by rw [if_pos (decide_eq_true k2)], .inl (by decide)⟩
  rw [if_neg (by simpa using k2)]
  obtain ⟨r3, e3, k3⟩ := z_szSubscriberS x.2.2.1 r2 hl.2.2.1 (by omega) (by omega)
  rw [e3]; simp only [Option.bind_some]
  rcases k3 with k3 | ⟨k3, j3, s3⟩
  · exact ⟨-1, by rw [if_pos (decide_eq_true k3)], .inl (by decide)⟩
  rw [if_neg (by simpa using k3)]
  rw [wrapI (by have : x.2.2.2.size ≤ 9223372036854775807 := hl.2.2.2; omega) (by omega)]
  by_cases k4 : r3 - (x.2.2.2.size : Int) < 0
  · exact ⟨-1, by rw [if_pos (decide_eq_true k4)], .inl (by decide)⟩
  rw [if_neg (by simpa using k4)]
  have s4 : x.2.2.2.size ≤ 1048576 := by omega
  exact ⟨_, rfl, .inr ⟨by omega, by omega, ⟨s1, s2, s3, s4⟩⟩⟩
theorem t_toIntS : ToOk m_w_toIntS := by
  intro xs hx
  have hn := (sm_list hx).1
  unfold m_w_toIntS
  rw [mkI_ok (by omega)]; simp only [Option.bind_some]
  rw [toL (f := m_w_toIntS_l0 xs) xs (by omega) (fun ys i h hy => by simp only [m_w_toIntS_l0, lt_nat h, if_true, getI_nat h, getI_nat (show i < ys.length by omega), Option.bind_some, peta, wrap_succ (show i < 9223372036854775807 by omega), Int.toNat_natCast]) (fun ys hy => by simp only [m_w_toIntS_l0, lt_self]; rfl)]
  rfl
theorem t_toEdge : ToOk m_w_toEdge := by
  intro x hx
  unfold m_w_toEdge
  simp only [peta, Option.bind_some]
theorem t_toEdgeS : ToOk m_w_toEdgeS := by
  intro xs hx
  have hn := (sm_list hx).1
  unfold m_w_toEdgeS
  rw [mkI_ok (by omega)]; simp only [Option.bind_some]
  rw [toL (f := m_w_toEdgeS_l0 xs) xs (by omega) (fun ys i h hy => by simp only [m_w_toEdgeS_l0, lt_nat h, if_true, getI_nat h, getI_nat (show i < ys.length by omega), Option.bind_some, peta, t_toEdge xs[i] ((sm_list hx).2 _ (List.getElem_mem h)), wrap_succ (show i < 9223372036854775807 by omega), Int.toNat_natCast]) (fun ys hy => by simp only [m_w_toEdgeS_l0, lt_self]; rfl)]
  rfl
theorem t_toGraph : ToOk m_w_toGraph := by
  intro x hx
  unfold m_w_toGraph
  simp only [peta, Option.bind_some, t_toIntS x.1 hx.1, t_toEdgeS x.2 hx.2]
theorem t_toGraphS : ToOk m_w_toGraphS := by
  intro xs hx
  have hn := (sm_list hx).1
  unfold m_w_toGraphS
  rw [mkI_ok (by omega)]; simp only [Option.bind_some]
  rw [toL (f := m_w_toGraphS_l0 xs) xs (by omega) (fun ys i h hy => by simp only [m_w_toGraphS_l0, lt_nat h, if_true, getI_nat h, getI_nat (show i < ys.length by omega), Option.bind_some, peta, t_toGraph xs[i] ((sm_list hx).2 _ (List.getElem_mem h)), wrap_succ (show i < 9223372036854775807 by omega), Int.toNat_natCast]) (fun ys hy => by simp only [m_w_toGraphS_l0, lt_self]; rfl)]
  rfl
theorem t_toHistory : ToOk m_w_toHistory := by
  intro x hx
  unfold m_w_toHistory
  simp only [peta, Option.bind_some, t_toGraphS x.2 hx.2]
theorem t_toBoolS : ToOk m_w_toBoolS := by
  intro xs hx
  have hn := (sm_list hx).1
  unfold m_w_toBoolS
  rw [mkI_ok (by omega)]; simp only [Option.bind_some]
  rw [toL (f := m_w_toBoolS_l0 xs) xs (by omega) (fun ys i h hy => by simp only [m_w_toBoolS_l0, lt_nat h, if_true, getI_nat h, getI_nat (show i < ys.length by omega), Option.bind_some, peta, wrap_succ (show i < 9223372036854775807 by omega), Int.toNat_natCast]) (fun ys hy => by simp only [m_w_toBoolS_l0, lt_self]; rfl)]
  rfl
theorem t_toIntSS : ToOk m_w_toIntSS := by
  intro xs hx
  have hn := (sm_list hx).1
  unfold m_w_toIntSS
  rw [mkI_ok (by omega)]; simp only [Option.bind_some]
  rw [toL (f := m_w_toIntSS_l0 xs) xs (by omega) (fun ys i h hy => by simp only [m_w_toIntSS_l0, lt_nat h, if_true, getI_nat h, getI_nat (show i < ys.length by omega), Option.bind_some, peta, t_toIntS xs[i] ((sm_list hx).2 _ (List.getElem_mem h)), wrap_succ (show i < 9223372036854775807 by omega), Int.toNat_natCast]) (fun ys hy => by simp only [m_w_toIntSS_l0, lt_self]; rfl)]
  rfl
theorem t_toAutomaton : ToOk m_w_toAutomaton := by
  intro x hx
  unfold m_w_toAutomaton
  simp only [peta, Option.bind_some, t_toBoolS x.2.1 hx.2.1, t_toIntSS x.2.2 hx.2.2]
theorem t_toAutomatonS : ToOk m_w_toAutomatonS := by
  intro xs hx
  have hn := (sm_list hx).1
  unfold m_w_toAutomatonS
  rw [mkI_ok (by omega)]; simp only [Option.bind_some]
  rw [toL (f := m_w_toAutomatonS_l0 xs) xs (by omega) (fun ys i h hy => by simp only [m_w_toAutomatonS_l0, lt_nat h, if_true, getI_nat h, getI_nat (show i < ys.length by omega), Option.bind_some, peta, t_toAutomaton xs[i] ((sm_list hx).2 _ (List.getElem_mem h)), wrap_succ (show i < 9223372036854775807 by omega), Int.toNat_natCast]) (fun ys hy => by simp only [m_w_toAutomatonS_l0, lt_self]; rfl)]
  rfl
theorem t_toToken : ToOk m_w_toToken := by
  intro x hx
  unfold m_w_toToken
  simp only [peta, Option.bind_some]
theorem t_toTokenS : ToOk m_w_toTokenS := by
  intro xs hx
  have hn := (sm_list hx).1
  unfold m_w_toTokenS
  rw [mkI_ok (by omega)]; simp only [Option.bind_some]
  rw [toL (f := m_w_toTokenS_l0 xs) xs (by omega) (fun ys i h hy => by simp only [m_w_toTokenS_l0, lt_nat h, if_true, getI_nat h, getI_nat (show i < ys.length by omega), Option.bind_some, peta, t_toToken xs[i] ((sm_list hx).2 _ (List.getElem_mem h)), wrap_succ (show i < 9223372036854775807 by omega), Int.toNat_natCast]) (fun ys hy => by simp only [m_w_toTokenS_l0, lt_self]; rfl)]
  rfl
theorem t_toExpr : ToOk m_w_toExpr := by
  intro x hx
  unfold m_w_toExpr
  simp only [peta, Option.bind_some, t_toTokenS x hx]
theorem t_toRegistered : ToOk m_w_toRegistered := by
  intro x hx
  unfold m_w_toRegistered
  simp only [peta, Option.bind_some, t_toExpr x.2.1 hx.2.1]
theorem t_toRegisteredS : ToOk m_w_toRegisteredS := by
  intro xs hx
  have hn := (sm_list hx).1
  unfold m_w_toRegisteredS
  rw [mkI_ok (by omega)]; simp only [Option.bind_some]
  rw [toL (f := m_w_toRegisteredS_l0 xs) xs (by omega) (fun ys i h hy => by simp only [m_w_toRegisteredS_l0, lt_nat h, if_true, getI_nat h, getI_nat (show i < ys.length by omega), Option.bind_some, peta, t_toRegistered xs[i] ((sm_list hx).2 _ (List.getElem_mem h)), wrap_succ (show i < 9223372036854775807 by omega), Int.toNat_natCast]) (fun ys hy => by simp only [m_w_toRegisteredS_l0, lt_self]; rfl)]
  rfl
theorem t_toRegistry : ToOk m_w_toRegistry := by
  intro x hx
  unfold m_w_toRegistry
  simp only [peta, Option.bind_some, t_toAutomatonS x.1 hx.1, t_toRegisteredS x.2 hx.2]
theorem t_toSubscriber : ToOk m_w_toSubscriber := by
  intro x hx
  unfold m_w_toSubscriber
  simp only [peta, Option.bind_some]
theorem t_toSubscriberS : ToOk m_w_toSubscriberS := by
  intro xs hx
  have hn := (sm_list hx).1
  unfold m_w_toSubscriberS
  rw [mkI_ok (by omega)]; simp only [Option.bind_some]
  rw [toL (f := m_w_toSubscriberS_l0 xs) xs (by omega) (fun ys i h hy => by simp only [m_w_toSubscriberS_l0, lt_nat h, if_true, getI_nat h, getI_nat (show i < ys.length by omega), Option.bind_some, peta, t_toSubscriber xs[i] ((sm_list hx).2 _ (List.getElem_mem h)), wrap_succ (show i < 9223372036854775807 by omega), Int.toNat_natCast]) (fun ys hy => by simp only [m_w_toSubscriberS_l0, lt_self]; rfl)]
  rfl
theorem t_toEngine : ToOk m_w_toEngine := by
  intro x hx
  unfold m_w_toEngine
  simp only [peta, Option.bind_some, t_toHistory x.1 hx.1, t_toRegistry x.2.1 hx.2.1, t_toSubscriberS x.2.2.1 hx.2.2.1]
theorem q_eqIntS : EqOk m_w_eqIntS := fun xs ys hx hy => eqL (f := m_w_eqIntS_l0 xs ys) xs ys (by have := (sm_list hx).1; omega) (fun i h h' => by
  simp only [m_w_eqIntS_l0, lt_nat h, if_true, getI_nat h, getI_nat h', Option.bind_some, peta, wrap_succ (show i < 9223372036854775807 by have := (sm_list hx).1; omega)]
  first | exact iteOpt (by simp) | exact iteOptN (by simp) | exact iteOpt (by simp [Prod.ext_iff])) (by simp only [m_w_eqIntS_l0, lt_self]; rfl)
theorem q_eqEdge : EqOk m_w_eqEdge := by
  intro x y hx hy
  unfold m_w_eqEdge
  try simp only [peta, Option.bind_some]
  repeat' split
  all_goals simp_all [Prod.ext_iff]
theorem q_eqEdgeS : EqOk m_w_eqEdgeS := fun xs ys hx hy => eqL (f := m_w_eqEdgeS_l0 xs ys) xs ys (by have := (sm_list hx).1; omega) (fun i h h' => by
  simp only [m_w_eqEdgeS_l0, lt_nat h, if_true, getI_nat h, getI_nat h', Option.bind_some, peta, q_eqEdge xs[i] ys[i] ((sm_list hx).2 _ (List.getElem_mem h)) ((sm_list hy).2 _ (List.getElem_mem h')), wrap_succ (show i < 9223372036854775807 by have := (sm_list hx).1; omega)]
  first | exact iteOpt (by simp) | exact iteOptN (by simp) | exact iteOpt (by simp [Prod.ext_iff])) (by simp only [m_w_eqEdgeS_l0, lt_self]; rfl)
theorem q_eqGraph : EqOk m_w_eqGraph := by
  intro x y hx hy
  unfold m_w_eqGraph
  try simp only [peta, Option.bind_some, q_eqIntS x.1 y.1 hx.1 hy.1, q_eqEdgeS x.2 y.2 hx.2 hy.2]
  repeat' split
  all_goals simp_all [Prod.ext_iff]
theorem q_eqGraphS : EqOk m_w_eqGraphS := fun xs ys hx hy => eqL (f := m_w_eqGraphS_l0 xs ys) xs ys (by have := (sm_list hx).1; omega) (fun i h h' => by
  simp only [m_w_eqGraphS_l0, lt_nat h, if_true, getI_nat h, getI_nat h', Option.bind_some, peta, q_eqGraph xs[i] ys[i] ((sm_list hx).2 _ (List.getElem_mem h)) ((sm_list hy).2 _ (List.getElem_mem h')), wrap_succ (show i < 9223372036854775807 by have := (sm_list hx).1; omega)]
  first | exact iteOpt (by simp) | exact iteOptN (by simp) | exact iteOpt (by simp [Prod.ext_iff])) (by simp only [m_w_eqGraphS_l0, lt_self]; rfl)
theorem q_eqHistory : EqOk m_w_eqHistory := by
  intro x y hx hy
  unfold m_w_eqHistory
  try simp only [peta, Option.bind_some, q_eqGraphS x.2 y.2 hx.2 hy.2]
  repeat' split
  all_goals simp_all [Prod.ext_iff]
theorem q_eqBoolS : EqOk m_w_eqBoolS := fun xs ys hx hy => eqL (f := m_w_eqBoolS_l0 xs ys) xs ys (by have := (sm_list hx).1; omega) (fun i h h' => by
  simp only [m_w_eqBoolS_l0, lt_nat h, if_true, getI_nat h, getI_nat h', Option.bind_some, peta, wrap_succ (show i < 9223372036854775807 by have := (sm_list hx).1; omega)]
  first | exact iteOpt (by simp) | exact iteOptN (by simp) | exact iteOpt (by simp [Prod.ext_iff])) (by simp only [m_w_eqBoolS_l0, lt_self]; rfl)
theorem q_eqIntSS : EqOk m_w_eqIntSS := fun xs ys hx hy => eqL (f := m_w_eqIntSS_l0 xs ys) xs ys (by have := (sm_list hx).1; omega) (fun i h h' => by
  simp only [m_w_eqIntSS_l0, lt_nat h, if_true, getI_nat h, getI_nat h', Option.bind_some, peta, q_eqIntS xs[i] ys[i] ((sm_list hx).2 _ (List.getElem_mem h)) ((sm_list hy).2 _ (List.getElem_mem h')), wrap_succ (show i < 9223372036854775807 by have := (sm_list hx).1; omega)]
  first | exact iteOpt (by simp) | exact iteOptN (by simp) | exact iteOpt (by simp [Prod.ext_iff])) (by simp only [m_w_eqIntSS_l0, lt_self]; rfl)
theorem q_eqAutomaton : EqOk m_w_eqAutomaton := by
  intro x y hx hy
  unfold m_w_eqAutomaton
  try simp only [peta, Option.bind_some, q_eqBoolS x.2.1 y.2.1 hx.2.1 hy.2.1, q_eqIntSS x.2.2 y.2.2 hx.2.2 hy.2.2]
  repeat' split
  all_goals simp_all [Prod.ext_iff]
theorem q_eqAutomatonS : EqOk m_w_eqAutomatonS := fun xs ys hx hy => eqL (f := m_w_eqAutomatonS_l0 xs ys) xs ys (by have := (sm_list hx).1; omega) (fun i h h' => by
  simp only [m_w_eqAutomatonS_l0, lt_nat h, if_true, getI_nat h, getI_nat h', Option.bind_some, peta, q_eqAutomaton xs[i] ys[i] ((sm_list hx).2 _ (List.getElem_mem h)) ((sm_list hy).2 _ (List.getElem_mem h')), wrap_succ (show i < 9223372036854775807 by have := (sm_list hx).1; omega)]
  first | exact iteOpt (by simp) | exact iteOptN (by simp) | exact iteOpt (by simp [Prod.ext_iff])) (by simp only [m_w_eqAutomatonS_l0, lt_self]; rfl)
theorem q_eqToken : EqOk m_w_eqToken := by
  intro x y hx hy
  unfold m_w_eqToken
  try simp only [peta, Option.bind_some]
  repeat' split
  all_goals simp_all [Prod.ext_iff]
theorem q_eqTokenS : EqOk m_w_eqTokenS := fun xs ys hx hy => eqL (f := m_w_eqTokenS_l0 xs ys) xs ys (by have := (sm_list hx).1; omega) (fun i h h' => by
  simp only [m_w_eqTokenS_l0, lt_nat h, if_true, getI_nat h, getI_nat h', Option.bind_some, peta, q_eqToken xs[i] ys[i] ((sm_list hx).2 _ (List.getElem_mem h)) ((sm_list hy).2 _ (List.getElem_mem h')), wrap_succ (show i < 9223372036854775807 by have := (sm_list hx).1; omega)]
  first | exact iteOpt (by simp) | exact iteOptN (by simp) | exact iteOpt (by simp [Prod.ext_iff])) (by simp only [m_w_eqTokenS_l0, lt_self]; rfl)
theorem q_eqExpr : EqOk m_w_eqExpr := by
  intro x y hx hy
  unfold m_w_eqExpr
  try simp only [peta, Option.bind_some, q_eqTokenS x y hx hy]
  repeat' split
  all_goals simp_all [Prod.ext_iff]
theorem q_eqRegistered : EqOk m_w_eqRegistered := by
  intro x y hx hy
  unfold m_w_eqRegistered
  try simp only [peta, Option.bind_some, q_eqExpr x.2.1 y.2.1 hx.2.1 hy.2.1]
  repeat' split
  all_goals simp_all [Prod.ext_iff]
theorem q_eqRegisteredS : EqOk m_w_eqRegisteredS := fun xs ys hx hy => eqL (f := m_w_eqRegisteredS_l0 xs ys) xs ys (by have := (sm_list hx).1; omega) (fun i h h' => by
  simp only [m_w_eqRegisteredS_l0, lt_nat h, if_true, getI_nat h, getI_nat h', Option.bind_some, peta, q_eqRegistered xs[i] ys[i] ((sm_list hx).2 _ (List.getElem_mem h)) ((sm_list hy).2 _ (List.getElem_mem h')), wrap_succ (show i < 9223372036854775807 by have := (sm_list hx).1; omega)]
  first | exact iteOpt (by simp) | exact iteOptN (by simp) | exact iteOpt (by simp [Prod.ext_iff])) (by simp only [m_w_eqRegisteredS_l0, lt_self]; rfl)
theorem q_eqRegistry : EqOk m_w_eqRegistry := by
  intro x y hx hy
  unfold m_w_eqRegistry
  try simp only [peta, Option.bind_some, q_eqAutomatonS x.1 y.1 hx.1 hy.1, q_eqRegisteredS x.2 y.2 hx.2 hy.2]
  repeat' split
  all_goals simp_all [Prod.ext_iff]
theorem q_eqSubscriber : EqOk m_w_eqSubscriber := by
  intro x y hx hy
  unfold m_w_eqSubscriber
  try simp only [peta, Option.bind_some]
  repeat' split
  all_goals simp_all [Prod.ext_iff]
theorem q_eqSubscriberS : EqOk m_w_eqSubscriberS := fun xs ys hx hy => eqL (f := m_w_eqSubscriberS_l0 xs ys) xs ys (by have := (sm_list hx).1; omega) (fun i h h' => by
  simp only [m_w_eqSubscriberS_l0, lt_nat h, if_true, getI_nat h, getI_nat h', Option.bind_some, peta, q_eqSubscriber xs[i] ys[i] ((sm_list hx).2 _ (List.getElem_mem h)) ((sm_list hy).2 _ (List.getElem_mem h')), wrap_succ (show i < 9223372036854775807 by have := (sm_list hx).1; omega)]
  first | exact iteOpt (by simp) | exact iteOptN (by simp) | exact iteOpt (by simp [Prod.ext_iff])) (by simp only [m_w_eqSubscriberS_l0, lt_self]; rfl)
theorem q_eqEngine : EqOk m_w_eqEngine := by
  intro x y hx hy
  unfold m_w_eqEngine
  try simp only [peta, Option.bind_some, q_eqHistory x.1 y.1 hx.1 hy.1, q_eqRegistry x.2.1 y.2.1 hx.2.1 hy.2.1, q_eqSubscriberS x.2.2.1 y.2.2.1 hx.2.2.1 hy.2.2.1]
  repeat' split
  all_goals simp_all [Prod.ext_iff]
end Go.Proofs.Ytcihbmdppgpmjaa.D
