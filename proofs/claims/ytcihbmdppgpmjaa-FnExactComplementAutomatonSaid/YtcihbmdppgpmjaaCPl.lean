/- Printed by genplain.py: what the helpers of the law FnExactComplementAutomaton compute. -/
import Derived.Test.YtcihbmdppgpmjaaCm
import Derived.Test.YtcihbmdppgpmjaaLoop
set_option linter.unusedVariables false
set_option linter.unusedSimpArgs false
set_option linter.unnecessarySimpa false
set_option synthInstance.maxSize 20000
set_option synthInstance.maxHeartbeats 2000000
namespace Go.Proofs.Ytcihbmdppgpmjaa.D
open Go.RowKit
theorem z_szBoolS : SzOk m_w_szBoolS := fun xs l hl h0 h1 => szF xs (lim_list hl).1 (fun _ => trivial) h0 h1
theorem z_szIntS : SzOk m_w_szIntS := fun xs l hl h0 h1 => szF xs (lim_list hl).1 (fun _ => trivial) h0 h1
theorem z_szIntSS : SzOk m_w_szIntSS := fun xs l hl h0 h1 => szL (f := m_w_szIntSS_l0 xs) xs (lim_list hl).1 (fun i h l k0 k1 => by
  obtain ⟨r, e, hr⟩ := z_szIntS xs[i] l ((lim_list hl).2 _ (List.getElem_mem h)) k0 k1
  refine ⟨r, ?_, hr⟩
  simp only [m_w_szIntSS_l0, lt_nat h, if_true, getI_nat h, Option.bind_some, peta, e, wrap_succ (show i < 9223372036854775807 by have := (lim_list hl).1; omega)]
  exact iteOpt (by simp)) (fun l => by simp only [m_w_szIntSS_l0, lt_self]; rfl) h0 h1
theorem z_szAutomaton : SzOk m_w_szAutomaton := by
  intro x l hl h0 h1
  unfold m_w_szAutomaton
  try simp only [peta]
  obtain ⟨r1, e1, k1⟩ := z_szBoolS x.2.1 l hl.2.1 (by omega) (by omega)
  rw [e1]; simp only [Option.bind_some]
  rcases k1 with k1 | ⟨k1, j1, s1⟩
  · exact ⟨-1, by rw [if_pos (decide_eq_true k1)], .inl (by decide)⟩
  rw [if_neg (by simpa using k1)]
  obtain ⟨r2, e2, k2⟩ := z_szIntSS x.2.2 r1 hl.2.2 (by omega) (by omega)
  rw [e2]; simp only [Option.bind_some]
  rcases k2 with k2 | ⟨k2, j2, s2⟩
  · exact ⟨-1, by rw [if_pos (decide_eq_true k2)], .inl (by decide)⟩
  rw [if_neg (by simpa using k2)]
  exact ⟨_, rfl, .inr ⟨by omega, by omega, ⟨trivial, s1, s2⟩⟩⟩
theorem t_toBoolS : ToOk m_w_toBoolS := by
  intro xs hx
  have hn := (sm_list hx).1
  unfold m_w_toBoolS
  rw [mkI_ok (by omega)]; simp only [Option.bind_some]
  rw [toL (f := m_w_toBoolS_l0 xs) xs (by omega) (fun ys i h hy => by simp only [m_w_toBoolS_l0, lt_nat h, if_true, getI_nat h, getI_nat (show i < ys.length by omega), Option.bind_some, peta, wrap_succ (show i < 9223372036854775807 by omega), Int.toNat_natCast]) (fun ys hy => by simp only [m_w_toBoolS_l0, lt_self]; rfl)]
  rfl
theorem t_toIntS : ToOk m_w_toIntS := by
  intro xs hx
  have hn := (sm_list hx).1
  unfold m_w_toIntS
  rw [mkI_ok (by omega)]; simp only [Option.bind_some]
  rw [toL (f := m_w_toIntS_l0 xs) xs (by omega) (fun ys i h hy => by simp only [m_w_toIntS_l0, lt_nat h, if_true, getI_nat h, getI_nat (show i < ys.length by omega), Option.bind_some, peta, wrap_succ (show i < 9223372036854775807 by omega), Int.toNat_natCast]) (fun ys hy => by simp only [m_w_toIntS_l0, lt_self]; rfl)]
  rfl
theorem t_toIntSS : ToOk m_w_toIntSS := by
  intro xs hx
  have hn := (sm_list hx).1
  unfold m_w_toIntSS
  rw [mkI_ok (by omega)]; simp only [Option.bind_some]
  rw [toL (f := m_w_toIntSS_l0 xs) xs (by omega) (fun ys i h hy => by simp only [m_w_toIntSS_l0, lt_nat h, if_true, getI_nat h, getI_nat (show i < ys.length by omega), Option.bind_some, peta, t_toIntS xs[i] ((sm_list hx).2 _ (List.getElem_mem h)), wrap_succ (show i < 9223372036854775807 by omega), Int.toNat_natCast]) (fun ys hy => by simp only [m_w_toIntSS_l0, lt_self]; rfl)]
  rfl
theorem t_toAutomaton : ToOk m_w_toAutomaton := by
  intro x hx
  unfold m_w_toAutomaton
  simp only [peta, Option.bind_some, t_toBoolS x.2.1 hx.2.1, t_toIntSS x.2.2 hx.2.2]
theorem q_eqBoolS : EqOk m_w_eqBoolS := fun xs ys hx hy => eqL (f := m_w_eqBoolS_l0 xs ys) xs ys (by have := (sm_list hx).1; omega) (fun i h h' => by
  simp only [m_w_eqBoolS_l0, lt_nat h, if_true, getI_nat h, getI_nat h', Option.bind_some, peta, wrap_succ (show i < 9223372036854775807 by have := (sm_list hx).1; omega)]
  first | exact iteOpt (by simp) | exact iteOptN (by simp) | exact iteOpt (by simp [Prod.ext_iff])) (by simp only [m_w_eqBoolS_l0, lt_self]; rfl)
theorem q_eqIntS : EqOk m_w_eqIntS := fun xs ys hx hy => eqL (f := m_w_eqIntS_l0 xs ys) xs ys (by have := (sm_list hx).1; omega) (fun i h h' => by
  simp only [m_w_eqIntS_l0, lt_nat h, if_true, getI_nat h, getI_nat h', Option.bind_some, peta, wrap_succ (show i < 9223372036854775807 by have := (sm_list hx).1; omega)]
  first | exact iteOpt (by simp) | exact iteOptN (by simp) | exact iteOpt (by simp [Prod.ext_iff])) (by simp only [m_w_eqIntS_l0, lt_self]; rfl)
theorem q_eqIntSS : EqOk m_w_eqIntSS := fun xs ys hx hy => eqL (f := m_w_eqIntSS_l0 xs ys) xs ys (by have := (sm_list hx).1; omega) (fun i h h' => by
  simp only [m_w_eqIntSS_l0, lt_nat h, if_true, getI_nat h, getI_nat h', Option.bind_some, peta, q_eqIntS xs[i] ys[i] ((sm_list hx).2 _ (List.getElem_mem h)) ((sm_list hy).2 _ (List.getElem_mem h')), wrap_succ (show i < 9223372036854775807 by have := (sm_list hx).1; omega)]
  first | exact iteOpt (by simp) | exact iteOptN (by simp) | exact iteOpt (by simp [Prod.ext_iff])) (by simp only [m_w_eqIntSS_l0, lt_self]; rfl)
theorem q_eqAutomaton : EqOk m_w_eqAutomaton := by
  intro x y hx hy
  unfold m_w_eqAutomaton
  try simp only [peta, Option.bind_some, q_eqBoolS x.2.1 y.2.1 hx.2.1 hy.2.1, q_eqIntSS x.2.2 y.2.2 hx.2.2 hy.2.2]
  repeat' split
  all_goals simp_all [Prod.ext_iff]
end Go.Proofs.Ytcihbmdppgpmjaa.D
