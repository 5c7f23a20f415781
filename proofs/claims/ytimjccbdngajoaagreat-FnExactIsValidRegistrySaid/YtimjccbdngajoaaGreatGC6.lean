/- FnExactIsValidRegistry: for every input the law returns true and changes nothing that was there. Part 7 of 8. -/
import Derived.Test.YtimjccbdngajoaaGreatGC5
/- Printed by genplain.py: what the helpers of the law FnExactIsValidRegistry compute. -/
set_option linter.unusedVariables false
set_option linter.unusedSimpArgs false
set_option linter.unnecessarySimpa false
set_option synthInstance.maxSize 20000
set_option synthInstance.maxHeartbeats 2000000
namespace Go.Proofs.YtimjccbdngajoaaGreat.D
open Go.RowKit
theorem z_szBoolS : SzOk m_w_szBoolS := fun xs l hl h0 h1 => szF xs (lim_list hl).1 (fun _ => trivial) h0 h1
theorem z_szIntS : SzOk m_w_szIntS := fun xs l hl h0 h1 => szF xs (lim_list hl).1 (fun _ => trivial) h0 h1
theorem z_szIntSS : SzOk m_w_szIntSS := fun xs l hl h0 h1 => szL (f := m_w_szIntSS_l0 xs) xs (lim_list hl).1 (fun i h l k0 k1 => by
  obtain ⟨r, e, hr⟩ := z_szIntS xs[i] l ((lim_list hl).2 _ (List.getElem_mem h)) k0 k1
  refine ⟨r, ?_, hr⟩
  simp only [m_w_szIntSS_l0, lt_nat h, if_true, getI_nat h, Option.bind_some, peta, e, wrap_succ (show i < 9223372036854775807 by have := (lim_list hl).1; omega)]
  exact iteOpt (by simp)) (fun l => by simp only [m_w_szIntSS_l0, lt_self]; rfl) h0 h1
theorem z_szAutomaton : SzOk m_w_szAutomaton := by
  intro x l hl h0 h1
  unfold m_w_szAutomaton
  try simp only [peta]
  obtain ⟨r1, e1, k1⟩ := z_szBoolS x.2.1 l hl.2.1 (by omega) (by omega)
  rw [e1]; simp only [Option.bind_some]
  rcases k1 with k1 | ⟨k1, j1, s1⟩
  · exact ⟨-1, by rw [if_pos (decide_eq_true k1)], .inl (by decide)⟩
  rw [if_neg (by simpa using k1)]
  obtain ⟨r2, e2, k2⟩ := z_szIntSS x.2.2 r1 hl.2.2 (by omega) (by omega)
  rw [e2]; simp only [Option.bind_some]
  rcases k2 with k2 | ⟨k2, j2, s2⟩
  · exact ⟨-1, by rw [if_pos (decide_eq_true k2)], .inl (by decide)⟩
  rw [if_neg (by simpa using k2)]
  exact ⟨_, rfl, .inr ⟨by omega, by omega, ⟨trivial, s1, s2⟩⟩⟩
theorem z_szAutomatonS : SzOk m_w_szAutomatonS := fun xs l hl h0 h1 => szL (f := m_w_szAutomatonS_l0 xs) xs (lim_list hl).1 (fun i h l k0 k1 => by
  obtain ⟨r, e, hr⟩ := z_szAutomaton xs[i] l ((lim_list hl).2 _ (List.getElem_mem h)) k0 k1
  refine ⟨r, ?_, hr⟩
  simp only [m_w_szAutomatonS_l0, lt_nat h, if_true, getI_nat h, Option.bind_some, peta, e, wrap_succ (show i < 9223372036854775807 by have := (lim_list hl).1; omega)]
  exact iteOpt (by simp)) (fun l => by simp only [m_w_szAutomatonS_l0, lt_self]; rfl) h0 h1
theorem z_szTokenS : SzOk m_w_szTokenS := fun xs l hl h0 h1 => szF xs (lim_list hl).1 (fun _ => ⟨trivial, trivial, trivial, trivial⟩) h0 h1
theorem z_szExpr : SzOk m_w_szExpr := by
  intro x l hl h0 h1
  unfold m_w_szExpr
  try simp only [peta]
  obtain ⟨r1, e1, k1⟩ := z_szTokenS x l hl (by omega) (by omega)
  rw [e1]; simp only [Option.bind_some]
  rcases k1 with k1 | ⟨k1, j1, s1⟩
  · exact ⟨-1, by rw [if_pos (decide_eq_true k1)], .inl (by decide)⟩
  rw [if_neg (by simpa using k1)]
  exact ⟨_, rfl, .inr ⟨by omega, by omega, s1⟩⟩
theorem z_szRegistered : SzOk m_w_szRegistered := by
  intro x l hl h0 h1
  unfold m_w_szRegistered
  try simp only [peta]
  obtain ⟨r1, e1, k1⟩ := z_szExpr x.2.1 l hl.2.1 (by omega) (by omega)
  rw [e1]; simp only [Option.bind_some]
  rcases k1 with k1 | ⟨k1, j1, s1⟩
  · exact ⟨-1, by rw [if_pos (decide_eq_true k1)], .inl (by decide)⟩
  rw [if_neg (by simpa using k1)]
  exact ⟨_, rfl, .inr ⟨by omega, by omega, ⟨trivial, s1, trivial⟩⟩⟩
theorem z_szRegisteredS : SzOk m_w_szRegisteredS := fun xs l hl h0 h1 => szL (f := m_w_szRegisteredS_l0 xs) xs (lim_list hl).1 (fun i h l k0 k1 => by
  obtain ⟨r, e, hr⟩ := z_szRegistered xs[i] l ((lim_list hl).2 _ (List.getElem_mem h)) k0 k1
  refine ⟨r, ?_, hr⟩
  simp only [m_w_szRegisteredS_l0, lt_nat h, if_true, getI_nat h, Option.bind_some, peta, e, wrap_succ (show i < 9223372036854775807 by have := (lim_list hl).1; omega)]
  exact iteOpt (by simp)) (fun l => by simp only [m_w_szRegisteredS_l0, lt_self]; rfl) h0 h1
theorem z_szRegistry : SzOk m_w_szRegistry := by
  intro x l hl h0 h1
  unfold m_w_szRegistry
  try simp only [peta]
  obtain ⟨r1, e1, k1⟩ := z_szAutomatonS x.1 l hl.1 (by omega) (by omega)
  rw [e1]; simp only [Option.bind_some]
  rcases k1 with k1 | ⟨k1, j1, s1⟩
  · exact ⟨-1, by rw [if_pos (decide_eq_true k1)], .inl (by decide)⟩
  rw [if_neg (by simpa using k1)]
  obtain ⟨r2, e2, k2⟩ := z_szRegisteredS x.2 r1 hl.2 (by omega) (by omega)
  rw [e2]; simp only [Option.bind_some]
  rcases k2 with k2 | ⟨k2, j2, s2⟩
  · exact ⟨-1, by rw [if_pos (decide_eq_true k2)], .inl (by decide)⟩
  rw [if_neg (by simpa using k2)]
  exact ⟨_, rfl, .inr ⟨by omega, by omega, ⟨s1, s2⟩⟩⟩
theorem t_toBoolS : ToOk m_w_toBoolS := by
  intro xs hx
  have hn := (sm_list hx).1
  unfold m_w_toBoolS
  rw [mkI_ok (by omega)]; simp only [Option.bind_some]
  rw [toL (f := m_w_toBoolS_l0 xs) xs (by omega) (fun ys i h hy => by simp only [m_w_toBoolS_l0, lt_nat h, if_true, getI_nat h, getI_nat (show i < ys.length by omega), Option.bind_some, peta, wrap_succ (show i < 9223372036854775807 by omega), Int.toNat_natCast]) (fun ys hy => by simp only [m_w_toBoolS_l0, lt_self]; rfl)]
  rfl
theorem t_toIntS : ToOk m_w_toIntS := by
  intro xs hx
  have hn := (sm_list hx).1
  unfold m_w_toIntS
  rw [mkI_ok (by omega)]; simp only [Option.bind_some]
  rw [toL (f := m_w_toIntS_l0 xs) xs (by omega) (fun ys i h hy => by simp only [m_w_toIntS_l0, lt_nat h, if_true, getI_nat h, getI_nat (show i < ys.length by omega), Option.bind_some, peta, wrap_succ (show i < 9223372036854775807 by omega), Int.toNat_natCast]) (fun ys hy => by simp only [m_w_toIntS_l0, lt_self]; rfl)]
  rfl
theorem t_toIntSS : ToOk m_w_toIntSS := by
  intro xs hx
  have hn := (sm_list hx).1
  unfold m_w_toIntSS
  rw [mkI_ok (by omega)]; simp only [Option.bind_some]
  rw [toL (f := m_w_toIntSS_l0 xs) xs (by omega) (fun ys i h hy => by simp only [m_w_toIntSS_l0, lt_nat h, if_true, getI_nat h, getI_nat (show i < ys.length by omega), Option.bind_some, peta, t_toIntS xs[i] ((sm_list hx).2 _ (List.getElem_mem h)), wrap_succ (show i < 9223372036854775807 by omega), Int.toNat_natCast]) (fun ys hy => by simp only [m_w_toIntSS_l0, lt_self]; rfl)]
  rfl
theorem t_toAutomaton : ToOk m_w_toAutomaton := by
  intro x hx
  unfold m_w_toAutomaton
  simp only [peta, Option.bind_some, t_toBoolS x.2.1 hx.2.1, t_toIntSS x.2.2 hx.2.2]
theorem t_toAutomatonS : ToOk m_w_toAutomatonS := by
  intro xs hx
  have hn := (sm_list hx).1
  unfold m_w_toAutomatonS
  rw [mkI_ok (by omega)]; simp only [Option.bind_some]
  rw [toL (f := m_w_toAutomatonS_l0 xs) xs (by omega) (fun ys i h hy => by simp only [m_w_toAutomatonS_l0, lt_nat h, if_true, getI_nat h, getI_nat (show i < ys.length by omega), Option.bind_some, peta, t_toAutomaton xs[i] ((sm_list hx).2 _ (List.getElem_mem h)), wrap_succ (show i < 9223372036854775807 by omega), Int.toNat_natCast]) (fun ys hy => by simp only [m_w_toAutomatonS_l0, lt_self]; rfl)]
  rfl
theorem t_toToken : ToOk m_w_toToken := by
  intro x hx
  unfold m_w_toToken
  simp only [peta, Option.bind_some]
theorem t_toTokenS : ToOk m_w_toTokenS := by
  intro xs hx
  have hn := (sm_list hx).1
  unfold m_w_toTokenS
  rw [mkI_ok (by omega)]; simp only [Option.bind_some]
  rw [toL (f := m_w_toTokenS_l0 xs) xs (by omega) (fun ys i h hy => by simp only [m_w_toTokenS_l0, lt_nat h, if_true, getI_nat h, getI_nat (show i < ys.length by omega), Option.bind_some, peta, t_toToken xs[i] ((sm_list hx).2 _ (List.getElem_mem h)), wrap_succ (show i < 9223372036854775807 by omega), Int.toNat_natCast]) (fun ys hy => by simp only [m_w_toTokenS_l0, lt_self]; rfl)]
  rfl
theorem t_toExpr : ToOk m_w_toExpr := by
  intro x hx
  unfold m_w_toExpr
  simp only [peta, Option.bind_some, t_toTokenS x hx]
theorem t_toRegistered : ToOk m_w_toRegistered := by
  intro x hx
  unfold m_w_toRegistered
  simp only [peta, Option.bind_some, t_toExpr x.2.1 hx.2.1]
theorem t_toRegisteredS : ToOk m_w_toRegisteredS := by
  intro xs hx
  have hn := (sm_list hx).1
  unfold m_w_toRegisteredS
  rw [mkI_ok (by omega)]; simp only [Option.bind_some]
  rw [toL (f := m_w_toRegisteredS_l0 xs) xs (by omega) (fun ys i h hy => by simp only [m_w_toRegisteredS_l0, lt_nat h, if_true, getI_nat h, getI_nat (show i < ys.length by omega), Option.bind_some, peta, t_toRegistered xs[i] ((sm_list hx).2 _ (List.getElem_mem h)), wrap_succ (show i < 9223372036854775807 by omega), Int.toNat_natCast]) (fun ys hy => by simp only [m_w_toRegisteredS_l0, lt_self]; rfl)]
  rfl
theorem t_toRegistry : ToOk m_w_toRegistry := by
  intro x hx
  unfold m_w_toRegistry
  simp only [peta, Option.bind_some, t_toAutomatonS x.1 hx.1, t_toRegisteredS x.2 hx.2]
theorem q_eqBoolS : EqOk m_w_eqBoolS := fun xs ys hx hy => eqL (f := m_w_eqBoolS_l0 xs ys) xs ys (by have := (sm_list hx).1; omega) (fun i h h' => by
  simp only [m_w_eqBoolS_l0, lt_nat h, if_true, getI_nat h, getI_nat h', Option.bind_some, peta, wrap_succ (show i < 9223372036854775807 by have := (sm_list hx).1; omega)]
  first | exact iteOpt (by simp) | exact iteOptN (by simp) | exact iteOpt (by simp [Prod.ext_iff])) (by simp only [m_w_eqBoolS_l0, lt_self]; rfl)
theorem q_eqIntS : EqOk m_w_eqIntS := fun xs ys hx hy => eqL (f := m_w_eqIntS_l0 xs ys) xs ys (by have := (sm_list hx).1; omega) (fun i h h' => by
  simp only [m_w_eqIntS_l0, lt_nat h, if_true, getI_nat h, getI_nat h', Option.bind_some, peta, wrap_succ (show i < 9223372036854775807 by have := (sm_list hx).1; omega)]
  first | exact iteOpt (by simp) | exact iteOptN (by simp) | exact iteOpt (by simp [Prod.ext_iff])) (by simp only [m_w_eqIntS_l0, lt_self]; rfl)
theorem q_eqIntSS : EqOk m_w_eqIntSS := fun xs ys hx hy => eqL (f := m_w_eqIntSS_l0 xs ys) xs ys (by have := (sm_list hx).1; omega) (fun i h h' => by
  simp only [m_w_eqIntSS_l0, lt_nat h, if_true, getI_nat h, getI_nat h', Option.bind_some, peta, q_eqIntS xs[i] ys[i] ((sm_list hx).2 _ (List.getElem_mem h)) ((sm_list hy).2 _ (List.getElem_mem h')), wrap_succ (show i < 9223372036854775807 by have := (sm_list hx).1; omega)]
  first | exact iteOpt (by simp) | exact iteOptN (by simp) | exact iteOpt (by simp [Prod.ext_iff])) (by simp only [m_w_eqIntSS_l0, lt_self]; rfl)
theorem q_eqAutomaton : EqOk m_w_eqAutomaton := by
  intro x y hx hy
  unfold m_w_eqAutomaton
  try simp only [peta, Option.bind_some, q_eqBoolS x.2.1 y.2.1 hx.2.1 hy.2.1, q_eqIntSS x.2.2 y.2.2 hx.2.2 hy.2.2]
  repeat' split
  all_goals simp_all [Prod.ext_iff]
theorem q_eqAutomatonS : EqOk m_w_eqAutomatonS := fun xs ys hx hy => eqL (f := m_w_eqAutomatonS_l0 xs ys) xs ys (by have := (sm_list hx).1; omega) (fun i h h' => by
  simp only [m_w_eqAutomatonS_l0, lt_nat h, if_true, getI_nat h, getI_nat h', Option.bind_some, peta, q_eqAutomaton xs[i] ys[i] ((sm_list hx).2 _ (List.getElem_mem h)) ((sm_list hy).2 _ (List.getElem_mem h')), wrap_succ (show i < 9223372036854775807 by have := (sm_list hx).1; omega)]
  first | exact iteOpt (by simp) | exact iteOptN (by simp) | exact iteOpt (by simp [Prod.ext_iff])) (by simp only [m_w_eqAutomatonS_l0, lt_self]; rfl)
theorem q_eqToken : EqOk m_w_eqToken := by
  intro x y hx hy
  unfold m_w_eqToken
  try simp only [peta, Option.bind_some]
  repeat' split
  all_goals simp_all [Prod.ext_iff]
theorem q_eqTokenS : EqOk m_w_eqTokenS := fun xs ys hx hy => eqL (f := m_w_eqTokenS_l0 xs ys) xs ys (by have := (sm_list hx).1; omega) (fun i h h' => by
  simp only [m_w_eqTokenS_l0, lt_nat h, if_true, getI_nat h, getI_nat h', Option.bind_some, peta, q_eqToken xs[i] ys[i] ((sm_list hx).2 _ (List.getElem_mem h)) ((sm_list hy).2 _ (List.getElem_mem h')), wrap_succ (show i < 9223372036854775807 by have := (sm_list hx).1; omega)]
  first | exact iteOpt (by simp) | exact iteOptN (by simp) | exact iteOpt (by simp [Prod.ext_iff])) (by simp only [m_w_eqTokenS_l0, lt_self]; rfl)
theorem q_eqExpr : EqOk m_w_eqExpr := by
  intro x y hx hy
  unfold m_w_eqExpr
  try simp only [peta, Option.bind_some, q_eqTokenS x y hx hy]
  repeat' split
  all_goals simp_all [Prod.ext_iff]
theorem q_eqRegistered : EqOk m_w_eqRegistered := by
  intro x y hx hy
  unfold m_w_eqRegistered
  try simp only [peta, Option.bind_some, q_eqExpr x.2.1 y.2.1 hx.2.1 hy.2.1]
  repeat' split
  all_goals simp_all [Prod.ext_iff]
theorem q_eqRegisteredS : EqOk m_w_eqRegisteredS := fun xs ys hx hy => eqL (f := m_w_eqRegisteredS_l0 xs ys) xs ys (by have := (sm_list hx).1; omega) (fun i h h' => by
  simp only [m_w_eqRegisteredS_l0, lt_nat h, if_true, getI_nat h, getI_nat h', Option.bind_some, peta, q_eqRegistered xs[i] ys[i] ((sm_list hx).2 _ (List.getElem_mem h)) ((sm_list hy).2 _ (List.getElem_mem h')), wrap_succ (show i < 9223372036854775807 by have := (sm_list hx).1; omega)]
  first | exact iteOpt (by simp) | exact iteOptN (by simp) | exact iteOpt (by simp [Prod.ext_iff])) (by simp only [m_w_eqRegisteredS_l0, lt_self]; rfl)
theorem q_eqRegistry : EqOk m_w_eqRegistry := by
  intro x y hx hy
  unfold m_w_eqRegistry
  try simp only [peta, Option.bind_some, q_eqAutomatonS x.1 y.1 hx.1 hy.1, q_eqRegisteredS x.2 y.2 hx.2 hy.2]
  repeat' split
  all_goals simp_all [Prod.ext_iff]
end Go.Proofs.YtimjccbdngajoaaGreat.D
/- Loops as steps on invariants; numbering in the order of discovery. No program text is named here. -/
set_option linter.unusedVariables false
set_option linter.unusedSimpArgs false
set_option linter.unnecessarySimpa false
namespace Go.Proofs.YtimjccbdngajoaaGreat.D
open Go.RowKit

/-! ### Loops -/
/-- A loop by an invariant: at round i it goes on, or it ends with what Q says. -/
theorem loopM_go {R S : Type} {f : S → Option (Out R S)} (Inv : Nat → S → Prop) (Q : Out R S → Prop) (N : Nat)
    (h : ∀ i s, i ≤ N → Inv i s → (i < N ∧ ∃ s', f s = some (.nxt s') ∧ Inv (i + 1) s') ∨ ∃ o, f s = some o ∧ (∀ s', o ≠ .nxt s') ∧ Q o) {s : S} (h0 : Inv 0 s) (hN : N < FUEL) : ∃ o, loopM f FUEL s = some o ∧ Q o := by
  have key : ∀ (k i : Nat) (s : S), i ≤ N → N < i + k → Inv i s → ∃ o, loopM f k s = some o ∧ Q o := by
    intro k
    induction k with
    | zero => intro i s h1 h2; omega
    | succ k ih =>
      intro i s h1 h2 hI
      rcases h i s h1 hI with ⟨hi, s', e, hI'⟩ | ⟨o, e, hn, hq⟩
      · obtain ⟨o, e', hq⟩ := ih (i + 1) s' (by omega) (by omega) hI'
        exact ⟨o, by rw [loopM, e]; exact e', hq⟩
      · refine ⟨o, ?_, hq⟩
        rw [loopM, e]
        cases o with
        | nxt s' => exact absurd rfl (hn s')
        | brk s' => rfl
        | ret r => rfl
  exact key FUEL 0 s (by omega) (by omega) h0
/-- A loop of N rounds that ends by itself. -/
theorem loopM_for {R S : Type} {f : S → Option (Out R S)} (Inv : Nat → S → Prop) (N : Nat) (h : ∀ i s, i < N → Inv i s → ∃ s', f s = some (.nxt s') ∧ Inv (i + 1) s') (he : ∀ s, Inv N s → f s = some (.brk s)) {s : S} (h0 : Inv 0 s) (hN : N < FUEL) : ∃ s', loopM f FUEL s = some (.brk s') ∧ Inv N s' := by
  obtain ⟨o, e, s', rfl, h⟩ := loopM_go (f := f) Inv (fun o => ∃ s', o = .brk s' ∧ Inv N s') N (fun i s hi hI => by
    by_cases h1 : i < N
    · exact .inl ⟨h1, h i s h1 hI⟩
    · obtain rfl : i = N := by omega
      exact .inr ⟨_, he s hI, (fun s' e => by cases e), s, rfl, hI⟩) h0 hN
  exact ⟨s', e, h⟩
/-- the same, the state known at each round -/
theorem loopM_at {R S : Type} {f : S → Option (Out R S)} (st : Nat → S) (N : Nat) (h : ∀ i, i < N → f (st i) = some (.nxt (st (i + 1)))) (he : f (st N) = some (.brk (st N))) (hN : N < FUEL) : loopM f FUEL (st 0) = some (.brk (st N)) := loopM_all st N h he hN
theorem up63 {k : Nat} (h : k ≤ 9223372036854775807) : k < FUEL := fuelUp k h
theorem wrap_nat {i : Nat} (h : i ≤ 9223372036854775807) : IntKind.i64.wrap (i : Int) = (i : Int) := wrapI (by omega) (by omega)
theorem wrap_pred {i : Nat} (h : i ≤ 9223372036854775807) : IntKind.i64.wrap ((i : Int) - 1) = (i : Int) - 1 := wrapI (by omega) (by omega)
theorem appI_ok {α : Type} {b : Nat} {xs ys : List α} (h : (xs.length + ys.length) * b ≤ 140737488355328) : appI b xs ys = some (xs ++ ys) := by unfold appI; rw [if_pos h]
theorem lt_nat' {i n : Nat} : decide ((i : Int) < (n : Int)) = decide (i < n) := by simp
theorem bindL_ret {R S T : Type} {x : Option (Out R S)} {r : R} {kr : R → Option T} {k : S → Option T} (h : x = some (.ret r)) : bindL x kr k = kr r := by rw [h]; rfl
theorem bindL_brk {R S T : Type} {x : Option (Out R S)} {s : S} {kr : R → Option T} {k : S → Option T} (h : x = some (.brk s)) : bindL x kr k = k s := by rw [h]; rfl

/-! ### Places of lists -/
def nth {α : Type} [Inhabited α] (xs : List α) (i : Int) : α := xs.getD i.toNat default
section
variable {α : Type} [Inhabited α] {xs ys : List α}
theorem getI_nth {i : Int} (h0 : 0 ≤ i) (h1 : i < xs.length) : getI xs i = some (nth xs i) := by
  unfold getI nth
  rw [if_pos h0]
  have : i.toNat < xs.length := by omega
  simp [List.getD_eq_getElem?_getD, this]
theorem nth_nat {i : Nat} (h : i < xs.length) : nth xs (i : Int) = xs[i] := by simp [nth, List.getD_eq_getElem?_getD, h]
theorem nth_mem {i : Int} (h0 : 0 ≤ i) (h1 : i < xs.length) : nth xs i ∈ xs := by
  have : i.toNat < xs.length := by omega
  have e : nth xs i = xs[i.toNat] := by simp [nth, List.getD_eq_getElem?_getD, this]
  rw [e]; exact List.getElem_mem this
theorem nth_append_left {i : Int} (h0 : 0 ≤ i) (h1 : i < xs.length) : nth (xs ++ ys) i = nth xs i := by
  have : i.toNat < xs.length := by omega
  simp [nth, List.getD_eq_getElem?_getD, List.getElem?_append_left this]
theorem nth_map {β : Type} [Inhabited β] {f : α → β} {i : Int} (h0 : 0 ≤ i) (h1 : i < xs.length) : nth (xs.map f) i = f (nth xs i) := by
  have : i.toNat < xs.length := by omega
  simp [nth, List.getD_eq_getElem?_getD, this]
theorem mem_nth {x : α} (h : x ∈ xs) : ∃ i : Nat, i < xs.length ∧ nth xs (i : Int) = x := by
  obtain ⟨i, hi, rfl⟩ := List.getElem_of_mem h
  exact ⟨i, hi, nth_nat hi⟩
theorem nth_set_self {i : Int} {x : α} (h0 : 0 ≤ i) (h1 : i < xs.length) : nth (xs.set i.toNat x) i = x := by
  have : i.toNat < xs.length := by omega
  simp [nth, List.getD_eq_getElem?_getD, this]
theorem nth_set_ne {i j : Int} {x : α} (h0 : 0 ≤ i) (hj : 0 ≤ j) (h : i ≠ j) : nth (xs.set i.toNat x) j = nth xs j := by
  have : i.toNat ≠ j.toNat := by omega
  simp [nth, List.getD_eq_getElem?_getD, List.getElem?_set_ne this]
theorem ext_nth (h : xs.length = ys.length) (k : ∀ i : Nat, i < xs.length → nth xs (i : Int) = nth ys (i : Int)) : xs = ys := by
  refine List.ext_getElem h fun i h1 h2 => ?_
  have := k i h1
  rwa [nth_nat h1, nth_nat h2] at this
end

/-! ### Numbering in the order of discovery -/
section
variable {κ : Type} [DecidableEq κ]
def nbL (l : List κ) : Option κ → List κ
  | none => l
  | some x => if x ∈ l then l else l ++ [x]
def nbI (l : List κ) : Option κ → Int
  | none => -1
  | some x => (l.idxOf x : Int)
def nbS (l : List κ) (os : List (Option κ)) : List κ := os.foldl nbL l
def nbR (l : List κ) : List (Option κ) → List Int
  | [] => []
  | o :: os => nbI l o :: nbR (nbL l o) os
theorem nbS_snoc (l : List κ) (os : List (Option κ)) (o : Option κ) : nbS l (os ++ [o]) = nbL (nbS l os) o := by simp [nbS]
theorem nbR_snoc : ∀ (l : List κ) (os : List (Option κ)) (o : Option κ), nbR l (os ++ [o]) = nbR l os ++ [nbI (nbS l os) o]
  | l, [], o => rfl
  | l, p :: os, o => by
    show nbI l p :: nbR (nbL l p) (os ++ [o]) = nbI l p :: nbR (nbL l p) os ++ [nbI (nbS (nbL l p) os) o]
    rw [nbR_snoc (nbL l p) os o]; rfl
theorem nbR_length : ∀ (l : List κ) (os : List (Option κ)), (nbR l os).length = os.length
  | l, [] => rfl
  | l, o :: os => by show (nbR (nbL l o) os).length + 1 = _; rw [nbR_length]; rfl
theorem nbL_prefix (l : List κ) (o : Option κ) : l <+: nbL l o := by
  cases o with
  | none => exact List.prefix_refl l
  | some x => unfold nbL; simp only; split
              · exact List.prefix_refl l
              · exact List.prefix_append l [x]
theorem nbS_prefix : ∀ (l : List κ) (os : List (Option κ)), l <+: nbS l os
  | l, [] => List.prefix_refl l
  | l, o :: os => (nbL_prefix l o).trans (nbS_prefix (nbL l o) os)
theorem nbL_nodup {l : List κ} {o : Option κ} (h : l.Nodup) : (nbL l o).Nodup := by
  cases o with
  | none => exact h
  | some x => unfold nbL; simp only; split
              · exact h
              · rename_i hx; exact List.nodup_append.2 ⟨h, by simp, by rintro a ha b hb rfl; simp at hb; exact hx (hb ▸ ha)⟩
theorem nbS_nodup : ∀ {l : List κ} {os : List (Option κ)}, l.Nodup → (nbS l os).Nodup
  | l, [], h => h
  | l, o :: os, h => nbS_nodup (l := nbL l o) (os := os) (nbL_nodup h)
theorem mem_nbL {l : List κ} {o : Option κ} {x : κ} : x ∈ nbL l o ↔ x ∈ l ∨ o = some x := by
  cases o with
  | none => simp [nbL]
  | some y => unfold nbL; simp only; split
              · rename_i h; constructor
                · exact .inl
                · rintro (h' | h')
                  · exact h'
                  · simp at h'; exact h' ▸ h
              · simp; exact or_congr Iff.rfl eq_comm
theorem mem_nbS : ∀ {l : List κ} {os : List (Option κ)} {x : κ}, x ∈ nbS l os ↔ x ∈ l ∨ some x ∈ os
  | l, [], x => by simp [nbS]
  | l, o :: os, x => by
    show x ∈ nbS (nbL l o) os ↔ _
    rw [mem_nbS, mem_nbL, List.mem_cons, or_assoc]
    exact or_congr Iff.rfl (or_congr eq_comm Iff.rfl)
theorem nbL_old {l : List κ} {x : κ} (h : x ∈ l) : nbL l (some x) = l := by simp [nbL, h]
theorem nbL_new {l : List κ} {x : κ} (h : x ∉ l) : nbL l (some x) = l ++ [x] := by simp [nbL, h]
theorem idxOf_nbL {l : List κ} {x : κ} (h : x ∉ l) : l.idxOf x = l.length := List.idxOf_eq_length h

/-- the list of what is found from 'first', i of it having been looked at -/
def bfS (nx : κ → List (Option κ)) (first : κ) : Nat → List κ
  | 0 => [first]
  | i + 1 => match (bfS nx first i)[i]? with
    | some x => nbS (bfS nx first i) (nx x)
    | none => bfS nx first i
def bfR (nx : κ → List (Option κ)) (first : κ) : Nat → List (List Int)
  | 0 => []
  | i + 1 => bfR nx first i ++ (match (bfS nx first i)[i]? with
    | some x => [nbR (bfS nx first i) (nx x)]
    | none => [])
variable {nx : κ → List (Option κ)} {first : κ}
theorem bfS_succ {i : Nat} (h : i < (bfS nx first i).length) : bfS nx first (i + 1) = nbS (bfS nx first i) (nx ((bfS nx first i)[i])) := by
  rw [bfS, List.getElem?_eq_getElem h]
theorem bfR_succ {i : Nat} (h : i < (bfS nx first i).length) : bfR nx first (i + 1) = bfR nx first i ++ [nbR (bfS nx first i) (nx ((bfS nx first i)[i]))] := by
  rw [bfR, List.getElem?_eq_getElem h]
theorem bfS_step_prefix (i : Nat) : bfS nx first i <+: bfS nx first (i + 1) := by
  rw [bfS]
  split
  · exact nbS_prefix _ _
  · exact List.prefix_refl _
theorem bfS_prefix {i j : Nat} (h : i ≤ j) : bfS nx first i <+: bfS nx first j := by
  induction h with
  | refl => exact List.prefix_refl _
  | step _ ih => exact ih.trans (bfS_step_prefix _)
theorem bfS_nodup : ∀ i, (bfS nx first i).Nodup
  | 0 => by simp [bfS]
  | i + 1 => by
    rw [bfS]
    split
    · exact nbS_nodup (bfS_nodup i)
    · exact bfS_nodup i
theorem bfS_good {G : κ → Prop} (h0 : G first) (h : ∀ x, G x → ∀ y, some y ∈ nx x → G y) : ∀ i, ∀ x ∈ bfS nx first i, G x
  | 0 => by simp [bfS]; exact h0
  | i + 1 => by
    rw [bfS]
    split
    · rename_i y hy
      intro x hx
      rcases mem_nbS.1 hx with hx | hx
      · exact bfS_good h0 h i x hx
      · exact h y (bfS_good h0 h i y (List.mem_of_getElem? hy)) x hx
    · exact bfS_good h0 h i
theorem bfS_first (i : Nat) : (bfS nx first i)[0]? = some first := by
  obtain ⟨t, ht⟩ := bfS_prefix (nx := nx) (first := first) (Nat.zero_le i)
  rw [← ht]; rfl
theorem bfR_length : ∀ {i : Nat}, (∀ j, j < i → j < (bfS nx first j).length) → (bfR nx first i).length = i
  | 0, _ => rfl
  | i + 1, h => by rw [bfR_succ (h i (by omega)), List.length_append, bfR_length fun j hj => h j (by omega)]; rfl
/-- where all has been looked at -/
def bfE (nx : κ → List (Option κ)) (first : κ) (N : Nat) : Prop := N = (bfS nx first N).length ∧ ∀ i, i < N → i < (bfS nx first i).length
theorem bfE_ex {B : Nat} (hB : ∀ i, (bfS nx first i).length ≤ B) : ∃ N, N ≤ B ∧ bfE nx first N := by
  have key : ∀ m i, i + m = B → (∀ j, j < i → j < (bfS nx first j).length) → ∃ N, N ≤ B ∧ bfE nx first N := by
    intro m
    induction m with
    | zero =>
      intro i hi hj
      have h1 := hB i
      have h2 : i ≤ (bfS nx first i).length := by
        cases i with
        | zero => omega
        | succ i =>
          have := hj i (by omega)
          have hp := (bfS_step_prefix (nx := nx) (first := first) i).length_le
          omega
      exact ⟨i, by omega, by omega, hj⟩
    | succ m ih =>
      intro i hi hj
      by_cases h : i < (bfS nx first i).length
      · exact ih (i + 1) (by omega) fun j hj' => by
          by_cases e : j = i
          · subst e; exact h
          · exact hj j (by omega)
      · have h2 : i ≤ (bfS nx first i).length := by
          cases i with
          | zero => omega
          | succ i =>
            have := hj i (by omega)
            have hp := (bfS_step_prefix (nx := nx) (first := first) i).length_le
            omega
        exact ⟨i, by omega, by omega, hj⟩
  exact key B 0 (by omega) (by omega)
theorem bfE_uniq {N M : Nat} (h : bfE nx first N) (k : bfE nx first M) : N = M := by
  rcases Nat.lt_trichotomy N M with e | e | e
  · have := k.2 N e; have := h.1; omega
  · exact e
  · have := h.2 M e; have := k.1; omega
end
end Go.Proofs.YtimjccbdngajoaaGreat.D
/- Automata: what is valid, the moves, what is live, by the reference and by the program. -/
set_option linter.unusedVariables false
set_option linter.unusedSimpArgs false
set_option linter.unnecessarySimpa false
namespace Go.Proofs.YtimjccbdngajoaaGreat.D
open Go.RowKit

abbrev AutT := Int × (List Bool) × (List (List Int))
/-- an automaton with n states -/
structure VA (a : AutT) (n : Nat) : Prop where
  len : a.2.1.length = n
  start : 0 ≤ a.1 ∧ a.1 < n
  nlen : a.2.2.length = n
  row : ∀ r ∈ a.2.2, r.length = 9
  ent : ∀ r ∈ a.2.2, ∀ t ∈ r, -1 ≤ t ∧ t < n
def mv (a : AutT) (s : Int) (k : Nat) : Int := nth (nth a.2.2 s) k
theorem s_in (x l h : Int) : m_s_l1In x l h = some (decide (l ≤ x ∧ x ≤ h)) := by
  unfold m_s_l1In
  by_cases c : l ≤ x
  · simp [c]
  · have : ¬ l ≤ x ∧ True := ⟨c, trivial⟩
    simp [c]
theorem i_in (x l h : Int) : m_i_within x l h = some (decide (l ≤ x ∧ x ≤ h)) := by
  unfold m_i_within
  by_cases c : l ≤ x
  · simp [c]
  · simp [c]
/-- a loop that looks through a list and ends at the first element that is not fine -/
theorem scan {α R : Type} [Inhabited α] {f : Int → Option (Out R Int)} (xs : List α) (p : α → Prop) [DecidablePred p] (r : R) (hN : xs.length ≤ 9223372036854775807)
    (h : ∀ i : Nat, i < xs.length → f (i : Int) = some (if p (nth xs i) then .nxt ((i + 1 : Nat) : Int) else .ret r)) (he : f (xs.length : Int) = some (.brk (xs.length : Int))) :
    (loopM f FUEL 0 = some (.brk (xs.length : Int)) ∧ ∀ x ∈ xs, p x) ∨ (loopM f FUEL 0 = some (.ret r) ∧ ¬ ∀ x ∈ xs, p x) := by
  obtain ⟨o, e, hq⟩ := loopM_go (f := f) (fun i s => s = (i : Int) ∧ ∀ j : Nat, j < i → p (nth xs j)) (fun o => (o = .brk (xs.length : Int) ∧ ∀ x ∈ xs, p x) ∨ (o = .ret r ∧ ¬ ∀ x ∈ xs, p x)) xs.length (s := 0) (by
    rintro i s hi ⟨rfl, hp⟩
    by_cases hl : i < xs.length
    · by_cases c : p (nth xs i)
      · refine .inl ⟨hl, _, by rw [h i hl, if_pos c], rfl, fun j hj => ?_⟩
        by_cases e : j = i
        · subst e; exact c
        · exact hp j (by omega)
      · refine .inr ⟨_, by rw [h i hl, if_neg c], (fun s' e => by cases e), .inr ⟨rfl, fun hx => c (hx _ (nth_mem (by omega) (by omega)))⟩⟩
    · obtain rfl : i = xs.length := by omega
      refine .inr ⟨_, he, (fun s' e => by cases e), .inl ⟨rfl, fun x hx => ?_⟩⟩
      obtain ⟨j, hj, rfl⟩ := mem_nth hx
      exact hp j hj) ⟨rfl, by omega⟩ (up63 hN)
  rcases hq with ⟨rfl, hq⟩ | ⟨rfl, hq⟩
  · exact .inl ⟨e, hq⟩
  · exact .inr ⟨e, hq⟩
section
variable {a : AutT} {n : Nat} (V : VA a n)
include V
theorem VA.pos : 0 < n := by have := V.start; omega
theorem VA.rowAt {s : Int} (h0 : 0 ≤ s) (h1 : s < n) : (nth a.2.2 s).length = 9 := V.row _ (nth_mem h0 (by rw [V.nlen]; exact h1))
theorem VA.mv {s : Int} {k : Nat} (h0 : 0 ≤ s) (h1 : s < n) (hk : k < 9) : -1 ≤ mv a s k ∧ mv a s k < n :=
  V.ent _ (nth_mem h0 (by rw [V.nlen]; exact h1)) _ (nth_mem (by omega) (by rw [V.rowAt h0 h1]; omega))
theorem VA.get {s : Int} (h0 : 0 ≤ s) (h1 : s < n) : getI a.2.2 s = some (nth a.2.2 s) := getI_nth h0 (by rw [V.nlen]; exact h1)
theorem VA.get2 {s : Int} {k : Nat} (h0 : 0 ≤ s) (h1 : s < n) (hk : k < 9) : getI (nth a.2.2 s) (k : Int) = some (D.mv a s k) := getI_nth (by omega) (by rw [V.rowAt h0 h1]; omega)
theorem VA.acc {s : Int} (h0 : 0 ≤ s) (h1 : s < n) : getI a.2.1 s = some (nth a.2.1 s) := getI_nth h0 (by rw [V.len]; exact h1)
theorem i_move {s : Int} {k : Nat} (h0 : 0 ≤ s) (h1 : s < n) (hk : k < 9) : m_i_Automaton_move a s (k : Int) = some (mv a s k) := by
  unfold m_i_Automaton_move m_i_isLetter
  rw [if_neg (by simp; omega), i_in]; simp only [Option.bind_some]
  rw [if_pos (by simp; omega), V.get h0 h1]; simp only [Option.bind_some]
  rw [V.get2 h0 h1 hk]; rfl
end
theorem i_move_neg {a : AutT} {s : Int} {k : Int} (h0 : s < 0) : m_i_Automaton_move a s k = some (-1) := by
  unfold m_i_Automaton_move; rw [if_pos (by simpa using h0)]
end Go.Proofs.YtimjccbdngajoaaGreat.D
/- Expressions: words of tokens and trees; where an operand starts; sizes. By the reference and by the program. -/
set_option linter.unusedVariables false
set_option linter.unusedSimpArgs false
set_option linter.unnecessarySimpa false
set_option linter.unusedSectionVars false
namespace Go.Proofs.YtimjccbdngajoaaGreat.D
open Go.RowKit

/-! ### Tokens -/
abbrev Tok := Int × Int × Int × Int
/-- how many operands, -1 for none that is valid -/
def ar (t : Tok) : Int :=
  if t.1 = 1 ∨ t.1 = 2 then (if t.2.1 = 0 ∧ t.2.2.1 = 0 ∧ t.2.2.2 = 0 then 0 else -1)
  else if t.1 = 3 then (if (0 ≤ t.2.1 ∧ t.2.1 ≤ 8) ∧ t.2.2.1 = 0 ∧ t.2.2.2 = 0 then 0 else -1)
  else if t.1 = 4 ∨ t.1 = 5 then (if t.2.1 = 0 ∧ t.2.2.1 = 0 ∧ t.2.2.2 = 0 then 2 else -1)
  else if t.1 = 6 then (if t.2.1 = 0 ∧ t.2.2.1 = 0 ∧ t.2.2.2 = 0 then 1 else -1)
  else if t.1 = 7 then (if t.2.1 = 0 ∧ (0 ≤ t.2.2.1 ∧ t.2.2.1 ≤ t.2.2.2) ∧ (1 ≤ t.2.2.2 ∧ t.2.2.2 ≤ 3) then 1 else -1)
  else -1
theorem s_letter (x : Int) : m_s_l2Letter x = some (decide (0 ≤ x ∧ x ≤ 8)) := by unfold m_s_l2Letter; rw [s_in]; rfl
theorem i_letter (x : Int) : m_i_isLetter x = some (decide (0 ≤ x ∧ x ≤ 8)) := by unfold m_i_isLetter; rw [i_in]; rfl
theorem s_ar (t : Tok) : m_s_l8Arity t = some (ar t) := by
  obtain ⟨k, l, lo, hi⟩ := t
  unfold m_s_l8Arity ar
  simp only [s_letter, s_in, Option.bind_some]
  by_cases h1 : k = 1
  · subst h1; simp; grind
  by_cases h2 : k = 2
  · subst h2; simp; grind
  by_cases h3 : k = 3
  · subst h3; simp; grind
  by_cases h4 : k = 4
  · subst h4; simp; grind
  by_cases h5 : k = 5
  · subst h5; simp; grind
  by_cases h6 : k = 6
  · subst h6; simp; grind
  by_cases h7 : k = 7
  · subst h7; simp; grind
  simp [h1, h2, h3, h4, h5, h6, h7]
theorem i_tok (t : Tok) : m_i_tokenOk t = some (decide (0 ≤ ar t)) := by
  obtain ⟨k, l, lo, hi⟩ := t
  unfold m_i_tokenOk ar
  simp only [i_letter, i_in, Option.bind_some]
  by_cases h1 : k = 1
  · subst h1; simp; grind
  by_cases h2 : k = 2
  · subst h2; simp; grind
  by_cases h3 : k = 3
  · subst h3; simp only []
    by_cases a : 0 ≤ l ∧ l ≤ 8 <;> by_cases b : lo = 0 <;> by_cases c : hi = 0 <;> simp [a, b, c]
  by_cases h4 : k = 4
  · subst h4; simp; grind
  by_cases h5 : k = 5
  · subst h5; simp; grind
  by_cases h6 : k = 6
  · subst h6; simp; grind
  by_cases h7 : k = 7
  · subst h7; simp only []
    by_cases a : l = 0 <;> by_cases b : 0 ≤ lo ∧ lo ≤ hi <;> by_cases c : 1 ≤ hi ∧ hi ≤ 3 <;> simp [a, b, c]
  simp [h1, h2, h3, h4, h5, h6, h7]
theorem ar_range (t : Tok) : -1 ≤ ar t ∧ ar t ≤ 2 := by
  unfold ar
  grind
theorem ar_kind {t : Tok} (h : 0 ≤ ar t) : (ar t = 2 ∧ (t.1 = 4 ∨ t.1 = 5)) ∨ (ar t = 1 ∧ (t.1 = 6 ∨ t.1 = 7)) ∨ (ar t = 0 ∧ (t.1 = 1 ∨ t.1 = 2 ∨ t.1 = 3)) := by
  unfold ar at h ⊢
  grind
theorem ar_rep {t : Tok} (h : 0 ≤ ar t) (k : t.1 = 7) : (0 ≤ t.2.2.1 ∧ t.2.2.1 ≤ t.2.2.2) ∧ (1 ≤ t.2.2.2 ∧ t.2.2.2 ≤ 3) := by
  unfold ar at h
  grind
/-! ### Trees -/
mutual
def flat : Tr Tok → List Tok
  | .nil => []
  | .node t ks => flatL ks ++ [t]
def flatL : List (Tr Tok) → List Tok
  | [] => []
  | k :: ks => flat k ++ flatL ks
end
inductive WT : Tr Tok → Prop
  | node {t : Tok} {ks : List (Tr Tok)} : ar t = (ks.length : Int) → (∀ k, k ∈ ks → WT k) → WT (.node t ks)
theorem flatL_app : ∀ (a b : List (Tr Tok)), flatL (a ++ b) = flatL a ++ flatL b
  | [], b => rfl
  | k :: a, b => by rw [List.cons_append, flatL, flatL, flatL_app a b, List.append_assoc]
theorem flatL_one (x : Tr Tok) : flatL [x] = flat x := by rw [flatL, flatL, List.append_nil]
theorem flatL_two (x y : Tr Tok) : flatL [x, y] = flat x ++ flat y := by rw [flatL, flatL_one]
/-- the three shapes -/
theorem WT.cases {x : Tr Tok} (h : WT x) : (∃ t, x = .node t [] ∧ ar t = 0) ∨ (∃ t a, x = .node t [a] ∧ ar t = 1 ∧ WT a) ∨ ∃ t a b, x = .node t [a, b] ∧ ar t = 2 ∧ WT a ∧ WT b := by
  cases h with
  | @node t ks h1 h2 =>
    have := (ar_range t).2
    match ks, h1, h2 with
    | [], h1, h2 => exact .inl ⟨t, rfl, h1⟩
    | [a], h1, h2 => exact .inr (.inl ⟨t, a, rfl, h1, h2 a (by simp)⟩)
    | [a, b], h1, h2 => exact .inr (.inr ⟨t, a, b, rfl, h1, h2 a (by simp), h2 b (by simp)⟩)
    | _ :: _ :: _ :: _, h1, h2 => simp at h1; omega
/-- induction over the three shapes -/
theorem WT.ind {p : Tr Tok → Prop} (h0 : ∀ t, ar t = 0 → p (.node t [])) (h1 : ∀ t a, ar t = 1 → WT a → p a → p (.node t [a])) (h2 : ∀ t a b, ar t = 2 → WT a → WT b → p a → p b → p (.node t [a, b])) {x : Tr Tok} (h : WT x) : p x := by
  induction h with
  | @node t ks e k ih =>
    have := (ar_range t).2
    match ks, e, k, ih with
    | [], e, k, ih => exact h0 t e
    | [a], e, k, ih => exact h1 t a e (k a (by simp)) (ih a (by simp))
    | [a, b], e, k, ih => exact h2 t a b e (k a (by simp)) (k b (by simp)) (ih a (by simp)) (ih b (by simp))
    | _ :: _ :: _ :: _, e, _, _ => simp at e; omega
theorem flat0 (t : Tok) : flat (.node t []) = [t] := by rw [flat, flatL]; rfl
theorem flat1 (t : Tok) (a : Tr Tok) : flat (.node t [a]) = flat a ++ [t] := by rw [flat, flatL_one]
theorem flat2 (t : Tok) (a b : Tr Tok) : flat (.node t [a, b]) = (flat a ++ flat b) ++ [t] := by rw [flat, flatL_two]
theorem WT.pos {x : Tr Tok} (h : WT x) : 1 ≤ (flat x).length := by
  cases h with
  | node h1 h2 => rw [flat]; simp
/-! ### Read by a stack -/
def stp (s : List (Tr Tok)) (t : Tok) : Option (List (Tr Tok)) := if ar t < 0 ∨ (s.length : Int) < ar t then none else some (s.take (s.length - (ar t).toNat) ++ [.node t (s.drop (s.length - (ar t).toNat))])
def run : List (Tr Tok) → List Tok → Option (List (Tr Tok))
  | s, [] => some s
  | s, t :: l => (stp s t).bind fun s' => run s' l
theorem run_app : ∀ (a : List Tok) {b : List Tok} {s : List (Tr Tok)}, run s (a ++ b) = (run s a).bind fun s' => run s' b
  | [], b, s => rfl
  | t :: a, b, s => by
    rw [List.cons_append, run, run]
    cases stp s t with
    | none => rfl
    | some s' => exact run_app a
theorem run_snoc {a : List Tok} {t : Tok} {s : List (Tr Tok)} : run s (a ++ [t]) = (run s a).bind fun s' => stp s' t := by
  rw [run_app]
  congr 1
  funext s'
  rw [run]
  cases stp s' t <;> rfl
theorem run_ok : ∀ {l : List Tok} {s s' : List (Tr Tok)}, run s l = some s' → (∀ k, k ∈ s → WT k) → (∀ k, k ∈ s' → WT k) ∧ flatL s' = flatL s ++ l
  | [], s, s', h, hs => by
    obtain rfl := Option.some.inj h
    exact ⟨hs, by simp⟩
  | t :: l, s, s', h, hs => by
    rw [run] at h
    unfold stp at h
    by_cases c : ar t < 0 ∨ (s.length : Int) < ar t
    · rw [if_pos c] at h; cases h
    · rw [if_neg c] at h
      have hlen : (s.drop (s.length - (ar t).toNat)).length = (ar t).toNat := by rw [List.length_drop]; omega
      obtain ⟨k1, k2⟩ := run_ok (show run _ l = some s' from h) fun k hk => by
        rcases List.mem_append.1 hk with hk | hk
        · exact hs k (List.mem_of_mem_take hk)
        · obtain rfl := List.mem_singleton.1 hk
          exact .node (by rw [hlen]; omega) fun k hk => hs k (List.mem_of_mem_drop hk)
      refine ⟨k1, ?_⟩
      rw [k2, flatL_app, flatL_one, flat, ← List.append_assoc, ← flatL_app, List.take_append_drop]
      simp
theorem run_flat {x : Tr Tok} (h : WT x) : ∀ s, run s (flat x) = some (s ++ [x]) := by
  refine WT.ind (p := fun x => ∀ s, run s (flat x) = some (s ++ [x])) ?_ ?_ ?_ h
  · intro t e s
    rw [flat0, run, stp, if_neg (by omega), e]
    simp [run]
  · intro t a e _ ia s
    rw [flat1, run_snoc, ia]
    show stp (s ++ [a]) t = _
    rw [stp, if_neg (by simp; omega), e]
    simp
  · intro t a b e _ _ ia ib s
    rw [flat2, run_snoc, run_app, ia]
    show ((run (s ++ [a]) (flat b)).bind fun s' => stp s' t) = _
    rw [ib]
    show stp (s ++ [a] ++ [b]) t = _
    rw [stp, if_neg (by simp; omega), e]
    have : (s ++ [a] ++ [b]).length - (2 : Int).toNat = s.length := by simp
    rw [this]
    simp
/-- is it an expression -/
def isX (e : List Tok) : Bool := match run [] e with
  | some [_] => true
  | _ => false
theorem isX_ok {e : List Tok} (h : isX e = true) : ∃ x, run [] e = some [x] ∧ WT x ∧ flat x = e := by
  unfold isX at h
  split at h
  · rename_i x hx
    obtain ⟨k1, k2⟩ := run_ok hx (fun k hk => by cases hk)
    refine ⟨x, hx, k1 x (by simp), ?_⟩
    rw [flatL_one] at k2
    rw [k2]; rfl
  · cases h
theorem isX_flat {x : Tr Tok} (h : WT x) : isX (flat x) = true := by unfold isX; rw [run_flat h]; rfl
theorem run_len {l : List Tok} : ∀ {s s' : List (Tr Tok)}, run s l = some s' → s'.length ≤ s.length + l.length := by
  induction l with
  | nil => intro s s' h; obtain rfl := Option.some.inj h; simp
  | cons t l ih =>
    intro s s' h
    rw [run] at h
    obtain ⟨s1, h1, h2⟩ := Option.bind_eq_some_iff.1 h
    have h3 := ih h2
    unfold stp at h1
    split at h1
    · cases h1
    · obtain rfl := Option.some.inj h1
      simp only [List.length_append, List.length_take, List.length_cons, List.length_nil] at h3 ⊢
      omega
theorem take_snoc {e : List Tok} {i : Nat} (h : i < e.length) : e.take (i + 1) = e.take i ++ [nth e (i : Int)] := by
  rw [List.take_succ_eq_append_getElem h, nth_nat h]
theorem run_stop {e : List Tok} {i : Nat} (h : i < e.length) {st : List (Tr Tok)} (h1 : run [] (e.take i) = some st) (h2 : stp st (nth e (i : Int)) = none) : run [] e = none := by
  have : run [] (e.take (i + 1)) = none := by rw [take_snoc h, run_snoc, h1]; exact h2
  rw [← List.take_append_drop (i + 1) e, run_app, this]; rfl
theorem s_isExpr {e : List Tok} (he : e.length ≤ 1048576) : m_s_IsExpr e = some (isX e) := by
  obtain ⟨o, eo, hq⟩ := loopM_go (f := m_s_IsExpr_l0 e) (fun i s => ∃ st, s = ((st.length : Int), (i : Int)) ∧ run [] (e.take i) = some st) (fun o => (o = .ret false ∧ run [] e = none) ∨ ∃ st, o = .brk ((st.length : Int), (e.length : Int)) ∧ run [] e = some st) e.length (s := (0, 0)) (by
    rintro i s hi ⟨st, rfl, hst⟩
    have hl := run_len hst
    simp only [List.length_nil, List.length_take] at hl
    unfold m_s_IsExpr_l0
    simp only [peta]
    by_cases c : i < e.length
    · rw [if_pos (by simp; omega), getI_nth (by omega) (by omega)]; simp only [Option.bind_some]
      rw [s_ar]; simp only [Option.bind_some]
      have hr := ar_range (nth e (i : Int))
      by_cases c1 : ar (nth e (i : Int)) < 0
      · refine .inr ⟨_, by rw [if_pos (by simpa using c1)], (fun s' e => by cases e), .inl ⟨rfl, run_stop c hst ?_⟩⟩
        rw [stp, if_pos (.inl c1)]
      · rw [if_neg (by simpa using c1)]
        by_cases c2 : ar (nth e (i : Int)) > (st.length : Int)
        · refine .inr ⟨_, by rw [if_pos (by simpa using c2)], (fun s' e => by cases e), .inl ⟨rfl, run_stop c hst ?_⟩⟩
          rw [stp, if_pos (.inr c2)]
        · rw [if_neg (by simpa using c2)]
          refine .inl ⟨c, _, rfl, st.take (st.length - (ar (nth e (i : Int))).toNat) ++ [.node (nth e (i : Int)) (st.drop (st.length - (ar (nth e (i : Int))).toNat))], ?_, ?_⟩
          · rw [wrapI (n := (st.length : Int) - ar (nth e (i : Int))) (by omega) (by omega), wrapI (by omega) (by omega), wrap_succ (by omega)]
            congr 1
            simp only [List.length_append, List.length_take, List.length_cons, List.length_nil]
            omega
          · rw [take_snoc c, run_snoc, hst]
            show stp st _ = _
            rw [stp, if_neg (by omega)]
    · obtain rfl : i = e.length := by omega
      rw [List.take_of_length_le (by omega)] at hst
      exact .inr ⟨_, by rw [if_neg (by simp)], (fun s' e => by cases e), .inr ⟨st, rfl, hst⟩⟩) ⟨[], rfl, rfl⟩ (up63 (by omega))
  unfold m_s_IsExpr
  rcases hq with ⟨rfl, h⟩ | ⟨st, rfl, h⟩
  · rw [bindL_ret eo]; unfold isX; rw [h]
  · rw [bindL_brk eo]; unfold isX; rw [h]
    match st with
    | [] => rfl
    | [_] => rfl
    | _ :: _ :: _ => simp; omega
theorem ar_if {t : Tok} (h : 0 ≤ ar t) : (Option.bind ((if t.1 == 4 then (some (t.1 == 4)) else (some (t.1 == 5)) : Option Bool)) (fun s3 => if s3 then (some 2) else (Option.bind ((if t.1 == 6 then (some (t.1 == 6)) else (some (t.1 == 7)) : Option Bool)) (fun s4 => if s4 then (some 1) else (some 0)))) : Option Int) = some (ar t) := by
  rcases ar_kind h with ⟨e, k | k⟩ | ⟨e, k | k⟩ | ⟨e, k | k | k⟩ <;> rw [e] <;> simp [k]
theorem kind_if (t : Tok) : ∃ n : Int, (Option.bind ((if t.1 == 4 then (some (t.1 == 4)) else (some (t.1 == 5)) : Option Bool)) (fun s3 => if s3 then (some 2) else (Option.bind ((if t.1 == 6 then (some (t.1 == 6)) else (some (t.1 == 7)) : Option Bool)) (fun s4 => if s4 then (some 1) else (some 0)))) : Option Int) = some n := by
  by_cases h4 : t.1 = 4
  · exact ⟨2, by simp [h4]⟩
  by_cases h5 : t.1 = 5
  · exact ⟨2, by simp [h5]⟩
  by_cases h6 : t.1 = 6
  · exact ⟨1, by simp [h6]⟩
  by_cases h7 : t.1 = 7
  · exact ⟨1, by simp [h7]⟩
  exact ⟨0, by simp [h4, h5, h6, h7]⟩
/-- the tree, nil for none -/
def treeX (e : List Tok) : Tr Tok := match run [] e with
  | some [x] => x
  | _ => .nil
theorem i_treeOf {e : List Tok} (he : e.length ≤ 1048576) : m_i_treeOf e = some (treeX e) := by
  obtain ⟨o, eo, hq⟩ := loopM_go (f := m_i_treeOf_l0 e) (fun i s => ∃ st, s = (st, (i : Int)) ∧ run [] (e.take i) = some st) (fun o => (o = .ret Tr.nil ∧ run [] e = none) ∨ ∃ st, o = .brk (st, (e.length : Int)) ∧ run [] e = some st) e.length (s := ([], 0)) (by
    rintro i s hi ⟨st, rfl, hst⟩
    have hl := run_len hst
    simp only [List.length_nil, List.length_take] at hl
    unfold m_i_treeOf_l0
    simp only [peta]
    by_cases c : i < e.length
    · rw [if_pos (by simp; omega), getI_nth (by omega) (by omega)]; simp only [Option.bind_some]
      have hr := ar_range (nth e (i : Int))
      by_cases c1 : ar (nth e (i : Int)) < 0
      · obtain ⟨n, hn⟩ := kind_if (nth e (i : Int))
        rw [hn]; simp only [Option.bind_some]
        rw [i_tok]; simp only [Option.bind_some]
        refine .inr ⟨_, by rw [if_neg (by simp; omega)], (fun s' e => by cases e), .inl ⟨rfl, run_stop c hst ?_⟩⟩
        rw [stp, if_pos (.inl c1)]
      · rw [ar_if (by omega)]; simp only [Option.bind_some]
        rw [i_tok]; simp only [Option.bind_some]
        rw [if_pos (by simp; omega), wrapI (n := (st.length : Int) - ar (nth e (i : Int))) (by omega) (by omega)]
        by_cases c2 : ar (nth e (i : Int)) > (st.length : Int)
        · refine .inr ⟨_, by rw [if_pos (by simp; omega)], (fun s' e => by cases e), .inl ⟨rfl, run_stop c hst ?_⟩⟩
          rw [stp, if_pos (.inr c2)]
        · rw [if_neg (by simp; omega), show ∀ p : Prop, ∀ [Decidable p], p → chk p = some () from fun p _ hp => by unfold chk; rw [if_pos hp]]
          · simp only [Option.bind_some]
            have e1 : ((st.length : Int) - ar (nth e (i : Int))).toNat = st.length - (ar (nth e (i : Int))).toNat := by omega
            rw [e1, appI_ok (by simp; omega)]; simp only [Option.bind_some]
            rw [appI_ok (by simp; omega)]; simp only [Option.bind_some, List.nil_append, wrap_succ (show i < 9223372036854775807 by omega)]
            refine .inl ⟨c, _, rfl, _, rfl, ?_⟩
            rw [take_snoc c, run_snoc, hst]
            show stp st _ = _
            rw [stp, if_neg (by omega)]
          · omega
    · obtain rfl : i = e.length := by omega
      rw [List.take_of_length_le (by omega)] at hst
      exact .inr ⟨_, by rw [if_neg (by simp)], (fun s' e => by cases e), .inr ⟨st, rfl, hst⟩⟩) ⟨[], rfl, rfl⟩ (up63 (by omega))
  unfold m_i_treeOf
  rcases hq with ⟨rfl, h⟩ | ⟨st, rfl, h⟩
  · rw [bindL_ret eo]; unfold treeX; rw [h]
  · rw [bindL_brk eo]; unfold treeX; rw [h]
    match st with
    | [] => rfl
    | [x] => rfl
    | _ :: _ :: _ =>
      simp only
      rw [if_pos (by simp; omega)]
theorem treeX_flat {x : Tr Tok} (h : WT x) : treeX (flat x) = x := by unfold treeX; rw [run_flat h]; rfl
theorem i_isExpr {e : List Tok} (he : e.length ≤ 1048576) : m_i_IsExpr e = some (isX e) := by
  unfold m_i_IsExpr
  rw [i_treeOf he]; simp only [Option.bind_some]
  congr 1
  by_cases h : isX e = true
  · rw [h]
    obtain ⟨x, h1, h2, h3⟩ := isX_ok h
    have : treeX e = x := by unfold treeX; rw [h1]
    rw [this]
    cases h2 with
    | node _ _ => rfl
  · have : treeX e = .nil := by
      unfold treeX
      unfold isX at h
      split
      · rename_i x hx; rw [hx] at h; exact absurd rfl h
      · rfl
    rw [this, Bool.eq_false_iff.2 h]; rfl
theorem s_validExpr {e : List Tok} (he : e.length ≤ 1048576) : m_s_IsValidExpr e = some (decide (e.length ≤ 24) && isX e) := by
  unfold m_s_IsValidExpr
  rw [s_isExpr he]
  by_cases c : e.length ≤ 24
  · rw [if_pos (by simp; omega)]; simp [c]
  · rw [if_neg (by simp; omega)]; simp [c]
theorem i_validExpr {e : List Tok} (he : e.length ≤ 1048576) : m_i_IsValidExpr e = some (decide (e.length ≤ 24) && isX e) := by
  unfold m_i_IsValidExpr
  rw [i_isExpr he]
  by_cases c : e.length ≤ 24
  · rw [if_pos (by simp; omega)]; simp [c]
  · rw [if_neg (by simp; omega)]; simp [c]
/-! ### Where an operand starts -/
theorem chk_of {p : Prop} [Decidable p] (h : p) : chk p = some () := by unfold chk; rw [if_pos h]
theorem s_start {A : List Tok} {x : Tr Tok} (hx : WT x) (hl : (A ++ flat x).length ≤ 1000000) : m_s_l8Start (A ++ flat x) = some (A.length : Int) := by
  obtain ⟨s', e, ks, q1, q2, q3⟩ : ∃ s', loopM (m_s_l8Start_l0 (A ++ flat x)) FUEL (1, ((A ++ flat x).length : Int)) = some (.brk s') ∧ ∃ ks : List (Tr Tok), ks = [] ∧ s'.2 = (A.length : Int) ∧ True := by
    obtain ⟨o, eo, hq⟩ := loopM_go (f := m_s_l8Start_l0 (A ++ flat x)) (fun i s => ∃ ks : List (Tr Tok), (∀ k, k ∈ ks → WT k) ∧ s = ((ks.length : Int), (((A ++ flatL ks).length : Nat) : Int)) ∧ i + (flatL ks).length = (flat x).length ∧ (A ++ flat x).take (A ++ flatL ks).length = A ++ flatL ks) (fun o => ∃ s', o = .brk s' ∧ s'.2 = (A.length : Int)) (flat x).length (s := (1, ((A ++ flat x).length : Int))) (by
      rintro i s hi ⟨ks, hw, rfl, hlen, htk⟩
      unfold m_s_l8Start_l0
      simp only [peta]
      rcases List.eq_nil_or_concat ks with rfl | ⟨ks', y, rfl⟩
      · refine .inr ⟨_, by rw [if_neg (by simp)], (fun s' e => by cases e), _, rfl, ?_⟩
        simp [flatL]
      · have hy := hw y (by simp)
        cases hy with
        | @node t cs h1 h2 =>
          have hfl : flatL (ks' ++ [.node t cs]) = flatL (ks' ++ cs) ++ [t] := by rw [flatL_app, flatL_one, flat, flatL_app, List.append_assoc]
          rw [List.concat_eq_append, hfl] at hlen htk ⊢
          simp only [List.length_append, List.length_cons, List.length_nil] at hlen htk hl ⊢
          rw [if_pos (by simp <;> omega)]
          have hpos : IntKind.i64.wrap (((A.length + ((flatL (ks' ++ cs)).length + 1) : Nat) : Int) - 1) = ((A.length + (flatL (ks' ++ cs)).length : Nat) : Int) := by
            rw [wrapI (by omega) (by omega)]; omega
          have hget : nth (A ++ flat x) ((A.length + (flatL (ks' ++ cs)).length : Nat) : Int) = t := by
            have hlt : A.length + (flatL (ks' ++ cs)).length < (A ++ flat x).length := by rw [List.length_append]; omega
            have e1 := congrArg (fun l : List Tok => l[A.length + (flatL (ks' ++ cs)).length]?) htk
            rw [List.getElem?_take_of_lt (by omega), List.getElem?_eq_getElem hlt, ← List.append_assoc, List.getElem?_append_right (by rw [List.length_append]; omega), List.length_append] at e1
            rw [nth_nat hlt]
            simpa using e1
          rw [hpos, getI_nth (by omega) (by simp only [List.length_append]; omega), hget]; simp only [Option.bind_some]
          rw [s_ar, h1]; simp only [Option.bind_some]
          have hcl : (cs.length : Int) ≤ 2 := by rw [← h1]; exact (ar_range t).2
          have hkl : ks'.length ≤ (flatL (ks' ++ cs)).length + 1000000 := by
            have : ∀ l : List (Tr Tok), (∀ k, k ∈ l → WT k) → l.length ≤ (flatL l).length := by
              intro l
              induction l with
              | nil => intro _; simp
              | cons k l ih =>
                intro h
                have h1 := (h k (by simp)).pos
                have h2 := ih fun k hk => h k (by simp [hk])
                rw [flatL]; simp only [List.length_cons, List.length_append]; omega
            have := this ks' fun k hk => hw k (by simp [hk])
            rw [flatL_app, List.length_append]; omega
          refine .inl ⟨by omega, _, rfl, ks' ++ cs, fun k hk => ?_, ?_, by omega, ?_⟩
          · rcases List.mem_append.1 hk with hk | hk
            · exact hw k (by simp [hk])
            · exact h2 k hk
          · rw [wrapI (n := ((ks'.length + 1 : Nat) : Int) - 1) (by omega) (by omega), wrapI (by omega) (by omega)]
            congr 1
            (simp only [List.length_append]) <;> omega
          · have e1 := congrArg (List.take (A ++ flatL (ks' ++ cs)).length) htk
            rw [List.take_take, Nat.min_eq_left (by rw [List.length_append]; omega), ← List.append_assoc, List.take_left] at e1
            rw [List.length_append] at e1
            exact e1) ⟨[x], fun k hk => by (obtain rfl := List.mem_singleton.1 hk; exact hx), by rw [flatL_one]; rfl, by rw [flatL_one]; omega, by rw [flatL_one, List.take_length]⟩ (up63 (by rw [List.length_append] at hl; omega))
    obtain ⟨s', rfl, h2⟩ := hq
    exact ⟨s', eo, [], rfl, h2, trivial⟩
  unfold m_s_l8Start
  rw [bindL_brk e, q2]
end Go.Proofs.YtimjccbdngajoaaGreat.D
/- Expressions: sizes, repetitions written out. By the reference and by the program. -/
set_option linter.unusedVariables false
set_option linter.unusedSimpArgs false
set_option linter.unnecessarySimpa false
set_option linter.unusedSectionVars false
namespace Go.Proofs.YtimjccbdngajoaaGreat.D
open Go.RowKit

instance trInh {α : Type} : Inhabited (Tr α) := ⟨.nil⟩
/-! ### Sizes -/
def szX : Tr Tok → Int
  | .nil => 0
  | .node t ks => min (szL t 1 ks) 100000
where szL (t : Tok) (acc : Int) : List (Tr Tok) → Int
  | [] => acc
  | k :: ks => szL t (acc + (if t.1 = 7 then (szX k + 3) * t.2.2.2 else szX k)) ks
theorem szX_range {x : Tr Tok} (h : WT x) : 1 ≤ szX x ∧ szX x ≤ 100000 := by
  refine WT.ind (p := fun x => 1 ≤ szX x ∧ szX x ≤ 100000) ?_ ?_ ?_ h
  · intro t _
    show 1 ≤ min (1 : Int) 100000 ∧ min (1 : Int) 100000 ≤ 100000
    omega
  · intro t a e _ ih
    show 1 ≤ min ((1 : Int) + (if t.1 = 7 then (szX a + 3) * t.2.2.2 else szX a)) 100000 ∧ min ((1 : Int) + (if t.1 = 7 then (szX a + 3) * t.2.2.2 else szX a)) 100000 ≤ 100000
    split
    · rename_i k
      have hr := ar_rep (show 0 ≤ ar t by omega) k
      have : 0 ≤ (szX a + 3) * t.2.2.2 := Int.mul_nonneg (by omega) (by omega)
      omega
    · omega
  · intro t a b e _ _ iha ihb
    have k : t.1 ≠ 7 := by
      rcases ar_kind (show 0 ≤ ar t by omega) with ⟨_, k⟩ | ⟨k, _⟩ | ⟨k, _⟩ <;> omega
    show 1 ≤ min ((1 : Int) + (if t.1 = 7 then (szX a + 3) * t.2.2.2 else szX a) + (if t.1 = 7 then (szX b + 3) * t.2.2.2 else szX b)) 100000 ∧ min ((1 : Int) + (if t.1 = 7 then (szX a + 3) * t.2.2.2 else szX a) + (if t.1 = 7 then (szX b + 3) * t.2.2.2 else szX b)) 100000 ≤ 100000
    rw [if_neg k, if_neg k]
    omega
theorem wrap_mul3 {a h : Int} (h1 : 1 ≤ a ∧ a ≤ 100000) (h2 : 1 ≤ h ∧ h ≤ 3) : IntKind.i64.wrap ((IntKind.i64.wrap (a + 3)) * h) = (a + 3) * h := by
  rw [wrapI (n := a + 3) (by omega) (by omega)]
  have k1 : 0 ≤ (a + 3) * h := Int.mul_nonneg (by omega) (by omega)
  have k2 : (a + 3) * h ≤ 100003 * 3 := Int.mul_le_mul (by omega) (by omega) (by omega) (by omega)
  exact wrapI (by omega) (by omega)
theorem mul3_le {a h : Int} (h1 : 1 ≤ a ∧ a ≤ 100000) (h2 : 1 ≤ h ∧ h ≤ 3) : 0 ≤ (a + 3) * h ∧ (a + 3) * h ≤ 300009 := by
  have k1 : 0 ≤ (a + 3) * h := Int.mul_nonneg (by omega) (by omega)
  have k2 : (a + 3) * h ≤ 100003 * 3 := Int.mul_le_mul (by omega) (by omega) (by omega) (by omega)
  omega
theorem tr_get {t : Tok} {ks : List (Tr Tok)} : Tr.get (.node t ks) = some (t, ks) := rfl
/-- one round of the sum -/
theorem bound_step {f : Tr Tok → Option Int} {t : Tok} {ks : List (Tr Tok)} {i : Nat} {acc : Int} (hi : i < ks.length) (hf : f (nth ks (i : Int)) = some (szX (nth ks (i : Int)))) (hw : WT (nth ks (i : Int))) (ht : 0 ≤ ar t) (ha : 0 ≤ acc ∧ acc ≤ 1000000) (hik : i ≤ 1000000) :
    m_i_tree_bound_l0 f (.node t ks) (t, ks) (acc, (i : Int)) = some (.nxt (acc + (if t.1 = 7 then (szX (nth ks (i : Int)) + 3) * t.2.2.2 else szX (nth ks (i : Int))), ((i + 1 : Nat) : Int))) := by
  unfold m_i_tree_bound_l0
  simp only [tr_get]
  have hr := szX_range hw
  rw [if_pos (by simp <;> omega), getI_nth (by omega) (by omega)]; simp only [Option.bind_some]
  by_cases k : t.1 = 7
  · have h7 := ar_rep ht k
    have hm := mul3_le hr h7.2
    rw [if_pos (by simpa using k), if_pos k, hf]; simp only [Option.bind_some]
    rw [wrap_mul3 hr h7.2, wrapI (by omega) (by omega), wrap_succ (by omega)]
  · rw [if_neg (by simpa using k), if_neg k, hf]; simp only [Option.bind_some]
    rw [wrapI (by omega) (by omega), wrap_succ (by omega)]
theorem nth_zero {α : Type} [Inhabited α] {a : α} {l : List α} : nth (a :: l) ((0 : Nat) : Int) = a := rfl
theorem nth_one {α : Type} [Inhabited α] {a b : α} {l : List α} : nth (a :: b :: l) ((1 : Nat) : Int) = b := rfl
theorem i_bound {x : Tr Tok} (h : WT x) : ∀ n, (flat x).length ≤ n → m_i_tree_bound n x = some (szX x) := by
  refine WT.ind (p := fun x => ∀ n, (flat x).length ≤ n → m_i_tree_bound n x = some (szX x)) ?_ ?_ ?_ h
  · intro t e n hn
    rw [flat0] at hn
    match n, hn with
    | n + 1, _ =>
      rw [m_i_tree_bound]; simp only [tr_get, Option.bind_some]
      have hL : loopM (m_i_tree_bound_l0 (m_i_tree_bound n) (.node t []) (t, [])) FUEL (1, 0) = some (.brk (1, 0)) := loopM_at (f := m_i_tree_bound_l0 (m_i_tree_bound n) (.node t []) (t, [])) (fun i => (1, (i : Int))) 0 (fun i hi => by omega) (by unfold m_i_tree_bound_l0; simp) (by unfold FUEL; omega)
      rw [bindL_brk hL]
      all_goals rfl
  · intro t a e wa ih n hn
    rw [flat1, List.length_append] at hn
    match n, hn with
    | n + 1, hn =>
      have hr := szX_range wa
      rw [m_i_tree_bound]; simp only [tr_get, Option.bind_some]
      have hL : loopM (m_i_tree_bound_l0 (m_i_tree_bound n) (.node t [a]) (t, [a])) FUEL (1, 0) = some (.brk (szX.szL t 1 [a], 1)) := loopM_at (f := m_i_tree_bound_l0 (m_i_tree_bound n) (.node t [a]) (t, [a])) (fun i => (szX.szL t 1 ([a].take i), (i : Int))) 1 (fun i hi => by
        obtain rfl : i = 0 := by omega
        exact bound_step (acc := 1) (i := 0) (by simp) (ih n (by simp at hn; omega)) wa (by omega) (by omega) (by omega)) (by unfold m_i_tree_bound_l0; simp) (by unfold FUEL; omega)
      rw [bindL_brk hL]
      all_goals rfl
  · intro t a b e wa wb iha ihb n hn
    rw [flat2, List.length_append, List.length_append] at hn
    match n, hn with
    | n + 1, hn =>
      have hra := szX_range wa
      have hrb := szX_range wb
      have k : t.1 ≠ 7 := by
        rcases ar_kind (show 0 ≤ ar t by omega) with ⟨_, k⟩ | ⟨k, _⟩ | ⟨k, _⟩ <;> omega
      rw [m_i_tree_bound]; simp only [tr_get, Option.bind_some]
      have hL : loopM (m_i_tree_bound_l0 (m_i_tree_bound n) (.node t [a, b]) (t, [a, b])) FUEL (1, 0) = some (.brk (szX.szL t 1 [a, b], 2)) := loopM_at (f := m_i_tree_bound_l0 (m_i_tree_bound n) (.node t [a, b]) (t, [a, b])) (fun i => (szX.szL t 1 ([a, b].take i), (i : Int))) 2 (fun i hi => by
        have : i = 0 ∨ i = 1 := by omega
        rcases this with rfl | rfl
        · exact bound_step (acc := 1) (i := 0) (by simp) (iha n (by simp at hn; omega)) wa (by omega) (by omega) (by omega)
        · exact bound_step (acc := 1 + (if t.1 = 7 then (szX a + 3) * t.2.2.2 else szX a)) (i := 1) (by simp) (ihb n (by simp at hn; omega)) wb (by omega) (by rw [if_neg k]; omega) (by omega)) (by unfold m_i_tree_bound_l0; simp) (by unfold FUEL; omega)
      rw [bindL_brk hL]
      all_goals rfl
/-! ### The reference's walk over words -/
theorem last_tok {A : List Tok} {t : Tok} (h : A.length ≤ 1000000) : getI (A ++ [t]) (IntKind.i64.wrap (((A ++ [t]).length : Int) - 1)) = some t ∧ IntKind.i64.wrap (((A ++ [t]).length : Int) - 1) = (A.length : Int) := by
  have e : IntKind.i64.wrap (((A ++ [t]).length : Int) - 1) = (A.length : Int) := by
    rw [wrapI (by simp only [List.length_append, List.length_cons, List.length_nil]; omega) (by simp only [List.length_append, List.length_cons, List.length_nil]; omega)]
    simp only [List.length_append, List.length_cons, List.length_nil]; omega
  refine ⟨?_, e⟩
  rw [e, getI_nth (by omega) (by simp only [List.length_append, List.length_cons, List.length_nil]; omega), nth_nat (by simp)]
  simp
theorem if45 {t : Tok} (h : ar t = 2) : (if t.1 == 4 then (some (t.1 == 4)) else (some (t.1 == 5)) : Option Bool) = some true := by
  rcases ar_kind (show 0 ≤ ar t by omega) with ⟨_, k | k⟩ | ⟨e, _⟩ | ⟨e, _⟩
  · simp [k]
  · simp [k]
  · omega
  · omega
theorem if45n {t : Tok} (h : ar t = 1 ∨ ar t = 0) : (if t.1 == 4 then (some (t.1 == 4)) else (some (t.1 == 5)) : Option Bool) = some false := by
  rcases ar_kind (show 0 ≤ ar t by omega) with ⟨e, k⟩ | ⟨e, k | k⟩ | ⟨e, k | k | k⟩
  · omega
  all_goals simp [k]
theorem kind0 {t : Tok} (h : ar t = 0) : (t.1 == 6) = false ∧ (t.1 == 7) = false := by
  rcases ar_kind (show 0 ≤ ar t by omega) with ⟨e, k⟩ | ⟨e, k | k⟩ | ⟨e, k | k | k⟩
  · omega
  · omega
  · omega
  all_goals simp [k]
theorem kind1 {t : Tok} (h : ar t = 1) : ((t.1 == 6) = true ∧ t.1 = 6) ∨ ((t.1 == 6) = false ∧ (t.1 == 7) = true ∧ t.1 = 7) := by
  rcases ar_kind (show 0 ≤ ar t by omega) with ⟨e, k⟩ | ⟨e, k | k⟩ | ⟨e, k | k | k⟩
  · omega
  · left; simp [k]
  · right; simp [k]
  all_goals omega
/-- the parts of a word with two operands -/
theorem two_parts {a b : Tr Tok} {t : Tok} (wb : WT b) (hl : ((flat a ++ flat b) ++ [t]).length ≤ 1000000) :
    (((flat a ++ flat b) ++ [t]).take ((((flat a ++ flat b).length : Nat) : Int)).toNat) = flat a ++ flat b ∧
    m_s_l8Start (flat a ++ flat b) = some (((flat a).length : Nat) : Int) ∧
    (((flat a ++ flat b) ++ [t]).take ((((flat a).length : Nat) : Int)).toNat) = flat a ∧
    (flat a ++ flat b).drop ((((flat a).length : Nat) : Int)).toNat = flat b := by
  refine ⟨?_, s_start wb (by simp only [List.length_append, List.length_cons, List.length_nil] at hl ⊢; omega), ?_, ?_⟩
  · rw [Int.toNat_natCast, List.take_left]
  · rw [Int.toNat_natCast, List.append_assoc, List.take_left]
  · rw [Int.toNat_natCast, List.drop_left]
theorem s_size {x : Tr Tok} (h : WT x) : ∀ n, (flat x).length ≤ n → (flat x).length ≤ 1000000 → m_s_l10Size n (flat x) = some (szX x) := by
  refine WT.ind (p := fun x => ∀ n, (flat x).length ≤ n → (flat x).length ≤ 1000000 → m_s_l10Size n (flat x) = some (szX x)) ?_ ?_ ?_ h
  · intro t e n hn hl
    rw [flat0] at hn hl ⊢
    match n, hn with
    | n + 1, _ =>
      have hk := kind0 e
      rw [m_s_l10Size]
      have := (last_tok (A := []) (t := t) (by simp)).1
      rw [List.nil_append] at this
      rw [this]; simp only [Option.bind_some]
      rw [if45n (.inr e)]; simp only [Option.bind_some, hk.1, hk.2, Bool.false_eq_true, if_false]
      rfl
  · intro t a e wa ih n hn hl
    rw [flat1] at hn hl ⊢
    simp only [List.length_append, List.length_cons, List.length_nil] at hn hl
    match n, hn with
    | n + 1, hn =>
      have hr := szX_range wa
      rw [m_s_l10Size]
      obtain ⟨l1, l2⟩ := last_tok (A := flat a) (t := t) (by omega)
      rw [l1]; simp only [Option.bind_some]
      rw [if45n (.inl e)]; simp only [Option.bind_some, Bool.false_eq_true, if_false]
      rw [l2, Int.toNat_natCast, List.take_left, chk_of (by simp only [List.length_append, List.length_cons, List.length_nil]; omega)]; simp only [Option.bind_some]
      rw [ih n (by omega) (by omega)]; simp only [Option.bind_some]
      rcases kind1 e with ⟨k1, k2⟩ | ⟨k1, k2, k3⟩
      · rw [if_pos k1, wrapI (by omega) (by omega)]
        show some (min 100000 (szX a + 1)) = some (min ((1 : Int) + (if t.1 = 7 then (szX a + 3) * t.2.2.2 else szX a)) 100000)
        rw [if_neg (by omega)]
        congr 1; omega
      · have h7 := ar_rep (show 0 ≤ ar t by omega) k3
        have hm := mul3_le hr h7.2
        rw [if_neg (by simp [k1]), if_pos k2, wrap_mul3 hr h7.2, wrapI (by omega) (by omega)]
        show some (min 100000 ((szX a + 3) * t.2.2.2 + 1)) = some (min ((1 : Int) + (if t.1 = 7 then (szX a + 3) * t.2.2.2 else szX a)) 100000)
        rw [if_pos k3]
        congr 1; omega
  · intro t a b e wa wb iha ihb n hn hl
    rw [flat2] at hn hl ⊢
    obtain ⟨p1, p2, p3, p4⟩ := two_parts (a := a) (t := t) wb hl
    simp only [List.length_append, List.length_cons, List.length_nil] at hn hl
    match n, hn with
    | n + 1, hn =>
      have hra := szX_range wa
      have hrb := szX_range wb
      have k : t.1 ≠ 7 := by
        rcases ar_kind (show 0 ≤ ar t by omega) with ⟨_, k⟩ | ⟨k, _⟩ | ⟨k, _⟩ <;> omega
      rw [m_s_l10Size]
      obtain ⟨l1, l2⟩ := last_tok (A := flat a ++ flat b) (t := t) (by rw [List.length_append]; omega)
      rw [l1]; simp only [Option.bind_some]
      rw [if45 e]; simp only [Option.bind_some, if_true]
      rw [l2, p1, p2, chk_of (by simp only [List.length_append, List.length_cons, List.length_nil]; omega)]; simp only [Option.bind_some]
      rw [chk_of (by simp only [List.length_append, List.length_cons, List.length_nil]; omega), p3, p4]; simp only [Option.bind_some]
      rw [iha n (by omega) (by omega), chk_of (by simp only [List.length_append, List.length_cons, List.length_nil]; omega)]; simp only [Option.bind_some]
      rw [ihb n (by have := wa.pos; omega) (by omega)]; simp only [Option.bind_some]
      rw [wrapI (n := szX a + szX b) (by omega) (by omega), wrapI (by omega) (by omega)]
      show some (min 100000 (szX a + szX b + 1)) = some (min ((1 : Int) + (if t.1 = 7 then (szX a + 3) * t.2.2.2 else szX a) + (if t.1 = 7 then (szX b + 3) * t.2.2.2 else szX b)) 100000)
      rw [if_neg k, if_neg k]
      congr 1; omega
/-! ### Repetitions written out -/
def leafX : Tr Tok := .node (2, 0, 0, 0) []
def repX (x : Tr Tok) : Nat → Int → Tr Tok
  | 0, _ => leafX
  | h + 1, low => if 0 < low then .node (4, 0, 0, 0) [x, repX x h (max 0 (low - 1))] else .node (5, 0, 0, 0) [.node (4, 0, 0, 0) [x, repX x h (max 0 (low - 1))], leafX]
mutual
def expX : Tr Tok → Tr Tok
  | .nil => .nil
  | .node t ks => if t.1 = 7 then repX ((expL ks).headD .nil) t.2.2.2.toNat t.2.2.1 else .node t (expL ks)
def expL : List (Tr Tok) → List (Tr Tok)
  | [] => []
  | k :: ks => expX k :: expL ks
end
theorem ar4 : ar (4, 0, 0, 0) = 2 := by decide
theorem ar5 : ar (5, 0, 0, 0) = 2 := by decide
theorem ar2 : ar (2, 0, 0, 0) = 0 := by decide
theorem leaf_ok : WT leafX := .node ar2 fun k hk => by cases hk
theorem leaf_flat : flat leafX = [(2, 0, 0, 0)] := flat0 _
theorem WT.two {t : Tok} {a b : Tr Tok} (h : ar t = 2) (ha : WT a) (hb : WT b) : WT (.node t [a, b]) := .node h fun k hk => by
  rcases List.mem_cons.1 hk with rfl | hk
  · exact ha
  · obtain rfl := List.mem_singleton.1 hk
    exact hb
theorem WT.one {t : Tok} {a : Tr Tok} (h : ar t = 1) (ha : WT a) : WT (.node t [a]) := .node h fun k hk => by
  obtain rfl := List.mem_singleton.1 hk
  exact ha
theorem repX_ok {x : Tr Tok} (hx : WT x) : ∀ (h : Nat) (low : Int), WT (repX x h low)
  | 0, _ => leaf_ok
  | h + 1, low => by
    rw [repX]
    split
    · exact .two ar4 hx (repX_ok hx h _)
    · exact .two ar5 (.two ar4 hx (repX_ok hx h _)) leaf_ok
theorem repX_len (x : Tr Tok) : ∀ (h : Nat) (low : Int), (flat (repX x h low)).length ≤ ((flat x).length + 3) * h + 1
  | 0, _ => by rw [repX, leaf_flat]; simp
  | h + 1, low => by
    have ih := repX_len x h (max 0 (low - 1))
    rw [repX]
    split
    · rw [flat2]; simp only [List.length_append, List.length_cons, List.length_nil]
      rw [Nat.mul_succ]; omega
    · rw [flat2, flat2, leaf_flat]; simp only [List.length_append, List.length_cons, List.length_nil]
      rw [Nat.mul_succ]; omega
theorem exp1 {t : Tok} {a : Tr Tok} : expX (.node t [a]) = if t.1 = 7 then repX (expX a) t.2.2.2.toNat t.2.2.1 else .node t [expX a] := by rw [expX, expL, expL]; rfl
theorem exp2 {t : Tok} {a b : Tr Tok} (h : t.1 ≠ 7) : expX (.node t [a, b]) = .node t [expX a, expX b] := by rw [expX, if_neg h, expL, expL, expL]
theorem exp0 {t : Tok} (h : t.1 ≠ 7) : expX (.node t []) = .node t [] := by rw [expX, if_neg h, expL]
theorem no7 {t : Tok} (h : ar t = 2 ∨ ar t = 0) : t.1 ≠ 7 := by
  rcases ar_kind (show 0 ≤ ar t by omega) with ⟨_, k⟩ | ⟨k, _⟩ | ⟨_, k⟩ <;> omega
theorem exp_ok {x : Tr Tok} (h : WT x) : WT (expX x) := by
  refine WT.ind (p := fun x => WT (expX x)) ?_ ?_ ?_ h
  · intro t e
    rw [exp0 (no7 (.inr e))]
    exact .node e fun k hk => by cases hk
  · intro t a e _ ih
    rw [exp1]
    split
    · exact repX_ok ih _ _
    · exact .one e ih
  · intro t a b e _ _ iha ihb
    rw [exp2 (no7 (.inl e))]
    exact .two e iha ihb
theorem exp_len {x : Tr Tok} (h : WT x) : szX x < 100000 → ((flat (expX x)).length : Int) ≤ szX x := by
  refine WT.ind (p := fun x => szX x < 100000 → ((flat (expX x)).length : Int) ≤ szX x) ?_ ?_ ?_ h
  · intro t e _
    rw [exp0 (no7 (.inr e)), flat0]
    show (1 : Int) ≤ min 1 100000
    omega
  · intro t a e wa ih hs
    have hr := szX_range wa
    have hs' : min ((1 : Int) + (if t.1 = 7 then (szX a + 3) * t.2.2.2 else szX a)) 100000 < 100000 := hs
    show _ ≤ min ((1 : Int) + (if t.1 = 7 then (szX a + 3) * t.2.2.2 else szX a)) 100000
    rw [exp1]
    by_cases k : t.1 = 7
    · rw [if_pos k] at hs' ⊢
      rw [if_pos k]
      have h7 := ar_rep (show 0 ≤ ar t by omega) k
      have hge : szX a + 3 ≤ (szX a + 3) * t.2.2.2 := by
        have := Int.mul_le_mul_of_nonneg_left (c := szX a + 3) h7.2.1 (by omega)
        omega
      have h1 := ih (by omega)
      have h2 := repX_len (expX a) t.2.2.2.toNat t.2.2.1
      have h3 : (((flat (expX a)).length + 3) * t.2.2.2.toNat : Int) ≤ (szX a + 3) * t.2.2.2 := by
        rw [Int.toNat_of_nonneg (by omega)]
        exact Int.mul_le_mul_of_nonneg_right (by omega) (by omega)
      have h4 : ((flat (repX (expX a) t.2.2.2.toNat t.2.2.1)).length : Int) ≤ (((flat (expX a)).length + 3) * t.2.2.2.toNat : Int) + 1 := by exact_mod_cast h2
      omega
    · rw [if_neg k] at hs' ⊢
      rw [if_neg k, flat1]
      have h1 := ih (by omega)
      simp only [List.length_append, List.length_cons, List.length_nil]
      omega
  · intro t a b e wa wb iha ihb hs
    have hra := szX_range wa
    have hrb := szX_range wb
    have k := no7 (.inl e)
    have hs' : min ((1 : Int) + (if t.1 = 7 then (szX a + 3) * t.2.2.2 else szX a) + (if t.1 = 7 then (szX b + 3) * t.2.2.2 else szX b)) 100000 < 100000 := hs
    show _ ≤ min ((1 : Int) + (if t.1 = 7 then (szX a + 3) * t.2.2.2 else szX a) + (if t.1 = 7 then (szX b + 3) * t.2.2.2 else szX b)) 100000
    rw [if_neg k, if_neg k] at hs' ⊢
    rw [exp2 k, flat2]
    have h1 := iha (by omega)
    have h2 := ihb (by omega)
    simp only [List.length_append, List.length_cons, List.length_nil]
    omega
theorem i_repeated {x : Tr Tok} : ∀ (h n : Nat) (low : Int), h < n → h ≤ 3 → 0 ≤ low → low ≤ 3 → m_i_repeated n x low (h : Int) = some (repX x h low)
  | 0, n + 1, low, _, _, _, _ => by
    rw [m_i_repeated, if_pos (by rfl)]; rfl
  | h + 1, n + 1, low, h1, h2, h3, h4 => by
    rw [m_i_repeated, if_neg (by simp; omega), wrapI (n := low - 1) (by omega) (by omega), wrapI (n := ((h + 1 : Nat) : Int) - 1) (by omega) (by omega)]
    rw [show ((h + 1 : Nat) : Int) - 1 = (h : Int) from by omega, i_repeated h n (max 0 (low - 1)) (by omega) (by omega) (by omega) (by omega)]; simp only [Option.bind_some]
    rw [repX]
    by_cases c : 0 < low
    · rw [if_pos (by simpa using c), if_pos c]
    · rw [if_neg (by simpa using c), if_neg c]; rfl
theorem s_join {a b : List Tok} {t : Tok} (h : a.length + b.length ≤ 1000000) : m_s_l8Join a b t = some ((a ++ b) ++ [t]) := by
  unfold m_s_l8Join m_s_l8Copy
  rw [appI_ok (by simp only [List.length_append, List.length_cons, List.length_nil]; omega)]; simp only [Option.bind_some, List.nil_append]
  rw [appI_ok (by omega)]; simp only [Option.bind_some]
  rw [appI_ok (by simp only [List.length_append, List.length_cons, List.length_nil]; omega)]; rfl
theorem s_times {x : Tr Tok} : ∀ (h n : Nat) (low : Int), h < n → h ≤ 3 → 0 ≤ low → low ≤ 3 → (flat x).length ≤ 100000 → m_s_l10Times n (flat x) low (h : Int) = some (flat (repX x h low))
  | 0, n + 1, low, _, _, _, _, _ => by
    rw [m_s_l10Times, if_pos (by rfl), repX, leaf_flat]; rfl
  | h + 1, n + 1, low, h1, h2, h3, h4, h5 => by
    rw [m_s_l10Times, if_neg (by simp; omega), wrapI (n := low - 1) (by omega) (by omega), wrapI (n := ((h + 1 : Nat) : Int) - 1) (by omega) (by omega)]
    rw [show ((h + 1 : Nat) : Int) - 1 = (h : Int) from by omega, s_times h n (max 0 (low - 1)) (by omega) (by omega) (by omega) (by omega) h5]; simp only [Option.bind_some]
    have hl := repX_len x h (max 0 (low - 1))
    have hl3 : ((flat x).length + 3) * h ≤ 100003 * 3 := Nat.mul_le_mul (by omega) (by omega)
    rw [s_join (by omega), repX]; simp only [Option.bind_some]
    by_cases c : 0 < low
    · rw [if_pos (by simpa using c), if_pos c, flat2]
    · rw [if_neg (by simpa using c), if_neg c, flat2, flat2, leaf_flat]
      show (m_s_l8Leaf 2).bind _ = _
      unfold m_s_l8Leaf; simp only [Option.bind_some]
      rw [s_join (by simp only [List.length_append, List.length_cons, List.length_nil]; omega)]; rfl
theorem FUELR_big : 1000000000000 ≤ FUELR := by rw [FUELR_eq]; unfold FUEL; omega
theorem i_expand {x : Tr Tok} (h : WT x) : ∀ n, (flat x).length ≤ n → m_i_tree_expand n x = some (expX x) := by
  have hF := FUELR_big
  refine WT.ind (p := fun x => ∀ n, (flat x).length ≤ n → m_i_tree_expand n x = some (expX x)) ?_ ?_ ?_ h
  · intro t e n hn
    rw [flat0] at hn
    have k := no7 (.inr e)
    match n, hn with
    | n + 1, _ =>
      rw [m_i_tree_expand]; simp only [tr_get, Option.bind_some]
      rw [if_neg (by simpa using k), exp0 k]
      have hL : loopM (m_i_tree_expand_l0 (m_i_tree_expand n) (t, [])) FUEL (0, t.1, t.2.1, t.2.2.1, t.2.2.2, []) = some (.brk (0, t.1, t.2.1, t.2.2.1, t.2.2.2, [])) := loopM_at (f := m_i_tree_expand_l0 (m_i_tree_expand n) (t, [])) (fun i => ((i : Int), t.1, t.2.1, t.2.2.1, t.2.2.2, expL (([] : List (Tr Tok)).take i))) 0 (fun i hi => by omega) (by unfold m_i_tree_expand_l0; simp) (by unfold FUEL; omega)
      rw [bindL_brk hL]
      all_goals rfl
  · intro t a e wa ih n hn
    rw [flat1, List.length_append] at hn
    match n, hn with
    | n + 1, hn =>
      have ia := ih n (by simp at hn; omega)
      rw [m_i_tree_expand, exp1]; simp only [tr_get, Option.bind_some]
      rcases kind1 e with ⟨k1, k2⟩ | ⟨k1, k2, k3⟩
      · rw [if_neg (by simp; omega), if_neg (by omega)]
        have hL : loopM (m_i_tree_expand_l0 (m_i_tree_expand n) (t, [a])) FUEL (0, t.1, t.2.1, t.2.2.1, t.2.2.2, []) = some (.brk (1, t.1, t.2.1, t.2.2.1, t.2.2.2, [expX a])) := loopM_at (f := m_i_tree_expand_l0 (m_i_tree_expand n) (t, [a])) (fun i => ((i : Int), t.1, t.2.1, t.2.2.1, t.2.2.2, [expX a].take i)) 1 (fun i hi => by
          obtain rfl : i = 0 := by omega
          unfold m_i_tree_expand_l0
          simp only
          rw [if_pos (by simp), getI_nth (by omega) (by simp), nth_zero]; simp only [Option.bind_some]
          rw [ia]; simp only [Option.bind_some]
          rw [appI_ok (by simp)]; rfl) (by unfold m_i_tree_expand_l0; simp) (by unfold FUEL; omega)
        rw [bindL_brk hL]
        all_goals rfl
      · have h7 := ar_rep (show 0 ≤ ar t by omega) k3
        rw [if_pos k2, if_pos k3, show getI [a] 0 = some a from rfl]; simp only [Option.bind_some]
        rw [ia]; simp only [Option.bind_some]
        have := i_repeated (x := expX a) t.2.2.2.toNat FUELR t.2.2.1 (by omega) (by omega) (by omega) (by omega)
        rw [Int.toNat_of_nonneg (by omega)] at this
        rw [this]; rfl
  · intro t a b e wa wb iha ihb n hn
    rw [flat2, List.length_append, List.length_append] at hn
    have k := no7 (.inl e)
    match n, hn with
    | n + 1, hn =>
      have ia := iha n (by simp at hn; omega)
      have ib := ihb n (by simp at hn; omega)
      rw [m_i_tree_expand, exp2 k]; simp only [tr_get, Option.bind_some]
      rw [if_neg (by simpa using k)]
      have hL : loopM (m_i_tree_expand_l0 (m_i_tree_expand n) (t, [a, b])) FUEL (0, t.1, t.2.1, t.2.2.1, t.2.2.2, []) = some (.brk (2, t.1, t.2.1, t.2.2.1, t.2.2.2, [expX a, expX b])) := loopM_at (f := m_i_tree_expand_l0 (m_i_tree_expand n) (t, [a, b])) (fun i => ((i : Int), t.1, t.2.1, t.2.2.1, t.2.2.2, [expX a, expX b].take i)) 2 (fun i hi => by
        have : i = 0 ∨ i = 1 := by omega
        rcases this with rfl | rfl
        · unfold m_i_tree_expand_l0
          simp only
          rw [if_pos (by simp), getI_nth (by omega) (by simp), nth_zero]; simp only [Option.bind_some]
          rw [ia]; simp only [Option.bind_some]
          rw [appI_ok (by simp)]; rfl
        · unfold m_i_tree_expand_l0
          simp only
          rw [if_pos (by simp), getI_nth (by omega) (by simp), nth_one]; simp only [Option.bind_some]
          rw [ib]; simp only [Option.bind_some]
          rw [appI_ok (by simp)]; rfl) (by unfold m_i_tree_expand_l0; simp) (by unfold FUEL; omega)
      rw [bindL_brk hL]
      all_goals rfl
theorem i_collect {x : Tr Tok} (h : WT x) : ∀ n out, (flat x).length ≤ n → out.length + (flat x).length ≤ 1000000 → m_i_tree_collect n x out = some (out ++ flat x) := by
  refine WT.ind (p := fun x => ∀ n out, (flat x).length ≤ n → out.length + (flat x).length ≤ 1000000 → m_i_tree_collect n x out = some (out ++ flat x)) ?_ ?_ ?_ h
  · intro t e n out hn hl
    rw [flat0] at hn hl ⊢
    simp only [List.length_cons, List.length_nil] at hl
    match n, hn with
    | n + 1, _ =>
      rw [m_i_tree_collect]; simp only [tr_get, Option.bind_some]
      have hL : loopM (m_i_tree_collect_l0 (m_i_tree_collect n) (t, [])) FUEL (0, out) = some (.brk (0, out)) := loopM_at (f := m_i_tree_collect_l0 (m_i_tree_collect n) (t, [])) (fun i => ((i : Int), out)) 0 (fun i hi => by omega) (by unfold m_i_tree_collect_l0; simp) (by unfold FUEL; omega)
      rw [bindL_brk hL]
      simp only
      rw [appI_ok (by simp; omega)]; rfl
  · intro t a e wa ih n out hn hl
    rw [flat1] at hn hl ⊢
    simp only [List.length_append, List.length_cons, List.length_nil] at hn hl
    match n, hn with
    | n + 1, hn =>
      rw [m_i_tree_collect]; simp only [tr_get, Option.bind_some]
      have hL : loopM (m_i_tree_collect_l0 (m_i_tree_collect n) (t, [a])) FUEL (0, out) = some (.brk (1, out ++ flat a)) := loopM_at (f := m_i_tree_collect_l0 (m_i_tree_collect n) (t, [a])) (fun i => ((i : Int), if i = 0 then out else out ++ flat a)) 1 (fun i hi => by
        obtain rfl : i = 0 := by omega
        unfold m_i_tree_collect_l0
        simp only
        rw [if_pos (by simp), getI_nth (by omega) (by simp), nth_zero]; simp only [Option.bind_some, if_true]
        rw [ih n _ (by omega) (by omega)]; rfl) (by unfold m_i_tree_collect_l0; simp) (by unfold FUEL; omega)
      rw [bindL_brk hL]
      simp only
      rw [appI_ok (by simp; omega)]; simp
  · intro t a b e wa wb iha ihb n out hn hl
    rw [flat2] at hn hl ⊢
    simp only [List.length_append, List.length_cons, List.length_nil] at hn hl
    match n, hn with
    | n + 1, hn =>
      rw [m_i_tree_collect]; simp only [tr_get, Option.bind_some]
      have hL : loopM (m_i_tree_collect_l0 (m_i_tree_collect n) (t, [a, b])) FUEL (0, out) = some (.brk (2, (out ++ flat a) ++ flat b)) := loopM_at (f := m_i_tree_collect_l0 (m_i_tree_collect n) (t, [a, b])) (fun i => ((i : Int), if i = 0 then out else if i = 1 then out ++ flat a else (out ++ flat a) ++ flat b)) 2 (fun i hi => by
        have : i = 0 ∨ i = 1 := by omega
        rcases this with rfl | rfl
        · unfold m_i_tree_collect_l0
          simp only
          rw [if_pos (by simp), getI_nth (by omega) (by simp), nth_zero]; simp only [Option.bind_some, if_true]
          rw [iha n _ (by omega) (by omega)]; rfl
        · unfold m_i_tree_collect_l0
          simp only
          rw [if_pos (by simp), getI_nth (by omega) (by simp), nth_one]; simp only [Option.bind_some, if_true]
          rw [ihb n _ (by omega) (by simp; omega)]; rfl) (by unfold m_i_tree_collect_l0; simp) (by unfold FUEL; omega)
      rw [bindL_brk hL]
      simp only
      rw [appI_ok (by simp; omega)]; simp
theorem s_expand {x : Tr Tok} (h : WT x) : ∀ n, (flat x).length ≤ n → (flat x).length ≤ 1000000 → szX x ≤ 50000 → m_s_l10Expand n (flat x) = some (flat (expX x)) := by
  have hF := FUELR_big
  refine WT.ind (p := fun x => ∀ n, (flat x).length ≤ n → (flat x).length ≤ 1000000 → szX x ≤ 50000 → m_s_l10Expand n (flat x) = some (flat (expX x))) ?_ ?_ ?_ h
  · intro t e n hn hl hs
    rw [flat0] at hn hl ⊢
    match n, hn with
    | n + 1, _ =>
      have hk := kind0 e
      rw [m_s_l10Expand]
      have := (last_tok (A := []) (t := t) (by simp)).1
      rw [List.nil_append] at this
      rw [this]; simp only [Option.bind_some]
      rw [if45n (.inr e)]; simp only [Option.bind_some, hk.1, hk.2, Bool.false_eq_true, if_false]
      rw [exp0 (no7 (.inr e)), flat0]
  · intro t a e wa ih n hn hl hs
    have hs' : min ((1 : Int) + (if t.1 = 7 then (szX a + 3) * t.2.2.2 else szX a)) 100000 ≤ 50000 := hs
    rw [flat1] at hn hl ⊢
    simp only [List.length_append, List.length_cons, List.length_nil] at hn hl
    match n, hn with
    | n + 1, hn =>
      have hr := szX_range wa
      have hsa : szX a ≤ 50000 := by
        by_cases k : t.1 = 7
        · rw [if_pos k] at hs'
          have h7 := ar_rep (show 0 ≤ ar t by omega) k
          have hge : szX a + 3 ≤ (szX a + 3) * t.2.2.2 := by
            have := Int.mul_le_mul_of_nonneg_left (c := szX a + 3) h7.2.1 (by omega)
            omega
          omega
        · rw [if_neg k] at hs'; omega
      have hla := exp_len wa (by omega)
      rw [m_s_l10Expand]
      obtain ⟨l1, l2⟩ := last_tok (A := flat a) (t := t) (by omega)
      rw [l1]; simp only [Option.bind_some]
      rw [if45n (.inl e)]; simp only [Option.bind_some, Bool.false_eq_true, if_false]
      rw [l2, Int.toNat_natCast, List.take_left, chk_of (by simp only [List.length_append, List.length_cons, List.length_nil]; omega)]; simp only [Option.bind_some]
      rw [ih n (by omega) (by omega) hsa, exp1]; simp only [Option.bind_some]
      rcases kind1 e with ⟨k1, k2⟩ | ⟨k1, k2, k3⟩
      · rw [if_pos k1, if_neg (by omega), s_join (by simp; omega), flat1]; simp
      · have h7 := ar_rep (show 0 ≤ ar t by omega) k3
        rw [if_neg (by simp [k1]), if_pos k2, if_pos k3]
        have := s_times (x := expX a) t.2.2.2.toNat FUELR t.2.2.1 (by omega) (by omega) (by omega) (by omega) (by omega)
        rw [Int.toNat_of_nonneg (by omega)] at this
        rw [this]; rfl
  · intro t a b e wa wb iha ihb n hn hl hs
    have k := no7 (.inl e)
    have hs' : min ((1 : Int) + (if t.1 = 7 then (szX a + 3) * t.2.2.2 else szX a) + (if t.1 = 7 then (szX b + 3) * t.2.2.2 else szX b)) 100000 ≤ 50000 := hs
    rw [if_neg k, if_neg k] at hs'
    rw [flat2] at hn hl ⊢
    obtain ⟨p1, p2, p3, p4⟩ := two_parts (a := a) (t := t) wb hl
    simp only [List.length_append, List.length_cons, List.length_nil] at hn hl
    match n, hn with
    | n + 1, hn =>
      have hra := szX_range wa
      have hrb := szX_range wb
      have hla := exp_len wa (by omega)
      have hlb := exp_len wb (by omega)
      rw [m_s_l10Expand]
      obtain ⟨l1, l2⟩ := last_tok (A := flat a ++ flat b) (t := t) (by rw [List.length_append]; omega)
      rw [l1]; simp only [Option.bind_some]
      rw [if45 e]; simp only [Option.bind_some, if_true]
      rw [l2, p1, p2, chk_of (by simp only [List.length_append, List.length_cons, List.length_nil]; omega)]; simp only [Option.bind_some]
      rw [chk_of (by simp only [List.length_append, List.length_cons, List.length_nil]; omega), p3, p4]; simp only [Option.bind_some]
      rw [iha n (by omega) (by omega) (by omega), chk_of (by simp only [List.length_append, List.length_cons, List.length_nil]; omega)]; simp only [Option.bind_some]
      rw [ihb n (by have := wa.pos; omega) (by omega) (by omega)]; simp only [Option.bind_some]
      rw [s_join (by omega), exp2 k, flat2]; rfl
/-- both expand alike -/
def expR (e : List Tok) : List Tok × Bool :=
  if decide (e.length ≤ 24) && isX e then (if 5000 < szX (treeX e) then ([], false) else (if 400 < (flat (expX (treeX e))).length then ([], false) else (flat (expX (treeX e)), true))) else ([], false)
theorem expand_both {e : List Tok} (he : e.length ≤ 1048576) : m_s_ExpandExpr e = some (expR e) ∧ m_i_ExpandExpr e = some (expR e) := by
  have hF := FUELR_big
  unfold m_s_ExpandExpr m_i_ExpandExpr expR
  rw [s_validExpr he, i_validExpr he]; simp only [Option.bind_some]
  by_cases c : (decide (e.length ≤ 24) && isX e) = true
  · rw [if_pos c, if_pos c, if_pos c, i_treeOf he]; simp only [Option.bind_some]
    rw [Bool.and_eq_true] at c
    obtain ⟨x, h1, hw, rfl⟩ := isX_ok c.2
    have h24 : (flat x).length ≤ 24 := by simpa using c.1
    have hr := szX_range hw
    rw [treeX_flat hw, s_size hw FUELR (by omega) (by omega), i_bound hw FUELR (by omega)]; simp only [Option.bind_some]
    by_cases c2 : 5000 < szX x
    · have c2' : decide (szX x > 5000) = true := by simpa using c2
      simp only [gt_iff_lt, c2, decide_true, if_true, and_self]
    · have c2' : decide (szX x > 5000) = false := by simpa using c2
      simp only [gt_iff_lt, c2, decide_false, if_false, Bool.false_eq_true]
      have hl := exp_len hw (by omega)
      rw [s_expand hw FUELR (by omega) (by omega) (by omega), i_expand hw FUELR (by omega)]; simp only [Option.bind_some]
      unfold m_i_tree_expr
      rw [i_collect (exp_ok hw) FUELR [] (by omega) (by simp; omega)]; simp only [Option.bind_some, List.nil_append]
      by_cases c3 : 400 < (flat (expX x)).length
      · have c3' : decide (((flat (expX x)).length : Int) > 400) = true := decide_eq_true (by omega)
        simp only [c3', c3, decide_true, if_true, and_self]
      · have c3' : decide (((flat (expX x)).length : Int) > 400) = false := decide_eq_false (by omega)
        simp only [c3', c3, decide_false, if_false, Bool.false_eq_true, and_self]
  · rw [if_neg c, if_neg c, if_neg c]; exact ⟨rfl, rfl⟩
theorem expR_ok {e : List Tok} (h : (expR e).2 = true) : ∃ y, WT y ∧ (expR e).1 = flat y ∧ (flat y).length ≤ 400 := by
  unfold expR at h ⊢
  split at h
  · rename_i c
    rw [if_pos c]
    rw [Bool.and_eq_true] at c
    obtain ⟨x, h1, hw, rfl⟩ := isX_ok c.2
    rw [treeX_flat hw] at h ⊢
    split at h
    · cases h
    · rename_i c2
      rw [if_neg c2]
      split at h
      · cases h
      · rename_i c3
        rw [if_neg c3]
        exact ⟨_, exp_ok hw, rfl, by omega⟩
  · cases h
end Go.Proofs.YtimjccbdngajoaaGreat.D
/- The states from which an accepting state is reached: by rounds, and until nothing turns. -/
set_option linter.unusedVariables false
set_option linter.unusedSimpArgs false
set_option linter.unnecessarySimpa false
set_option linter.unusedSectionVars false
namespace Go.Proofs.YtimjccbdngajoaaGreat.D
open Go.RowKit

def hitT (out : List Bool) (t : Int) : Bool := decide (t ≥ 0) && nth out t
def hit (out : List Bool) (row : List Int) : Bool := row.any (hitT out)
def passAt (a : AutT) (out : List Bool) (s : Nat) : List Bool := if hit out (nth a.2.2 s) then out.set s true else out
def passTo (a : AutT) (out : List Bool) : Nat → List Bool
  | 0 => out
  | s + 1 => passAt a (passTo a out s) s
def cnt (out : List Bool) : Nat := out.count true
theorem cnt_le (out : List Bool) : cnt out ≤ out.length := List.count_le_length
theorem set_same {out : List Bool} {s : Nat} (h : s < out.length) (k : out[s] = true) : out.set s true = out := by
  refine List.ext_getElem (by simp) fun i h1 h2 => ?_
  rw [List.getElem_set]
  split
  · rename_i e; subst e; exact k.symm
  · rfl
theorem cnt_set {out : List Bool} {s : Nat} (h : s < out.length) (k : out[s] = false) : cnt (out.set s true) = cnt out + 1 := by
  unfold cnt
  rw [List.count_set h]; simp [k]
section
variable {a : AutT} {n : Nat}
theorem passAt_length (a : AutT) (out : List Bool) (s : Nat) : (passAt a out s).length = out.length := by unfold passAt; split <;> simp
theorem passTo_length (a : AutT) (out : List Bool) : ∀ s, (passTo a out s).length = out.length
  | 0 => rfl
  | s + 1 => by rw [passTo, passAt_length, passTo_length a out s]
theorem passAt_cases {out : List Bool} {s : Nat} (h : s < out.length) : (passAt a out s = out ∧ ¬ (hit out (nth a.2.2 s) = true ∧ nth out s = false)) ∨ (cnt (passAt a out s) = cnt out + 1 ∧ hit out (nth a.2.2 s) = true ∧ nth out s = false) := by
  unfold passAt
  rw [nth_nat h]
  cases hh : hit out (nth a.2.2 s) with
  | false => exact .inl ⟨by simp, by simp⟩
  | true =>
    cases hk : out[s] with
    | true => exact .inl ⟨by simp [set_same h hk], by simp⟩
    | false => exact .inr ⟨by simp [cnt_set h hk], rfl, rfl⟩
theorem passTo_cnt {out : List Bool} : ∀ s, s ≤ out.length → (passTo a out s = out ∧ cnt (passTo a out s) = cnt out) ∨ cnt out < cnt (passTo a out s)
  | 0, _ => .inl ⟨rfl, rfl⟩
  | s + 1, hs => by
    have hl : s < (passTo a out s).length := by rw [passTo_length]; omega
    have ih := passTo_cnt (out := out) s (by omega)
    rw [passTo]
    rcases passAt_cases (a := a) hl with ⟨e, -⟩ | ⟨e, -, -⟩
    · rw [e]; exact ih
    · rcases ih with ⟨-, h2⟩ | h
      · exact .inr (by omega)
      · exact .inr (by omega)
def it (a : AutT) : Nat → List Bool
  | 0 => a.2.1
  | j + 1 => passTo a (it a j) a.2.1.length
theorem it_length (a : AutT) : ∀ j, (it a j).length = a.2.1.length
  | 0 => rfl
  | j + 1 => by rw [it, passTo_length, it_length a j]
theorem it_cnt (a : AutT) (j : Nat) : cnt (it a j) ≤ a.2.1.length := by rw [← it_length a j]; exact cnt_le _
theorem it_step (a : AutT) (j : Nat) : (it a (j + 1) = it a j) ∨ cnt (it a j) < cnt (it a (j + 1)) := by
  rcases passTo_cnt (a := a) (out := it a j) a.2.1.length (by rw [it_length]; exact Nat.le_refl _) with h | h
  · exact .inl h.1
  · exact .inr h
theorem it_fix {j k : Nat} (h : it a (j + 1) = it a j) (hk : j ≤ k) : it a k = it a j := by
  induction hk with
  | refl => rfl
  | step _ ih => rw [it, ih]; exact h
theorem it_fix_eq {j k : Nat} (h : it a (j + 1) = it a j) (h' : it a (k + 1) = it a k) : it a j = it a k := by
  rcases Nat.le_total j k with e | e
  · exact (it_fix h e).symm
  · exact it_fix h' e
theorem it_done (a : AutT) : it a (a.2.1.length + 1) = it a a.2.1.length := by
  have key : ∀ j, it a (j + 1) = it a j ∨ j + 1 ≤ cnt (it a (j + 1)) := by
    intro j
    induction j with
    | zero => rcases it_step a 0 with h | h
              · exact .inl h
              · exact .inr (by omega)
    | succ j ih =>
      rcases it_step a (j + 1) with h | h
      · exact .inl h
      · rcases ih with h' | h'
        · left; rw [it, h']; exact h'
        · exact .inr (by omega)
  rcases key a.2.1.length with h | h
  · exact h
  · have := it_cnt a (a.2.1.length + 1); omega
/-- the live states -/
def live (a : AutT) : List Bool := it a a.2.1.length
theorem live_length (a : AutT) : (live a).length = a.2.1.length := it_length a _
theorem any_take {α : Type} [Inhabited α] {row : List α} {p : α → Bool} {k : Nat} (h : k < row.length) : (row.take (k + 1)).any p = ((row.take k).any p || p (nth row (k : Int))) := by
  rw [List.take_succ_eq_append_getElem h, List.any_append, nth_nat h]; simp
section
variable (V : VA a n) (hn : n ≤ 1000000)
include V hn
omit hn in
theorem hitT_ok {out : List Bool} {s : Int} {k : Nat} (h0 : 0 ≤ s) (h1 : s < n) (hk : k < 9) (hl : out.length = n) : mv a s k ≥ 0 → getI out (mv a s k) = some (nth out (mv a s k)) := fun h =>
  getI_nth h (by rw [hl]; exact (V.mv h0 h1 hk).2)
theorem s_live_in {out : List Bool} {s : Nat} (hs : s < n) (hl : out.length = n) : loopM (m_s_l11Live_l2 a (out, (s : Int))) FUEL (out, 0) = some (.brk (passAt a out s, 9)) := by
  have hr := V.rowAt (s := s) (by omega) (by omega)
  have hls : s < out.length := by omega
  have := loopM_at (f := m_s_l11Live_l2 a (out, (s : Int))) (fun k => (if ((nth a.2.2 (s : Int)).take k).any (hitT out) then out.set s true else out, (k : Int))) 9 (fun k hk => by
    unfold m_s_l11Live_l2
    simp only
    rw [if_pos (by simp; omega), V.get (by omega) (by omega)]; simp only [Option.bind_some]
    rw [V.get2 (by omega) (by omega) hk]; simp only [Option.bind_some]
    rw [any_take (by omega), show nth (nth a.2.2 (s : Int)) (k : Int) = mv a s k from rfl]
    simp only [wrap_succ (show k < 9223372036854775807 by omega)]
    by_cases c : mv a s k ≥ 0
    · have hset : (out.set s true).length = n := by simp [hl]
      have hm := (V.mv (s := s) (k := k) (by omega) (by omega) hk).2
      rw [if_pos (by simpa using c)]
      by_cases q : ((nth a.2.2 (s : Int)).take k).any (hitT out) = true
      · simp only [q, if_true, Bool.true_or]
        rw [getI_nth c (by rw [hset]; exact hm), getI_nth (by omega) (by rw [hset]; omega)]; simp only [Option.bind_some, Int.toNat_natCast]
        split <;> simp
      · simp only [q, Bool.false_eq_true, if_false, Bool.false_or, hitT]
        rw [getI_nth c (by rw [hl]; exact hm), getI_nth (by omega) (by rw [hl]; omega)]; simp only [Option.bind_some, Int.toNat_natCast]
        cases hc : nth out (mv a s k) <;> simp [hc, c]
    · rw [if_neg (by simpa using c)]
      simp [hitT, c]) (by unfold m_s_l11Live_l2; simp) (by unfold FUEL; omega)
  have e9 : (nth a.2.2 (s : Int)).take 9 = nth a.2.2 (s : Int) := List.take_of_length_le (by omega)
  rw [e9] at this
  exact this
theorem s_live_round {out : List Bool} (hl : out.length = n) : loopM (m_s_l11Live_l1 a) FUEL (out, 0) = some (.brk (passTo a out n, (n : Int))) := by
  have hlen := V.len
  refine loopM_at (f := m_s_l11Live_l1 a) (fun s => (passTo a out s, (s : Int))) n (fun s hs => ?_) ?_ (up63 (by omega))
  · unfold m_s_l11Live_l1
    simp only
    rw [if_pos (by simp; omega), bindL_brk (s_live_in V hn hs (by rw [passTo_length]; exact hl)), wrap_succ (by omega)]
    rfl
  · unfold m_s_l11Live_l1
    simp only
    rw [if_neg (by simp; omega)]
theorem s_live : m_s_l11Live a = some (live a) := by
  have hlen := V.len
  unfold m_s_l11Live
  rw [appI_ok (by simp; omega)]; simp only [Option.bind_some, List.nil_append]
  have := loopM_at (f := m_s_l11Live_l0 a) (fun j => (it a j, (j : Int))) n (fun j hj => by
    unfold m_s_l11Live_l0
    simp only
    rw [if_pos (by simp; omega), bindL_brk (s_live_round V hn (by rw [it_length]; exact hlen)), wrap_succ (by omega), it, hlen]) (by
    unfold m_s_l11Live_l0
    simp only
    rw [if_neg (by simp; omega)]) (up63 (by omega))
  exact (bindL_brk this).trans (by simp [live, hlen])
theorem i_live_in {out : List Bool} {g : Bool} {s : Nat} (hs : s < n) (hl : out.length = n) : loopM (m_i_Automaton_live_l2 (g, (s : Int), out) (nth a.2.2 (s : Int))) FUEL (g, 0, out) = some (.brk (g || (hit out (nth a.2.2 (s : Int)) && !nth out (s : Int)), 9, passAt a out s)) := by
  have hr := V.rowAt (s := s) (by omega) (by omega)
  have hls : s < out.length := by omega
  have := loopM_at (f := m_i_Automaton_live_l2 (g, (s : Int), out) (nth a.2.2 (s : Int))) (fun k => (g || (((nth a.2.2 (s : Int)).take k).any (hitT out) && !nth out (s : Int)), (k : Int), if ((nth a.2.2 (s : Int)).take k).any (hitT out) then out.set s true else out)) 9 (fun k hk => by
    unfold m_i_Automaton_live_l2
    simp only
    rw [if_pos (by simp [hr]; omega), V.get2 (by omega) (by omega) hk]; simp only [Option.bind_some]
    rw [any_take (by omega), show nth (nth a.2.2 (s : Int)) (k : Int) = mv a s k from rfl]
    simp only [wrap_succ (show k < 9223372036854775807 by omega)]
    by_cases c : mv a s k ≥ 0
    · have hset : (out.set s true).length = n := by simp [hl]
      have hm := (V.mv (s := s) (k := k) (by omega) (by omega) hk).2
      rw [if_pos (by simpa using c)]
      by_cases q : ((nth a.2.2 (s : Int)).take k).any (hitT out) = true
      · simp only [q, if_true, Bool.true_or]
        have hself : nth (out.set s true) (s : Int) = true := by
          have := nth_set_self (xs := out) (i := (s : Int)) (x := true) (by omega) (by omega)
          simpa using this
        rw [getI_nth c (by rw [hset]; exact hm), getI_nth (by omega) (by rw [hset]; omega)]; simp only [Option.bind_some, Int.toNat_natCast, hself, if_true]
        split <;> simp
      · simp only [q, Bool.false_eq_true, if_false, Bool.false_or, hitT, Bool.false_and, Bool.or_false]
        rw [getI_nth c (by rw [hl]; exact hm), getI_nth (by omega) (by rw [hl]; omega)]; simp only [Option.bind_some, Int.toNat_natCast]
        cases hc : nth out (mv a s k) with
        | false => simp [c]
        | true =>
          cases hd : nth out (s : Int) with
          | false => simp [c]
          | true =>
            rw [nth_nat hls] at hd
            simp [c, set_same hls hd]
    · rw [if_neg (by simpa using c)]
      simp [hitT, c]) (by unfold m_i_Automaton_live_l2; simp [hr]) (by unfold FUEL; omega)
  have e9 : (nth a.2.2 (s : Int)).take 9 = nth a.2.2 (s : Int) := List.take_of_length_le (by omega)
  rw [e9] at this
  have e0 : (g || (((nth a.2.2 (s : Int)).take 0).any (hitT out) && !nth out (s : Int))) = g := by simp
  rw [e0] at this
  exact this
theorem i_live_round {out : List Bool} (hl : out.length = n) : ∃ g, loopM (m_i_Automaton_live_l1 a) FUEL (false, 0, out) = some (.brk (g, (n : Int), passTo a out n)) ∧ (g = true ↔ cnt out < cnt (passTo a out n)) := by
  have hlen := V.len
  have hnl := V.nlen
  obtain ⟨s', e, ⟨g, rfl, hg⟩⟩ := loopM_for (f := m_i_Automaton_live_l1 a) (fun s st => ∃ g, st = (g, (s : Int), passTo a out s) ∧ (g = true ↔ cnt out < cnt (passTo a out s))) n (by
    rintro s st hs ⟨g, rfl, hg⟩
    have hpl : (passTo a out s).length = n := by rw [passTo_length]; exact hl
    unfold m_i_Automaton_live_l1
    simp only
    rw [if_pos (by simp; omega), V.get (by omega) (by omega)]; simp only [Option.bind_some]
    rw [bindL_brk (i_live_in V hn hs hpl), wrap_succ (by omega)]
    refine ⟨_, rfl, _, rfl, ?_⟩
    rw [Bool.or_eq_true, Bool.and_eq_true, Bool.not_eq_true', hg, passTo]
    have hc := passTo_cnt (a := a) (out := out) s (by omega)
    rcases passAt_cases (a := a) (out := passTo a out s) (s := s) (by omega) with ⟨e, k⟩ | ⟨e, k⟩
    · rw [e]; exact ⟨fun h => h.elim id fun h => absurd h k, .inl⟩
    · rw [e]
      exact ⟨fun _ => by rcases hc with ⟨-, h⟩ | h <;> omega, fun _ => .inr k⟩) (by
    rintro s ⟨g, rfl, hg⟩
    unfold m_i_Automaton_live_l1
    simp only
    rw [if_neg (by simp; omega)]) ⟨false, rfl, by simp [passTo]⟩ (up63 (by omega))
  exact ⟨g, e, hg⟩
theorem i_live : m_i_Automaton_live a = some (live a) := by
  have hlen := V.len
  unfold m_i_Automaton_live
  rw [appI_ok (by simp; omega)]; simp only [Option.bind_some, List.nil_append]
  obtain ⟨o, e, i, rfl, hi⟩ := loopM_go (f := m_i_Automaton_live_l0 a) (fun i s => ∃ b, s = (b, it a i) ∧ (b = true → i ≤ cnt (it a i)) ∧ (b = false → it a (i + 1) = it a i)) (fun o => ∃ i, o = .brk (false, it a i) ∧ it a (i + 1) = it a i) (n + 1) (s := (true, a.2.1)) (by
    rintro i s hi ⟨b, rfl, h1, h2⟩
    unfold m_i_Automaton_live_l0
    simp only
    cases b with
    | false => exact .inr ⟨_, by rw [if_neg (by simp)], (fun s' e => by cases e), i, rfl, h2 rfl⟩
    | true =>
      have hc := it_cnt a i
      have h1 := h1 rfl
      obtain ⟨g, e, hg⟩ := i_live_round V hn (out := it a i) (by rw [it_length]; exact hlen)
      have ee : passTo a (it a i) n = it a (i + 1) := by rw [it, hlen]
      rw [ee] at e hg
      refine .inl ⟨by omega, (g, it a (i + 1)), by rw [if_pos rfl, bindL_brk e], g, rfl, fun h => ?_, fun h => ?_⟩
      · have := hg.1 h; omega
      · have hs : it a (i + 1) = it a i := by
          rcases it_step a i with h' | h'
          · exact h'
          · rw [← hg, h] at h'; cases h'
        rw [it, hs]; exact hs) ⟨true, rfl, fun _ => Nat.zero_le _, fun h => by cases h⟩ (up63 (by omega))
  rw [bindL_brk e]
  have := it_fix_eq hi (it_done a)
  simp [live, this]
end
end
end Go.Proofs.YtimjccbdngajoaaGreat.D
/- Automata numbered from their first state on: by the program over a map, by the reference over representatives. -/
set_option linter.unusedVariables false
set_option linter.unusedSimpArgs false
set_option linter.unnecessarySimpa false
set_option linter.unusedSectionVars false
namespace Go.Proofs.YtimjccbdngajoaaGreat.D
open Go.RowKit

def nothing : AutT := (0, [false], [[-1, -1, -1, -1, -1, -1, -1, -1, -1]])
theorem s_nothing : m_s_l11Nothing = some nothing := by kernel_rfl
theorem i_nothing : m_i_nothing = some nothing := by kernel_rfl
theorem iOk_nat {n : Nat} (h : n ≤ 1000000) : iOk (n : Int) = true := by
  have h1 : IntKind.i64.min = -9223372036854775808 := by decide
  have h2 : IntKind.i64.max = 9223372036854775807 := by decide
  simp only [iOk, Lit.wf, h1, h2, Bool.and_eq_true, decide_eq_true_eq]
  omega
theorem take_one {α : Type} [Inhabited α] {xs : List α} {k : Nat} (h : k < xs.length) : xs.take (k + 1) = xs.take k ++ [nth xs (k : Int)] := by
  rw [List.take_succ_eq_append_getElem h, nth_nat h]
theorem prefix_nth {α : Type} [Inhabited α] {xs ys : List α} (h : xs <+: ys) {i : Int} (h0 : 0 ≤ i) (h1 : i < xs.length) : nth ys i = nth xs i := by
  obtain ⟨t, rfl⟩ := h
  exact nth_append_left h0 h1
/-- keys to be numbered: at most B of them -/
structure NumOk {κ : Type} [DecidableEq κ] (nx : κ → List (Option κ)) (first : κ) (G : κ → Prop) (B : Nat) : Prop where
  g0 : G first
  gn : ∀ x, G x → ∀ y, some y ∈ nx x → G y
  len : ∀ x, G x → (nx x).length = 9
  bound : ∀ l : List κ, l.Nodup → (∀ x ∈ l, G x) → l.length ≤ B
section
variable {κ : Type} [DecidableEq κ] [Inhabited κ] {nx : κ → List (Option κ)} {first : κ} {G : κ → Prop} {B : Nat}
theorem NumOk.le (H : NumOk nx first G B) (i : Nat) : (bfS nx first i).length ≤ B := H.bound _ (bfS_nodup i) (bfS_good H.g0 H.gn i)
theorem NumOk.at (H : NumOk nx first G B) {i : Nat} (h : i < (bfS nx first i).length) : G (nth (bfS nx first i) (i : Int)) := bfS_good H.g0 H.gn i _ (nth_mem (by omega) (by omega))
theorem bfS_succ' {i : Nat} (h : i < (bfS nx first i).length) : bfS nx first (i + 1) = nbS (bfS nx first i) (nx (nth (bfS nx first i) (i : Int))) := by rw [bfS_succ h, nth_nat h]
theorem bfR_succ' {i : Nat} (h : i < (bfS nx first i).length) : bfR nx first (i + 1) = bfR nx first i ++ [nbR (bfS nx first i) (nx (nth (bfS nx first i) (i : Int)))] := by rw [bfR_succ h, nth_nat h]
theorem acc_succ {β : Type} {acc : κ → β} {i : Nat} (h : i < (bfS nx first i).length) : ((bfS nx first (i + 1)).take (i + 1)).map acc = ((bfS nx first i).take i).map acc ++ [acc (nth (bfS nx first i) (i : Int))] := by
  have hp := bfS_step_prefix (nx := nx) (first := first) i
  have hl := hp.length_le
  have e : (bfS nx first (i + 1)).take i = (bfS nx first i).take i := by
    obtain ⟨t, ht⟩ := hp
    rw [← ht, List.take_append_of_le_length (by omega)]
  rw [take_one (by omega), List.map_append, e, prefix_nth hp (by omega) (by omega)]; rfl
/-- what the map of the numbers says -/
def MapOf (M : List (κ × Int)) (l : List κ) : Prop := M.length = l.length ∧ ∀ x, M.lookup x = if x ∈ l then some (l.idxOf x : Int) else none
theorem MapOf.one (x : κ) : MapOf [(x, 0)] [x] := by
  refine ⟨rfl, fun y => ?_⟩
  rw [List.lookup_cons]
  by_cases e : y = x
  · subst e; simp
  · simp only [show (y == x) = false from by simp [e]]; simp [e]
theorem MapOf.put {M : List (κ × Int)} {l : List κ} (h : MapOf M l) {x : κ} (hx : x ∉ l) : MapOf ((x, (l.length : Int)) :: M) (l ++ [x]) := by
  refine ⟨by simp [h.1], fun y => ?_⟩
  rw [List.lookup_cons]
  by_cases e : y = x
  · subst e
    simp [List.idxOf_append, hx]
  · simp only [show (y == x) = false from by simp [e], h.2 y, List.mem_append, List.mem_singleton, e, or_false]
    by_cases k : y ∈ l
    · simp [k, List.idxOf_append]
    · simp [k]
end

/-! ### The program: keys that are ints -/
section
variable {nx : Int → List (Option Int)} {first : Int} {G : Int → Prop} {B : Nat}
theorem i_numb_in {p3 : Int → Int → Option (Int × Bool)} {l : List Int} {M : List (Int × Int)} {os : List (Option Int)} {acs : List Bool} {rws : List (List Int)} {i : Nat}
    (hi : i < l.length) (hos : os.length = 9) (hM : MapOf M l) (hok : ∀ y, some y ∈ os → iOk y = true) (hB : ∀ k, (nbS l (os.take k)).length ≤ 1000000)
    (hp : ∀ (k : Nat) (hk : k < 9), ∃ j, p3 (nth l (i : Int)) (k : Int) = some (match nth os (k : Int) with | some y => (y, true) | none => (j, false))) :
    ∃ M', loopM (m_i_numbered_int_l1 p3 (l, M, (i : Int), 0, acs, rws)) FUEL (l, M, [], 0) = some (.brk (nbS l os, M', nbR l os, 9)) ∧ MapOf M' (nbS l os) := by
  obtain ⟨s', e, M', rfl, hM'⟩ := loopM_for (f := m_i_numbered_int_l1 p3 (l, M, (i : Int), 0, acs, rws)) (fun k s => ∃ M', s = (nbS l (os.take k), M', nbR l (os.take k), (k : Int)) ∧ MapOf M' (nbS l (os.take k))) 9 (by
    rintro k s hk ⟨M1, rfl, hM1⟩
    have hpre := nbS_prefix l (os.take k)
    have hlen := hpre.length_le
    have hBk := hB k
    obtain ⟨j, hj⟩ := hp k hk
    have hrl : (nbR l (os.take k)).length ≤ 9 := by rw [nbR_length, List.length_take]; omega
    unfold m_i_numbered_int_l1
    simp only
    rw [if_pos (by simp; omega), getI_nth (by omega) (by omega)]; simp only [Option.bind_some]
    rw [prefix_nth hpre (by omega) (by omega), hj, take_one (by omega), nbS_snoc, nbR_snoc]
    simp only [Option.bind_some, wrap_succ (show k < 9223372036854775807 by omega)]
    cases ho : nth os (k : Int) with
    | none =>
      simp only [Bool.false_eq_true, if_false]
      rw [appI_ok (by simp; omega)]
      exact ⟨_, rfl, M1, rfl, hM1⟩
    | some y =>
      have hy : iOk y = true := hok y (ho ▸ nth_mem (by omega) (by omega))
      simp only [if_true]
      rw [show chk (iOk y = true) = some () from by unfold chk; rw [if_pos hy]]; simp only [Option.bind_some]
      rw [show lkM M1 y = _ from hM1.2 y]
      by_cases c : y ∈ nbS l (os.take k)
      · simp only [c, if_true, Option.isSome_some, Option.getD_some, Option.bind_some]
        rw [appI_ok (by simp; omega)]
        exact ⟨_, rfl, M1, by rw [nbL_old c]; rfl, by rw [nbL_old c]; exact hM1⟩
      · have hput : putM M1 iOk iOk y ((nbS l (os.take k)).length : Int) = some ((y, ((nbS l (os.take k)).length : Int)) :: M1) := by
          unfold putM
          rw [if_pos ⟨by have := hM1.1; omega, hy, iOk_nat hBk⟩]
        simp only [c, if_false, Option.isSome_none, Bool.false_eq_true, hput, Option.bind_some]
        rw [appI_ok (by simp; omega)]; simp only [Option.bind_some]
        rw [appI_ok (by simp; omega)]
        refine ⟨_, rfl, (y, ((nbS l (os.take k)).length : Int)) :: M1, ?_, ?_⟩
        · rw [nbL_new c]; simp only [nbI, idxOf_nbL c]
        · rw [nbL_new c]; exact hM1.put c) (by
    rintro s ⟨M1, rfl, hM1⟩
    unfold m_i_numbered_int_l1
    simp) (s := (l, M, [], 0)) ⟨M, rfl, hM⟩ (by unfold FUEL; omega)
  rw [List.take_of_length_le (by omega)] at e hM'
  exact ⟨M', e, hM'⟩
theorem i_numb {most : Int} {p2 : Int → Option Bool} {p3 : Int → Int → Option (Int × Bool)} {acc : Int → Bool} (H : NumOk nx first G B) (hB : B ≤ 1000000) (hmost : (B : Int) ≤ most) (hok : ∀ x, G x → iOk x = true)
    (h2 : ∀ x, G x → p2 x = some (acc x)) (h3 : ∀ x (k : Nat), G x → k < 9 → ∃ j, p3 x (k : Int) = some (match nth (nx x) (k : Int) with | some y => (y, true) | none => (j, false))) :
    ∃ N, bfE nx first N ∧ m_i_numbered_int first most p2 p3 = some ((0, (bfS nx first N).map acc, bfR nx first N), true) := by
  obtain ⟨N, hNB, hN⟩ := bfE_ex (nx := nx) (first := first) (H.le)
  refine ⟨N, hN, ?_⟩
  unfold m_i_numbered_int
  rw [show putM ([] : List (Int × Int)) iOk iOk first 0 = some [(first, 0)] from by unfold putM; rw [if_pos ⟨by simp, hok _ H.g0, by decide⟩]]; simp only [Option.bind_some]
  obtain ⟨s', e, M', rfl, hM'⟩ := loopM_for (f := m_i_numbered_int_l0 most p2 p3) (fun i s => ∃ M, s = (bfS nx first i, M, (i : Int), 0, ((bfS nx first i).take i).map acc, bfR nx first i) ∧ MapOf M (bfS nx first i)) N (by
    rintro i s hi ⟨M, rfl, hM⟩
    have hlt := hN.2 i hi
    have hG := H.at hlt
    have hle := H.le i
    have hle' := H.le (i + 1)
    obtain ⟨M', e, hM'⟩ := i_numb_in (p3 := p3) (l := bfS nx first i) (M := M) (os := nx (nth (bfS nx first i) (i : Int))) (acs := ((bfS nx first i).take i).map acc) (rws := bfR nx first i) hlt (H.len _ hG) hM (fun y hy => hok y (H.gn _ hG y hy))
      (fun k => by
        have : (nbS (bfS nx first i) ((nx (nth (bfS nx first i) (i : Int))).take k)).length ≤ B := H.bound _ (nbS_nodup (bfS_nodup i)) fun x hx => by
          rcases mem_nbS.1 hx with hx | hx
          · exact bfS_good H.g0 H.gn i x hx
          · exact H.gn _ hG x (List.mem_of_mem_take hx)
        omega) (fun k hk => h3 _ k hG hk)
    unfold m_i_numbered_int_l0
    simp only
    rw [if_pos (by simp; omega), bindL_brk e, ← bfS_succ' hlt]
    rw [← bfS_succ' hlt] at hM'
    have hl2 := (bfS_step_prefix (nx := nx) (first := first) i).length_le
    simp only
    rw [if_neg (by simp; omega), getI_nth (by omega) (by omega)]; simp only [Option.bind_some]
    rw [prefix_nth (bfS_step_prefix i) (by omega) (by omega), h2 _ hG]; simp only [Option.bind_some]
    have hr : (bfR nx first i).length = i := bfR_length fun j hj => hN.2 j (by omega)
    rw [appI_ok (by simp; omega)]; simp only [Option.bind_some]
    rw [appI_ok (by simp; omega)]; simp only [Option.bind_some, wrap_succ (show i < 9223372036854775807 by omega)]
    exact ⟨_, rfl, M', by rw [acc_succ hlt, bfR_succ' hlt], hM'⟩) (by
    rintro s ⟨M, rfl, hM⟩
    unfold m_i_numbered_int_l0
    simp only
    rw [if_neg (by have := hN.1; simp; omega)]) (s := ([first], [(first, 0)], 0, 0, [], [])) ⟨_, rfl, MapOf.one first⟩ (up63 (by omega))
  rw [bindL_brk e]
  simp only
  rw [List.take_of_length_le (by have := hN.1; omega)]
end

/-! ### The reference: classes and their representatives -/
theorem s_find {l : List Int} {x : Int} (h : l.length ≤ 9223372036854775807) : m_s_l11Find l x = some (if x ∈ l then (l.idxOf x : Int) else -1) := by
  unfold m_s_l11Find
  obtain ⟨o, e, hq⟩ := loopM_go (f := m_s_l11Find_l0 l x) (fun i s => s = (i : Int) ∧ x ∉ l.take i) (fun o => (x ∈ l ∧ o = .ret (l.idxOf x : Int)) ∨ (x ∉ l ∧ ∃ s, o = .brk s)) l.length (s := 0) (by
    rintro i s hi ⟨rfl, hx⟩
    unfold m_s_l11Find_l0
    by_cases hl : i < l.length
    · rw [if_pos (by simp; omega), getI_nth (by omega) (by omega)]; simp only [Option.bind_some]
      by_cases c : nth l (i : Int) = x
      · refine .inr ⟨_, by rw [if_pos (by simpa using c)], (fun s' e => by cases e), .inl ?_⟩
        have e : l = l.take i ++ (x :: l.drop (i + 1)) := by
          rw [← c, nth_nat hl, ← List.drop_eq_getElem_cons hl, List.take_append_drop]
        refine ⟨by rw [e]; simp, ?_⟩
        congr 1
        conv => rhs; rw [e, List.idxOf_append, if_neg hx, List.idxOf_cons_self]
        simp [List.length_take]; first | done | omega
      · refine .inl ⟨hl, _, by rw [if_neg (by simpa using c)], by rw [wrap_succ (by omega)], ?_⟩
        rw [take_one hl, List.mem_append, List.mem_singleton]
        rintro (h | h)
        · exact hx h
        · exact c h.symm
    · refine .inr ⟨_, by rw [if_neg (by simp; omega)], (fun s' e => by cases e), .inr ⟨?_, _, rfl⟩⟩
      rwa [List.take_of_length_le (by omega)] at hx) ⟨rfl, by simp⟩ (up63 h)
  rcases hq with ⟨hx, rfl⟩ | ⟨hx, s, rfl⟩
  · rw [bindL_ret e, if_pos hx]
  · rw [bindL_brk e, if_neg hx]
section
variable {a : AutT} {n : Nat} {c : List Int} {lv : List Bool} {nx : Int → List (Option Int)} {G : Int → Prop} {B : Nat} {acc : Int → Bool}
def good (n : Nat) (lv : List Bool) (r : Int) : Prop := 0 ≤ r ∧ r < n ∧ nth lv r = true
/-- the classes behind the letters of a state -/
def succs (a : AutT) (c : List Int) (lv : List Bool) (r : Int) : List (Option Int) := (List.range 9).map fun k => if mv a r k ≥ 0 ∧ nth lv (mv a r k) = true then some (nth c (mv a r k)) else none
theorem succs_at {r : Int} {k : Nat} (hk : k < 9) : nth (succs a c lv r) (k : Int) = if mv a r k ≥ 0 ∧ nth lv (mv a r k) = true then some (nth c (mv a r k)) else none := by
  have : k < (succs a c lv r).length := by simp [succs]; omega
  rw [nth_nat this]; simp [succs]
/-- states that stand for the classes l -/
def RepsOf (n : Nat) (lv : List Bool) (c : List Int) (rs l : List Int) : Prop := rs.length = l.length ∧ ∀ j : Nat, j < l.length → good n lv (nth rs j) ∧ nth c (nth rs j) = nth l (j : Int)
theorem RepsOf.snoc {rs l : List Int} (h : RepsOf n lv c rs l) {t : Int} (ht : good n lv t) : RepsOf n lv c (rs ++ [t]) (l ++ [nth c t]) := by
  refine ⟨by simp [h.1], fun j hj => ?_⟩
  by_cases e : j < l.length
  · rw [nth_append_left (by omega) (by have := h.1; omega), nth_append_left (by omega) (by omega)]; exact h.2 j e
  · have e : j = l.length := by simp at hj; omega
    subst e
    have h1 : nth (rs ++ [t]) (l.length : Int) = t := by rw [nth_nat (by simp [h.1])]; simp [← h.1]
    have h2 : nth (l ++ [nth c t]) (l.length : Int) = nth c t := by rw [nth_nat (by simp)]; simp
    rw [h1, h2]; exact ⟨ht, rfl⟩
theorem s_numb_in (V : VA a n) (hn : n ≤ 1000000) (hc : c.length = n) (hlv : lv.length = n) {l rs : List Int} {acs : List Bool} {rws : List (List Int)} {i : Nat} (hi : i < l.length) (hR : RepsOf n lv c rs l) {os : List (Option Int)} (hos : os.length = 9)
    (ho : ∀ r, good n lv r → nth c r = nth l (i : Int) → succs a c lv r = os) (hB : ∀ k, (nbS l (os.take k)).length ≤ 1000000) :
    ∃ rs', loopM (m_s_l11Number_l1 a c lv (l, rs, (i : Int), 0, acs, rws)) FUEL (l, rs, [], 0) = some (.brk (nbS l os, rs', nbR l os, 9)) ∧ RepsOf n lv c rs' (nbS l os) := by
  obtain ⟨s', e, rs', rfl, hR'⟩ := loopM_for (f := m_s_l11Number_l1 a c lv (l, rs, (i : Int), 0, acs, rws)) (fun k s => ∃ rs', s = (nbS l (os.take k), rs', nbR l (os.take k), (k : Int)) ∧ RepsOf n lv c rs' (nbS l (os.take k))) 9 (by
    rintro k s hk ⟨r1, rfl, hR1⟩
    have hpre := nbS_prefix l (os.take k)
    have hlen := hpre.length_le
    have hBk := hB k
    have hrl : (nbR l (os.take k)).length ≤ 9 := by rw [nbR_length, List.length_take]; omega
    have hr1 := hR1.1
    obtain ⟨⟨g0, g1, g2⟩, gc⟩ := hR1.2 i (by omega)
    rw [prefix_nth hpre (by omega) (by omega)] at gc
    have hsu := ho _ ⟨g0, g1, g2⟩ gc
    have hok : nth os (k : Int) = if mv a (nth r1 (i : Int)) k ≥ 0 ∧ nth lv (mv a (nth r1 (i : Int)) k) = true then some (nth c (mv a (nth r1 (i : Int)) k)) else none := by
      rw [← hsu]; exact succs_at hk
    have hmv := V.mv (s := nth r1 (i : Int)) (k := k) g0 g1 hk
    unfold m_s_l11Number_l1
    simp only
    rw [if_pos (by simp; omega), getI_nth (xs := r1) (by omega) (by omega)]; simp only [Option.bind_some]
    rw [V.get g0 g1]; simp only [Option.bind_some]
    rw [V.get2 g0 g1 hk, take_one (by omega), nbS_snoc, nbR_snoc]
    simp only [Option.bind_some, wrap_succ (show k < 9223372036854775807 by omega)]
    by_cases c1 : mv a (nth r1 (i : Int)) k ≥ 0
    · rw [if_pos (by simpa using c1), getI_nth (xs := lv) c1 (by omega)]; simp only [Option.bind_some]
      by_cases c2 : nth lv (mv a (nth r1 (i : Int)) k) = true
      · rw [if_pos ⟨c1, c2⟩] at hok
        rw [if_pos c2, getI_nth (xs := c) c1 (by omega), hok]; simp only [Option.bind_some]
        rw [s_find (by omega)]; simp only [Option.bind_some]
        by_cases c3 : nth c (mv a (nth r1 (i : Int)) k) ∈ nbS l (os.take k)
        · rw [if_pos c3, if_neg (by simp)]; simp only [Option.bind_some]
          rw [appI_ok (by simp; omega)]
          exact ⟨_, rfl, r1, by rw [nbL_old c3]; rfl, by rw [nbL_old c3]; exact hR1⟩
        · rw [if_neg c3, if_pos (by decide)]
          rw [appI_ok (by simp; omega)]; simp only [Option.bind_some]
          rw [appI_ok (by simp; omega)]; simp only [Option.bind_some]
          rw [appI_ok (by simp; omega)]; simp only [Option.bind_some]
          refine ⟨_, rfl, r1 ++ [mv a (nth r1 (i : Int)) k], ?_, ?_⟩
          · rw [nbL_new c3]; simp only [nbI, idxOf_nbL c3]
          · rw [nbL_new c3]; exact hR1.snoc ⟨c1, hmv.2, c2⟩
      · rw [if_neg (fun h => c2 h.2)] at hok
        rw [if_neg c2, hok]; simp only [Option.bind_some]
        rw [appI_ok (by simp; omega)]
        exact ⟨_, rfl, r1, rfl, hR1⟩
    · rw [if_neg (fun h => c1 h.1)] at hok
      rw [if_neg (by simpa using c1), hok]; simp only [Option.bind_some]
      rw [appI_ok (by simp; omega)]
      exact ⟨_, rfl, r1, rfl, hR1⟩) (by
    rintro s ⟨r1, rfl, hR1⟩
    unfold m_s_l11Number_l1
    simp) (s := (l, rs, [], 0)) ⟨rs, rfl, hR⟩ (by unfold FUEL; omega)
  rw [List.take_of_length_le (by omega)] at e hR'
  exact ⟨rs', e, hR'⟩
theorem s_numb (V : VA a n) (hn : n ≤ 1000000) (hc : c.length = n) (hlv : lv.length = n) (hs : nth lv a.1 = true) (H : NumOk nx (nth c a.1) G B) (hB : B ≤ 1000000)
    (hnx : ∀ r, good n lv r → nx (nth c r) = succs a c lv r) (hacc : ∀ r, good n lv r → acc (nth c r) = nth a.2.1 r) :
    ∃ N, bfE nx (nth c a.1) N ∧ m_s_l11Number a c lv = some (0, (bfS nx (nth c a.1) N).map acc, bfR nx (nth c a.1) N) := by
  obtain ⟨N, hNB, hN⟩ := bfE_ex (nx := nx) (first := nth c a.1) (H.le)
  refine ⟨N, hN, ?_⟩
  have hst := V.start
  have hlen := V.len
  unfold m_s_l11Number
  rw [getI_nth hst.1 (by omega)]; simp only [Option.bind_some]
  rw [if_pos hs, getI_nth hst.1 (by omega)]; simp only [Option.bind_some]
  obtain ⟨s', e, rs, rfl, hR⟩ := loopM_for (f := m_s_l11Number_l0 a c lv) (fun i s => ∃ rs, s = (bfS nx (nth c a.1) i, rs, (i : Int), 0, ((bfS nx (nth c a.1) i).take i).map acc, bfR nx (nth c a.1) i) ∧ RepsOf n lv c rs (bfS nx (nth c a.1) i)) N (by
    rintro i s hi ⟨rs, rfl, hR⟩
    have hlt := hN.2 i hi
    have hG := H.at hlt
    have hle := H.le i
    have hle' := H.le (i + 1)
    obtain ⟨rs', e, hR'⟩ := s_numb_in (acs := ((bfS nx (nth c a.1) i).take i).map acc) (rws := bfR nx (nth c a.1) i) V hn hc hlv hlt hR (os := nx (nth (bfS nx (nth c a.1) i) (i : Int))) (H.len _ hG) (fun r hr e => by rw [← hnx r hr, e]) (fun k => by
        have : (nbS (bfS nx (nth c a.1) i) ((nx (nth (bfS nx (nth c a.1) i) (i : Int))).take k)).length ≤ B := H.bound _ (nbS_nodup (bfS_nodup i)) fun x hx => by
          rcases mem_nbS.1 hx with hx | hx
          · exact bfS_good H.g0 H.gn i x hx
          · exact H.gn _ hG x (List.mem_of_mem_take hx)
        omega)
    unfold m_s_l11Number_l0
    simp only
    rw [if_pos (by simp; omega), bindL_brk e]
    rw [← bfS_succ' hlt] at hR'
    have hl2 := (bfS_step_prefix (nx := nx) (first := nth c a.1) i).length_le
    have hr1 := hR'.1
    obtain ⟨⟨g0, g1, g2⟩, gc⟩ := hR'.2 i (by omega)
    rw [prefix_nth (bfS_step_prefix i) (by omega) (by omega)] at gc
    rw [getI_nth (xs := rs') (by omega) (by omega)]; simp only [Option.bind_some]
    rw [V.acc g0 g1, ← hacc _ ⟨g0, g1, g2⟩, gc]; simp only [Option.bind_some]
    have hr : (bfR nx (nth c a.1) i).length = i := bfR_length fun j hj => hN.2 j (by omega)
    rw [appI_ok (by simp; omega)]; simp only [Option.bind_some]
    rw [appI_ok (by simp; omega)]; simp only [Option.bind_some, wrap_succ (show i < 9223372036854775807 by omega)]
    exact ⟨_, rfl, rs', by rw [← bfS_succ' hlt, acc_succ hlt, bfR_succ' hlt], hR'⟩) (by
    rintro s ⟨rs, rfl, hR⟩
    unfold m_s_l11Number_l0
    simp only
    rw [if_neg (by have := hN.1; simp; omega)]) (s := ([nth c a.1], [a.1], 0, 0, [], [])) ⟨[a.1], rfl, rfl, fun j hj => by
      obtain rfl : j = 0 := by simpa [bfS] using hj
      exact ⟨⟨hst.1, hst.2, hs⟩, rfl⟩⟩ (up63 (by omega))
  rw [bindL_brk e]
  simp only
  rw [List.take_of_length_le (by have := hN.1; omega)]
theorem s_numb_dead (V : VA a n) (hlv : lv.length = n) (hs : nth lv a.1 = false) : m_s_l11Number a c lv = some nothing := by
  have hst := V.start
  unfold m_s_l11Number
  rw [getI_nth hst.1 (by omega)]; simp only [Option.bind_some]
  rw [hs, s_nothing]; rfl
end
end Go.Proofs.YtimjccbdngajoaaGreat.D
/- Subsets numbered from the first one on, so many at most: the reference and the program find the same automaton. -/
set_option linter.unusedVariables false
set_option linter.unusedSimpArgs false
set_option linter.unnecessarySimpa false
set_option linter.unusedSectionVars false
namespace Go.Proofs.YtimjccbdngajoaaGreat.D
open Go.RowKit

abbrev PosT := (List Int) × Int × Int × (List Int) × Bool
abbrev bitI (x : Int) (j : Nat) : Bool := (andI (shrI x (j : Int)) 1) == 1
def gath (F : List Int) (set m0 : Int) : Nat → Int
  | 0 => m0
  | i + 1 => if bitI set (i + 1) then orI (gath F set m0 i) (nth F (i : Int)) else gath F set m0 i
def pick (L : List Int) (m letter : Int) : Nat → Int
  | 0 => 0
  | i + 1 => if nth L (i : Int) = letter ∧ bitI m i = true then orI (pick L m letter i) (shlI 1 ((i + 1 : Nat) : Int)) else pick L m letter i
def aft (p : PosT) (set letter : Int) : Int := pick p.1 (gath p.2.2.2.1 set (if (andI set 1) == 1 then p.2.1 else 0) p.2.2.2.1.length) letter p.1.length
def accP1 (p : PosT) (set : Int) : Bool := if (andI set 1) == 1 then (if p.2.2.2.2 then true else (andI (shrI set 1) p.2.2.1) != 0) else (andI (shrI set 1) p.2.2.1) != 0
theorem chk_nat (i : Nat) : chk (0 ≤ (i : Int)) = some () := by unfold chk; rw [if_pos (by omega)]
theorem s_after {p : PosT} {set letter : Int} (hl : p.2.2.2.1.length = p.1.length) (hb : p.1.length ≤ 1000000) : m_s_l10After p set letter = some (aft p set letter) := by
  have h0 : ∀ m0, loopM (m_s_l10After_l0 p set) FUEL (m0, 0) = some (.brk (gath p.2.2.2.1 set m0 p.1.length, (p.1.length : Int))) := fun m0 =>
    loopM_at (f := m_s_l10After_l0 p set) (fun i => (gath p.2.2.2.1 set m0 i, (i : Int))) p.1.length (fun i hi => by
      unfold m_s_l10After_l0
      simp only
      rw [if_pos (by simp; omega), wrap_succ (by omega), chk_nat]; simp only [Option.bind_some]
      rw [gath]
      by_cases c : bitI set (i + 1) = true
      · rw [if_pos c, if_pos c, getI_nth (by omega) (by omega)]; rfl
      · rw [if_neg c, if_neg c]; rfl) (by unfold m_s_l10After_l0; simp) (up63 (by omega))
  have h1 : ∀ s7 : Int × Int, loopM (m_s_l10After_l1 p letter s7) FUEL (0, 0) = some (.brk (pick p.1 s7.1 letter p.1.length, (p.1.length : Int))) := fun s7 =>
    loopM_at (f := m_s_l10After_l1 p letter s7) (fun i => (pick p.1 s7.1 letter i, (i : Int))) p.1.length (fun i hi => by
      unfold m_s_l10After_l1
      simp only
      rw [if_pos (by simp; omega), wrap_succ (by omega), chk_nat, chk_nat]; simp only [Option.bind_some]
      rw [pick]
      by_cases c : bitI s7.1 i = true
      · rw [if_pos c, getI_nth (by omega) (by omega)]; simp only [Option.bind_some]
        by_cases d : nth p.1 (i : Int) = letter
        · rw [if_pos (by simpa using d), if_pos ⟨d, c⟩]; rfl
        · rw [if_neg (by simpa using d), if_neg (fun h => d h.1)]; rfl
      · rw [if_neg c, if_neg (fun h => c h.2)]; rfl) (by unfold m_s_l10After_l1; simp) (up63 (by omega))
  unfold m_s_l10After aft
  rw [hl]
  by_cases c : ((andI set 1) == 1) = true
  · rw [if_pos c, if_pos c]; simp only [Option.bind_some]
    rw [bindL_brk (h0 _), bindL_brk (h1 _)]
  · rw [if_neg c, if_neg c]; simp only [Option.bind_some]
    rw [bindL_brk (h0 _), bindL_brk (h1 _)]
theorem i_after {p : PosT} {set letter : Int} (hl : p.2.2.2.1.length = p.1.length) (hb : p.1.length ≤ 1000000) : m_i_Positions_after p set letter = some (aft p set letter) := by
  have h0 : ∀ m0, loopM (m_i_Positions_after_l0 p set) FUEL (m0, 0) = some (.brk (gath p.2.2.2.1 set m0 p.2.2.2.1.length, (p.2.2.2.1.length : Int))) := fun m0 =>
    loopM_at (f := m_i_Positions_after_l0 p set) (fun i => (gath p.2.2.2.1 set m0 i, (i : Int))) p.2.2.2.1.length (fun i hi => by
      unfold m_i_Positions_after_l0
      simp only
      rw [if_pos (by simp; omega), getI_nth (by omega) (by omega)]; simp only [Option.bind_some]
      rw [wrap_succ (by omega), chk_nat]; simp only [Option.bind_some]
      rw [gath]
      by_cases c : bitI set (i + 1) = true
      · rw [if_pos c, if_pos c]; rfl
      · rw [if_neg c, if_neg c]; rfl) (by unfold m_i_Positions_after_l0; simp) (up63 (by omega))
  have h1 : ∀ s7 : Int × Int, loopM (m_i_Positions_after_l1 p letter s7) FUEL (0, 0) = some (.brk (pick p.1 s7.1 letter p.1.length, (p.1.length : Int))) := fun s7 =>
    loopM_at (f := m_i_Positions_after_l1 p letter s7) (fun i => (pick p.1 s7.1 letter i, (i : Int))) p.1.length (fun i hi => by
      unfold m_i_Positions_after_l1
      simp only
      rw [if_pos (by simp; omega), getI_nth (by omega) (by omega)]; simp only [Option.bind_some]
      rw [wrap_succ (by omega), chk_nat, chk_nat]; simp only [Option.bind_some]
      rw [pick]
      by_cases d : nth p.1 (i : Int) = letter
      · rw [if_pos (by simpa using d)]
        by_cases c : bitI s7.1 i = true
        · rw [if_pos c, if_pos ⟨d, c⟩]; rfl
        · rw [if_neg c, if_neg (fun h => c h.2)]; rfl
      · rw [if_neg (by simpa using d), if_neg (fun h => d h.1)]; rfl) (by unfold m_i_Positions_after_l1; simp) (up63 (by omega))
  unfold m_i_Positions_after aft
  by_cases c : ((andI set 1) == 1) = true
  · rw [if_pos c, if_pos c]; simp only [Option.bind_some]
    rw [bindL_brk (h0 _), bindL_brk (h1 _)]
  · rw [if_neg c, if_neg c]; simp only [Option.bind_some]
    rw [bindL_brk (h0 _), bindL_brk (h1 _)]
theorem s_acc1 (p : PosT) (x : Int) : m_s_l10Accepts p x = some (accP1 p x) := by
  unfold m_s_l10Accepts accP1
  split <;> (try split) <;> rfl
theorem i_acc1 (p : PosT) (x : Int) : m_i_Positions_accepts p x = some (accP1 p x) := by
  unfold m_i_Positions_accepts accP1
  split <;> (try split) <;> rfl
/-! ### Sets are numbers -/
theorem wrap_range (x : Int) : -9223372036854775808 ≤ IntKind.i64.wrap x ∧ IntKind.i64.wrap x ≤ 9223372036854775807 := by
  simp only [IntKind.wrap, IntKind.bits, IntKind.signed, Bool.true_and]
  split <;> rename_i h <;> simp at h <;> omega
theorem wrap_ok (x : Int) : iOk (IntKind.i64.wrap x) = true := by
  have h1 : IntKind.i64.min = -9223372036854775808 := by decide
  have h2 : IntKind.i64.max = 9223372036854775807 := by decide
  have h3 := wrap_range x
  simp only [iOk, Lit.wf, h1, h2, Bool.and_eq_true, decide_eq_true_eq]
  omega
theorem orI_ok (m n : Int) : iOk (orI m n) = true := wrap_ok _
theorem pick_ok (L : List Int) (m letter : Int) : ∀ i, iOk (pick L m letter i) = true
  | 0 => by unfold pick; decide
  | i + 1 => by
    rw [pick]
    split
    · exact orI_ok _ _
    · exact pick_ok L m letter i
def nxS (p : PosT) (x : Int) : List (Option Int) := (List.range 9).map fun k : Nat => if aft p x (k : Int) = 0 then none else some (aft p x (k : Int))
theorem nxS_at {p : PosT} {x : Int} {k : Nat} (hk : k < 9) : nth (nxS p x) (k : Int) = if aft p x k = 0 then none else some (aft p x k) := by
  have : k < (nxS p x).length := by simp [nxS]; omega
  rw [nth_nat this]; simp [nxS]
theorem nxS_len (p : PosT) (x : Int) : (nxS p x).length = 9 := by simp [nxS]
theorem nxS_ok {p : PosT} {x y : Int} (h : some y ∈ nxS p x) : iOk y = true := by
  obtain ⟨k, hk, e⟩ := List.mem_map.1 h
  split at e
  · cases e
  · obtain rfl := Option.some.inj e
    exact pick_ok _ _ _ _
theorem nbS_le {κ : Type} [DecidableEq κ] : ∀ (l : List κ) (os : List (Option κ)), (nbS l os).length ≤ l.length + os.length
  | l, [] => by simp [nbS]
  | l, o :: os => by
    have h := nbS_le (nbL l o) os
    have h2 : (nbL l o).length ≤ l.length + 1 := by
      cases o with
      | none => simp [nbL]
      | some x => unfold nbL; simp only; split <;> simp
    show (nbS (nbL l o) os).length ≤ _
    simp only [List.length_cons]; omega
/-! ### So many at most -/
section
variable {κ : Type} [DecidableEq κ] (nx : κ → List (Option κ)) (first : κ) (acc : κ → Bool) (most : Nat)
def goM : Nat → Nat → AutT × Bool
  | 0, i => ((0, [], []), false)
  | f + 1, i => if i < (bfS nx first i).length then (if (bfS nx first (i + 1)).length > most then ((0, [], []), false) else goM f (i + 1)) else ((0, ((bfS nx first i).take i).map acc, bfR nx first i), true)
end
section
variable {κ : Type} [DecidableEq κ] {nx : κ → List (Option κ)} {first : κ} {acc : κ → Bool} {most : Nat}
theorem seen_le {i : Nat} (h : ∀ j, j < i → j < (bfS nx first j).length) : i ≤ (bfS nx first i).length := by
  cases i with
  | zero => omega
  | succ i =>
    have h1 := h i (by omega)
    have h2 := (bfS_step_prefix (nx := nx) (first := first) i).length_le
    omega
/-- a loop that numbers, and gives up behind so many -/
theorem goM_loop {S : Type} {f : S → Option (Out (AutT × Bool) S)} (hm : most ≤ 1000000) (h1 : 1 ≤ most) (st : Nat → S → Prop)
    (hs : ∀ i s, st i s → (∀ j, j < i → j < (bfS nx first j).length) → (bfS nx first i).length ≤ most → i < (bfS nx first i).length → ((bfS nx first (i + 1)).length > most → f s = some (.ret ((0, [], []), false))) ∧ ((bfS nx first (i + 1)).length ≤ most → ∃ s', f s = some (.nxt s') ∧ st (i + 1) s'))
    (he : ∀ i s, st i s → ¬ i < (bfS nx first i).length → f s = some (.brk s)) {s : S} (h0 : st 0 s) :
    (loopM f FUEL s = some (.ret ((0, [], []), false)) ∧ goM nx first acc most (most + 2) 0 = ((0, [], []), false)) ∨
    ∃ N s', loopM f FUEL s = some (.brk s') ∧ st N s' ∧ bfE nx first N ∧ N ≤ most ∧ goM nx first acc most (most + 2) 0 = ((0, (bfS nx first N).map acc, bfR nx first N), true) := by
  obtain ⟨o, e, hq⟩ := loopM_go (f := f) (fun i s => st i s ∧ (∀ j, j < i → j < (bfS nx first j).length) ∧ (bfS nx first i).length ≤ most ∧ goM nx first acc most (most + 2) 0 = goM nx first acc most (most + 2 - i) i)
    (fun o => (o = .ret ((0, [], []), false) ∧ goM nx first acc most (most + 2) 0 = ((0, [], []), false)) ∨ ∃ N s', o = .brk s' ∧ st N s' ∧ bfE nx first N ∧ N ≤ most ∧ goM nx first acc most (most + 2) 0 = ((0, (bfS nx first N).map acc, bfR nx first N), true)) most (s := s) (by
    rintro i s hi ⟨k1, k2, k3, k4⟩
    have hle := seen_le k2
    rw [show most + 2 - i = (most + 1 - i) + 1 from by omega] at k4
    have k5 : goM nx first acc most (most + 1 - i + 1) i = if i < (bfS nx first i).length then (if (bfS nx first (i + 1)).length > most then ((0, [], []), false) else goM nx first acc most (most + 1 - i) (i + 1)) else ((0, ((bfS nx first i).take i).map acc, bfR nx first i), true) := rfl
    rw [k5] at k4
    by_cases c : i < (bfS nx first i).length
    · rw [if_pos c] at k4
      obtain ⟨q1, q2⟩ := hs i s k1 k2 k3 c
      by_cases d : (bfS nx first (i + 1)).length > most
      · rw [if_pos d] at k4
        exact .inr ⟨_, q1 d, (fun s' e => by cases e), .inl ⟨rfl, k4⟩⟩
      · rw [if_neg d] at k4
        obtain ⟨s', e, hs'⟩ := q2 (by omega)
        exact .inl ⟨by omega, s', e, hs', fun j hj => (by
          by_cases ej : j = i
          · subst ej; exact c
          · exact k2 j (by omega)), by omega, by rw [k4]; congr 1; omega⟩
    · rw [if_neg c] at k4
      refine .inr ⟨_, he i s k1 c, (fun s' e => by cases e), .inr ⟨i, s, rfl, k1, ⟨by omega, k2⟩, hi, ?_⟩⟩
      rw [k4, List.take_of_length_le (by omega)]) ⟨h0, fun j hj => by omega, by simp [bfS]; omega, rfl⟩ (up63 (by omega))
  rcases hq with ⟨rfl, h⟩ | ⟨N, s', rfl, h⟩
  · exact .inl ⟨e, h⟩
  · exact .inr ⟨N, s', e, h⟩
end
section
variable {p : PosT} {most : Nat} (hl : p.2.2.2.1.length = p.1.length) (hb : p.1.length ≤ 1000000) (hm : most ≤ 900000) (h1 : 1 ≤ most)
include hl hb hm h1
theorem i_det : m_i_determinize p most = some (goM (nxS p) 1 (accP1 p) most (most + 2) 0) := by
  have hp3 : ∀ (l : List Int) (i k : Nat), k < 9 → ∃ j, (fun a0 a1 => m_i_determinize_1 a0 a1 (p.1, p.2.1, p.2.2.1, p.2.2.2.1, p.2.2.2.2)) (nth l (i : Int)) (k : Int) = some (match nth (nxS p (nth l (i : Int))) (k : Int) with | some y => (y, true) | none => (j, false)) := by
    intro l i k hk
    refine ⟨0, ?_⟩
    show m_i_determinize_1 _ _ p = _
    unfold m_i_determinize_1
    simp only [peta]
    rw [i_after hl hb, nxS_at hk]; simp only [Option.bind_some]
    by_cases c : aft p (nth l (i : Int)) k = 0
    · rw [if_pos c]; simp [c]
    · rw [if_neg c]; simp [c]
  unfold m_i_determinize m_i_numbered_int
  rw [show putM ([] : List (Int × Int)) iOk iOk 1 0 = some [(1, 0)] from by unfold putM; rw [if_pos ⟨by simp, by decide, by decide⟩]]; simp only [Option.bind_some]
  rcases goM_loop (nx := nxS p) (first := 1) (acc := accP1 p) (most := most) (f := m_i_numbered_int_l0 most (fun a0 => m_i_Positions_accepts (p.1, p.2.1, p.2.2.1, p.2.2.2.1, p.2.2.2.2) a0) (fun a0 a1 => m_i_determinize_1 a0 a1 (p.1, p.2.1, p.2.2.1, p.2.2.2.1, p.2.2.2.2)))
    (by omega) h1 (fun i s => ∃ M, s = (bfS (nxS p) 1 i, M, (i : Int), 0, ((bfS (nxS p) 1 i).take i).map (accP1 p), bfR (nxS p) 1 i) ∧ MapOf M (bfS (nxS p) 1 i)) (by
      rintro i s ⟨M, rfl, hM⟩ hj hle hlt
      have hil := seen_le hj
      obtain ⟨M', e, hM'⟩ := i_numb_in (p3 := fun a0 a1 => m_i_determinize_1 a0 a1 (p.1, p.2.1, p.2.2.1, p.2.2.2.1, p.2.2.2.2)) (l := bfS (nxS p) 1 i) (M := M) (os := nxS p (nth (bfS (nxS p) 1 i) (i : Int))) (acs := ((bfS (nxS p) 1 i).take i).map (accP1 p)) (rws := bfR (nxS p) 1 i) hlt (nxS_len _ _) hM (fun y hy => nxS_ok hy)
        (fun k => by
          have := nbS_le (bfS (nxS p) 1 i) ((nxS p (nth (bfS (nxS p) 1 i) (i : Int))).take k)
          have h9 := nxS_len p (nth (bfS (nxS p) 1 i) (i : Int))
          rw [List.length_take] at this
          omega) (fun k hk => hp3 _ i k hk)
      rw [← bfS_succ' hlt] at hM'
      have hl2 := (bfS_step_prefix (nx := nxS p) (first := 1) i).length_le
      constructor
      · intro hgt
        unfold m_i_numbered_int_l0
        simp only
        rw [if_pos (by simp; omega), bindL_brk e, ← bfS_succ' hlt]
        simp only
        rw [if_pos (by simp; omega)]
      · intro hle2
        unfold m_i_numbered_int_l0
        simp only
        rw [if_pos (by simp; omega), bindL_brk e, ← bfS_succ' hlt]
        simp only
        rw [if_neg (by simp; omega), getI_nth (by omega) (by omega)]; simp only [Option.bind_some]
        rw [prefix_nth (bfS_step_prefix i) (by omega) (by omega)]
        simp only [peta]
        rw [i_acc1]; simp only [Option.bind_some]
        have hr : (bfR (nxS p) 1 i).length = i := bfR_length hj
        rw [appI_ok (by simp; omega)]; simp only [Option.bind_some]
        rw [appI_ok (by simp; omega)]; simp only [Option.bind_some, wrap_succ (show i < 9223372036854775807 by omega)]
        exact ⟨_, rfl, M', by rw [acc_succ hlt, bfR_succ' hlt], hM'⟩) (by
      rintro i s ⟨M, rfl, hM⟩ hn
      unfold m_i_numbered_int_l0
      simp only
      rw [if_neg (by simp; omega)]) (s := ([1], [(1, 0)], 0, 0, [], [])) ⟨_, rfl, MapOf.one 1⟩ with ⟨e, hg⟩ | ⟨N, s', e, ⟨M, rfl, hM⟩, hN, hNm, hg⟩
  · rw [bindL_ret e, hg]; rfl
  · rw [bindL_brk e, hg]; simp only [Option.bind_some]
    rw [List.take_of_length_le (by have := hN.1; omega)]
theorem s_det_in {l : List Int} {acs : List Bool} {rws : List (List Int)} {i : Nat} (hi : i < l.length) (hle : l.length ≤ most) :
    loopM (m_s_l11Subsets_l1 p (l, (i : Int), 0, acs, rws)) FUEL (l, [], 0) = some (.brk (nbS l (nxS p (nth l (i : Int))), nbR l (nxS p (nth l (i : Int))), 9)) := by
  have h9 := nxS_len p (nth l (i : Int))
  have := loopM_at (f := m_s_l11Subsets_l1 p (l, (i : Int), 0, acs, rws)) (fun k => (nbS l ((nxS p (nth l (i : Int))).take k), nbR l ((nxS p (nth l (i : Int))).take k), (k : Int))) 9 (fun k hk => by
    have hpre := nbS_prefix l ((nxS p (nth l (i : Int))).take k)
    have hlen := hpre.length_le
    have hB := nbS_le l ((nxS p (nth l (i : Int))).take k)
    rw [List.length_take] at hB
    have hrl : (nbR l ((nxS p (nth l (i : Int))).take k)).length ≤ 9 := by rw [nbR_length, List.length_take]; omega
    unfold m_s_l11Subsets_l1
    simp only [peta]
    rw [if_pos (by simp; omega), getI_nth (by omega) (by omega)]; simp only [Option.bind_some]
    rw [prefix_nth hpre (by omega) (by omega), s_after hl hb]; simp only [Option.bind_some]
    rw [take_one (by omega), nbS_snoc, nbR_snoc, nxS_at hk]
    simp only [wrap_succ (show k < 9223372036854775807 by omega)]
    by_cases c : aft p (nth l (i : Int)) k = 0
    · rw [if_pos c, if_neg (by simp [c])]; simp only [Option.bind_some]
      rw [appI_ok (by simp; omega)]; rfl
    · rw [if_neg c, if_pos (by simpa using c), s_find (by omega)]; simp only [Option.bind_some]
      by_cases d : aft p (nth l (i : Int)) k ∈ nbS l ((nxS p (nth l (i : Int))).take k)
      · rw [if_pos d, if_neg (by simp), nbL_old d]; simp only [Option.bind_some]
        rw [appI_ok (by simp; omega)]; rfl
      · rw [if_neg d, if_pos (by decide), appI_ok (by simp; omega), nbL_new d]; simp only [Option.bind_some]
        rw [appI_ok (by simp; omega)]; simp only [nbI, idxOf_nbL d, Option.bind_some]) (by
    unfold m_s_l11Subsets_l1
    simp) (by unfold FUEL; omega)
  have e9 : (nxS p (nth l (i : Int))).take 9 = nxS p (nth l (i : Int)) := List.take_of_length_le (by omega)
  rw [e9] at this
  exact this
theorem s_det : m_s_l11Subsets p most = some (goM (nxS p) 1 (accP1 p) most (most + 2) 0) := by
  unfold m_s_l11Subsets
  rcases goM_loop (nx := nxS p) (first := 1) (acc := accP1 p) (most := most) (f := m_s_l11Subsets_l0 p most)
    (by omega) h1 (fun i s => s = (bfS (nxS p) 1 i, (i : Int), 0, ((bfS (nxS p) 1 i).take i).map (accP1 p), bfR (nxS p) 1 i)) (by
      rintro i s rfl hj hle hlt
      have hil := seen_le hj
      have e := s_det_in hl hb hm h1 (acs := ((bfS (nxS p) 1 i).take i).map (accP1 p)) (rws := bfR (nxS p) 1 i) hlt hle
      have hl2 := (bfS_step_prefix (nx := nxS p) (first := 1) i).length_le
      constructor
      · intro hgt
        unfold m_s_l11Subsets_l0
        simp only
        rw [if_pos (by simp; omega), bindL_brk e, ← bfS_succ' hlt]
        simp only
        rw [if_pos (by simp; omega)]
      · intro hle2
        unfold m_s_l11Subsets_l0
        simp only
        rw [if_pos (by simp; omega), bindL_brk e, ← bfS_succ' hlt]
        simp only
        rw [if_neg (by simp; omega), getI_nth (by omega) (by omega)]; simp only [Option.bind_some]
        rw [prefix_nth (bfS_step_prefix i) (by omega) (by omega)]
        simp only [peta]
        rw [s_acc1]; simp only [Option.bind_some]
        have hr : (bfR (nxS p) 1 i).length = i := bfR_length hj
        rw [appI_ok (by simp; omega)]; simp only [Option.bind_some]
        rw [appI_ok (by simp; omega)]; simp only [Option.bind_some, wrap_succ (show i < 9223372036854775807 by omega)]
        exact ⟨_, rfl, by rw [acc_succ hlt, bfR_succ' hlt]⟩) (by
      rintro i s rfl hn
      unfold m_s_l11Subsets_l0
      simp only
      rw [if_neg (by simp; omega)]) (s := ([1], 0, 0, [], [])) rfl with ⟨e, hg⟩ | ⟨N, s', e, rfl, hN, hNm, hg⟩
  · rw [bindL_ret e, hg]
  · rw [bindL_brk e, hg]; simp only
    rw [List.take_of_length_le (by have := hN.1; omega)]
end
end Go.Proofs.YtimjccbdngajoaaGreat.D
/- Positions of an expression: the reference and the program build the same. -/
set_option linter.unusedVariables false
set_option linter.unusedSimpArgs false
set_option linter.unnecessarySimpa false
set_option linter.unusedSectionVars false
namespace Go.Proofs.YtimjccbdngajoaaGreat.D
open Go.RowKit

theorem orI_comm (m n : Int) : orI m n = orI n m := by unfold orI; rw [BitVec.or_comm]
/-- a set is followed by a set -/
def lk (F : List Int) (from_ to_ : Int) : Nat → List Int
  | 0 => F
  | i + 1 => if bitI from_ i then (lk F from_ to_ i).set i (orI (nth (lk F from_ to_ i) (i : Int)) to_) else lk F from_ to_ i
theorem lk_len (F : List Int) (f t : Int) : ∀ i, (lk F f t i).length = F.length
  | 0 => rfl
  | i + 1 => by
    rw [lk]
    split
    · rw [List.length_set, lk_len]
    · exact lk_len F f t i
theorem s_link {p : PosT} {f t : Int} (hl : p.2.2.2.1.length ≤ 1000000) : m_s_l10Link p f t = some (p.1, p.2.1, p.2.2.1, lk p.2.2.2.1 f t p.2.2.2.1.length, p.2.2.2.2) := by
  have hL : loopM (m_s_l10Link_l0 f t) FUEL (0, p.2.2.2.1) = some (.brk ((p.2.2.2.1.length : Int), lk p.2.2.2.1 f t p.2.2.2.1.length)) := loopM_at (f := m_s_l10Link_l0 f t) (fun i => ((i : Int), lk p.2.2.2.1 f t i)) p.2.2.2.1.length (fun i hi => by
    have hk := lk_len p.2.2.2.1 f t i
    unfold m_s_l10Link_l0
    simp only
    rw [if_pos (by simp; omega), chk_nat]; simp only [Option.bind_some]
    rw [lk, wrap_succ (by omega)]
    by_cases c : bitI f i = true
    · rw [if_pos c, if_pos c, getI_nth (by omega) (by omega)]; simp only [Option.bind_some, Int.toNat_natCast]
    · rw [if_neg c, if_neg c]; rfl) (by unfold m_s_l10Link_l0; simp [lk_len]) (up63 (by omega))
  unfold m_s_l10Link
  rw [bindL_brk hL]
theorem i_follow {p : PosT} {f t : Int} (hl : p.2.2.2.1.length ≤ 1000000) : m_i_Positions_follow p f t = some (p.1, p.2.1, p.2.2.1, lk p.2.2.2.1 f t p.2.2.2.1.length, p.2.2.2.2) := by
  have hL : loopM (m_i_Positions_follow_l0 p f t) FUEL (0, p.2.2.2.1) = some (.brk ((p.2.2.2.1.length : Int), lk p.2.2.2.1 f t p.2.2.2.1.length)) := loopM_at (f := m_i_Positions_follow_l0 p f t) (fun i => ((i : Int), lk p.2.2.2.1 f t i)) p.2.2.2.1.length (fun i hi => by
    have hk := lk_len p.2.2.2.1 f t i
    unfold m_i_Positions_follow_l0
    simp only
    rw [if_pos (by simp; omega), chk_nat]; simp only [Option.bind_some]
    rw [lk, wrap_succ (by omega)]
    by_cases c : bitI f i = true
    · rw [if_pos c, if_pos c, getI_nth (by omega) (by omega)]; simp only [Option.bind_some, Int.toNat_natCast]
    · rw [if_neg c, if_neg c]; rfl) (by unfold m_i_Positions_follow_l0; simp) (up63 (by omega))
  unfold m_i_Positions_follow
  rw [bindL_brk hL]
/-- both build the same: null, first, last; positions -/
def BOk (x : Tr Tok) : Prop := ∀ (n m : Nat) (p : PosT), (flat x).length ≤ n → (flat x).length ≤ m → p.2.2.2.1.length = p.1.length → p.1.length + (flat x).length ≤ 100000 →
  ∃ (nu : Bool) (fi la : Int) (q : PosT), m_s_l10Build n p (flat x) = some ((nu, fi, la), q) ∧ m_i_Positions_build m p x = some ((fi, la, nu), q) ∧ q.2.2.2.1.length = q.1.length ∧ q.1.length ≤ p.1.length + (flat x).length
theorem build_ok {x : Tr Tok} (h : WT x) : BOk x := by
  refine WT.ind (p := BOk) ?_ ?_ ?_ h
  · intro t e n m p hn hm hF hl
    rw [flat0] at hn hm hl ⊢
    simp only [List.length_cons, List.length_nil] at hl
    match n, m, hn, hm with
    | n + 1, m + 1, _, _ =>
      rw [m_s_l10Build, m_i_Positions_build]; simp only [tr_get, Option.bind_some]
      have := (last_tok (A := []) (t := t) (by simp)).1
      rw [List.nil_append] at this
      rw [this]; simp only [Option.bind_some, peta]
      rcases ar_kind (show 0 ≤ ar t by omega) with ⟨k, _⟩ | ⟨k, _⟩ | ⟨_, k⟩
      · omega
      · omega
      rcases k with k | k | k
      · exact ⟨false, 0, 0, p, by simp [k], by simp [k], hF, by simp⟩
      · exact ⟨true, 0, 0, p, by simp [k], by simp [k], hF, by simp⟩
      · refine ⟨false, shlI 1 (p.1.length : Int), shlI 1 (p.1.length : Int), (p.1 ++ [t.2.1], p.2.1, p.2.2.1, p.2.2.2.1 ++ [0], p.2.2.2.2), ?_, ?_, by simp [hF], by simp⟩
        · rw [if_neg (by simp [k]), if_pos (by simp [k]), appI_ok (by simp; omega)]; simp only [Option.bind_some]
          rw [appI_ok (by simp; omega)]; rfl
        · rw [if_neg (by simp [k]), if_pos (by simp [k]), appI_ok (by simp; omega)]; simp only [Option.bind_some]
          rw [appI_ok (by simp; omega)]; rfl
  · intro t a e wa ih n m p hn hm hF hl
    rw [flat1] at hn hm hl ⊢
    simp only [List.length_append, List.length_cons, List.length_nil] at hn hm hl
    match n, m, hn, hm with
    | n + 1, m + 1, hn, hm =>
      rw [m_s_l10Build, m_i_Positions_build]; simp only [tr_get, Option.bind_some, peta]
      obtain ⟨l1, l2⟩ := last_tok (A := flat a) (t := t) (by omega)
      rw [l1]; simp only [Option.bind_some]
      obtain ⟨nu, fi, la, q, hs, hi, hq1, hq2⟩ := ih n m p (by omega) (by omega) hF (by omega)
      rcases kind1 e with ⟨k1, k2⟩ | ⟨k1, k2, k3⟩
      · have g2 : (t.1 == 2) = false := by simp [k2]
        have g3 : (t.1 == 3) = false := by simp [k2]
        have g4 : (t.1 == 4) = false := by simp [k2]
        have g5 : (t.1 == 5) = false := by simp [k2]
        simp only [g2, g3, g4, g5, k1, Bool.false_eq_true, if_false, if_true]
        rw [l2, Int.toNat_natCast, List.take_left, chk_of (by simp only [List.length_append, List.length_cons, List.length_nil]; omega)]; simp only [Option.bind_some]
        rw [hs, show getI [a] 0 = some a from rfl]; simp only [Option.bind_some]
        rw [hi]; simp only [Option.bind_some, peta]
        rw [s_link (by omega), i_follow (by omega)]; simp only [Option.bind_some]
        refine ⟨true, fi, la, _, rfl, rfl, ?_, ?_⟩
        · simp only [lk_len]; exact hq1
        · simp only [List.length_append, List.length_cons, List.length_nil]; omega
      · have g2 : (t.1 == 2) = false := by simp [k3]
        have g3 : (t.1 == 3) = false := by simp [k3]
        have g4 : (t.1 == 4) = false := by simp [k3]
        have g5 : (t.1 == 5) = false := by simp [k3]
        simp only [g2, g3, g4, g5, k1, Bool.false_eq_true, if_false]
        exact ⟨false, 0, 0, p, rfl, rfl, hF, by omega⟩
  · intro t a b e wa wb iha ihb n m p hn hm hF hl
    rw [flat2] at hn hm hl ⊢
    have hl2 : ((flat a ++ flat b) ++ [t]).length ≤ 1000000 := by omega
    obtain ⟨p1, p2, p3, p4⟩ := two_parts (a := a) (t := t) wb hl2
    simp only [List.length_append, List.length_cons, List.length_nil] at hn hm hl
    match n, m, hn, hm with
    | n + 1, m + 1, hn, hm =>
      have hpa := wa.pos
      have hpb := wb.pos
      rw [m_s_l10Build, m_i_Positions_build]; simp only [tr_get, Option.bind_some, peta]
      obtain ⟨l1, l2⟩ := last_tok (A := flat a ++ flat b) (t := t) (by rw [List.length_append]; omega)
      rw [l1]; simp only [Option.bind_some]
      obtain ⟨nu, fi, la, q, hs, hi, hq1, hq2⟩ := iha n m p (by omega) (by omega) hF (by omega)
      obtain ⟨nu2, fi2, la2, q2, hs2, hi2, hq3, hq4⟩ := ihb n m q (by omega) (by omega) hq1 (by omega)
      have c1 : ∀ r : Int, 0 ≤ r → r ≤ ((flat a ++ flat b ++ [t]).length : Int) → chk (0 ≤ r ∧ r ≤ ((flat a ++ flat b ++ [t]).length : Int)) = some () := fun r h1 h2 => chk_of ⟨h1, h2⟩
      have g0 : getI [a, b] 0 = some a := rfl
      have g1 : getI [a, b] 1 = some b := rfl
      rcases ar_kind (show 0 ≤ ar t by omega) with ⟨_, k⟩ | ⟨k, _⟩ | ⟨k, _⟩
      · rcases k with k | k
        · have g2 : (t.1 == 2) = false := by simp [k]
          have g3 : (t.1 == 3) = false := by simp [k]
          have g4 : (t.1 == 4) = true := by simp [k]
          have g5 : (t.1 == 5) = false := by simp [k]
          simp only [g2, g3, g4, g5, Bool.false_eq_true, if_false, if_true]
          rw [l2, p1, p2, chk_of (by simp only [List.length_append, List.length_cons, List.length_nil]; omega)]; simp only [Option.bind_some]
          rw [chk_of (by simp only [List.length_append, List.length_cons, List.length_nil]; omega), p3, p4, hs, g0, g1]; simp only [Option.bind_some]
          rw [hi, chk_of (by simp only [List.length_append, List.length_cons, List.length_nil]; omega)]; simp only [Option.bind_some, peta]
          rw [hs2, hi2]; simp only [Option.bind_some, peta]
          rw [s_link (by omega), i_follow (by omega)]; simp only [Option.bind_some]
          refine ⟨nu && nu2, if nu then orI fi fi2 else fi, if nu2 then orI la la2 else la2, (q2.1, q2.2.1, q2.2.2.1, lk q2.2.2.2.1 la fi2 q2.2.2.2.1.length, q2.2.2.2.2), ?_, ?_, ?_, ?_⟩
          · cases nu <;> cases nu2 <;> rfl
          · rw [orI_comm la la2]
            cases nu <;> cases nu2 <;> rfl
          · simp only [lk_len]; exact hq3
          · simp only [List.length_append, List.length_cons, List.length_nil]; omega
        · have g2 : (t.1 == 2) = false := by simp [k]
          have g3 : (t.1 == 3) = false := by simp [k]
          have g4 : (t.1 == 4) = false := by simp [k]
          have g5 : (t.1 == 5) = true := by simp [k]
          simp only [g2, g3, g4, g5, Bool.false_eq_true, if_false, if_true]
          rw [l2, p1, p2, chk_of (by simp only [List.length_append, List.length_cons, List.length_nil]; omega)]; simp only [Option.bind_some]
          rw [chk_of (by simp only [List.length_append, List.length_cons, List.length_nil]; omega), p3, p4, hs, g0, g1]; simp only [Option.bind_some]
          rw [hi, chk_of (by simp only [List.length_append, List.length_cons, List.length_nil]; omega)]; simp only [Option.bind_some, peta]
          rw [hs2, hi2]; simp only [Option.bind_some, peta]
          refine ⟨nu || nu2, orI fi fi2, orI la la2, q2, ?_, ?_, hq3, ?_⟩
          · cases nu <;> simp
          · cases nu <;> simp
          · simp only [List.length_append, List.length_cons, List.length_nil]; omega
      · omega
      · omega
/-- so many letters -/
def cnt3 (e : List Tok) : Nat → Nat
  | 0 => 0
  | i + 1 => if (nth e (i : Int)).1 = 3 then cnt3 e i + 1 else cnt3 e i
theorem cnt3_le (e : List Tok) : ∀ i, cnt3 e i ≤ i
  | 0 => Nat.le_refl _
  | i + 1 => by
    have := cnt3_le e i
    rw [cnt3]; split <;> omega
theorem s_cnt {r : List Tok × Bool} (hl : r.1.length ≤ 1000000) : loopM (m_s_BuildPositions_l0 r) FUEL (0, 0) = some (.brk ((cnt3 r.1 r.1.length : Int), (r.1.length : Int))) :=
  loopM_at (f := m_s_BuildPositions_l0 r) (fun i => ((cnt3 r.1 i : Int), (i : Int))) r.1.length (fun i hi => by
    have := cnt3_le r.1 i
    unfold m_s_BuildPositions_l0
    simp only
    rw [if_pos (by simp; omega), getI_nth (by omega) (by omega)]; simp only [Option.bind_some]
    rw [cnt3, wrap_succ (show i < 9223372036854775807 by omega), wrap_succ (show cnt3 r.1 i < 9223372036854775807 by omega)]
    by_cases c : (nth r.1 (i : Int)).1 = 3
    · rw [if_pos (by simpa using c), if_pos c]; rfl
    · rw [if_neg (by simpa using c), if_neg c]; rfl) (by unfold m_s_BuildPositions_l0; simp) (up63 (by omega))
theorem i_cnt {r : List Tok × Bool} (hl : r.1.length ≤ 1000000) : loopM (m_i_BuildPositions_l0 r) FUEL (0, 0) = some (.brk ((cnt3 r.1 r.1.length : Int), (r.1.length : Int))) :=
  loopM_at (f := m_i_BuildPositions_l0 r) (fun i => ((cnt3 r.1 i : Int), (i : Int))) r.1.length (fun i hi => by
    have := cnt3_le r.1 i
    unfold m_i_BuildPositions_l0
    simp only
    rw [if_pos (by simp; omega), getI_nth (by omega) (by omega)]; simp only [Option.bind_some]
    rw [cnt3, wrap_succ (show i < 9223372036854775807 by omega), wrap_succ (show cnt3 r.1 i < 9223372036854775807 by omega)]
    by_cases c : (nth r.1 (i : Int)).1 = 3
    · rw [if_pos (by simpa using c), if_pos c]; rfl
    · rw [if_neg (by simpa using c), if_neg c]; rfl) (by unfold m_i_BuildPositions_l0; simp) (up63 (by omega))
theorem buildPositions_both {e : List Tok} (he : e.length ≤ 1048576) : ∃ r : PosT × Bool, m_s_BuildPositions e = some r ∧ m_i_BuildPositions e = some r ∧ r.1.2.2.2.1.length = r.1.1.length ∧ r.1.1.length ≤ 100000 := by
  have hF := FUELR_big
  obtain ⟨e1, e2⟩ := expand_both he
  unfold m_s_BuildPositions m_i_BuildPositions
  rw [e1, e2]; simp only [Option.bind_some]
  by_cases c : (expR e).2 = true
  · obtain ⟨y, wy, ey, ly⟩ := expR_ok c
    rw [if_pos c, if_pos c, bindL_brk (s_cnt (by rw [ey]; omega)), bindL_brk (i_cnt (by rw [ey]; omega))]
    simp only
    by_cases d : (cnt3 (expR e).1 (expR e).1.length : Int) > 20
    · have d' : decide ((cnt3 (expR e).1 (expR e).1.length : Int) > 20) = true := decide_eq_true d
      simp only [d', if_true]
      exact ⟨_, rfl, rfl, rfl, by simp⟩
    · have d' : decide ((cnt3 (expR e).1 (expR e).1.length : Int) > 20) = false := decide_eq_false d
      simp only [d', Bool.false_eq_true, if_false]
      rw [ey, i_treeOf (by omega), treeX_flat wy]; simp only [Option.bind_some]
      obtain ⟨nu, fi, la, q, hs, hi, hq1, hq2⟩ := build_ok wy FUELR FUELR ([], 0, 0, [], false) (by omega) (by omega) rfl (by simp; omega)
      rw [hs, hi]; simp only [Option.bind_some]
      exact ⟨_, rfl, rfl, hq1, by simp at hq2; show q.1.length ≤ _; omega⟩
  · rw [if_neg c, if_neg c]
    exact ⟨_, rfl, rfl, rfl, by simp⟩
end Go.Proofs.YtimjccbdngajoaaGreat.D
/- Classes of states and the minimal automaton, by the reference and by the program. -/
set_option linter.unusedVariables false
set_option linter.unusedSimpArgs false
set_option linter.unnecessarySimpa false
set_option linter.unusedSectionVars false
namespace Go.Proofs.YtimjccbdngajoaaGreat.D
open Go.RowKit

/-! ### Numberings that refine -/
theorem nbI_stable {κ : Type} [DecidableEq κ] {l m : List κ} (h : l <+: m) {y : κ} (hy : y ∈ l) : (m.idxOf y : Int) = l.idxOf y := by
  obtain ⟨t, rfl⟩ := h
  rw [List.idxOf_append, if_pos hy]
theorem nbR_at {κ : Type} [DecidableEq κ] : ∀ (l : List κ) (os : List (Option κ)) (i : Nat), i < os.length → nth (nbR l os) (i : Int) = nbI (nbS l os) (nth os (i : Int))
  | l, o :: os, 0, _ => by
    show nbI l o = nbI (nbS (nbL l o) os) o
    cases o with
    | none => rfl
    | some y =>
      have hm : y ∈ nbL l (some y) := mem_nbL.2 (.inr rfl)
      simp only [nbI]
      rw [nbI_stable (nbS_prefix _ os) hm]
      by_cases c : y ∈ l
      · rw [nbL_old c]
      · rw [nbL_new c, List.idxOf_append, if_neg c, idxOf_nbL c]; simp
  | l, o :: os, i + 1, h => by
    have h' : i < os.length := by simpa using h
    have ih := nbR_at (nbL l o) os i h'
    have e1 : nth (nbR l (o :: os)) ((i + 1 : Nat) : Int) = nth (nbR (nbL l o) os) (i : Int) := by
      rw [nth_nat (by rw [nbR_length]; exact h), nth_nat (by rw [nbR_length]; exact h')]; rfl
    have e2 : nth (o :: os) ((i + 1 : Nat) : Int) = nth os (i : Int) := by rw [nth_nat h, nth_nat h']; rfl
    rw [e1, e2]; exact ih
theorem nbI_mem {κ : Type} [DecidableEq κ] {l : List κ} {y : κ} (h : y ∈ l) : ∃ (q : Nat) (hq : q < l.length), nbI l (some y) = (q : Int) ∧ l[q] = y :=
  ⟨l.idxOf y, List.idxOf_lt_length_of_mem h, rfl, by simp⟩
theorem nbI_new {κ : Type} [DecidableEq κ] {l : List κ} {y : κ} (h : y ∉ l) : nbI l (some y) = (l.length : Int) := by simp only [nbI, idxOf_nbL h]
/-- a numbering in the order of the first places, from c on to m -/
def Norm : List Int → Nat → Nat → Prop
  | [], c, m => c = m
  | x :: xs, c, m => (x = -1 ∧ Norm xs c m) ∨ (0 ≤ x ∧ x < c ∧ Norm xs c m) ∨ (x = c ∧ Norm xs (c + 1) m)
theorem norm_nb {κ : Type} [DecidableEq κ] : ∀ (os : List (Option κ)) (l : List κ), Norm (nbR l os) l.length (nbS l os).length
  | [], l => rfl
  | none :: os, l => .inl ⟨rfl, norm_nb os l⟩
  | some y :: os, l => by
    by_cases c : y ∈ l
    · refine .inr (.inl ⟨Int.natCast_nonneg _, ?_, ?_⟩)
      · have := List.idxOf_lt_length_of_mem c
        simp only [nbI]; omega
      · show Norm (nbR (nbL l (some y)) os) l.length (nbS (nbL l (some y)) os).length
        rw [nbL_old c]; exact norm_nb os l
    · refine .inr (.inr ⟨by simp only [nbI, idxOf_nbL c], ?_⟩)
      show Norm (nbR (nbL l (some y)) os) (l.length + 1) (nbS (nbL l (some y)) os).length
      have := norm_nb os (l ++ [y])
      rw [nbL_new c]
      simpa using this
def RelL : List Int → List (Option (List Int)) → Prop
  | [], [] => True
  | x :: xs, o :: os => ((x < 0 ∧ o = none) ∨ (0 ≤ x ∧ ∃ t, o = some (x :: t))) ∧ RelL xs os
  | _, _ => False
theorem relL_of : ∀ (xs : List Int) (os : List (Option (List Int))), xs.length = os.length → (∀ i (h : i < xs.length) (h' : i < os.length), (xs[i] < 0 ∧ os[i] = none) ∨ (0 ≤ xs[i] ∧ ∃ t, os[i] = some (xs[i] :: t))) → RelL xs os
  | [], [], _, _ => trivial
  | x :: xs, o :: os, hl, h => ⟨h 0 (by simp) (by simp), relL_of xs os (by simpa using hl) fun i h1 h2 => h (i + 1) (by simpa using h1) (by simpa using h2)⟩
/-- a refinement has as many numbers at least; if no more, it is the same -/
theorem norm_refine : ∀ (xs : List Int) (os : List (Option (List Int))) (l : List (List Int)) (c m : Nat), RelL xs os → Norm xs c m → (∀ y ∈ l, ∃ h t, y = h :: t ∧ h < c) →
    m + l.length ≤ (nbS l os).length + c ∧ (l.length = c → (∀ (q : Nat) (hq : q < l.length), ∃ t, l[q] = (q : Int) :: t) → (nbS l os).length = m → nbR l os = xs)
  | [], [], l, c, m, _, hn, _ => by
    have hn : c = m := hn
    subst hn
    exact ⟨by simp [nbS]; omega, fun _ _ _ => rfl⟩
  | x :: xs, o :: os, l, c, m, hr, hn, hh => by
    obtain ⟨hr1, hr2⟩ := hr
    rcases hn with ⟨rfl, hn⟩ | ⟨hx0, hxc, hn⟩ | ⟨rfl, hn⟩
    · have ho : o = none := by
        rcases hr1 with ⟨-, h⟩ | ⟨h, -⟩
        · exact h
        · omega
      subst ho
      obtain ⟨i1, i2⟩ := norm_refine xs os l c m hr2 hn hh
      exact ⟨i1, fun h1 h2 h3 => by show -1 :: nbR l os = _; rw [i2 h1 h2 h3]⟩
    · obtain ⟨t, rfl⟩ : ∃ t, o = some (x :: t) := by
        rcases hr1 with ⟨h, -⟩ | ⟨-, h⟩
        · omega
        · exact h
      by_cases k : (x :: t) ∈ l
      · obtain ⟨i1, i2⟩ := norm_refine xs os l c m hr2 hn hh
        have hb : nbL l (some (x :: t)) = l := nbL_old k
        refine ⟨by show m + l.length ≤ (nbS (nbL l (some (x :: t))) os).length + c; rw [hb]; exact i1, fun h1 h2 h3 => ?_⟩
        have h3 : (nbS (nbL l (some (x :: t))) os).length = m := h3
        rw [hb] at h3
        obtain ⟨q, hq, e1, e2⟩ := nbI_mem k
        obtain ⟨t', ht'⟩ := h2 _ hq
        rw [e2] at ht'
        have : x = (q : Int) := by injection ht'
        show nbI l (some (x :: t)) :: nbR (nbL l (some (x :: t))) os = _
        rw [e1, ← this, hb, i2 h1 h2 h3]
      · have hb : nbL l (some (x :: t)) = l ++ [x :: t] := nbL_new k
        obtain ⟨i1, i2⟩ := norm_refine xs os (l ++ [x :: t]) c m hr2 hn (fun y hy => by
          rcases List.mem_append.1 hy with hy | hy
          · exact hh y hy
          · obtain rfl := List.mem_singleton.1 hy
            exact ⟨x, t, rfl, hxc⟩)
        rw [List.length_append, List.length_singleton] at i1
        refine ⟨by show m + l.length ≤ (nbS (nbL l (some (x :: t))) os).length + c; rw [hb]; omega, fun h1 h2 h3 => ?_⟩
        have h3 : (nbS (nbL l (some (x :: t))) os).length = m := h3
        rw [hb] at h3
        omega
    · obtain ⟨t, rfl⟩ : ∃ t, o = some ((c : Int) :: t) := by
        rcases hr1 with ⟨h, -⟩ | ⟨-, h⟩
        · omega
        · exact h
      have k : ((c : Int) :: t) ∉ l := fun k => by
        obtain ⟨h, t', e, hlt⟩ := hh _ k
        have : (c : Int) = h := by injection e
        omega
      have hb : nbL l (some ((c : Int) :: t)) = l ++ [(c : Int) :: t] := nbL_new k
      obtain ⟨i1, i2⟩ := norm_refine xs os (l ++ [(c : Int) :: t]) (c + 1) m hr2 hn (fun y hy => by
        rcases List.mem_append.1 hy with hy | hy
        · obtain ⟨h, t', e, hlt⟩ := hh y hy
          exact ⟨h, t', e, by omega⟩
        · obtain rfl := List.mem_singleton.1 hy
          exact ⟨c, t, rfl, by omega⟩)
      have hlen : (l ++ [(c : Int) :: t]).length = l.length + 1 := by simp
      rw [hlen] at i1
      refine ⟨by show m + l.length ≤ (nbS (nbL l (some ((c : Int) :: t))) os).length + c; rw [hb]; omega, fun h1 h2 h3 => ?_⟩
      have h3 : (nbS (nbL l (some ((c : Int) :: t))) os).length = m := h3
      rw [hb] at h3
      have := i2 (by rw [hlen, h1]) (fun q hq => by
        by_cases e : q < l.length
        · rw [List.getElem_append_left e]; exact h2 q e
        · have e : q = l.length := by omega
          subst e
          exact ⟨t, by simp; omega⟩) h3
      show nbI l (some ((c : Int) :: t)) :: nbR (nbL l (some ((c : Int) :: t))) os = _
      rw [hb, this, nbI_new k, h1]

/-! ### Comparing rows -/
theorem q_l2Cmp (xs ys : List Int) (hN : xs.length ≤ 1048576) : ∃ r, m_s_l2Cmp xs ys = some r ∧ (r = 0 ↔ xs = ys) := by
  unfold m_s_l2Cmp
  have h0 := cmpGo (f := m_s_l2Cmp_l0 xs ys) xs ys (fun i h h' => by
    simp only [m_s_l2Cmp_l0, lt_nat h, lt_nat h', if_true, getI_nat h, getI_nat h', Option.bind_some, wrap_succ (show i < 9223372036854775807 by omega)]
    by_cases h1 : xs[i] < ys[i]
    · simp [h1]
    · by_cases h2 : xs[i] > ys[i]
      · simp [h1, h2]
      · simp [h1, h2]) (fun i hi => by
    simp only [m_s_l2Cmp_l0]
    by_cases h1 : i < xs.length
    · have h2 : ¬ i < ys.length := by omega
      simp [h1, h2]
    · simp [h1]) xs.length 0 FUEL (by omega) (fuelUp _ (by omega))
  rw [show (((0 : Nat) : Int)) = (0 : Int) from rfl] at h0
  rcases h0 with ⟨r, e, h1, h2⟩ | ⟨s, e, h1⟩
  · exact ⟨r, by rw [e]; rfl, by simp [h1, h2]⟩
  · rw [e]
    simp only [bindL]
    by_cases c1 : xs.length < ys.length
    · exact ⟨-1, by simp [c1], by simp; intro e; subst e; omega⟩
    · by_cases c2 : xs.length > ys.length
      · exact ⟨1, by simp [c1, c2], by simp; intro e; subst e; omega⟩
      · exact ⟨0, by simp [c1, c2], by simpa using h1 (by omega)⟩
theorem q_sliceEq (xs ys : List Int) (hN : xs.length ≤ 9223372036854775807) : m_g_slices_Equal_S_int_int xs ys = some (decide (xs = ys)) :=
  eqL (f := m_g_slices_Equal_S_int_int_l0 xs ys) xs ys hN (fun i h h' => by
    simp only [m_g_slices_Equal_S_int_int_l0, lt_nat h, if_true, getI_nat h, getI_nat h', Option.bind_some, wrap_succ (show i < 9223372036854775807 by omega)]
    by_cases c : xs[i] = ys[i] <;> simp [c]) (by simp only [m_g_slices_Equal_S_int_int_l0, lt_self]; rfl)

/-! ### Classes -/
def cls0 (a : AutT) : List Int := (List.range a.2.1.length).map fun s : Nat => if nth (live a) (s : Int) = true then (if nth a.2.1 (s : Int) = true then 1 else 0) else -1
def ent (a : AutT) (c : List Int) (s : Int) (k : Nat) : Int := if mv a s k < 0 then -1 else nth c (mv a s k)
def keyL (a : AutT) (c : List Int) (s : Int) : List Int := nth c s :: (List.range 9).map fun k => ent a c s k
def keyO (a : AutT) (c : List Int) (s : Nat) : Option (List Int) := if nth c (s : Int) < 0 then none else some (keyL a c s)
def keys (a : AutT) (c : List Int) : List (Option (List Int)) := (List.range a.2.1.length).map (keyO a c)
def refn (a : AutT) (c : List Int) : List Int := nbR [] (keys a c)
def refN (a : AutT) (c : List Int) : Nat := (nbS [] (keys a c)).length
def cI (a : AutT) : Nat → List Int
  | 0 => cls0 a
  | j + 1 => refn a (cI a j)
section
variable {a : AutT} {n : Nat}
theorem keys_length (a : AutT) (c : List Int) : (keys a c).length = a.2.1.length := by simp [keys]
theorem keys_at {c : List Int} {s : Nat} (h : s < a.2.1.length) : nth (keys a c) (s : Int) = keyO a c s := by
  rw [nth_nat (by simpa [keys] using h)]; simp [keys]
theorem refn_length (a : AutT) (c : List Int) : (refn a c).length = a.2.1.length := by rw [refn, nbR_length, keys_length]
theorem cI_length (a : AutT) : ∀ j, (cI a j).length = a.2.1.length
  | 0 => by simp [cI, cls0]
  | j + 1 => refn_length a _
theorem nbS_length_le {κ : Type} [DecidableEq κ] : ∀ (l : List κ) (os : List (Option κ)), (nbS l os).length ≤ l.length + os.length
  | l, [] => by simp [nbS]
  | l, o :: os => by
    have h := nbS_length_le (nbL l o) os
    have : (nbL l o).length ≤ l.length + 1 := by
      cases o with
      | none => simp [nbL]
      | some x => unfold nbL; simp only; split <;> simp
    show (nbS (nbL l o) os).length ≤ _
    rw [List.length_cons]; omega
theorem refN_le (a : AutT) (c : List Int) : refN a c ≤ a.2.1.length := by
  have := nbS_length_le ([] : List (List Int)) (keys a c)
  rw [keys_length] at this
  simpa [refN] using this
theorem refn_at {c : List Int} {s : Nat} (h : s < a.2.1.length) : nth (refn a c) (s : Int) = nbI (nbS [] (keys a c)) (keyO a c s) := by
  rw [refn, nbR_at _ _ _ (by rw [keys_length]; exact h), keys_at h]
theorem key_mem {c : List Int} {s : Nat} (h : s < a.2.1.length) (hc : ¬ nth c (s : Int) < 0) : keyL a c s ∈ nbS [] (keys a c) := by
  refine mem_nbS.2 (.inr ?_)
  refine List.mem_map.2 ⟨s, List.mem_range.2 h, ?_⟩
  unfold keyO; rw [if_neg hc]
theorem refn_neg {c : List Int} {s : Nat} (h : s < a.2.1.length) : (nth (refn a c) (s : Int) < 0 ↔ nth c (s : Int) < 0) ∧ (nth (refn a c) (s : Int) < 0 → nth (refn a c) (s : Int) = -1) := by
  rw [refn_at h]
  unfold keyO
  by_cases hc : nth c (s : Int) < 0
  · rw [if_pos hc]; simp [nbI, hc]
  · rw [if_neg hc]
    obtain ⟨q, hq, e, -⟩ := nbI_mem (key_mem h hc)
    rw [e]
    exact ⟨⟨fun h => by omega, fun h => absurd h hc⟩, fun h => by omega⟩
theorem refn_lt {c : List Int} {s : Nat} (h : s < a.2.1.length) : nth (refn a c) (s : Int) < (a.2.1.length : Int) := by
  rw [refn_at h]
  unfold keyO
  by_cases hc : nth c (s : Int) < 0
  · rw [if_pos hc]; simp only [nbI]; omega
  · rw [if_neg hc]
    obtain ⟨q, hq, e, -⟩ := nbI_mem (key_mem h hc)
    have := refN_le a c
    unfold refN at this
    rw [e]; omega
/-- alike in the refinement: alike in all that the key says -/
theorem refn_eq {c : List Int} {s t : Nat} (hs : s < a.2.1.length) (ht : t < a.2.1.length) (h0 : 0 ≤ nth (refn a c) (s : Int)) (h : nth (refn a c) (s : Int) = nth (refn a c) (t : Int)) : keyL a c s = keyL a c t := by
  have n1 : ¬ nth c (s : Int) < 0 := fun k => by have := (refn_neg hs).1.2 k; omega
  have n2 : ¬ nth c (t : Int) < 0 := fun k => by have := (refn_neg ht).1.2 k; omega
  rw [refn_at hs, refn_at ht] at h
  unfold keyO at h
  rw [if_neg n1, if_neg n2] at h
  obtain ⟨q, hq, e1, e2⟩ := nbI_mem (key_mem hs n1)
  obtain ⟨q', hq', e1', e2'⟩ := nbI_mem (key_mem ht n2)
  rw [e1, e1'] at h
  obtain rfl : q = q' := by omega
  rw [← e2, ← e2']
theorem cI_neg (a : AutT) {s : Nat} (h : s < a.2.1.length) : ∀ j, (nth (cI a j) (s : Int) < 0 ↔ nth (live a) (s : Int) = false) ∧ (nth (cI a j) (s : Int) < 0 → nth (cI a j) (s : Int) = -1)
  | 0 => by
    have e : nth (cI a 0) (s : Int) = if nth (live a) (s : Int) = true then (if nth a.2.1 (s : Int) = true then 1 else 0) else -1 := by
      show nth (cls0 a) (s : Int) = _
      rw [nth_nat (by simpa [cls0] using h)]; simp [cls0]
    rw [e]
    cases nth (live a) (s : Int) <;> cases nth a.2.1 (s : Int) <;> simp
  | j + 1 => by
    have ih := cI_neg a h j
    have := refn_neg (c := cI a j) h
    exact ⟨this.1.trans ih.1, this.2⟩
theorem cI_acc (a : AutT) {s t : Nat} (hs : s < a.2.1.length) (ht : t < a.2.1.length) : ∀ j, 0 ≤ nth (cI a j) (s : Int) → nth (cI a j) (s : Int) = nth (cI a j) (t : Int) → nth a.2.1 (s : Int) = nth a.2.1 (t : Int)
  | 0, h0, h => by
    have e : ∀ {s : Nat}, s < a.2.1.length → nth (cI a 0) (s : Int) = if nth (live a) (s : Int) = true then (if nth a.2.1 (s : Int) = true then 1 else 0) else -1 := by
      intro s h
      show nth (cls0 a) (s : Int) = _
      rw [nth_nat (by simpa [cls0] using h)]; simp [cls0]
    rw [e hs] at h0 h
    rw [e ht] at h
    revert h0 h
    cases nth (live a) (s : Int) <;> cases nth a.2.1 (s : Int) <;> cases nth (live a) (t : Int) <;> cases nth a.2.1 (t : Int) <;> simp
  | j + 1, h0, h => by
    have k := refn_eq (c := cI a j) hs ht h0 h
    have h1 : nth (cI a j) (s : Int) = nth (cI a j) (t : Int) := by
      unfold keyL at k; injection k
    refine cI_acc a hs ht j ?_ h1
    have := (refn_neg (c := cI a j) hs).1
    by_cases q : nth (cI a j) (s : Int) < 0
    · have := this.2 q
      have h0 : 0 ≤ nth (refn a (cI a j)) (s : Int) := h0
      omega
    · omega
theorem cI_norm (a : AutT) (j : Nat) : Norm (cI a (j + 1)) 0 (refN a (cI a j)) := norm_nb (keys a (cI a j)) []
theorem rel_keys (a : AutT) {c : List Int} (hc : c.length = a.2.1.length) : RelL c (keys a c) := by
  refine relL_of _ _ (by rw [keys_length, hc]) fun i h h' => ?_
  have e1 : c[i] = nth c (i : Int) := (nth_nat h).symm
  have e2 : (keys a c)[i] = keyO a c i := by simp [keys]
  rw [e1, e2]
  unfold keyO
  by_cases k : nth c (i : Int) < 0
  · exact .inl ⟨k, by rw [if_pos k]⟩
  · exact .inr ⟨by omega, _, by rw [if_neg k]; rfl⟩
theorem cI_grow (a : AutT) (j : Nat) : refN a (cI a j) ≤ refN a (cI a (j + 1)) ∧ (refN a (cI a (j + 1)) = refN a (cI a j) → cI a (j + 2) = cI a (j + 1)) := by
  obtain ⟨h1, h2⟩ := norm_refine (cI a (j + 1)) (keys a (cI a (j + 1))) [] 0 (refN a (cI a j)) (rel_keys a (cI_length a _)) (cI_norm a j) (fun y hy => by cases hy)
  exact ⟨by simpa [refN] using h1, fun h => h2 rfl (fun q hq => absurd hq (Nat.not_lt_zero q)) h⟩
theorem cI_fix {j k : Nat} (h : cI a (j + 1) = cI a j) (hk : j ≤ k) : cI a k = cI a j := by
  induction hk with
  | refl => rfl
  | step _ ih => rw [cI, ih]; exact h
theorem cI_fix_eq {j k : Nat} (h : cI a (j + 1) = cI a j) (h' : cI a (k + 1) = cI a k) : cI a j = cI a k := by
  rcases Nat.le_total j k with e | e
  · exact (cI_fix h e).symm
  · exact cI_fix h' e
theorem cI_stop (a : AutT) : ∃ j, j ≤ a.2.1.length ∧ cI a (j + 1) = cI a j := by
  by_cases h0 : cI a 1 = cI a 0
  · exact ⟨0, Nat.zero_le _, h0⟩
  have hpos : 1 ≤ refN a (cI a 0) := by
    refine Nat.one_le_iff_ne_zero.2 fun hz => h0 ?_
    have hnone : ∀ s : Nat, s < a.2.1.length → nth (cI a 0) (s : Int) < 0 := fun s hs => by
      refine Classical.byContradiction fun k => ?_
      have := key_mem (c := cI a 0) hs k
      have hl := List.length_pos_of_mem this
      unfold refN at hz; omega
    refine ext_nth (by rw [cI_length, cI_length]) fun i hi => ?_
    rw [cI_length] at hi
    have h1 := (cI_neg a hi 0).2 (hnone i hi)
    have h2 := (cI_neg a hi 1).2 (((cI_neg a hi 1).1.trans (cI_neg a hi 0).1.symm).2 (hnone i hi))
    rw [h1, h2]
  have key : ∀ m, (∃ j, j ≤ m ∧ cI a (j + 1) = cI a j) ∨ m + 1 ≤ refN a (cI a m) := by
    intro m
    induction m with
    | zero => exact .inr hpos
    | succ m ih =>
      rcases ih with ⟨j, hj, e⟩ | ih
      · exact .inl ⟨j, by omega, e⟩
      · obtain ⟨g1, g2⟩ := cI_grow a m
        by_cases e : refN a (cI a (m + 1)) = refN a (cI a m)
        · exact .inl ⟨m + 1, Nat.le_refl _, g2 e⟩
        · exact .inr (by omega)
  rcases key a.2.1.length with h | h
  · exact h
  · have := refN_le a (cI a a.2.1.length); omega
end
end Go.Proofs.YtimjccbdngajoaaGreat.D
/- The classes and the minimal automaton as the reference and the program reckon them. -/
set_option linter.unusedVariables false
set_option linter.unusedSimpArgs false
set_option linter.unnecessarySimpa false
set_option linter.unusedSectionVars false
namespace Go.Proofs.YtimjccbdngajoaaGreat.D
open Go.RowKit

section
variable {a : AutT} {n : Nat} {c : List Int}
theorem ent_snoc (k : Nat) (s : Int) : (List.range (k + 1)).map (fun k => ent a c s k) = (List.range k).map (fun k => ent a c s k) ++ [ent a c s k] := by simp [List.range_succ]
theorem s_key (V : VA a n) (hn : n ≤ 1000000) (hc : c.length = n) {s : Nat} (hs : s < n) : m_s_l12Key a c s = some (keyL a c s) := by
  unfold m_s_l12Key
  rw [getI_nth (by omega) (by omega)]; simp only [Option.bind_some]
  have := loopM_at (f := m_s_l12Key_l0 a c s) (fun k => (nth c (s : Int) :: (List.range k).map (fun k => ent a c s k), (k : Int))) 9 (fun k hk => by
    have hm := V.mv (s := s) (k := k) (by omega) (by omega) hk
    unfold m_s_l12Key_l0
    simp only
    rw [if_pos (by simp; omega), V.get (by omega) (by omega)]; simp only [Option.bind_some]
    rw [V.get2 (by omega) (by omega) hk, ent_snoc]; simp only [Option.bind_some, wrap_succ (show k < 9223372036854775807 by omega)]
    by_cases h : mv a s k < 0
    · rw [if_pos (by simpa using h), appI_ok (by simp; omega), show ent a c s k = -1 from by unfold ent; rw [if_pos h]]; rfl
    · rw [if_neg (by simpa using h), getI_nth (by omega) (by omega)]; simp only [Option.bind_some]
      rw [appI_ok (by simp; omega), show ent a c s k = nth c (mv a s k) from by unfold ent; rw [if_neg h]]; rfl) (by unfold m_s_l12Key_l0; simp) (by unfold FUEL; omega)
  exact bindL_brk this
theorem i_key (V : VA a n) (hn : n ≤ 1000000) (hc : c.length = n) {s : Nat} (hs : s < n) : loopM (m_i_Automaton_refine_l1 c (nth a.2.2 (s : Int))) FUEL (0, [nth c (s : Int)]) = some (.brk (9, keyL a c s)) := by
  have hr := V.rowAt (s := s) (by omega) (by omega)
  exact loopM_at (f := m_i_Automaton_refine_l1 c (nth a.2.2 (s : Int))) (fun k => ((k : Int), nth c (s : Int) :: (List.range k).map (fun k => ent a c s k))) 9 (fun k hk => by
    have hm := V.mv (s := s) (k := k) (by omega) (by omega) hk
    unfold m_i_Automaton_refine_l1
    simp only
    rw [if_pos (by simp [hr]; omega), V.get2 (by omega) (by omega) hk, ent_snoc]; simp only [Option.bind_some, wrap_succ (show k < 9223372036854775807 by omega)]
    by_cases h : mv a s k < 0
    · have e : mv a s k = -1 := by omega
      rw [if_neg (by simp; omega)]; simp only [Option.bind_some]
      rw [appI_ok (by simp; omega), show ent a c s k = mv a s k from by unfold ent; rw [if_pos h, e]]; rfl
    · rw [if_pos (by simp; omega), getI_nth (by omega) (by omega)]; simp only [Option.bind_some]
      rw [appI_ok (by simp; omega), show ent a c s k = nth c (mv a s k) from by unfold ent; rw [if_neg h]]; rfl) (by unfold m_i_Automaton_refine_l1; simp [hr]) (by unfold FUEL; omega)
theorem nbI_first {κ : Type} [DecidableEq κ] {l t r : List κ} {x : κ} (e : l = t ++ x :: r) (hx : x ∉ t) : nbI l (some x) = (t.length : Int) := by
  subst e
  simp only [nbI]
  rw [List.idxOf_append, if_neg hx, List.idxOf_cons_self, Nat.zero_add]
def seek (l : List (List Int)) (x : List Int) : Int := if x ∈ l then nbI l (some x) else -1
theorem set_nth {α : Type} [Inhabited α] {xs : List α} {i : Nat} (h : i < xs.length) : xs.set i (nth xs (i : Int)) = xs := by
  rw [nth_nat h]
  exact List.set_getElem_self h
theorem s_seek {l : List (List Int)} {x cs : List Int} {q : Int} (hl : l.length ≤ 1000000) (hd : l.Nodup) (hx : ∀ y ∈ l, y.length ≤ 1048576) : loopM (m_s_l12Classes_l3 (l, cs, q) x) FUEL (-1, 0) = some (.brk (seek l x, (l.length : Int))) := by
  have := loopM_at (f := m_s_l12Classes_l3 (l, cs, q) x) (fun k => (if x ∈ l.take k then nbI l (some x) else -1, (k : Int))) l.length (fun k hk => by
    unfold m_s_l12Classes_l3
    simp only
    rw [if_pos (by simp; omega), getI_nth (by omega) (by omega)]; simp only [Option.bind_some, Int.toNat_natCast, wrap_succ (show k < 9223372036854775807 by omega)]
    obtain ⟨r, e, hr⟩ := q_l2Cmp (nth l (k : Int)) x (hx _ (nth_mem (by omega) (by omega)))
    rw [e, take_one hk]; simp only [Option.bind_some, List.mem_append, List.mem_singleton]
    by_cases h : nth l (k : Int) = x
    · have h0 : r = 0 := hr.2 h
      have hm : x ∈ l := h ▸ nth_mem (by omega) (by omega)
      obtain ⟨q, hq, e1, e2⟩ := nbI_mem hm
      have : q = k := by
        have h1 : l[q]? = some x := by rw [List.getElem?_eq_getElem hq, e2]
        have h2 : l[k]? = some x := by rw [List.getElem?_eq_getElem hk, ← nth_nat hk, h]
        exact (List.getElem?_inj hq hd).1 (h1.trans h2.symm)
      subst this
      rw [if_pos (by simp [h0]), if_pos (.inr h.symm), e1]; rfl
    · have h0 : r ≠ 0 := fun e => h (hr.1 e)
      have hn : ¬ x = nth l (k : Int) := fun e => h e.symm
      rw [if_neg (by simpa using h0)]
      simp [hn]) (by unfold m_s_l12Classes_l3; simp) (up63 (by omega))
  rw [List.take_of_length_le (Nat.le_refl _)] at this
  exact this
theorem i_seek {l : List (List Int)} {x : List Int} {f : List Int → Option Bool} (hl : l.length ≤ 1000000) (hf : ∀ y ∈ l, f y = some (decide (y = x))) : m_g_slices_IndexFunc_S_S_int_S_int l f = some (seek l x) := by
  unfold m_g_slices_IndexFunc_S_S_int_S_int
  obtain ⟨o, e, hq⟩ := loopM_go (f := m_g_slices_IndexFunc_S_S_int_S_int_l0 l f) (fun k s => s = (k : Int) ∧ x ∉ l.take k) (fun o => (x ∈ l ∧ o = .ret (nbI l (some x))) ∨ (x ∉ l ∧ ∃ s, o = .brk s)) l.length (s := 0) (by
    rintro k s hk ⟨rfl, hx⟩
    unfold m_g_slices_IndexFunc_S_S_int_S_int_l0
    by_cases hkl : k < l.length
    · rw [if_pos (by simp; omega), getI_nth (by omega) (by omega)]; simp only [Option.bind_some]
      rw [hf _ (nth_mem (by omega) (by omega))]; simp only [Option.bind_some]
      by_cases h : nth l (k : Int) = x
      · refine .inr ⟨_, by rw [if_pos (by simpa using h)], (fun s' e => by cases e), .inl ?_⟩
        have hm : x ∈ l := h ▸ nth_mem (by omega) (by omega)
        refine ⟨hm, ?_⟩
        have e : l = l.take k ++ (x :: l.drop (k + 1)) := by
          rw [← h, nth_nat hkl, ← List.drop_eq_getElem_cons hkl, List.take_append_drop]
        rw [nbI_first e hx, List.length_take, Nat.min_eq_left (by omega)]
      · refine .inl ⟨hkl, _, by rw [if_neg (by simpa using h)], by rw [wrap_succ (by omega)], ?_⟩
        rw [take_one hkl, List.mem_append, List.mem_singleton]
        rintro (h' | h')
        · exact hx h'
        · exact h h'.symm
    · refine .inr ⟨_, by rw [if_neg (by simp; omega)], (fun s' e => by cases e), .inr ⟨?_, _, rfl⟩⟩
      rwa [List.take_of_length_le (by omega)] at hx) ⟨rfl, by simp⟩ (up63 (by omega))
  unfold seek
  rcases hq with ⟨hx, rfl⟩ | ⟨hx, s, rfl⟩
  · rw [bindL_ret e, if_pos hx]
  · rw [bindL_brk e, if_neg hx]
theorem kinds_short {os : List (Option (List Int))} (h : ∀ y, some y ∈ os → y.length = 10) : ∀ y ∈ nbS [] os, y.length = 10 := fun y hy => by
  rcases mem_nbS.1 hy with hy | hy
  · cases hy
  · exact h y hy
theorem keys_short (a : AutT) (c : List Int) : ∀ y, some y ∈ keys a c → y.length = 10 := by
  intro y hy
  obtain ⟨s, -, e⟩ := List.mem_map.1 hy
  unfold keyO at e
  split at e
  · cases e
  · rw [← Option.some.inj e]; simp [keyL]
section
variable (V : VA a n) (hn : n ≤ 1000000) (hc : c.length = n)
include V hn hc
theorem kinds_le (s : Nat) : (nbS [] ((keys a c).take s)).length ≤ n := by
  have := nbS_length_le ([] : List (List Int)) ((keys a c).take s)
  rw [List.length_take, keys_length, V.len] at this
  simp at this; omega
theorem s_refine {m : Int} : loopM (m_s_l12Classes_l2 a (c, m)) FUEL ([], [], 0) = some (.brk (nbS [] (keys a c), refn a c, (n : Int))) := by
  have hlen := V.len
  have := loopM_at (f := m_s_l12Classes_l2 a (c, m)) (fun s => (nbS [] ((keys a c).take s), nbR [] ((keys a c).take s), (s : Int))) n (fun s hs => by
    have hkl := kinds_le V hn hc s
    have hrl : (nbR [] ((keys a c).take s)).length ≤ n := by rw [nbR_length, List.length_take, keys_length]; omega
    unfold m_s_l12Classes_l2
    simp only
    rw [if_pos (by simp; omega), getI_nth (by omega) (by omega)]; simp only [Option.bind_some]
    rw [take_one (by rw [keys_length]; omega), nbS_snoc, nbR_snoc, keys_at (by omega)]
    simp only [wrap_succ (show s < 9223372036854775807 by omega)]
    by_cases h : nth c (s : Int) < 0
    · rw [if_pos (by simpa using h), appI_ok (by simp; omega), show keyO a c s = none from by unfold keyO; rw [if_pos h]]; rfl
    · rw [if_neg (by simpa using h), show keyO a c s = some (keyL a c s) from by unfold keyO; rw [if_neg h]]
      rw [show m_s_l12Key (a.1, a.2.1, a.2.2) c (s : Int) = some (keyL a c s) from s_key V hn hc hs]; simp only [Option.bind_some]
      rw [bindL_brk (s_seek (by omega) (nbS_nodup (by simp)) (fun y hy => by rw [kinds_short (fun y hy => keys_short a c y (List.mem_of_mem_take hy)) y hy]; decide))]
      simp only
      unfold seek
      by_cases k : keyL a c s ∈ nbS [] ((keys a c).take s)
      · obtain ⟨q, hq, e1, e2⟩ := nbI_mem k
        rw [if_pos k, nbL_old k, e1, if_neg (by simp)]; simp only [Option.bind_some]
        rw [appI_ok (by simp; omega)]; rfl
      · rw [if_neg k, nbL_new k, nbI_new k, if_pos (show decide ((-1 : Int) < 0) = true from rfl), appI_ok (by simp; omega)]; simp only [Option.bind_some]
        rw [appI_ok (by simp; omega)]; rfl) (by
    unfold m_s_l12Classes_l2
    simp only
    rw [if_neg (by simp; omega)]) (up63 (by omega))
  rw [show (keys a c).take n = keys a c from List.take_of_length_le (by rw [keys_length]; omega)] at this
  exact this
theorem i_refine : m_i_Automaton_refine a c = some (refn a c, (refN a c : Int)) := by
  have hlen := V.len
  unfold m_i_Automaton_refine
  have := loopM_at (f := m_i_Automaton_refine_l0 a c) (fun s => (nbS [] ((keys a c).take s), nbR [] ((keys a c).take s), (s : Int))) n (fun s hs => by
    have hkl := kinds_le V hn hc s
    have hrl : (nbR [] ((keys a c).take s)).length ≤ n := by rw [nbR_length, List.length_take, keys_length]; omega
    unfold m_i_Automaton_refine_l0
    simp only
    rw [if_pos (by simp; omega), getI_nth (by omega) (by omega)]; simp only [Option.bind_some]
    rw [take_one (by rw [keys_length]; omega), nbS_snoc, nbR_snoc, keys_at (by omega)]
    simp only [wrap_succ (show s < 9223372036854775807 by omega)]
    by_cases h : nth c (s : Int) < 0
    · rw [if_pos (by simpa using h), appI_ok (by simp; omega), show keyO a c s = none from by unfold keyO; rw [if_pos h]]; rfl
    · rw [if_neg (by simpa using h), show keyO a c s = some (keyL a c s) from by unfold keyO; rw [if_neg h], V.get (by omega) (by omega)]; simp only [Option.bind_some]
      rw [bindL_brk (i_key V hn hc hs)]; simp only
      rw [i_seek (x := keyL a c s) (by omega) (fun y hy => by
        unfold m_i_Automaton_refine_1
        rw [q_sliceEq _ _ (by rw [kinds_short (fun y hy => keys_short a c y (List.mem_of_mem_take hy)) y hy]; decide)]; rfl)]; simp only [Option.bind_some]
      unfold seek
      by_cases k : keyL a c s ∈ nbS [] ((keys a c).take s)
      · obtain ⟨q, hq, e1, e2⟩ := nbI_mem k
        rw [if_pos k, nbL_old k, e1, if_neg (by simp)]; simp only [Option.bind_some]
        rw [appI_ok (by simp; omega)]; rfl
      · rw [if_neg k, nbL_new k, nbI_new k, if_pos (show decide ((-1 : Int) < 0) = true from rfl), appI_ok (by simp; omega)]; simp only [Option.bind_some]
        rw [appI_ok (by simp; omega)]; rfl) (by
    unfold m_i_Automaton_refine_l0
    simp only
    rw [if_neg (by simp; omega)]) (up63 (by omega))
  rw [show (keys a c).take n = keys a c from List.take_of_length_le (by rw [keys_length]; omega)] at this
  exact bindL_brk this
end
end
section
variable {a : AutT} {n : Nat} (V : VA a n) (hn : n ≤ 1000000)
include V hn
theorem cls0_snoc (s : Nat) : (List.range (s + 1)).map (fun s : Nat => if nth (live a) (s : Int) = true then (if nth a.2.1 (s : Int) = true then (1 : Int) else 0) else -1) = (List.range s).map (fun s : Nat => if nth (live a) (s : Int) = true then (if nth a.2.1 (s : Int) = true then 1 else 0) else -1) ++ [if nth (live a) (s : Int) = true then (if nth a.2.1 (s : Int) = true then 1 else 0) else -1] := by simp [List.range_succ]
theorem s_cls0 : loopM (m_s_l12Classes_l0 a (live a)) FUEL ([], 0) = some (.brk (cls0 a, (n : Int))) := by
  have hlen := V.len
  have hll : (live a).length = n := by rw [live_length, hlen]
  have := loopM_at (f := m_s_l12Classes_l0 a (live a)) (fun s => ((List.range s).map (fun s : Nat => if nth (live a) (s : Int) = true then (if nth a.2.1 (s : Int) = true then (1 : Int) else 0) else -1), (s : Int))) n (fun s hs => by
    unfold m_s_l12Classes_l0
    simp only
    rw [if_pos (by simp; omega), V.acc (by omega) (by omega)]; simp only [Option.bind_some]
    rw [cls0_snoc V hn, getI_nth (xs := live a) (by omega) (by omega)]; simp only [wrap_succ (show s < 9223372036854775807 by omega)]
    cases nth (live a) (s : Int) <;> cases nth a.2.1 (s : Int) <;> simp only [if_true, if_false, Bool.false_eq_true, Option.bind_some] <;> rw [appI_ok (by simp; omega)] <;> rfl) (by
    unfold m_s_l12Classes_l0
    simp only
    rw [if_neg (by simp; omega)]) (up63 (by omega))
  unfold cls0
  rw [hlen]
  exact this
theorem i_cls0 : loopM (m_i_Automaton_classes_l0 a (live a)) FUEL ([], 0) = some (.brk (cls0 a, (n : Int))) := by
  have hlen := V.len
  have hll : (live a).length = n := by rw [live_length, hlen]
  have := loopM_at (f := m_i_Automaton_classes_l0 a (live a)) (fun s => ((List.range s).map (fun s : Nat => if nth (live a) (s : Int) = true then (if nth a.2.1 (s : Int) = true then (1 : Int) else 0) else -1), (s : Int))) n (fun s hs => by
    unfold m_i_Automaton_classes_l0
    simp only
    rw [if_pos (by simp; omega), getI_nth (xs := live a) (by omega) (by omega)]; simp only [Option.bind_some]
    rw [cls0_snoc V hn, V.acc (by omega) (by omega)]; simp only [wrap_succ (show s < 9223372036854775807 by omega)]
    cases nth (live a) (s : Int) <;> cases nth a.2.1 (s : Int) <;> simp only [if_true, if_false, Bool.false_eq_true, Option.bind_some] <;> rw [appI_ok (by simp; omega)] <;> rfl) (by
    unfold m_i_Automaton_classes_l0
    simp only
    rw [if_neg (by simp; omega)]) (up63 (by omega))
  unfold cls0
  rw [hlen]
  exact this
theorem s_classes : ∃ J, cI a (J + 1) = cI a J ∧ m_s_l12Classes a = some (cI a J) := by
  have hlen := V.len
  unfold m_s_l12Classes
  rw [show m_s_l11Live (a.1, a.2.1, a.2.2) = some (live a) from s_live V hn]; simp only [Option.bind_some]
  rw [bindL_brk (s_cls0 V hn)]
  obtain ⟨J0, hJ0, hfix⟩ := cI_stop a
  obtain ⟨o, e, j, rfl, hj⟩ := loopM_go (f := m_s_l12Classes_l1 a) (fun j s => s = (cI a j, (j : Int)) ∧ j ≤ J0) (fun o => ∃ j, o = .ret (cI a j) ∧ cI a (j + 1) = cI a j) (J0 + 1) (s := (cI a 0, 0)) (by
    rintro j s hj ⟨rfl, hjJ⟩
    have hcl : (cI a j).length = n := by rw [cI_length, hlen]
    unfold m_s_l12Classes_l1
    simp only
    rw [if_pos (by simp; omega), bindL_brk (s_refine V hn hcl)]
    simp only
    obtain ⟨r, er, hr⟩ := q_l2Cmp (refn a (cI a j)) (cI a j) (by rw [refn_length]; omega)
    rw [er]; simp only [Option.bind_some, wrap_succ (show j < 9223372036854775807 by omega)]
    by_cases h : refn a (cI a j) = cI a j
    · exact .inr ⟨_, by rw [if_pos (by simpa using hr.2 h)], (fun s' e => by cases e), j, rfl, h⟩
    · refine .inl ⟨by omega, (cI a (j + 1), ((j + 1 : Nat) : Int)), by rw [if_neg (by simpa using fun e => h (hr.1 e))]; rfl, rfl, ?_⟩
      by_cases e : j = J0
      · subst e; exact absurd hfix h
      · omega) ⟨rfl, Nat.zero_le _⟩ (up63 (by omega))
  exact ⟨j, hj, bindL_ret e⟩
theorem i_classes : ∃ J, cI a (J + 1) = cI a J ∧ m_i_Automaton_classes a = some (cI a J) := by
  have hlen := V.len
  unfold m_i_Automaton_classes
  rw [show m_i_Automaton_live (a.1, a.2.1, a.2.2) = some (live a) from i_live V hn]; simp only [Option.bind_some]
  rw [bindL_brk (i_cls0 V hn)]
  let kk : Nat → Int := fun j => match j with | 0 => -1 | i + 1 => (refN a (cI a i) : Int)
  obtain ⟨o, e, j, rfl, hj⟩ := loopM_go (f := m_i_Automaton_classes_l1 a) (fun j s => s = (cI a j, kk j) ∧ (j : Int) ≤ kk j + 1) (fun o => ∃ j, o = .ret (cI a j) ∧ cI a (j + 1) = cI a j) (n + 2) (s := (cI a 0, -1)) (by
    rintro j s hj ⟨rfl, hjk⟩
    have hcl : (cI a j).length = n := by rw [cI_length, hlen]
    have hle := refN_le a (cI a j)
    unfold m_i_Automaton_classes_l1
    simp only
    rw [show m_i_Automaton_refine (a.1, a.2.1, a.2.2) (cI a j) = some (refn a (cI a j), (refN a (cI a j) : Int)) from i_refine V hn hcl]; simp only [Option.bind_some]
    cases j with
    | zero =>
      refine .inl ⟨by omega, (cI a 1, kk 1), by rw [if_neg (by show ¬ ((refN a (cI a 0) : Int) == -1) = true; simp)]; rfl, rfl, ?_⟩
      show (1 : Int) ≤ (refN a (cI a 0) : Int) + 1
      omega
    | succ i =>
      obtain ⟨g1, g2⟩ := cI_grow a i
      have hki : kk (i + 1) = (refN a (cI a i) : Int) := rfl
      rw [hki] at hjk ⊢
      by_cases h : refN a (cI a (i + 1)) = refN a (cI a i)
      · refine .inr ⟨.ret (cI a (i + 2)), by rw [if_pos (by simp [h])]; rfl, (fun s' e => by cases e), i + 2, rfl, ?_⟩
        have := g2 h
        show refn a (cI a (i + 2)) = cI a (i + 2)
        rw [this]; exact this
      · refine .inl ⟨?_, (cI a (i + 2), kk (i + 2)), by rw [if_neg (by simp; omega)]; rfl, rfl, ?_⟩
        · omega
        · show ((i + 1 + 1 : Nat) : Int) ≤ (refN a (cI a (i + 1)) : Int) + 1
          omega) ⟨rfl, by show ((0 : Nat) : Int) ≤ -1 + 1; omega⟩ (up63 (by omega))
  exact ⟨j, hj, bindL_ret e⟩
/-- the classes, the same by both -/
theorem classes_eq : ∃ c, m_s_l12Classes a = some c ∧ m_i_Automaton_classes a = some c ∧ c.length = n ∧ refn a c = c ∧ ∃ j, c = cI a j := by
  obtain ⟨J, hJ, es⟩ := s_classes V hn
  obtain ⟨J', hJ', ei⟩ := i_classes V hn
  have := cI_fix_eq hJ hJ'
  exact ⟨cI a J, es, by rw [this]; exact ei, by rw [cI_length, V.len], hJ, J, rfl⟩
end
end Go.Proofs.YtimjccbdngajoaaGreat.D
/- What is numbered is small. -/
set_option linter.unusedVariables false
set_option linter.unusedSimpArgs false
set_option linter.unnecessarySimpa false
set_option linter.unusedSectionVars false
namespace Go.Proofs.YtimjccbdngajoaaGreat.D
open Go.RowKit

theorem bound_ints (n : Nat) (l : List Int) (hd : l.Nodup) (h : ∀ x ∈ l, 0 ≤ x ∧ x < n) : l.length ≤ n := by
  have := hd.length_le_of_subset (l₂ := (List.range n).map Int.ofNat) (fun x hx => by
    obtain ⟨h0, h1⟩ := h x hx
    exact List.mem_map.2 ⟨x.toNat, List.mem_range.2 (by omega), by show ((x.toNat : Nat) : Int) = x; omega⟩)
  simpa using this
theorem iOk_in {n : Nat} {x : Int} (hn : n ≤ 1000000) (h0 : 0 ≤ x) (h1 : x < n) : iOk x = true := by
  have := iOk_nat (n := x.toNat) (by omega)
  rwa [show ((x.toNat : Nat) : Int) = x from by omega] at this
/-- the numbered automata are small -/
theorem num_sm {κ : Type} [DecidableEq κ] {nx : κ → List (Option κ)} {first : κ} {G : κ → Prop} {B N : Nat} {acc : κ → Bool} (H : NumOk nx first G B) (hB : B ≤ 1000000) (hN : bfE nx first N) : Data.sm ((0, (bfS nx first N).map acc, bfR nx first N) : AutT) := by
  have hl := H.bound _ (bfS_nodup (nx := nx) (first := first) N) (bfS_good H.g0 H.gn N)
  refine ⟨trivial, ⟨by rw [List.length_map]; omega, fun _ _ => trivial⟩, ?_, ?_⟩
  · rw [bfR_length hN.2]; have := hN.1; omega
  · have key : ∀ i, i ≤ N → ∀ r ∈ bfR nx first i, r.length = 9 := by
      intro i
      induction i with
      | zero => intro _ r hr; cases hr
      | succ i ih =>
        intro hi r hr
        have hlt := hN.2 i (by omega)
        rw [bfR_succ hlt] at hr
        rcases List.mem_append.1 hr with hr | hr
        · exact ih (by omega) r hr
        · obtain rfl := List.mem_singleton.1 hr
          rw [nbR_length, H.len _ (bfS_good H.g0 H.gn i _ (List.getElem_mem hlt))]
    intro r hr
    exact ⟨by rw [key N (Nat.le_refl _) r hr]; decide, fun _ _ => trivial⟩
theorem nothing_sm : Data.sm nothing := ⟨trivial, ⟨by decide, fun _ _ => trivial⟩, by decide, fun r hr => by
  obtain rfl := List.mem_singleton.1 hr
  exact ⟨by decide, fun _ _ => trivial⟩⟩
end Go.Proofs.YtimjccbdngajoaaGreat.D
/- The minimal automaton: the reference numbers representatives, the program numbers classes. -/
set_option linter.unusedVariables false
set_option linter.unusedSimpArgs false
set_option linter.unnecessarySimpa false
set_option linter.unusedSectionVars false
namespace Go.Proofs.YtimjccbdngajoaaGreat.D
open Go.RowKit

theorem i_index {l : List Int} {x : Int} (hl : l.length ≤ 1000000) (hx : x ∈ l) : m_i_Automaton_minimize_1 x l = some (nbI l (some x)) := by
  unfold m_i_Automaton_minimize_1 m_g_slices_Index_S_int_int
  obtain ⟨o, e, hq⟩ := loopM_go (f := m_g_slices_Index_S_int_int_l0 l x) (fun k s => s = (k : Int) ∧ x ∉ l.take k) (fun o => o = .ret (nbI l (some x))) l.length (s := 0) (by
    rintro k s hk ⟨rfl, hx'⟩
    unfold m_g_slices_Index_S_int_int_l0
    by_cases hkl : k < l.length
    · rw [if_pos (by simp; omega), getI_nth (by omega) (by omega)]; simp only [Option.bind_some]
      by_cases h : nth l (k : Int) = x
      · refine .inr ⟨_, by rw [if_pos (by simp [h])], (fun s' e => by cases e), ?_⟩
        have e : l = l.take k ++ (x :: l.drop (k + 1)) := by
          rw [← h, nth_nat hkl, ← List.drop_eq_getElem_cons hkl, List.take_append_drop]
        rw [nbI_first e hx', List.length_take, Nat.min_eq_left (by omega)]
      · have h' : ¬ x = nth l (k : Int) := fun e => h e.symm
        refine .inl ⟨hkl, _, by rw [if_neg (by simpa using h')], by rw [wrap_succ (by omega)], ?_⟩
        rw [take_one hkl, List.mem_append, List.mem_singleton]
        rintro (h' | h')
        · exact hx' h'
        · exact h h'.symm
    · rw [List.take_of_length_le (by omega)] at hx'
      exact absurd hx hx') ⟨rfl, by simp⟩ (up63 (by omega))
  subst hq
  rw [bindL_ret e]; rfl
section
variable {a : AutT} {n : Nat}
/-- the first state of a class -/
def rep (c : List Int) (x : Int) : Int := nbI c (some x)
theorem rep_ok {c : List Int} {x : Int} (h : x ∈ c) : 0 ≤ rep c x ∧ rep c x < c.length ∧ nth c (rep c x) = x := by
  obtain ⟨q, hq, e1, e2⟩ := nbI_mem h
  unfold rep
  rw [e1]
  exact ⟨by omega, by omega, by rw [nth_nat hq, e2]⟩
theorem minim_eq (V : VA a n) (hn : n ≤ 1000000) : ∃ r, m_s_l12Minimize a = some r ∧ m_i_Automaton_minimize a = some r ∧ Data.sm r := by
  have hlen := V.len
  have hst := V.start
  have hll : (live a).length = n := by rw [live_length, hlen]
  obtain ⟨c, es, ei, hcl, hfix, j, hj⟩ := classes_eq V hn
  have hneg : ∀ s : Int, 0 ≤ s → s < n → (nth c s < 0 ↔ nth (live a) s = false) := fun s h0 h1 => by
    have := (cI_neg a (s := s.toNat) (by omega) j).1
    rw [← hj, show ((s.toNat : Nat) : Int) = s from by omega] at this
    exact this
  have hlt : ∀ s : Int, 0 ≤ s → s < n → nth c s < n := fun s h0 h1 => by
    have := refn_lt (c := c) (a := a) (s := s.toNat) (by omega)
    rw [hfix, hlen, show ((s.toNat : Nat) : Int) = s from by omega] at this
    exact this
  have hpos : ∀ r, good n (live a) r → 0 ≤ nth c r := fun r hr => by
    have := hneg r hr.1 hr.2.1
    by_cases k : nth c r < 0
    · have := this.1 k; rw [hr.2.2] at this; cases this
    · omega
  -- states of one class are alike
  have hkey : ∀ r t : Int, 0 ≤ r → r < n → 0 ≤ t → t < n → 0 ≤ nth c r → nth c r = nth c t → keyL a c r = keyL a c t := fun r t r0 r1 t0 t1 h0 h => by
    have := refn_eq (a := a) (c := c) (s := r.toNat) (t := t.toNat) (by omega) (by omega) (by rw [hfix, show ((r.toNat : Nat) : Int) = r from by omega]; exact h0) (by rw [hfix, show ((r.toNat : Nat) : Int) = r from by omega, show ((t.toNat : Nat) : Int) = t from by omega]; exact h)
    rwa [show ((r.toNat : Nat) : Int) = r from by omega, show ((t.toNat : Nat) : Int) = t from by omega] at this
  have hacc : ∀ r t : Int, 0 ≤ r → r < n → 0 ≤ t → t < n → 0 ≤ nth c r → nth c r = nth c t → nth a.2.1 r = nth a.2.1 t := fun r t r0 r1 t0 t1 h0 h => by
    have := cI_acc a (s := r.toNat) (t := t.toNat) (by omega) (by omega) j (by rw [← hj, show ((r.toNat : Nat) : Int) = r from by omega]; exact h0) (by rw [← hj, show ((r.toNat : Nat) : Int) = r from by omega, show ((t.toNat : Nat) : Int) = t from by omega]; exact h)
    rwa [show ((r.toNat : Nat) : Int) = r from by omega, show ((t.toNat : Nat) : Int) = t from by omega] at this
  have hsuccs : ∀ r, good n (live a) r → succs a c (live a) r = (List.range 9).map fun k => if 0 ≤ ent a c r k then some (ent a c r k) else none := fun r hr => by
    refine List.map_congr_left fun k hk => ?_
    have hk : k < 9 := List.mem_range.1 hk
    have hm := V.mv hr.1 hr.2.1 hk
    unfold ent
    by_cases h : mv a r k < 0
    · rw [if_pos h, if_neg (fun h' => by omega), if_neg (by omega)]
    · rw [if_neg h]
      have := hneg (mv a r k) (by omega) hm.2
      cases hl : nth (live a) (mv a r k) with
      | false =>
        have := this.2 hl
        rw [if_neg (fun h' => by cases h'.2), if_neg (by omega)]
      | true =>
        have : ¬ nth c (mv a r k) < 0 := fun h' => by have := this.1 h'; rw [hl] at this; cases this
        rw [if_pos ⟨by omega, rfl⟩, if_pos (by omega)]
  have hent : ∀ r t : Int, keyL a c r = keyL a c t → ∀ k, k < 9 → ent a c r k = ent a c t k := fun r t h k hk => by
    have h : (List.range 9).map (fun k => ent a c r k) = (List.range 9).map (fun k => ent a c t k) := by unfold keyL at h; injection h
    have := congrArg (fun l : List Int => l[k]?) h
    simpa [hk] using this
  -- the keys that are numbered
  let nx : Int → List (Option Int) := fun x => succs a c (live a) (rep c x)
  let acc : Int → Bool := fun x => nth a.2.1 (rep c x)
  let G : Int → Prop := fun x => ∃ r, good n (live a) r ∧ nth c r = x
  have Gm : ∀ x, G x → x ∈ c ∧ 0 ≤ x ∧ good n (live a) (rep c x) := by
    rintro x ⟨r, hr, rfl⟩
    have hm : nth c r ∈ c := nth_mem hr.1 (by rw [hcl]; exact hr.2.1)
    obtain ⟨h0, h1, h2⟩ := rep_ok hm
    have hp := hpos r hr
    refine ⟨hm, hp, h0, by omega, ?_⟩
    have := hneg (rep c (nth c r)) h0 (by omega)
    rw [h2] at this
    cases hl : nth (live a) (rep c (nth c r)) with
    | true => rfl
    | false => have := this.2 hl; omega
  have hnx : ∀ r, good n (live a) r → nx (nth c r) = succs a c (live a) r := fun r hr => by
    obtain ⟨hm, hp, hg⟩ := Gm _ ⟨r, hr, rfl⟩
    obtain ⟨h0, h1, h2⟩ := rep_ok hm
    show succs a c (live a) (rep c (nth c r)) = _
    rw [hsuccs _ hg, hsuccs _ hr]
    refine List.map_congr_left fun k hk => ?_
    rw [hent _ _ (hkey _ _ hg.1 hg.2.1 hr.1 hr.2.1 (by rw [h2]; exact hp) h2) k (List.mem_range.1 hk)]
  have hac : ∀ r, good n (live a) r → acc (nth c r) = nth a.2.1 r := fun r hr => by
    obtain ⟨hm, hp, hg⟩ := Gm _ ⟨r, hr, rfl⟩
    obtain ⟨h0, h1, h2⟩ := rep_ok hm
    exact hacc _ _ hg.1 hg.2.1 hr.1 hr.2.1 (by rw [h2]; exact hp) h2
  have hgn : ∀ r, good n (live a) r → ∀ y, some y ∈ succs a c (live a) r → G y := fun r hr y h => by
    obtain ⟨k, hk, e⟩ := List.mem_map.1 h
    have hk : k < 9 := List.mem_range.1 hk
    split at e
    · rename_i hc
      exact ⟨mv a r k, ⟨hc.1, (V.mv hr.1 hr.2.1 hk).2, hc.2⟩, Option.some.inj e⟩
    · cases e
  unfold m_s_l12Minimize m_i_Automaton_minimize
  simp only [peta]
  rw [es, ei, s_live V hn]; simp only [Option.bind_some]
  rw [getI_nth hst.1 (by omega)]; simp only [Option.bind_some]
  cases hs : nth (live a) a.1 with
  | false =>
    have := (hneg a.1 hst.1 hst.2).2 hs
    rw [s_numb_dead V hll hs, if_pos (by simpa using this), i_nothing]
    exact ⟨nothing, rfl, rfl, nothing_sm⟩
  | true =>
    have hst' : good n (live a) a.1 := ⟨hst.1, hst.2, hs⟩
    have hp := hpos _ hst'
    have H : NumOk nx (nth c a.1) G n := ⟨⟨a.1, hst', rfl⟩, fun x hx y hy => hgn _ (Gm x hx).2.2 y hy, fun x hx => by simp [nx, succs], fun l hd h => bound_ints n l hd fun x hx => by
      obtain ⟨r, hr, rfl⟩ := h x hx
      exact ⟨hpos r hr, hlt r hr.1 hr.2.1⟩⟩
    obtain ⟨N, hN, e1⟩ := s_numb (acc := acc) V hn hcl hll hs H hn hnx hac
    have hfirst : ∀ x, G x → m_i_Automaton_minimize_1 x c = some (rep c x) := fun x hx => i_index (by omega) (Gm x hx).1
    obtain ⟨N', hN', e2⟩ := i_numb (most := (c.length : Int)) (p2 := fun a0 => m_i_Automaton_minimize_2 a0 (a.1, a.2.1, a.2.2) (fun a0 => m_i_Automaton_minimize_1 a0 c)) (p3 := fun a0 a1 => m_i_Automaton_minimize_3 a0 a1 (a.1, a.2.1, a.2.2) (fun a0 => m_i_Automaton_minimize_1 a0 c) c) (acc := acc) H hn (by omega) (fun x hx => iOk_in hn (Gm x hx).2.1 (by
        obtain ⟨r, hr, rfl⟩ := hx
        exact hlt r hr.1 hr.2.1)) (fun x hx => by
      show m_i_Automaton_minimize_2 x (a.1, a.2.1, a.2.2) (fun a0 => m_i_Automaton_minimize_1 a0 c) = _
      unfold m_i_Automaton_minimize_2
      simp only
      rw [hfirst x hx]; simp only [Option.bind_some]
      rw [V.acc (Gm x hx).2.2.1 (Gm x hx).2.2.2.1]; rfl) (fun x k hx hk => by
      obtain ⟨hm, hx0, hg⟩ := Gm x hx
      have hm' := V.mv hg.1 hg.2.1 hk
      refine ⟨0, ?_⟩
      show m_i_Automaton_minimize_3 x k (a.1, a.2.1, a.2.2) (fun a0 => m_i_Automaton_minimize_1 a0 c) c = _
      unfold m_i_Automaton_minimize_3
      simp only
      rw [hfirst x hx]; simp only [Option.bind_some]
      rw [show m_i_Automaton_move (a.1, a.2.1, a.2.2) (rep c x) k = some (mv a (rep c x) k) from i_move V hg.1 hg.2.1 hk]; simp only [Option.bind_some]
      show _ = some (match nth (succs a c (live a) (rep c x)) (k : Int) with | some y => (y, true) | none => (0, false))
      rw [succs_at hk]
      by_cases h : mv a (rep c x) k < 0
      · rw [if_pos (by simpa using h), if_neg (fun h' => by omega)]
      · rw [if_neg (by simpa using h), getI_nth (by omega) (by omega)]; simp only [Option.bind_some]
        have hng := hneg (mv a (rep c x) k) (by omega) hm'.2
        cases hl : nth (live a) (mv a (rep c x) k) with
        | false =>
          have := hng.2 hl
          rw [if_pos (by simpa using this), if_neg (fun h' => by cases h'.2)]
        | true =>
          have : ¬ nth c (mv a (rep c x) k) < 0 := fun h' => by have := hng.1 h'; rw [hl] at this; cases this
          rw [if_neg (by simpa using this), if_pos ⟨by omega, rfl⟩])
    obtain rfl := bfE_uniq hN hN'
    refine ⟨_, by rw [e1]; rfl, ?_, num_sm H hn hN⟩
    rw [if_neg (by simp; omega)]
    exact (congrArg (fun x => Option.bind x _) e2).trans rfl
end
end Go.Proofs.YtimjccbdngajoaaGreat.D
