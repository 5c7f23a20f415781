/- NewEngine: the reference and the program both give the engine of one graph, or none. -/
import Derived.Test.YtfkocnnphjkmfaaNPl
import Derived.Test.YtfkocnnphjkmfaaNGraphK
set_option linter.unusedVariables false
set_option linter.unusedSimpArgs false
set_option linter.unnecessarySimpa false
namespace Go.Proofs.Ytfkocnnphjkmfaa.D
open Go.RowKit

theorem q_l2Cmp (xs ys : List Int) (hN : xs.length ≤ 1048576) : ∃ r, m_s_l2Cmp xs ys = some r ∧ (r = 0 ↔ xs = ys) := by
  unfold m_s_l2Cmp
  have h0 := cmpGo (f := m_s_l2Cmp_l0 xs ys) xs ys (fun i h h' => by
    simp only [m_s_l2Cmp_l0, lt_nat h, lt_nat h', if_true, getI_nat h, getI_nat h', Option.bind_some, wrap_succ (show i < 9223372036854775807 by omega)]
    by_cases h1 : xs[i] < ys[i]
    · simp [h1]
    · by_cases h2 : xs[i] > ys[i]
      · simp [h1, h2]
      · simp [h1, h2]) (fun i hi => by
    simp only [m_s_l2Cmp_l0]
    by_cases h1 : i < xs.length
    · have h2 : ¬ i < ys.length := by omega
      simp [h1, h2]
    · simp [h1]) xs.length 0 FUEL (by omega) (fuelUp _ (by omega))
  rw [show (((0 : Nat) : Int)) = (0 : Int) from rfl] at h0
  rcases h0 with ⟨r, e, h1, h2⟩ | ⟨s, e, h1⟩
  · exact ⟨r, by rw [e]; rfl, by simp [h1, h2]⟩
  · rw [e]
    simp only [bindL]
    by_cases c1 : xs.length < ys.length
    · exact ⟨-1, by simp [c1], by simp; intro e; subst e; omega⟩
    · by_cases c2 : xs.length > ys.length
      · exact ⟨1, by simp [c1, c2], by simp; intro e; subst e; omega⟩
      · have c3 : xs.length = ys.length := by omega
        have := h1 c3
        simp at this
        exact ⟨0, by simp [c3], by simp [this]⟩
theorem q_iInts : EqOk m_g_slices_Equal_S_int_int := by
  intro x y hx hy
  unfold m_g_slices_Equal_S_int_int
  exact eqL (f := m_g_slices_Equal_S_int_int_l0 x y) x y (by have := (sm_list hx).1; omega) (fun i h h' => by
    simp only [m_g_slices_Equal_S_int_int_l0, lt_nat h, if_true, getI_nat h, getI_nat h', Option.bind_some, peta, wrap_succ (show i < 9223372036854775807 by have := (sm_list hx).1; omega)]
    first | (refine iteOpt ?_; simp only [Bool.and_true, Bool.and_eq_true, beq_iff_eq]; first | exact peq2 | exact peq3 | exact peq4) | exact iteOpt (by simp) | exact iteOptN (by simp)) (by simp only [m_g_slices_Equal_S_int_int_l0, lt_self]; rfl)

theorem within_tot (x a b : Int) : ∃ r, m_i_within x a b = some r := by
  unfold m_i_within; split <;> exact ⟨_, rfl⟩
theorem edge_tot (e : Int × Int × Int × Int) (n : Int) : ∃ r, m_i_edgeOk e n = some r := by
  unfold m_i_edgeOk
  obtain ⟨r1, e1⟩ := within_tot e.1 1 99
  obtain ⟨r2, e2⟩ := within_tot e.2.1 0 (IntKind.i64.wrap (n - 1))
  obtain ⟨r3, e3⟩ := within_tot e.2.2.1 0 (IntKind.i64.wrap (n - 1))
  obtain ⟨r4, e4⟩ := within_tot e.2.2.2 0 2
  rw [e1, e2, e3, e4]; simp only [Option.bind_some]
  cases r1 <;> cases r2 <;> cases r3 <;> exact ⟨_, rfl⟩
theorem in_eq : m_s_l1In = m_i_within := rfl
theorem edge_eq (g : GrT) (e : Int × Int × Int × Int) : m_s_l3Edge g e = m_i_edgeOk e (g.1.length : Int) := rfl
theorem l0_eq : m_s_IsValidGraph_l0 = m_i_IsValidGraph_l0 := rfl
theorem l1_eq (g : GrT) : m_s_IsValidGraph_l1 g = m_i_IsValidGraph_l1 g := by
  funext s
  unfold m_s_IsValidGraph_l1 m_i_IsValidGraph_l1
  cases h : getI g.2 s with
  | none => rfl
  | some x => rfl
theorem valid_eq : m_s_IsValidGraph = m_i_IsValidGraph := by
  funext g
  unfold m_s_IsValidGraph m_i_IsValidGraph
  rw [l1_eq]; rfl
theorem loopB {f : Int → Option (Out Bool Int)} (N : Nat) (h : ∀ i : Nat, i < N → f (i : Int) = some (.nxt ((i + 1 : Nat) : Int)) ∨ f (i : Int) = some (.ret false)) (he : f (N : Int) = some (.brk (N : Int))) (hN : N < FUEL) : loopM f FUEL 0 = some (.brk (N : Int)) ∨ loopM f FUEL 0 = some (.ret false) := by
  obtain ⟨o, e, ho⟩ := loopM_go (f := f) (fun i s => s = (i : Int)) (fun o => o = .brk (N : Int) ∨ o = .ret false) N (fun i s hi hs => by
    subst hs
    by_cases h1 : i < N
    · rcases h i h1 with h2 | h2
      · exact .inl ⟨h1, _, h2, rfl⟩
      · exact .inr ⟨_, h2, (fun s' e => by cases e), .inr rfl⟩
    · obtain rfl : i = N := by omega
      exact .inr ⟨_, he, (fun s' e => by cases e), .inl rfl⟩) (s := 0) rfl hN
  rcases ho with rfl | rfl
  · exact .inl e
  · exact .inr e
theorem valid_tot (g : GrT) (h1 : g.1.length ≤ 1048576) (h2 : g.2.length ≤ 1048576) : ∃ b, m_i_IsValidGraph g = some b := by
  unfold m_i_IsValidGraph
  have k0 := loopB (f := m_i_IsValidGraph_l0 g) g.1.length (fun i hi => by
    unfold m_i_IsValidGraph_l0
    rw [if_pos (by simp; omega), getI_nat hi]; simp only [Option.bind_some]
    obtain ⟨r, e⟩ := within_tot g.1[i] 0 2
    rw [e]; simp only [Option.bind_some]
    cases r with
    | true => left; rw [if_pos rfl, wrap_succ (by omega)]
    | false => right; rfl) (by
    unfold m_i_IsValidGraph_l0
    rw [if_neg (by simp)]) (fuelUp _ (by omega))
  have k1 := loopB (f := m_i_IsValidGraph_l1 g) g.2.length (fun i hi => by
    unfold m_i_IsValidGraph_l1
    rw [if_pos (by simp; omega), getI_nat hi]; simp only [Option.bind_some]
    obtain ⟨r, e⟩ := edge_tot (g.2[i].1, g.2[i].2.1, g.2[i].2.2.1, g.2[i].2.2.2) (g.1.length : Int)
    rw [e]; simp only [Option.bind_some]
    cases r with
    | false => right; rfl
    | true =>
      rw [if_pos rfl]
      cases i with
      | zero => left; rw [if_neg (by simp), wrap_succ (by omega)]
      | succ i =>
        rw [if_pos (by first | (simp; done) | (simp; omega)), show (((i + 1 : Nat) : Int) - 1) = ((i : Nat) : Int) from by omega, wrap_nat (by omega), getI_nat (show i < g.2.length by omega)]; simp only [Option.bind_some]
        split
        · right; rfl
        · left; rw [wrap_succ (by omega)]) (by
    unfold m_i_IsValidGraph_l1
    rw [if_neg (by simp)]) (fuelUp _ (by omega))
  rcases k0 with k0 | k0 <;> rw [k0] <;> simp only [bindL]
  · rcases k1 with k1 | k1 <;> rw [k1] <;> simp only [bindL]
    · obtain ⟨r, e⟩ := within_tot (g.1.length : Int) 1 5
      rw [e]; simp only [Option.bind_some]
      cases r <;> exact ⟨_, rfl⟩
    · exact ⟨_, rfl⟩
  · exact ⟨_, rfl⟩
theorem loopR {R S : Type} {f : S → Option (Out R S)} {s : S} {r : R} (h : f s = some (.ret r)) : loopM f FUEL s = some (.ret r) := by
  have : FUEL = (FUEL - 1) + 1 := by unfold FUEL; omega
  rw [this, loopM, h]
theorem lev {a b : Nat} (h : Nat.ble a b = true) : a ≤ b := Nat.le_of_ble_eq_true h
abbrev EnT := (Int × List GrT) × (List (Int × List Bool × List (List Int)) × List (Int × List (Int × Int × Int × Int) × Int)) × List (Int × Int × Int) × ByteArray
def newE (g : GrT) (b : Bool) : EnT := if b then ((1, [g]), ([], []), [], ⟨#[]⟩) else ((0, []), ([], []), [], ⟨#[]⟩)
section
variable {g : GrT} {b : Bool} (hg : Data.sm g) (hv : m_i_IsValidGraph g = some b)
include hg hv
theorem s_hist : m_s_IsValidHistory (1, [g]) = some b := by
  have hv' : m_s_IsValidGraph g = some b := by rw [valid_eq]; exact hv
  obtain ⟨r, er, hr⟩ := q_l2Cmp g.1 g.1 (sm_list hg.1).1
  have : r = 0 := hr.2 rfl
  subst this
  have g0 : getI [g] 0 = some g := rfl
  unfold m_s_IsValidHistory
  have k : loopM (m_s_IsValidHistory_l0 (1, [g])) FUEL 0 = some (if b then .brk 1 else .ret false) := by
    have h0 : m_s_IsValidHistory_l0 (1, [g]) 0 = some (if b then .nxt 1 else .ret false) := by
      unfold m_s_IsValidHistory_l0
      rw [if_pos (show decide ((0 : Int) < (([g].length : Nat) : Int)) = true from rfl)]
      simp only [g0, Option.bind_some, peta, hv']
      cases b with
      | true => simp only [if_true, er, Option.bind_some]; rfl
      | false => rfl
    cases b with
    | true =>
      exact loopM_all (f := m_s_IsValidHistory_l0 (1, [g])) (fun i : Nat => (i : Int)) 1 (fun i hi => by
        obtain rfl : i = 0 := by omega
        exact h0) (s := 1) rfl (by unfold FUEL; omega)
    | false => exact loopR h0
  rw [k]
  cases b <;> rfl
theorem i_hist : m_i_IsValidHistory (1, [g]) = some b := by
  have er := q_iInts g.1 g.1 hg.1 hg.1
  rw [decide_eq_true rfl] at er
  have g0 : getI [g] 0 = some g := rfl
  unfold m_i_IsValidHistory
  have k : loopM (m_i_IsValidHistory_l0 (1, [g])) FUEL 0 = some (if b then .brk 1 else .ret false) := by
    have h0 : m_i_IsValidHistory_l0 (1, [g]) 0 = some (if b then .nxt 1 else .ret false) := by
      unfold m_i_IsValidHistory_l0
      rw [if_pos (show decide ((0 : Int) < (([g].length : Nat) : Int)) = true from rfl)]
      simp only [g0, Option.bind_some, peta, hv]
      cases b with
      | true => simp only [if_true, er, Option.bind_some]; rfl
      | false => rfl
    cases b with
    | true =>
      exact loopM_all (f := m_i_IsValidHistory_l0 (1, [g])) (fun i : Nat => (i : Int)) 1 (fun i hi => by
        obtain rfl : i = 0 := by omega
        exact h0) (s := 1) rfl (by unfold FUEL; omega)
    | false => exact loopR h0
  have w1 : m_i_within ((1, [g]) : Int × List GrT).2.length 1 8 = some true := rfl
  rw [w1]; simp only [Option.bind_some, if_true]
  have w2 : m_i_within ((1, [g]) : Int × List GrT).1 1 (IntKind.i64.wrap ((IntKind.i64.wrap (999 - ((((1, [g]) : Int × List GrT).2.length : Nat) : Int))) + 1)) = some true := by rfl
  rw [w2]; simp only [Option.bind_some, if_true]
  rw [k]
  cases b <;> rfl
theorem s_new : m_s_NewEngine g = some (newE g b, b) := by
  have a1 : appI 8 ([] : List Int) g.1 = some g.1 := by rw [appI_ok (by have := (sm_list hg.1).1; simp; omega)]; rfl
  have a2 : appI 32 ([] : List (Int × Int × Int × Int)) g.2 = some g.2 := by rw [appI_ok (by have := (sm_list hg.2).1; simp; omega)]; rfl
  unfold m_s_NewEngine m_s_NewHistory m_s_l3Copy
  simp only [peta, a1, a2, Option.bind_some, s_hist hg hv]
  cases b <;> rfl
theorem i_new : m_i_NewEngine g = some (newE g b, b) := by
  have a1 : appI 8 ([] : List Int) g.1 = some g.1 := by rw [appI_ok (by have := (sm_list hg.1).1; simp; omega)]; rfl
  have a2 : appI 32 ([] : List (Int × Int × Int × Int)) g.2 = some g.2 := by rw [appI_ok (by have := (sm_list hg.2).1; simp; omega)]; rfl
  unfold m_i_NewEngine m_i_NewHistory m_i_copyGraph m_i_copyInts
  simp only [peta, a1, a2, Option.bind_some, i_hist hg hv]
  cases b <;> rfl
end
theorem sm_newE {g : GrT} (hg : Data.sm g) (b : Bool) : Data.sm (newE g b) := by
  cases b with
  | true => exact ⟨⟨trivial, lev rfl, fun x hx => by obtain rfl := List.mem_singleton.1 hx; exact hg⟩, ⟨⟨lev rfl, fun _ h => by cases h⟩, lev rfl, fun _ h => by cases h⟩, ⟨lev rfl, fun _ h => by cases h⟩, lev rfl⟩
  | false => exact ⟨⟨trivial, lev rfl, fun x hx => by cases hx⟩, ⟨⟨lev rfl, fun _ h => by cases h⟩, lev rfl, fun _ h => by cases h⟩, ⟨lev rfl, fun _ h => by cases h⟩, lev rfl⟩
theorem mark_newE (g : GrT) (hg : Data.sm g) (b : Bool) : ∃ (c : Nat) (y : EnT), c ≤ 5242880 ∧ m_w_markEngine (newE g b) 1 = some (((1 + c : Nat) : Int), y) ∧ m_w_heldEngine (((newE g b).1.1, y.1.2), y.2.1, y.2.2.1, (newE g b).2.2.2) 1 = some ((1 + c : Nat) : Int) := by
  have hlen : ∀ x ∈ (newE g b).1.2, x.1.length ≤ 1048576 ∧ x.2.length ≤ 1048576 := fun x hx => by
    have h := (sm_list (sm_newE hg b).1.2).2 x hx
    exact ⟨(sm_list h.1).1, (sm_list h.2).1⟩
  have hb := smk_bound nG (B := 5242880) (newE g b).1.2 fun x hx => nG_bound x (hlen x hx).1 (hlen x hx).2
  have hl : (newE g b).1.2.length ≤ 1 := by cases b <;> exact lev rfl
  have hb' : smk nG (newE g b).1.2 ≤ 5242880 := by
    have := Nat.mul_le_mul_right 5242880 hl; omega
  obtain ⟨e1, e2⟩ := gmark_GraphS (newE g b).1.2 (by omega) (fun x hx => ⟨by have := (hlen x hx).1; omega, by have := (hlen x hx).2; omega⟩) (k := 1) (by omega)
  have hr : (newE g b).2 = (([], []), [], ⟨#[]⟩) := by cases b <;> rfl
  generalize hc : smk nG (newE g b).1.2 = c at *
  generalize hy : mkd nG gG (newE g b).1.2 1 = gs at *
  refine ⟨c, (((newE g b).1.1, gs), ([], []), [], ⟨#[]⟩), hb', ?_, ?_⟩
  · unfold m_w_markEngine m_w_markHistory
    have e1 : m_w_markGraphS (newE g b).1.2 1 = _ := e1
    simp only [e1, Option.bind_some, hr]
    unfold m_w_markRegistry m_w_markAutomatonS
    simp only
    rw [bindL_brk (loop0 (f := m_w_markAutomatonS_l0) (o := ([], ((1 + c : Nat) : Int), 0)) rfl)]; simp only [Option.bind_some]
    unfold m_w_markRegisteredS
    rw [bindL_brk (loop0 (f := m_w_markRegisteredS_l0) (o := ([], ((1 + c : Nat) : Int), 0)) rfl)]; simp only [Option.bind_some]
    unfold m_w_markSubscriberS
    rw [bindL_brk (loop0 (f := m_w_markSubscriberS_l0) (o := ([], ((1 + c : Nat) : Int), 0)) rfl)]; simp only [Option.bind_some]
  · unfold m_w_heldEngine m_w_heldHistory
    have e2 : m_w_heldGraphS gs 1 = _ := e2
    simp only [e2, Option.bind_some]
    have n0 : ¬ ((1 + c : Nat) : Int) < 0 := by omega
    simp only [decide_eq_true_eq, n0, if_false, Option.bind_some]
    unfold m_w_heldRegistry m_w_heldAutomatonS
    simp only
    rw [bindL_brk (loop0 (f := m_w_heldAutomatonS_l0 []) (o := (((1 + c : Nat) : Int), 0)) rfl)]; simp only [Option.bind_some, decide_eq_true_eq, n0, if_false]
    unfold m_w_heldRegisteredS
    rw [bindL_brk (loop0 (f := m_w_heldRegisteredS_l0 []) (o := (((1 + c : Nat) : Int), 0)) rfl)]; simp only [Option.bind_some, decide_eq_true_eq, n0, if_false]
    unfold m_w_heldSubscriberS
    rw [bindL_brk (loop0 (f := m_w_heldSubscriberS_l0 []) (o := (((1 + c : Nat) : Int), 0)) rfl)]; simp only [Option.bind_some, decide_eq_true_eq, n0, if_false]
theorem lawNewEngine (x : GrT) (hx : Data.lim x) : m_w_FnExactNewEngine x = some true := by
  unfold m_w_FnExactNewEngine
  simp only [peta]
  obtain ⟨r1, e1, k1⟩ := z_szGraph x 1048576 hx (by decide) (by decide)
  rw [e1]; simp only [Option.bind_some]
  rcases k1 with k1 | ⟨k1, j1, s1⟩
  · rw [if_pos (decide_eq_true k1)]
  rw [if_neg (by simpa using k1)]
  obtain ⟨b, hb⟩ := valid_tot x (sm_list s1.1).1 (sm_list s1.2).1
  have hs := s_new s1 hb
  have hi := i_new s1 hb
  have h1 := nG_bound x (sm_list s1.1).1 (sm_list s1.2).1
  have em1 := gmark_Graph x (by have := (sm_list s1.1).1; omega) (by have := (sm_list s1.2).1; omega) (k := 1) (by omega)
  have em1 : m_w_markGraph x 1 = _ := em1
  obtain ⟨c, y, hc, em2, eh2⟩ := mark_newE x s1 b
  have sE := sm_newE s1 b
  generalize newE x b = E at *
  simp only [t_toGraph x s1, hs, hi, q_eqEngine E E sE sE, q_eqGraph x x s1 s1, Option.bind_some, peta, em1, em2, eh2, decide_true, if_true]
  have n1 : ¬ ((1 + nG x : Nat) : Int) < 0 := by omega
  have n2 : ¬ ((1 + c : Nat) : Int) < 0 := by omega
  simp only [decide_eq_true_eq, n1, n2, if_false, bne_self_eq_false, Bool.false_eq_true]
end Go.Proofs.Ytfkocnnphjkmfaa.D
