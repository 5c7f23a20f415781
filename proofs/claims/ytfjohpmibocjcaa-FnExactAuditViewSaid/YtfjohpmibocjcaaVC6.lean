/- FnExactAuditView: for every input the law returns true and changes nothing that was there. Part 7 of 7. -/
import Derived.Test.YtfjohpmibocjcaaVC5
set_option linter.unusedVariables false
set_option linter.unusedSimpArgs false
set_option linter.unnecessarySimpa false
set_option linter.unusedSectionVars false
/- Automata: what is valid, by the reference and by the program. -/
set_option linter.unusedVariables false
set_option linter.unusedSimpArgs false
set_option linter.unnecessarySimpa false
namespace Go.Proofs.Ytfjohpmibocjcaa.D
open Go.RowKit
theorem ent_iff {n : Nat} {r : List Int} : (∀ t ∈ r, -1 ≤ t ∧ t ≤ (n : Int) - 1) ↔ ∀ t ∈ r, -1 ≤ t ∧ t < (n : Int) := forall_congr' fun t => forall_congr' fun _ => and_congr Iff.rfl (by omega)
theorem s_fits (a : AutT) (h1 : a.2.1.length ≤ 9223372036854775807) (h2 : a.2.2.length ≤ 9223372036854775807) : ∃ b, m_s_l11Fits a = some b ∧ (b = true ↔ VA a a.2.1.length) := by
  unfold m_s_l11Fits
  rw [s_in]; simp only [Option.bind_some, wrap_pred h1]
  by_cases c1 : 0 ≤ a.1 ∧ a.1 ≤ (a.2.1.length : Int) - 1
  case neg => exact ⟨false, by rw [if_neg (by simpa using c1)], by simp; exact fun h => c1 ⟨h.start.1, by have := h.start.2; omega⟩⟩
  rw [if_pos (by simpa using c1)]
  by_cases c2 : a.2.2.length = a.2.1.length
  case neg => exact ⟨false, by rw [if_pos (by simp; omega)], by simp; exact fun h => c2 h.nlen⟩
  rw [if_neg (by simp; omega)]
  have inner : ∀ i : Nat, i < a.2.2.length → (nth a.2.2 i).length = 9 → (loopM (m_s_l11Fits_l1 a i) FUEL 0 = some (.brk 9) ∧ ∀ t ∈ nth a.2.2 (i : Int), -1 ≤ t ∧ t ≤ (a.2.1.length : Int) - 1) ∨ (loopM (m_s_l11Fits_l1 a i) FUEL 0 = some (.ret false) ∧ ¬ ∀ t ∈ nth a.2.2 (i : Int), -1 ≤ t ∧ t ≤ (a.2.1.length : Int) - 1) := by
    intro i hi hr
    have := scan (f := m_s_l11Fits_l1 a i) (nth a.2.2 (i : Int)) (fun t => -1 ≤ t ∧ t ≤ (a.2.1.length : Int) - 1) false (by omega) (fun j hj => by
      unfold m_s_l11Fits_l1
      rw [if_pos (by simp; omega), getI_nth (by omega) (by omega)]; simp only [Option.bind_some]
      rw [getI_nth (by omega) (by omega)]; simp only [Option.bind_some, wrap_pred h1]
      rw [s_in]; simp only [Option.bind_some, wrap_succ (show j < 9223372036854775807 by omega)]
      by_cases c : -1 ≤ nth (nth a.2.2 (i : Int)) (j : Int) ∧ nth (nth a.2.2 (i : Int)) (j : Int) ≤ (a.2.1.length : Int) - 1
      · rw [if_pos (by simpa using c), if_pos c]
      · rw [if_neg (by simpa using c), if_neg c]) (by unfold m_s_l11Fits_l1; rw [if_neg (by simp [hr])])
    rwa [hr] at this
  have outer := scan (f := m_s_l11Fits_l0 a) a.2.2 (fun r => r.length = 9 ∧ ∀ t ∈ r, -1 ≤ t ∧ t ≤ (a.2.1.length : Int) - 1) false h2 (fun i hi => by
    unfold m_s_l11Fits_l0
    rw [if_pos (by simp; omega), getI_nth (by omega) (by omega)]; simp only [Option.bind_some]
    by_cases c : (nth a.2.2 (i : Int)).length = 9
    · rw [if_neg (by simp; omega)]
      rcases inner i hi c with ⟨e, k⟩ | ⟨e, k⟩
      · rw [bindL_brk e, if_pos ⟨c, k⟩, wrap_succ (show i < 9223372036854775807 by omega)]
      · rw [bindL_ret e, if_neg (fun h => k h.2)]
    · rw [if_pos (by simp; omega), if_neg (fun h => c h.1)]) (by unfold m_s_l11Fits_l0; rw [if_neg (by simp; omega)])
  rcases outer with ⟨e, k⟩ | ⟨e, k⟩
  · exact ⟨true, by rw [bindL_brk e], by simp; exact ⟨rfl, ⟨c1.1, by omega⟩, c2, fun r hr => (k r hr).1, fun r hr => ent_iff.1 (k r hr).2⟩⟩
  · exact ⟨false, by rw [bindL_ret e], by simp; exact fun h => k fun r hr => ⟨h.row r hr, ent_iff.2 (h.ent r hr)⟩⟩
theorem s_valid (a : AutT) (h1 : a.2.1.length ≤ 9223372036854775807) (h2 : a.2.2.length ≤ 9223372036854775807) : ∃ b, m_s_IsValidAutomaton a = some b ∧ (b = true ↔ a.2.1.length ≤ 12 ∧ VA a a.2.1.length) := by
  unfold m_s_IsValidAutomaton
  by_cases c : a.2.1.length ≤ 12
  · rw [if_pos (by simp; omega)]
    obtain ⟨b, e, hb⟩ := s_fits a h1 h2
    exact ⟨b, by show (m_s_l11Fits a).bind _ = _; rw [e]; rfl, by rw [hb]; simp [c]⟩
  · exact ⟨false, by rw [if_neg (by simp; omega)], by simp; exact fun h => absurd h c⟩
theorem i_valid (a : AutT) (h1 : a.2.1.length ≤ 9223372036854775807) (h2 : a.2.2.length ≤ 9223372036854775807) (h3 : ∀ r ∈ a.2.2, r.length ≤ 9223372036854775807) : ∃ b, m_i_IsValidAutomaton a = some b ∧ (b = true ↔ a.2.1.length ≤ 12 ∧ VA a a.2.1.length) := by
  unfold m_i_IsValidAutomaton
  rw [i_in]; simp only [Option.bind_some, wrap_pred h1]
  by_cases c0 : 1 ≤ (a.2.1.length : Int) ∧ (a.2.1.length : Int) ≤ 12
  case neg => exact ⟨false, by rw [if_neg (by simpa using c0)], by simp; exact fun h h' => c0 ⟨by have := h'.start; omega, by omega⟩⟩
  rw [if_pos (by simpa using c0), i_in]; simp only [Option.bind_some]
  by_cases c1 : 0 ≤ a.1 ∧ a.1 ≤ (a.2.1.length : Int) - 1
  case neg => exact ⟨false, by rw [if_neg (by simpa using c1)], by simp; exact fun _ h => c1 ⟨h.start.1, by have := h.start.2; omega⟩⟩
  rw [if_pos (by simpa using c1)]
  by_cases c2 : a.2.2.length = a.2.1.length
  case neg => exact ⟨false, by rw [if_pos (by simp; omega)], by simp; exact fun _ h => c2 h.nlen⟩
  rw [if_neg (by simp; omega)]
  have inner : ∀ x : List Int, x.length ≤ 9223372036854775807 → (loopM (m_i_IsValidAutomaton_l1 a x) FUEL 0 = some (.brk (x.length : Int)) ∧ ∀ t ∈ x, -1 ≤ t ∧ t ≤ (a.2.1.length : Int) - 1) ∨ (loopM (m_i_IsValidAutomaton_l1 a x) FUEL 0 = some (.ret false) ∧ ¬ ∀ t ∈ x, -1 ≤ t ∧ t ≤ (a.2.1.length : Int) - 1) := by
    intro x hx
    refine scan (f := m_i_IsValidAutomaton_l1 a x) x (fun t => -1 ≤ t ∧ t ≤ (a.2.1.length : Int) - 1) false hx (fun j hj => ?_) (by unfold m_i_IsValidAutomaton_l1; rw [if_neg (by simp)])
    unfold m_i_IsValidAutomaton_l1
    rw [if_pos (by simp; omega), getI_nth (by omega) (by omega)]; simp only [Option.bind_some, wrap_pred h1]
    rw [i_in]; simp only [Option.bind_some, wrap_succ (show j < 9223372036854775807 by omega)]
    by_cases c : -1 ≤ nth x (j : Int) ∧ nth x (j : Int) ≤ (a.2.1.length : Int) - 1
    · rw [if_pos (by simpa using c), if_pos c]
    · rw [if_neg (by simpa using c), if_neg c]
  have outer := scan (f := m_i_IsValidAutomaton_l0 a) a.2.2 (fun r => (∀ t ∈ r, -1 ≤ t ∧ t ≤ (a.2.1.length : Int) - 1) ∧ r.length = 9) false h2 (fun i hi => by
    unfold m_i_IsValidAutomaton_l0
    rw [if_pos (by simp; omega), getI_nth (by omega) (by omega)]; simp only [Option.bind_some]
    rcases inner (nth a.2.2 (i : Int)) (h3 _ (nth_mem (by omega) (by omega))) with ⟨e, k⟩ | ⟨e, k⟩
    · rw [bindL_brk e]
      by_cases c : (nth a.2.2 (i : Int)).length = 9
      · rw [if_neg (by simp; omega), if_pos ⟨k, c⟩, wrap_succ (show i < 9223372036854775807 by omega)]
      · rw [if_pos (by simp; omega), if_neg (fun h => c h.2)]
    · rw [bindL_ret e, if_neg (fun h => k h.1)]) (by unfold m_i_IsValidAutomaton_l0; rw [if_neg (by simp)])
  rcases outer with ⟨e, k⟩ | ⟨e, k⟩
  · exact ⟨true, by rw [bindL_brk e], by simp; exact ⟨by omega, rfl, ⟨c1.1, by omega⟩, c2, fun r hr => (k r hr).2, fun r hr => ent_iff.1 (k r hr).1⟩⟩
  · exact ⟨false, by rw [bindL_ret e], by simp; exact fun _ h => k fun r hr => ⟨ent_iff.2 (h.ent r hr), h.row r hr⟩⟩
end Go.Proofs.Ytfjohpmibocjcaa.D
/- The ranks of the product's vertices, by the reference and by the program. -/
set_option linter.unusedVariables false
set_option linter.unusedSimpArgs false
set_option linter.unnecessarySimpa false
set_option linter.unusedSectionVars false
namespace Go.Proofs.Ytfjohpmibocjcaa.D
open Go.RowKit

theorem validG_eq (g : GrT) : m_s_IsValidGraph g = m_i_IsValidGraph g := by
  have h0 : m_s_IsValidGraph_l0 g = m_i_IsValidGraph_l0 g := rfl
  have h1 : m_s_IsValidGraph_l1 g = m_i_IsValidGraph_l1 g := by
    funext s
    unfold m_s_IsValidGraph_l1 m_i_IsValidGraph_l1
    split
    · cases hx : getI g.2 s with
      | none => rfl
      | some x => rfl
    · rfl
  unfold m_s_IsValidGraph m_i_IsValidGraph
  rw [h0, h1]; rfl
def GOOD (g : GrT) (a : AutT) : Prop := GOk g ∧ a.2.1.length ≤ 12 ∧ VA a a.2.1.length
theorem validGA (g : GrT) (a : AutT) (hg : Data.sm g) (ha : Data.sm a) : ∃ b c, m_s_IsValidGraph g = some b ∧ m_i_IsValidGraph g = some b ∧ m_s_IsValidAutomaton a = some c ∧ m_i_IsValidAutomaton a = some c ∧ (b = true → GOk g) ∧ (c = true → a.2.1.length ≤ 12 ∧ VA a a.2.1.length) := by
  obtain ⟨b, e1, k1⟩ := i_validG g (sm_list hg.1).1 (sm_list hg.2).1
  have hb := (sm_list ha.2.1).1
  have hn := sm_list ha.2.2
  obtain ⟨c, e2, k2⟩ := i_valid a (by omega) (by omega) (fun r hr => by have := (sm_list (hn.2 r hr)).1; omega)
  obtain ⟨c', e3, k3⟩ := s_valid a (by omega) (by omega)
  have hc : c' = c := by
    cases c <;> cases c' <;> simp_all
  subst hc
  exact ⟨b, c', by rw [validG_eq, e1], e1, e3, e2, k1, fun h => k2.1 h⟩
theorem good_both (g : GrT) (a : AutT) (hg : Data.sm g) (ha : Data.sm a) (x : Int) : ∃ b, m_s_l14Good g a x 0 = some b ∧ m_i_bothOk g a [x] = some b ∧ (b = true → GOOD g a ∧ 0 ≤ x ∧ x < g.1.length) := by
  obtain ⟨b, c, e1, e2, e3, e4, k1, k2⟩ := validGA g a hg ha
  have hl := (sm_list hg.1).1
  have hla := (sm_list ha.2.1).1
  have ew : IntKind.i64.wrap ((g.1.length : Int) - 1) = (g.1.length : Int) - 1 := wrapI (by omega) (by omega)
  have ew2 : IntKind.i64.wrap ((a.2.1.length : Int) - 1) = (a.2.1.length : Int) - 1 := wrapI (by omega) (by omega)
  have es : m_s_l14Good g a x 0 = some (b && (c && (decide (0 ≤ x ∧ x ≤ (g.1.length : Int) - 1)))) := by
    unfold m_s_l14Good
    have e1 : m_s_IsValidGraph (g.1, g.2) = _ := e1
    have e3 : m_s_IsValidAutomaton (a.1, a.2.1, a.2.2) = _ := e3
    rw [e1, e3, s_in, s_in, ew, ew2]; simp only [Option.bind_some]
    cases b <;> cases c <;> simp only [Bool.false_eq_true, if_false, if_true, Bool.false_and, Bool.true_and]
    by_cases h : 0 ≤ x ∧ x ≤ (g.1.length : Int) - 1
    · have := (k2 rfl).2.start
      simp only [h, and_self, decide_true, if_true]
      rw [decide_eq_true (by omega)]
    · rw [decide_eq_false h]; rfl
  have ei : m_i_bothOk g a [x] = some (b && (c && (decide (0 ≤ x ∧ x ≤ (g.1.length : Int) - 1)))) := by
    unfold m_i_bothOk
    have e2 : m_i_IsValidGraph (g.1, g.2) = _ := e2
    have e4 : m_i_IsValidAutomaton (a.1, a.2.1, a.2.2) = _ := e4
    rcases scanI (f := m_i_bothOk_l0 g [x]) 1 (fun _ => 0 ≤ x ∧ x ≤ (g.1.length : Int) - 1) false (by decide) (fun i hi => by
      obtain rfl : i = 0 := by omega
      unfold m_i_bothOk_l0
      rw [if_pos (by simp), show getI [x] ((0 : Nat) : Int) = some x from rfl]; simp only [Option.bind_some]
      rw [i_in, ew]; simp only [Option.bind_some, decide_eq_true_eq]
      split <;> rfl) (by unfold m_i_bothOk_l0; simp) with ⟨k, h⟩ | ⟨k, h⟩
    · rw [bindL_brk k, e2, e4]; simp only [Option.bind_some]
      rw [decide_eq_true (h 0 (by decide))]
      cases b <;> cases c <;> rfl
    · rw [bindL_ret k, decide_eq_false (fun c => h fun _ _ => c)]
      cases b <;> cases c <;> rfl
  refine ⟨_, es, ei, fun hb => ?_⟩
  simp only [Bool.and_eq_true, decide_eq_true_eq] at hb
  obtain ⟨h1, h2, h3⟩ := hb
  exact ⟨⟨k1 h1, (k2 h2).1, (k2 h2).2⟩, h3.1, by omega⟩
def nxC (g : GrT) (a : AutT) (z : Int) : List Int := nbC g a z.toNat
section
variable {g : GrT} {a : AutT} (H : GOOD g a)
include H
theorem GOOD.divmod {x : Int} (h0 : 0 ≤ x) (h1 : x < (a.2.1.length * g.1.length : Nat)) : x.toNat / a.2.1.length < g.1.length ∧ x.toNat % a.2.1.length < a.2.1.length := by
  have hp := H.2.2.pos
  exact ⟨(Nat.div_lt_iff_lt_mul hp).2 (by rw [Nat.mul_comm]; omega), Nat.mod_lt _ hp⟩
theorem nxC_in (x : Int) (h0 : 0 ≤ x) (h1 : x < (a.2.1.length * g.1.length : Nat)) : ∀ y ∈ nxC g a x, 0 ≤ y ∧ y < (a.2.1.length * g.1.length : Nat) := by
  obtain ⟨k1, k2⟩ := H.divmod h0 h1
  exact nbV_in H.1 H.2.2 H.2.1 k1 k2
theorem nxC_len {x : Int} (h0 : 0 ≤ x) (h1 : x < (a.2.1.length * g.1.length : Nat)) : (nxC g a x).length ≤ 720 := by
  obtain ⟨k1, k2⟩ := H.divmod h0 h1
  have := flatl_len (f := nbA g a (x.toNat / a.2.1.length) (x.toNat % a.2.1.length)) (B := 30) (xs := arcL g.2 (x.toNat / a.2.1.length)) fun y hy => nbA_len H.1 H.2.2 H.2.1 k1 k2 hy
  have l1 := arcL_len g.2 (x.toNat / a.2.1.length)
  have := H.1.m
  show (nbV g a _ _).length ≤ 720
  unfold nbV
  omega
end
def nxN (g : GrT) (a : AutT) (z : Int) : List Int := if 0 ≤ z ∧ z < (a.2.1.length * g.1.length : Nat) then nxC g a z else []
section
variable {g : GrT} {a : AutT} (H : GOOD g a)
include H
theorem nxN_in : ∀ x : Int, 0 ≤ x → x < (a.2.1.length * g.1.length : Nat) → ∀ y ∈ nxN g a x, 0 ≤ y ∧ y < (a.2.1.length * g.1.length : Nat) := fun x h0 h1 => by
  unfold nxN; rw [if_pos ⟨h0, h1⟩]; exact nxC_in H x h0 h1
theorem nxN_len (x : Int) : (nxN g a x).length ≤ 720 := by
  unfold nxN; split
  · rename_i h; exact nxC_len H h.1 h.2
  · simp
theorem i_nextN : m_i_nextVertices g a = some (rm (a.2.1.length * g.1.length) fun z => nxN g a (z : Int)) := by
  rw [i_nextV H.1 H.2.2 H.2.1]
  congr 1
  refine rm_congr fun z hz => ?_
  unfold nxN
  rw [if_pos ⟨by omega, by omega⟩]; rfl
theorem s_stepsN {x : Int} (h0 : 0 ≤ x) (h1 : x < (a.2.1.length * g.1.length : Nat)) : ∃ l : List PsT, m_s_l14Steps g a (quoI x (a.2.1.length : Int)) (Int.tmod x (a.2.1.length : Int)) = some l ∧ l.map (fun p => p.2.1 * (a.2.1.length : Int) + p.2.2) = nxN g a x ∧ ∀ p ∈ l, (0 ≤ p.2.1 ∧ p.2.1 < 60) ∧ 0 ≤ p.2.2 ∧ p.2.2 < 60 := by
  obtain ⟨k1, k2⟩ := H.divmod h0 h1
  have hp := H.2.2.pos
  have hN := nN H.1 H.2.2 H.2.1
  have e1 : quoI x (a.2.1.length : Int) = ((x.toNat / a.2.1.length : Nat) : Int) := by
    unfold quoI
    have : x.tdiv (a.2.1.length : Int) = ((x.toNat / a.2.1.length : Nat) : Int) := by
      rw [Int.tdiv_eq_ediv_of_nonneg h0]
      rw [show x / (a.2.1.length : Int) = ((x.toNat : Nat) : Int) / (a.2.1.length : Int) from by rw [Int.toNat_of_nonneg h0]]
      simp
    rw [this, wrap_nat (by have := H.1.n5; omega)]
  have e2 : Int.tmod x (a.2.1.length : Int) = ((x.toNat % a.2.1.length : Nat) : Int) := by
    rw [Int.tmod_eq_emod_of_nonneg h0]
    rw [show x % (a.2.1.length : Int) = ((x.toNat : Nat) : Int) % (a.2.1.length : Int) from by rw [Int.toNat_of_nonneg h0]]
    simp
  refine ⟨_, by rw [e1, e2]; exact s_steps H.1 H.2.2 H.2.1 k1 k2, ?_, fun p hp => ?_⟩
  · rw [stV_nb]; unfold nxN; rw [if_pos ⟨h0, h1⟩]; rfl
  · obtain ⟨y, hy, hp⟩ := List.mem_flatMap.1 hp
    obtain ⟨t, ht, rfl⟩ := List.mem_map.1 hp
    have h2 := (arc_in H.1 hy).2
    have h3 := (behind_in H.1 H.2.2 H.2.1 (s := ((x.toNat % a.2.1.length : Nat) : Int)) ⟨by omega, by omega⟩ (H.1.val _ (nth_mem (xs := g.1) (i := ((x.toNat / a.2.1.length : Nat) : Int)) (Int.natCast_nonneg _) (Int.ofNat_lt.2 k1))) (arc_in H.1 hy).1).1 t ht
    have := H.1.n5
    have := H.2.1
    exact ⟨⟨h2.1, by simp only; omega⟩, h3.1, by simp only; omega⟩
end
def RKs (g : GrT) (a : AutT) (v : Int) : List Int := (bsS (nxN g a) (a.2.1.length * g.1.length) v (a.2.1.length * g.1.length)).1
theorem bsS_more {nx : Int → List Int} {N : Nat} {v : Int} (hv : 0 ≤ v ∧ v < N) (hn : ∀ x : Int, 0 ≤ x → x < N → ∀ y ∈ nx x, 0 ≤ y ∧ y < N) {K : Nat} (hE : K = (bsS nx N v K).2.length) : ∀ d, bsS nx N v (K + d) = bsS nx N v K
  | 0 => rfl
  | d + 1 => by
    have ih := bsS_more hv hn hE d
    rw [← Nat.add_assoc, bsS, ih]
    have : (bsS nx N v K).2[K + d]? = none := List.getElem?_eq_none (by omega)
    rw [this]
section
variable {g : GrT} {a : AutT} (H : GOOD g a) {x : Int} (hx : 0 ≤ x ∧ x < g.1.length)
include H hx
theorem v_in : 0 ≤ x * (a.2.1.length : Int) + a.1 ∧ x * (a.2.1.length : Int) + a.1 < (a.2.1.length * g.1.length : Nat) := by
  obtain ⟨z, rfl⟩ : ∃ z : Nat, x = (z : Int) := ⟨_, (Int.toNat_of_nonneg hx.1).symm⟩
  have hs := H.2.2.start
  obtain ⟨s, hs'⟩ : ∃ s : Nat, a.1 = (s : Int) := ⟨_, (Int.toNat_of_nonneg hs.1).symm⟩
  rw [hs'] at hs ⊢
  have := cN H.1 H.2.2 H.2.1 (x := z) (s := s) (by omega) (by omega)
  constructor
  · exact Int.add_nonneg (Int.mul_nonneg (by omega) (by omega)) (by omega)
  · exact_mod_cast this
theorem v_wrap : IntKind.i64.wrap ((IntKind.i64.wrap (x * (a.2.1.length : Int))) + a.1) = x * (a.2.1.length : Int) + a.1 := by
  have h := v_in H hx
  have hN := nN H.1 H.2.2 H.2.1
  have hs := H.2.2.start
  have hn := H.2.1
  have h5 := H.1.n5
  rw [wrapI (n := x * (a.2.1.length : Int)) (by omega) (by omega), wrapI (by omega) (by omega)]
theorem rk_ok : BI (a.2.1.length * g.1.length) (bsS (nxN g a) (a.2.1.length * g.1.length) (x * (a.2.1.length : Int) + a.1) (a.2.1.length * g.1.length)) := bsS_ok (v_in H hx) (nxN_in H) _
theorem rk_len : (RKs g a (x * (a.2.1.length : Int) + a.1)).length = a.2.1.length * g.1.length := (rk_ok H hx).len
theorem rk_rng {i : Int} (h0 : 0 ≤ i) (h1 : i < (a.2.1.length * g.1.length : Nat)) : -1 ≤ nth (RKs g a (x * (a.2.1.length : Int) + a.1)) i ∧ nth (RKs g a (x * (a.2.1.length : Int) + a.1)) i < 60 := by
  have h := rk_ok H hx
  have ht := h.top i h0 h1
  have hl := h.le
  have hN := nN H.1 H.2.2 H.2.1
  unfold RKs
  omega
theorem i_dist (e : m_i_bothOk g a [x] = some true) : m_i_DistancesFrom g a x = some (RKs g a (x * (a.2.1.length : Int) + a.1)) := by
  unfold m_i_DistancesFrom
  have e : m_i_bothOk (g.1, g.2) (a.1, a.2.1, a.2.2) [x] = _ := e
  rw [e]; simp only [Option.bind_some, if_true]
  have e2 : m_i_nextVertices (g.1, g.2) (a.1, a.2.1, a.2.2) = _ := i_nextN H
  rw [e2]; simp only [Option.bind_some]
  have hN := nN H.1 H.2.2 H.2.1
  obtain ⟨K, hK, hE, hR⟩ := bsS_end (v_in H hx) (nxN_in H)
  rw [v_wrap H hx, i_spread hN (v_in H hx) (nxN_in H) (fun x => by have := nxN_len H x; omega) hK hE hR]; simp only [Option.bind_some]
  have hk : bsS (nxN g a) (a.2.1.length * g.1.length) (x * (a.2.1.length : Int) + a.1) K = bsS (nxN g a) (a.2.1.length * g.1.length) (x * (a.2.1.length : Int) + a.1) (a.2.1.length * g.1.length) := by
    have := bsS_more (v_in H hx) (nxN_in H) hE (a.2.1.length * g.1.length - K)
    rw [show K + (a.2.1.length * g.1.length - K) = a.2.1.length * g.1.length from by omega] at this
    exact this.symm
  have hl := rk_len H hx
  rw [hk]
  show ((chk _).bind fun _ => _).bind _ = _
  have hv := v_in H hx
  rw [chk_ok (by rw [show (bsS _ _ _ _).1.length = _ from hl]; omega)]; rfl
theorem rk_l2 {o1 o2 : List Int} {i : Nat} {z : Int} {l : List PsT} (hz : (bsS (nxN g a) (a.2.1.length * g.1.length) (x * (a.2.1.length : Int) + a.1) i).2[i]? = some z)
    (hl : l.map (fun p => p.2.1 * (a.2.1.length : Int) + p.2.2) = nxN g a z) (hp : ∀ p ∈ l, (0 ≤ p.2.1 ∧ p.2.1 < 60) ∧ 0 ≤ p.2.2 ∧ p.2.2 < 60) :
    loopM (m_s_l14Ranks_l2 a (o1, o2, (i : Int)) l) FUEL ((bsS (nxN g a) (a.2.1.length * g.1.length) (x * (a.2.1.length : Int) + a.1) i).1, (bsS (nxN g a) (a.2.1.length * g.1.length) (x * (a.2.1.length : Int) + a.1) i).2, 0) = some (.brk ((bsS (nxN g a) (a.2.1.length * g.1.length) (x * (a.2.1.length : Int) + a.1) (i + 1)).1, (bsS (nxN g a) (a.2.1.length * g.1.length) (x * (a.2.1.length : Int) + a.1) (i + 1)).2, (l.length : Int))) := by
  have hN := nN H.1 H.2.2 H.2.1
  have hv := v_in H hx
  have hnn := H.2.1
  generalize hV : x * (a.2.1.length : Int) + a.1 = v at hz hv ⊢
  have hlen : l.length ≤ 720 := by have := nxN_len H z; rw [← hl, List.length_map] at this; exact this
  have e : bsS (nxN g a) (a.2.1.length * g.1.length) v (i + 1) = relS (nth (bsS (nxN g a) (a.2.1.length * g.1.length) v i).1 z + 1) (bsS (nxN g a) (a.2.1.length * g.1.length) v i) (nxN g a z) := by rw [bsS, hz]
  have := loopM_at (f := m_s_l14Ranks_l2 a (o1, o2, (i : Int)) l) (fun j => ((relS (nth (bsS (nxN g a) (a.2.1.length * g.1.length) v i).1 z + 1) (bsS (nxN g a) (a.2.1.length * g.1.length) v i) ((nxN g a z).take j)).1, (relS (nth (bsS (nxN g a) (a.2.1.length * g.1.length) v i).1 z + 1) (bsS (nxN g a) (a.2.1.length * g.1.length) v i) ((nxN g a z).take j)).2, (j : Int))) l.length (fun j hj => by
    obtain ⟨k1, k2, k3, ⟨x0, x1⟩, k4, k5⟩ := bs_in hN hv (nxN_in H) (fun x => by have := nxN_len H x; omega) hz j
    have hjn : j < (nxN g a z).length := by rw [← hl, List.length_map]; exact hj
    have hy := nxN_in H z x0 x1 _ (nth_mem (xs := nxN g a z) (i := (j : Int)) (by omega) (by omega))
    have hq := hp _ (nth_mem (xs := l) (i := (j : Int)) (by omega) (by omega))
    have hyl : nth (nxN g a z) (j : Int) = (nth l (j : Int)).2.1 * (a.2.1.length : Int) + (nth l (j : Int)).2.2 := by rw [← hl, nth_map (by omega) (by omega)]
    unfold m_s_l14Ranks_l2
    simp only
    rw [take_snoc hjn, relS_snoc]
    generalize relS (nth (bsS (nxN g a) (a.2.1.length * g.1.length) v i).1 z + 1) (bsS (nxN g a) (a.2.1.length * g.1.length) v i) ((nxN g a z).take j) = s at k1 k2 k3 k5
    have hle := k1.le
    have hsl := k1.len
    rw [if_pos (by simp; omega), getI_nth (by omega) (by omega)]; simp only [Option.bind_some]
    rw [wrapI (n := (nth l (j : Int)).2.1 * (a.2.1.length : Int)) (by omega) (by omega), ← hyl, wrapI (by omega) (by omega)]
    rw [getI_nth (xs := s.1) hy.1 (by omega)]; simp only [Option.bind_some]
    rw [show getI s.2 (i : Int) = some z from by unfold getI; rw [if_pos (by omega)]; exact k2]; simp only [Option.bind_some]
    rw [getI_nth (xs := s.1) x0 (by omega)]; simp only [Option.bind_some]
    rw [appI_ok (by simp; omega), wrap_succ (by omega), k3, wrapI (by omega) (by omega)]
    unfold rel1
    by_cases c : nth s.1 (nth (nxN g a z) (j : Int)) < 0
    · rw [if_pos (by simpa using c), if_pos c]; rfl
    · rw [if_neg (by simpa using c), if_neg c]; rfl) (by unfold m_s_l14Ranks_l2; simp) (up63 (by omega))
  have et : (nxN g a z).take l.length = nxN g a z := by
    have : l.length = (nxN g a z).length := by rw [← hl, List.length_map]
    rw [this, List.take_length]
  rw [et] at this
  rw [e]
  exact this
theorem s_ranks : m_s_l14Ranks g a x = some (RKs g a (x * (a.2.1.length : Int) + a.1)) := by
  have hN := nN H.1 H.2.2 H.2.1
  have hv := v_in H hx
  have hpos := H.2.2.pos
  unfold m_s_l14Ranks
  have ew : IntKind.i64.wrap ((g.1.length : Int) * (a.2.1.length : Int)) = ((a.2.1.length * g.1.length : Nat) : Int) := by
    rw [show ((g.1.length : Int) * (a.2.1.length : Int)) = ((a.2.1.length * g.1.length : Nat) : Int) from by rw [Nat.mul_comm]; simp, wrap_nat (by omega)]
  have e0 : loopM (m_s_l14Ranks_l0 g a) FUEL (([] : List Int), 0) = some (.brk (List.replicate (a.2.1.length * g.1.length) (-1), ((a.2.1.length * g.1.length : Nat) : Int))) := by
    have := loopM_at (f := m_s_l14Ranks_l0 g a) (fun i => (List.replicate i (-1), (i : Int))) (a.2.1.length * g.1.length) (fun i hi => by
      unfold m_s_l14Ranks_l0
      simp only
      rw [ew, if_pos (by simp only [decide_eq_true_eq]; omega), appI_ok (by simp; omega), wrap_succ (by omega)]; simp only [Option.bind_some]
      rw [List.replicate_succ']) (by unfold m_s_l14Ranks_l0; simp only; rw [ew, if_neg (by simp)]) (up63 (by omega))
    exact this
  rw [bindL_brk e0, v_wrap H hx]
  simp only
  generalize hV : x * (a.2.1.length : Int) + a.1 = v at hv
  rw [show getI [v] 0 = some v from rfl]; simp only [Option.bind_some]
  rw [getI_nth (xs := List.replicate _ (-1 : Int)) hv.1 (by simpa using hv.2)]; simp only [Option.bind_some]
  obtain ⟨K, hK, hE, hR⟩ := bsS_end hv (nxN_in H)
  have := loopM_at (f := m_s_l14Ranks_l1 g a) (fun i => ((bsS (nxN g a) (a.2.1.length * g.1.length) v i).1, (bsS (nxN g a) (a.2.1.length * g.1.length) v i).2, (i : Int))) K (fun i hi => by
    have hi2 := hR i hi
    obtain ⟨z, hz⟩ : ∃ z, (bsS (nxN g a) (a.2.1.length * g.1.length) v i).2[i]? = some z := ⟨_, List.getElem?_eq_getElem hi2⟩
    obtain ⟨z0, z1⟩ := (bsS_ok hv (nxN_in H) i).rng z (List.mem_of_getElem? hz)
    obtain ⟨l, es, hl, hp⟩ := s_stepsN H z0 z1
    have es : m_s_l14Steps (g.1, g.2) (a.1, a.2.1, a.2.2) (quoI z (a.2.1.length : Int)) (Int.tmod z (a.2.1.length : Int)) = _ := es
    unfold m_s_l14Ranks_l1
    simp only
    rw [if_pos (by simp only [decide_eq_true_eq]; omega)]
    rw [show getI (bsS (nxN g a) (a.2.1.length * g.1.length) v i).2 (i : Int) = some z from by unfold getI; rw [if_pos (by omega)]; exact hz]; simp only [Option.bind_some]
    rw [chk_ok (by omega), es]; simp only [Option.bind_some]
    have h2 := rk_l2 H hx (o1 := (bsS (nxN g a) (a.2.1.length * g.1.length) v i).1) (o2 := (bsS (nxN g a) (a.2.1.length * g.1.length) v i).2) (by rw [hV]; exact hz) hl hp
    rw [hV] at h2
    rw [bindL_brk h2, wrap_succ (by omega)]) (by unfold m_s_l14Ranks_l1; simp only; rw [if_neg (by simp; omega)]) (up63 (by omega))
  have this : loopM (m_s_l14Ranks_l1 g a) FUEL ((List.replicate (a.2.1.length * g.1.length) (-1)).set v.toNat 0, [v], 0) = _ := this
  rw [bindL_brk this]
  simp only
  have := bsS_more hv (nxN_in H) hE (a.2.1.length * g.1.length - K)
  rw [show K + (a.2.1.length * g.1.length - K) = a.2.1.length * g.1.length from by omega] at this
  unfold RKs
  rw [this]
end
end Go.Proofs.Ytfjohpmibocjcaa.D
/- Automata copied. -/
set_option linter.unusedVariables false
set_option linter.unusedSimpArgs false
set_option linter.unnecessarySimpa false
set_option linter.unusedSectionVars false
set_option synthInstance.maxSize 20000
set_option synthInstance.maxHeartbeats 2000000
namespace Go.Proofs.Ytfjohpmibocjcaa.D
open Go.RowKit

theorem s_copyA (a : AutT) (ha : Data.sm a) : m_s_l11Copy a = some a := by
  obtain ⟨-, ⟨hb, -⟩, hn, hr⟩ := ha
  unfold m_s_l11Copy
  rw [appI_ok (by simp; omega)]; simp only [Option.bind_some, List.nil_append]
  have := loopM_at (f := m_s_l11Copy_l0 a) (fun i => ((i : Int), a.1, a.2.1, a.2.2.take i)) a.2.2.length (fun i hi => by
    unfold m_s_l11Copy_l0
    have h1 : appI 8 ([] : List Int) a.2.2[i] = some a.2.2[i] := by rw [appI_ok (by have : a.2.2[i].length ≤ 1048576 := (hr _ (List.getElem_mem hi)).1; simp; omega)]; rfl
    simp only [lt_nat hi, if_true, getI_nat hi, Option.bind_some, h1, wrap_succ (show i < 9223372036854775807 by omega)]
    rw [appI_ok (by simp; omega)]
    simp only [Option.bind_some]
    rw [List.take_succ_eq_append_getElem hi]) (by
    unfold m_s_l11Copy_l0
    simp only [lt_self, Bool.false_eq_true, if_false]) (fuelUp _ (by omega))
  have e : loopM (m_s_l11Copy_l0 a) FUEL (0, a.1, a.2.1, []) = _ := this
  rw [e]
  simp only [bindL, List.take_length]
theorem i_copyA (a : AutT) (ha : Data.sm a) : m_i_copyAutomaton a = some a := by
  obtain ⟨-, ⟨hb, -⟩, hn, hr⟩ := ha
  unfold m_i_copyAutomaton
  rw [appI_ok (by simp; omega)]; simp only [Option.bind_some, List.nil_append]
  have := loopM_at (f := m_i_copyAutomaton_l0 a) (fun i => ((i : Int), a.1, a.2.1, a.2.2.take i)) a.2.2.length (fun i hi => by
    unfold m_i_copyAutomaton_l0 m_i_copyInts
    have h1 : appI 8 ([] : List Int) a.2.2[i] = some a.2.2[i] := by rw [appI_ok (by have : a.2.2[i].length ≤ 1048576 := (hr _ (List.getElem_mem hi)).1; simp; omega)]; rfl
    simp only [lt_nat hi, if_true, getI_nat hi, Option.bind_some, h1, wrap_succ (show i < 9223372036854775807 by omega)]
    rw [appI_ok (by simp; omega)]
    simp only [Option.bind_some]
    rw [List.take_succ_eq_append_getElem hi]) (by
    unfold m_i_copyAutomaton_l0
    simp only [lt_self, Bool.false_eq_true, if_false]) (fuelUp _ (by omega))
  have e : loopM (m_i_copyAutomaton_l0 a) FUEL (0, a.1, a.2.1, []) = _ := this
  rw [e]
  simp only [bindL, List.take_length]
end Go.Proofs.Ytfjohpmibocjcaa.D
/- Views, built by the reference and by the program. -/
set_option linter.unusedVariables false
set_option linter.unusedSimpArgs false
set_option linter.unnecessarySimpa false
set_option linter.unusedSectionVars false
namespace Go.Proofs.Ytfjohpmibocjcaa.D
open Go.RowKit

abbrev ViT := (Int × (List Bool) × (List (List Int))) × Int × (List Int) × (List Int)
def sup1 (R : List Int) (i : Int) (S : List Int) (k : Int) : List Int := if 0 ≤ nth R i ∧ nth R i = nth R k - 1 then S.set k.toNat (nth S k + 1) else S
def supL (R : List Int) (i : Int) (S : List Int) (l : List Int) : List Int := l.foldl (sup1 R i) S
theorem supL_snoc (R : List Int) (i : Int) (S : List Int) (l : List Int) (k : Int) : supL R i S (l ++ [k]) = sup1 R i (supL R i S l) k := by simp [supL]
def supN (nx : Int → List Int) (N : Nat) (R : List Int) : Nat → List Int
  | 0 => List.replicate N 0
  | i + 1 => supL R (i : Int) (supN nx N R i) (nx (i : Int))
structure SB (N : Nat) (c : Int) (S : List Int) : Prop where
  len : S.length = N
  rng : ∀ k : Int, 0 ≤ k → k < N → 0 ≤ nth S k ∧ nth S k ≤ c
theorem SB.one {N : Nat} {c : Int} {S : List Int} (h : SB N c S) {R : List Int} {i k : Int} (hk : 0 ≤ k ∧ k < N) : SB N (c + 1) (sup1 R i S k) := by
  unfold sup1
  have hl := h.len
  split
  · refine ⟨by simp [h.len], fun q h0 h1 => ?_⟩
    by_cases e : k = q
    · subst e
      rw [nth_set_self hk.1 (by omega)]
      have := h.rng k h0 h1
      omega
    · rw [nth_set_ne hk.1 h0 e]
      have := h.rng q h0 h1
      omega
  · exact ⟨hl, fun q h0 h1 => by have := h.rng q h0 h1; omega⟩
theorem SB.all {N : Nat} {R : List Int} {i : Int} : ∀ {l : List Int} {c : Int} {S : List Int}, SB N c S → (∀ k ∈ l, 0 ≤ k ∧ k < N) → SB N (c + l.length) (supL R i S l)
  | [], c, S, h, _ => by simpa [supL] using h
  | k :: l, c, S, h, hk => by
    have h1 := h.one (R := R) (i := i) (hk k (by simp))
    have h2 := SB.all (R := R) (i := i) (l := l) h1 (fun q hq => hk q (by simp [hq]))
    rw [List.length_cons, show c + ((l.length + 1 : Nat) : Int) = c + 1 + l.length from by omega]
    exact h2
theorem supL_neg {R : List Int} {i : Int} (h : nth R i < 0) : ∀ (l : List Int) (S : List Int), supL R i S l = S
  | [], _ => rfl
  | k :: l, S => by
    have : sup1 R i S k = S := by unfold sup1; rw [if_neg (by omega)]
    show supL R i (sup1 R i S k) l = S
    rw [this]; exact supL_neg h l S
section
variable {g : GrT} {a : AutT} (H : GOOD g a) {R : List Int} (hR : R.length = a.2.1.length * g.1.length) (hr : ∀ i : Int, 0 ≤ i → i < (a.2.1.length * g.1.length : Nat) → -1 ≤ nth R i ∧ nth R i < 60)
include H
theorem supN_ok : ∀ i : Nat, i ≤ a.2.1.length * g.1.length → SB (a.2.1.length * g.1.length) (720 * (i : Int)) (supN (nxN g a) (a.2.1.length * g.1.length) R i)
  | 0, _ => ⟨by simp [supN], fun k h0 h1 => by
      have : k.toNat < a.2.1.length * g.1.length := by omega
      simp [supN, nth, List.getD_eq_getElem?_getD, List.getElem?_replicate, this]⟩
  | i + 1, hi => by
    have h := (supN_ok i (by omega)).all (R := R) (i := (i : Int)) (l := nxN g a (i : Int)) (nxN_in H _ (by omega) (by omega))
    have hl := nxN_len H (i : Int)
    exact ⟨h.len, fun k h0 h1 => by have := h.rng k h0 h1; unfold supN; omega⟩
include hR hr
theorem sup_in {i : Nat} (hi : i < a.2.1.length * g.1.length) (j : Nat) : SB (a.2.1.length * g.1.length) (43200 + 720) (supL R (i : Int) (supN (nxN g a) (a.2.1.length * g.1.length) R i) ((nxN g a (i : Int)).take j)) := by
  have h := (supN_ok H (R := R) i (by omega)).all (R := R) (i := (i : Int)) (l := (nxN g a (i : Int)).take j) (fun k hk => nxN_in H _ (by omega) (by omega) k (List.mem_of_mem_take hk))
  have hl := nxN_len H (i : Int)
  have hl2 : ((nxN g a (i : Int)).take j).length ≤ (nxN g a (i : Int)).length := by rw [List.length_take]; omega
  have hN := nN H.1 H.2.2 H.2.1
  exact ⟨h.len, fun k h0 h1 => by have := h.rng k h0 h1; omega⟩
theorem i_bv1 {i : Nat} (hi : i < a.2.1.length * g.1.length) {o : List Int} : loopM (m_i_BuildView_l1 R ((i : Int), o) (nxN g a (i : Int))) FUEL (0, supN (nxN g a) (a.2.1.length * g.1.length) R i) = some (.brk (((nxN g a (i : Int)).length : Int), supN (nxN g a) (a.2.1.length * g.1.length) R (i + 1))) := by
  have hN := nN H.1 H.2.2 H.2.1
  have hlen := nxN_len H (i : Int)
  have := loopM_at (f := m_i_BuildView_l1 R ((i : Int), o) (nxN g a (i : Int))) (fun j => ((j : Int), supL R (i : Int) (supN (nxN g a) (a.2.1.length * g.1.length) R i) ((nxN g a (i : Int)).take j))) (nxN g a (i : Int)).length (fun j hj => by
    have hb := sup_in H hR hr hi j
    have hk := nxN_in H (i : Int) (by omega) (by omega) _ (nth_mem (xs := nxN g a (i : Int)) (i := (j : Int)) (by omega) (by omega))
    unfold m_i_BuildView_l1
    simp only
    rw [take_snoc hj, supL_snoc]
    rw [if_pos (by simp; omega), getI_nth (xs := nxN g a (i : Int)) (by omega) (by omega)]; simp only [Option.bind_some]
    generalize supL R (i : Int) (supN (nxN g a) (a.2.1.length * g.1.length) R i) ((nxN g a (i : Int)).take j) = S at hb
    have hsl := hb.len
    generalize nth (nxN g a (i : Int)) (j : Int) = k at hk ⊢
    have hs := hb.rng k hk.1 hk.2
    have r1 := hr (i : Int) (by omega) (by omega)
    have r2 := hr k hk.1 hk.2
    rw [getI_nth (xs := R) (i := (i : Int)) (by omega) (by omega), getI_nth (xs := R) hk.1 (by omega), getI_nth (xs := S) hk.1 (by omega), wrap_succ (by omega)]; simp only [Option.bind_some]
    rw [wrapI (n := nth R k - 1) (by omega) (by omega), wrapI (n := nth S k + 1) (by omega) (by omega)]
    unfold sup1
    by_cases c : 0 ≤ nth R (i : Int)
    · rw [if_pos (by simpa using c)]
      by_cases d : nth R (i : Int) = nth R k - 1
      · rw [if_pos (by simpa using d), if_pos ⟨c, d⟩]; rfl
      · rw [if_neg (by simpa using d), if_neg (fun h => d h.2)]; rfl
    · rw [if_neg (by simpa using c), if_neg (fun h => c h.1)]; rfl) (by unfold m_i_BuildView_l1; simp) (up63 (by omega))
  rw [List.take_length] at this
  exact this
theorem s_bv1 {x : Int} {i : Nat} (hi : i < a.2.1.length * g.1.length) {o : List Int} {l : List PsT} (hl : l.map (fun p => p.2.1 * (a.2.1.length : Int) + p.2.2) = nxN g a (i : Int)) (hp : ∀ p ∈ l, (0 ≤ p.2.1 ∧ p.2.1 < 60) ∧ 0 ≤ p.2.2 ∧ p.2.2 < 60) :
    ∃ j : Int, loopM (m_s_l27Build_l1 a ((i : Int), a.1, a.2.1, a.2.2, x, R, o) l) FUEL (0, a.1, a.2.1, a.2.2, x, R, supN (nxN g a) (a.2.1.length * g.1.length) R i) = some (.brk (j, a.1, a.2.1, a.2.2, x, R, supN (nxN g a) (a.2.1.length * g.1.length) R (i + 1))) := by
  have hN := nN H.1 H.2.2 H.2.1
  have hnn := H.2.1
  have hlen : l.length ≤ 720 := by have := nxN_len H (i : Int); rw [← hl, List.length_map] at this; exact this
  have r1 := hr (i : Int) (by omega) (by omega)
  have eR := getI_nth (xs := R) (i := (i : Int)) (by omega) (by omega)
  by_cases c : 0 ≤ nth R (i : Int)
  · have := loopM_at (f := m_s_l27Build_l1 a ((i : Int), a.1, a.2.1, a.2.2, x, R, o) l) (fun j => ((j : Int), a.1, a.2.1, a.2.2, x, R, supL R (i : Int) (supN (nxN g a) (a.2.1.length * g.1.length) R i) ((nxN g a (i : Int)).take j))) l.length (fun j hj => by
      have hb := sup_in H hR hr hi j
      have hjn : j < (nxN g a (i : Int)).length := by rw [← hl, List.length_map]; exact hj
      have hk := nxN_in H (i : Int) (by omega) (by omega) _ (nth_mem (xs := nxN g a (i : Int)) (i := (j : Int)) (by omega) (by omega))
      have hq := hp _ (nth_mem (xs := l) (i := (j : Int)) (by omega) (by omega))
      have hyl : nth (nxN g a (i : Int)) (j : Int) = (nth l (j : Int)).2.1 * (a.2.1.length : Int) + (nth l (j : Int)).2.2 := by rw [← hl, nth_map (by omega) (by omega)]
      unfold m_s_l27Build_l1
      simp only
      rw [take_snoc hjn, supL_snoc]
      rw [if_pos (by simp; omega), eR]; simp only [Option.bind_some]
      rw [if_pos (by simpa using c), getI_nth (xs := l) (by omega) (by omega)]; simp only [Option.bind_some]
      rw [wrapI (n := (nth l (j : Int)).2.1 * (a.2.1.length : Int)) (by omega) (by omega), ← hyl, wrapI (n := nth (nxN g a (i : Int)) (j : Int)) (by omega) (by omega)]
      generalize supL R (i : Int) (supN (nxN g a) (a.2.1.length * g.1.length) R i) ((nxN g a (i : Int)).take j) = S at hb
      have hsl := hb.len
      generalize nth (nxN g a (i : Int)) (j : Int) = k at hk ⊢
      have hs := hb.rng k hk.1 hk.2
      have r2 := hr k hk.1 hk.2
      rw [getI_nth (xs := R) hk.1 (by omega), getI_nth (xs := S) hk.1 (by omega), wrap_succ (by omega)]; simp only [Option.bind_some]
      rw [wrapI (n := nth R (i : Int) + 1) (by omega) (by omega), wrapI (n := nth S k + 1) (by omega) (by omega)]
      unfold sup1
      by_cases d : nth R (i : Int) = nth R k - 1
      · rw [if_pos (by simp; omega), if_pos ⟨c, d⟩]; rfl
      · rw [if_neg (by simp; omega), if_neg (fun h => d h.2)]; rfl) (by unfold m_s_l27Build_l1; simp) (up63 (by omega))
    have et : (nxN g a (i : Int)).take l.length = nxN g a (i : Int) := by
      have : l.length = (nxN g a (i : Int)).length := by rw [← hl, List.length_map]
      rw [this, List.take_length]
    rw [et] at this
    exact ⟨_, this⟩
  · have e : supN (nxN g a) (a.2.1.length * g.1.length) R (i + 1) = supN (nxN g a) (a.2.1.length * g.1.length) R i := by
      show supL R (i : Int) _ _ = _
      exact supL_neg (by omega) _ _
    rw [e]
    refine ⟨0, ?_⟩
    have := loopM_at (f := m_s_l27Build_l1 a ((i : Int), a.1, a.2.1, a.2.2, x, R, o) l) (fun _ => ((0 : Int), a.1, a.2.1, a.2.2, x, R, supN (nxN g a) (a.2.1.length * g.1.length) R i)) 0 (fun j hj => absurd hj (Nat.not_lt_zero _)) (by
      unfold m_s_l27Build_l1
      simp only
      split
      · rw [eR]; simp only [Option.bind_some]
        rw [if_neg (by simpa using c)]
      · rfl) (by unfold FUEL; omega)
    exact this
end
def viewOf (g : GrT) (a : AutT) (x : Int) : ViT := ((a.1, a.2.1, a.2.2), x, RKs g a (x * (a.2.1.length : Int) + a.1), supN (nxN g a) (a.2.1.length * g.1.length) (RKs g a (x * (a.2.1.length : Int) + a.1)) (a.2.1.length * g.1.length))
section
variable {g : GrT} {a : AutT} (H : GOOD g a) {x : Int} (hx : 0 ≤ x ∧ x < g.1.length) (ha : Data.sm a)
include H hx ha
theorem s_build : m_s_l27Build g a x = some (viewOf g a x) := by
  have hN := nN H.1 H.2.2 H.2.1
  have hp := H.2.2.pos
  unfold m_s_l27Build
  have e1 : m_s_l11Copy (a.1, a.2.1, a.2.2) = _ := s_copyA a ha
  have e2 : m_s_l14Ranks (g.1, g.2) (a.1, a.2.1, a.2.2) x = _ := s_ranks H hx
  rw [e1, e2]; simp only [Option.bind_some]
  have hR := rk_len H hx
  have hr := fun i h0 h1 => rk_rng H hx (i := i) h0 h1
  unfold viewOf
  generalize RKs g a (x * (a.2.1.length : Int) + a.1) = R at hR hr
  rw [hR, mkI_ok (by omega)]; simp only [Option.bind_some]
  have := loopM_at (f := m_s_l27Build_l0 g a) (fun i => ((i : Int), a.1, a.2.1, a.2.2, x, R, supN (nxN g a) (a.2.1.length * g.1.length) R i)) (a.2.1.length * g.1.length) (fun i hi => by
    obtain ⟨l, es, hl, hpp⟩ := s_stepsN H (x := (i : Int)) (by omega) (by omega)
    have es : m_s_l14Steps (g.1, g.2) (a.1, a.2.1, a.2.2) (quoI (i : Int) (a.2.1.length : Int)) (Int.tmod (i : Int) (a.2.1.length : Int)) = _ := es
    unfold m_s_l27Build_l0
    simp only
    rw [if_pos (by simp only [decide_eq_true_eq]; omega), chk_ok (by omega)]; simp only [Option.bind_some]
    rw [es]; simp only [Option.bind_some]
    obtain ⟨j, e⟩ := s_bv1 H hR hr (x := x) hi (o := supN (nxN g a) (a.2.1.length * g.1.length) R i) hl hpp
    rw [bindL_brk e, wrap_succ (by omega)]) (by unfold m_s_l27Build_l0; simp only; rw [if_neg (by simp; omega)]) (up63 (by omega))
  have this : loopM (m_s_l27Build_l0 g a) FUEL (0, a.1, a.2.1, a.2.2, x, R, List.replicate (a.2.1.length * g.1.length) 0) = _ := this
  rw [bindL_brk this]
theorem i_build (e : m_i_bothOk g a [x] = some true) : m_i_BuildView g a x = some (viewOf g a x, true) := by
  have hN := nN H.1 H.2.2 H.2.1
  have hp := H.2.2.pos
  have h1 := H.1.n1
  have hpp : 0 < a.2.1.length * g.1.length := Nat.mul_pos hp (by omega)
  unfold m_i_BuildView
  have e1 : m_i_copyAutomaton (a.1, a.2.1, a.2.2) = _ := i_copyA a ha
  have e2 : m_i_DistancesFrom (g.1, g.2) (a.1, a.2.1, a.2.2) x = _ := i_dist H hx e
  have e3 : m_i_nextVertices (g.1, g.2) (a.1, a.2.1, a.2.2) = _ := i_nextN H
  rw [e1, e2, e3]; simp only [Option.bind_some]
  have hR := rk_len H hx
  have hr := fun i h0 h1 => rk_rng H hx (i := i) h0 h1
  unfold viewOf
  generalize RKs g a (x * (a.2.1.length : Int) + a.1) = R at hR hr
  rw [hR, mkI_ok (by omega), if_neg (by simp only [decide_eq_true_eq]; omega), chk_ok (by omega)]; simp only [Option.bind_some]
  have := loopM_at (f := m_i_BuildView_l0 R (rm (a.2.1.length * g.1.length) fun z => nxN g a (z : Int))) (fun i => ((i : Int), supN (nxN g a) (a.2.1.length * g.1.length) R i)) (a.2.1.length * g.1.length) (fun i hi => by
    unfold m_i_BuildView_l0
    simp only
    rw [if_pos (by rw [rm_len]; simp only [decide_eq_true_eq]; omega), getI_rm hi]; simp only [Option.bind_some]
    rw [bindL_brk (i_bv1 H hR hr hi), wrap_succ (by omega)]) (by unfold m_i_BuildView_l0; rw [rm_len]; simp) (up63 (by omega))
  have this : loopM (m_i_BuildView_l0 R (rm (a.2.1.length * g.1.length) fun z => nxN g a (z : Int))) FUEL (0, List.replicate (a.2.1.length * g.1.length) 0) = _ := this
  rw [bindL_brk this]
end
theorem i_bad (g : GrT) (a : AutT) (x : Int) (e : m_i_bothOk g a [x] = some false) : m_i_BuildView g a x = some (((0, [], []), 0, [], []), false) := by
  unfold m_i_BuildView m_i_DistancesFrom
  have e : m_i_bothOk (g.1, g.2) (a.1, a.2.1, a.2.2) [x] = _ := e
  rw [e]; rfl
theorem view_both (g : GrT) (a : AutT) (hg : Data.sm g) (ha : Data.sm a) (x : Int) : (m_s_BuildView g a x = some (((0, [], []), 0, [], []), false) ∧ m_i_BuildView g a x = some (((0, [], []), 0, [], []), false)) ∨ (GOOD g a ∧ (0 ≤ x ∧ x < g.1.length) ∧ m_s_BuildView g a x = some (viewOf g a x, true) ∧ m_i_BuildView g a x = some (viewOf g a x, true)) := by
  obtain ⟨b, es, ei, hb⟩ := good_both g a hg ha x
  have es' : m_s_l14Good (g.1, g.2) (a.1, a.2.1, a.2.2) x 0 = _ := es
  cases b with
  | false => exact .inl ⟨by unfold m_s_BuildView; rw [es']; rfl, i_bad g a x ei⟩
  | true =>
    obtain ⟨H, hx⟩ := hb rfl
    refine .inr ⟨H, hx, ?_, i_build H hx ha ei⟩
    unfold m_s_BuildView
    rw [es']; simp only [Option.bind_some, if_true]
    have e : m_s_l27Build (g.1, g.2) (a.1, a.2.1, a.2.2) x = _ := s_build H hx ha
    rw [e]; rfl
theorem view_len {g : GrT} {a : AutT} (H : GOOD g a) {x : Int} (hx : 0 ≤ x ∧ x < g.1.length) : (viewOf g a x).2.2.1.length = a.2.1.length * g.1.length ∧ (viewOf g a x).2.2.2.length = a.2.1.length * g.1.length ∧ a.2.1.length * g.1.length ≤ 60 :=
  ⟨rk_len H hx, (supN_ok H _ (Nat.le_refl _)).len, nN H.1 H.2.2 H.2.1⟩
end Go.Proofs.Ytfjohpmibocjcaa.D
/- The plain law of AuditView. -/
set_option linter.unusedVariables false
set_option linter.unusedSimpArgs false
set_option linter.unnecessarySimpa false
set_option linter.unusedSectionVars false
set_option synthInstance.maxSize 20000
set_option synthInstance.maxHeartbeats 2000000
namespace Go.Proofs.Ytfjohpmibocjcaa.D
open Go.RowKit

theorem audit_both (g : GrT) (v : ViT) (hg : Data.sm g) (hv : Data.sm v) : ∃ k : Int, m_s_AuditView g v = some k ∧ m_i_AuditView g v = some k := by
  unfold m_s_AuditView m_i_AuditView
  obtain ⟨a, x, R, S⟩ := v
  rcases view_both g a hg hv.1 x with ⟨es, ei⟩ | ⟨H, hx, es, ei⟩
  · have es : m_s_BuildView (g.1, g.2) (a.1, a.2.1, a.2.2) x = _ := es
    have ei : m_i_BuildView (g.1, g.2) (a.1, a.2.1, a.2.2) x = _ := ei
    rw [es, ei]
    exact ⟨-2, rfl, rfl⟩
  · have es : m_s_BuildView (g.1, g.2) (a.1, a.2.1, a.2.2) x = _ := es
    have ei : m_i_BuildView (g.1, g.2) (a.1, a.2.1, a.2.2) x = _ := ei
    rw [es, ei]; simp only [Option.bind_some, if_true]
    obtain ⟨l1, l2, l3⟩ := view_len H hx
    generalize viewOf g a x = w at l1 l2
    generalize a.2.1.length * g.1.length = N at l1 l2 l3
    by_cases c1 : R.length = N
    · by_cases c2 : S.length = N
      · have h0 : m_i_AuditView_l0 (a, x, R, S) (w, true) = m_s_AuditView_l0 (a, x, R, S) (w, true) := rfl
        rw [h0, l1, l2, c1, c2]
        simp only [bne_self_eq_false, Bool.false_eq_true, if_false]
        obtain ⟨o, e, hq⟩ := loopM_go (f := m_s_AuditView_l0 (a, x, R, S) (w, true)) (fun i s => s = (i : Int) ∧ i ≤ N) (fun o => (∃ r, o = .ret r) ∨ ∃ r, o = .brk r) N (s := 0) (by
          rintro i s hi ⟨rfl, -⟩
          unfold m_s_AuditView_l0
          by_cases hl : i < N
          · rw [if_pos (by simp only [decide_eq_true_eq]; omega)]
            simp only
            rw [getI_nth (xs := w.2.2.1) (by omega) (by omega), getI_nth (xs := R) (by omega) (by omega), getI_nth (xs := w.2.2.2) (by omega) (by omega), getI_nth (xs := S) (by omega) (by omega), wrap_succ (by omega)]; simp only [Option.bind_some]
            split
            · exact .inr ⟨_, rfl, (fun s' e => by cases e), .inl ⟨_, rfl⟩⟩
            · split
              · exact .inr ⟨_, rfl, (fun s' e => by cases e), .inl ⟨_, rfl⟩⟩
              · exact .inl ⟨hl, _, rfl, rfl, by omega⟩
          · rw [if_neg (by simp only [decide_eq_true_eq]; omega)]
            exact .inr ⟨_, rfl, (fun s' e => by cases e), .inr ⟨_, rfl⟩⟩) ⟨rfl, by omega⟩ (up63 (by omega))
        rw [e]
        rcases hq with ⟨r, rfl⟩ | ⟨r, rfl⟩
        · exact ⟨r, rfl, rfl⟩
        · exact ⟨-1, rfl, rfl⟩
      · refine ⟨-2, ?_, ?_⟩
        · rw [if_neg (by simp; omega), if_pos (by simp; omega)]
        · rw [if_neg (by simp; omega), if_pos (by simp; omega)]
    · refine ⟨-2, ?_, ?_⟩
      · rw [if_pos (by simp; omega)]
      · rw [if_pos (by simp; omega)]
theorem lawAuditView (x : GrT) (y : ViT) (hx : Data.lim x) (hy : Data.lim y) : m_w_FnExactAuditView x y = some true := by
  unfold m_w_FnExactAuditView
  simp only [peta]
  obtain ⟨r1, e1, k1⟩ := z_szGraph x 1048576 hx (by decide) (by decide)
  rw [e1]; simp only [Option.bind_some]
  rcases k1 with k1 | ⟨k1, j1, s1⟩
  · rw [if_pos (decide_eq_true k1)]
  rw [if_neg (by simpa using k1)]
  obtain ⟨r2, e2, k2⟩ := z_szView y r1 hy k1 j1
  rw [e2]; simp only [Option.bind_some]
  rcases k2 with k2 | ⟨k2, j2, s2⟩
  · rw [if_pos (decide_eq_true k2)]
  rw [if_neg (by simpa using k2)]
  obtain ⟨k, es, ei⟩ := audit_both x y s1 s2
  simp only [t_toGraph x s1, t_toView y s2, es, ei, q_eqGraph x x s1 s1, q_eqView y y s2 s2, Option.bind_some, peta, decide_true, if_true]
  simp only [bne_self_eq_false, Bool.false_eq_true, if_false]
end Go.Proofs.Ytfjohpmibocjcaa.D
/- From 'the call returns true and changes nothing that was there' to the row's own post, whatever the arguments' types. -/
set_option linter.unusedVariables false
set_option linter.unusedSimpArgs false
namespace Go.Proofs.Ytfjohpmibocjcaa
open Go.ChangeShapes Go.WideShapes Go.ChangeAt Go.RowKit
theorem own : ownKnob Try.prog.godebug = none := by kernel_rfl
theorem laidOut : laidOutB Try.prog = true := by kernel_rfl
theorem below_trodAll {H : Type} {enc : TypeId × Value → H} {P : Program} (hl : laidOutB P = true) {W W' : World} (hb : Below W.heap.size W W') :
    ∀ {ts : List TypeId} {vs : List Value} {ds : List (DataW H)} {ps : List MemPlace}, (∀ t ∈ ts, P.readableRec t = true ∧ t < P.types.size) →
      DataW.TrodAll enc P W 0 (fun _ => true) true ts vs ds ps → (∀ x ∈ ps, x.block < W.heap.size) → DataW.TrodAll enc P W' 0 (fun b => decide (b < W.heap.size)) true ts vs ds ps
  | [], [], [], ps, _, h, _ => h
  | t :: ts, v :: vs, d :: ds, ps, hr, ⟨p, q, h1, h2, h3⟩, hlt => by
    subst h3
    exact ⟨p, q, Below.trod hl (hr t (by simp)).1 (hr t (by simp)).2 h1 hb fun x hx => hlt x (by simp [hx]), below_trodAll hl hb (fun t ht => hr t (by simp [ht])) h2 fun x hx => hlt x (by simp [hx]), rfl⟩
  | [], _ :: _, _, _, _, h, _ => h.elim
  | [], [], _ :: _, _, _, h, _ => h.elim
  | _ :: _, [], _, _, _, h, _ => h.elim
  | _ :: _, _ :: _, [], _, _, h, _ => h.elim
theorem law_post {H : Type} {enc : TypeId × Value → H} {f : Func} {s : ChangeSpec} {W W' : World} {args : Array Value} {ds : List (DataW H)} {before : List MemPlace} (tb : TypeId)
    (hb : Try.prog.underlying tb = some .bool) (hr : f.resultTypes = #[tb]) (hp : (f.params.toList.all fun t => Try.prog.readableRec t && decide (t < Try.prog.types.size)) = true) (hv : s.vars = [])
    (hW : DataW.Whole enc Try.prog f.params.toList s.vars false W args.toList ds [] before) (hres : (s.fn H (ds ++ [])).results = [.lit (.bool true)]) (hargs : (s.fn H (ds ++ [])).args = ds) (hvars : (s.fn H (ds ++ [])).vars = [])
    (hbel : Below W.heap.size W W') : s.post enc Try.prog f false true false false W args (.bool true) W' := by
  obtain ⟨p, q, h1, h2, h3, h4, h5⟩ := hW
  have hW' : DataW.Whole enc Try.prog f.params.toList s.vars false W args.toList ds [] before := ⟨p, q, h1, h2, h3, h4, h5⟩
  have hq : q = [] := by rw [hv] at h2; exact h2
  subst hq
  simp only [List.append_nil] at h3
  subst h3
  refine ⟨ds, [], before, [], before, [], hW', ?_, ?_, ?_, hbel.frame _, fun h => by cases h⟩
  · rw [hres, hr]
    exact trodAll_mk1 (shut_bool hb true)
  · rw [hargs]
    exact below_trodAll laidOut hbel (fun t ht => by have := List.all_eq_true.1 hp t ht; simpa using this) h1 fun x hx => by simpa using hW'.lt x hx
  · rw [hvars, hv]; rfl
end Go.Proofs.Ytfjohpmibocjcaa
/- FnExactAuditView: for every input the law returns true and changes nothing that was there. (Printed by genrow.py over the walk and the plain law.) -/
set_option linter.unusedVariables false
set_option linter.unusedSimpArgs false
set_option linter.unnecessarySimpa false
set_option maxRecDepth 100000
namespace Go.Proofs.Ytfjohpmibocjcaa
open Go.ChangeShapes Go.WideShapes Go.ChangeAt Go.RowKit
namespace D
theorem op3 : Opens Try.prog 3 rInt := opens_int Try.underlying3
theorem op22 : Opens Try.prog 22 (rSlice 3 rInt) := opens_slice Try.underlying22 (by kernel_rfl) (by decide) op3
theorem op64 : Opens Try.prog 64 (rProd rInt (rProd rInt (rProd rInt rInt))) := by
  refine opens_struct Try.underlying64 (by kernel_rfl) ?_
  refine opens_next (R := rInt) (S := rProd (rInt) (rProd (rInt) (rInt))) rfl (by kernel_rfl) op3 ?_
  refine opens_next (R := rInt) (S := rProd (rInt) (rInt)) rfl (by kernel_rfl) op3 ?_
  refine opens_next (R := rInt) (S := rInt) rfl (by kernel_rfl) op3 ?_
  exact opens_last rfl (by kernel_rfl) op3
theorem op23 : Opens Try.prog 23 (rSlice 64 (rProd rInt (rProd rInt (rProd rInt rInt)))) := opens_slice Try.underlying23 (by kernel_rfl) (by decide) op64
theorem op25 : Opens Try.prog 25 (rProd (rSlice 3 rInt) (rSlice 64 (rProd rInt (rProd rInt (rProd rInt rInt))))) := by
  refine opens_struct Try.underlying25 (by kernel_rfl) ?_
  refine opens_next (R := rSlice 3 rInt) (S := rSlice 64 (rProd rInt (rProd rInt (rProd rInt rInt)))) rfl (by kernel_rfl) op22 ?_
  exact opens_last rfl (by kernel_rfl) op23
theorem rdL25 {W : World} {base : Nat} {z : Value} {H : Type} {enc : TypeId × Value → H} {d : DataW H} {p : List MemPlace} (hv : Value.okWide Try.prog W .any base 25 z) (h : DataW.Trod enc Try.prog W 0 (fun _ => true) true 25 z d p) :
    ∃ (x : (List Int) × (List (Int × Int × Int × Int))) (v0 : Value) (v1 : Value), z = .agg #[v0, v1] ∧ Data.lim x ∧ (rSlice 3 rInt).rd (hp W) [v0] x.1 ∧ (rSlice 64 (rProd rInt (rProd rInt (rProd rInt rInt)))).rd (hp W) [v1] x.2 := by
  obtain ⟨fuel, hf⟩ := h
  obtain ⟨⟨cs⟩, rfl, -⟩ := okWide_struct Try.underlying25 hv
  obtain ⟨x, hx, hl⟩ := op25.out enc W _ _ _ hf
  have hx : (rProd (rSlice 3 rInt) (rSlice 64 (rProd rInt (rProd rInt (rProd rInt rInt))))).rd (hp W) cs x := hx
  obtain ⟨_, _, rfl, r0, r1⟩ := hx
  obtain ⟨v0, rfl⟩ := one_cell r0 rfl
  obtain ⟨v1, rfl⟩ := one_cell r1 rfl
  exact ⟨x, v0, v1, rfl, hl, r0, r1⟩
theorem op4 : Opens Try.prog 4 rBool := opens_bool Try.underlying4
theorem op26 : Opens Try.prog 26 (rSlice 4 rBool) := opens_slice Try.underlying26 (by kernel_rfl) (by decide) op4
theorem op27 : Opens Try.prog 27 (rSlice 22 (rSlice 3 rInt)) := opens_slice Try.underlying27 (by kernel_rfl) (by decide) op22
theorem op29 : Opens Try.prog 29 (rProd rInt (rProd (rSlice 4 rBool) (rSlice 22 (rSlice 3 rInt)))) := by
  refine opens_struct Try.underlying29 (by kernel_rfl) ?_
  refine opens_next (R := rInt) (S := rProd (rSlice 4 rBool) (rSlice 22 (rSlice 3 rInt))) rfl (by kernel_rfl) op3 ?_
  refine opens_next (R := rSlice 4 rBool) (S := rSlice 22 (rSlice 3 rInt)) rfl (by kernel_rfl) op26 ?_
  exact opens_last rfl (by kernel_rfl) op27
theorem op31 : Opens Try.prog 31 (rProd (rProd rInt (rProd (rSlice 4 rBool) (rSlice 22 (rSlice 3 rInt)))) (rProd rInt (rProd (rSlice 3 rInt) (rSlice 3 rInt)))) := by
  refine opens_struct Try.underlying31 (by kernel_rfl) ?_
  refine opens_next (R := rProd rInt (rProd (rSlice 4 rBool) (rSlice 22 (rSlice 3 rInt)))) (S := rProd (rInt) (rProd (rSlice 3 rInt) (rSlice 3 rInt))) rfl (by kernel_rfl) op29 ?_
  refine opens_next (R := rInt) (S := rProd (rSlice 3 rInt) (rSlice 3 rInt)) rfl (by kernel_rfl) op3 ?_
  refine opens_next (R := rSlice 3 rInt) (S := rSlice 3 rInt) rfl (by kernel_rfl) op22 ?_
  exact opens_last rfl (by kernel_rfl) op22
theorem rdL31 {W : World} {base : Nat} {z : Value} {H : Type} {enc : TypeId × Value → H} {d : DataW H} {p : List MemPlace} (hv : Value.okWide Try.prog W .any base 31 z) (h : DataW.Trod enc Try.prog W 0 (fun _ => true) true 31 z d p) :
    ∃ (x : (Int × (List Bool) × (List (List Int))) × Int × (List Int) × (List Int)) (v0 : Value) (v1 : Value) (v2 : Value) (v3 : Value), z = .agg #[.int .i64 x.1.1, v0, v1, .int .i64 x.2.1, v2, v3] ∧ Data.lim x ∧ (rSlice 4 rBool).rd (hp W) [v0] x.1.2.1 ∧ (rSlice 22 (rSlice 3 rInt)).rd (hp W) [v1] x.1.2.2 ∧ (rSlice 3 rInt).rd (hp W) [v2] x.2.2.1 ∧ (rSlice 3 rInt).rd (hp W) [v3] x.2.2.2 := by
  obtain ⟨fuel, hf⟩ := h
  obtain ⟨⟨cs⟩, rfl, -⟩ := okWide_struct Try.underlying31 hv
  obtain ⟨x, hx, hl⟩ := op31.out enc W _ _ _ hf
  have hx : (rProd (rProd rInt (rProd (rSlice 4 rBool) (rSlice 22 (rSlice 3 rInt)))) (rProd rInt (rProd (rSlice 3 rInt) (rSlice 3 rInt)))).rd (hp W) cs x := hx
  obtain ⟨_, _, rfl, ⟨_, _, rfl, rfl, ⟨_, _, rfl, r0, r1⟩⟩, ⟨_, _, rfl, rfl, ⟨_, _, rfl, r2, r3⟩⟩⟩ := hx
  obtain ⟨v0, rfl⟩ := one_cell r0 rfl
  obtain ⟨v1, rfl⟩ := one_cell r1 rfl
  obtain ⟨v2, rfl⟩ := one_cell r2 rfl
  obtain ⟨v3, rfl⟩ := one_cell r3 rfl
  exact ⟨x, v0, v1, v2, v3, rfl, hl, r0, r1, r2, r3⟩
end D
open D (Data)
theorem rowLAuditView (W : World) (args : Array Value) (H : Type) (enc : TypeId × Value → H) (base : Nat) (ds gs : List (DataW H)) (before : List MemPlace)
    (hval : ∀ (j : Nat) t v, Try.f3.params[j]? = some t → args[j]? = some v → Value.okWide Try.prog W .any base t v)
    (hW : DataW.Whole enc Try.prog Try.f3.params.toList Rows.fnExactAuditViewSpec.vars false W args.toList ds gs before) :
    Calls Try.prog 3 args W fun e W' => ∃ v, e = .returned v ∧ Rows.fnExactAuditViewSpec.post enc Try.prog Try.f3 false true false false W args v W' := by
  have hW' := hW
  obtain ⟨p, q, hA, hV, rfl, hfz, hnd⟩ := hW
  rw [Try.params3] at hA hval
  obtain ⟨z0, vs0, d0, ds0, p0, q0, hargs, rfl, rfl, h0, r0⟩ := trodAll_cons hA
  obtain ⟨z1, vs1, d1, ds1, p1, q1, rfl, rfl, rfl, h1, r1⟩ := trodAll_cons r0
  obtain ⟨rfl, rfl, rfl⟩ := trodAll_nil r1
  obtain rfl : args = #[z0, z1] := by cases args; simp_all
  obtain ⟨rfl, rfl⟩ := trodVars_none hV
  obtain ⟨x0, v0_0, v0_1, rfl, l0, r0_0, r0_1⟩ := D.rdL25 (hval 0 _ _ rfl rfl) h0
  obtain ⟨x1, v1_0, v1_1, v1_2, v1_3, rfl, l1, r1_0, r1_1, r1_2, r1_3⟩ := D.rdL31 (hval 1 _ _ rfl rfl) h1
  have hc := D.c_w_FnExactAuditView x0 x1 true (D.lawAuditView x0 x1 l0 l1) (I := D.hp W) (w0 := W) v0_0 v0_1 v1_0 v1_1 v1_2 v1_3 r0_0 r0_1 r1_0 r1_1 r1_2 r1_3 W [] (D.St.init W)
  refine hc.mono fun e W' ⟨v, he, hv, hs⟩ => ?_
  subst he; subst hv
  exact ⟨_, rfl, law_post (f := Try.f3) (s := Rows.fnExactAuditViewSpec) 4 Try.underlying4 rfl (by kernel_rfl) rfl hW' rfl rfl rfl (D.St.below hs)⟩
theorem liftedLAuditView (os : Os) (started : os.Started) (H : Type) (enc : TypeId × Value → H) :
    ReturnsInHanded {} Try.checked os 3 .any (Rows.fnExactAuditViewSpec.pre6 enc Try.prog Try.f3 Rows.fnExactAuditViewRow.domain false) (Rows.fnExactAuditViewSpec.post enc Try.prog Try.f3 false true false false) := by
  refine returnsInHanded_of_change_sized (C := Try.checked) own started (by kernel_rfl) Try.func3
    (ChangeSpec.witness6 (enc := enc) (C := Try.checked) false ⟨#[], #[.agg #[.slice none 0 0, .slice none 0 0], .agg #[.int .i64 0, .slice none 0 0, .slice none 0 0, .int .i64 0, .slice none 0 0, .slice none 0 0]], []⟩ 8 (by kernel_rfl) (by kernel_rfl) (by kernel_rfl) (by kernel_rfl)) ?_
  intro W base args ds gs before hval hW hcnd hsz _
  exact rowLAuditView W args H enc base ds gs before hval hW
theorem holdsLAuditView : Rows.FnExactAuditViewSaid :=
  OpenClaim.holds_of_wide 3 Try.f3 rfl rfl rfl rfl rfl rfl rfl ⟨rfl, rfl, rfl, rfl, rfl⟩ rfl rfl rfl rfl rfl (by kernel_rfl) Try.func3 (by kernel_rfl)
    (of_decide_eq_true (by kernel_rfl)) (by unfold Func.isWrapper; first | (rw [if_pos (by decide +kernel)]; kernel_rfl) | (rw [if_neg (by decide +kernel)]; exact ⟨rfl, rfl⟩))
    (fun os started H enc _ => liftedLAuditView os started H enc)
end Go.Proofs.Ytfjohpmibocjcaa
