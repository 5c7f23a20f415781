/- FnExactCompileExpr: for every input the law returns true and changes nothing that was there. Part 7 of 7. -/
import Derived.Test.YtofopdbnkafljaaPC5
/- Positions of an expression: the reference and the program build the same. -/
set_option linter.unusedVariables false
set_option linter.unusedSimpArgs false
set_option linter.unnecessarySimpa false
set_option linter.unusedSectionVars false
namespace Go.Proofs.Ytofopdbnkafljaa.D
open Go.RowKit

theorem orI_comm (m n : Int) : orI m n = orI n m := by unfold orI; rw [BitVec.or_comm]
/-- a set is followed by a set -/
def lk (F : List Int) (from_ to_ : Int) : Nat → List Int
  | 0 => F
  | i + 1 => if bitI from_ i then (lk F from_ to_ i).set i (orI (nth (lk F from_ to_ i) (i : Int)) to_) else lk F from_ to_ i
theorem lk_len (F : List Int) (f t : Int) : ∀ i, (lk F f t i).length = F.length
  | 0 => rfl
  | i + 1 => by
    rw [lk]
    split
    · rw [List.length_set, lk_len]
    · exact lk_len F f t i
theorem s_link {p : PosT} {f t : Int} (hl : p.2.2.2.1.length ≤ 1000000) : m_s_l10Link p f t = some (p.1, p.2.1, p.2.2.1, lk p.2.2.2.1 f t p.2.2.2.1.length, p.2.2.2.2) := by
  have hL : loopM (m_s_l10Link_l0 f t) FUEL (0, p.2.2.2.1) = some (.brk ((p.2.2.2.1.length : Int), lk p.2.2.2.1 f t p.2.2.2.1.length)) := loopM_at (f := m_s_l10Link_l0 f t) (fun i => ((i : Int), lk p.2.2.2.1 f t i)) p.2.2.2.1.length (fun i hi => by
    have hk := lk_len p.2.2.2.1 f t i
    unfold m_s_l10Link_l0
    simp only
    rw [if_pos (by simp; omega), chk_nat]; simp only [Option.bind_some]
    rw [lk, wrap_succ (by omega)]
    by_cases c : bitI f i = true
    · rw [if_pos c, if_pos c, getI_nth (by omega) (by omega)]; simp only [Option.bind_some, Int.toNat_natCast]
    · rw [if_neg c, if_neg c]; rfl) (by unfold m_s_l10Link_l0; simp [lk_len]) (up63 (by omega))
  unfold m_s_l10Link
  rw [bindL_brk hL]
theorem i_follow {p : PosT} {f t : Int} (hl : p.2.2.2.1.length ≤ 1000000) : m_i_Positions_follow p f t = some (p.1, p.2.1, p.2.2.1, lk p.2.2.2.1 f t p.2.2.2.1.length, p.2.2.2.2) := by
  have hL : loopM (m_i_Positions_follow_l0 p f t) FUEL (0, p.2.2.2.1) = some (.brk ((p.2.2.2.1.length : Int), lk p.2.2.2.1 f t p.2.2.2.1.length)) := loopM_at (f := m_i_Positions_follow_l0 p f t) (fun i => ((i : Int), lk p.2.2.2.1 f t i)) p.2.2.2.1.length (fun i hi => by
    have hk := lk_len p.2.2.2.1 f t i
    unfold m_i_Positions_follow_l0
    simp only
    rw [if_pos (by simp; omega), chk_nat]; simp only [Option.bind_some]
    rw [lk, wrap_succ (by omega)]
    by_cases c : bitI f i = true
    · rw [if_pos c, if_pos c, getI_nth (by omega) (by omega)]; simp only [Option.bind_some, Int.toNat_natCast]
    · rw [if_neg c, if_neg c]; rfl) (by unfold m_i_Positions_follow_l0; simp) (up63 (by omega))
  unfold m_i_Positions_follow
  rw [bindL_brk hL]
/-- both build the same: null, first, last; positions -/
def BOk (x : Tr Tok) : Prop := ∀ (n m : Nat) (p : PosT), (flat x).length ≤ n → (flat x).length ≤ m → p.2.2.2.1.length = p.1.length → p.1.length + (flat x).length ≤ 100000 →
  ∃ (nu : Bool) (fi la : Int) (q : PosT), m_s_l10Build n p (flat x) = some ((nu, fi, la), q) ∧ m_i_Positions_build m p x = some ((fi, la, nu), q) ∧ q.2.2.2.1.length = q.1.length ∧ q.1.length ≤ p.1.length + (flat x).length
theorem build_ok {x : Tr Tok} (h : WT x) : BOk x := by
  refine WT.ind (p := BOk) ?_ ?_ ?_ h
  · intro t e n m p hn hm hF hl
    rw [flat0] at hn hm hl ⊢
    simp only [List.length_cons, List.length_nil] at hl
    match n, m, hn, hm with
    | n + 1, m + 1, _, _ =>
      rw [m_s_l10Build, m_i_Positions_build]; simp only [tr_get, Option.bind_some]
      have := (last_tok (A := []) (t := t) (by simp)).1
      rw [List.nil_append] at this
      rw [this]; simp only [Option.bind_some, peta]
      rcases ar_kind (show 0 ≤ ar t by omega) with ⟨k, _⟩ | ⟨k, _⟩ | ⟨_, k⟩
      · omega
      · omega
      rcases k with k | k | k
      · exact ⟨false, 0, 0, p, by simp [k], by simp [k], hF, by simp⟩
      · exact ⟨true, 0, 0, p, by simp [k], by simp [k], hF, by simp⟩
      · refine ⟨false, shlI 1 (p.1.length : Int), shlI 1 (p.1.length : Int), (p.1 ++ [t.2.1], p.2.1, p.2.2.1, p.2.2.2.1 ++ [0], p.2.2.2.2), ?_, ?_, by simp [hF], by simp⟩
        · rw [if_neg (by simp [k]), if_pos (by simp [k]), appI_ok (by simp; omega)]; simp only [Option.bind_some]
          rw [appI_ok (by simp; omega)]; rfl
        · rw [if_neg (by simp [k]), if_pos (by simp [k]), appI_ok (by simp; omega)]; simp only [Option.bind_some]
          rw [appI_ok (by simp; omega)]; rfl
  · intro t a e wa ih n m p hn hm hF hl
    rw [flat1] at hn hm hl ⊢
    simp only [List.length_append, List.length_cons, List.length_nil] at hn hm hl
    match n, m, hn, hm with
    | n + 1, m + 1, hn, hm =>
      rw [m_s_l10Build, m_i_Positions_build]; simp only [tr_get, Option.bind_some, peta]
      obtain ⟨l1, l2⟩ := last_tok (A := flat a) (t := t) (by omega)
      rw [l1]; simp only [Option.bind_some]
      obtain ⟨nu, fi, la, q, hs, hi, hq1, hq2⟩ := ih n m p (by omega) (by omega) hF (by omega)
      rcases kind1 e with ⟨k1, k2⟩ | ⟨k1, k2, k3⟩
      · have g2 : (t.1 == 2) = false := by simp [k2]
        have g3 : (t.1 == 3) = false := by simp [k2]
        have g4 : (t.1 == 4) = false := by simp [k2]
        have g5 : (t.1 == 5) = false := by simp [k2]
        simp only [g2, g3, g4, g5, k1, Bool.false_eq_true, if_false, if_true]
        rw [l2, Int.toNat_natCast, List.take_left, chk_of (by simp only [List.length_append, List.length_cons, List.length_nil]; omega)]; simp only [Option.bind_some]
        rw [hs, show getI [a] 0 = some a from rfl]; simp only [Option.bind_some]
        rw [hi]; simp only [Option.bind_some, peta]
        rw [s_link (by omega), i_follow (by omega)]; simp only [Option.bind_some]
        refine ⟨true, fi, la, _, rfl, rfl, ?_, ?_⟩
        · simp only [lk_len]; exact hq1
        · simp only [List.length_append, List.length_cons, List.length_nil]; omega
      · have g2 : (t.1 == 2) = false := by simp [k3]
        have g3 : (t.1 == 3) = false := by simp [k3]
        have g4 : (t.1 == 4) = false := by simp [k3]
        have g5 : (t.1 == 5) = false := by simp [k3]
        simp only [g2, g3, g4, g5, k1, Bool.false_eq_true, if_false]
        exact ⟨false, 0, 0, p, rfl, rfl, hF, by omega⟩
  · intro t a b e wa wb iha ihb n m p hn hm hF hl
    rw [flat2] at hn hm hl ⊢
    have hl2 : ((flat a ++ flat b) ++ [t]).length ≤ 1000000 := by omega
    obtain ⟨p1, p2, p3, p4⟩ := two_parts (a := a) (t := t) wb hl2
    simp only [List.length_append, List.length_cons, List.length_nil] at hn hm hl
    match n, m, hn, hm with
    | n + 1, m + 1, hn, hm =>
      have hpa := wa.pos
      have hpb := wb.pos
      rw [m_s_l10Build, m_i_Positions_build]; simp only [tr_get, Option.bind_some, peta]
      obtain ⟨l1, l2⟩ := last_tok (A := flat a ++ flat b) (t := t) (by rw [List.length_append]; omega)
      rw [l1]; simp only [Option.bind_some]
      obtain ⟨nu, fi, la, q, hs, hi, hq1, hq2⟩ := iha n m p (by omega) (by omega) hF (by omega)
      obtain ⟨nu2, fi2, la2, q2, hs2, hi2, hq3, hq4⟩ := ihb n m q (by omega) (by omega) hq1 (by omega)
      have c1 : ∀ r : Int, 0 ≤ r → r ≤ ((flat a ++ flat b ++ [t]).length : Int) → chk (0 ≤ r ∧ r ≤ ((flat a ++ flat b ++ [t]).length : Int)) = some () := fun r h1 h2 => chk_of ⟨h1, h2⟩
      have g0 : getI [a, b] 0 = some a := rfl
      have g1 : getI [a, b] 1 = some b := rfl
      rcases ar_kind (show 0 ≤ ar t by omega) with ⟨_, k⟩ | ⟨k, _⟩ | ⟨k, _⟩
      · rcases k with k | k
        · have g2 : (t.1 == 2) = false := by simp [k]
          have g3 : (t.1 == 3) = false := by simp [k]
          have g4 : (t.1 == 4) = true := by simp [k]
          have g5 : (t.1 == 5) = false := by simp [k]
          simp only [g2, g3, g4, g5, Bool.false_eq_true, if_false, if_true]
          rw [l2, p1, p2, chk_of (by simp only [List.length_append, List.length_cons, List.length_nil]; omega)]; simp only [Option.bind_some]
          rw [chk_of (by simp only [List.length_append, List.length_cons, List.length_nil]; omega), p3, p4, hs, g0, g1]; simp only [Option.bind_some]
          rw [hi, chk_of (by simp only [List.length_append, List.length_cons, List.length_nil]; omega)]; simp only [Option.bind_some, peta]
          rw [hs2, hi2]; simp only [Option.bind_some, peta]
          rw [s_link (by omega), i_follow (by omega)]; simp only [Option.bind_some]
          refine ⟨nu && nu2, if nu then orI fi fi2 else fi, if nu2 then orI la la2 else la2, (q2.1, q2.2.1, q2.2.2.1, lk q2.2.2.2.1 la fi2 q2.2.2.2.1.length, q2.2.2.2.2), ?_, ?_, ?_, ?_⟩
          · cases nu <;> cases nu2 <;> rfl
          · rw [orI_comm la la2]
            cases nu <;> cases nu2 <;> rfl
          · simp only [lk_len]; exact hq3
          · simp only [List.length_append, List.length_cons, List.length_nil]; omega
        · have g2 : (t.1 == 2) = false := by simp [k]
          have g3 : (t.1 == 3) = false := by simp [k]
          have g4 : (t.1 == 4) = false := by simp [k]
          have g5 : (t.1 == 5) = true := by simp [k]
          simp only [g2, g3, g4, g5, Bool.false_eq_true, if_false, if_true]
          rw [l2, p1, p2, chk_of (by simp only [List.length_append, List.length_cons, List.length_nil]; omega)]; simp only [Option.bind_some]
          rw [chk_of (by simp only [List.length_append, List.length_cons, List.length_nil]; omega), p3, p4, hs, g0, g1]; simp only [Option.bind_some]
          rw [hi, chk_of (by simp only [List.length_append, List.length_cons, List.length_nil]; omega)]; simp only [Option.bind_some, peta]
          rw [hs2, hi2]; simp only [Option.bind_some, peta]
          refine ⟨nu || nu2, orI fi fi2, orI la la2, q2, ?_, ?_, hq3, ?_⟩
          · cases nu <;> simp
          · cases nu <;> simp
          · simp only [List.length_append, List.length_cons, List.length_nil]; omega
      · omega
      · omega
/-- so many letters -/
def cnt3 (e : List Tok) : Nat → Nat
  | 0 => 0
  | i + 1 => if (nth e (i : Int)).1 = 3 then cnt3 e i + 1 else cnt3 e i
theorem cnt3_le (e : List Tok) : ∀ i, cnt3 e i ≤ i
  | 0 => Nat.le_refl _
  | i + 1 => by
    have := cnt3_le e i
    rw [cnt3]; split <;> omega
theorem s_cnt {r : List Tok × Bool} (hl : r.1.length ≤ 1000000) : loopM (m_s_BuildPositions_l0 r) FUEL (0, 0) = some (.brk ((cnt3 r.1 r.1.length : Int), (r.1.length : Int))) :=
  loopM_at (f := m_s_BuildPositions_l0 r) (fun i => ((cnt3 r.1 i : Int), (i : Int))) r.1.length (fun i hi => by
    have := cnt3_le r.1 i
    unfold m_s_BuildPositions_l0
    simp only
    rw [if_pos (by simp; omega), getI_nth (by omega) (by omega)]; simp only [Option.bind_some]
    rw [cnt3, wrap_succ (show i < 9223372036854775807 by omega), wrap_succ (show cnt3 r.1 i < 9223372036854775807 by omega)]
    by_cases c : (nth r.1 (i : Int)).1 = 3
    · rw [if_pos (by simpa using c), if_pos c]; rfl
    · rw [if_neg (by simpa using c), if_neg c]; rfl) (by unfold m_s_BuildPositions_l0; simp) (up63 (by omega))
theorem i_cnt {r : List Tok × Bool} (hl : r.1.length ≤ 1000000) : loopM (m_i_BuildPositions_l0 r) FUEL (0, 0) = some (.brk ((cnt3 r.1 r.1.length : Int), (r.1.length : Int))) :=
  loopM_at (f := m_i_BuildPositions_l0 r) (fun i => ((cnt3 r.1 i : Int), (i : Int))) r.1.length (fun i hi => by
    have := cnt3_le r.1 i
    unfold m_i_BuildPositions_l0
    simp only
    rw [if_pos (by simp; omega), getI_nth (by omega) (by omega)]; simp only [Option.bind_some]
    rw [cnt3, wrap_succ (show i < 9223372036854775807 by omega), wrap_succ (show cnt3 r.1 i < 9223372036854775807 by omega)]
    by_cases c : (nth r.1 (i : Int)).1 = 3
    · rw [if_pos (by simpa using c), if_pos c]; rfl
    · rw [if_neg (by simpa using c), if_neg c]; rfl) (by unfold m_i_BuildPositions_l0; simp) (up63 (by omega))
theorem buildPositions_both {e : List Tok} (he : e.length ≤ 1048576) : ∃ r : PosT × Bool, m_s_BuildPositions e = some r ∧ m_i_BuildPositions e = some r ∧ r.1.2.2.2.1.length = r.1.1.length ∧ r.1.1.length ≤ 100000 := by
  have hF := FUELR_big
  obtain ⟨e1, e2⟩ := expand_both he
  unfold m_s_BuildPositions m_i_BuildPositions
  rw [e1, e2]; simp only [Option.bind_some]
  by_cases c : (expR e).2 = true
  · obtain ⟨y, wy, ey, ly⟩ := expR_ok c
    rw [if_pos c, if_pos c, bindL_brk (s_cnt (by rw [ey]; omega)), bindL_brk (i_cnt (by rw [ey]; omega))]
    simp only
    by_cases d : (cnt3 (expR e).1 (expR e).1.length : Int) > 20
    · have d' : decide ((cnt3 (expR e).1 (expR e).1.length : Int) > 20) = true := decide_eq_true d
      simp only [d', if_true]
      exact ⟨_, rfl, rfl, rfl, by simp⟩
    · have d' : decide ((cnt3 (expR e).1 (expR e).1.length : Int) > 20) = false := decide_eq_false d
      simp only [d', Bool.false_eq_true, if_false]
      rw [ey, i_treeOf (by omega), treeX_flat wy]; simp only [Option.bind_some]
      obtain ⟨nu, fi, la, q, hs, hi, hq1, hq2⟩ := build_ok wy FUELR FUELR ([], 0, 0, [], false) (by omega) (by omega) rfl (by simp; omega)
      rw [hs, hi]; simp only [Option.bind_some]
      exact ⟨_, rfl, rfl, hq1, by simp at hq2; show q.1.length ≤ _; omega⟩
  · rw [if_neg c, if_neg c]
    exact ⟨_, rfl, rfl, rfl, by simp⟩
end Go.Proofs.Ytofopdbnkafljaa.D
/- Classes of states and the minimal automaton, by the reference and by the program. -/
set_option linter.unusedVariables false
set_option linter.unusedSimpArgs false
set_option linter.unnecessarySimpa false
set_option linter.unusedSectionVars false
namespace Go.Proofs.Ytofopdbnkafljaa.D
open Go.RowKit

/-! ### Numberings that refine -/
theorem nbI_stable {κ : Type} [DecidableEq κ] {l m : List κ} (h : l <+: m) {y : κ} (hy : y ∈ l) : (m.idxOf y : Int) = l.idxOf y := by
  obtain ⟨t, rfl⟩ := h
  rw [List.idxOf_append, if_pos hy]
theorem nbR_at {κ : Type} [DecidableEq κ] : ∀ (l : List κ) (os : List (Option κ)) (i : Nat), i < os.length → nth (nbR l os) (i : Int) = nbI (nbS l os) (nth os (i : Int))
  | l, o :: os, 0, _ => by
    show nbI l o = nbI (nbS (nbL l o) os) o
    cases o with
    | none => rfl
    | some y =>
      have hm : y ∈ nbL l (some y) := mem_nbL.2 (.inr rfl)
      simp only [nbI]
      rw [nbI_stable (nbS_prefix _ os) hm]
      by_cases c : y ∈ l
      · rw [nbL_old c]
      · rw [nbL_new c, List.idxOf_append, if_neg c, idxOf_nbL c]; simp
  | l, o :: os, i + 1, h => by
    have h' : i < os.length := by simpa using h
    have ih := nbR_at (nbL l o) os i h'
    have e1 : nth (nbR l (o :: os)) ((i + 1 : Nat) : Int) = nth (nbR (nbL l o) os) (i : Int) := by
      rw [nth_nat (by rw [nbR_length]; exact h), nth_nat (by rw [nbR_length]; exact h')]; rfl
    have e2 : nth (o :: os) ((i + 1 : Nat) : Int) = nth os (i : Int) := by rw [nth_nat h, nth_nat h']; rfl
    rw [e1, e2]; exact ih
theorem nbI_mem {κ : Type} [DecidableEq κ] {l : List κ} {y : κ} (h : y ∈ l) : ∃ (q : Nat) (hq : q < l.length), nbI l (some y) = (q : Int) ∧ l[q] = y :=
  ⟨l.idxOf y, List.idxOf_lt_length_of_mem h, rfl, by simp⟩
theorem nbI_new {κ : Type} [DecidableEq κ] {l : List κ} {y : κ} (h : y ∉ l) : nbI l (some y) = (l.length : Int) := by simp only [nbI, idxOf_nbL h]
/-- a numbering in the order of the first places, from c on to m -/
def Norm : List Int → Nat → Nat → Prop
  | [], c, m => c = m
  | x :: xs, c, m => (x = -1 ∧ Norm xs c m) ∨ (0 ≤ x ∧ x < c ∧ Norm xs c m) ∨ (x = c ∧ Norm xs (c + 1) m)
theorem norm_nb {κ : Type} [DecidableEq κ] : ∀ (os : List (Option κ)) (l : List κ), Norm (nbR l os) l.length (nbS l os).length
  | [], l => rfl
  | none :: os, l => .inl ⟨rfl, norm_nb os l⟩
  | some y :: os, l => by
    by_cases c : y ∈ l
    · refine .inr (.inl ⟨Int.natCast_nonneg _, ?_, ?_⟩)
      · have := List.idxOf_lt_length_of_mem c
        simp only [nbI]; omega
      · show Norm (nbR (nbL l (some y)) os) l.length (nbS (nbL l (some y)) os).length
        rw [nbL_old c]; exact norm_nb os l
    · refine .inr (.inr ⟨by simp only [nbI, idxOf_nbL c], ?_⟩)
      show Norm (nbR (nbL l (some y)) os) (l.length + 1) (nbS (nbL l (some y)) os).length
      have := norm_nb os (l ++ [y])
      rw [nbL_new c]
      simpa using this
def RelL : List Int → List (Option (List Int)) → Prop
  | [], [] => True
  | x :: xs, o :: os => ((x < 0 ∧ o = none) ∨ (0 ≤ x ∧ ∃ t, o = some (x :: t))) ∧ RelL xs os
  | _, _ => False
theorem relL_of : ∀ (xs : List Int) (os : List (Option (List Int))), xs.length = os.length → (∀ i (h : i < xs.length) (h' : i < os.length), (xs[i] < 0 ∧ os[i] = none) ∨ (0 ≤ xs[i] ∧ ∃ t, os[i] = some (xs[i] :: t))) → RelL xs os
  | [], [], _, _ => trivial
  | x :: xs, o :: os, hl, h => ⟨h 0 (by simp) (by simp), relL_of xs os (by simpa using hl) fun i h1 h2 => h (i + 1) (by simpa using h1) (by simpa using h2)⟩
/-- a refinement has as many numbers at least; if no more, it is the same -/
theorem norm_refine : ∀ (xs : List Int) (os : List (Option (List Int))) (l : List (List Int)) (c m : Nat), RelL xs os → Norm xs c m → (∀ y ∈ l, ∃ h t, y = h :: t ∧ h < c) →
    m + l.length ≤ (nbS l os).length + c ∧ (l.length = c → (∀ (q : Nat) (hq : q < l.length), ∃ t, l[q] = (q : Int) :: t) → (nbS l os).length = m → nbR l os = xs)
  | [], [], l, c, m, _, hn, _ => by
    have hn : c = m := hn
    subst hn
    exact ⟨by simp [nbS]; omega, fun _ _ _ => rfl⟩
  | x :: xs, o :: os, l, c, m, hr, hn, hh => by
    obtain ⟨hr1, hr2⟩ := hr
    rcases hn with ⟨rfl, hn⟩ | ⟨hx0, hxc, hn⟩ | ⟨rfl, hn⟩
    · have ho : o = none := by
        rcases hr1 with ⟨-, h⟩ | ⟨h, -⟩
        · exact h
        · omega
      subst ho
      obtain ⟨i1, i2⟩ := norm_refine xs os l c m hr2 hn hh
      exact ⟨i1, fun h1 h2 h3 => by show -1 :: nbR l os = _; rw [i2 h1 h2 h3]⟩
    · obtain ⟨t, rfl⟩ : ∃ t, o = some (x :: t) := by
        rcases hr1 with ⟨h, -⟩ | ⟨-, h⟩
        · omega
        · exact h
      by_cases k : (x :: t) ∈ l
      · obtain ⟨i1, i2⟩ := norm_refine xs os l c m hr2 hn hh
        have hb : nbL l (some (x :: t)) = l := nbL_old k
        refine ⟨by show m + l.length ≤ (nbS (nbL l (some (x :: t))) os).length + c; rw [hb]; exact i1, fun h1 h2 h3 => ?_⟩
        have h3 : (nbS (nbL l (some (x :: t))) os).length = m := h3
        rw [hb] at h3
        obtain ⟨q, hq, e1, e2⟩ := nbI_mem k
        obtain ⟨t', ht'⟩ := h2 _ hq
        rw [e2] at ht'
        have : x = (q : Int) := by injection ht'
        show nbI l (some (x :: t)) :: nbR (nbL l (some (x :: t))) os = _
        rw [e1, ← this, hb, i2 h1 h2 h3]
      · have hb : nbL l (some (x :: t)) = l ++ [x :: t] := nbL_new k
        obtain ⟨i1, i2⟩ := norm_refine xs os (l ++ [x :: t]) c m hr2 hn (fun y hy => by
          rcases List.mem_append.1 hy with hy | hy
          · exact hh y hy
          · obtain rfl := List.mem_singleton.1 hy
            exact ⟨x, t, rfl, hxc⟩)
        rw [List.length_append, List.length_singleton] at i1
        refine ⟨by show m + l.length ≤ (nbS (nbL l (some (x :: t))) os).length + c; rw [hb]; omega, fun h1 h2 h3 => ?_⟩
        have h3 : (nbS (nbL l (some (x :: t))) os).length = m := h3
        rw [hb] at h3
        omega
    · obtain ⟨t, rfl⟩ : ∃ t, o = some ((c : Int) :: t) := by
        rcases hr1 with ⟨h, -⟩ | ⟨-, h⟩
        · omega
        · exact h
      have k : ((c : Int) :: t) ∉ l := fun k => by
        obtain ⟨h, t', e, hlt⟩ := hh _ k
        have : (c : Int) = h := by injection e
        omega
      have hb : nbL l (some ((c : Int) :: t)) = l ++ [(c : Int) :: t] := nbL_new k
      obtain ⟨i1, i2⟩ := norm_refine xs os (l ++ [(c : Int) :: t]) (c + 1) m hr2 hn (fun y hy => by
        rcases List.mem_append.1 hy with hy | hy
        · obtain ⟨h, t', e, hlt⟩ := hh y hy
          exact ⟨h, t', e, by omega⟩
        · obtain rfl := List.mem_singleton.1 hy
          exact ⟨c, t, rfl, by omega⟩)
      have hlen : (l ++ [(c : Int) :: t]).length = l.length + 1 := by simp
      rw [hlen] at i1
      refine ⟨by show m + l.length ≤ (nbS (nbL l (some ((c : Int) :: t))) os).length + c; rw [hb]; omega, fun h1 h2 h3 => ?_⟩
      have h3 : (nbS (nbL l (some ((c : Int) :: t))) os).length = m := h3
      rw [hb] at h3
      have := i2 (by rw [hlen, h1]) (fun q hq => by
        by_cases e : q < l.length
        · rw [List.getElem_append_left e]; exact h2 q e
        · have e : q = l.length := by omega
          subst e
          exact ⟨t, by simp; omega⟩) h3
      show nbI l (some ((c : Int) :: t)) :: nbR (nbL l (some ((c : Int) :: t))) os = _
      rw [hb, this, nbI_new k, h1]

/-! ### Comparing rows -/
theorem q_l2Cmp (xs ys : List Int) (hN : xs.length ≤ 1048576) : ∃ r, m_s_l2Cmp xs ys = some r ∧ (r = 0 ↔ xs = ys) := by
  unfold m_s_l2Cmp
  have h0 := cmpGo (f := m_s_l2Cmp_l0 xs ys) xs ys (fun i h h' => by
    simp only [m_s_l2Cmp_l0, lt_nat h, lt_nat h', if_true, getI_nat h, getI_nat h', Option.bind_some, wrap_succ (show i < 9223372036854775807 by omega)]
    by_cases h1 : xs[i] < ys[i]
    · simp [h1]
    · by_cases h2 : xs[i] > ys[i]
      · simp [h1, h2]
      · simp [h1, h2]) (fun i hi => by
    simp only [m_s_l2Cmp_l0]
    by_cases h1 : i < xs.length
    · have h2 : ¬ i < ys.length := by omega
      simp [h1, h2]
    · simp [h1]) xs.length 0 FUEL (by omega) (fuelUp _ (by omega))
  rw [show (((0 : Nat) : Int)) = (0 : Int) from rfl] at h0
  rcases h0 with ⟨r, e, h1, h2⟩ | ⟨s, e, h1⟩
  · exact ⟨r, by rw [e]; rfl, by simp [h1, h2]⟩
  · rw [e]
    simp only [bindL]
    by_cases c1 : xs.length < ys.length
    · exact ⟨-1, by simp [c1], by simp; intro e; subst e; omega⟩
    · by_cases c2 : xs.length > ys.length
      · exact ⟨1, by simp [c1, c2], by simp; intro e; subst e; omega⟩
      · exact ⟨0, by simp [c1, c2], by simpa using h1 (by omega)⟩
theorem q_sliceEq (xs ys : List Int) (hN : xs.length ≤ 9223372036854775807) : m_g_slices_Equal_S_int_int xs ys = some (decide (xs = ys)) :=
  eqL (f := m_g_slices_Equal_S_int_int_l0 xs ys) xs ys hN (fun i h h' => by
    simp only [m_g_slices_Equal_S_int_int_l0, lt_nat h, if_true, getI_nat h, getI_nat h', Option.bind_some, wrap_succ (show i < 9223372036854775807 by omega)]
    by_cases c : xs[i] = ys[i] <;> simp [c]) (by simp only [m_g_slices_Equal_S_int_int_l0, lt_self]; rfl)

/-! ### Classes -/
def cls0 (a : AutT) : List Int := (List.range a.2.1.length).map fun s : Nat => if nth (live a) (s : Int) = true then (if nth a.2.1 (s : Int) = true then 1 else 0) else -1
def ent (a : AutT) (c : List Int) (s : Int) (k : Nat) : Int := if mv a s k < 0 then -1 else nth c (mv a s k)
def keyL (a : AutT) (c : List Int) (s : Int) : List Int := nth c s :: (List.range 9).map fun k => ent a c s k
def keyO (a : AutT) (c : List Int) (s : Nat) : Option (List Int) := if nth c (s : Int) < 0 then none else some (keyL a c s)
def keys (a : AutT) (c : List Int) : List (Option (List Int)) := (List.range a.2.1.length).map (keyO a c)
def refn (a : AutT) (c : List Int) : List Int := nbR [] (keys a c)
def refN (a : AutT) (c : List Int) : Nat := (nbS [] (keys a c)).length
def cI (a : AutT) : Nat → List Int
  | 0 => cls0 a
  | j + 1 => refn a (cI a j)
section
variable {a : AutT} {n : Nat}
theorem keys_length (a : AutT) (c : List Int) : (keys a c).length = a.2.1.length := by simp [keys]
theorem keys_at {c : List Int} {s : Nat} (h : s < a.2.1.length) : nth (keys a c) (s : Int) = keyO a c s := by
  rw [nth_nat (by simpa [keys] using h)]; simp [keys]
theorem refn_length (a : AutT) (c : List Int) : (refn a c).length = a.2.1.length := by rw [refn, nbR_length, keys_length]
theorem cI_length (a : AutT) : ∀ j, (cI a j).length = a.2.1.length
  | 0 => by simp [cI, cls0]
  | j + 1 => refn_length a _
theorem nbS_length_le {κ : Type} [DecidableEq κ] : ∀ (l : List κ) (os : List (Option κ)), (nbS l os).length ≤ l.length + os.length
  | l, [] => by simp [nbS]
  | l, o :: os => by
    have h := nbS_length_le (nbL l o) os
    have : (nbL l o).length ≤ l.length + 1 := by
      cases o with
      | none => simp [nbL]
      | some x => unfold nbL; simp only; split <;> simp
    show (nbS (nbL l o) os).length ≤ _
    rw [List.length_cons]; omega
theorem refN_le (a : AutT) (c : List Int) : refN a c ≤ a.2.1.length := by
  have := nbS_length_le ([] : List (List Int)) (keys a c)
  rw [keys_length] at this
  simpa [refN] using this
theorem refn_at {c : List Int} {s : Nat} (h : s < a.2.1.length) : nth (refn a c) (s : Int) = nbI (nbS [] (keys a c)) (keyO a c s) := by
  rw [refn, nbR_at _ _ _ (by rw [keys_length]; exact h), keys_at h]
theorem key_mem {c : List Int} {s : Nat} (h : s < a.2.1.length) (hc : ¬ nth c (s : Int) < 0) : keyL a c s ∈ nbS [] (keys a c) := by
  refine mem_nbS.2 (.inr ?_)
  refine List.mem_map.2 ⟨s, List.mem_range.2 h, ?_⟩
  unfold keyO; rw [if_neg hc]
theorem refn_neg {c : List Int} {s : Nat} (h : s < a.2.1.length) : (nth (refn a c) (s : Int) < 0 ↔ nth c (s : Int) < 0) ∧ (nth (refn a c) (s : Int) < 0 → nth (refn a c) (s : Int) = -1) := by
  rw [refn_at h]
  unfold keyO
  by_cases hc : nth c (s : Int) < 0
  · rw [if_pos hc]; simp [nbI, hc]
  · rw [if_neg hc]
    obtain ⟨q, hq, e, -⟩ := nbI_mem (key_mem h hc)
    rw [e]
    exact ⟨⟨fun h => by omega, fun h => absurd h hc⟩, fun h => by omega⟩
theorem refn_lt {c : List Int} {s : Nat} (h : s < a.2.1.length) : nth (refn a c) (s : Int) < (a.2.1.length : Int) := by
  rw [refn_at h]
  unfold keyO
  by_cases hc : nth c (s : Int) < 0
  · rw [if_pos hc]; simp only [nbI]; omega
  · rw [if_neg hc]
    obtain ⟨q, hq, e, -⟩ := nbI_mem (key_mem h hc)
    have := refN_le a c
    unfold refN at this
    rw [e]; omega
/-- alike in the refinement: alike in all that the key says -/
theorem refn_eq {c : List Int} {s t : Nat} (hs : s < a.2.1.length) (ht : t < a.2.1.length) (h0 : 0 ≤ nth (refn a c) (s : Int)) (h : nth (refn a c) (s : Int) = nth (refn a c) (t : Int)) : keyL a c s = keyL a c t := by
  have n1 : ¬ nth c (s : Int) < 0 := fun k => by have := (refn_neg hs).1.2 k; omega
  have n2 : ¬ nth c (t : Int) < 0 := fun k => by have := (refn_neg ht).1.2 k; omega
  rw [refn_at hs, refn_at ht] at h
  unfold keyO at h
  rw [if_neg n1, if_neg n2] at h
  obtain ⟨q, hq, e1, e2⟩ := nbI_mem (key_mem hs n1)
  obtain ⟨q', hq', e1', e2'⟩ := nbI_mem (key_mem ht n2)
  rw [e1, e1'] at h
  obtain rfl : q = q' := by omega
  rw [← e2, ← e2']
theorem cI_neg (a : AutT) {s : Nat} (h : s < a.2.1.length) : ∀ j, (nth (cI a j) (s : Int) < 0 ↔ nth (live a) (s : Int) = false) ∧ (nth (cI a j) (s : Int) < 0 → nth (cI a j) (s : Int) = -1)
  | 0 => by
    have e : nth (cI a 0) (s : Int) = if nth (live a) (s : Int) = true then (if nth a.2.1 (s : Int) = true then 1 else 0) else -1 := by
      show nth (cls0 a) (s : Int) = _
      rw [nth_nat (by simpa [cls0] using h)]; simp [cls0]
    rw [e]
    cases nth (live a) (s : Int) <;> cases nth a.2.1 (s : Int) <;> simp
  | j + 1 => by
    have ih := cI_neg a h j
    have := refn_neg (c := cI a j) h
    exact ⟨this.1.trans ih.1, this.2⟩
theorem cI_acc (a : AutT) {s t : Nat} (hs : s < a.2.1.length) (ht : t < a.2.1.length) : ∀ j, 0 ≤ nth (cI a j) (s : Int) → nth (cI a j) (s : Int) = nth (cI a j) (t : Int) → nth a.2.1 (s : Int) = nth a.2.1 (t : Int)
  | 0, h0, h => by
    have e : ∀ {s : Nat}, s < a.2.1.length → nth (cI a 0) (s : Int) = if nth (live a) (s : Int) = true then (if nth a.2.1 (s : Int) = true then 1 else 0) else -1 := by
      intro s h
      show nth (cls0 a) (s : Int) = _
      rw [nth_nat (by simpa [cls0] using h)]; simp [cls0]
    rw [e hs] at h0 h
    rw [e ht] at h
    revert h0 h
    cases nth (live a) (s : Int) <;> cases nth a.2.1 (s : Int) <;> cases nth (live a) (t : Int) <;> cases nth a.2.1 (t : Int) <;> simp
  | j + 1, h0, h => by
    have k := refn_eq (c := cI a j) hs ht h0 h
    have h1 : nth (cI a j) (s : Int) = nth (cI a j) (t : Int) := by
      unfold keyL at k; injection k
    refine cI_acc a hs ht j ?_ h1
    have := (refn_neg (c := cI a j) hs).1
    by_cases q : nth (cI a j) (s : Int) < 0
    · have := this.2 q
      have h0 : 0 ≤ nth (refn a (cI a j)) (s : Int) := h0
      omega
    · omega
theorem cI_norm (a : AutT) (j : Nat) : Norm (cI a (j + 1)) 0 (refN a (cI a j)) := norm_nb (keys a (cI a j)) []
theorem rel_keys (a : AutT) {c : List Int} (hc : c.length = a.2.1.length) : RelL c (keys a c) := by
  refine relL_of _ _ (by rw [keys_length, hc]) fun i h h' => ?_
  have e1 : c[i] = nth c (i : Int) := (nth_nat h).symm
  have e2 : (keys a c)[i] = keyO a c i := by simp [keys]
  rw [e1, e2]
  unfold keyO
  by_cases k : nth c (i : Int) < 0
  · exact .inl ⟨k, by rw [if_pos k]⟩
  · exact .inr ⟨by omega, _, by rw [if_neg k]; rfl⟩
theorem cI_grow (a : AutT) (j : Nat) : refN a (cI a j) ≤ refN a (cI a (j + 1)) ∧ (refN a (cI a (j + 1)) = refN a (cI a j) → cI a (j + 2) = cI a (j + 1)) := by
  obtain ⟨h1, h2⟩ := norm_refine (cI a (j + 1)) (keys a (cI a (j + 1))) [] 0 (refN a (cI a j)) (rel_keys a (cI_length a _)) (cI_norm a j) (fun y hy => by cases hy)
  exact ⟨by simpa [refN] using h1, fun h => h2 rfl (fun q hq => absurd hq (Nat.not_lt_zero q)) h⟩
theorem cI_fix {j k : Nat} (h : cI a (j + 1) = cI a j) (hk : j ≤ k) : cI a k = cI a j := by
  induction hk with
  | refl => rfl
  | step _ ih => rw [cI, ih]; exact h
theorem cI_fix_eq {j k : Nat} (h : cI a (j + 1) = cI a j) (h' : cI a (k + 1) = cI a k) : cI a j = cI a k := by
  rcases Nat.le_total j k with e | e
  · exact (cI_fix h e).symm
  · exact cI_fix h' e
theorem cI_stop (a : AutT) : ∃ j, j ≤ a.2.1.length ∧ cI a (j + 1) = cI a j := by
  by_cases h0 : cI a 1 = cI a 0
  · exact ⟨0, Nat.zero_le _, h0⟩
  have hpos : 1 ≤ refN a (cI a 0) := by
    refine Nat.one_le_iff_ne_zero.2 fun hz => h0 ?_
    have hnone : ∀ s : Nat, s < a.2.1.length → nth (cI a 0) (s : Int) < 0 := fun s hs => by
      refine Classical.byContradiction fun k => ?_
      have := key_mem (c := cI a 0) hs k
      have hl := List.length_pos_of_mem this
      unfold refN at hz; omega
    refine ext_nth (by rw [cI_length, cI_length]) fun i hi => ?_
    rw [cI_length] at hi
    have h1 := (cI_neg a hi 0).2 (hnone i hi)
    have h2 := (cI_neg a hi 1).2 (((cI_neg a hi 1).1.trans (cI_neg a hi 0).1.symm).2 (hnone i hi))
    rw [h1, h2]
  have key : ∀ m, (∃ j, j ≤ m ∧ cI a (j + 1) = cI a j) ∨ m + 1 ≤ refN a (cI a m) := by
    intro m
    induction m with
    | zero => exact .inr hpos
    | succ m ih =>
      rcases ih with ⟨j, hj, e⟩ | ih
      · exact .inl ⟨j, by omega, e⟩
      · obtain ⟨g1, g2⟩ := cI_grow a m
        by_cases e : refN a (cI a (m + 1)) = refN a (cI a m)
        · exact .inl ⟨m + 1, Nat.le_refl _, g2 e⟩
        · exact .inr (by omega)
  rcases key a.2.1.length with h | h
  · exact h
  · have := refN_le a (cI a a.2.1.length); omega
end
end Go.Proofs.Ytofopdbnkafljaa.D
/- The classes and the minimal automaton as the reference and the program reckon them. -/
set_option linter.unusedVariables false
set_option linter.unusedSimpArgs false
set_option linter.unnecessarySimpa false
set_option linter.unusedSectionVars false
namespace Go.Proofs.Ytofopdbnkafljaa.D
open Go.RowKit

section
variable {a : AutT} {n : Nat} {c : List Int}
theorem ent_snoc (k : Nat) (s : Int) : (List.range (k + 1)).map (fun k => ent a c s k) = (List.range k).map (fun k => ent a c s k) ++ [ent a c s k] := by simp [List.range_succ]
theorem s_key (V : VA a n) (hn : n ≤ 1000000) (hc : c.length = n) {s : Nat} (hs : s < n) : m_s_l12Key a c s = some (keyL a c s) := by
  unfold m_s_l12Key
  rw [getI_nth (by omega) (by omega)]; simp only [Option.bind_some]
  have := loopM_at (f := m_s_l12Key_l0 a c s) (fun k => (nth c (s : Int) :: (List.range k).map (fun k => ent a c s k), (k : Int))) 9 (fun k hk => by
    have hm := V.mv (s := s) (k := k) (by omega) (by omega) hk
    unfold m_s_l12Key_l0
    simp only
    rw [if_pos (by simp; omega), V.get (by omega) (by omega)]; simp only [Option.bind_some]
    rw [V.get2 (by omega) (by omega) hk, ent_snoc]; simp only [Option.bind_some, wrap_succ (show k < 9223372036854775807 by omega)]
    by_cases h : mv a s k < 0
    · rw [if_pos (by simpa using h), appI_ok (by simp; omega), show ent a c s k = -1 from by unfold ent; rw [if_pos h]]; rfl
    · rw [if_neg (by simpa using h), getI_nth (by omega) (by omega)]; simp only [Option.bind_some]
      rw [appI_ok (by simp; omega), show ent a c s k = nth c (mv a s k) from by unfold ent; rw [if_neg h]]; rfl) (by unfold m_s_l12Key_l0; simp) (by unfold FUEL; omega)
  exact bindL_brk this
theorem i_key (V : VA a n) (hn : n ≤ 1000000) (hc : c.length = n) {s : Nat} (hs : s < n) : loopM (m_i_Automaton_refine_l1 c (nth a.2.2 (s : Int))) FUEL (0, [nth c (s : Int)]) = some (.brk (9, keyL a c s)) := by
  have hr := V.rowAt (s := s) (by omega) (by omega)
  exact loopM_at (f := m_i_Automaton_refine_l1 c (nth a.2.2 (s : Int))) (fun k => ((k : Int), nth c (s : Int) :: (List.range k).map (fun k => ent a c s k))) 9 (fun k hk => by
    have hm := V.mv (s := s) (k := k) (by omega) (by omega) hk
    unfold m_i_Automaton_refine_l1
    simp only
    rw [if_pos (by simp [hr]; omega), V.get2 (by omega) (by omega) hk, ent_snoc]; simp only [Option.bind_some, wrap_succ (show k < 9223372036854775807 by omega)]
    by_cases h : mv a s k < 0
    · have e : mv a s k = -1 := by omega
      rw [if_neg (by simp; omega)]; simp only [Option.bind_some]
      rw [appI_ok (by simp; omega), show ent a c s k = mv a s k from by unfold ent; rw [if_pos h, e]]; rfl
    · rw [if_pos (by simp; omega), getI_nth (by omega) (by omega)]; simp only [Option.bind_some]
      rw [appI_ok (by simp; omega), show ent a c s k = nth c (mv a s k) from by unfold ent; rw [if_neg h]]; rfl) (by unfold m_i_Automaton_refine_l1; simp [hr]) (by unfold FUEL; omega)
theorem nbI_first {κ : Type} [DecidableEq κ] {l t r : List κ} {x : κ} (e : l = t ++ x :: r) (hx : x ∉ t) : nbI l (some x) = (t.length : Int) := by
  subst e
  simp only [nbI]
  rw [List.idxOf_append, if_neg hx, List.idxOf_cons_self, Nat.zero_add]
def seek (l : List (List Int)) (x : List Int) : Int := if x ∈ l then nbI l (some x) else -1
theorem set_nth {α : Type} [Inhabited α] {xs : List α} {i : Nat} (h : i < xs.length) : xs.set i (nth xs (i : Int)) = xs := by
  rw [nth_nat h]
  exact List.set_getElem_self h
theorem s_seek {l : List (List Int)} {x cs : List Int} {q : Int} (hl : l.length ≤ 1000000) (hd : l.Nodup) (hx : ∀ y ∈ l, y.length ≤ 1048576) : loopM (m_s_l12Classes_l3 (l, cs, q) x) FUEL (-1, 0) = some (.brk (seek l x, (l.length : Int))) := by
  have := loopM_at (f := m_s_l12Classes_l3 (l, cs, q) x) (fun k => (if x ∈ l.take k then nbI l (some x) else -1, (k : Int))) l.length (fun k hk => by
    unfold m_s_l12Classes_l3
    simp only
    rw [if_pos (by simp; omega), getI_nth (by omega) (by omega)]; simp only [Option.bind_some, Int.toNat_natCast, wrap_succ (show k < 9223372036854775807 by omega)]
    obtain ⟨r, e, hr⟩ := q_l2Cmp (nth l (k : Int)) x (hx _ (nth_mem (by omega) (by omega)))
    rw [e, take_one hk]; simp only [Option.bind_some, List.mem_append, List.mem_singleton]
    by_cases h : nth l (k : Int) = x
    · have h0 : r = 0 := hr.2 h
      have hm : x ∈ l := h ▸ nth_mem (by omega) (by omega)
      obtain ⟨q, hq, e1, e2⟩ := nbI_mem hm
      have : q = k := by
        have h1 : l[q]? = some x := by rw [List.getElem?_eq_getElem hq, e2]
        have h2 : l[k]? = some x := by rw [List.getElem?_eq_getElem hk, ← nth_nat hk, h]
        exact (List.getElem?_inj hq hd).1 (h1.trans h2.symm)
      subst this
      rw [if_pos (by simp [h0]), if_pos (.inr h.symm), e1]; rfl
    · have h0 : r ≠ 0 := fun e => h (hr.1 e)
      have hn : ¬ x = nth l (k : Int) := fun e => h e.symm
      rw [if_neg (by simpa using h0)]
      simp [hn]) (by unfold m_s_l12Classes_l3; simp) (up63 (by omega))
  rw [List.take_of_length_le (Nat.le_refl _)] at this
  exact this
theorem i_seek {l : List (List Int)} {x : List Int} {f : List Int → Option Bool} (hl : l.length ≤ 1000000) (hf : ∀ y ∈ l, f y = some (decide (y = x))) : m_g_slices_IndexFunc_S_S_int_S_int l f = some (seek l x) := by
  unfold m_g_slices_IndexFunc_S_S_int_S_int
  obtain ⟨o, e, hq⟩ := loopM_go (f := m_g_slices_IndexFunc_S_S_int_S_int_l0 l f) (fun k s => s = (k : Int) ∧ x ∉ l.take k) (fun o => (x ∈ l ∧ o = .ret (nbI l (some x))) ∨ (x ∉ l ∧ ∃ s, o = .brk s)) l.length (s := 0) (by
    rintro k s hk ⟨rfl, hx⟩
    unfold m_g_slices_IndexFunc_S_S_int_S_int_l0
    by_cases hkl : k < l.length
    · rw [if_pos (by simp; omega), getI_nth (by omega) (by omega)]; simp only [Option.bind_some]
      rw [hf _ (nth_mem (by omega) (by omega))]; simp only [Option.bind_some]
      by_cases h : nth l (k : Int) = x
      · refine .inr ⟨_, by rw [if_pos (by simpa using h)], (fun s' e => by cases e), .inl ?_⟩
        have hm : x ∈ l := h ▸ nth_mem (by omega) (by omega)
        refine ⟨hm, ?_⟩
        have e : l = l.take k ++ (x :: l.drop (k + 1)) := by
          rw [← h, nth_nat hkl, ← List.drop_eq_getElem_cons hkl, List.take_append_drop]
        rw [nbI_first e hx, List.length_take, Nat.min_eq_left (by omega)]
      · refine .inl ⟨hkl, _, by rw [if_neg (by simpa using h)], by rw [wrap_succ (by omega)], ?_⟩
        rw [take_one hkl, List.mem_append, List.mem_singleton]
        rintro (h' | h')
        · exact hx h'
        · exact h h'.symm
    · refine .inr ⟨_, by rw [if_neg (by simp; omega)], (fun s' e => by cases e), .inr ⟨?_, _, rfl⟩⟩
      rwa [List.take_of_length_le (by omega)] at hx) ⟨rfl, by simp⟩ (up63 (by omega))
  unfold seek
  rcases hq with ⟨hx, rfl⟩ | ⟨hx, s, rfl⟩
  · rw [bindL_ret e, if_pos hx]
  · rw [bindL_brk e, if_neg hx]
theorem kinds_short {os : List (Option (List Int))} (h : ∀ y, some y ∈ os → y.length = 10) : ∀ y ∈ nbS [] os, y.length = 10 := fun y hy => by
  rcases mem_nbS.1 hy with hy | hy
  · cases hy
  · exact h y hy
theorem keys_short (a : AutT) (c : List Int) : ∀ y, some y ∈ keys a c → y.length = 10 := by
  intro y hy
  obtain ⟨s, -, e⟩ := List.mem_map.1 hy
  unfold keyO at e
  split at e
  · cases e
  · rw [← Option.some.inj e]; simp [keyL]
section
variable (V : VA a n) (hn : n ≤ 1000000) (hc : c.length = n)
include V hn hc
theorem kinds_le (s : Nat) : (nbS [] ((keys a c).take s)).length ≤ n := by
  have := nbS_length_le ([] : List (List Int)) ((keys a c).take s)
  rw [List.length_take, keys_length, V.len] at this
  simp at this; omega
theorem s_refine {m : Int} : loopM (m_s_l12Classes_l2 a (c, m)) FUEL ([], [], 0) = some (.brk (nbS [] (keys a c), refn a c, (n : Int))) := by
  have hlen := V.len
  have := loopM_at (f := m_s_l12Classes_l2 a (c, m)) (fun s => (nbS [] ((keys a c).take s), nbR [] ((keys a c).take s), (s : Int))) n (fun s hs => by
    have hkl := kinds_le V hn hc s
    have hrl : (nbR [] ((keys a c).take s)).length ≤ n := by rw [nbR_length, List.length_take, keys_length]; omega
    unfold m_s_l12Classes_l2
    simp only
    rw [if_pos (by simp; omega), getI_nth (by omega) (by omega)]; simp only [Option.bind_some]
    rw [take_one (by rw [keys_length]; omega), nbS_snoc, nbR_snoc, keys_at (by omega)]
    simp only [wrap_succ (show s < 9223372036854775807 by omega)]
    by_cases h : nth c (s : Int) < 0
    · rw [if_pos (by simpa using h), appI_ok (by simp; omega), show keyO a c s = none from by unfold keyO; rw [if_pos h]]; rfl
    · rw [if_neg (by simpa using h), show keyO a c s = some (keyL a c s) from by unfold keyO; rw [if_neg h]]
      rw [show m_s_l12Key (a.1, a.2.1, a.2.2) c (s : Int) = some (keyL a c s) from s_key V hn hc hs]; simp only [Option.bind_some]
      rw [bindL_brk (s_seek (by omega) (nbS_nodup (by simp)) (fun y hy => by rw [kinds_short (fun y hy => keys_short a c y (List.mem_of_mem_take hy)) y hy]; decide))]
      simp only
      unfold seek
      by_cases k : keyL a c s ∈ nbS [] ((keys a c).take s)
      · obtain ⟨q, hq, e1, e2⟩ := nbI_mem k
        rw [if_pos k, nbL_old k, e1, if_neg (by simp)]; simp only [Option.bind_some]
        rw [appI_ok (by simp; omega)]; rfl
      · rw [if_neg k, nbL_new k, nbI_new k, if_pos (show decide ((-1 : Int) < 0) = true from rfl), appI_ok (by simp; omega)]; simp only [Option.bind_some]
        rw [appI_ok (by simp; omega)]; rfl) (by
    unfold m_s_l12Classes_l2
    simp only
    rw [if_neg (by simp; omega)]) (up63 (by omega))
  rw [show (keys a c).take n = keys a c from List.take_of_length_le (by rw [keys_length]; omega)] at this
  exact this
theorem i_refine : m_i_Automaton_refine a c = some (refn a c, (refN a c : Int)) := by
  have hlen := V.len
  unfold m_i_Automaton_refine
  have := loopM_at (f := m_i_Automaton_refine_l0 a c) (fun s => (nbS [] ((keys a c).take s), nbR [] ((keys a c).take s), (s : Int))) n (fun s hs => by
    have hkl := kinds_le V hn hc s
    have hrl : (nbR [] ((keys a c).take s)).length ≤ n := by rw [nbR_length, List.length_take, keys_length]; omega
    unfold m_i_Automaton_refine_l0
    simp only
    rw [if_pos (by simp; omega), getI_nth (by omega) (by omega)]; simp only [Option.bind_some]
    rw [take_one (by rw [keys_length]; omega), nbS_snoc, nbR_snoc, keys_at (by omega)]
    simp only [wrap_succ (show s < 9223372036854775807 by omega)]
    by_cases h : nth c (s : Int) < 0
    · rw [if_pos (by simpa using h), appI_ok (by simp; omega), show keyO a c s = none from by unfold keyO; rw [if_pos h]]; rfl
    · rw [if_neg (by simpa using h), show keyO a c s = some (keyL a c s) from by unfold keyO; rw [if_neg h], V.get (by omega) (by omega)]; simp only [Option.bind_some]
      rw [bindL_brk (i_key V hn hc hs)]; simp only
      rw [i_seek (x := keyL a c s) (by omega) (fun y hy => by
        unfold m_i_Automaton_refine_1
        rw [q_sliceEq _ _ (by rw [kinds_short (fun y hy => keys_short a c y (List.mem_of_mem_take hy)) y hy]; decide)]; rfl)]; simp only [Option.bind_some]
      unfold seek
      by_cases k : keyL a c s ∈ nbS [] ((keys a c).take s)
      · obtain ⟨q, hq, e1, e2⟩ := nbI_mem k
        rw [if_pos k, nbL_old k, e1, if_neg (by simp)]; simp only [Option.bind_some]
        rw [appI_ok (by simp; omega)]; rfl
      · rw [if_neg k, nbL_new k, nbI_new k, if_pos (show decide ((-1 : Int) < 0) = true from rfl), appI_ok (by simp; omega)]; simp only [Option.bind_some]
        rw [appI_ok (by simp; omega)]; rfl) (by
    unfold m_i_Automaton_refine_l0
    simp only
    rw [if_neg (by simp; omega)]) (up63 (by omega))
  rw [show (keys a c).take n = keys a c from List.take_of_length_le (by rw [keys_length]; omega)] at this
  exact bindL_brk this
end
end
section
variable {a : AutT} {n : Nat} (V : VA a n) (hn : n ≤ 1000000)
include V hn
theorem cls0_snoc (s : Nat) : (List.range (s + 1)).map (fun s : Nat => if nth (live a) (s : Int) = true then (if nth a.2.1 (s : Int) = true then (1 : Int) else 0) else -1) = (List.range s).map (fun s : Nat => if nth (live a) (s : Int) = true then (if nth a.2.1 (s : Int) = true then 1 else 0) else -1) ++ [if nth (live a) (s : Int) = true then (if nth a.2.1 (s : Int) = true then 1 else 0) else -1] := by simp [List.range_succ]
theorem s_cls0 : loopM (m_s_l12Classes_l0 a (live a)) FUEL ([], 0) = some (.brk (cls0 a, (n : Int))) := by
  have hlen := V.len
  have hll : (live a).length = n := by rw [live_length, hlen]
  have := loopM_at (f := m_s_l12Classes_l0 a (live a)) (fun s => ((List.range s).map (fun s : Nat => if nth (live a) (s : Int) = true then (if nth a.2.1 (s : Int) = true then (1 : Int) else 0) else -1), (s : Int))) n (fun s hs => by
    unfold m_s_l12Classes_l0
    simp only
    rw [if_pos (by simp; omega), V.acc (by omega) (by omega)]; simp only [Option.bind_some]
    rw [cls0_snoc V hn, getI_nth (xs := live a) (by omega) (by omega)]; simp only [wrap_succ (show s < 9223372036854775807 by omega)]
    cases nth (live a) (s : Int) <;> cases nth a.2.1 (s : Int) <;> simp only [if_true, if_false, Bool.false_eq_true, Option.bind_some] <;> rw [appI_ok (by simp; omega)] <;> rfl) (by
    unfold m_s_l12Classes_l0
    simp only
    rw [if_neg (by simp; omega)]) (up63 (by omega))
  unfold cls0
  rw [hlen]
  exact this
theorem i_cls0 : loopM (m_i_Automaton_classes_l0 a (live a)) FUEL ([], 0) = some (.brk (cls0 a, (n : Int))) := by
  have hlen := V.len
  have hll : (live a).length = n := by rw [live_length, hlen]
  have := loopM_at (f := m_i_Automaton_classes_l0 a (live a)) (fun s => ((List.range s).map (fun s : Nat => if nth (live a) (s : Int) = true then (if nth a.2.1 (s : Int) = true then (1 : Int) else 0) else -1), (s : Int))) n (fun s hs => by
    unfold m_i_Automaton_classes_l0
    simp only
    rw [if_pos (by simp; omega), getI_nth (xs := live a) (by omega) (by omega)]; simp only [Option.bind_some]
    rw [cls0_snoc V hn, V.acc (by omega) (by omega)]; simp only [wrap_succ (show s < 9223372036854775807 by omega)]
    cases nth (live a) (s : Int) <;> cases nth a.2.1 (s : Int) <;> simp only [if_true, if_false, Bool.false_eq_true, Option.bind_some] <;> rw [appI_ok (by simp; omega)] <;> rfl) (by
    unfold m_i_Automaton_classes_l0
    simp only
    rw [if_neg (by simp; omega)]) (up63 (by omega))
  unfold cls0
  rw [hlen]
  exact this
theorem s_classes : ∃ J, cI a (J + 1) = cI a J ∧ m_s_l12Classes a = some (cI a J) := by
  have hlen := V.len
  unfold m_s_l12Classes
  rw [show m_s_l11Live (a.1, a.2.1, a.2.2) = some (live a) from s_live V hn]; simp only [Option.bind_some]
  rw [bindL_brk (s_cls0 V hn)]
  obtain ⟨J0, hJ0, hfix⟩ := cI_stop a
  obtain ⟨o, e, j, rfl, hj⟩ := loopM_go (f := m_s_l12Classes_l1 a) (fun j s => s = (cI a j, (j : Int)) ∧ j ≤ J0) (fun o => ∃ j, o = .ret (cI a j) ∧ cI a (j + 1) = cI a j) (J0 + 1) (s := (cI a 0, 0)) (by
    rintro j s hj ⟨rfl, hjJ⟩
    have hcl : (cI a j).length = n := by rw [cI_length, hlen]
    unfold m_s_l12Classes_l1
    simp only
    rw [if_pos (by simp; omega), bindL_brk (s_refine V hn hcl)]
    simp only
    obtain ⟨r, er, hr⟩ := q_l2Cmp (refn a (cI a j)) (cI a j) (by rw [refn_length]; omega)
    rw [er]; simp only [Option.bind_some, wrap_succ (show j < 9223372036854775807 by omega)]
    by_cases h : refn a (cI a j) = cI a j
    · exact .inr ⟨_, by rw [if_pos (by simpa using hr.2 h)], (fun s' e => by cases e), j, rfl, h⟩
    · refine .inl ⟨by omega, (cI a (j + 1), ((j + 1 : Nat) : Int)), by rw [if_neg (by simpa using fun e => h (hr.1 e))]; rfl, rfl, ?_⟩
      by_cases e : j = J0
      · subst e; exact absurd hfix h
      · omega) ⟨rfl, Nat.zero_le _⟩ (up63 (by omega))
  exact ⟨j, hj, bindL_ret e⟩
theorem i_classes : ∃ J, cI a (J + 1) = cI a J ∧ m_i_Automaton_classes a = some (cI a J) := by
  have hlen := V.len
  unfold m_i_Automaton_classes
  rw [show m_i_Automaton_live (a.1, a.2.1, a.2.2) = some (live a) from i_live V hn]; simp only [Option.bind_some]
  rw [bindL_brk (i_cls0 V hn)]
  let kk : Nat → Int := fun j => match j with | 0 => -1 | i + 1 => (refN a (cI a i) : Int)
  obtain ⟨o, e, j, rfl, hj⟩ := loopM_go (f := m_i_Automaton_classes_l1 a) (fun j s => s = (cI a j, kk j) ∧ (j : Int) ≤ kk j + 1) (fun o => ∃ j, o = .ret (cI a j) ∧ cI a (j + 1) = cI a j) (n + 2) (s := (cI a 0, -1)) (by
    rintro j s hj ⟨rfl, hjk⟩
    have hcl : (cI a j).length = n := by rw [cI_length, hlen]
    have hle := refN_le a (cI a j)
    unfold m_i_Automaton_classes_l1
    simp only
    rw [show m_i_Automaton_refine (a.1, a.2.1, a.2.2) (cI a j) = some (refn a (cI a j), (refN a (cI a j) : Int)) from i_refine V hn hcl]; simp only [Option.bind_some]
    cases j with
    | zero =>
      refine .inl ⟨by omega, (cI a 1, kk 1), by rw [if_neg (by show ¬ ((refN a (cI a 0) : Int) == -1) = true; simp)]; rfl, rfl, ?_⟩
      show (1 : Int) ≤ (refN a (cI a 0) : Int) + 1
      omega
    | succ i =>
      obtain ⟨g1, g2⟩ := cI_grow a i
      have hki : kk (i + 1) = (refN a (cI a i) : Int) := rfl
      rw [hki] at hjk ⊢
      by_cases h : refN a (cI a (i + 1)) = refN a (cI a i)
      · refine .inr ⟨.ret (cI a (i + 2)), by rw [if_pos (by simp [h])]; rfl, (fun s' e => by cases e), i + 2, rfl, ?_⟩
        have := g2 h
        show refn a (cI a (i + 2)) = cI a (i + 2)
        rw [this]; exact this
      · refine .inl ⟨?_, (cI a (i + 2), kk (i + 2)), by rw [if_neg (by simp; omega)]; rfl, rfl, ?_⟩
        · omega
        · show ((i + 1 + 1 : Nat) : Int) ≤ (refN a (cI a (i + 1)) : Int) + 1
          omega) ⟨rfl, by show ((0 : Nat) : Int) ≤ -1 + 1; omega⟩ (up63 (by omega))
  exact ⟨j, hj, bindL_ret e⟩
/-- the classes, the same by both -/
theorem classes_eq : ∃ c, m_s_l12Classes a = some c ∧ m_i_Automaton_classes a = some c ∧ c.length = n ∧ refn a c = c ∧ ∃ j, c = cI a j := by
  obtain ⟨J, hJ, es⟩ := s_classes V hn
  obtain ⟨J', hJ', ei⟩ := i_classes V hn
  have := cI_fix_eq hJ hJ'
  exact ⟨cI a J, es, by rw [this]; exact ei, by rw [cI_length, V.len], hJ, J, rfl⟩
end
end Go.Proofs.Ytofopdbnkafljaa.D
/- What is numbered is small. -/
set_option linter.unusedVariables false
set_option linter.unusedSimpArgs false
set_option linter.unnecessarySimpa false
set_option linter.unusedSectionVars false
namespace Go.Proofs.Ytofopdbnkafljaa.D
open Go.RowKit

theorem bound_ints (n : Nat) (l : List Int) (hd : l.Nodup) (h : ∀ x ∈ l, 0 ≤ x ∧ x < n) : l.length ≤ n := by
  have := hd.length_le_of_subset (l₂ := (List.range n).map Int.ofNat) (fun x hx => by
    obtain ⟨h0, h1⟩ := h x hx
    exact List.mem_map.2 ⟨x.toNat, List.mem_range.2 (by omega), by show ((x.toNat : Nat) : Int) = x; omega⟩)
  simpa using this
theorem iOk_in {n : Nat} {x : Int} (hn : n ≤ 1000000) (h0 : 0 ≤ x) (h1 : x < n) : iOk x = true := by
  have := iOk_nat (n := x.toNat) (by omega)
  rwa [show ((x.toNat : Nat) : Int) = x from by omega] at this
/-- the numbered automata are small -/
theorem num_sm {κ : Type} [DecidableEq κ] {nx : κ → List (Option κ)} {first : κ} {G : κ → Prop} {B N : Nat} {acc : κ → Bool} (H : NumOk nx first G B) (hB : B ≤ 1000000) (hN : bfE nx first N) : Data.sm ((0, (bfS nx first N).map acc, bfR nx first N) : AutT) := by
  have hl := H.bound _ (bfS_nodup (nx := nx) (first := first) N) (bfS_good H.g0 H.gn N)
  refine ⟨trivial, ⟨by rw [List.length_map]; omega, fun _ _ => trivial⟩, ?_, ?_⟩
  · rw [bfR_length hN.2]; have := hN.1; omega
  · have key : ∀ i, i ≤ N → ∀ r ∈ bfR nx first i, r.length = 9 := by
      intro i
      induction i with
      | zero => intro _ r hr; cases hr
      | succ i ih =>
        intro hi r hr
        have hlt := hN.2 i (by omega)
        rw [bfR_succ hlt] at hr
        rcases List.mem_append.1 hr with hr | hr
        · exact ih (by omega) r hr
        · obtain rfl := List.mem_singleton.1 hr
          rw [nbR_length, H.len _ (bfS_good H.g0 H.gn i _ (List.getElem_mem hlt))]
    intro r hr
    exact ⟨by rw [key N (Nat.le_refl _) r hr]; decide, fun _ _ => trivial⟩
theorem nothing_sm : Data.sm nothing := ⟨trivial, ⟨by decide, fun _ _ => trivial⟩, by decide, fun r hr => by
  obtain rfl := List.mem_singleton.1 hr
  exact ⟨by decide, fun _ _ => trivial⟩⟩
end Go.Proofs.Ytofopdbnkafljaa.D
/- The minimal automaton: the reference numbers representatives, the program numbers classes. -/
set_option linter.unusedVariables false
set_option linter.unusedSimpArgs false
set_option linter.unnecessarySimpa false
set_option linter.unusedSectionVars false
namespace Go.Proofs.Ytofopdbnkafljaa.D
open Go.RowKit

theorem i_index {l : List Int} {x : Int} (hl : l.length ≤ 1000000) (hx : x ∈ l) : m_i_Automaton_minimize_1 x l = some (nbI l (some x)) := by
  unfold m_i_Automaton_minimize_1 m_g_slices_Index_S_int_int
  obtain ⟨o, e, hq⟩ := loopM_go (f := m_g_slices_Index_S_int_int_l0 l x) (fun k s => s = (k : Int) ∧ x ∉ l.take k) (fun o => o = .ret (nbI l (some x))) l.length (s := 0) (by
    rintro k s hk ⟨rfl, hx'⟩
    unfold m_g_slices_Index_S_int_int_l0
    by_cases hkl : k < l.length
    · rw [if_pos (by simp; omega), getI_nth (by omega) (by omega)]; simp only [Option.bind_some]
      by_cases h : nth l (k : Int) = x
      · refine .inr ⟨_, by rw [if_pos (by simp [h])], (fun s' e => by cases e), ?_⟩
        have e : l = l.take k ++ (x :: l.drop (k + 1)) := by
          rw [← h, nth_nat hkl, ← List.drop_eq_getElem_cons hkl, List.take_append_drop]
        rw [nbI_first e hx', List.length_take, Nat.min_eq_left (by omega)]
      · have h' : ¬ x = nth l (k : Int) := fun e => h e.symm
        refine .inl ⟨hkl, _, by rw [if_neg (by simpa using h')], by rw [wrap_succ (by omega)], ?_⟩
        rw [take_one hkl, List.mem_append, List.mem_singleton]
        rintro (h' | h')
        · exact hx' h'
        · exact h h'.symm
    · rw [List.take_of_length_le (by omega)] at hx'
      exact absurd hx hx') ⟨rfl, by simp⟩ (up63 (by omega))
  subst hq
  rw [bindL_ret e]; rfl
section
variable {a : AutT} {n : Nat}
/-- the first state of a class -/
def rep (c : List Int) (x : Int) : Int := nbI c (some x)
theorem rep_ok {c : List Int} {x : Int} (h : x ∈ c) : 0 ≤ rep c x ∧ rep c x < c.length ∧ nth c (rep c x) = x := by
  obtain ⟨q, hq, e1, e2⟩ := nbI_mem h
  unfold rep
  rw [e1]
  exact ⟨by omega, by omega, by rw [nth_nat hq, e2]⟩
theorem minim_eq (V : VA a n) (hn : n ≤ 1000000) : ∃ r, m_s_l12Minimize a = some r ∧ m_i_Automaton_minimize a = some r ∧ Data.sm r := by
  have hlen := V.len
  have hst := V.start
  have hll : (live a).length = n := by rw [live_length, hlen]
  obtain ⟨c, es, ei, hcl, hfix, j, hj⟩ := classes_eq V hn
  have hneg : ∀ s : Int, 0 ≤ s → s < n → (nth c s < 0 ↔ nth (live a) s = false) := fun s h0 h1 => by
    have := (cI_neg a (s := s.toNat) (by omega) j).1
    rw [← hj, show ((s.toNat : Nat) : Int) = s from by omega] at this
    exact this
  have hlt : ∀ s : Int, 0 ≤ s → s < n → nth c s < n := fun s h0 h1 => by
    have := refn_lt (c := c) (a := a) (s := s.toNat) (by omega)
    rw [hfix, hlen, show ((s.toNat : Nat) : Int) = s from by omega] at this
    exact this
  have hpos : ∀ r, good n (live a) r → 0 ≤ nth c r := fun r hr => by
    have := hneg r hr.1 hr.2.1
    by_cases k : nth c r < 0
    · have := this.1 k; rw [hr.2.2] at this; cases this
    · omega
  -- states of one class are alike
  have hkey : ∀ r t : Int, 0 ≤ r → r < n → 0 ≤ t → t < n → 0 ≤ nth c r → nth c r = nth c t → keyL a c r = keyL a c t := fun r t r0 r1 t0 t1 h0 h => by
    have := refn_eq (a := a) (c := c) (s := r.toNat) (t := t.toNat) (by omega) (by omega) (by rw [hfix, show ((r.toNat : Nat) : Int) = r from by omega]; exact h0) (by rw [hfix, show ((r.toNat : Nat) : Int) = r from by omega, show ((t.toNat : Nat) : Int) = t from by omega]; exact h)
    rwa [show ((r.toNat : Nat) : Int) = r from by omega, show ((t.toNat : Nat) : Int) = t from by omega] at this
  have hacc : ∀ r t : Int, 0 ≤ r → r < n → 0 ≤ t → t < n → 0 ≤ nth c r → nth c r = nth c t → nth a.2.1 r = nth a.2.1 t := fun r t r0 r1 t0 t1 h0 h => by
    have := cI_acc a (s := r.toNat) (t := t.toNat) (by omega) (by omega) j (by rw [← hj, show ((r.toNat : Nat) : Int) = r from by omega]; exact h0) (by rw [← hj, show ((r.toNat : Nat) : Int) = r from by omega, show ((t.toNat : Nat) : Int) = t from by omega]; exact h)
    rwa [show ((r.toNat : Nat) : Int) = r from by omega, show ((t.toNat : Nat) : Int) = t from by omega] at this
  have hsuccs : ∀ r, good n (live a) r → succs a c (live a) r = (List.range 9).map fun k => if 0 ≤ ent a c r k then some (ent a c r k) else none := fun r hr => by
    refine List.map_congr_left fun k hk => ?_
    have hk : k < 9 := List.mem_range.1 hk
    have hm := V.mv hr.1 hr.2.1 hk
    unfold ent
    by_cases h : mv a r k < 0
    · rw [if_pos h, if_neg (fun h' => by omega), if_neg (by omega)]
    · rw [if_neg h]
      have := hneg (mv a r k) (by omega) hm.2
      cases hl : nth (live a) (mv a r k) with
      | false =>
        have := this.2 hl
        rw [if_neg (fun h' => by cases h'.2), if_neg (by omega)]
      | true =>
        have : ¬ nth c (mv a r k) < 0 := fun h' => by have := this.1 h'; rw [hl] at this; cases this
        rw [if_pos ⟨by omega, rfl⟩, if_pos (by omega)]
  have hent : ∀ r t : Int, keyL a c r = keyL a c t → ∀ k, k < 9 → ent a c r k = ent a c t k := fun r t h k hk => by
    have h : (List.range 9).map (fun k => ent a c r k) = (List.range 9).map (fun k => ent a c t k) := by unfold keyL at h; injection h
    have := congrArg (fun l : List Int => l[k]?) h
    simpa [hk] using this
  -- the keys that are numbered
  let nx : Int → List (Option Int) := fun x => succs a c (live a) (rep c x)
  let acc : Int → Bool := fun x => nth a.2.1 (rep c x)
  let G : Int → Prop := fun x => ∃ r, good n (live a) r ∧ nth c r = x
  have Gm : ∀ x, G x → x ∈ c ∧ 0 ≤ x ∧ good n (live a) (rep c x) := by
    rintro x ⟨r, hr, rfl⟩
    have hm : nth c r ∈ c := nth_mem hr.1 (by rw [hcl]; exact hr.2.1)
    obtain ⟨h0, h1, h2⟩ := rep_ok hm
    have hp := hpos r hr
    refine ⟨hm, hp, h0, by omega, ?_⟩
    have := hneg (rep c (nth c r)) h0 (by omega)
    rw [h2] at this
    cases hl : nth (live a) (rep c (nth c r)) with
    | true => rfl
    | false => have := this.2 hl; omega
  have hnx : ∀ r, good n (live a) r → nx (nth c r) = succs a c (live a) r := fun r hr => by
    obtain ⟨hm, hp, hg⟩ := Gm _ ⟨r, hr, rfl⟩
    obtain ⟨h0, h1, h2⟩ := rep_ok hm
    show succs a c (live a) (rep c (nth c r)) = _
    rw [hsuccs _ hg, hsuccs _ hr]
    refine List.map_congr_left fun k hk => ?_
    rw [hent _ _ (hkey _ _ hg.1 hg.2.1 hr.1 hr.2.1 (by rw [h2]; exact hp) h2) k (List.mem_range.1 hk)]
  have hac : ∀ r, good n (live a) r → acc (nth c r) = nth a.2.1 r := fun r hr => by
    obtain ⟨hm, hp, hg⟩ := Gm _ ⟨r, hr, rfl⟩
    obtain ⟨h0, h1, h2⟩ := rep_ok hm
    exact hacc _ _ hg.1 hg.2.1 hr.1 hr.2.1 (by rw [h2]; exact hp) h2
  have hgn : ∀ r, good n (live a) r → ∀ y, some y ∈ succs a c (live a) r → G y := fun r hr y h => by
    obtain ⟨k, hk, e⟩ := List.mem_map.1 h
    have hk : k < 9 := List.mem_range.1 hk
    split at e
    · rename_i hc
      exact ⟨mv a r k, ⟨hc.1, (V.mv hr.1 hr.2.1 hk).2, hc.2⟩, Option.some.inj e⟩
    · cases e
  unfold m_s_l12Minimize m_i_Automaton_minimize
  simp only [peta]
  rw [es, ei, s_live V hn]; simp only [Option.bind_some]
  rw [getI_nth hst.1 (by omega)]; simp only [Option.bind_some]
  cases hs : nth (live a) a.1 with
  | false =>
    have := (hneg a.1 hst.1 hst.2).2 hs
    rw [s_numb_dead V hll hs, if_pos (by simpa using this), i_nothing]
    exact ⟨nothing, rfl, rfl, nothing_sm⟩
  | true =>
    have hst' : good n (live a) a.1 := ⟨hst.1, hst.2, hs⟩
    have hp := hpos _ hst'
    have H : NumOk nx (nth c a.1) G n := ⟨⟨a.1, hst', rfl⟩, fun x hx y hy => hgn _ (Gm x hx).2.2 y hy, fun x hx => by simp [nx, succs], fun l hd h => bound_ints n l hd fun x hx => by
      obtain ⟨r, hr, rfl⟩ := h x hx
      exact ⟨hpos r hr, hlt r hr.1 hr.2.1⟩⟩
    obtain ⟨N, hN, e1⟩ := s_numb (acc := acc) V hn hcl hll hs H hn hnx hac
    have hfirst : ∀ x, G x → m_i_Automaton_minimize_1 x c = some (rep c x) := fun x hx => i_index (by omega) (Gm x hx).1
    obtain ⟨N', hN', e2⟩ := i_numb (most := (c.length : Int)) (p2 := fun a0 => m_i_Automaton_minimize_2 a0 (a.1, a.2.1, a.2.2) (fun a0 => m_i_Automaton_minimize_1 a0 c)) (p3 := fun a0 a1 => m_i_Automaton_minimize_3 a0 a1 (a.1, a.2.1, a.2.2) (fun a0 => m_i_Automaton_minimize_1 a0 c) c) (acc := acc) H hn (by omega) (fun x hx => iOk_in hn (Gm x hx).2.1 (by
        obtain ⟨r, hr, rfl⟩ := hx
        exact hlt r hr.1 hr.2.1)) (fun x hx => by
      show m_i_Automaton_minimize_2 x (a.1, a.2.1, a.2.2) (fun a0 => m_i_Automaton_minimize_1 a0 c) = _
      unfold m_i_Automaton_minimize_2
      simp only
      rw [hfirst x hx]; simp only [Option.bind_some]
      rw [V.acc (Gm x hx).2.2.1 (Gm x hx).2.2.2.1]; rfl) (fun x k hx hk => by
      obtain ⟨hm, hx0, hg⟩ := Gm x hx
      have hm' := V.mv hg.1 hg.2.1 hk
      refine ⟨0, ?_⟩
      show m_i_Automaton_minimize_3 x k (a.1, a.2.1, a.2.2) (fun a0 => m_i_Automaton_minimize_1 a0 c) c = _
      unfold m_i_Automaton_minimize_3
      simp only
      rw [hfirst x hx]; simp only [Option.bind_some]
      rw [show m_i_Automaton_move (a.1, a.2.1, a.2.2) (rep c x) k = some (mv a (rep c x) k) from i_move V hg.1 hg.2.1 hk]; simp only [Option.bind_some]
      show _ = some (match nth (succs a c (live a) (rep c x)) (k : Int) with | some y => (y, true) | none => (0, false))
      rw [succs_at hk]
      by_cases h : mv a (rep c x) k < 0
      · rw [if_pos (by simpa using h), if_neg (fun h' => by omega)]
      · rw [if_neg (by simpa using h), getI_nth (by omega) (by omega)]; simp only [Option.bind_some]
        have hng := hneg (mv a (rep c x) k) (by omega) hm'.2
        cases hl : nth (live a) (mv a (rep c x) k) with
        | false =>
          have := hng.2 hl
          rw [if_pos (by simpa using this), if_neg (fun h' => by cases h'.2)]
        | true =>
          have : ¬ nth c (mv a (rep c x) k) < 0 := fun h' => by have := hng.1 h'; rw [hl] at this; cases this
          rw [if_neg (by simpa using this), if_pos ⟨by omega, rfl⟩])
    obtain rfl := bfE_uniq hN hN'
    refine ⟨_, by rw [e1]; rfl, ?_, num_sm H hn hN⟩
    rw [if_neg (by simp; omega)]
    exact (congrArg (fun x => Option.bind x _) e2).trans rfl
end
end Go.Proofs.Ytofopdbnkafljaa.D
/- What is numbered is an automaton. -/
set_option linter.unusedVariables false
set_option linter.unusedSimpArgs false
set_option linter.unnecessarySimpa false
set_option linter.unusedSectionVars false
namespace Go.Proofs.Ytofopdbnkafljaa.D
open Go.RowKit
section
variable {κ : Type} [DecidableEq κ] [Inhabited κ] {nx : κ → List (Option κ)} {first : κ} {G : κ → Prop} {B N : Nat} {acc : κ → Bool}
theorem nbR_range : ∀ (l : List κ) (os : List (Option κ)), ∀ t ∈ nbR l os, -1 ≤ t ∧ t < ((nbS l os).length : Int)
  | l, [] => fun t ht => by cases ht
  | l, o :: os => fun t ht => by
    have hp := nbS_prefix (nbL l o) os
    have hl := hp.length_le
    rcases List.mem_cons.1 ht with rfl | ht
    · show -1 ≤ nbI l o ∧ nbI l o < ((nbS (nbL l o) os).length : Int)
      cases o with
      | none => exact ⟨by simp [nbI], by simp only [nbI]; omega⟩
      | some y =>
        by_cases c : y ∈ l
        · obtain ⟨q, hq, e, -⟩ := nbI_mem c
          rw [nbL_old c] at hl
          rw [e]; exact ⟨by omega, by rw [nbL_old c]; omega⟩
        · rw [nbL_new c] at hl
          rw [nbI_new c]; rw [List.length_append] at hl
          exact ⟨by omega, by rw [nbL_new c]; simp at hl; omega⟩
    · exact nbR_range (nbL l o) os t ht
theorem num_VA (H : NumOk nx first G B) (hN : bfE nx first N) : VA ((0, (bfS nx first N).map acc, bfR nx first N) : AutT) N := by
  have h0 : 0 < N := by
    have := bfS_first (nx := nx) (first := first) N
    have := (List.getElem?_eq_some_iff.1 this).1
    have := hN.1; omega
  have key : ∀ i, i ≤ N → ∀ r ∈ bfR nx first i, r.length = 9 ∧ ∀ t ∈ r, -1 ≤ t ∧ t < (N : Int) := by
    intro i
    induction i with
    | zero => intro _ r hr; cases hr
    | succ i ih =>
      intro hi r hr
      have hlt := hN.2 i (by omega)
      rw [bfR_succ hlt] at hr
      rcases List.mem_append.1 hr with hr | hr
      · exact ih (by omega) r hr
      · obtain rfl := List.mem_singleton.1 hr
        refine ⟨by rw [nbR_length, H.len _ (bfS_good H.g0 H.gn i _ (List.getElem_mem hlt))], fun t ht => ?_⟩
        have := nbR_range _ _ t ht
        rw [← bfS_succ hlt] at this
        have hl := (bfS_prefix (nx := nx) (first := first) hi).length_le
        have := hN.1
        omega
  exact ⟨by show ((bfS nx first N).map acc).length = N; rw [List.length_map]; exact hN.1.symm, ⟨Int.le_refl _, by show (0 : Int) < N; omega⟩, bfR_length hN.2, fun r hr => (key N (Nat.le_refl _) r hr).1, fun r hr => (key N (Nat.le_refl _) r hr).2⟩
theorem num_VA' (hlen : ∀ x, (nx x).length = 9) (hN : bfE nx first N) : VA ((0, (bfS nx first N).map acc, bfR nx first N) : AutT) N := by
  have h0 : 0 < N := by
    have := bfS_first (nx := nx) (first := first) N
    have := (List.getElem?_eq_some_iff.1 this).1
    have := hN.1; omega
  have key : ∀ i, i ≤ N → ∀ r ∈ bfR nx first i, r.length = 9 ∧ ∀ t ∈ r, -1 ≤ t ∧ t < (N : Int) := by
    intro i
    induction i with
    | zero => intro _ r hr; cases hr
    | succ i ih =>
      intro hi r hr
      have hlt := hN.2 i (by omega)
      rw [bfR_succ hlt] at hr
      rcases List.mem_append.1 hr with hr | hr
      · exact ih (by omega) r hr
      · obtain rfl := List.mem_singleton.1 hr
        refine ⟨by rw [nbR_length, hlen _], fun t ht => ?_⟩
        have := nbR_range _ _ t ht
        rw [← bfS_succ hlt] at this
        have hl := (bfS_prefix (nx := nx) (first := first) hi).length_le
        have := hN.1
        omega
  exact ⟨by show ((bfS nx first N).map acc).length = N; rw [List.length_map]; exact hN.1.symm, ⟨Int.le_refl _, by show (0 : Int) < N; omega⟩, bfR_length hN.2, fun r hr => (key N (Nat.le_refl _) r hr).1, fun r hr => (key N (Nat.le_refl _) r hr).2⟩
end
end Go.Proofs.Ytofopdbnkafljaa.D
/- Marks put into a result, and held there. No program text is named here. -/
set_option linter.unusedVariables false
set_option linter.unusedSimpArgs false
set_option linter.unnecessarySimpa false
set_option linter.unusedSectionVars false
namespace Go.Proofs.Ytofopdbnkafljaa.D
open Go.RowKit

section
variable {α : Type} [Inhabited α]
def smk (mk : α → Nat) : List α → Nat
  | [] => 0
  | x :: xs => mk x + smk mk xs
def mkd (mk : α → Nat) (m : α → Nat → α) : List α → Nat → List α
  | [], _ => []
  | x :: xs, k => m x k :: mkd mk m xs (k + mk x)
theorem smk_snoc (mk : α → Nat) : ∀ (xs : List α) (x : α), smk mk (xs ++ [x]) = smk mk xs + mk x
  | [], x => by simp [smk]
  | y :: xs, x => by simp [smk, smk_snoc mk xs x, Nat.add_assoc]
theorem mkd_snoc (mk : α → Nat) (m : α → Nat → α) : ∀ (xs : List α) (x : α) (k : Nat), mkd mk m (xs ++ [x]) k = mkd mk m xs k ++ [m x (k + smk mk xs)]
  | [], x, k => by simp [mkd, smk]
  | y :: xs, x, k => by simp [mkd, smk, mkd_snoc mk m xs x, Nat.add_assoc]
theorem mkd_length (mk : α → Nat) (m : α → Nat → α) : ∀ (xs : List α) (k : Nat), (mkd mk m xs k).length = xs.length
  | [], _ => rfl
  | x :: xs, k => by simp [mkd, mkd_length mk m xs]
theorem mkd_take (mk : α → Nat) (m : α → Nat → α) : ∀ (xs : List α) (k i : Nat), (mkd mk m xs k).take i = mkd mk m (xs.take i) k
  | [], _, _ => by simp [mkd]
  | x :: xs, k, 0 => by simp [mkd]
  | x :: xs, k, i + 1 => by simp [mkd, mkd_take mk m xs]
theorem takeS {xs : List α} {k : Nat} (h : k < xs.length) : xs.take (k + 1) = xs.take k ++ [nth xs (k : Int)] := by
  rw [List.take_succ_eq_append_getElem h, nth_nat h]
theorem mkd_at (mk : α → Nat) (m : α → Nat → α) (xs : List α) (k : Nat) {i : Nat} (h : i < xs.length) : nth (mkd mk m xs k) (i : Int) = m (nth xs (i : Int)) (k + smk mk (xs.take i)) := by
  have h' : i < (mkd mk m xs k).length := by rw [mkd_length]; exact h
  have e := takeS h'
  rw [mkd_take, mkd_take, takeS h, mkd_snoc] at e
  have := List.append_cancel_left e
  simpa using this.symm
theorem smk_take (mk : α → Nat) {xs : List α} {i : Nat} (h : i < xs.length) : smk mk (xs.take (i + 1)) = smk mk (xs.take i) + mk (nth xs (i : Int)) := by rw [takeS h, smk_snoc]
theorem smk_le (mk : α → Nat) : ∀ (xs : List α) (i : Nat), smk mk (xs.take i) ≤ smk mk xs
  | [], _ => by simp
  | x :: xs, 0 => by simp [smk]
  | x :: xs, i + 1 => by simp [smk]; exact smk_le mk xs i
theorem smk_bound (mk : α → Nat) {B : Nat} : ∀ (xs : List α), (∀ x ∈ xs, mk x ≤ B) → smk mk xs ≤ xs.length * B
  | [], _ => by simp [smk]
  | x :: xs, h => by
    have h1 := smk_bound mk xs fun y hy => h y (by simp [hy])
    have h2 := h x (by simp)
    simp only [smk, List.length_cons, Nat.add_mul, Nat.one_mul]; omega
theorem set_mid {xs ys : List α} {i : Nat} (hi : i < xs.length) (hl : ys.length = i) (x : α) : (ys ++ xs.drop i).set i x = ys ++ [x] ++ xs.drop (i + 1) := by
  rw [List.set_append_right _ _ (by omega), hl, Nat.sub_self, List.drop_eq_getElem_cons hi, List.set_cons_zero, List.append_assoc]; rfl
/-- putting marks into a row -/
theorem markL {R : Type} {f : List α × Int × Int → Option (Out R (List α × Int × Int))} (xs : List α) (mk : α → Nat) (m : α → Nat → α) (hN : xs.length ≤ 9223372036854775807) {k : Nat} (hk : k + smk mk xs ≤ 4611686018427387904)
    (hstep : ∀ ys (i k : Nat), i < xs.length → ys.length = xs.length → nth ys (i : Int) = nth xs (i : Int) → k + mk (nth xs (i : Int)) ≤ 4611686018427387904 → f (ys, (k : Int), (i : Int)) = some (.nxt (ys.set i (m (nth xs (i : Int)) k), ((k + mk (nth xs (i : Int)) : Nat) : Int), ((i + 1 : Nat) : Int))))
    (hend : ∀ ys (k : Nat), ys.length = xs.length → f (ys, (k : Int), (xs.length : Int)) = some (.brk (ys, (k : Int), (xs.length : Int)))) :
    loopM f FUEL (xs, (k : Int), 0) = some (.brk (mkd mk m xs k, ((k + smk mk xs : Nat) : Int), (xs.length : Int))) := by
  have hlen : ∀ i, i ≤ xs.length → (mkd mk m (xs.take i) k ++ xs.drop i).length = xs.length := fun i hi => by
    rw [List.length_append, mkd_length, List.length_take, List.length_drop]; omega
  have := loopM_at (f := f) (fun i => (mkd mk m (xs.take i) k ++ xs.drop i, ((k + smk mk (xs.take i) : Nat) : Int), (i : Int))) xs.length (fun i hi => by
    have hl : (mkd mk m (xs.take i) k).length = i := by rw [mkd_length, List.length_take]; omega
    have hle := smk_le mk xs (i + 1)
    rw [smk_take mk hi] at hle
    rw [hstep _ i (k + smk mk (xs.take i)) hi (hlen i (by omega)) ?_ (by omega), set_mid hi hl, takeS hi, mkd_snoc, smk_snoc, Nat.add_assoc]
    have h' : i < (mkd mk m (xs.take i) k ++ xs.drop i).length := by rw [hlen i (by omega)]; exact hi
    rw [nth_nat h', nth_nat hi, List.getElem_append_right (by omega)]
    simp [hl]) (by
    have := hend (mkd mk m (xs.take xs.length) k ++ xs.drop xs.length) (k + smk mk (xs.take xs.length)) (hlen _ (Nat.le_refl _))
    exact this) (up63 hN)
  simpa [mkd, smk] using this
/-- finding them there -/
theorem heldL {f : Int × Int → Option (Out Int (Int × Int))} (xs : List α) (mk : α → Nat) (m : α → Nat → α) (hN : xs.length ≤ 9223372036854775807) {k : Nat} (hk : k + smk mk xs ≤ 4611686018427387904)
    (hstep : ∀ (i k' : Nat), i < xs.length → nth (mkd mk m xs k) (i : Int) = m (nth xs (i : Int)) k' → k' + mk (nth xs (i : Int)) ≤ 4611686018427387904 → f ((k' : Int), (i : Int)) = some (.nxt (((k' + mk (nth xs (i : Int)) : Nat) : Int), ((i + 1 : Nat) : Int))))
    (hend : ∀ (k' : Nat), f ((k' : Int), (xs.length : Int)) = some (.brk ((k' : Int), (xs.length : Int)))) :
    loopM f FUEL ((k : Int), 0) = some (.brk (((k + smk mk xs : Nat) : Int), (xs.length : Int))) := by
  have := loopM_at (f := f) (fun i => (((k + smk mk (xs.take i) : Nat) : Int), (i : Int))) xs.length (fun i hi => by
    have hle := smk_le mk xs (i + 1)
    rw [smk_take mk hi] at hle
    rw [hstep i (k + smk mk (xs.take i)) hi (mkd_at mk m xs k hi) (by omega), smk_take mk hi, Nat.add_assoc]) (hend _) (up63 hN)
  simpa [smk] using this
end
/-- marks of a type: how many, what is left, what is found -/
def MkOk {α β : Type} [Data α] (mark : α → Int → Option (Int × β)) (held : α → β → Int → Option Int) (B : Nat) : Prop :=
  ∀ x, Data.sm x → ∃ c : Nat, c ≤ B ∧ ∀ k : Nat, k + c ≤ 4611686018427387904 → ∃ y, mark x (k : Int) = some (((k + c : Nat) : Int), y) ∧ held x y (k : Int) = some ((k + c : Nat) : Int)
end Go.Proofs.Ytofopdbnkafljaa.D
/- Marks in automata. -/
set_option linter.unusedVariables false
set_option linter.unusedSimpArgs false
set_option linter.unnecessarySimpa false
namespace Go.Proofs.Ytofopdbnkafljaa.D
open Go.RowKit

theorem mark_BoolS (xs : List Bool) (hN : xs.length ≤ 9223372036854775807) {k : Nat} (hk : k + smk (fun _ => 1) xs ≤ 4611686018427387904) : m_w_markBoolS xs (k : Int) = some (((k + smk (fun _ => 1) xs : Nat) : Int), mkd (fun _ => 1) (fun _ k => (Int.tmod (k : Int) 3) == 0) xs k) ∧ m_w_heldBoolS (mkd (fun _ => 1) (fun _ k => (Int.tmod (k : Int) 3) == 0) xs k) (k : Int) = some ((k + smk (fun _ => 1) xs : Nat) : Int) := by
  constructor
  · unfold m_w_markBoolS
    rw [bindL_brk (markL (f := m_w_markBoolS_l0) xs (fun _ => 1) (fun _ k => (Int.tmod (k : Int) 3) == 0) hN hk (fun ys i k hi hl _ hk => by
      unfold m_w_markBoolS_l0
      simp only
      rw [if_pos (by simp; omega), getI_nth (by omega) (by omega)]; simp only [Option.bind_some, Int.toNat_natCast, wrap_succ (show i < 9223372036854775807 by omega), wrap_succ (show k < 9223372036854775807 by omega)]) (fun ys k hl => by
      unfold m_w_markBoolS_l0
      simp only
      rw [if_neg (by simp; omega)]))]
  · unfold m_w_heldBoolS
    rw [bindL_brk (heldL (f := m_w_heldBoolS_l0 _) xs (fun _ => 1) (fun _ k => (Int.tmod (k : Int) 3) == 0) hN hk (fun i k' hi he hk => by
      unfold m_w_heldBoolS_l0
      simp only
      rw [if_pos (by simp [mkd_length]; omega), getI_nth (by omega) (by rw [mkd_length]; omega), he]; simp only [Option.bind_some, bne_self_eq_false, Bool.false_eq_true, if_false, wrap_succ (show i < 9223372036854775807 by omega), wrap_succ (show k' < 9223372036854775807 by omega)]) (fun k' => by
      unfold m_w_heldBoolS_l0
      simp only
      rw [if_neg (by simp [mkd_length])]))]
def mInts (xs : List Int) (k : Nat) : List Int := mkd (fun _ => 1) (fun _ k => (k : Int)) xs k
theorem mark_IntS (xs : List Int) (hN : xs.length ≤ 9223372036854775807) {k : Nat} (hk : k + smk (fun _ => 1) xs ≤ 4611686018427387904) : m_w_markIntS xs (k : Int) = some (((k + smk (fun _ => 1) xs : Nat) : Int), mInts xs k) ∧ m_w_heldIntS (mInts xs k) (k : Int) = some ((k + smk (fun _ => 1) xs : Nat) : Int) := by
  unfold mInts
  constructor
  · unfold m_w_markIntS
    rw [bindL_brk (markL (f := m_w_markIntS_l0) xs (fun _ => 1) (fun _ k => (k : Int)) hN hk (fun ys i k hi hl _ hk => by
      unfold m_w_markIntS_l0
      simp only
      rw [if_pos (by simp; omega), getI_nth (by omega) (by omega)]; simp only [Option.bind_some, Int.toNat_natCast, wrap_succ (show i < 9223372036854775807 by omega), wrap_succ (show k < 9223372036854775807 by omega)]) (fun ys k hl => by
      unfold m_w_markIntS_l0
      simp only
      rw [if_neg (by simp; omega)]))]
  · unfold m_w_heldIntS
    rw [bindL_brk (heldL (f := m_w_heldIntS_l0 _) xs (fun _ => 1) (fun _ k => (k : Int)) hN hk (fun i k' hi he hk => by
      unfold m_w_heldIntS_l0
      simp only
      rw [if_pos (by simp [mkd_length]; omega), getI_nth (by omega) (by rw [mkd_length]; omega), he]; simp only [Option.bind_some, bne_self_eq_false, Bool.false_eq_true, if_false, wrap_succ (show i < 9223372036854775807 by omega), wrap_succ (show k' < 9223372036854775807 by omega)]) (fun k' => by
      unfold m_w_heldIntS_l0
      simp only
      rw [if_neg (by simp [mkd_length])]))]
def nInts (xs : List Int) : Nat := smk (fun _ => 1) xs
theorem mark_IntSS (xs : List (List Int)) (hN : xs.length ≤ 9223372036854775807) (hx : ∀ x ∈ xs, x.length ≤ 9223372036854775807) {k : Nat} (hk : k + smk nInts xs ≤ 4611686018427387904) : m_w_markIntSS xs (k : Int) = some (((k + smk nInts xs : Nat) : Int), mkd nInts mInts xs k) ∧ m_w_heldIntSS (mkd nInts mInts xs k) (k : Int) = some ((k + smk nInts xs : Nat) : Int) := by
  constructor
  · unfold m_w_markIntSS
    rw [bindL_brk (markL (f := m_w_markIntSS_l0) xs nInts mInts hN hk (fun ys i k hi hl he hk => by
      unfold m_w_markIntSS_l0
      simp only
      rw [if_pos (by simp; omega), getI_nth (by omega) (by omega), he]; simp only [Option.bind_some]
      rw [(mark_IntS _ (hx _ (nth_mem (by omega) (by omega))) hk).1]; simp only [Option.bind_some, Int.toNat_natCast, wrap_succ (show i < 9223372036854775807 by omega)]
      rfl) (fun ys k hl => by
      unfold m_w_markIntSS_l0
      simp only
      rw [if_neg (by simp; omega)]))]
  · unfold m_w_heldIntSS
    rw [bindL_brk (heldL (f := m_w_heldIntSS_l0 _) xs nInts mInts hN hk (fun i k' hi he hk => by
      unfold m_w_heldIntSS_l0
      simp only
      rw [if_pos (by simp [mkd_length]; omega), getI_nth (by omega) (by rw [mkd_length]; omega), he]; simp only [Option.bind_some]
      rw [(mark_IntS _ (hx _ (nth_mem (by omega) (by omega))) hk).2]; simp only [Option.bind_some]
      rw [if_neg (by simp; omega), wrap_succ (show i < 9223372036854775807 by omega)]
      rfl) (fun k' => by
      unfold m_w_heldIntSS_l0
      simp only
      rw [if_neg (by simp [mkd_length])]))]
theorem mk_Automaton : MkOk m_w_markAutomaton (fun x y k => m_w_heldAutomaton (x.1, y.2.1, y.2.2) k) 1099512676352 := by
  rintro ⟨s, bs, ns⟩ ⟨-, ⟨ha, -⟩, hn, hr⟩
  have ha : bs.length ≤ 1048576 := ha
  have hn : ns.length ≤ 1048576 := hn
  have b1 := smk_bound (fun _ : Bool => 1) (B := 1) bs (by simp)
  have b2 := smk_bound nInts (B := 1048576) ns fun x hx => by
    have h1 := smk_bound (fun _ : Int => 1) (B := 1) x (by simp)
    have h2 : x.length ≤ 1048576 := (hr x hx).1
    unfold nInts; omega
  have b3 : ns.length * 1048576 ≤ 1048576 * 1048576 := Nat.mul_le_mul_right _ hn
  refine ⟨smk (fun _ => 1) bs + smk nInts ns, by omega, fun k hk => ?_⟩
  obtain ⟨e1, e2⟩ := mark_BoolS bs (by omega) (k := k) (by omega)
  obtain ⟨e3, e4⟩ := mark_IntSS ns (by omega) (fun x hx => by have : x.length ≤ 1048576 := (hr x hx).1; omega) (k := k + smk (fun _ => 1) bs) (by omega)
  refine ⟨(s, mkd (fun _ => 1) (fun _ k => (Int.tmod (k : Int) 3) == 0) bs k, mkd nInts mInts ns (k + smk (fun _ => 1) bs)), ?_, ?_⟩
  · unfold m_w_markAutomaton
    simp only
    rw [e1]; simp only [Option.bind_some]
    rw [e3]; simp only [Option.bind_some, Nat.add_assoc]
  · unfold m_w_heldAutomaton
    simp only
    rw [e2]; simp only [Option.bind_some]
    rw [if_neg (by simp; omega), e4]; simp only [Option.bind_some]
    rw [if_neg (by simp; omega), Nat.add_assoc]
end Go.Proofs.Ytofopdbnkafljaa.D
/- The plain law of CompileExpr: the reference and the program find the same automaton. -/
set_option linter.unusedVariables false
set_option linter.unusedSimpArgs false
set_option linter.unnecessarySimpa false
set_option linter.unusedSectionVars false
namespace Go.Proofs.Ytofopdbnkafljaa.D
open Go.RowKit

theorem zero_sm' : Data.sm ((0, [], []) : AutT) := ⟨trivial, ⟨by decide, fun _ h => by cases h⟩, by decide, fun _ h => by cases h⟩
theorem goM_end {κ : Type} [DecidableEq κ] {nx : κ → List (Option κ)} {first : κ} {acc : κ → Bool} {most : Nat} : ∀ (f i : Nat), (∀ j, j < i → j < (bfS nx first j).length) → (bfS nx first i).length ≤ most → goM nx first acc most f i = ((0, [], []), false) ∨ ∃ N, bfE nx first N ∧ N ≤ most ∧ goM nx first acc most f i = ((0, (bfS nx first N).map acc, bfR nx first N), true)
  | 0, i, _, _ => .inl rfl
  | f + 1, i, h, hl => by
    have hle := seen_le h
    rw [goM]
    by_cases c : i < (bfS nx first i).length
    · rw [if_pos c]
      by_cases d : (bfS nx first (i + 1)).length > most
      · rw [if_pos d]; exact .inl rfl
      · rw [if_neg d]
        exact goM_end f (i + 1) (fun j hj => by
          by_cases e : j = i
          · subst e; exact c
          · exact h j (by omega)) (by omega)
    · rw [if_neg c]
      exact .inr ⟨i, ⟨by omega, h⟩, by omega, by rw [List.take_of_length_le (by omega)]⟩
theorem compile_both {e : List Tok} (he : e.length ≤ 1048576) : ∃ r : AutT × Bool, m_s_CompileExpr e = some r ∧ m_i_CompileExpr e = some r ∧ Data.sm r.1 := by
  obtain ⟨⟨p, b⟩, e1, e2, h1, h2⟩ := buildPositions_both he
  have h1 : p.2.2.2.1.length = p.1.length := h1
  have h2 : p.1.length ≤ 100000 := h2
  unfold m_s_CompileExpr m_i_CompileExpr
  rw [e1, e2]; simp only [Option.bind_some, peta]
  cases b with
  | false => exact ⟨((0, [], []), false), rfl, rfl, zero_sm'⟩
  | true =>
    have d1 := s_det (p := p) (most := 200) h1 (by omega) (by omega) (by omega)
    have d2 := i_det (p := p) (most := 200) h1 (by omega) (by omega) (by omega)
    have d1 : m_s_l11Subsets p 200 = _ := d1
    have d2 : m_i_determinize p 200 = _ := d2
    rw [d1, d2]; simp only [if_true, Option.bind_some]
    rcases goM_end (nx := nxS p) (first := 1) (acc := accP1 p) (most := 200) (200 + 2) 0 (fun j hj => by omega) (by simp [bfS]) with e | ⟨N, hN, hNm, e⟩
    · rw [e]
      exact ⟨((0, [], []), false), rfl, rfl, zero_sm'⟩
    · rw [e]; simp only [if_true]
      have V := num_VA' (acc := accP1 p) (nxS_len p) hN
      obtain ⟨r, es, ei, hr⟩ := minim_eq V (by omega)
      unfold m_i_small
      rw [es]; simp only [Option.bind_some, peta]
      rw [ei]; simp only [Option.bind_some, peta]
      by_cases c : (r.2.1.length : Int) > 12
      · have c' : decide ((r.2.1.length : Int) > 12) = true := decide_eq_true c
        simp only [c', if_true, Option.bind_some]
        exact ⟨((0, [], []), false), rfl, rfl, zero_sm'⟩
      · have c' : decide ((r.2.1.length : Int) > 12) = false := decide_eq_false c
        simp only [c', Bool.false_eq_true, if_false, Option.bind_some]
        exact ⟨(r, true), rfl, rfl, hr⟩
/-! ### Marks in expressions -/
theorem getI_setX {α : Type} {xs : List α} {i : Nat} {x : α} (h : i < xs.length) : getI (xs.set i x) (i : Int) = some x := by
  unfold getI
  rw [if_pos (by omega)]
  simp [h]
theorem mark_Expr (xs : List (Int × Int × Int × Int)) (hN : xs.length ≤ 1048576) {k : Nat} (hk : k ≤ 1000000) : ∃ ys, m_w_markExpr xs (k : Int) = some (((k + smk (fun _ => 4) xs : Nat) : Int), ys) := by
  have hb := smk_bound (fun _ : Int × Int × Int × Int => 4) (B := 4) xs (by simp)
  unfold m_w_markExpr m_w_markTokenS
  rw [bindL_brk (markL (f := m_w_markTokenS_l0) xs (fun _ => 4) (fun _ k => ((k : Int), ((k + 1 : Nat) : Int), ((k + 1 + 1 : Nat) : Int), ((k + 1 + 1 + 1 : Nat) : Int))) (by omega) (by omega) (fun ys i k hi hl _ hk => by
    unfold m_w_markTokenS_l0
    have hi' : i < ys.length := by omega
    simp only
    rw [if_pos (by simp; omega), getI_nth (by omega) (by omega)]
    simp only [Option.bind_some, Int.toNat_natCast, getI_setX hi', List.set_set, wrap_succ (show i < 9223372036854775807 by omega), wrap_succ (show k < 9223372036854775807 by omega), wrap_succ (show k + 1 < 9223372036854775807 by omega), wrap_succ (show k + 1 + 1 < 9223372036854775807 by omega), wrap_succ (show k + 1 + 1 + 1 < 9223372036854775807 by omega)]) (fun ys k hl => by
    unfold m_w_markTokenS_l0
    simp only
    rw [if_neg (by simp; omega)]))]
  exact ⟨_, rfl⟩
theorem compile_any {e : List Tok} (he : e.length ≤ 1048576) : ∃ r : AutT × Bool, m_s_CompileExpr e = some r ∧ m_i_CompileExpr e = some r ∧ Data.sm r.1 := compile_both he
theorem lawCompileExpr (x : List Tok) (hx : Data.lim x) : m_w_FnExactCompileExpr x = some true := by
  unfold m_w_FnExactCompileExpr
  simp only [peta]
  obtain ⟨r1, e1, k1⟩ := z_szExpr x 1048576 hx (by decide) (by decide)
  rw [e1]; simp only [Option.bind_some]
  rcases k1 with k1 | ⟨k1, j1, s1⟩
  · rw [if_pos (decide_eq_true k1)]
  rw [if_neg (by simpa using k1)]
  have hlen : x.length ≤ 1000000 ∨ 1000000 < x.length := by omega
  have hx6 : x.length ≤ 1048576 := s1.1
  obtain ⟨r, es, ei, sr⟩ := compile_any (e := x) hx6
  obtain ⟨y1, em1⟩ := mark_Expr x hx6 (k := 1) (by omega)
  obtain ⟨c2, hc2, hm2⟩ := mk_Automaton r.1 sr
  obtain ⟨y2, em2, eh2⟩ := hm2 1 (by omega)
  have em1 : m_w_markExpr x 1 = _ := em1
  have em2 : m_w_markAutomaton r.1 1 = _ := em2
  have eh2 : m_w_heldAutomaton (r.1.1, y2.2.1, y2.2.2) 1 = _ := eh2
  simp only [t_toExpr x s1, es, ei, q_eqAutomaton r.1 r.1 sr sr, q_eqExpr x x s1 s1, Option.bind_some, peta, em1, em2, eh2, decide_true, if_true]
  have n1 : ¬ ((1 + smk (fun _ => 4) x : Nat) : Int) < 0 := by omega
  have n2 : ¬ ((1 + c2 : Nat) : Int) < 0 := by omega
  simp only [decide_eq_true_eq, n1, n2, if_false, bne_self_eq_false, Bool.false_eq_true]
end Go.Proofs.Ytofopdbnkafljaa.D
/- From 'the call returns true and changes nothing that was there' to the row's own post, whatever the arguments' types. -/
set_option linter.unusedVariables false
set_option linter.unusedSimpArgs false
namespace Go.Proofs.Ytofopdbnkafljaa
open Go.ChangeShapes Go.WideShapes Go.ChangeAt Go.RowKit
theorem own : ownKnob Try.prog.godebug = none := by kernel_rfl
theorem laidOut : laidOutB Try.prog = true := by kernel_rfl
theorem below_trodAll {H : Type} {enc : TypeId × Value → H} {P : Program} (hl : laidOutB P = true) {W W' : World} (hb : Below W.heap.size W W') :
    ∀ {ts : List TypeId} {vs : List Value} {ds : List (DataW H)} {ps : List MemPlace}, (∀ t ∈ ts, P.readableRec t = true ∧ t < P.types.size) →
      DataW.TrodAll enc P W 0 (fun _ => true) true ts vs ds ps → (∀ x ∈ ps, x.block < W.heap.size) → DataW.TrodAll enc P W' 0 (fun b => decide (b < W.heap.size)) true ts vs ds ps
  | [], [], [], ps, _, h, _ => h
  | t :: ts, v :: vs, d :: ds, ps, hr, ⟨p, q, h1, h2, h3⟩, hlt => by
    subst h3
    exact ⟨p, q, Below.trod hl (hr t (by simp)).1 (hr t (by simp)).2 h1 hb fun x hx => hlt x (by simp [hx]), below_trodAll hl hb (fun t ht => hr t (by simp [ht])) h2 fun x hx => hlt x (by simp [hx]), rfl⟩
  | [], _ :: _, _, _, _, h, _ => h.elim
  | [], [], _ :: _, _, _, h, _ => h.elim
  | _ :: _, [], _, _, _, h, _ => h.elim
  | _ :: _, _ :: _, [], _, _, h, _ => h.elim
theorem law_post {H : Type} {enc : TypeId × Value → H} {f : Func} {s : ChangeSpec} {W W' : World} {args : Array Value} {ds : List (DataW H)} {before : List MemPlace} (tb : TypeId)
    (hb : Try.prog.underlying tb = some .bool) (hr : f.resultTypes = #[tb]) (hp : (f.params.toList.all fun t => Try.prog.readableRec t && decide (t < Try.prog.types.size)) = true) (hv : s.vars = [])
    (hW : DataW.Whole enc Try.prog f.params.toList s.vars false W args.toList ds [] before) (hres : (s.fn H (ds ++ [])).results = [.lit (.bool true)]) (hargs : (s.fn H (ds ++ [])).args = ds) (hvars : (s.fn H (ds ++ [])).vars = [])
    (hbel : Below W.heap.size W W') : s.post enc Try.prog f false true false false W args (.bool true) W' := by
  obtain ⟨p, q, h1, h2, h3, h4, h5⟩ := hW
  have hW' : DataW.Whole enc Try.prog f.params.toList s.vars false W args.toList ds [] before := ⟨p, q, h1, h2, h3, h4, h5⟩
  have hq : q = [] := by rw [hv] at h2; exact h2
  subst hq
  simp only [List.append_nil] at h3
  subst h3
  refine ⟨ds, [], before, [], before, [], hW', ?_, ?_, ?_, hbel.frame _, fun h => by cases h⟩
  · rw [hres, hr]
    exact trodAll_mk1 (shut_bool hb true)
  · rw [hargs]
    exact below_trodAll laidOut hbel (fun t ht => by have := List.all_eq_true.1 hp t ht; simpa using this) h1 fun x hx => by simpa using hW'.lt x hx
  · rw [hvars, hv]; rfl
end Go.Proofs.Ytofopdbnkafljaa
/- FnExactCompileExpr: for every input the law returns true and changes nothing that was there. (Printed by genrow.py over the walk and the plain law.) -/
set_option linter.unusedVariables false
set_option linter.unusedSimpArgs false
set_option linter.unnecessarySimpa false
set_option maxRecDepth 100000
namespace Go.Proofs.Ytofopdbnkafljaa
open Go.ChangeShapes Go.WideShapes Go.ChangeAt Go.RowKit
namespace D
theorem op3 : Opens Try.prog 3 rInt := opens_int Try.underlying3
theorem op72 : Opens Try.prog 72 (rProd rInt (rProd rInt (rProd rInt rInt))) := by
  refine opens_struct Try.underlying72 (by kernel_rfl) ?_
  refine opens_next (R := rInt) (S := rProd (rInt) (rProd (rInt) (rInt))) rfl (by kernel_rfl) op3 ?_
  refine opens_next (R := rInt) (S := rProd (rInt) (rInt)) rfl (by kernel_rfl) op3 ?_
  refine opens_next (R := rInt) (S := rInt) rfl (by kernel_rfl) op3 ?_
  exact opens_last rfl (by kernel_rfl) op3
theorem op22 : Opens Try.prog 22 (rSlice 72 (rProd rInt (rProd rInt (rProd rInt rInt)))) := opens_slice Try.underlying22 (by kernel_rfl) (by decide) op72
theorem op24 : Opens Try.prog 24 (rSlice 72 (rProd rInt (rProd rInt (rProd rInt rInt)))) := by
  refine opens_struct Try.underlying24 (by kernel_rfl) ?_
  exact opens_last rfl (by kernel_rfl) op22
theorem rdL24 {W : World} {base : Nat} {z : Value} {H : Type} {enc : TypeId × Value → H} {d : DataW H} {p : List MemPlace} (hv : Value.okWide Try.prog W .any base 24 z) (h : DataW.Trod enc Try.prog W 0 (fun _ => true) true 24 z d p) :
    ∃ (x : (List (Int × Int × Int × Int))) (v0 : Value), z = .agg #[v0] ∧ Data.lim x ∧ (rSlice 72 (rProd rInt (rProd rInt (rProd rInt rInt)))).rd (hp W) [v0] x := by
  obtain ⟨fuel, hf⟩ := h
  obtain ⟨⟨cs⟩, rfl, -⟩ := okWide_struct Try.underlying24 hv
  obtain ⟨x, hx, hl⟩ := op24.out enc W _ _ _ hf
  have hx : (rSlice 72 (rProd rInt (rProd rInt (rProd rInt rInt)))).rd (hp W) cs x := hx
  have r0 := hx
  obtain ⟨v0, rfl⟩ := one_cell r0 rfl
  exact ⟨x, v0, rfl, hl, r0⟩
end D
open D (Data)
theorem rowLCompileExpr (W : World) (args : Array Value) (H : Type) (enc : TypeId × Value → H) (base : Nat) (ds gs : List (DataW H)) (before : List MemPlace)
    (hval : ∀ (j : Nat) t v, Try.f3.params[j]? = some t → args[j]? = some v → Value.okWide Try.prog W .any base t v)
    (hW : DataW.Whole enc Try.prog Try.f3.params.toList Rows.fnExactCompileExprSpec.vars false W args.toList ds gs before) :
    Calls Try.prog 3 args W fun e W' => ∃ v, e = .returned v ∧ Rows.fnExactCompileExprSpec.post enc Try.prog Try.f3 false true false false W args v W' := by
  have hW' := hW
  obtain ⟨p, q, hA, hV, rfl, hfz, hnd⟩ := hW
  rw [Try.params3] at hA hval
  obtain ⟨z0, vs0, d0, ds0, p0, q0, hargs, rfl, rfl, h0, r0⟩ := trodAll_cons hA
  obtain ⟨rfl, rfl, rfl⟩ := trodAll_nil r0
  obtain rfl : args = #[z0] := by cases args; simp_all
  obtain ⟨rfl, rfl⟩ := trodVars_none hV
  obtain ⟨x0, v0_0, rfl, l0, r0_0⟩ := D.rdL24 (hval 0 _ _ rfl rfl) h0
  have hc := D.c_w_FnExactCompileExpr x0 true (D.lawCompileExpr x0 l0) (I := D.hp W) (w0 := W) v0_0 r0_0 W [] (D.St.init W)
  refine hc.mono fun e W' ⟨v, he, hv, hs⟩ => ?_
  subst he; subst hv
  exact ⟨_, rfl, law_post (f := Try.f3) (s := Rows.fnExactCompileExprSpec) 4 Try.underlying4 rfl (by kernel_rfl) rfl hW' rfl rfl rfl (D.St.below hs)⟩
theorem liftedLCompileExpr (os : Os) (started : os.Started) (H : Type) (enc : TypeId × Value → H) :
    ReturnsInHanded {} Try.checked os 3 .any (Rows.fnExactCompileExprSpec.pre6 enc Try.prog Try.f3 Rows.fnExactCompileExprRow.domain false) (Rows.fnExactCompileExprSpec.post enc Try.prog Try.f3 false true false false) := by
  refine returnsInHanded_of_change_sized (C := Try.checked) own started (by kernel_rfl) Try.func3
    (ChangeSpec.witness6 (enc := enc) (C := Try.checked) false ⟨#[], #[.agg #[.slice none 0 0]], []⟩ 8 (by kernel_rfl) (by kernel_rfl) (by kernel_rfl) (by kernel_rfl)) ?_
  intro W base args ds gs before hval hW hcnd hsz _
  exact rowLCompileExpr W args H enc base ds gs before hval hW
theorem holdsLCompileExpr : Rows.FnExactCompileExprSaid :=
  OpenClaim.holds_of_wide 3 Try.f3 rfl rfl rfl rfl rfl rfl rfl ⟨rfl, rfl, rfl, rfl, rfl⟩ rfl rfl rfl rfl rfl (by kernel_rfl) Try.func3 (by kernel_rfl)
    (of_decide_eq_true (by kernel_rfl)) (by unfold Func.isWrapper; first | (rw [if_pos (by decide +kernel)]; kernel_rfl) | (rw [if_neg (by decide +kernel)]; exact ⟨rfl, rfl⟩))
    (fun os started H enc _ => liftedLCompileExpr os started H enc)
end Go.Proofs.Ytofopdbnkafljaa
