/- FnExactIsValidRegistry: for every input the law returns true and changes nothing that was there. Part 8 of 8. -/
import Derived.Test.YtimjccbdngajoaaGreatGC6
/- What is numbered is an automaton. -/
set_option linter.unusedVariables false
set_option linter.unusedSimpArgs false
set_option linter.unnecessarySimpa false
set_option linter.unusedSectionVars false
namespace Go.Proofs.YtimjccbdngajoaaGreat.D
open Go.RowKit
section
variable {κ : Type} [DecidableEq κ] [Inhabited κ] {nx : κ → List (Option κ)} {first : κ} {G : κ → Prop} {B N : Nat} {acc : κ → Bool}
theorem nbR_range : ∀ (l : List κ) (os : List (Option κ)), ∀ t ∈ nbR l os, -1 ≤ t ∧ t < ((nbS l os).length : Int)
  | l, [] => fun t ht => by cases ht
  | l, o :: os => fun t ht => by
    have hp := nbS_prefix (nbL l o) os
    have hl := hp.length_le
    rcases List.mem_cons.1 ht with rfl | ht
    · show -1 ≤ nbI l o ∧ nbI l o < ((nbS (nbL l o) os).length : Int)
      cases o with
      | none => exact ⟨by simp [nbI], by simp only [nbI]; omega⟩
      | some y =>
        by_cases c : y ∈ l
        · obtain ⟨q, hq, e, -⟩ := nbI_mem c
          rw [nbL_old c] at hl
          rw [e]; exact ⟨by omega, by rw [nbL_old c]; omega⟩
        · rw [nbL_new c] at hl
          rw [nbI_new c]; rw [List.length_append] at hl
          exact ⟨by omega, by rw [nbL_new c]; simp at hl; omega⟩
    · exact nbR_range (nbL l o) os t ht
theorem num_VA (H : NumOk nx first G B) (hN : bfE nx first N) : VA ((0, (bfS nx first N).map acc, bfR nx first N) : AutT) N := by
  have h0 : 0 < N := by
    have := bfS_first (nx := nx) (first := first) N
    have := (List.getElem?_eq_some_iff.1 this).1
    have := hN.1; omega
  have key : ∀ i, i ≤ N → ∀ r ∈ bfR nx first i, r.length = 9 ∧ ∀ t ∈ r, -1 ≤ t ∧ t < (N : Int) := by
    intro i
    induction i with
    | zero => intro _ r hr; cases hr
    | succ i ih =>
      intro hi r hr
      have hlt := hN.2 i (by omega)
      rw [bfR_succ hlt] at hr
      rcases List.mem_append.1 hr with hr | hr
      · exact ih (by omega) r hr
      · obtain rfl := List.mem_singleton.1 hr
        refine ⟨by rw [nbR_length, H.len _ (bfS_good H.g0 H.gn i _ (List.getElem_mem hlt))], fun t ht => ?_⟩
        have := nbR_range _ _ t ht
        rw [← bfS_succ hlt] at this
        have hl := (bfS_prefix (nx := nx) (first := first) hi).length_le
        have := hN.1
        omega
  exact ⟨by show ((bfS nx first N).map acc).length = N; rw [List.length_map]; exact hN.1.symm, ⟨Int.le_refl _, by show (0 : Int) < N; omega⟩, bfR_length hN.2, fun r hr => (key N (Nat.le_refl _) r hr).1, fun r hr => (key N (Nat.le_refl _) r hr).2⟩
theorem num_VA' (hlen : ∀ x, (nx x).length = 9) (hN : bfE nx first N) : VA ((0, (bfS nx first N).map acc, bfR nx first N) : AutT) N := by
  have h0 : 0 < N := by
    have := bfS_first (nx := nx) (first := first) N
    have := (List.getElem?_eq_some_iff.1 this).1
    have := hN.1; omega
  have key : ∀ i, i ≤ N → ∀ r ∈ bfR nx first i, r.length = 9 ∧ ∀ t ∈ r, -1 ≤ t ∧ t < (N : Int) := by
    intro i
    induction i with
    | zero => intro _ r hr; cases hr
    | succ i ih =>
      intro hi r hr
      have hlt := hN.2 i (by omega)
      rw [bfR_succ hlt] at hr
      rcases List.mem_append.1 hr with hr | hr
      · exact ih (by omega) r hr
      · obtain rfl := List.mem_singleton.1 hr
        refine ⟨by rw [nbR_length, hlen _], fun t ht => ?_⟩
        have := nbR_range _ _ t ht
        rw [← bfS_succ hlt] at this
        have hl := (bfS_prefix (nx := nx) (first := first) hi).length_le
        have := hN.1
        omega
  exact ⟨by show ((bfS nx first N).map acc).length = N; rw [List.length_map]; exact hN.1.symm, ⟨Int.le_refl _, by show (0 : Int) < N; omega⟩, bfR_length hN.2, fun r hr => (key N (Nat.le_refl _) r hr).1, fun r hr => (key N (Nat.le_refl _) r hr).2⟩
end
end Go.Proofs.YtimjccbdngajoaaGreat.D
/- The reference and the program compile an expression to the same automaton. -/
set_option linter.unusedVariables false
set_option linter.unusedSimpArgs false
set_option linter.unnecessarySimpa false
set_option linter.unusedSectionVars false
namespace Go.Proofs.YtimjccbdngajoaaGreat.D
open Go.RowKit

theorem zero_sm' : Data.sm ((0, [], []) : AutT) := ⟨trivial, ⟨by decide, fun _ h => by cases h⟩, by decide, fun _ h => by cases h⟩
theorem goM_end {κ : Type} [DecidableEq κ] {nx : κ → List (Option κ)} {first : κ} {acc : κ → Bool} {most : Nat} : ∀ (f i : Nat), (∀ j, j < i → j < (bfS nx first j).length) → (bfS nx first i).length ≤ most → goM nx first acc most f i = ((0, [], []), false) ∨ ∃ N, bfE nx first N ∧ N ≤ most ∧ goM nx first acc most f i = ((0, (bfS nx first N).map acc, bfR nx first N), true)
  | 0, i, _, _ => .inl rfl
  | f + 1, i, h, hl => by
    have hle := seen_le h
    rw [goM]
    by_cases c : i < (bfS nx first i).length
    · rw [if_pos c]
      by_cases d : (bfS nx first (i + 1)).length > most
      · rw [if_pos d]; exact .inl rfl
      · rw [if_neg d]
        exact goM_end f (i + 1) (fun j hj => by
          by_cases e : j = i
          · subst e; exact c
          · exact h j (by omega)) (by omega)
    · rw [if_neg c]
      exact .inr ⟨i, ⟨by omega, h⟩, by omega, by rw [List.take_of_length_le (by omega)]⟩
theorem compile_both {e : List Tok} (he : e.length ≤ 1048576) : ∃ r : AutT × Bool, m_s_CompileExpr e = some r ∧ m_i_CompileExpr e = some r ∧ Data.sm r.1 := by
  obtain ⟨⟨p, b⟩, e1, e2, h1, h2⟩ := buildPositions_both he
  have h1 : p.2.2.2.1.length = p.1.length := h1
  have h2 : p.1.length ≤ 100000 := h2
  unfold m_s_CompileExpr m_i_CompileExpr
  rw [e1, e2]; simp only [Option.bind_some, peta]
  cases b with
  | false => exact ⟨((0, [], []), false), rfl, rfl, zero_sm'⟩
  | true =>
    have d1 := s_det (p := p) (most := 200) h1 (by omega) (by omega) (by omega)
    have d2 := i_det (p := p) (most := 200) h1 (by omega) (by omega) (by omega)
    have d1 : m_s_l11Subsets p 200 = _ := d1
    have d2 : m_i_determinize p 200 = _ := d2
    rw [d1, d2]; simp only [if_true, Option.bind_some]
    rcases goM_end (nx := nxS p) (first := 1) (acc := accP1 p) (most := 200) (200 + 2) 0 (fun j hj => by omega) (by simp [bfS]) with e | ⟨N, hN, hNm, e⟩
    · rw [e]
      exact ⟨((0, [], []), false), rfl, rfl, zero_sm'⟩
    · rw [e]; simp only [if_true]
      have V := num_VA' (acc := accP1 p) (nxS_len p) hN
      obtain ⟨r, es, ei, hr⟩ := minim_eq V (by omega)
      unfold m_i_small
      rw [es]; simp only [Option.bind_some, peta]
      rw [ei]; simp only [Option.bind_some, peta]
      by_cases c : (r.2.1.length : Int) > 12
      · have c' : decide ((r.2.1.length : Int) > 12) = true := decide_eq_true c
        simp only [c', if_true, Option.bind_some]
        exact ⟨((0, [], []), false), rfl, rfl, zero_sm'⟩
      · have c' : decide ((r.2.1.length : Int) > 12) = false := decide_eq_false c
        simp only [c', Bool.false_eq_true, if_false, Option.bind_some]
        exact ⟨(r, true), rfl, rfl, hr⟩
theorem compile_any {e : List Tok} (he : e.length ≤ 1048576) : ∃ r : AutT × Bool, m_s_CompileExpr e = some r ∧ m_i_CompileExpr e = some r ∧ Data.sm r.1 := compile_both he
theorem getI_setX {α : Type} {xs : List α} {i : Nat} {x : α} (h : i < xs.length) : getI (xs.set i x) (i : Int) = some x := by
  unfold getI
  rw [if_pos (by omega)]
  simp [h]
end Go.Proofs.YtimjccbdngajoaaGreat.D
/- Automata, expressions and registries compared; registries built. -/
set_option linter.unusedVariables false
set_option linter.unusedSimpArgs false
set_option linter.unnecessarySimpa false
set_option linter.unusedSectionVars false
set_option synthInstance.maxSize 20000
set_option synthInstance.maxHeartbeats 2000000
namespace Go.Proofs.YtimjccbdngajoaaGreat.D
open Go.RowKit

theorem q_sBools {α : Type} {f : Int → Option (Out Bool Int)} {K : Option Bool} (xs ys : List Bool) (hN : xs.length ≤ 9223372036854775807) (hl : xs.length = ys.length)
    (hf : ∀ i (h : i < xs.length) (h' : i < ys.length), f (i : Int) = some (if xs[i] = ys[i] then .nxt ((i + 1 : Nat) : Int) else .ret false)) (he : f (xs.length : Int) = some (.brk (xs.length : Int))) :
    bindL (loopM f FUEL 0) (fun r => some r) (fun s4 => K) = (if xs = ys then K else some false) := eqB xs ys hN hl hf he
theorem q_sAutomata (x y : AutT) (hx : Data.sm x) : m_s_EqualAutomata x y = some (decide (x = y)) := by
  obtain ⟨-, ⟨ha, -⟩, hn, hr⟩ := hx
  unfold m_s_EqualAutomata
  by_cases c1 : x.1 = y.1
  case neg => rw [if_pos (by simpa using c1)]; simp [Prod.ext_iff, c1]
  rw [if_neg (by simpa using c1)]
  by_cases c2 : x.2.1.length = y.2.1.length
  case neg => rw [if_pos (by simp; omega)]; simp [Prod.ext_iff]; exact fun _ e => absurd (by rw [e]) c2
  rw [if_neg (by simp; omega)]
  by_cases c3 : x.2.2.length = y.2.2.length
  case neg => rw [if_pos (by simp; omega)]; simp [Prod.ext_iff]; exact fun _ _ e => absurd (by rw [e]) c3
  rw [if_neg (by simp; omega)]
  rw [eqB (f := m_s_EqualAutomata_l0 x y) x.2.1 y.2.1 (by omega) c2 (fun i h h' => by
    simp only [m_s_EqualAutomata_l0, lt_nat h, if_true, getI_nat h, getI_nat h', Option.bind_some, wrap_succ (show i < 9223372036854775807 by omega)]
    by_cases c : x.2.1[i] = y.2.1[i] <;> simp [c]) (by simp only [m_s_EqualAutomata_l0, lt_self]; rfl)]
  by_cases c4 : x.2.1 = y.2.1
  case neg => rw [if_neg c4]; simp [Prod.ext_iff, c4]
  rw [if_pos c4]
  rw [eqB (f := m_s_EqualAutomata_l1 x y) x.2.2 y.2.2 (by omega) c3 (fun i h h' => by
    obtain ⟨r, e, hr'⟩ := q_l2Cmp x.2.2[i] y.2.2[i] ((hr _ (List.getElem_mem h)).1)
    simp only [m_s_EqualAutomata_l1, lt_nat h, if_true, getI_nat h, getI_nat h', Option.bind_some, wrap_succ (show i < 9223372036854775807 by omega), e]
    by_cases c : x.2.2[i] = y.2.2[i]
    · rw [if_neg (by simpa using hr'.2 c), if_pos c]
    · rw [if_pos (by simpa using fun e => c (hr'.1 e)), if_neg c]) (by simp only [m_s_EqualAutomata_l1, lt_self]; rfl)]
  by_cases c5 : x.2.2 = y.2.2
  · rw [if_pos c5]; simp [Prod.ext_iff, c1, c4, c5]
  · rw [if_neg c5]; simp [Prod.ext_iff, c5]
theorem q_iBools (xs ys : List Bool) (hN : xs.length ≤ 9223372036854775807) : m_g_slices_Equal_S_bool_bool xs ys = some (decide (xs = ys)) :=
  eqL (f := m_g_slices_Equal_S_bool_bool_l0 xs ys) xs ys hN (fun i h h' => by
    simp only [m_g_slices_Equal_S_bool_bool_l0, lt_nat h, if_true, getI_nat h, getI_nat h', Option.bind_some, wrap_succ (show i < 9223372036854775807 by omega)]
    by_cases c : xs[i] = ys[i] <;> simp [c]) (by simp only [m_g_slices_Equal_S_bool_bool_l0, lt_self]; rfl)
theorem q_iAutomata (x y : AutT) (hx : Data.sm x) : m_i_EqualAutomata x y = some (decide (x = y)) := by
  obtain ⟨-, ⟨ha, -⟩, hn, hr⟩ := hx
  unfold m_i_EqualAutomata
  by_cases c1 : x.1 = y.1
  case neg => rw [if_neg (by simpa using c1)]; simp [Prod.ext_iff, c1]
  rw [if_pos (by simpa using c1), q_iBools _ _ (by omega)]; simp only [Option.bind_some]
  by_cases c2 : x.2.1 = y.2.1
  case neg => rw [if_neg (by simpa using c2)]; simp [Prod.ext_iff, c2]
  rw [if_pos (by simpa using c2)]
  have : m_g_slices_EqualFunc_S_S_int_S_S_int_S_int_S_int x.2.2 y.2.2 (fun a0 a1 => m_i_EqualAutomata_1 a0 a1) = some (decide (x.2.2 = y.2.2)) :=
    eqL (f := m_g_slices_EqualFunc_S_S_int_S_S_int_S_int_S_int_l0 x.2.2 y.2.2 _) x.2.2 y.2.2 (by omega) (fun i h h' => by
      simp only [m_g_slices_EqualFunc_S_S_int_S_S_int_S_int_S_int_l0, lt_nat h, if_true, getI_nat h, getI_nat h', Option.bind_some, wrap_succ (show i < 9223372036854775807 by omega), m_i_EqualAutomata_1]
      rw [q_sliceEq _ _ (by have : x.2.2[i].length ≤ 1048576 := (hr _ (List.getElem_mem h)).1; omega)]; simp only [Option.bind_some]
      by_cases c : x.2.2[i] = y.2.2[i] <;> simp [c]) (by simp only [m_g_slices_EqualFunc_S_S_int_S_S_int_S_int_S_int_l0, lt_self]; rfl)
  rw [this]
  by_cases c3 : x.2.2 = y.2.2 <;> simp [Prod.ext_iff, c1, c2, c3]

abbrev QT := Int × List Tok × Int
abbrev RegT := List AutT × List QT
theorem q_sExprs (x y : List Tok) (hx : x.length ≤ 1048576) : m_s_EqualExprs x y = some (decide (x = y)) := by
  unfold m_s_EqualExprs
  exact eqL (f := m_s_EqualExprs_l0 x y) x y (by omega) (fun i h h' => by
    simp only [m_s_EqualExprs_l0 , lt_nat h, if_true, getI_nat h, getI_nat h', Option.bind_some, peta, wrap_succ (show i < 9223372036854775807 by omega)]
    refine iteOpt ?_; simp only [Bool.and_true, Bool.and_eq_true, beq_iff_eq]; exact peq4) (by simp only [m_s_EqualExprs_l0 , lt_self]; rfl)
theorem q_iTokens (x y : List Tok) (hx : x.length ≤ 1048576) : m_g_slices_Equal_S_Token_Token x y = some (decide (x = y)) := by
  unfold m_g_slices_Equal_S_Token_Token
  exact eqL (f := m_g_slices_Equal_S_Token_Token_l0 x y) x y (by omega) (fun i h h' => by
    simp only [m_g_slices_Equal_S_Token_Token_l0 , lt_nat h, if_true, getI_nat h, getI_nat h', Option.bind_some, peta, wrap_succ (show i < 9223372036854775807 by omega)]
    refine iteOpt ?_; simp only [Bool.and_true, Bool.and_eq_true, beq_iff_eq]; exact peq4) (by simp only [m_g_slices_Equal_S_Token_Token_l0 , lt_self]; rfl)
theorem q_iExprs (x y : List Tok) (hx : x.length ≤ 1048576) : m_i_EqualExprs x y = some (decide (x = y)) := by
  unfold m_i_EqualExprs
  rw [q_iTokens x y hx]; rfl
theorem q_sRegistries (x y : RegT) (hx : Data.sm x) : m_s_EqualRegistries x y = some (decide (x = y)) := by
  obtain ⟨⟨ha, hA⟩, hq, hQ⟩ := hx
  unfold m_s_EqualRegistries
  by_cases h1 : x.1.length = y.1.length
  · by_cases h2 : x.2.length = y.2.length
    · rw [if_neg (by rw [h1]; simp), if_neg (by rw [h2]; simp)]
      rw [eqB (f := m_s_EqualRegistries_l0 x y) x.1 y.1 (by omega) h1 (fun i h h' => by
        simp only [m_s_EqualRegistries_l0, lt_nat h, if_true, getI_nat h, getI_nat h', Option.bind_some, peta, q_sAutomata x.1[i] y.1[i] (hA _ (List.getElem_mem h)), wrap_succ (show i < 9223372036854775807 by omega)]
        exact iteOpt (by simp)) (by simp only [m_s_EqualRegistries_l0, lt_self]; rfl)]
      rw [eqB (f := m_s_EqualRegistries_l1 x y) x.2 y.2 (by omega) h2 (fun i h h' => by
        have e := q_sExprs x.2[i].2.1 y.2[i].2.1 (hQ _ (List.getElem_mem h)).2.1.1
        simp only [m_s_EqualRegistries_l1, lt_nat h, if_true, getI_nat h, getI_nat h', Option.bind_some, e, wrap_succ (show i < 9223372036854775807 by omega)]
        generalize x.2[i] = u; generalize y.2[i] = v
        by_cases e1 : u.1 = v.1 <;> by_cases e2 : u.2.1 = v.2.1 <;> by_cases e3 : u.2.2 = v.2.2 <;> simp [Prod.ext_iff, e1, e2, e3]) (by simp only [m_s_EqualRegistries_l1, lt_self]; rfl)]
      by_cases e1 : x.1 = y.1 <;> by_cases e2 : x.2 = y.2 <;> simp [Prod.ext_iff, e1, e2]
    · have : x.2 ≠ y.2 := fun e => h2 (by rw [e])
      rw [if_neg (by rw [h1]; simp), if_pos (by simp; omega)]; simp [Prod.ext_iff, this]
  · have : x.1 ≠ y.1 := fun e => h1 (by rw [e])
    rw [if_pos (by simp; omega)]; simp [Prod.ext_iff, this]
theorem q_iQueries (x y : QT) (hx : Data.sm x) : m_i_equalQueries x y = some (decide (x = y)) := by
  unfold m_i_equalQueries
  rw [q_iExprs x.2.1 y.2.1 hx.2.1.1]; simp only [Option.bind_some]
  by_cases h1 : x.1 = y.1 <;> by_cases h2 : x.2.1 = y.2.1 <;> by_cases h3 : x.2.2 = y.2.2 <;> simp [Prod.ext_iff, h1, h2, h3]
theorem q_iRegistries (x y : RegT) (hx : Data.sm x) : m_i_EqualRegistries x y = some (decide (x = y)) := by
  obtain ⟨⟨ha, hA⟩, hq, hQ⟩ := hx
  unfold m_i_EqualRegistries
  have e : m_g_slices_EqualFunc_S_Automaton_S_Automaton_Automaton_Automaton x.1 y.1 (fun a0 a1 => m_i_EqualAutomata a0 a1) = some (decide (x.1 = y.1)) :=
    eqL (f := m_g_slices_EqualFunc_S_Automaton_S_Automaton_Automaton_Automaton_l0 x.1 y.1 _) x.1 y.1 (by omega) (fun i h h' => by
      simp only [m_g_slices_EqualFunc_S_Automaton_S_Automaton_Automaton_Automaton_l0, lt_nat h, if_true, getI_nat h, getI_nat h', Option.bind_some, peta, wrap_succ (show i < 9223372036854775807 by omega), q_iAutomata x.1[i] y.1[i] (hA _ (List.getElem_mem h))]
      exact iteOpt (by simp)) (by simp only [m_g_slices_EqualFunc_S_Automaton_S_Automaton_Automaton_Automaton_l0, lt_self]; rfl)
  have e' : m_g_slices_EqualFunc_S_Registered_S_Registered_Registered_Registered x.2 y.2 (fun a0 a1 => m_i_equalQueries a0 a1) = some (decide (x.2 = y.2)) :=
    eqL (f := m_g_slices_EqualFunc_S_Registered_S_Registered_Registered_Registered_l0 x.2 y.2 _) x.2 y.2 (by omega) (fun i h h' => by
      simp only [m_g_slices_EqualFunc_S_Registered_S_Registered_Registered_Registered_l0, lt_nat h, if_true, getI_nat h, getI_nat h', Option.bind_some, peta, wrap_succ (show i < 9223372036854775807 by omega), q_iQueries x.2[i] y.2[i] (hQ _ (List.getElem_mem h))]
      exact iteOpt (by simp)) (by simp only [m_g_slices_EqualFunc_S_Registered_S_Registered_Registered_Registered_l0, lt_self]; rfl)
  rw [e, e']; simp only [Option.bind_some]
  by_cases h1 : x.1 = y.1 <;> by_cases h2 : x.2 = y.2 <;> simp [Prod.ext_iff, h1, h2]

/-! ### Two loops that do the same -/
theorem loopM_same {R S : Type} {f g : S → Option (Out R S)} (Inv : Nat → S → Prop) (h : ∀ i s, Inv i s → g s = f s ∧ ∀ s', f s = some (.nxt s') → Inv (i + 1) s') : ∀ (k i : Nat) (s : S), Inv i s → loopM g k s = loopM f k s
  | 0, _, _, _ => rfl
  | k + 1, i, s, hI => by
    obtain ⟨h1, h2⟩ := h i s hI
    rw [loopM, loopM, h1]
    cases e : f s with
    | none => rfl
    | some o =>
      cases o with
      | nxt s' => exact loopM_same Inv h k (i + 1) s' (h2 s' e)
      | brk s' => rfl
      | ret r => rfl
theorem idx_both {f g : Int → Option (Out Int Int)} (N : Nat) (hN : N ≤ 1048576) (h : ∀ i : Nat, i < N → f (i : Int) = some (.ret (i : Int)) ∨ f (i : Int) = some (.nxt ((i + 1 : Nat) : Int))) (he : f (N : Int) = some (.brk (N : Int))) (hfg : ∀ i : Nat, i ≤ N → g (i : Int) = f (i : Int)) :
    ∃ r : Int, bindL (loopM f FUEL 0) (fun r => some r) (fun _ => some (-1)) = some r ∧ bindL (loopM g FUEL 0) (fun r => some r) (fun _ => some (-1)) = some r ∧ (r = -1 ∨ ∃ i : Nat, i < N ∧ r = (i : Int)) := by
  have hs : loopM g FUEL 0 = loopM f FUEL 0 := loopM_same (fun i s => s = (i : Int) ∧ i ≤ N) (fun i s ⟨e, hi⟩ => by
    subst e
    refine ⟨hfg i hi, fun s' e => ?_⟩
    by_cases c : i < N
    · rcases h i c with e2 | e2
      · rw [e2] at e; cases e
      · rw [e2] at e; cases e; exact ⟨rfl, c⟩
    · obtain rfl : i = N := by omega
      rw [he] at e; cases e) FUEL 0 0 ⟨rfl, Nat.zero_le _⟩
  rw [hs]
  obtain ⟨o, e, ho⟩ := loopM_go (f := f) (fun i s => s = (i : Int)) (fun o => o = .brk (N : Int) ∨ ∃ i : Nat, i < N ∧ o = .ret (i : Int)) N (fun i s hi hs => by
    subst hs
    by_cases h1 : i < N
    · rcases h i h1 with h2 | h2
      · exact .inr ⟨_, h2, (fun s' e => by cases e), .inr ⟨i, h1, rfl⟩⟩
      · exact .inl ⟨h1, _, h2, rfl⟩
    · obtain rfl : i = N := by omega
      exact .inr ⟨_, he, (fun s' e => by cases e), .inl rfl⟩) (s := 0) rfl (fuelUp _ (by omega))
  rw [e]
  rcases ho with rfl | ⟨i, hi, rfl⟩
  · exact ⟨-1, rfl, rfl, .inl rfl⟩
  · exact ⟨i, rfl, rfl, .inr ⟨i, hi, rfl⟩⟩
theorem index_both (l : List AutT) (a : AutT) (hl : l.length ≤ 1048576) (hs : ∀ x ∈ l, Data.sm x) (ha : Data.sm a) : ∃ r : Int, m_s_l31Index l a = some r ∧ m_g_slices_IndexFunc_S_Automaton_Automaton l (fun a0 => m_i_shared_1 a0 a) = some r ∧ (r = -1 ∨ ∃ i : Nat, i < l.length ∧ r = (i : Int)) := by
  unfold m_s_l31Index m_g_slices_IndexFunc_S_Automaton_Automaton
  have hf : ∀ i (h : i < l.length), m_s_l31Index_l0 l a (i : Int) = if l[i] = a then some (.ret (i : Int)) else some (.nxt ((i + 1 : Nat) : Int)) := fun i h => by
    simp only [m_s_l31Index_l0, lt_nat h, if_true, getI_nat h, Option.bind_some, peta, q_sAutomata l[i] a (hs _ (List.getElem_mem h)), wrap_succ (show i < 9223372036854775807 by omega)]
    by_cases c : l[i] = a <;> simp [c]
  refine idx_both l.length hl (fun i h => ?_) (by simp only [m_s_l31Index_l0, lt_self]; rfl) (fun i hi => ?_)
  · rw [hf i h]; by_cases c : l[i] = a <;> simp [c]
  · by_cases h : i < l.length
    · rw [hf i h]
      simp only [m_g_slices_IndexFunc_S_Automaton_Automaton_l0, m_i_shared_1, lt_nat h, if_true, getI_nat h, Option.bind_some, peta, q_iAutomata a l[i] ha, wrap_succ (show i < 9223372036854775807 by omega)]
      by_cases c : l[i] = a
      · simp [c]
      · have : ¬ a = l[i] := fun e => c e.symm
        simp [c, this]
    · obtain rfl : i = l.length := by omega
      simp only [m_s_l31Index_l0, m_g_slices_IndexFunc_S_Automaton_Automaton_l0, lt_self]; rfl
/-! ### The registry of some queries -/
def RegIn (n i : Nat) (s : Int × List AutT × List QT) : Prop := s.1 = (i : Int) ∧ i ≤ n ∧ s.2.2.length = i ∧ s.2.1.length ≤ i ∧ (∀ a ∈ s.2.1, Data.sm a) ∧ ∀ q ∈ s.2.2, Data.sm q ∧ 0 ≤ q.2.2 ∧ q.2.2 < (s.2.1.length : Int)
theorem reg_step {qs : List QT} (hq : Data.sm qs) {i : Nat} {s : Int × List AutT × List QT} (hI : RegIn qs.length i s) : m_i_shared_l0 qs s = m_s_l31Build_l0 qs s ∧
    ((i < qs.length ∧ ∃ s', m_s_l31Build_l0 qs s = some (.nxt s') ∧ RegIn qs.length (i + 1) s') ∨ ∃ o, m_s_l31Build_l0 qs s = some o ∧ (∀ s', o ≠ .nxt s') ∧ (o = .ret (([], []), false) ∨ o = .brk s ∧ i = qs.length)) := by
  obtain ⟨hn, hs⟩ := sm_list hq
  obtain ⟨s1, A, Q⟩ := s
  obtain ⟨h1, h2, h3, h4, h5, h6⟩ := hI
  simp only at h1 h3 h4 h5 h6
  subst h1
  by_cases hi : i < qs.length
  · have hqi := hs _ (List.getElem_mem hi)
    obtain ⟨r, es, ei, hr⟩ := compile_any (e := qs[i].2.1) hqi.2.1.1
    obtain ⟨k, ks, ki, hk⟩ := index_both A r.1 (by omega) h5 hr
    have a1 : appI 56 A [r.1] = some (A ++ [r.1]) := appI_ok (by simp; omega)
    have a2 : ∀ y, appI 40 Q [y] = some (Q ++ [y]) := fun y => appI_ok (by simp; omega)
    have a3 : m_s_l8Copy qs[i].2.1 = some qs[i].2.1 := by unfold m_s_l8Copy; rw [appI_ok (by have := hqi.2.1.1; simp; omega)]; rfl
    have a4 : m_i_copyExpr qs[i].2.1 = some qs[i].2.1 := by unfold m_i_copyExpr; rw [appI_ok (by have := hqi.2.1.1; simp; omega)]; rfl
    unfold m_i_shared_l0 m_s_l31Build_l0
    simp only [lt_nat hi, if_true, getI_nat hi, Option.bind_some, es, ei, s_in, i_in, peta, ks, ki, a1, a2, a3, a4, wrap_succ (show i < 9223372036854775807 by omega)]
    by_cases c1 : r.2 = true
    case neg =>
      simp only [c1, Bool.false_eq_true, if_false]
      exact ⟨by first | trivial | rfl, .inr ⟨_, rfl, (fun s' e => by cases e), .inl rfl⟩⟩
    simp only [c1, if_true]
    by_cases c2 : 1 ≤ qs[i].1 ∧ qs[i].1 ≤ 99
    case neg =>
      simp only [c2, decide_false, Bool.false_eq_true, if_false]
      exact ⟨by first | trivial | rfl, .inr ⟨_, rfl, (fun s' e => by cases e), .inl rfl⟩⟩
    simp only [c2, decide_true, if_true]
    have fin : ∃ s' : Int × List AutT × List QT, (∀ (y : Option (Out (RegT × Bool) (Int × List AutT × List QT))), True) ∧ (Option.bind (if decide (k < 0) then some ((A.length : Int), A ++ [r.1], Q) else some (k, A, Q)) fun s10 : Int × List AutT × List QT => (appI 40 s10.2.2 [(qs[i].1, qs[i].2.1, s10.1)]).bind fun z18 => some (.nxt (((i + 1 : Nat) : Int), s10.2.1, z18)) : Option (Out (RegT × Bool) (Int × List AutT × List QT))) = some (.nxt s') ∧ RegIn qs.length (i + 1) s' := by
      rcases hk with rfl | ⟨j, hj, rfl⟩
      · refine ⟨(((i + 1 : Nat) : Int), A ++ [r.1], Q ++ [(qs[i].1, qs[i].2.1, (A.length : Int))]), fun _ => trivial, ?_, rfl, hi, by simp; omega, by simp; omega, fun a ha => ?_, fun q hq' => ?_⟩
        · simp only [show decide ((-1 : Int) < 0) = true from rfl, if_true, Option.bind_some, a2]
        · simp only [List.mem_append, List.mem_singleton] at ha
          rcases ha with ha | rfl
          · exact h5 a ha
          · exact hr
        · simp only [List.mem_append, List.mem_singleton] at hq'
          simp only [List.length_append, List.length_singleton]
          rcases hq' with hq' | rfl
          · obtain ⟨b1, b2, b3⟩ := h6 q hq'
            exact ⟨b1, b2, by omega⟩
          · exact ⟨⟨trivial, hqi.2.1, trivial⟩, by simp, by simp; omega⟩
      · refine ⟨(((i + 1 : Nat) : Int), A, Q ++ [(qs[i].1, qs[i].2.1, (j : Int))]), fun _ => trivial, ?_, rfl, hi, by simp; omega, by simp only; omega, h5, fun q hq' => ?_⟩
        · have : decide ((j : Int) < 0) = false := by simp
          simp only [this, Bool.false_eq_true, if_false, Option.bind_some, a2]
        · simp only [List.mem_append, List.mem_singleton] at hq'
          rcases hq' with hq' | rfl
          · exact h6 q hq'
          · exact ⟨⟨trivial, hqi.2.1, trivial⟩, by simp, by simp; omega⟩
    obtain ⟨s', -, e, hI'⟩ := fin
    by_cases c3 : (i : Int) > 0
    · have hp : i - 1 < qs.length := by omega
      have hw : IntKind.i64.wrap ((i : Int) - 1) = ((i - 1 : Nat) : Int) := by rw [wrap_pred (by omega)]; omega
      simp only [c3, decide_true, if_true, hw, getI_nat hp, Option.bind_some]
      by_cases c4 : qs[i - 1].1 ≥ qs[i].1
      · simp only [c4, decide_true, if_true]
        exact ⟨by first | trivial | rfl, .inr ⟨_, rfl, (fun s' e => by cases e), .inl rfl⟩⟩
      · simp only [c4, decide_false, Bool.false_eq_true, if_false]
        exact ⟨by first | trivial | rfl, .inl ⟨hi, s', e, hI'⟩⟩
    · simp only [c3, decide_false, Bool.false_eq_true, if_false]
      exact ⟨by first | trivial | rfl, .inl ⟨hi, s', e, hI'⟩⟩
  · obtain rfl : i = qs.length := by omega
    unfold m_i_shared_l0 m_s_l31Build_l0
    simp only [lt_self, Bool.false_eq_true, if_false]
    exact ⟨by first | trivial | rfl, .inr ⟨_, rfl, (fun s' e => by cases e), .inr (by first | exact ⟨rfl, rfl⟩ | exact ⟨trivial, rfl⟩ | exact ⟨rfl, trivial⟩ | simp)⟩⟩
def RegOk (r : RegT) : Prop := Data.sm r ∧ ∀ q ∈ r.2, 0 ≤ q.2.2 ∧ q.2.2 < (r.1.length : Int)
theorem reg_both {qs : List QT} (hq : Data.sm qs) : ∃ r : RegT, ∃ b : Bool, m_s_l31Build qs = (if (qs.length : Int) > 4 then some (([], []), false) else some (r, b)) ∧ m_i_shared qs = some (r, b && decide ((qs.length : Int) ≤ 4)) ∧ RegOk r := by
  have hn := (sm_list hq).1
  have h0 : RegIn qs.length 0 (0, [], []) := ⟨rfl, Nat.zero_le _, rfl, Nat.le_refl _, fun _ h => (by cases h), fun _ h => (by cases h)⟩
  have hs : loopM (m_i_shared_l0 qs) FUEL (0, [], []) = loopM (m_s_l31Build_l0 qs) FUEL (0, [], []) := loopM_same (RegIn qs.length) (fun i s hI => by
    obtain ⟨e, h⟩ := reg_step hq hI
    refine ⟨e, fun s' e' => ?_⟩
    rcases h with ⟨_, s2, e2, hI2⟩ | ⟨o, e2, hne, -⟩
    · rw [e2] at e'; cases e'; exact hI2
    · rw [e2] at e'; cases e'; exact absurd rfl (hne s')) FUEL 0 _ h0
  obtain ⟨o, e, ho⟩ := loopM_go (f := m_s_l31Build_l0 qs) (RegIn qs.length) (fun o => o = .ret (([], []), false) ∨ ∃ A Q, o = .brk ((qs.length : Int), A, Q) ∧ RegIn qs.length qs.length ((qs.length : Int), A, Q)) qs.length (fun i s hi hI => by
    rcases (reg_step hq hI).2 with h | ⟨o, e, hne, h⟩
    · exact .inl h
    · refine .inr ⟨o, e, hne, ?_⟩
      rcases h with h | ⟨h, rfl⟩
      · exact .inl h
      · obtain ⟨s1, A, Q⟩ := s
        obtain ⟨rfl, -⟩ := id hI
        exact .inr ⟨A, Q, h, hI⟩) h0 (fuelUp _ (by omega))
  unfold m_s_l31Build m_i_shared
  rw [hs, e]
  rcases ho with rfl | ⟨A, Q, rfl, -, -, h3, h4, h5, h6⟩
  · refine ⟨([], []), false, ?_, rfl, ⟨⟨Nat.zero_le _, fun _ h => (by cases h)⟩, Nat.zero_le _, fun _ h => (by cases h)⟩, fun _ h => (by cases h)⟩
    by_cases c : (qs.length : Int) > 4 <;> simp [c, bindL]
  · simp only at h3 h4 h5 h6
    refine ⟨(A, Q), true, ?_, by simp [bindL], ⟨⟨show A.length ≤ 1048576 by omega, h5⟩, show Q.length ≤ 1048576 by omega, fun q h => (h6 q h).1⟩, fun q h => (h6 q h).2⟩
    by_cases c : (qs.length : Int) > 4 <;> simp [c, bindL]
theorem valid_both {r : RegT} (hr : Data.sm r) : ∃ b, m_s_IsValidRegistry r = some b ∧ m_i_IsValidRegistry r = some b ∧ (b = true → RegOk r) := by
  obtain ⟨x, b, e1, e2, hx⟩ := reg_both hr.2
  unfold m_s_IsValidRegistry m_i_IsValidRegistry
  rw [e1, e2]
  by_cases c : (r.2.length : Int) > 4
  · have c' : ¬ (r.2.length : Int) ≤ 4 := by omega
    exact ⟨false, by simp [c], by simp [c'], fun e => by cases e⟩
  · have c' : (r.2.length : Int) ≤ 4 := by omega
    cases b with
    | false => exact ⟨false, by simp [c], by simp, fun e => by cases e⟩
    | true =>
      simp only [c, if_false, Option.bind_some, if_true, c', decide_true, Bool.and_true, peta, q_sRegistries x r hx.1, q_iRegistries x r hx.1]
      exact ⟨_, rfl, rfl, fun e => by rw [← of_decide_eq_true e]; exact hx⟩
end Go.Proofs.YtimjccbdngajoaaGreat.D
/- The plain law of IsValidRegistry. -/
set_option linter.unusedVariables false
set_option linter.unusedSimpArgs false
set_option linter.unnecessarySimpa false
set_option linter.unusedSectionVars false
set_option synthInstance.maxSize 20000
set_option synthInstance.maxHeartbeats 2000000
namespace Go.Proofs.YtimjccbdngajoaaGreat.D
open Go.RowKit

theorem lawIsValidRegistry (x : RegT) (hx : Data.lim x) : m_w_FnExactIsValidRegistry x = some true := by
  unfold m_w_FnExactIsValidRegistry
  simp only [peta]
  obtain ⟨r1, e1, k1⟩ := z_szRegistry x 1048576 hx (by decide) (by decide)
  rw [e1]; simp only [Option.bind_some]
  rcases k1 with k1 | ⟨k1, j1, s1⟩
  · rw [if_pos (decide_eq_true k1)]
  rw [if_neg (by simpa using k1)]
  obtain ⟨b, es, ei, -⟩ := valid_both s1
  simp only [t_toRegistry x s1, es, ei, q_eqRegistry x x s1 s1, Option.bind_some, peta, decide_true, if_true]
  simp only [bne_self_eq_false, Bool.false_eq_true, if_false]
end Go.Proofs.YtimjccbdngajoaaGreat.D
/- From 'the call returns true and changes nothing that was there' to the row's own post, whatever the arguments' types. -/
set_option linter.unusedVariables false
set_option linter.unusedSimpArgs false
namespace Go.Proofs.YtimjccbdngajoaaGreat
open Go.ChangeShapes Go.WideShapes Go.ChangeAt Go.RowKit
theorem own : ownKnob Tryz.prog.godebug = none := by kernel_rfl
theorem laidOut : laidOutB Tryz.prog = true := by kernel_rfl
theorem below_trodAll {H : Type} {enc : TypeId × Value → H} {P : Program} (hl : laidOutB P = true) {W W' : World} (hb : Below W.heap.size W W') :
    ∀ {ts : List TypeId} {vs : List Value} {ds : List (DataW H)} {ps : List MemPlace}, (∀ t ∈ ts, P.readableRec t = true ∧ t < P.types.size) →
      DataW.TrodAll enc P W 0 (fun _ => true) true ts vs ds ps → (∀ x ∈ ps, x.block < W.heap.size) → DataW.TrodAll enc P W' 0 (fun b => decide (b < W.heap.size)) true ts vs ds ps
  | [], [], [], ps, _, h, _ => h
  | t :: ts, v :: vs, d :: ds, ps, hr, ⟨p, q, h1, h2, h3⟩, hlt => by
    subst h3
    exact ⟨p, q, Below.trod hl (hr t (by simp)).1 (hr t (by simp)).2 h1 hb fun x hx => hlt x (by simp [hx]), below_trodAll hl hb (fun t ht => hr t (by simp [ht])) h2 fun x hx => hlt x (by simp [hx]), rfl⟩
  | [], _ :: _, _, _, _, h, _ => h.elim
  | [], [], _ :: _, _, _, h, _ => h.elim
  | _ :: _, [], _, _, _, h, _ => h.elim
  | _ :: _, _ :: _, [], _, _, h, _ => h.elim
theorem law_post {H : Type} {enc : TypeId × Value → H} {f : Func} {s : ChangeSpec} {W W' : World} {args : Array Value} {ds : List (DataW H)} {before : List MemPlace} (tb : TypeId)
    (hb : Tryz.prog.underlying tb = some .bool) (hr : f.resultTypes = #[tb]) (hp : (f.params.toList.all fun t => Tryz.prog.readableRec t && decide (t < Tryz.prog.types.size)) = true) (hv : s.vars = [])
    (hW : DataW.Whole enc Tryz.prog f.params.toList s.vars false W args.toList ds [] before) (hres : (s.fn H (ds ++ [])).results = [.lit (.bool true)]) (hargs : (s.fn H (ds ++ [])).args = ds) (hvars : (s.fn H (ds ++ [])).vars = [])
    (hbel : Below W.heap.size W W') : s.post enc Tryz.prog f false true false false W args (.bool true) W' := by
  obtain ⟨p, q, h1, h2, h3, h4, h5⟩ := hW
  have hW' : DataW.Whole enc Tryz.prog f.params.toList s.vars false W args.toList ds [] before := ⟨p, q, h1, h2, h3, h4, h5⟩
  have hq : q = [] := by rw [hv] at h2; exact h2
  subst hq
  simp only [List.append_nil] at h3
  subst h3
  refine ⟨ds, [], before, [], before, [], hW', ?_, ?_, ?_, hbel.frame _, fun h => by cases h⟩
  · rw [hres, hr]
    exact trodAll_mk1 (shut_bool hb true)
  · rw [hargs]
    exact below_trodAll laidOut hbel (fun t ht => by have := List.all_eq_true.1 hp t ht; simpa using this) h1 fun x hx => by simpa using hW'.lt x hx
  · rw [hvars, hv]; rfl
end Go.Proofs.YtimjccbdngajoaaGreat
/- FnExactIsValidRegistry: for every input the law returns true and changes nothing that was there. (Printed by genrow.py over the walk and the plain law.) -/
set_option linter.unusedVariables false
set_option linter.unusedSimpArgs false
set_option linter.unnecessarySimpa false
set_option maxRecDepth 100000
namespace Go.Proofs.YtimjccbdngajoaaGreat
open Go.ChangeShapes Go.WideShapes Go.ChangeAt Go.RowKit
namespace D
theorem op3 : Opens Tryz.prog 3 rInt := opens_int Tryz.underlying3
theorem op4 : Opens Tryz.prog 4 rBool := opens_bool Tryz.underlying4
theorem op35 : Opens Tryz.prog 35 (rSlice 4 rBool) := opens_slice Tryz.underlying35 (by kernel_rfl) (by decide) op4
theorem op56 : Opens Tryz.prog 56 (rSlice 3 rInt) := opens_slice Tryz.underlying56 (by kernel_rfl) (by decide) op3
theorem op36 : Opens Tryz.prog 36 (rSlice 56 (rSlice 3 rInt)) := opens_slice Tryz.underlying36 (by kernel_rfl) (by decide) op56
theorem op109 : Opens Tryz.prog 109 (rProd rInt (rProd (rSlice 4 rBool) (rSlice 56 (rSlice 3 rInt)))) := by
  refine opens_struct Tryz.underlying109 (by kernel_rfl) ?_
  refine opens_next (R := rInt) (S := rProd (rSlice 4 rBool) (rSlice 56 (rSlice 3 rInt))) rfl (by kernel_rfl) op3 ?_
  refine opens_next (R := rSlice 4 rBool) (S := rSlice 56 (rSlice 3 rInt)) rfl (by kernel_rfl) op35 ?_
  exact opens_last rfl (by kernel_rfl) op36
theorem op22 : Opens Tryz.prog 22 (rSlice 109 (rProd rInt (rProd (rSlice 4 rBool) (rSlice 56 (rSlice 3 rInt))))) := opens_slice Tryz.underlying22 (by kernel_rfl) (by decide) op109
theorem op145 : Opens Tryz.prog 145 (rProd rInt (rProd rInt (rProd rInt rInt))) := by
  refine opens_struct Tryz.underlying145 (by kernel_rfl) ?_
  refine opens_next (R := rInt) (S := rProd (rInt) (rProd (rInt) (rInt))) rfl (by kernel_rfl) op3 ?_
  refine opens_next (R := rInt) (S := rProd (rInt) (rInt)) rfl (by kernel_rfl) op3 ?_
  refine opens_next (R := rInt) (S := rInt) rfl (by kernel_rfl) op3 ?_
  exact opens_last rfl (by kernel_rfl) op3
theorem op60 : Opens Tryz.prog 60 (rSlice 145 (rProd rInt (rProd rInt (rProd rInt rInt)))) := opens_slice Tryz.underlying60 (by kernel_rfl) (by decide) op145
theorem op62 : Opens Tryz.prog 62 (rSlice 145 (rProd rInt (rProd rInt (rProd rInt rInt)))) := by
  refine opens_struct Tryz.underlying62 (by kernel_rfl) ?_
  exact opens_last rfl (by kernel_rfl) op60
theorem op112 : Opens Tryz.prog 112 (rProd rInt (rProd (rSlice 145 (rProd rInt (rProd rInt (rProd rInt rInt)))) rInt)) := by
  refine opens_struct Tryz.underlying112 (by kernel_rfl) ?_
  refine opens_next (R := rInt) (S := rProd (rSlice 145 (rProd rInt (rProd rInt (rProd rInt rInt)))) (rInt)) rfl (by kernel_rfl) op3 ?_
  refine opens_next (R := rSlice 145 (rProd rInt (rProd rInt (rProd rInt rInt)))) (S := rInt) rfl (by kernel_rfl) op62 ?_
  exact opens_last rfl (by kernel_rfl) op3
theorem op23 : Opens Tryz.prog 23 (rSlice 112 (rProd rInt (rProd (rSlice 145 (rProd rInt (rProd rInt (rProd rInt rInt)))) rInt))) := opens_slice Tryz.underlying23 (by kernel_rfl) (by decide) op112
theorem op25 : Opens Tryz.prog 25 (rProd (rSlice 109 (rProd rInt (rProd (rSlice 4 rBool) (rSlice 56 (rSlice 3 rInt))))) (rSlice 112 (rProd rInt (rProd (rSlice 145 (rProd rInt (rProd rInt (rProd rInt rInt)))) rInt)))) := by
  refine opens_struct Tryz.underlying25 (by kernel_rfl) ?_
  refine opens_next (R := rSlice 109 (rProd rInt (rProd (rSlice 4 rBool) (rSlice 56 (rSlice 3 rInt))))) (S := rSlice 112 (rProd rInt (rProd (rSlice 145 (rProd rInt (rProd rInt (rProd rInt rInt)))) rInt))) rfl (by kernel_rfl) op22 ?_
  exact opens_last rfl (by kernel_rfl) op23
theorem rdL25 {W : World} {base : Nat} {z : Value} {H : Type} {enc : TypeId × Value → H} {d : DataW H} {p : List MemPlace} (hv : Value.okWide Tryz.prog W .any base 25 z) (h : DataW.Trod enc Tryz.prog W 0 (fun _ => true) true 25 z d p) :
    ∃ (x : (List (Int × (List Bool) × (List (List Int)))) × (List (Int × ((List (Int × Int × Int × Int))) × Int))) (v0 : Value) (v1 : Value), z = .agg #[v0, v1] ∧ Data.lim x ∧ (rSlice 109 (rProd rInt (rProd (rSlice 4 rBool) (rSlice 56 (rSlice 3 rInt))))).rd (hp W) [v0] x.1 ∧ (rSlice 112 (rProd rInt (rProd (rSlice 145 (rProd rInt (rProd rInt (rProd rInt rInt)))) rInt))).rd (hp W) [v1] x.2 := by
  obtain ⟨fuel, hf⟩ := h
  obtain ⟨⟨cs⟩, rfl, -⟩ := okWide_struct Tryz.underlying25 hv
  obtain ⟨x, hx, hl⟩ := op25.out enc W _ _ _ hf
  have hx : (rProd (rSlice 109 (rProd rInt (rProd (rSlice 4 rBool) (rSlice 56 (rSlice 3 rInt))))) (rSlice 112 (rProd rInt (rProd (rSlice 145 (rProd rInt (rProd rInt (rProd rInt rInt)))) rInt)))).rd (hp W) cs x := hx
  obtain ⟨_, _, rfl, r0, r1⟩ := hx
  obtain ⟨v0, rfl⟩ := one_cell r0 rfl
  obtain ⟨v1, rfl⟩ := one_cell r1 rfl
  exact ⟨x, v0, v1, rfl, hl, r0, r1⟩
end D
open D (Data)
theorem rowLIsValidRegistry (W : World) (args : Array Value) (H : Type) (enc : TypeId × Value → H) (base : Nat) (ds gs : List (DataW H)) (before : List MemPlace)
    (hval : ∀ (j : Nat) t v, Tryz.f3.params[j]? = some t → args[j]? = some v → Value.okWide Tryz.prog W .any base t v)
    (hW : DataW.Whole enc Tryz.prog Tryz.f3.params.toList Rows.fnExactIsValidRegistrySpec.vars false W args.toList ds gs before) :
    Calls Tryz.prog 3 args W fun e W' => ∃ v, e = .returned v ∧ Rows.fnExactIsValidRegistrySpec.post enc Tryz.prog Tryz.f3 false true false false W args v W' := by
  have hW' := hW
  obtain ⟨p, q, hA, hV, rfl, hfz, hnd⟩ := hW
  rw [Tryz.params3] at hA hval
  obtain ⟨z0, vs0, d0, ds0, p0, q0, hargs, rfl, rfl, h0, r0⟩ := trodAll_cons hA
  obtain ⟨rfl, rfl, rfl⟩ := trodAll_nil r0
  obtain rfl : args = #[z0] := by cases args; simp_all
  obtain ⟨rfl, rfl⟩ := trodVars_none hV
  obtain ⟨x0, v0_0, v0_1, rfl, l0, r0_0, r0_1⟩ := D.rdL25 (hval 0 _ _ rfl rfl) h0
  have hc := D.c_w_FnExactIsValidRegistry x0 true (D.lawIsValidRegistry x0 l0) (I := D.hp W) (w0 := W) v0_0 v0_1 r0_0 r0_1 W [] (D.St.init W)
  refine hc.mono fun e W' ⟨v, he, hv, hs⟩ => ?_
  subst he; subst hv
  exact ⟨_, rfl, law_post (f := Tryz.f3) (s := Rows.fnExactIsValidRegistrySpec) 4 Tryz.underlying4 rfl (by kernel_rfl) rfl hW' rfl rfl rfl (D.St.below hs)⟩
theorem liftedLIsValidRegistry (os : Os) (started : os.Started) (H : Type) (enc : TypeId × Value → H) :
    ReturnsInHanded {} Tryz.checked os 3 .any (Rows.fnExactIsValidRegistrySpec.pre6 enc Tryz.prog Tryz.f3 Rows.fnExactIsValidRegistryRow.domain false) (Rows.fnExactIsValidRegistrySpec.post enc Tryz.prog Tryz.f3 false true false false) := by
  refine returnsInHanded_of_change_sized (C := Tryz.checked) own started (by kernel_rfl) Tryz.func3
    (ChangeSpec.witness6 (enc := enc) (C := Tryz.checked) false ⟨#[], #[.agg #[.slice none 0 0, .slice none 0 0]], []⟩ 8 (by kernel_rfl) (by kernel_rfl) (by kernel_rfl) (by kernel_rfl)) ?_
  intro W base args ds gs before hval hW hcnd hsz _
  exact rowLIsValidRegistry W args H enc base ds gs before hval hW
theorem holdsLIsValidRegistry : Rows.FnExactIsValidRegistrySaid :=
  OpenClaim.holds_of_wide 3 Tryz.f3 rfl rfl rfl rfl rfl rfl rfl ⟨rfl, rfl, rfl, rfl, rfl⟩ rfl rfl rfl rfl rfl (by kernel_rfl) Tryz.func3 (by kernel_rfl)
    (of_decide_eq_true (by kernel_rfl)) (by unfold Func.isWrapper; first | (rw [if_pos (by decide +kernel)]; kernel_rfl) | (rw [if_neg (by decide +kernel)]; exact ⟨rfl, rfl⟩))
    (fun os started H enc _ => liftedLIsValidRegistry os started H enc)
end Go.Proofs.YtimjccbdngajoaaGreat
