/- The boolean operations: the program's pairs, and both results. -/
import Derived.Test.YtcihbmdppgpmjaaCBool
set_option linter.unusedVariables false
set_option linter.unusedSimpArgs false
set_option linter.unnecessarySimpa false
set_option linter.unusedSectionVars false
namespace Go.Proofs.Ytcihbmdppgpmjaa.D
open Go.RowKit

section
variable {a b : AutT} {n m : Nat}
theorem i_pairs (Va : VA a n) (Vb : VA b m) (hn : n ≤ 12) (hm : m ≤ 12) {test : Bool → Bool → Option Bool} {tb : Bool → Bool → Bool} (ht : ∀ x y, test x y = some (tb x y)) :
    ∃ N, bfE (nxP a b) (a.1, b.1) N ∧ m_i_numbered_states (a.1, b.1) 1000 (fun a0 => m_i_combine_1 a0 test a b) (fun a0 a1 => m_i_combine_2 a0 a1 (fun a0 a1 => m_i_together_1 a0 a1 a b)) = some ((0, (bfS (nxP a b) (a.1, b.1) N).map (fun x => tb (acn a x.1) (acn b x.2)), bfR (nxP a b) (a.1, b.1) N), true) := by
  refine i_numbS (acc := fun x => tb (acn a x.1) (acn b x.2)) (pairs_num Va Vb hn hm) (by decide) (by decide) (fun x hx => ?_) (fun x hx => ?_) (fun x k hx hk => ⟨(0, 0), ?_⟩)
  · have h1 : IntKind.i64.min = -9223372036854775808 := by decide
    have h2 : IntKind.i64.max = 9223372036854775807 := by decide
    obtain ⟨⟨h3, h4⟩, h5, h6⟩ := hx
    simp only [iiOk, Lit.wf, h1, h2, Bool.and_eq_true, decide_eq_true_eq]
    omega
  · show m_i_combine_1 x test a b = _
    unfold m_i_combine_1
    simp only [peta]
    rw [i_acn Va hx.1.1 hx.1.2, i_acn Vb hx.2.1 hx.2.2]; simp only [Option.bind_some]
    rw [ht]; rfl
  · show m_i_combine_2 x k (fun a0 a1 => m_i_together_1 a0 a1 a b) = _
    unfold m_i_combine_2 m_i_together_1
    simp only [peta]
    rw [i_mvn Va hx.1.1 hx.1.2 hk, i_mvn Vb hx.2.1 hx.2.2 hk]; simp only [Option.bind_some]
    rw [nxP_at hk]
theorem zero_sm : Data.sm ((0, [], []) : AutT) := ⟨trivial, ⟨by decide, fun _ h => by cases h⟩, by decide, fun _ h => by cases h⟩
/-- out of the same automaton, the same small one -/
theorem small_eq {κ : Type} [DecidableEq κ] [Inhabited κ] {nx : κ → List (Option κ)} {first : κ} {G : κ → Prop} {N : Nat} {acc : κ → Bool} (H : NumOk nx first G 169) (hN : bfE nx first N) :
    ∃ r, ((m_s_l12Minimize (0, (bfS nx first N).map acc, bfR nx first N)).bind fun r4 => if decide ((r4.2.1.length : Int) > 12) then (some ((0, [], []), false)) else (some ((r4.1, r4.2.1, r4.2.2), true))) = some r ∧ m_i_small (0, (bfS nx first N).map acc, bfR nx first N) = some r ∧ Data.sm r.1 := by
  have hle := H.le N
  have hNl := hN.1
  obtain ⟨r, es, ei, hr⟩ := minim_eq (num_VA (acc := acc) H hN) (by omega)
  unfold m_i_small
  simp only [peta]
  rw [es, ei]; simp only [Option.bind_some]
  by_cases c : (r.2.1.length : Int) > 12
  · exact ⟨((0, [], []), false), by rw [if_pos (by simpa using c)], by rw [if_pos (by simpa using c)], zero_sm⟩
  · exact ⟨(r, true), by rw [if_neg (by simpa using c)], by rw [if_neg (by simpa using c)], hr⟩
theorem valid_both (a : AutT) (hs : Data.sm a) : ∃ b, m_s_IsValidAutomaton a = some b ∧ m_i_IsValidAutomaton a = some b ∧ (b = true → a.2.1.length ≤ 12 ∧ VA a a.2.1.length) := by
  obtain ⟨-, ⟨ha, -⟩, hn, hr⟩ := hs
  obtain ⟨b1, e1, k1⟩ := s_valid a (by omega) (by omega)
  obtain ⟨b2, e2, k2⟩ := i_valid a (by omega) (by omega) (fun r h => by have : r.length ≤ 1048576 := (hr r h).1; omega)
  have : b2 = b1 := by
    cases h1 : b1 <;> cases h2 : b2
    · rfl
    · have := k1.2 (k2.1 h2); rw [h1] at this; cases this
    · have := k2.2 (k1.1 h1); rw [h2] at this; cases this
    · rfl
  subst this
  exact ⟨b2, e1, e2, k1.1⟩
theorem bool_eq (op : Int) {test : Bool → Bool → Option Bool} (ht : ∀ x y, test x y = some (opB op x y)) (ha : Data.sm a) (hb : Data.sm b) : ∃ r, m_s_l13Make a b op = some r ∧ m_i_combine a b test = some r ∧ Data.sm r.1 := by
  obtain ⟨va, e1, e2, ka⟩ := valid_both a ha
  obtain ⟨vb, e3, e4, kb⟩ := valid_both b hb
  unfold m_s_l13Make m_i_combine
  simp only [peta]
  rw [e1, e2]; simp only [Option.bind_some]
  cases va with
  | false => exact ⟨((0, [], []), false), rfl, rfl, zero_sm⟩
  | true =>
    rw [if_pos rfl, if_pos rfl, e3, e4]; simp only [Option.bind_some]
    cases vb with
    | false => exact ⟨((0, [], []), false), rfl, rfl, zero_sm⟩
    | true =>
      obtain ⟨h12, Va⟩ := ka rfl
      obtain ⟨h12', Vb⟩ := kb rfl
      obtain ⟨N, hN, es⟩ := s_pairs Va Vb h12 h12' op
      obtain ⟨N', hN', ei⟩ := i_pairs Va Vb h12 h12' ht
      obtain rfl := bfE_uniq hN hN'
      obtain ⟨r, r1, r2, r3⟩ := small_eq (acc := accP a b op) (pairs_num Va Vb h12 h12') hN
      refine ⟨r, ?_, ?_, r3⟩
      · rw [if_pos rfl, es]; simp only [Option.bind_some]
        exact r1
      · rw [if_pos rfl]
        unfold m_i_together
        simp only [Option.bind_some]
        have ei' := congrArg (fun x => Option.bind x fun r4 : AutT × Bool => (m_i_small (r4.1.1, r4.1.2.1, r4.1.2.2)).bind fun r5 => some ((r5.1.1, r5.1.2.1, r5.1.2.2), r5.2)) ei
        refine ei'.trans ?_
        simp only [Option.bind_some, peta]
        have e5 : m_i_small (0, (bfS (nxP a b) (a.1, b.1) N).map (fun x => opB op (acn a x.1) (acn b x.2)), bfR (nxP a b) (a.1, b.1) N) = some r := r2
        rw [e5]; rfl
end
/-! ### The complement: other names for the same pairs -/
section
variable {κ μ : Type} [DecidableEq κ] [DecidableEq μ] {f : κ → μ}
theorem nbL_map (hf : ∀ x y, f x = f y → x = y) (l : List κ) (o : Option κ) : nbL (l.map f) (o.map f) = (nbL l o).map f := by
  cases o with
  | none => rfl
  | some x =>
    by_cases c : x ∈ l
    · rw [nbL_old c]; exact nbL_old (List.mem_map.2 ⟨x, c, rfl⟩)
    · have c' : f x ∉ l.map f := fun h => by
        obtain ⟨y, hy, e⟩ := List.mem_map.1 h
        exact c (hf _ _ e ▸ hy)
      rw [nbL_new c]
      show nbL (l.map f) (some (f x)) = _
      rw [nbL_new c']; simp
theorem idxOf_map (hf : ∀ x y, f x = f y → x = y) : ∀ (l : List κ) (x : κ), (l.map f).idxOf (f x) = l.idxOf x
  | [], x => rfl
  | y :: l, x => by
    rw [List.map_cons, List.idxOf_cons, List.idxOf_cons, idxOf_map hf l x]
    by_cases c : y = x
    · subst c; simp
    · have : ¬ f y = f x := fun e => c (hf _ _ e)
      simp [show (y == x) = false from by simpa using c, show (f y == f x) = false from by simpa using this]
theorem nbI_map (hf : ∀ x y, f x = f y → x = y) (l : List κ) (o : Option κ) : nbI (l.map f) (o.map f) = nbI l o := by
  cases o with
  | none => rfl
  | some x => show ((l.map f).idxOf (f x) : Int) = (l.idxOf x : Int); rw [idxOf_map hf]
theorem nbS_map (hf : ∀ x y, f x = f y → x = y) : ∀ (l : List κ) (os : List (Option κ)), nbS (l.map f) (os.map (Option.map f)) = (nbS l os).map f
  | l, [] => rfl
  | l, o :: os => by
    show nbS (nbL (l.map f) (o.map f)) (os.map (Option.map f)) = (nbS (nbL l o) os).map f
    rw [nbL_map hf, nbS_map hf]
theorem nbR_map (hf : ∀ x y, f x = f y → x = y) : ∀ (l : List κ) (os : List (Option κ)), nbR (l.map f) (os.map (Option.map f)) = nbR l os
  | l, [] => rfl
  | l, o :: os => by
    show nbI (l.map f) (o.map f) :: nbR (nbL (l.map f) (o.map f)) (os.map (Option.map f)) = nbI l o :: nbR (nbL l o) os
    rw [nbI_map hf, nbL_map hf, nbR_map hf]
variable {nx : κ → List (Option κ)} {nx' : μ → List (Option μ)} {first : κ}
theorem bfS_map (hf : ∀ x y, f x = f y → x = y) (hn : ∀ x, nx' (f x) = (nx x).map (Option.map f)) : ∀ i, bfS nx' (f first) i = (bfS nx first i).map f
  | 0 => rfl
  | i + 1 => by
    rw [bfS, bfS, bfS_map hf hn i, List.getElem?_map]
    cases (bfS nx first i)[i]? with
    | none => rfl
    | some x => simp only [Option.map_some]; rw [hn, nbS_map hf]
theorem bfR_map (hf : ∀ x y, f x = f y → x = y) (hn : ∀ x, nx' (f x) = (nx x).map (Option.map f)) : ∀ i, bfR nx' (f first) i = bfR nx first i
  | 0 => rfl
  | i + 1 => by
    rw [bfR, bfR, bfR_map hf hn i, bfS_map hf hn i, List.getElem?_map]
    cases (bfS nx first i)[i]? with
    | none => rfl
    | some x => simp only [Option.map_some]; rw [hn, nbR_map hf]
theorem bfE_map (hf : ∀ x y, f x = f y → x = y) (hn : ∀ x, nx' (f x) = (nx x).map (Option.map f)) {N : Nat} : bfE nx' (f first) N ↔ bfE nx first N := by
  unfold bfE
  simp only [bfS_map hf hn, List.length_map]
end
end Go.Proofs.Ytcihbmdppgpmjaa.D
