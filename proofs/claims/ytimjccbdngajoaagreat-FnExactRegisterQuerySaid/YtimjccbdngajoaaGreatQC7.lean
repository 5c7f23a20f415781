/- FnExactRegisterQuery: for every input the law returns true and changes nothing that was there. Part 8 of 8. -/
import Derived.Test.YtimjccbdngajoaaGreatQC6
/- Subsets numbered from the first one on, so many at most: the reference and the program find the same automaton. -/
set_option linter.unusedVariables false
set_option linter.unusedSimpArgs false
set_option linter.unnecessarySimpa false
set_option linter.unusedSectionVars false
namespace Go.Proofs.YtimjccbdngajoaaGreat.D
open Go.RowKit

abbrev PosT := (List Int) × Int × Int × (List Int) × Bool
abbrev bitI (x : Int) (j : Nat) : Bool := (andI (shrI x (j : Int)) 1) == 1
def gath (F : List Int) (set m0 : Int) : Nat → Int
  | 0 => m0
  | i + 1 => if bitI set (i + 1) then orI (gath F set m0 i) (nth F (i : Int)) else gath F set m0 i
def pick (L : List Int) (m letter : Int) : Nat → Int
  | 0 => 0
  | i + 1 => if nth L (i : Int) = letter ∧ bitI m i = true then orI (pick L m letter i) (shlI 1 ((i + 1 : Nat) : Int)) else pick L m letter i
def aft (p : PosT) (set letter : Int) : Int := pick p.1 (gath p.2.2.2.1 set (if (andI set 1) == 1 then p.2.1 else 0) p.2.2.2.1.length) letter p.1.length
def accP1 (p : PosT) (set : Int) : Bool := if (andI set 1) == 1 then (if p.2.2.2.2 then true else (andI (shrI set 1) p.2.2.1) != 0) else (andI (shrI set 1) p.2.2.1) != 0
theorem chk_nat (i : Nat) : chk (0 ≤ (i : Int)) = some () := by unfold chk; rw [if_pos (by omega)]
theorem s_after {p : PosT} {set letter : Int} (hl : p.2.2.2.1.length = p.1.length) (hb : p.1.length ≤ 1000000) : m_s_l10After p set letter = some (aft p set letter) := by
  have h0 : ∀ m0, loopM (m_s_l10After_l0 p set) FUEL (m0, 0) = some (.brk (gath p.2.2.2.1 set m0 p.1.length, (p.1.length : Int))) := fun m0 =>
    loopM_at (f := m_s_l10After_l0 p set) (fun i => (gath p.2.2.2.1 set m0 i, (i : Int))) p.1.length (fun i hi => by
      unfold m_s_l10After_l0
      simp only
      rw [if_pos (by simp; omega), wrap_succ (by omega), chk_nat]; simp only [Option.bind_some]
      rw [gath]
      by_cases c : bitI set (i + 1) = true
      · rw [if_pos c, if_pos c, getI_nth (by omega) (by omega)]; rfl
      · rw [if_neg c, if_neg c]; rfl) (by unfold m_s_l10After_l0; simp) (up63 (by omega))
  have h1 : ∀ s7 : Int × Int, loopM (m_s_l10After_l1 p letter s7) FUEL (0, 0) = some (.brk (pick p.1 s7.1 letter p.1.length, (p.1.length : Int))) := fun s7 =>
    loopM_at (f := m_s_l10After_l1 p letter s7) (fun i => (pick p.1 s7.1 letter i, (i : Int))) p.1.length (fun i hi => by
      unfold m_s_l10After_l1
      simp only
      rw [if_pos (by simp; omega), wrap_succ (by omega), chk_nat, chk_nat]; simp only [Option.bind_some]
      rw [pick]
      by_cases c : bitI s7.1 i = true
      · rw [if_pos c, getI_nth (by omega) (by omega)]; simp only [Option.bind_some]
        by_cases d : nth p.1 (i : Int) = letter
        · rw [if_pos (by simpa using d), if_pos ⟨d, c⟩]; rfl
        · rw [if_neg (by simpa using d), if_neg (fun h => d h.1)]; rfl
      · rw [if_neg c, if_neg (fun h => c h.2)]; rfl) (by unfold m_s_l10After_l1; simp) (up63 (by omega))
  unfold m_s_l10After aft
  rw [hl]
  by_cases c : ((andI set 1) == 1) = true
  · rw [if_pos c, if_pos c]; simp only [Option.bind_some]
    rw [bindL_brk (h0 _), bindL_brk (h1 _)]
  · rw [if_neg c, if_neg c]; simp only [Option.bind_some]
    rw [bindL_brk (h0 _), bindL_brk (h1 _)]
theorem i_after {p : PosT} {set letter : Int} (hl : p.2.2.2.1.length = p.1.length) (hb : p.1.length ≤ 1000000) : m_i_Positions_after p set letter = some (aft p set letter) := by
  have h0 : ∀ m0, loopM (m_i_Positions_after_l0 p set) FUEL (m0, 0) = some (.brk (gath p.2.2.2.1 set m0 p.2.2.2.1.length, (p.2.2.2.1.length : Int))) := fun m0 =>
    loopM_at (f := m_i_Positions_after_l0 p set) (fun i => (gath p.2.2.2.1 set m0 i, (i : Int))) p.2.2.2.1.length (fun i hi => by
      unfold m_i_Positions_after_l0
      simp only
      rw [if_pos (by simp; omega), getI_nth (by omega) (by omega)]; simp only [Option.bind_some]
      rw [wrap_succ (by omega), chk_nat]; simp only [Option.bind_some]
      rw [gath]
      by_cases c : bitI set (i + 1) = true
      · rw [if_pos c, if_pos c]; rfl
      · rw [if_neg c, if_neg c]; rfl) (by unfold m_i_Positions_after_l0; simp) (up63 (by omega))
  have h1 : ∀ s7 : Int × Int, loopM (m_i_Positions_after_l1 p letter s7) FUEL (0, 0) = some (.brk (pick p.1 s7.1 letter p.1.length, (p.1.length : Int))) := fun s7 =>
    loopM_at (f := m_i_Positions_after_l1 p letter s7) (fun i => (pick p.1 s7.1 letter i, (i : Int))) p.1.length (fun i hi => by
      unfold m_i_Positions_after_l1
      simp only
      rw [if_pos (by simp; omega), getI_nth (by omega) (by omega)]; simp only [Option.bind_some]
      rw [wrap_succ (by omega), chk_nat, chk_nat]; simp only [Option.bind_some]
      rw [pick]
      by_cases d : nth p.1 (i : Int) = letter
      · rw [if_pos (by simpa using d)]
        by_cases c : bitI s7.1 i = true
        · rw [if_pos c, if_pos ⟨d, c⟩]; rfl
        · rw [if_neg c, if_neg (fun h => c h.2)]; rfl
      · rw [if_neg (by simpa using d), if_neg (fun h => d h.1)]; rfl) (by unfold m_i_Positions_after_l1; simp) (up63 (by omega))
  unfold m_i_Positions_after aft
  by_cases c : ((andI set 1) == 1) = true
  · rw [if_pos c, if_pos c]; simp only [Option.bind_some]
    rw [bindL_brk (h0 _), bindL_brk (h1 _)]
  · rw [if_neg c, if_neg c]; simp only [Option.bind_some]
    rw [bindL_brk (h0 _), bindL_brk (h1 _)]
theorem s_acc1 (p : PosT) (x : Int) : m_s_l10Accepts p x = some (accP1 p x) := by
  unfold m_s_l10Accepts accP1
  split <;> (try split) <;> rfl
theorem i_acc1 (p : PosT) (x : Int) : m_i_Positions_accepts p x = some (accP1 p x) := by
  unfold m_i_Positions_accepts accP1
  split <;> (try split) <;> rfl
/-! ### Sets are numbers -/
theorem wrap_range (x : Int) : -9223372036854775808 ≤ IntKind.i64.wrap x ∧ IntKind.i64.wrap x ≤ 9223372036854775807 := by
  simp only [IntKind.wrap, IntKind.bits, IntKind.signed, Bool.true_and]
  split <;> rename_i h <;> simp at h <;> omega
theorem wrap_ok (x : Int) : iOk (IntKind.i64.wrap x) = true := by
  have h1 : IntKind.i64.min = -9223372036854775808 := by decide
  have h2 : IntKind.i64.max = 9223372036854775807 := by decide
  have h3 := wrap_range x
  simp only [iOk, Lit.wf, h1, h2, Bool.and_eq_true, decide_eq_true_eq]
  omega
theorem orI_ok (m n : Int) : iOk (orI m n) = true := wrap_ok _
theorem pick_ok (L : List Int) (m letter : Int) : ∀ i, iOk (pick L m letter i) = true
  | 0 => by unfold pick; decide
  | i + 1 => by
    rw [pick]
    split
    · exact orI_ok _ _
    · exact pick_ok L m letter i
def nxS (p : PosT) (x : Int) : List (Option Int) := (List.range 9).map fun k : Nat => if aft p x (k : Int) = 0 then none else some (aft p x (k : Int))
theorem nxS_at {p : PosT} {x : Int} {k : Nat} (hk : k < 9) : nth (nxS p x) (k : Int) = if aft p x k = 0 then none else some (aft p x k) := by
  have : k < (nxS p x).length := by simp [nxS]; omega
  rw [nth_nat this]; simp [nxS]
theorem nxS_len (p : PosT) (x : Int) : (nxS p x).length = 9 := by simp [nxS]
theorem nxS_ok {p : PosT} {x y : Int} (h : some y ∈ nxS p x) : iOk y = true := by
  obtain ⟨k, hk, e⟩ := List.mem_map.1 h
  split at e
  · cases e
  · obtain rfl := Option.some.inj e
    exact pick_ok _ _ _ _
theorem nbS_le {κ : Type} [DecidableEq κ] : ∀ (l : List κ) (os : List (Option κ)), (nbS l os).length ≤ l.length + os.length
  | l, [] => by simp [nbS]
  | l, o :: os => by
    have h := nbS_le (nbL l o) os
    have h2 : (nbL l o).length ≤ l.length + 1 := by
      cases o with
      | none => simp [nbL]
      | some x => unfold nbL; simp only; split <;> simp
    show (nbS (nbL l o) os).length ≤ _
    simp only [List.length_cons]; omega
/-! ### So many at most -/
section
variable {κ : Type} [DecidableEq κ] (nx : κ → List (Option κ)) (first : κ) (acc : κ → Bool) (most : Nat)
def goM : Nat → Nat → AutT × Bool
  | 0, i => ((0, [], []), false)
  | f + 1, i => if i < (bfS nx first i).length then (if (bfS nx first (i + 1)).length > most then ((0, [], []), false) else goM f (i + 1)) else ((0, ((bfS nx first i).take i).map acc, bfR nx first i), true)
end
section
variable {κ : Type} [DecidableEq κ] {nx : κ → List (Option κ)} {first : κ} {acc : κ → Bool} {most : Nat}
theorem seen_le {i : Nat} (h : ∀ j, j < i → j < (bfS nx first j).length) : i ≤ (bfS nx first i).length := by
  cases i with
  | zero => omega
  | succ i =>
    have h1 := h i (by omega)
    have h2 := (bfS_step_prefix (nx := nx) (first := first) i).length_le
    omega
theorem goM_loop {S : Type} {f : S → Option (Out (AutT × Bool) S)} (hm : most ≤ 1000000) (h1 : 1 ≤ most) (st : Nat → S → Prop)
    (hs : ∀ i s, st i s → (∀ j, j < i → j < (bfS nx first j).length) → (bfS nx first i).length ≤ most → i < (bfS nx first i).length → ((bfS nx first (i + 1)).length > most → f s = some (.ret ((0, [], []), false))) ∧ ((bfS nx first (i + 1)).length ≤ most → ∃ s', f s = some (.nxt s') ∧ st (i + 1) s'))
    (he : ∀ i s, st i s → ¬ i < (bfS nx first i).length → f s = some (.brk s)) {s : S} (h0 : st 0 s) :
    (loopM f FUEL s = some (.ret ((0, [], []), false)) ∧ goM nx first acc most (most + 2) 0 = ((0, [], []), false)) ∨
    ∃ N s', loopM f FUEL s = some (.brk s') ∧ st N s' ∧ bfE nx first N ∧ N ≤ most ∧ goM nx first acc most (most + 2) 0 = ((0, (bfS nx first N).map acc, bfR nx first N), true) := by
  obtain ⟨o, e, hq⟩ := loopM_go (f := f) (fun i s => st i s ∧ (∀ j, j < i → j < (bfS nx first j).length) ∧ (bfS nx first i).length ≤ most ∧ goM nx first acc most (most + 2) 0 = goM nx first acc most (most + 2 - i) i)
    (fun o => (o = .ret ((0, [], []), false) ∧ goM nx first acc most (most + 2) 0 = ((0, [], []), false)) ∨ ∃ N s', o = .brk s' ∧ st N s' ∧ bfE nx first N ∧ N ≤ most ∧ goM nx first acc most (most + 2) 0 = ((0, (bfS nx first N).map acc, bfR nx first N), true)) most (s := s) (by
    rintro i s hi ⟨k1, k2, k3, k4⟩
    have hle := seen_le k2
    rw [show most + 2 - i = (most + 1 - i) + 1 from by omega] at k4
    have k5 : goM nx first acc most (most + 1 - i + 1) i = if i < (bfS nx first i).length then (if (bfS nx first (i + 1)).length > most then ((0, [], []), false) else goM nx first acc most (most + 1 - i) (i + 1)) else ((0, ((bfS nx first i).take i).map acc, bfR nx first i), true) := rfl
    rw [k5] at k4
    by_cases c : i < (bfS nx first i).length
    · rw [if_pos c] at k4
      obtain ⟨q1, q2⟩ := hs i s k1 k2 k3 c
      by_cases d : (bfS nx first (i + 1)).length > most
      · rw [if_pos d] at k4
        exact .inr ⟨_, q1 d, (fun s' e => by cases e), .inl ⟨rfl, k4⟩⟩
      · rw [if_neg d] at k4
        obtain ⟨s', e, hs'⟩ := q2 (by omega)
        exact .inl ⟨by omega, s', e, hs', fun j hj => (by
          by_cases ej : j = i
          · subst ej; exact c
          · exact k2 j (by omega)), by omega, by rw [k4]; congr 1; omega⟩
    · rw [if_neg c] at k4
      refine .inr ⟨_, he i s k1 c, (fun s' e => by cases e), .inr ⟨i, s, rfl, k1, ⟨by omega, k2⟩, hi, ?_⟩⟩
      rw [k4, List.take_of_length_le (by omega)]) ⟨h0, fun j hj => by omega, by simp [bfS]; omega, rfl⟩ (up63 (by omega))
  rcases hq with ⟨rfl, h⟩ | ⟨N, s', rfl, h⟩
  · exact .inl ⟨e, h⟩
  · exact .inr ⟨N, s', e, h⟩
end
section
variable {p : PosT} {most : Nat} (hl : p.2.2.2.1.length = p.1.length) (hb : p.1.length ≤ 1000000) (hm : most ≤ 900000) (h1 : 1 ≤ most)
include hl hb hm h1
theorem i_det : m_i_determinize p most = some (goM (nxS p) 1 (accP1 p) most (most + 2) 0) := by
  have hp3 : ∀ (l : List Int) (i k : Nat), k < 9 → ∃ j, (fun a0 a1 => m_i_determinize_1 a0 a1 (p.1, p.2.1, p.2.2.1, p.2.2.2.1, p.2.2.2.2)) (nth l (i : Int)) (k : Int) = some (match nth (nxS p (nth l (i : Int))) (k : Int) with | some y => (y, true) | none => (j, false)) := by
    intro l i k hk
    refine ⟨0, ?_⟩
    show m_i_determinize_1 _ _ p = _
    unfold m_i_determinize_1
    simp only [peta]
    rw [i_after hl hb, nxS_at hk]; simp only [Option.bind_some]
    by_cases c : aft p (nth l (i : Int)) k = 0
    · rw [if_pos c]; simp [c]
    · rw [if_neg c]; simp [c]
  unfold m_i_determinize m_i_numbered_int
  rw [show putM ([] : List (Int × Int)) iOk iOk 1 0 = some [(1, 0)] from by unfold putM; rw [if_pos ⟨by simp, by decide, by decide⟩]]; simp only [Option.bind_some]
  rcases goM_loop (nx := nxS p) (first := 1) (acc := accP1 p) (most := most) (f := m_i_numbered_int_l0 most (fun a0 => m_i_Positions_accepts (p.1, p.2.1, p.2.2.1, p.2.2.2.1, p.2.2.2.2) a0) (fun a0 a1 => m_i_determinize_1 a0 a1 (p.1, p.2.1, p.2.2.1, p.2.2.2.1, p.2.2.2.2)))
    (by omega) h1 (fun i s => ∃ M, s = (bfS (nxS p) 1 i, M, (i : Int), 0, ((bfS (nxS p) 1 i).take i).map (accP1 p), bfR (nxS p) 1 i) ∧ MapOf M (bfS (nxS p) 1 i)) (by
      rintro i s ⟨M, rfl, hM⟩ hj hle hlt
      have hil := seen_le hj
      obtain ⟨M', e, hM'⟩ := i_numb_in (p3 := fun a0 a1 => m_i_determinize_1 a0 a1 (p.1, p.2.1, p.2.2.1, p.2.2.2.1, p.2.2.2.2)) (l := bfS (nxS p) 1 i) (M := M) (os := nxS p (nth (bfS (nxS p) 1 i) (i : Int))) (acs := ((bfS (nxS p) 1 i).take i).map (accP1 p)) (rws := bfR (nxS p) 1 i) hlt (nxS_len _ _) hM (fun y hy => nxS_ok hy)
        (fun k => by
          have := nbS_le (bfS (nxS p) 1 i) ((nxS p (nth (bfS (nxS p) 1 i) (i : Int))).take k)
          have h9 := nxS_len p (nth (bfS (nxS p) 1 i) (i : Int))
          rw [List.length_take] at this
          omega) (fun k hk => hp3 _ i k hk)
      rw [← bfS_succ' hlt] at hM'
      have hl2 := (bfS_step_prefix (nx := nxS p) (first := 1) i).length_le
      constructor
      · intro hgt
        unfold m_i_numbered_int_l0
        simp only
        rw [if_pos (by simp; omega), bindL_brk e, ← bfS_succ' hlt]
        simp only
        rw [if_pos (by simp; omega)]
      · intro hle2
        unfold m_i_numbered_int_l0
        simp only
        rw [if_pos (by simp; omega), bindL_brk e, ← bfS_succ' hlt]
        simp only
        rw [if_neg (by simp; omega), getI_nth (by omega) (by omega)]; simp only [Option.bind_some]
        rw [prefix_nth (bfS_step_prefix i) (by omega) (by omega)]
        simp only [peta]
        rw [i_acc1]; simp only [Option.bind_some]
        have hr : (bfR (nxS p) 1 i).length = i := bfR_length hj
        rw [appI_ok (by simp; omega)]; simp only [Option.bind_some]
        rw [appI_ok (by simp; omega)]; simp only [Option.bind_some, wrap_succ (show i < 9223372036854775807 by omega)]
        exact ⟨_, rfl, M', by rw [acc_succ hlt, bfR_succ' hlt], hM'⟩) (by
      rintro i s ⟨M, rfl, hM⟩ hn
      unfold m_i_numbered_int_l0
      simp only
      rw [if_neg (by simp; omega)]) (s := ([1], [(1, 0)], 0, 0, [], [])) ⟨_, rfl, MapOf.one 1⟩ with ⟨e, hg⟩ | ⟨N, s', e, ⟨M, rfl, hM⟩, hN, hNm, hg⟩
  · rw [bindL_ret e, hg]; rfl
  · rw [bindL_brk e, hg]; simp only [Option.bind_some]
    rw [List.take_of_length_le (by have := hN.1; omega)]
theorem s_det_in {l : List Int} {acs : List Bool} {rws : List (List Int)} {i : Nat} (hi : i < l.length) (hle : l.length ≤ most) :
    loopM (m_s_l11Subsets_l1 p (l, (i : Int), 0, acs, rws)) FUEL (l, [], 0) = some (.brk (nbS l (nxS p (nth l (i : Int))), nbR l (nxS p (nth l (i : Int))), 9)) := by
  have h9 := nxS_len p (nth l (i : Int))
  have := loopM_at (f := m_s_l11Subsets_l1 p (l, (i : Int), 0, acs, rws)) (fun k => (nbS l ((nxS p (nth l (i : Int))).take k), nbR l ((nxS p (nth l (i : Int))).take k), (k : Int))) 9 (fun k hk => by
    have hpre := nbS_prefix l ((nxS p (nth l (i : Int))).take k)
    have hlen := hpre.length_le
    have hB := nbS_le l ((nxS p (nth l (i : Int))).take k)
    rw [List.length_take] at hB
    have hrl : (nbR l ((nxS p (nth l (i : Int))).take k)).length ≤ 9 := by rw [nbR_length, List.length_take]; omega
    unfold m_s_l11Subsets_l1
    simp only [peta]
    rw [if_pos (by simp; omega), getI_nth (by omega) (by omega)]; simp only [Option.bind_some]
    rw [prefix_nth hpre (by omega) (by omega), s_after hl hb]; simp only [Option.bind_some]
    rw [take_one (by omega), nbS_snoc, nbR_snoc, nxS_at hk]
    simp only [wrap_succ (show k < 9223372036854775807 by omega)]
    by_cases c : aft p (nth l (i : Int)) k = 0
    · rw [if_pos c, if_neg (by simp [c])]; simp only [Option.bind_some]
      rw [appI_ok (by simp; omega)]; rfl
    · rw [if_neg c, if_pos (by simpa using c), s_find (by omega)]; simp only [Option.bind_some]
      by_cases d : aft p (nth l (i : Int)) k ∈ nbS l ((nxS p (nth l (i : Int))).take k)
      · rw [if_pos d, if_neg (by simp), nbL_old d]; simp only [Option.bind_some]
        rw [appI_ok (by simp; omega)]; rfl
      · rw [if_neg d, if_pos (by decide), appI_ok (by simp; omega), nbL_new d]; simp only [Option.bind_some]
        rw [appI_ok (by simp; omega)]; simp only [nbI, idxOf_nbL d, Option.bind_some]) (by
    unfold m_s_l11Subsets_l1
    simp) (by unfold FUEL; omega)
  have e9 : (nxS p (nth l (i : Int))).take 9 = nxS p (nth l (i : Int)) := List.take_of_length_le (by omega)
  rw [e9] at this
  exact this
theorem s_det : m_s_l11Subsets p most = some (goM (nxS p) 1 (accP1 p) most (most + 2) 0) := by
  unfold m_s_l11Subsets
  rcases goM_loop (nx := nxS p) (first := 1) (acc := accP1 p) (most := most) (f := m_s_l11Subsets_l0 p most)
    (by omega) h1 (fun i s => s = (bfS (nxS p) 1 i, (i : Int), 0, ((bfS (nxS p) 1 i).take i).map (accP1 p), bfR (nxS p) 1 i)) (by
      rintro i s rfl hj hle hlt
      have hil := seen_le hj
      have e := s_det_in hl hb hm h1 (acs := ((bfS (nxS p) 1 i).take i).map (accP1 p)) (rws := bfR (nxS p) 1 i) hlt hle
      have hl2 := (bfS_step_prefix (nx := nxS p) (first := 1) i).length_le
      constructor
      · intro hgt
        unfold m_s_l11Subsets_l0
        simp only
        rw [if_pos (by simp; omega), bindL_brk e, ← bfS_succ' hlt]
        simp only
        rw [if_pos (by simp; omega)]
      · intro hle2
        unfold m_s_l11Subsets_l0
        simp only
        rw [if_pos (by simp; omega), bindL_brk e, ← bfS_succ' hlt]
        simp only
        rw [if_neg (by simp; omega), getI_nth (by omega) (by omega)]; simp only [Option.bind_some]
        rw [prefix_nth (bfS_step_prefix i) (by omega) (by omega)]
        simp only [peta]
        rw [s_acc1]; simp only [Option.bind_some]
        have hr : (bfR (nxS p) 1 i).length = i := bfR_length hj
        rw [appI_ok (by simp; omega)]; simp only [Option.bind_some]
        rw [appI_ok (by simp; omega)]; simp only [Option.bind_some, wrap_succ (show i < 9223372036854775807 by omega)]
        exact ⟨_, rfl, by rw [acc_succ hlt, bfR_succ' hlt]⟩) (by
      rintro i s rfl hn
      unfold m_s_l11Subsets_l0
      simp only
      rw [if_neg (by simp; omega)]) (s := ([1], 0, 0, [], [])) rfl with ⟨e, hg⟩ | ⟨N, s', e, rfl, hN, hNm, hg⟩
  · rw [bindL_ret e, hg]
  · rw [bindL_brk e, hg]; simp only
    rw [List.take_of_length_le (by have := hN.1; omega)]
end
end Go.Proofs.YtimjccbdngajoaaGreat.D
/- Positions of an expression: the reference and the program build the same. -/
set_option linter.unusedVariables false
set_option linter.unusedSimpArgs false
set_option linter.unnecessarySimpa false
set_option linter.unusedSectionVars false
namespace Go.Proofs.YtimjccbdngajoaaGreat.D
open Go.RowKit

theorem orI_comm (m n : Int) : orI m n = orI n m := by unfold orI; rw [BitVec.or_comm]
def lk (F : List Int) (from_ to_ : Int) : Nat → List Int
  | 0 => F
  | i + 1 => if bitI from_ i then (lk F from_ to_ i).set i (orI (nth (lk F from_ to_ i) (i : Int)) to_) else lk F from_ to_ i
theorem lk_len (F : List Int) (f t : Int) : ∀ i, (lk F f t i).length = F.length
  | 0 => rfl
  | i + 1 => by
    rw [lk]
    split
    · rw [List.length_set, lk_len]
    · exact lk_len F f t i
theorem s_link {p : PosT} {f t : Int} (hl : p.2.2.2.1.length ≤ 1000000) : m_s_l10Link p f t = some (p.1, p.2.1, p.2.2.1, lk p.2.2.2.1 f t p.2.2.2.1.length, p.2.2.2.2) := by
  have hL : loopM (m_s_l10Link_l0 f t) FUEL (0, p.2.2.2.1) = some (.brk ((p.2.2.2.1.length : Int), lk p.2.2.2.1 f t p.2.2.2.1.length)) := loopM_at (f := m_s_l10Link_l0 f t) (fun i => ((i : Int), lk p.2.2.2.1 f t i)) p.2.2.2.1.length (fun i hi => by
    have hk := lk_len p.2.2.2.1 f t i
    unfold m_s_l10Link_l0
    simp only
    rw [if_pos (by simp; omega), chk_nat]; simp only [Option.bind_some]
    rw [lk, wrap_succ (by omega)]
    by_cases c : bitI f i = true
    · rw [if_pos c, if_pos c, getI_nth (by omega) (by omega)]; simp only [Option.bind_some, Int.toNat_natCast]
    · rw [if_neg c, if_neg c]; rfl) (by unfold m_s_l10Link_l0; simp [lk_len]) (up63 (by omega))
  unfold m_s_l10Link
  rw [bindL_brk hL]
theorem i_follow {p : PosT} {f t : Int} (hl : p.2.2.2.1.length ≤ 1000000) : m_i_Positions_follow p f t = some (p.1, p.2.1, p.2.2.1, lk p.2.2.2.1 f t p.2.2.2.1.length, p.2.2.2.2) := by
  have hL : loopM (m_i_Positions_follow_l0 p f t) FUEL (0, p.2.2.2.1) = some (.brk ((p.2.2.2.1.length : Int), lk p.2.2.2.1 f t p.2.2.2.1.length)) := loopM_at (f := m_i_Positions_follow_l0 p f t) (fun i => ((i : Int), lk p.2.2.2.1 f t i)) p.2.2.2.1.length (fun i hi => by
    have hk := lk_len p.2.2.2.1 f t i
    unfold m_i_Positions_follow_l0
    simp only
    rw [if_pos (by simp; omega), chk_nat]; simp only [Option.bind_some]
    rw [lk, wrap_succ (by omega)]
    by_cases c : bitI f i = true
    · rw [if_pos c, if_pos c, getI_nth (by omega) (by omega)]; simp only [Option.bind_some, Int.toNat_natCast]
    · rw [if_neg c, if_neg c]; rfl) (by unfold m_i_Positions_follow_l0; simp) (up63 (by omega))
  unfold m_i_Positions_follow
  rw [bindL_brk hL]
def BOk (x : Tr Tok) : Prop := ∀ (n m : Nat) (p : PosT), (flat x).length ≤ n → (flat x).length ≤ m → p.2.2.2.1.length = p.1.length → p.1.length + (flat x).length ≤ 100000 →
  ∃ (nu : Bool) (fi la : Int) (q : PosT), m_s_l10Build n p (flat x) = some ((nu, fi, la), q) ∧ m_i_Positions_build m p x = some ((fi, la, nu), q) ∧ q.2.2.2.1.length = q.1.length ∧ q.1.length ≤ p.1.length + (flat x).length
theorem build_ok {x : Tr Tok} (h : WT x) : BOk x := by
  refine WT.ind (p := BOk) ?_ ?_ ?_ h
  · intro t e n m p hn hm hF hl
    rw [flat0] at hn hm hl ⊢
    simp only [List.length_cons, List.length_nil] at hl
    match n, m, hn, hm with
    | n + 1, m + 1, _, _ =>
      rw [m_s_l10Build, m_i_Positions_build]; simp only [tr_get, Option.bind_some]
      have := (last_tok (A := []) (t := t) (by simp)).1
      rw [List.nil_append] at this
      rw [this]; simp only [Option.bind_some, peta]
      rcases ar_kind (show 0 ≤ ar t by omega) with ⟨k, _⟩ | ⟨k, _⟩ | ⟨_, k⟩
      · omega
      · omega
      rcases k with k | k | k
      · exact ⟨false, 0, 0, p, by simp [k], by simp [k], hF, by simp⟩
      · exact ⟨true, 0, 0, p, by simp [k], by simp [k], hF, by simp⟩
      · refine ⟨false, shlI 1 (p.1.length : Int), shlI 1 (p.1.length : Int), (p.1 ++ [t.2.1], p.2.1, p.2.2.1, p.2.2.2.1 ++ [0], p.2.2.2.2), ?_, ?_, by simp [hF], by simp⟩
        · rw [if_neg (by simp [k]), if_pos (by simp [k]), appI_ok (by simp; omega)]; simp only [Option.bind_some]
          rw [appI_ok (by simp; omega)]; rfl
        · rw [if_neg (by simp [k]), if_pos (by simp [k]), appI_ok (by simp; omega)]; simp only [Option.bind_some]
          rw [appI_ok (by simp; omega)]; rfl
  · intro t a e wa ih n m p hn hm hF hl
    rw [flat1] at hn hm hl ⊢
    simp only [List.length_append, List.length_cons, List.length_nil] at hn hm hl
    match n, m, hn, hm with
    | n + 1, m + 1, hn, hm =>
      rw [m_s_l10Build, m_i_Positions_build]; simp only [tr_get, Option.bind_some, peta]
      obtain ⟨l1, l2⟩ := last_tok (A := flat a) (t := t) (by omega)
      rw [l1]; simp only [Option.bind_some]
      obtain ⟨nu, fi, la, q, hs, hi, hq1, hq2⟩ := ih n m p (by omega) (by omega) hF (by omega)
      rcases kind1 e with ⟨k1, k2⟩ | ⟨k1, k2, k3⟩
      · have g2 : (t.1 == 2) = false := by simp [k2]
        have g3 : (t.1 == 3) = false := by simp [k2]
        have g4 : (t.1 == 4) = false := by simp [k2]
        have g5 : (t.1 == 5) = false := by simp [k2]
        simp only [g2, g3, g4, g5, k1, Bool.false_eq_true, if_false, if_true]
        rw [l2, Int.toNat_natCast, List.take_left, chk_of (by simp only [List.length_append, List.length_cons, List.length_nil]; omega)]; simp only [Option.bind_some]
        rw [hs, show getI [a] 0 = some a from rfl]; simp only [Option.bind_some]
        rw [hi]; simp only [Option.bind_some, peta]
        rw [s_link (by omega), i_follow (by omega)]; simp only [Option.bind_some]
        refine ⟨true, fi, la, _, rfl, rfl, ?_, ?_⟩
        · simp only [lk_len]; exact hq1
        · simp only [List.length_append, List.length_cons, List.length_nil]; omega
      · have g2 : (t.1 == 2) = false := by simp [k3]
        have g3 : (t.1 == 3) = false := by simp [k3]
        have g4 : (t.1 == 4) = false := by simp [k3]
        have g5 : (t.1 == 5) = false := by simp [k3]
        simp only [g2, g3, g4, g5, k1, Bool.false_eq_true, if_false]
        exact ⟨false, 0, 0, p, rfl, rfl, hF, by omega⟩
  · intro t a b e wa wb iha ihb n m p hn hm hF hl
    rw [flat2] at hn hm hl ⊢
    have hl2 : ((flat a ++ flat b) ++ [t]).length ≤ 1000000 := by omega
    obtain ⟨p1, p2, p3, p4⟩ := two_parts (a := a) (t := t) wb hl2
    simp only [List.length_append, List.length_cons, List.length_nil] at hn hm hl
    match n, m, hn, hm with
    | n + 1, m + 1, hn, hm =>
      have hpa := wa.pos
      have hpb := wb.pos
      rw [m_s_l10Build, m_i_Positions_build]; simp only [tr_get, Option.bind_some, peta]
      obtain ⟨l1, l2⟩ := last_tok (A := flat a ++ flat b) (t := t) (by rw [List.length_append]; omega)
      rw [l1]; simp only [Option.bind_some]
      obtain ⟨nu, fi, la, q, hs, hi, hq1, hq2⟩ := iha n m p (by omega) (by omega) hF (by omega)
      obtain ⟨nu2, fi2, la2, q2, hs2, hi2, hq3, hq4⟩ := ihb n m q (by omega) (by omega) hq1 (by omega)
      have c1 : ∀ r : Int, 0 ≤ r → r ≤ ((flat a ++ flat b ++ [t]).length : Int) → chk (0 ≤ r ∧ r ≤ ((flat a ++ flat b ++ [t]).length : Int)) = some () := fun r h1 h2 => chk_of ⟨h1, h2⟩
      have g0 : getI [a, b] 0 = some a := rfl
      have g1 : getI [a, b] 1 = some b := rfl
      rcases ar_kind (show 0 ≤ ar t by omega) with ⟨_, k⟩ | ⟨k, _⟩ | ⟨k, _⟩
      · rcases k with k | k
        · have g2 : (t.1 == 2) = false := by simp [k]
          have g3 : (t.1 == 3) = false := by simp [k]
          have g4 : (t.1 == 4) = true := by simp [k]
          have g5 : (t.1 == 5) = false := by simp [k]
          simp only [g2, g3, g4, g5, Bool.false_eq_true, if_false, if_true]
          rw [l2, p1, p2, chk_of (by simp only [List.length_append, List.length_cons, List.length_nil]; omega)]; simp only [Option.bind_some]
          rw [chk_of (by simp only [List.length_append, List.length_cons, List.length_nil]; omega), p3, p4, hs, g0, g1]; simp only [Option.bind_some]
          rw [hi, chk_of (by simp only [List.length_append, List.length_cons, List.length_nil]; omega)]; simp only [Option.bind_some, peta]
          rw [hs2, hi2]; simp only [Option.bind_some, peta]
          rw [s_link (by omega), i_follow (by omega)]; simp only [Option.bind_some]
          refine ⟨nu && nu2, if nu then orI fi fi2 else fi, if nu2 then orI la la2 else la2, (q2.1, q2.2.1, q2.2.2.1, lk q2.2.2.2.1 la fi2 q2.2.2.2.1.length, q2.2.2.2.2), ?_, ?_, ?_, ?_⟩
          · cases nu <;> cases nu2 <;> rfl
          · rw [orI_comm la la2]
            cases nu <;> cases nu2 <;> rfl
          · simp only [lk_len]; exact hq3
          · simp only [List.length_append, List.length_cons, List.length_nil]; omega
        · have g2 : (t.1 == 2) = false := by simp [k]
          have g3 : (t.1 == 3) = false := by simp [k]
          have g4 : (t.1 == 4) = false := by simp [k]
          have g5 : (t.1 == 5) = true := by simp [k]
          simp only [g2, g3, g4, g5, Bool.false_eq_true, if_false, if_true]
          rw [l2, p1, p2, chk_of (by simp only [List.length_append, List.length_cons, List.length_nil]; omega)]; simp only [Option.bind_some]
          rw [chk_of (by simp only [List.length_append, List.length_cons, List.length_nil]; omega), p3, p4, hs, g0, g1]; simp only [Option.bind_some]
          rw [hi, chk_of (by simp only [List.length_append, List.length_cons, List.length_nil]; omega)]; simp only [Option.bind_some, peta]
          rw [hs2, hi2]; simp only [Option.bind_some, peta]
          refine ⟨nu || nu2, orI fi fi2, orI la la2, q2, ?_, ?_, hq3, ?_⟩
          · cases nu <;> simp
          · cases nu <;> simp
          · simp only [List.length_append, List.length_cons, List.length_nil]; omega
      · omega
      · omega
def cnt3 (e : List Tok) : Nat → Nat
  | 0 => 0
  | i + 1 => if (nth e (i : Int)).1 = 3 then cnt3 e i + 1 else cnt3 e i
theorem cnt3_le (e : List Tok) : ∀ i, cnt3 e i ≤ i
  | 0 => Nat.le_refl _
  | i + 1 => by
    have := cnt3_le e i
    rw [cnt3]; split <;> omega
theorem s_cnt {r : List Tok × Bool} (hl : r.1.length ≤ 1000000) : loopM (m_s_BuildPositions_l0 r) FUEL (0, 0) = some (.brk ((cnt3 r.1 r.1.length : Int), (r.1.length : Int))) :=
  loopM_at (f := m_s_BuildPositions_l0 r) (fun i => ((cnt3 r.1 i : Int), (i : Int))) r.1.length (fun i hi => by
    have := cnt3_le r.1 i
    unfold m_s_BuildPositions_l0
    simp only
    rw [if_pos (by simp; omega), getI_nth (by omega) (by omega)]; simp only [Option.bind_some]
    rw [cnt3, wrap_succ (show i < 9223372036854775807 by omega), wrap_succ (show cnt3 r.1 i < 9223372036854775807 by omega)]
    by_cases c : (nth r.1 (i : Int)).1 = 3
    · rw [if_pos (by simpa using c), if_pos c]; rfl
    · rw [if_neg (by simpa using c), if_neg c]; rfl) (by unfold m_s_BuildPositions_l0; simp) (up63 (by omega))
theorem i_cnt {r : List Tok × Bool} (hl : r.1.length ≤ 1000000) : loopM (m_i_BuildPositions_l0 r) FUEL (0, 0) = some (.brk ((cnt3 r.1 r.1.length : Int), (r.1.length : Int))) :=
  loopM_at (f := m_i_BuildPositions_l0 r) (fun i => ((cnt3 r.1 i : Int), (i : Int))) r.1.length (fun i hi => by
    have := cnt3_le r.1 i
    unfold m_i_BuildPositions_l0
    simp only
    rw [if_pos (by simp; omega), getI_nth (by omega) (by omega)]; simp only [Option.bind_some]
    rw [cnt3, wrap_succ (show i < 9223372036854775807 by omega), wrap_succ (show cnt3 r.1 i < 9223372036854775807 by omega)]
    by_cases c : (nth r.1 (i : Int)).1 = 3
    · rw [if_pos (by simpa using c), if_pos c]; rfl
    · rw [if_neg (by simpa using c), if_neg c]; rfl) (by unfold m_i_BuildPositions_l0; simp) (up63 (by omega))
theorem buildPositions_both {e : List Tok} (he : e.length ≤ 1048576) : ∃ r : PosT × Bool, m_s_BuildPositions e = some r ∧ m_i_BuildPositions e = some r ∧ r.1.2.2.2.1.length = r.1.1.length ∧ r.1.1.length ≤ 100000 := by
  have hF := FUELR_big
  obtain ⟨e1, e2⟩ := expand_both he
  unfold m_s_BuildPositions m_i_BuildPositions
  rw [e1, e2]; simp only [Option.bind_some]
  by_cases c : (expR e).2 = true
  · obtain ⟨y, wy, ey, ly⟩ := expR_ok c
    rw [if_pos c, if_pos c, bindL_brk (s_cnt (by rw [ey]; omega)), bindL_brk (i_cnt (by rw [ey]; omega))]
    simp only
    by_cases d : (cnt3 (expR e).1 (expR e).1.length : Int) > 20
    · have d' : decide ((cnt3 (expR e).1 (expR e).1.length : Int) > 20) = true := decide_eq_true d
      simp only [d', if_true]
      exact ⟨_, rfl, rfl, rfl, by simp⟩
    · have d' : decide ((cnt3 (expR e).1 (expR e).1.length : Int) > 20) = false := decide_eq_false d
      simp only [d', Bool.false_eq_true, if_false]
      rw [ey, i_treeOf (by omega), treeX_flat wy]; simp only [Option.bind_some]
      obtain ⟨nu, fi, la, q, hs, hi, hq1, hq2⟩ := build_ok wy FUELR FUELR ([], 0, 0, [], false) (by omega) (by omega) rfl (by simp; omega)
      rw [hs, hi]; simp only [Option.bind_some]
      exact ⟨_, rfl, rfl, hq1, by simp at hq2; show q.1.length ≤ _; omega⟩
  · rw [if_neg c, if_neg c]
    exact ⟨_, rfl, rfl, rfl, by simp⟩
end Go.Proofs.YtimjccbdngajoaaGreat.D
/- Classes of states and the minimal automaton, by the reference and by the program. -/
set_option linter.unusedVariables false
set_option linter.unusedSimpArgs false
set_option linter.unnecessarySimpa false
set_option linter.unusedSectionVars false
namespace Go.Proofs.YtimjccbdngajoaaGreat.D
open Go.RowKit

/-! ### Numberings that refine -/
theorem nbI_stable {κ : Type} [DecidableEq κ] {l m : List κ} (h : l <+: m) {y : κ} (hy : y ∈ l) : (m.idxOf y : Int) = l.idxOf y := by
  obtain ⟨t, rfl⟩ := h
  rw [List.idxOf_append, if_pos hy]
theorem nbR_at {κ : Type} [DecidableEq κ] : ∀ (l : List κ) (os : List (Option κ)) (i : Nat), i < os.length → nth (nbR l os) (i : Int) = nbI (nbS l os) (nth os (i : Int))
  | l, o :: os, 0, _ => by
    show nbI l o = nbI (nbS (nbL l o) os) o
    cases o with
    | none => rfl
    | some y =>
      have hm : y ∈ nbL l (some y) := mem_nbL.2 (.inr rfl)
      simp only [nbI]
      rw [nbI_stable (nbS_prefix _ os) hm]
      by_cases c : y ∈ l
      · rw [nbL_old c]
      · rw [nbL_new c, List.idxOf_append, if_neg c, idxOf_nbL c]; simp
  | l, o :: os, i + 1, h => by
    have h' : i < os.length := by simpa using h
    have ih := nbR_at (nbL l o) os i h'
    have e1 : nth (nbR l (o :: os)) ((i + 1 : Nat) : Int) = nth (nbR (nbL l o) os) (i : Int) := by
      rw [nth_nat (by rw [nbR_length]; exact h), nth_nat (by rw [nbR_length]; exact h')]; rfl
    have e2 : nth (o :: os) ((i + 1 : Nat) : Int) = nth os (i : Int) := by rw [nth_nat h, nth_nat h']; rfl
    rw [e1, e2]; exact ih
theorem nbI_mem {κ : Type} [DecidableEq κ] {l : List κ} {y : κ} (h : y ∈ l) : ∃ (q : Nat) (hq : q < l.length), nbI l (some y) = (q : Int) ∧ l[q] = y :=
  ⟨l.idxOf y, List.idxOf_lt_length_of_mem h, rfl, by simp⟩
theorem nbI_new {κ : Type} [DecidableEq κ] {l : List κ} {y : κ} (h : y ∉ l) : nbI l (some y) = (l.length : Int) := by simp only [nbI, idxOf_nbL h]
def Norm : List Int → Nat → Nat → Prop
  | [], c, m => c = m
  | x :: xs, c, m => (x = -1 ∧ Norm xs c m) ∨ (0 ≤ x ∧ x < c ∧ Norm xs c m) ∨ (x = c ∧ Norm xs (c + 1) m)
theorem norm_nb {κ : Type} [DecidableEq κ] : ∀ (os : List (Option κ)) (l : List κ), Norm (nbR l os) l.length (nbS l os).length
  | [], l => rfl
  | none :: os, l => .inl ⟨rfl, norm_nb os l⟩
  | some y :: os, l => by
    by_cases c : y ∈ l
    · refine .inr (.inl ⟨Int.natCast_nonneg _, ?_, ?_⟩)
      · have := List.idxOf_lt_length_of_mem c
        simp only [nbI]; omega
      · show Norm (nbR (nbL l (some y)) os) l.length (nbS (nbL l (some y)) os).length
        rw [nbL_old c]; exact norm_nb os l
    · refine .inr (.inr ⟨by simp only [nbI, idxOf_nbL c], ?_⟩)
      show Norm (nbR (nbL l (some y)) os) (l.length + 1) (nbS (nbL l (some y)) os).length
      have := norm_nb os (l ++ [y])
      rw [nbL_new c]
      simpa using this
def RelL : List Int → List (Option (List Int)) → Prop
  | [], [] => True
  | x :: xs, o :: os => ((x < 0 ∧ o = none) ∨ (0 ≤ x ∧ ∃ t, o = some (x :: t))) ∧ RelL xs os
  | _, _ => False
theorem relL_of : ∀ (xs : List Int) (os : List (Option (List Int))), xs.length = os.length → (∀ i (h : i < xs.length) (h' : i < os.length), (xs[i] < 0 ∧ os[i] = none) ∨ (0 ≤ xs[i] ∧ ∃ t, os[i] = some (xs[i] :: t))) → RelL xs os
  | [], [], _, _ => trivial
  | x :: xs, o :: os, hl, h => ⟨h 0 (by simp) (by simp), relL_of xs os (by simpa using hl) fun i h1 h2 => h (i + 1) (by simpa using h1) (by simpa using h2)⟩
theorem norm_refine : ∀ (xs : List Int) (os : List (Option (List Int))) (l : List (List Int)) (c m : Nat), RelL xs os → Norm xs c m → (∀ y ∈ l, ∃ h t, y = h :: t ∧ h < c) →
    m + l.length ≤ (nbS l os).length + c ∧ (l.length = c → (∀ (q : Nat) (hq : q < l.length), ∃ t, l[q] = (q : Int) :: t) → (nbS l os).length = m → nbR l os = xs)
  | [], [], l, c, m, _, hn, _ => by
    have hn : c = m := hn
    subst hn
    exact ⟨by simp [nbS]; omega, fun _ _ _ => rfl⟩
  | x :: xs, o :: os, l, c, m, hr, hn, hh => by
    obtain ⟨hr1, hr2⟩ := hr
    rcases hn with ⟨rfl, hn⟩ | ⟨hx0, hxc, hn⟩ | ⟨rfl, hn⟩
    · have ho : o = none := by
        rcases hr1 with ⟨-, h⟩ | ⟨h, -⟩
        · exact h
        · omega
      subst ho
      obtain ⟨i1, i2⟩ := norm_refine xs os l c m hr2 hn hh
      exact ⟨i1, fun h1 h2 h3 => by show -1 :: nbR l os = _; rw [i2 h1 h2 h3]⟩
    · obtain ⟨t, rfl⟩ : ∃ t, o = some (x :: t) := by
        rcases hr1 with ⟨h, -⟩ | ⟨-, h⟩
        · omega
        · exact h
      by_cases k : (x :: t) ∈ l
      · obtain ⟨i1, i2⟩ := norm_refine xs os l c m hr2 hn hh
        have hb : nbL l (some (x :: t)) = l := nbL_old k
        refine ⟨by show m + l.length ≤ (nbS (nbL l (some (x :: t))) os).length + c; rw [hb]; exact i1, fun h1 h2 h3 => ?_⟩
        have h3 : (nbS (nbL l (some (x :: t))) os).length = m := h3
        rw [hb] at h3
        obtain ⟨q, hq, e1, e2⟩ := nbI_mem k
        obtain ⟨t', ht'⟩ := h2 _ hq
        rw [e2] at ht'
        have : x = (q : Int) := by injection ht'
        show nbI l (some (x :: t)) :: nbR (nbL l (some (x :: t))) os = _
        rw [e1, ← this, hb, i2 h1 h2 h3]
      · have hb : nbL l (some (x :: t)) = l ++ [x :: t] := nbL_new k
        obtain ⟨i1, i2⟩ := norm_refine xs os (l ++ [x :: t]) c m hr2 hn (fun y hy => by
          rcases List.mem_append.1 hy with hy | hy
          · exact hh y hy
          · obtain rfl := List.mem_singleton.1 hy
            exact ⟨x, t, rfl, hxc⟩)
        rw [List.length_append, List.length_singleton] at i1
        refine ⟨by show m + l.length ≤ (nbS (nbL l (some (x :: t))) os).length + c; rw [hb]; omega, fun h1 h2 h3 => ?_⟩
        have h3 : (nbS (nbL l (some (x :: t))) os).length = m := h3
        rw [hb] at h3
        omega
    · obtain ⟨t, rfl⟩ : ∃ t, o = some ((c : Int) :: t) := by
        rcases hr1 with ⟨h, -⟩ | ⟨-, h⟩
        · omega
        · exact h
      have k : ((c : Int) :: t) ∉ l := fun k => by
        obtain ⟨h, t', e, hlt⟩ := hh _ k
        have : (c : Int) = h := by injection e
        omega
      have hb : nbL l (some ((c : Int) :: t)) = l ++ [(c : Int) :: t] := nbL_new k
      obtain ⟨i1, i2⟩ := norm_refine xs os (l ++ [(c : Int) :: t]) (c + 1) m hr2 hn (fun y hy => by
        rcases List.mem_append.1 hy with hy | hy
        · obtain ⟨h, t', e, hlt⟩ := hh y hy
          exact ⟨h, t', e, by omega⟩
        · obtain rfl := List.mem_singleton.1 hy
          exact ⟨c, t, rfl, by omega⟩)
      have hlen : (l ++ [(c : Int) :: t]).length = l.length + 1 := by simp
      rw [hlen] at i1
      refine ⟨by show m + l.length ≤ (nbS (nbL l (some ((c : Int) :: t))) os).length + c; rw [hb]; omega, fun h1 h2 h3 => ?_⟩
      have h3 : (nbS (nbL l (some ((c : Int) :: t))) os).length = m := h3
      rw [hb] at h3
      have := i2 (by rw [hlen, h1]) (fun q hq => by
        by_cases e : q < l.length
        · rw [List.getElem_append_left e]; exact h2 q e
        · have e : q = l.length := by omega
          subst e
          exact ⟨t, by simp; omega⟩) h3
      show nbI l (some ((c : Int) :: t)) :: nbR (nbL l (some ((c : Int) :: t))) os = _
      rw [hb, this, nbI_new k, h1]

/-! ### Comparing rows -/
theorem q_l2Cmp (xs ys : List Int) (hN : xs.length ≤ 1048576) : ∃ r, m_s_l2Cmp xs ys = some r ∧ (r = 0 ↔ xs = ys) := by
  unfold m_s_l2Cmp
  have h0 := cmpGo (f := m_s_l2Cmp_l0 xs ys) xs ys (fun i h h' => by
    simp only [m_s_l2Cmp_l0, lt_nat h, lt_nat h', if_true, getI_nat h, getI_nat h', Option.bind_some, wrap_succ (show i < 9223372036854775807 by omega)]
    by_cases h1 : xs[i] < ys[i]
    · simp [h1]
    · by_cases h2 : xs[i] > ys[i]
      · simp [h1, h2]
      · simp [h1, h2]) (fun i hi => by
    simp only [m_s_l2Cmp_l0]
    by_cases h1 : i < xs.length
    · have h2 : ¬ i < ys.length := by omega
      simp [h1, h2]
    · simp [h1]) xs.length 0 FUEL (by omega) (fuelUp _ (by omega))
  rw [show (((0 : Nat) : Int)) = (0 : Int) from rfl] at h0
  rcases h0 with ⟨r, e, h1, h2⟩ | ⟨s, e, h1⟩
  · exact ⟨r, by rw [e]; rfl, by simp [h1, h2]⟩
  · rw [e]
    simp only [bindL]
    by_cases c1 : xs.length < ys.length
    · exact ⟨-1, by simp [c1], by simp; intro e; subst e; omega⟩
    · by_cases c2 : xs.length > ys.length
      · exact ⟨1, by simp [c1, c2], by simp; intro e; subst e; omega⟩
      · exact ⟨0, by simp [c1, c2], by simpa using h1 (by omega)⟩
theorem q_sliceEq (xs ys : List Int) (hN : xs.length ≤ 9223372036854775807) : m_g_slices_Equal_S_int_int xs ys = some (decide (xs = ys)) :=
  eqL (f := m_g_slices_Equal_S_int_int_l0 xs ys) xs ys hN (fun i h h' => by
    simp only [m_g_slices_Equal_S_int_int_l0, lt_nat h, if_true, getI_nat h, getI_nat h', Option.bind_some, wrap_succ (show i < 9223372036854775807 by omega)]
    by_cases c : xs[i] = ys[i] <;> simp [c]) (by simp only [m_g_slices_Equal_S_int_int_l0, lt_self]; rfl)

/-! ### Classes -/
def cls0 (a : AutT) : List Int := (List.range a.2.1.length).map fun s : Nat => if nth (live a) (s : Int) = true then (if nth a.2.1 (s : Int) = true then 1 else 0) else -1
def ent (a : AutT) (c : List Int) (s : Int) (k : Nat) : Int := if mv a s k < 0 then -1 else nth c (mv a s k)
def keyL (a : AutT) (c : List Int) (s : Int) : List Int := nth c s :: (List.range 9).map fun k => ent a c s k
def keyO (a : AutT) (c : List Int) (s : Nat) : Option (List Int) := if nth c (s : Int) < 0 then none else some (keyL a c s)
def keys (a : AutT) (c : List Int) : List (Option (List Int)) := (List.range a.2.1.length).map (keyO a c)
def refn (a : AutT) (c : List Int) : List Int := nbR [] (keys a c)
def refN (a : AutT) (c : List Int) : Nat := (nbS [] (keys a c)).length
def cI (a : AutT) : Nat → List Int
  | 0 => cls0 a
  | j + 1 => refn a (cI a j)
section
variable {a : AutT} {n : Nat}
theorem keys_length (a : AutT) (c : List Int) : (keys a c).length = a.2.1.length := by simp [keys]
theorem keys_at {c : List Int} {s : Nat} (h : s < a.2.1.length) : nth (keys a c) (s : Int) = keyO a c s := by
  rw [nth_nat (by simpa [keys] using h)]; simp [keys]
theorem refn_length (a : AutT) (c : List Int) : (refn a c).length = a.2.1.length := by rw [refn, nbR_length, keys_length]
theorem cI_length (a : AutT) : ∀ j, (cI a j).length = a.2.1.length
  | 0 => by simp [cI, cls0]
  | j + 1 => refn_length a _
theorem nbS_length_le {κ : Type} [DecidableEq κ] : ∀ (l : List κ) (os : List (Option κ)), (nbS l os).length ≤ l.length + os.length
  | l, [] => by simp [nbS]
  | l, o :: os => by
    have h := nbS_length_le (nbL l o) os
    have : (nbL l o).length ≤ l.length + 1 := by
      cases o with
      | none => simp [nbL]
      | some x => unfold nbL; simp only; split <;> simp
    show (nbS (nbL l o) os).length ≤ _
    rw [List.length_cons]; omega
theorem refN_le (a : AutT) (c : List Int) : refN a c ≤ a.2.1.length := by
  have := nbS_length_le ([] : List (List Int)) (keys a c)
  rw [keys_length] at this
  simpa [refN] using this
theorem refn_at {c : List Int} {s : Nat} (h : s < a.2.1.length) : nth (refn a c) (s : Int) = nbI (nbS [] (keys a c)) (keyO a c s) := by
  rw [refn, nbR_at _ _ _ (by rw [keys_length]; exact h), keys_at h]
theorem key_mem {c : List Int} {s : Nat} (h : s < a.2.1.length) (hc : ¬ nth c (s : Int) < 0) : keyL a c s ∈ nbS [] (keys a c) := by
  refine mem_nbS.2 (.inr ?_)
  refine List.mem_map.2 ⟨s, List.mem_range.2 h, ?_⟩
  unfold keyO; rw [if_neg hc]
theorem refn_neg {c : List Int} {s : Nat} (h : s < a.2.1.length) : (nth (refn a c) (s : Int) < 0 ↔ nth c (s : Int) < 0) ∧ (nth (refn a c) (s : Int) < 0 → nth (refn a c) (s : Int) = -1) := by
  rw [refn_at h]
  unfold keyO
  by_cases hc : nth c (s : Int) < 0
  · rw [if_pos hc]; simp [nbI, hc]
  · rw [if_neg hc]
    obtain ⟨q, hq, e, -⟩ := nbI_mem (key_mem h hc)
    rw [e]
    exact ⟨⟨fun h => by omega, fun h => absurd h hc⟩, fun h => by omega⟩
theorem refn_lt {c : List Int} {s : Nat} (h : s < a.2.1.length) : nth (refn a c) (s : Int) < (a.2.1.length : Int) := by
  rw [refn_at h]
  unfold keyO
  by_cases hc : nth c (s : Int) < 0
  · rw [if_pos hc]; simp only [nbI]; omega
  · rw [if_neg hc]
    obtain ⟨q, hq, e, -⟩ := nbI_mem (key_mem h hc)
    have := refN_le a c
    unfold refN at this
    rw [e]; omega
theorem refn_eq {c : List Int} {s t : Nat} (hs : s < a.2.1.length) (ht : t < a.2.1.length) (h0 : 0 ≤ nth (refn a c) (s : Int)) (h : nth (refn a c) (s : Int) = nth (refn a c) (t : Int)) : keyL a c s = keyL a c t := by
  have n1 : ¬ nth c (s : Int) < 0 := fun k => by have := (refn_neg hs).1.2 k; omega
  have n2 : ¬ nth c (t : Int) < 0 := fun k => by have := (refn_neg ht).1.2 k; omega
  rw [refn_at hs, refn_at ht] at h
  unfold keyO at h
  rw [if_neg n1, if_neg n2] at h
  obtain ⟨q, hq, e1, e2⟩ := nbI_mem (key_mem hs n1)
  obtain ⟨q', hq', e1', e2'⟩ := nbI_mem (key_mem ht n2)
  rw [e1, e1'] at h
  obtain rfl : q = q' := by omega
  rw [← e2, ← e2']
theorem cI_neg (a : AutT) {s : Nat} (h : s < a.2.1.length) : ∀ j, (nth (cI a j) (s : Int) < 0 ↔ nth (live a) (s : Int) = false) ∧ (nth (cI a j) (s : Int) < 0 → nth (cI a j) (s : Int) = -1)
  | 0 => by
    have e : nth (cI a 0) (s : Int) = if nth (live a) (s : Int) = true then (if nth a.2.1 (s : Int) = true then 1 else 0) else -1 := by
      show nth (cls0 a) (s : Int) = _
      rw [nth_nat (by simpa [cls0] using h)]; simp [cls0]
    rw [e]
    cases nth (live a) (s : Int) <;> cases nth a.2.1 (s : Int) <;> simp
  | j + 1 => by
    have ih := cI_neg a h j
    have := refn_neg (c := cI a j) h
    exact ⟨this.1.trans ih.1, this.2⟩
theorem cI_acc (a : AutT) {s t : Nat} (hs : s < a.2.1.length) (ht : t < a.2.1.length) : ∀ j, 0 ≤ nth (cI a j) (s : Int) → nth (cI a j) (s : Int) = nth (cI a j) (t : Int) → nth a.2.1 (s : Int) = nth a.2.1 (t : Int)
  | 0, h0, h => by
    have e : ∀ {s : Nat}, s < a.2.1.length → nth (cI a 0) (s : Int) = if nth (live a) (s : Int) = true then (if nth a.2.1 (s : Int) = true then 1 else 0) else -1 := by
      intro s h
      show nth (cls0 a) (s : Int) = _
      rw [nth_nat (by simpa [cls0] using h)]; simp [cls0]
    rw [e hs] at h0 h
    rw [e ht] at h
    revert h0 h
    cases nth (live a) (s : Int) <;> cases nth a.2.1 (s : Int) <;> cases nth (live a) (t : Int) <;> cases nth a.2.1 (t : Int) <;> simp
  | j + 1, h0, h => by
    have k := refn_eq (c := cI a j) hs ht h0 h
    have h1 : nth (cI a j) (s : Int) = nth (cI a j) (t : Int) := by
      unfold keyL at k; injection k
    refine cI_acc a hs ht j ?_ h1
    have := (refn_neg (c := cI a j) hs).1
    by_cases q : nth (cI a j) (s : Int) < 0
    · have := this.2 q
      have h0 : 0 ≤ nth (refn a (cI a j)) (s : Int) := h0
      omega
    · omega
theorem cI_norm (a : AutT) (j : Nat) : Norm (cI a (j + 1)) 0 (refN a (cI a j)) := norm_nb (keys a (cI a j)) []
theorem rel_keys (a : AutT) {c : List Int} (hc : c.length = a.2.1.length) : RelL c (keys a c) := by
  refine relL_of _ _ (by rw [keys_length, hc]) fun i h h' => ?_
  have e1 : c[i] = nth c (i : Int) := (nth_nat h).symm
  have e2 : (keys a c)[i] = keyO a c i := by simp [keys]
  rw [e1, e2]
  unfold keyO
  by_cases k : nth c (i : Int) < 0
  · exact .inl ⟨k, by rw [if_pos k]⟩
  · exact .inr ⟨by omega, _, by rw [if_neg k]; rfl⟩
theorem cI_grow (a : AutT) (j : Nat) : refN a (cI a j) ≤ refN a (cI a (j + 1)) ∧ (refN a (cI a (j + 1)) = refN a (cI a j) → cI a (j + 2) = cI a (j + 1)) := by
  obtain ⟨h1, h2⟩ := norm_refine (cI a (j + 1)) (keys a (cI a (j + 1))) [] 0 (refN a (cI a j)) (rel_keys a (cI_length a _)) (cI_norm a j) (fun y hy => by cases hy)
  exact ⟨by simpa [refN] using h1, fun h => h2 rfl (fun q hq => absurd hq (Nat.not_lt_zero q)) h⟩
theorem cI_fix {j k : Nat} (h : cI a (j + 1) = cI a j) (hk : j ≤ k) : cI a k = cI a j := by
  induction hk with
  | refl => rfl
  | step _ ih => rw [cI, ih]; exact h
theorem cI_fix_eq {j k : Nat} (h : cI a (j + 1) = cI a j) (h' : cI a (k + 1) = cI a k) : cI a j = cI a k := by
  rcases Nat.le_total j k with e | e
  · exact (cI_fix h e).symm
  · exact cI_fix h' e
theorem cI_stop (a : AutT) : ∃ j, j ≤ a.2.1.length ∧ cI a (j + 1) = cI a j := by
  by_cases h0 : cI a 1 = cI a 0
  · exact ⟨0, Nat.zero_le _, h0⟩
  have hpos : 1 ≤ refN a (cI a 0) := by
    refine Nat.one_le_iff_ne_zero.2 fun hz => h0 ?_
    have hnone : ∀ s : Nat, s < a.2.1.length → nth (cI a 0) (s : Int) < 0 := fun s hs => by
      refine Classical.byContradiction fun k => ?_
      have := key_mem (c := cI a 0) hs k
      have hl := List.length_pos_of_mem this
      unfold refN at hz; omega
    refine ext_nth (by rw [cI_length, cI_length]) fun i hi => ?_
    rw [cI_length] at hi
    have h1 := (cI_neg a hi 0).2 (hnone i hi)
    have h2 := (cI_neg a hi 1).2 (((cI_neg a hi 1).1.trans (cI_neg a hi 0).1.symm).2 (hnone i hi))
    rw [h1, h2]
  have key : ∀ m, (∃ j, j ≤ m ∧ cI a (j + 1) = cI a j) ∨ m + 1 ≤ refN a (cI a m) := by
    intro m
    induction m with
    | zero => exact .inr hpos
    | succ m ih =>
      rcases ih with ⟨j, hj, e⟩ | ih
      · exact .inl ⟨j, by omega, e⟩
      · obtain ⟨g1, g2⟩ := cI_grow a m
        by_cases e : refN a (cI a (m + 1)) = refN a (cI a m)
        · exact .inl ⟨m + 1, Nat.le_refl _, g2 e⟩
        · exact .inr (by omega)
  rcases key a.2.1.length with h | h
  · exact h
  · have := refN_le a (cI a a.2.1.length); omega
end
end Go.Proofs.YtimjccbdngajoaaGreat.D
/- The classes and the minimal automaton as the reference and the program reckon them. -/
set_option linter.unusedVariables false
set_option linter.unusedSimpArgs false
set_option linter.unnecessarySimpa false
set_option linter.unusedSectionVars false
namespace Go.Proofs.YtimjccbdngajoaaGreat.D
open Go.RowKit

section
variable {a : AutT} {n : Nat} {c : List Int}
theorem ent_snoc (k : Nat) (s : Int) : (List.range (k + 1)).map (fun k => ent a c s k) = (List.range k).map (fun k => ent a c s k) ++ [ent a c s k] := by simp [List.range_succ]
theorem s_key (V : VA a n) (hn : n ≤ 1000000) (hc : c.length = n) {s : Nat} (hs : s < n) : m_s_l12Key a c s = some (keyL a c s) := by
  unfold m_s_l12Key
  rw [getI_nth (by omega) (by omega)]; simp only [Option.bind_some]
  have := loopM_at (f := m_s_l12Key_l0 a c s) (fun k => (nth c (s : Int) :: (List.range k).map (fun k => ent a c s k), (k : Int))) 9 (fun k hk => by
    have hm := V.mv (s := s) (k := k) (by omega) (by omega) hk
    unfold m_s_l12Key_l0
    simp only
    rw [if_pos (by simp; omega), V.get (by omega) (by omega)]; simp only [Option.bind_some]
    rw [V.get2 (by omega) (by omega) hk, ent_snoc]; simp only [Option.bind_some, wrap_succ (show k < 9223372036854775807 by omega)]
    by_cases h : mv a s k < 0
    · rw [if_pos (by simpa using h), appI_ok (by simp; omega), show ent a c s k = -1 from by unfold ent; rw [if_pos h]]; rfl
    · rw [if_neg (by simpa using h), getI_nth (by omega) (by omega)]; simp only [Option.bind_some]
      rw [appI_ok (by simp; omega), show ent a c s k = nth c (mv a s k) from by unfold ent; rw [if_neg h]]; rfl) (by unfold m_s_l12Key_l0; simp) (by unfold FUEL; omega)
  exact bindL_brk this
theorem i_key (V : VA a n) (hn : n ≤ 1000000) (hc : c.length = n) {s : Nat} (hs : s < n) : loopM (m_i_Automaton_refine_l1 c (nth a.2.2 (s : Int))) FUEL (0, [nth c (s : Int)]) = some (.brk (9, keyL a c s)) := by
  have hr := V.rowAt (s := s) (by omega) (by omega)
  exact loopM_at (f := m_i_Automaton_refine_l1 c (nth a.2.2 (s : Int))) (fun k => ((k : Int), nth c (s : Int) :: (List.range k).map (fun k => ent a c s k))) 9 (fun k hk => by
    have hm := V.mv (s := s) (k := k) (by omega) (by omega) hk
    unfold m_i_Automaton_refine_l1
    simp only
    rw [if_pos (by simp [hr]; omega), V.get2 (by omega) (by omega) hk, ent_snoc]; simp only [Option.bind_some, wrap_succ (show k < 9223372036854775807 by omega)]
    by_cases h : mv a s k < 0
    · have e : mv a s k = -1 := by omega
      rw [if_neg (by simp; omega)]; simp only [Option.bind_some]
      rw [appI_ok (by simp; omega), show ent a c s k = mv a s k from by unfold ent; rw [if_pos h, e]]; rfl
    · rw [if_pos (by simp; omega), getI_nth (by omega) (by omega)]; simp only [Option.bind_some]
      rw [appI_ok (by simp; omega), show ent a c s k = nth c (mv a s k) from by unfold ent; rw [if_neg h]]; rfl) (by unfold m_i_Automaton_refine_l1; simp [hr]) (by unfold FUEL; omega)
theorem nbI_first {κ : Type} [DecidableEq κ] {l t r : List κ} {x : κ} (e : l = t ++ x :: r) (hx : x ∉ t) : nbI l (some x) = (t.length : Int) := by
  subst e
  simp only [nbI]
  rw [List.idxOf_append, if_neg hx, List.idxOf_cons_self, Nat.zero_add]
def seek (l : List (List Int)) (x : List Int) : Int := if x ∈ l then nbI l (some x) else -1
theorem s_seek {l : List (List Int)} {x cs : List Int} {q : Int} (hl : l.length ≤ 1000000) (hd : l.Nodup) (hx : ∀ y ∈ l, y.length ≤ 1048576) : loopM (m_s_l12Classes_l3 (l, cs, q) x) FUEL (-1, 0) = some (.brk (seek l x, (l.length : Int))) := by
  have := loopM_at (f := m_s_l12Classes_l3 (l, cs, q) x) (fun k => (if x ∈ l.take k then nbI l (some x) else -1, (k : Int))) l.length (fun k hk => by
    unfold m_s_l12Classes_l3
    simp only
    rw [if_pos (by simp; omega), getI_nth (by omega) (by omega)]; simp only [Option.bind_some, Int.toNat_natCast, wrap_succ (show k < 9223372036854775807 by omega)]
    obtain ⟨r, e, hr⟩ := q_l2Cmp (nth l (k : Int)) x (hx _ (nth_mem (by omega) (by omega)))
    rw [e, take_one hk]; simp only [Option.bind_some, List.mem_append, List.mem_singleton]
    by_cases h : nth l (k : Int) = x
    · have h0 : r = 0 := hr.2 h
      have hm : x ∈ l := h ▸ nth_mem (by omega) (by omega)
      obtain ⟨q, hq, e1, e2⟩ := nbI_mem hm
      have : q = k := by
        have h1 : l[q]? = some x := by rw [List.getElem?_eq_getElem hq, e2]
        have h2 : l[k]? = some x := by rw [List.getElem?_eq_getElem hk, ← nth_nat hk, h]
        exact (List.getElem?_inj hq hd).1 (h1.trans h2.symm)
      subst this
      rw [if_pos (by simp [h0]), if_pos (.inr h.symm), e1]; rfl
    · have h0 : r ≠ 0 := fun e => h (hr.1 e)
      have hn : ¬ x = nth l (k : Int) := fun e => h e.symm
      rw [if_neg (by simpa using h0)]
      simp [hn]) (by unfold m_s_l12Classes_l3; simp) (up63 (by omega))
  rw [List.take_of_length_le (Nat.le_refl _)] at this
  exact this
theorem i_seek {l : List (List Int)} {x : List Int} {f : List Int → Option Bool} (hl : l.length ≤ 1000000) (hf : ∀ y ∈ l, f y = some (decide (y = x))) : m_g_slices_IndexFunc_S_S_int_S_int l f = some (seek l x) := by
  unfold m_g_slices_IndexFunc_S_S_int_S_int
  obtain ⟨o, e, hq⟩ := loopM_go (f := m_g_slices_IndexFunc_S_S_int_S_int_l0 l f) (fun k s => s = (k : Int) ∧ x ∉ l.take k) (fun o => (x ∈ l ∧ o = .ret (nbI l (some x))) ∨ (x ∉ l ∧ ∃ s, o = .brk s)) l.length (s := 0) (by
    rintro k s hk ⟨rfl, hx⟩
    unfold m_g_slices_IndexFunc_S_S_int_S_int_l0
    by_cases hkl : k < l.length
    · rw [if_pos (by simp; omega), getI_nth (by omega) (by omega)]; simp only [Option.bind_some]
      rw [hf _ (nth_mem (by omega) (by omega))]; simp only [Option.bind_some]
      by_cases h : nth l (k : Int) = x
      · refine .inr ⟨_, by rw [if_pos (by simpa using h)], (fun s' e => by cases e), .inl ?_⟩
        have hm : x ∈ l := h ▸ nth_mem (by omega) (by omega)
        refine ⟨hm, ?_⟩
        have e : l = l.take k ++ (x :: l.drop (k + 1)) := by
          rw [← h, nth_nat hkl, ← List.drop_eq_getElem_cons hkl, List.take_append_drop]
        rw [nbI_first e hx, List.length_take, Nat.min_eq_left (by omega)]
      · refine .inl ⟨hkl, _, by rw [if_neg (by simpa using h)], by rw [wrap_succ (by omega)], ?_⟩
        rw [take_one hkl, List.mem_append, List.mem_singleton]
        rintro (h' | h')
        · exact hx h'
        · exact h h'.symm
    · refine .inr ⟨_, by rw [if_neg (by simp; omega)], (fun s' e => by cases e), .inr ⟨?_, _, rfl⟩⟩
      rwa [List.take_of_length_le (by omega)] at hx) ⟨rfl, by simp⟩ (up63 (by omega))
  unfold seek
  rcases hq with ⟨hx, rfl⟩ | ⟨hx, s, rfl⟩
  · rw [bindL_ret e, if_pos hx]
  · rw [bindL_brk e, if_neg hx]
theorem kinds_short {os : List (Option (List Int))} (h : ∀ y, some y ∈ os → y.length = 10) : ∀ y ∈ nbS [] os, y.length = 10 := fun y hy => by
  rcases mem_nbS.1 hy with hy | hy
  · cases hy
  · exact h y hy
theorem keys_short (a : AutT) (c : List Int) : ∀ y, some y ∈ keys a c → y.length = 10 := by
  intro y hy
  obtain ⟨s, -, e⟩ := List.mem_map.1 hy
  unfold keyO at e
  split at e
  · cases e
  · rw [← Option.some.inj e]; simp [keyL]
section
variable (V : VA a n) (hn : n ≤ 1000000) (hc : c.length = n)
include V hn hc
theorem kinds_le (s : Nat) : (nbS [] ((keys a c).take s)).length ≤ n := by
  have := nbS_length_le ([] : List (List Int)) ((keys a c).take s)
  rw [List.length_take, keys_length, V.len] at this
  simp at this; omega
theorem s_refine {m : Int} : loopM (m_s_l12Classes_l2 a (c, m)) FUEL ([], [], 0) = some (.brk (nbS [] (keys a c), refn a c, (n : Int))) := by
  have hlen := V.len
  have := loopM_at (f := m_s_l12Classes_l2 a (c, m)) (fun s => (nbS [] ((keys a c).take s), nbR [] ((keys a c).take s), (s : Int))) n (fun s hs => by
    have hkl := kinds_le V hn hc s
    have hrl : (nbR [] ((keys a c).take s)).length ≤ n := by rw [nbR_length, List.length_take, keys_length]; omega
    unfold m_s_l12Classes_l2
    simp only
    rw [if_pos (by simp; omega), getI_nth (by omega) (by omega)]; simp only [Option.bind_some]
    rw [take_one (by rw [keys_length]; omega), nbS_snoc, nbR_snoc, keys_at (by omega)]
    simp only [wrap_succ (show s < 9223372036854775807 by omega)]
    by_cases h : nth c (s : Int) < 0
    · rw [if_pos (by simpa using h), appI_ok (by simp; omega), show keyO a c s = none from by unfold keyO; rw [if_pos h]]; rfl
    · rw [if_neg (by simpa using h), show keyO a c s = some (keyL a c s) from by unfold keyO; rw [if_neg h]]
      rw [show m_s_l12Key (a.1, a.2.1, a.2.2) c (s : Int) = some (keyL a c s) from s_key V hn hc hs]; simp only [Option.bind_some]
      rw [bindL_brk (s_seek (by omega) (nbS_nodup (by simp)) (fun y hy => by rw [kinds_short (fun y hy => keys_short a c y (List.mem_of_mem_take hy)) y hy]; decide))]
      simp only
      unfold seek
      by_cases k : keyL a c s ∈ nbS [] ((keys a c).take s)
      · obtain ⟨q, hq, e1, e2⟩ := nbI_mem k
        rw [if_pos k, nbL_old k, e1, if_neg (by simp)]; simp only [Option.bind_some]
        rw [appI_ok (by simp; omega)]; rfl
      · rw [if_neg k, nbL_new k, nbI_new k, if_pos (show decide ((-1 : Int) < 0) = true from rfl), appI_ok (by simp; omega)]; simp only [Option.bind_some]
        rw [appI_ok (by simp; omega)]; rfl) (by
    unfold m_s_l12Classes_l2
    simp only
    rw [if_neg (by simp; omega)]) (up63 (by omega))
  rw [show (keys a c).take n = keys a c from List.take_of_length_le (by rw [keys_length]; omega)] at this
  exact this
theorem i_refine : m_i_Automaton_refine a c = some (refn a c, (refN a c : Int)) := by
  have hlen := V.len
  unfold m_i_Automaton_refine
  have := loopM_at (f := m_i_Automaton_refine_l0 a c) (fun s => (nbS [] ((keys a c).take s), nbR [] ((keys a c).take s), (s : Int))) n (fun s hs => by
    have hkl := kinds_le V hn hc s
    have hrl : (nbR [] ((keys a c).take s)).length ≤ n := by rw [nbR_length, List.length_take, keys_length]; omega
    unfold m_i_Automaton_refine_l0
    simp only
    rw [if_pos (by simp; omega), getI_nth (by omega) (by omega)]; simp only [Option.bind_some]
    rw [take_one (by rw [keys_length]; omega), nbS_snoc, nbR_snoc, keys_at (by omega)]
    simp only [wrap_succ (show s < 9223372036854775807 by omega)]
    by_cases h : nth c (s : Int) < 0
    · rw [if_pos (by simpa using h), appI_ok (by simp; omega), show keyO a c s = none from by unfold keyO; rw [if_pos h]]; rfl
    · rw [if_neg (by simpa using h), show keyO a c s = some (keyL a c s) from by unfold keyO; rw [if_neg h], V.get (by omega) (by omega)]; simp only [Option.bind_some]
      rw [bindL_brk (i_key V hn hc hs)]; simp only
      rw [i_seek (x := keyL a c s) (by omega) (fun y hy => by
        unfold m_i_Automaton_refine_1
        rw [q_sliceEq _ _ (by rw [kinds_short (fun y hy => keys_short a c y (List.mem_of_mem_take hy)) y hy]; decide)]; rfl)]; simp only [Option.bind_some]
      unfold seek
      by_cases k : keyL a c s ∈ nbS [] ((keys a c).take s)
      · obtain ⟨q, hq, e1, e2⟩ := nbI_mem k
        rw [if_pos k, nbL_old k, e1, if_neg (by simp)]; simp only [Option.bind_some]
        rw [appI_ok (by simp; omega)]; rfl
      · rw [if_neg k, nbL_new k, nbI_new k, if_pos (show decide ((-1 : Int) < 0) = true from rfl), appI_ok (by simp; omega)]; simp only [Option.bind_some]
        rw [appI_ok (by simp; omega)]; rfl) (by
    unfold m_i_Automaton_refine_l0
    simp only
    rw [if_neg (by simp; omega)]) (up63 (by omega))
  rw [show (keys a c).take n = keys a c from List.take_of_length_le (by rw [keys_length]; omega)] at this
  exact bindL_brk this
end
end
section
variable {a : AutT} {n : Nat} (V : VA a n) (hn : n ≤ 1000000)
include V hn
theorem cls0_snoc (s : Nat) : (List.range (s + 1)).map (fun s : Nat => if nth (live a) (s : Int) = true then (if nth a.2.1 (s : Int) = true then (1 : Int) else 0) else -1) = (List.range s).map (fun s : Nat => if nth (live a) (s : Int) = true then (if nth a.2.1 (s : Int) = true then 1 else 0) else -1) ++ [if nth (live a) (s : Int) = true then (if nth a.2.1 (s : Int) = true then 1 else 0) else -1] := by simp [List.range_succ]
theorem s_cls0 : loopM (m_s_l12Classes_l0 a (live a)) FUEL ([], 0) = some (.brk (cls0 a, (n : Int))) := by
  have hlen := V.len
  have hll : (live a).length = n := by rw [live_length, hlen]
  have := loopM_at (f := m_s_l12Classes_l0 a (live a)) (fun s => ((List.range s).map (fun s : Nat => if nth (live a) (s : Int) = true then (if nth a.2.1 (s : Int) = true then (1 : Int) else 0) else -1), (s : Int))) n (fun s hs => by
    unfold m_s_l12Classes_l0
    simp only
    rw [if_pos (by simp; omega), V.acc (by omega) (by omega)]; simp only [Option.bind_some]
    rw [cls0_snoc V hn, getI_nth (xs := live a) (by omega) (by omega)]; simp only [wrap_succ (show s < 9223372036854775807 by omega)]
    cases nth (live a) (s : Int) <;> cases nth a.2.1 (s : Int) <;> simp only [if_true, if_false, Bool.false_eq_true, Option.bind_some] <;> rw [appI_ok (by simp; omega)] <;> rfl) (by
    unfold m_s_l12Classes_l0
    simp only
    rw [if_neg (by simp; omega)]) (up63 (by omega))
  unfold cls0
  rw [hlen]
  exact this
theorem i_cls0 : loopM (m_i_Automaton_classes_l0 a (live a)) FUEL ([], 0) = some (.brk (cls0 a, (n : Int))) := by
  have hlen := V.len
  have hll : (live a).length = n := by rw [live_length, hlen]
  have := loopM_at (f := m_i_Automaton_classes_l0 a (live a)) (fun s => ((List.range s).map (fun s : Nat => if nth (live a) (s : Int) = true then (if nth a.2.1 (s : Int) = true then (1 : Int) else 0) else -1), (s : Int))) n (fun s hs => by
    unfold m_i_Automaton_classes_l0
    simp only
    rw [if_pos (by simp; omega), getI_nth (xs := live a) (by omega) (by omega)]; simp only [Option.bind_some]
    rw [cls0_snoc V hn, V.acc (by omega) (by omega)]; simp only [wrap_succ (show s < 9223372036854775807 by omega)]
    cases nth (live a) (s : Int) <;> cases nth a.2.1 (s : Int) <;> simp only [if_true, if_false, Bool.false_eq_true, Option.bind_some] <;> rw [appI_ok (by simp; omega)] <;> rfl) (by
    unfold m_i_Automaton_classes_l0
    simp only
    rw [if_neg (by simp; omega)]) (up63 (by omega))
  unfold cls0
  rw [hlen]
  exact this
theorem s_classes : ∃ J, cI a (J + 1) = cI a J ∧ m_s_l12Classes a = some (cI a J) := by
  have hlen := V.len
  unfold m_s_l12Classes
  rw [show m_s_l11Live (a.1, a.2.1, a.2.2) = some (live a) from s_live V hn]; simp only [Option.bind_some]
  rw [bindL_brk (s_cls0 V hn)]
  obtain ⟨J0, hJ0, hfix⟩ := cI_stop a
  obtain ⟨o, e, j, rfl, hj⟩ := loopM_go (f := m_s_l12Classes_l1 a) (fun j s => s = (cI a j, (j : Int)) ∧ j ≤ J0) (fun o => ∃ j, o = .ret (cI a j) ∧ cI a (j + 1) = cI a j) (J0 + 1) (s := (cI a 0, 0)) (by
    rintro j s hj ⟨rfl, hjJ⟩
    have hcl : (cI a j).length = n := by rw [cI_length, hlen]
    unfold m_s_l12Classes_l1
    simp only
    rw [if_pos (by simp; omega), bindL_brk (s_refine V hn hcl)]
    simp only
    obtain ⟨r, er, hr⟩ := q_l2Cmp (refn a (cI a j)) (cI a j) (by rw [refn_length]; omega)
    rw [er]; simp only [Option.bind_some, wrap_succ (show j < 9223372036854775807 by omega)]
    by_cases h : refn a (cI a j) = cI a j
    · exact .inr ⟨_, by rw [if_pos (by simpa using hr.2 h)], (fun s' e => by cases e), j, rfl, h⟩
    · refine .inl ⟨by omega, (cI a (j + 1), ((j + 1 : Nat) : Int)), by rw [if_neg (by simpa using fun e => h (hr.1 e))]; rfl, rfl, ?_⟩
      by_cases e : j = J0
      · subst e; exact absurd hfix h
      · omega) ⟨rfl, Nat.zero_le _⟩ (up63 (by omega))
  exact ⟨j, hj, bindL_ret e⟩
theorem i_classes : ∃ J, cI a (J + 1) = cI a J ∧ m_i_Automaton_classes a = some (cI a J) := by
  have hlen := V.len
  unfold m_i_Automaton_classes
  rw [show m_i_Automaton_live (a.1, a.2.1, a.2.2) = some (live a) from i_live V hn]; simp only [Option.bind_some]
  rw [bindL_brk (i_cls0 V hn)]
  let kk : Nat → Int := fun j => match j with | 0 => -1 | i + 1 => (refN a (cI a i) : Int)
  obtain ⟨o, e, j, rfl, hj⟩ := loopM_go (f := m_i_Automaton_classes_l1 a) (fun j s => s = (cI a j, kk j) ∧ (j : Int) ≤ kk j + 1) (fun o => ∃ j, o = .ret (cI a j) ∧ cI a (j + 1) = cI a j) (n + 2) (s := (cI a 0, -1)) (by
    rintro j s hj ⟨rfl, hjk⟩
    have hcl : (cI a j).length = n := by rw [cI_length, hlen]
    have hle := refN_le a (cI a j)
    unfold m_i_Automaton_classes_l1
    simp only
    rw [show m_i_Automaton_refine (a.1, a.2.1, a.2.2) (cI a j) = some (refn a (cI a j), (refN a (cI a j) : Int)) from i_refine V hn hcl]; simp only [Option.bind_some]
    cases j with
    | zero =>
      refine .inl ⟨by omega, (cI a 1, kk 1), by rw [if_neg (by show ¬ ((refN a (cI a 0) : Int) == -1) = true; simp)]; rfl, rfl, ?_⟩
      show (1 : Int) ≤ (refN a (cI a 0) : Int) + 1
      omega
    | succ i =>
      obtain ⟨g1, g2⟩ := cI_grow a i
      have hki : kk (i + 1) = (refN a (cI a i) : Int) := rfl
      rw [hki] at hjk ⊢
      by_cases h : refN a (cI a (i + 1)) = refN a (cI a i)
      · refine .inr ⟨.ret (cI a (i + 2)), by rw [if_pos (by simp [h])]; rfl, (fun s' e => by cases e), i + 2, rfl, ?_⟩
        have := g2 h
        show refn a (cI a (i + 2)) = cI a (i + 2)
        rw [this]; exact this
      · refine .inl ⟨?_, (cI a (i + 2), kk (i + 2)), by rw [if_neg (by simp; omega)]; rfl, rfl, ?_⟩
        · omega
        · show ((i + 1 + 1 : Nat) : Int) ≤ (refN a (cI a (i + 1)) : Int) + 1
          omega) ⟨rfl, by show ((0 : Nat) : Int) ≤ -1 + 1; omega⟩ (up63 (by omega))
  exact ⟨j, hj, bindL_ret e⟩
theorem classes_eq : ∃ c, m_s_l12Classes a = some c ∧ m_i_Automaton_classes a = some c ∧ c.length = n ∧ refn a c = c ∧ ∃ j, c = cI a j := by
  obtain ⟨J, hJ, es⟩ := s_classes V hn
  obtain ⟨J', hJ', ei⟩ := i_classes V hn
  have := cI_fix_eq hJ hJ'
  exact ⟨cI a J, es, by rw [this]; exact ei, by rw [cI_length, V.len], hJ, J, rfl⟩
end
end Go.Proofs.YtimjccbdngajoaaGreat.D
/- What is numbered is small. -/
set_option linter.unusedVariables false
set_option linter.unusedSimpArgs false
set_option linter.unnecessarySimpa false
set_option linter.unusedSectionVars false
namespace Go.Proofs.YtimjccbdngajoaaGreat.D
open Go.RowKit

theorem bound_ints (n : Nat) (l : List Int) (hd : l.Nodup) (h : ∀ x ∈ l, 0 ≤ x ∧ x < n) : l.length ≤ n := by
  have := hd.length_le_of_subset (l₂ := (List.range n).map Int.ofNat) (fun x hx => by
    obtain ⟨h0, h1⟩ := h x hx
    exact List.mem_map.2 ⟨x.toNat, List.mem_range.2 (by omega), by show ((x.toNat : Nat) : Int) = x; omega⟩)
  simpa using this
theorem iOk_in {n : Nat} {x : Int} (hn : n ≤ 1000000) (h0 : 0 ≤ x) (h1 : x < n) : iOk x = true := by
  have := iOk_nat (n := x.toNat) (by omega)
  rwa [show ((x.toNat : Nat) : Int) = x from by omega] at this
theorem num_sm {κ : Type} [DecidableEq κ] {nx : κ → List (Option κ)} {first : κ} {G : κ → Prop} {B N : Nat} {acc : κ → Bool} (H : NumOk nx first G B) (hB : B ≤ 1000000) (hN : bfE nx first N) : Data.sm ((0, (bfS nx first N).map acc, bfR nx first N) : AutT) := by
  have hl := H.bound _ (bfS_nodup (nx := nx) (first := first) N) (bfS_good H.g0 H.gn N)
  refine ⟨trivial, ⟨by rw [List.length_map]; omega, fun _ _ => trivial⟩, ?_, ?_⟩
  · rw [bfR_length hN.2]; have := hN.1; omega
  · have key : ∀ i, i ≤ N → ∀ r ∈ bfR nx first i, r.length = 9 := by
      intro i
      induction i with
      | zero => intro _ r hr; cases hr
      | succ i ih =>
        intro hi r hr
        have hlt := hN.2 i (by omega)
        rw [bfR_succ hlt] at hr
        rcases List.mem_append.1 hr with hr | hr
        · exact ih (by omega) r hr
        · obtain rfl := List.mem_singleton.1 hr
          rw [nbR_length, H.len _ (bfS_good H.g0 H.gn i _ (List.getElem_mem hlt))]
    intro r hr
    exact ⟨by rw [key N (Nat.le_refl _) r hr]; decide, fun _ _ => trivial⟩
theorem nothing_sm : Data.sm nothing := ⟨trivial, ⟨by decide, fun _ _ => trivial⟩, by decide, fun r hr => by
  obtain rfl := List.mem_singleton.1 hr
  exact ⟨by decide, fun _ _ => trivial⟩⟩
end Go.Proofs.YtimjccbdngajoaaGreat.D
/- The minimal automaton: the reference numbers representatives, the program numbers classes. -/
set_option linter.unusedVariables false
set_option linter.unusedSimpArgs false
set_option linter.unnecessarySimpa false
set_option linter.unusedSectionVars false
namespace Go.Proofs.YtimjccbdngajoaaGreat.D
open Go.RowKit

theorem i_index {l : List Int} {x : Int} (hl : l.length ≤ 1000000) (hx : x ∈ l) : m_i_Automaton_minimize_1 x l = some (nbI l (some x)) := by
  unfold m_i_Automaton_minimize_1 m_g_slices_Index_S_int_int
  obtain ⟨o, e, hq⟩ := loopM_go (f := m_g_slices_Index_S_int_int_l0 l x) (fun k s => s = (k : Int) ∧ x ∉ l.take k) (fun o => o = .ret (nbI l (some x))) l.length (s := 0) (by
    rintro k s hk ⟨rfl, hx'⟩
    unfold m_g_slices_Index_S_int_int_l0
    by_cases hkl : k < l.length
    · rw [if_pos (by simp; omega), getI_nth (by omega) (by omega)]; simp only [Option.bind_some]
      by_cases h : nth l (k : Int) = x
      · refine .inr ⟨_, by rw [if_pos (by simp [h])], (fun s' e => by cases e), ?_⟩
        have e : l = l.take k ++ (x :: l.drop (k + 1)) := by
          rw [← h, nth_nat hkl, ← List.drop_eq_getElem_cons hkl, List.take_append_drop]
        rw [nbI_first e hx', List.length_take, Nat.min_eq_left (by omega)]
      · have h' : ¬ x = nth l (k : Int) := fun e => h e.symm
        refine .inl ⟨hkl, _, by rw [if_neg (by simpa using h')], by rw [wrap_succ (by omega)], ?_⟩
        rw [take_one hkl, List.mem_append, List.mem_singleton]
        rintro (h' | h')
        · exact hx' h'
        · exact h h'.symm
    · rw [List.take_of_length_le (by omega)] at hx'
      exact absurd hx hx') ⟨rfl, by simp⟩ (up63 (by omega))
  subst hq
  rw [bindL_ret e]; rfl
section
variable {a : AutT} {n : Nat}
def rep (c : List Int) (x : Int) : Int := nbI c (some x)
theorem rep_ok {c : List Int} {x : Int} (h : x ∈ c) : 0 ≤ rep c x ∧ rep c x < c.length ∧ nth c (rep c x) = x := by
  obtain ⟨q, hq, e1, e2⟩ := nbI_mem h
  unfold rep
  rw [e1]
  exact ⟨by omega, by omega, by rw [nth_nat hq, e2]⟩
theorem minim_eq (V : VA a n) (hn : n ≤ 1000000) : ∃ r, m_s_l12Minimize a = some r ∧ m_i_Automaton_minimize a = some r ∧ Data.sm r := by
  have hlen := V.len
  have hst := V.start
  have hll : (live a).length = n := by rw [live_length, hlen]
  obtain ⟨c, es, ei, hcl, hfix, j, hj⟩ := classes_eq V hn
  have hneg : ∀ s : Int, 0 ≤ s → s < n → (nth c s < 0 ↔ nth (live a) s = false) := fun s h0 h1 => by
    have := (cI_neg a (s := s.toNat) (by omega) j).1
    rw [← hj, show ((s.toNat : Nat) : Int) = s from by omega] at this
    exact this
  have hlt : ∀ s : Int, 0 ≤ s → s < n → nth c s < n := fun s h0 h1 => by
    have := refn_lt (c := c) (a := a) (s := s.toNat) (by omega)
    rw [hfix, hlen, show ((s.toNat : Nat) : Int) = s from by omega] at this
    exact this
  have hpos : ∀ r, good n (live a) r → 0 ≤ nth c r := fun r hr => by
    have := hneg r hr.1 hr.2.1
    by_cases k : nth c r < 0
    · have := this.1 k; rw [hr.2.2] at this; cases this
    · omega
  -- states of one class are alike
  have hkey : ∀ r t : Int, 0 ≤ r → r < n → 0 ≤ t → t < n → 0 ≤ nth c r → nth c r = nth c t → keyL a c r = keyL a c t := fun r t r0 r1 t0 t1 h0 h => by
    have := refn_eq (a := a) (c := c) (s := r.toNat) (t := t.toNat) (by omega) (by omega) (by rw [hfix, show ((r.toNat : Nat) : Int) = r from by omega]; exact h0) (by rw [hfix, show ((r.toNat : Nat) : Int) = r from by omega, show ((t.toNat : Nat) : Int) = t from by omega]; exact h)
    rwa [show ((r.toNat : Nat) : Int) = r from by omega, show ((t.toNat : Nat) : Int) = t from by omega] at this
  have hacc : ∀ r t : Int, 0 ≤ r → r < n → 0 ≤ t → t < n → 0 ≤ nth c r → nth c r = nth c t → nth a.2.1 r = nth a.2.1 t := fun r t r0 r1 t0 t1 h0 h => by
    have := cI_acc a (s := r.toNat) (t := t.toNat) (by omega) (by omega) j (by rw [← hj, show ((r.toNat : Nat) : Int) = r from by omega]; exact h0) (by rw [← hj, show ((r.toNat : Nat) : Int) = r from by omega, show ((t.toNat : Nat) : Int) = t from by omega]; exact h)
    rwa [show ((r.toNat : Nat) : Int) = r from by omega, show ((t.toNat : Nat) : Int) = t from by omega] at this
  have hsuccs : ∀ r, good n (live a) r → succs a c (live a) r = (List.range 9).map fun k => if 0 ≤ ent a c r k then some (ent a c r k) else none := fun r hr => by
    refine List.map_congr_left fun k hk => ?_
    have hk : k < 9 := List.mem_range.1 hk
    have hm := V.mv hr.1 hr.2.1 hk
    unfold ent
    by_cases h : mv a r k < 0
    · rw [if_pos h, if_neg (fun h' => by omega), if_neg (by omega)]
    · rw [if_neg h]
      have := hneg (mv a r k) (by omega) hm.2
      cases hl : nth (live a) (mv a r k) with
      | false =>
        have := this.2 hl
        rw [if_neg (fun h' => by cases h'.2), if_neg (by omega)]
      | true =>
        have : ¬ nth c (mv a r k) < 0 := fun h' => by have := this.1 h'; rw [hl] at this; cases this
        rw [if_pos ⟨by omega, rfl⟩, if_pos (by omega)]
  have hent : ∀ r t : Int, keyL a c r = keyL a c t → ∀ k, k < 9 → ent a c r k = ent a c t k := fun r t h k hk => by
    have h : (List.range 9).map (fun k => ent a c r k) = (List.range 9).map (fun k => ent a c t k) := by unfold keyL at h; injection h
    have := congrArg (fun l : List Int => l[k]?) h
    simpa [hk] using this
  -- the keys that are numbered
  let nx : Int → List (Option Int) := fun x => succs a c (live a) (rep c x)
  let acc : Int → Bool := fun x => nth a.2.1 (rep c x)
  let G : Int → Prop := fun x => ∃ r, good n (live a) r ∧ nth c r = x
  have Gm : ∀ x, G x → x ∈ c ∧ 0 ≤ x ∧ good n (live a) (rep c x) := by
    rintro x ⟨r, hr, rfl⟩
    have hm : nth c r ∈ c := nth_mem hr.1 (by rw [hcl]; exact hr.2.1)
    obtain ⟨h0, h1, h2⟩ := rep_ok hm
    have hp := hpos r hr
    refine ⟨hm, hp, h0, by omega, ?_⟩
    have := hneg (rep c (nth c r)) h0 (by omega)
    rw [h2] at this
    cases hl : nth (live a) (rep c (nth c r)) with
    | true => rfl
    | false => have := this.2 hl; omega
  have hnx : ∀ r, good n (live a) r → nx (nth c r) = succs a c (live a) r := fun r hr => by
    obtain ⟨hm, hp, hg⟩ := Gm _ ⟨r, hr, rfl⟩
    obtain ⟨h0, h1, h2⟩ := rep_ok hm
    show succs a c (live a) (rep c (nth c r)) = _
    rw [hsuccs _ hg, hsuccs _ hr]
    refine List.map_congr_left fun k hk => ?_
    rw [hent _ _ (hkey _ _ hg.1 hg.2.1 hr.1 hr.2.1 (by rw [h2]; exact hp) h2) k (List.mem_range.1 hk)]
  have hac : ∀ r, good n (live a) r → acc (nth c r) = nth a.2.1 r := fun r hr => by
    obtain ⟨hm, hp, hg⟩ := Gm _ ⟨r, hr, rfl⟩
    obtain ⟨h0, h1, h2⟩ := rep_ok hm
    exact hacc _ _ hg.1 hg.2.1 hr.1 hr.2.1 (by rw [h2]; exact hp) h2
  have hgn : ∀ r, good n (live a) r → ∀ y, some y ∈ succs a c (live a) r → G y := fun r hr y h => by
    obtain ⟨k, hk, e⟩ := List.mem_map.1 h
    have hk : k < 9 := List.mem_range.1 hk
    split at e
    · rename_i hc
      exact ⟨mv a r k, ⟨hc.1, (V.mv hr.1 hr.2.1 hk).2, hc.2⟩, Option.some.inj e⟩
    · cases e
  unfold m_s_l12Minimize m_i_Automaton_minimize
  simp only [peta]
  rw [es, ei, s_live V hn]; simp only [Option.bind_some]
  rw [getI_nth hst.1 (by omega)]; simp only [Option.bind_some]
  cases hs : nth (live a) a.1 with
  | false =>
    have := (hneg a.1 hst.1 hst.2).2 hs
    rw [s_numb_dead V hll hs, if_pos (by simpa using this), i_nothing]
    exact ⟨nothing, rfl, rfl, nothing_sm⟩
  | true =>
    have hst' : good n (live a) a.1 := ⟨hst.1, hst.2, hs⟩
    have hp := hpos _ hst'
    have H : NumOk nx (nth c a.1) G n := ⟨⟨a.1, hst', rfl⟩, fun x hx y hy => hgn _ (Gm x hx).2.2 y hy, fun x hx => by simp [nx, succs], fun l hd h => bound_ints n l hd fun x hx => by
      obtain ⟨r, hr, rfl⟩ := h x hx
      exact ⟨hpos r hr, hlt r hr.1 hr.2.1⟩⟩
    obtain ⟨N, hN, e1⟩ := s_numb (acc := acc) V hn hcl hll hs H hn hnx hac
    have hfirst : ∀ x, G x → m_i_Automaton_minimize_1 x c = some (rep c x) := fun x hx => i_index (by omega) (Gm x hx).1
    obtain ⟨N', hN', e2⟩ := i_numb (most := (c.length : Int)) (p2 := fun a0 => m_i_Automaton_minimize_2 a0 (a.1, a.2.1, a.2.2) (fun a0 => m_i_Automaton_minimize_1 a0 c)) (p3 := fun a0 a1 => m_i_Automaton_minimize_3 a0 a1 (a.1, a.2.1, a.2.2) (fun a0 => m_i_Automaton_minimize_1 a0 c) c) (acc := acc) H hn (by omega) (fun x hx => iOk_in hn (Gm x hx).2.1 (by
        obtain ⟨r, hr, rfl⟩ := hx
        exact hlt r hr.1 hr.2.1)) (fun x hx => by
      show m_i_Automaton_minimize_2 x (a.1, a.2.1, a.2.2) (fun a0 => m_i_Automaton_minimize_1 a0 c) = _
      unfold m_i_Automaton_minimize_2
      simp only
      rw [hfirst x hx]; simp only [Option.bind_some]
      rw [V.acc (Gm x hx).2.2.1 (Gm x hx).2.2.2.1]; rfl) (fun x k hx hk => by
      obtain ⟨hm, hx0, hg⟩ := Gm x hx
      have hm' := V.mv hg.1 hg.2.1 hk
      refine ⟨0, ?_⟩
      show m_i_Automaton_minimize_3 x k (a.1, a.2.1, a.2.2) (fun a0 => m_i_Automaton_minimize_1 a0 c) c = _
      unfold m_i_Automaton_minimize_3
      simp only
      rw [hfirst x hx]; simp only [Option.bind_some]
      rw [show m_i_Automaton_move (a.1, a.2.1, a.2.2) (rep c x) k = some (mv a (rep c x) k) from i_move V hg.1 hg.2.1 hk]; simp only [Option.bind_some]
      show _ = some (match nth (succs a c (live a) (rep c x)) (k : Int) with | some y => (y, true) | none => (0, false))
      rw [succs_at hk]
      by_cases h : mv a (rep c x) k < 0
      · rw [if_pos (by simpa using h), if_neg (fun h' => by omega)]
      · rw [if_neg (by simpa using h), getI_nth (by omega) (by omega)]; simp only [Option.bind_some]
        have hng := hneg (mv a (rep c x) k) (by omega) hm'.2
        cases hl : nth (live a) (mv a (rep c x) k) with
        | false =>
          have := hng.2 hl
          rw [if_pos (by simpa using this), if_neg (fun h' => by cases h'.2)]
        | true =>
          have : ¬ nth c (mv a (rep c x) k) < 0 := fun h' => by have := hng.1 h'; rw [hl] at this; cases this
          rw [if_neg (by simpa using this), if_pos ⟨by omega, rfl⟩])
    obtain rfl := bfE_uniq hN hN'
    refine ⟨_, by rw [e1]; rfl, ?_, num_sm H hn hN⟩
    rw [if_neg (by simp; omega)]
    exact (congrArg (fun x => Option.bind x _) e2).trans rfl
end
end Go.Proofs.YtimjccbdngajoaaGreat.D
/- What is numbered is an automaton. -/
set_option linter.unusedVariables false
set_option linter.unusedSimpArgs false
set_option linter.unnecessarySimpa false
set_option linter.unusedSectionVars false
namespace Go.Proofs.YtimjccbdngajoaaGreat.D
open Go.RowKit
section
variable {κ : Type} [DecidableEq κ] [Inhabited κ] {nx : κ → List (Option κ)} {first : κ} {G : κ → Prop} {B N : Nat} {acc : κ → Bool}
theorem nbR_range : ∀ (l : List κ) (os : List (Option κ)), ∀ t ∈ nbR l os, -1 ≤ t ∧ t < ((nbS l os).length : Int)
  | l, [] => fun t ht => by cases ht
  | l, o :: os => fun t ht => by
    have hp := nbS_prefix (nbL l o) os
    have hl := hp.length_le
    rcases List.mem_cons.1 ht with rfl | ht
    · show -1 ≤ nbI l o ∧ nbI l o < ((nbS (nbL l o) os).length : Int)
      cases o with
      | none => exact ⟨by simp [nbI], by simp only [nbI]; omega⟩
      | some y =>
        by_cases c : y ∈ l
        · obtain ⟨q, hq, e, -⟩ := nbI_mem c
          rw [nbL_old c] at hl
          rw [e]; exact ⟨by omega, by rw [nbL_old c]; omega⟩
        · rw [nbL_new c] at hl
          rw [nbI_new c]; rw [List.length_append] at hl
          exact ⟨by omega, by rw [nbL_new c]; simp at hl; omega⟩
    · exact nbR_range (nbL l o) os t ht
theorem num_VA (H : NumOk nx first G B) (hN : bfE nx first N) : VA ((0, (bfS nx first N).map acc, bfR nx first N) : AutT) N := by
  have h0 : 0 < N := by
    have := bfS_first (nx := nx) (first := first) N
    have := (List.getElem?_eq_some_iff.1 this).1
    have := hN.1; omega
  have key : ∀ i, i ≤ N → ∀ r ∈ bfR nx first i, r.length = 9 ∧ ∀ t ∈ r, -1 ≤ t ∧ t < (N : Int) := by
    intro i
    induction i with
    | zero => intro _ r hr; cases hr
    | succ i ih =>
      intro hi r hr
      have hlt := hN.2 i (by omega)
      rw [bfR_succ hlt] at hr
      rcases List.mem_append.1 hr with hr | hr
      · exact ih (by omega) r hr
      · obtain rfl := List.mem_singleton.1 hr
        refine ⟨by rw [nbR_length, H.len _ (bfS_good H.g0 H.gn i _ (List.getElem_mem hlt))], fun t ht => ?_⟩
        have := nbR_range _ _ t ht
        rw [← bfS_succ hlt] at this
        have hl := (bfS_prefix (nx := nx) (first := first) hi).length_le
        have := hN.1
        omega
  exact ⟨by show ((bfS nx first N).map acc).length = N; rw [List.length_map]; exact hN.1.symm, ⟨Int.le_refl _, by show (0 : Int) < N; omega⟩, bfR_length hN.2, fun r hr => (key N (Nat.le_refl _) r hr).1, fun r hr => (key N (Nat.le_refl _) r hr).2⟩
theorem num_VA' (hlen : ∀ x, (nx x).length = 9) (hN : bfE nx first N) : VA ((0, (bfS nx first N).map acc, bfR nx first N) : AutT) N := by
  have h0 : 0 < N := by
    have := bfS_first (nx := nx) (first := first) N
    have := (List.getElem?_eq_some_iff.1 this).1
    have := hN.1; omega
  have key : ∀ i, i ≤ N → ∀ r ∈ bfR nx first i, r.length = 9 ∧ ∀ t ∈ r, -1 ≤ t ∧ t < (N : Int) := by
    intro i
    induction i with
    | zero => intro _ r hr; cases hr
    | succ i ih =>
      intro hi r hr
      have hlt := hN.2 i (by omega)
      rw [bfR_succ hlt] at hr
      rcases List.mem_append.1 hr with hr | hr
      · exact ih (by omega) r hr
      · obtain rfl := List.mem_singleton.1 hr
        refine ⟨by rw [nbR_length, hlen _], fun t ht => ?_⟩
        have := nbR_range _ _ t ht
        rw [← bfS_succ hlt] at this
        have hl := (bfS_prefix (nx := nx) (first := first) hi).length_le
        have := hN.1
        omega
  exact ⟨by show ((bfS nx first N).map acc).length = N; rw [List.length_map]; exact hN.1.symm, ⟨Int.le_refl _, by show (0 : Int) < N; omega⟩, bfR_length hN.2, fun r hr => (key N (Nat.le_refl _) r hr).1, fun r hr => (key N (Nat.le_refl _) r hr).2⟩
end
end Go.Proofs.YtimjccbdngajoaaGreat.D
/- The reference and the program compile an expression to the same automaton. -/
set_option linter.unusedVariables false
set_option linter.unusedSimpArgs false
set_option linter.unnecessarySimpa false
set_option linter.unusedSectionVars false
namespace Go.Proofs.YtimjccbdngajoaaGreat.D
open Go.RowKit

theorem zero_sm' : Data.sm ((0, [], []) : AutT) := ⟨trivial, ⟨by decide, fun _ h => by cases h⟩, by decide, fun _ h => by cases h⟩
theorem goM_end {κ : Type} [DecidableEq κ] {nx : κ → List (Option κ)} {first : κ} {acc : κ → Bool} {most : Nat} : ∀ (f i : Nat), (∀ j, j < i → j < (bfS nx first j).length) → (bfS nx first i).length ≤ most → goM nx first acc most f i = ((0, [], []), false) ∨ ∃ N, bfE nx first N ∧ N ≤ most ∧ goM nx first acc most f i = ((0, (bfS nx first N).map acc, bfR nx first N), true)
  | 0, i, _, _ => .inl rfl
  | f + 1, i, h, hl => by
    have hle := seen_le h
    rw [goM]
    by_cases c : i < (bfS nx first i).length
    · rw [if_pos c]
      by_cases d : (bfS nx first (i + 1)).length > most
      · rw [if_pos d]; exact .inl rfl
      · rw [if_neg d]
        exact goM_end f (i + 1) (fun j hj => by
          by_cases e : j = i
          · subst e; exact c
          · exact h j (by omega)) (by omega)
    · rw [if_neg c]
      exact .inr ⟨i, ⟨by omega, h⟩, by omega, by rw [List.take_of_length_le (by omega)]⟩
theorem compile_both {e : List Tok} (he : e.length ≤ 1048576) : ∃ r : AutT × Bool, m_s_CompileExpr e = some r ∧ m_i_CompileExpr e = some r ∧ Data.sm r.1 := by
  obtain ⟨⟨p, b⟩, e1, e2, h1, h2⟩ := buildPositions_both he
  have h1 : p.2.2.2.1.length = p.1.length := h1
  have h2 : p.1.length ≤ 100000 := h2
  unfold m_s_CompileExpr m_i_CompileExpr
  rw [e1, e2]; simp only [Option.bind_some, peta]
  cases b with
  | false => exact ⟨((0, [], []), false), rfl, rfl, zero_sm'⟩
  | true =>
    have d1 := s_det (p := p) (most := 200) h1 (by omega) (by omega) (by omega)
    have d2 := i_det (p := p) (most := 200) h1 (by omega) (by omega) (by omega)
    have d1 : m_s_l11Subsets p 200 = _ := d1
    have d2 : m_i_determinize p 200 = _ := d2
    rw [d1, d2]; simp only [if_true, Option.bind_some]
    rcases goM_end (nx := nxS p) (first := 1) (acc := accP1 p) (most := 200) (200 + 2) 0 (fun j hj => by omega) (by simp [bfS]) with e | ⟨N, hN, hNm, e⟩
    · rw [e]
      exact ⟨((0, [], []), false), rfl, rfl, zero_sm'⟩
    · rw [e]; simp only [if_true]
      have V := num_VA' (acc := accP1 p) (nxS_len p) hN
      obtain ⟨r, es, ei, hr⟩ := minim_eq V (by omega)
      unfold m_i_small
      rw [es]; simp only [Option.bind_some, peta]
      rw [ei]; simp only [Option.bind_some, peta]
      by_cases c : (r.2.1.length : Int) > 12
      · have c' : decide ((r.2.1.length : Int) > 12) = true := decide_eq_true c
        simp only [c', if_true, Option.bind_some]
        exact ⟨((0, [], []), false), rfl, rfl, zero_sm'⟩
      · have c' : decide ((r.2.1.length : Int) > 12) = false := decide_eq_false c
        simp only [c', Bool.false_eq_true, if_false, Option.bind_some]
        exact ⟨(r, true), rfl, rfl, hr⟩
theorem compile_any {e : List Tok} (he : e.length ≤ 1048576) : ∃ r : AutT × Bool, m_s_CompileExpr e = some r ∧ m_i_CompileExpr e = some r ∧ Data.sm r.1 := compile_both he
end Go.Proofs.YtimjccbdngajoaaGreat.D
/- Automata, expressions and registries compared; registries built. -/
set_option linter.unusedVariables false
set_option linter.unusedSimpArgs false
set_option linter.unnecessarySimpa false
set_option linter.unusedSectionVars false
set_option synthInstance.maxSize 20000
set_option synthInstance.maxHeartbeats 2000000
namespace Go.Proofs.YtimjccbdngajoaaGreat.D
open Go.RowKit

theorem q_sAutomata (x y : AutT) (hx : Data.sm x) : m_s_EqualAutomata x y = some (decide (x = y)) := by
  obtain ⟨-, ⟨ha, -⟩, hn, hr⟩ := hx
  unfold m_s_EqualAutomata
  by_cases c1 : x.1 = y.1
  case neg => rw [if_pos (by simpa using c1)]; simp [Prod.ext_iff, c1]
  rw [if_neg (by simpa using c1)]
  by_cases c2 : x.2.1.length = y.2.1.length
  case neg => rw [if_pos (by simp; omega)]; simp [Prod.ext_iff]; exact fun _ e => absurd (by rw [e]) c2
  rw [if_neg (by simp; omega)]
  by_cases c3 : x.2.2.length = y.2.2.length
  case neg => rw [if_pos (by simp; omega)]; simp [Prod.ext_iff]; exact fun _ _ e => absurd (by rw [e]) c3
  rw [if_neg (by simp; omega)]
  rw [eqB (f := m_s_EqualAutomata_l0 x y) x.2.1 y.2.1 (by omega) c2 (fun i h h' => by
    simp only [m_s_EqualAutomata_l0, lt_nat h, if_true, getI_nat h, getI_nat h', Option.bind_some, wrap_succ (show i < 9223372036854775807 by omega)]
    by_cases c : x.2.1[i] = y.2.1[i] <;> simp [c]) (by simp only [m_s_EqualAutomata_l0, lt_self]; rfl)]
  by_cases c4 : x.2.1 = y.2.1
  case neg => rw [if_neg c4]; simp [Prod.ext_iff, c4]
  rw [if_pos c4]
  rw [eqB (f := m_s_EqualAutomata_l1 x y) x.2.2 y.2.2 (by omega) c3 (fun i h h' => by
    obtain ⟨r, e, hr'⟩ := q_l2Cmp x.2.2[i] y.2.2[i] ((hr _ (List.getElem_mem h)).1)
    simp only [m_s_EqualAutomata_l1, lt_nat h, if_true, getI_nat h, getI_nat h', Option.bind_some, wrap_succ (show i < 9223372036854775807 by omega), e]
    by_cases c : x.2.2[i] = y.2.2[i]
    · rw [if_neg (by simpa using hr'.2 c), if_pos c]
    · rw [if_pos (by simpa using fun e => c (hr'.1 e)), if_neg c]) (by simp only [m_s_EqualAutomata_l1, lt_self]; rfl)]
  by_cases c5 : x.2.2 = y.2.2
  · rw [if_pos c5]; simp [Prod.ext_iff, c1, c4, c5]
  · rw [if_neg c5]; simp [Prod.ext_iff, c5]
theorem q_iBools (xs ys : List Bool) (hN : xs.length ≤ 9223372036854775807) : m_g_slices_Equal_S_bool_bool xs ys = some (decide (xs = ys)) :=
  eqL (f := m_g_slices_Equal_S_bool_bool_l0 xs ys) xs ys hN (fun i h h' => by
    simp only [m_g_slices_Equal_S_bool_bool_l0, lt_nat h, if_true, getI_nat h, getI_nat h', Option.bind_some, wrap_succ (show i < 9223372036854775807 by omega)]
    by_cases c : xs[i] = ys[i] <;> simp [c]) (by simp only [m_g_slices_Equal_S_bool_bool_l0, lt_self]; rfl)
theorem q_iAutomata (x y : AutT) (hx : Data.sm x) : m_i_EqualAutomata x y = some (decide (x = y)) := by
  obtain ⟨-, ⟨ha, -⟩, hn, hr⟩ := hx
  unfold m_i_EqualAutomata
  by_cases c1 : x.1 = y.1
  case neg => rw [if_neg (by simpa using c1)]; simp [Prod.ext_iff, c1]
  rw [if_pos (by simpa using c1), q_iBools _ _ (by omega)]; simp only [Option.bind_some]
  by_cases c2 : x.2.1 = y.2.1
  case neg => rw [if_neg (by simpa using c2)]; simp [Prod.ext_iff, c2]
  rw [if_pos (by simpa using c2)]
  have : m_g_slices_EqualFunc_S_S_int_S_S_int_S_int_S_int x.2.2 y.2.2 (fun a0 a1 => m_i_EqualAutomata_1 a0 a1) = some (decide (x.2.2 = y.2.2)) :=
    eqL (f := m_g_slices_EqualFunc_S_S_int_S_S_int_S_int_S_int_l0 x.2.2 y.2.2 _) x.2.2 y.2.2 (by omega) (fun i h h' => by
      simp only [m_g_slices_EqualFunc_S_S_int_S_S_int_S_int_S_int_l0, lt_nat h, if_true, getI_nat h, getI_nat h', Option.bind_some, wrap_succ (show i < 9223372036854775807 by omega), m_i_EqualAutomata_1]
      rw [q_sliceEq _ _ (by have : x.2.2[i].length ≤ 1048576 := (hr _ (List.getElem_mem h)).1; omega)]; simp only [Option.bind_some]
      by_cases c : x.2.2[i] = y.2.2[i] <;> simp [c]) (by simp only [m_g_slices_EqualFunc_S_S_int_S_S_int_S_int_S_int_l0, lt_self]; rfl)
  rw [this]
  by_cases c3 : x.2.2 = y.2.2 <;> simp [Prod.ext_iff, c1, c2, c3]

abbrev QT := Int × List Tok × Int
abbrev RegT := List AutT × List QT
theorem q_sExprs (x y : List Tok) (hx : x.length ≤ 1048576) : m_s_EqualExprs x y = some (decide (x = y)) := by
  unfold m_s_EqualExprs
  exact eqL (f := m_s_EqualExprs_l0 x y) x y (by omega) (fun i h h' => by
    simp only [m_s_EqualExprs_l0 , lt_nat h, if_true, getI_nat h, getI_nat h', Option.bind_some, peta, wrap_succ (show i < 9223372036854775807 by omega)]
    refine iteOpt ?_; simp only [Bool.and_true, Bool.and_eq_true, beq_iff_eq]; exact peq4) (by simp only [m_s_EqualExprs_l0 , lt_self]; rfl)
theorem q_iTokens (x y : List Tok) (hx : x.length ≤ 1048576) : m_g_slices_Equal_S_Token_Token x y = some (decide (x = y)) := by
  unfold m_g_slices_Equal_S_Token_Token
  exact eqL (f := m_g_slices_Equal_S_Token_Token_l0 x y) x y (by omega) (fun i h h' => by
    simp only [m_g_slices_Equal_S_Token_Token_l0 , lt_nat h, if_true, getI_nat h, getI_nat h', Option.bind_some, peta, wrap_succ (show i < 9223372036854775807 by omega)]
    refine iteOpt ?_; simp only [Bool.and_true, Bool.and_eq_true, beq_iff_eq]; exact peq4) (by simp only [m_g_slices_Equal_S_Token_Token_l0 , lt_self]; rfl)
theorem q_iExprs (x y : List Tok) (hx : x.length ≤ 1048576) : m_i_EqualExprs x y = some (decide (x = y)) := by
  unfold m_i_EqualExprs
  rw [q_iTokens x y hx]; rfl
theorem q_sRegistries (x y : RegT) (hx : Data.sm x) : m_s_EqualRegistries x y = some (decide (x = y)) := by
  obtain ⟨⟨ha, hA⟩, hq, hQ⟩ := hx
  unfold m_s_EqualRegistries
  by_cases h1 : x.1.length = y.1.length
  · by_cases h2 : x.2.length = y.2.length
    · rw [if_neg (by rw [h1]; simp), if_neg (by rw [h2]; simp)]
      rw [eqB (f := m_s_EqualRegistries_l0 x y) x.1 y.1 (by omega) h1 (fun i h h' => by
        simp only [m_s_EqualRegistries_l0, lt_nat h, if_true, getI_nat h, getI_nat h', Option.bind_some, peta, q_sAutomata x.1[i] y.1[i] (hA _ (List.getElem_mem h)), wrap_succ (show i < 9223372036854775807 by omega)]
        exact iteOpt (by simp)) (by simp only [m_s_EqualRegistries_l0, lt_self]; rfl)]
      rw [eqB (f := m_s_EqualRegistries_l1 x y) x.2 y.2 (by omega) h2 (fun i h h' => by
        have e := q_sExprs x.2[i].2.1 y.2[i].2.1 (hQ _ (List.getElem_mem h)).2.1.1
        simp only [m_s_EqualRegistries_l1, lt_nat h, if_true, getI_nat h, getI_nat h', Option.bind_some, e, wrap_succ (show i < 9223372036854775807 by omega)]
        generalize x.2[i] = u; generalize y.2[i] = v
        by_cases e1 : u.1 = v.1 <;> by_cases e2 : u.2.1 = v.2.1 <;> by_cases e3 : u.2.2 = v.2.2 <;> simp [Prod.ext_iff, e1, e2, e3]) (by simp only [m_s_EqualRegistries_l1, lt_self]; rfl)]
      by_cases e1 : x.1 = y.1 <;> by_cases e2 : x.2 = y.2 <;> simp [Prod.ext_iff, e1, e2]
    · have : x.2 ≠ y.2 := fun e => h2 (by rw [e])
      rw [if_neg (by rw [h1]; simp), if_pos (by simp; omega)]; simp [Prod.ext_iff, this]
  · have : x.1 ≠ y.1 := fun e => h1 (by rw [e])
    rw [if_pos (by simp; omega)]; simp [Prod.ext_iff, this]
theorem q_iQueries (x y : QT) (hx : Data.sm x) : m_i_equalQueries x y = some (decide (x = y)) := by
  unfold m_i_equalQueries
  rw [q_iExprs x.2.1 y.2.1 hx.2.1.1]; simp only [Option.bind_some]
  by_cases h1 : x.1 = y.1 <;> by_cases h2 : x.2.1 = y.2.1 <;> by_cases h3 : x.2.2 = y.2.2 <;> simp [Prod.ext_iff, h1, h2, h3]
theorem q_iRegistries (x y : RegT) (hx : Data.sm x) : m_i_EqualRegistries x y = some (decide (x = y)) := by
  obtain ⟨⟨ha, hA⟩, hq, hQ⟩ := hx
  unfold m_i_EqualRegistries
  have e : m_g_slices_EqualFunc_S_Automaton_S_Automaton_Automaton_Automaton x.1 y.1 (fun a0 a1 => m_i_EqualAutomata a0 a1) = some (decide (x.1 = y.1)) :=
    eqL (f := m_g_slices_EqualFunc_S_Automaton_S_Automaton_Automaton_Automaton_l0 x.1 y.1 _) x.1 y.1 (by omega) (fun i h h' => by
      simp only [m_g_slices_EqualFunc_S_Automaton_S_Automaton_Automaton_Automaton_l0, lt_nat h, if_true, getI_nat h, getI_nat h', Option.bind_some, peta, wrap_succ (show i < 9223372036854775807 by omega), q_iAutomata x.1[i] y.1[i] (hA _ (List.getElem_mem h))]
      exact iteOpt (by simp)) (by simp only [m_g_slices_EqualFunc_S_Automaton_S_Automaton_Automaton_Automaton_l0, lt_self]; rfl)
  have e' : m_g_slices_EqualFunc_S_Registered_S_Registered_Registered_Registered x.2 y.2 (fun a0 a1 => m_i_equalQueries a0 a1) = some (decide (x.2 = y.2)) :=
    eqL (f := m_g_slices_EqualFunc_S_Registered_S_Registered_Registered_Registered_l0 x.2 y.2 _) x.2 y.2 (by omega) (fun i h h' => by
      simp only [m_g_slices_EqualFunc_S_Registered_S_Registered_Registered_Registered_l0, lt_nat h, if_true, getI_nat h, getI_nat h', Option.bind_some, peta, wrap_succ (show i < 9223372036854775807 by omega), q_iQueries x.2[i] y.2[i] (hQ _ (List.getElem_mem h))]
      exact iteOpt (by simp)) (by simp only [m_g_slices_EqualFunc_S_Registered_S_Registered_Registered_Registered_l0, lt_self]; rfl)
  rw [e, e']; simp only [Option.bind_some]
  by_cases h1 : x.1 = y.1 <;> by_cases h2 : x.2 = y.2 <;> simp [Prod.ext_iff, h1, h2]

/-! ### Two loops that do the same -/
theorem loopM_same {R S : Type} {f g : S → Option (Out R S)} (Inv : Nat → S → Prop) (h : ∀ i s, Inv i s → g s = f s ∧ ∀ s', f s = some (.nxt s') → Inv (i + 1) s') : ∀ (k i : Nat) (s : S), Inv i s → loopM g k s = loopM f k s
  | 0, _, _, _ => rfl
  | k + 1, i, s, hI => by
    obtain ⟨h1, h2⟩ := h i s hI
    rw [loopM, loopM, h1]
    cases e : f s with
    | none => rfl
    | some o =>
      cases o with
      | nxt s' => exact loopM_same Inv h k (i + 1) s' (h2 s' e)
      | brk s' => rfl
      | ret r => rfl
theorem idx_both {f g : Int → Option (Out Int Int)} (N : Nat) (hN : N ≤ 1048576) (h : ∀ i : Nat, i < N → f (i : Int) = some (.ret (i : Int)) ∨ f (i : Int) = some (.nxt ((i + 1 : Nat) : Int))) (he : f (N : Int) = some (.brk (N : Int))) (hfg : ∀ i : Nat, i ≤ N → g (i : Int) = f (i : Int)) :
    ∃ r : Int, bindL (loopM f FUEL 0) (fun r => some r) (fun _ => some (-1)) = some r ∧ bindL (loopM g FUEL 0) (fun r => some r) (fun _ => some (-1)) = some r ∧ (r = -1 ∨ ∃ i : Nat, i < N ∧ r = (i : Int)) := by
  have hs : loopM g FUEL 0 = loopM f FUEL 0 := loopM_same (fun i s => s = (i : Int) ∧ i ≤ N) (fun i s ⟨e, hi⟩ => by
    subst e
    refine ⟨hfg i hi, fun s' e => ?_⟩
    by_cases c : i < N
    · rcases h i c with e2 | e2
      · rw [e2] at e; cases e
      · rw [e2] at e; cases e; exact ⟨rfl, c⟩
    · obtain rfl : i = N := by omega
      rw [he] at e; cases e) FUEL 0 0 ⟨rfl, Nat.zero_le _⟩
  rw [hs]
  obtain ⟨o, e, ho⟩ := loopM_go (f := f) (fun i s => s = (i : Int)) (fun o => o = .brk (N : Int) ∨ ∃ i : Nat, i < N ∧ o = .ret (i : Int)) N (fun i s hi hs => by
    subst hs
    by_cases h1 : i < N
    · rcases h i h1 with h2 | h2
      · exact .inr ⟨_, h2, (fun s' e => by cases e), .inr ⟨i, h1, rfl⟩⟩
      · exact .inl ⟨h1, _, h2, rfl⟩
    · obtain rfl : i = N := by omega
      exact .inr ⟨_, he, (fun s' e => by cases e), .inl rfl⟩) (s := 0) rfl (fuelUp _ (by omega))
  rw [e]
  rcases ho with rfl | ⟨i, hi, rfl⟩
  · exact ⟨-1, rfl, rfl, .inl rfl⟩
  · exact ⟨i, rfl, rfl, .inr ⟨i, hi, rfl⟩⟩
theorem index_both (l : List AutT) (a : AutT) (hl : l.length ≤ 1048576) (hs : ∀ x ∈ l, Data.sm x) (ha : Data.sm a) : ∃ r : Int, m_s_l31Index l a = some r ∧ m_g_slices_IndexFunc_S_Automaton_Automaton l (fun a0 => m_i_shared_1 a0 a) = some r ∧ (r = -1 ∨ ∃ i : Nat, i < l.length ∧ r = (i : Int)) := by
  unfold m_s_l31Index m_g_slices_IndexFunc_S_Automaton_Automaton
  have hf : ∀ i (h : i < l.length), m_s_l31Index_l0 l a (i : Int) = if l[i] = a then some (.ret (i : Int)) else some (.nxt ((i + 1 : Nat) : Int)) := fun i h => by
    simp only [m_s_l31Index_l0, lt_nat h, if_true, getI_nat h, Option.bind_some, peta, q_sAutomata l[i] a (hs _ (List.getElem_mem h)), wrap_succ (show i < 9223372036854775807 by omega)]
    by_cases c : l[i] = a <;> simp [c]
  refine idx_both l.length hl (fun i h => ?_) (by simp only [m_s_l31Index_l0, lt_self]; rfl) (fun i hi => ?_)
  · rw [hf i h]; by_cases c : l[i] = a <;> simp [c]
  · by_cases h : i < l.length
    · rw [hf i h]
      simp only [m_g_slices_IndexFunc_S_Automaton_Automaton_l0, m_i_shared_1, lt_nat h, if_true, getI_nat h, Option.bind_some, peta, q_iAutomata a l[i] ha, wrap_succ (show i < 9223372036854775807 by omega)]
      by_cases c : l[i] = a
      · simp [c]
      · have : ¬ a = l[i] := fun e => c e.symm
        simp [c, this]
    · obtain rfl : i = l.length := by omega
      simp only [m_s_l31Index_l0, m_g_slices_IndexFunc_S_Automaton_Automaton_l0, lt_self]; rfl
/-! ### The registry of some queries -/
def RegIn (n i : Nat) (s : Int × List AutT × List QT) : Prop := s.1 = (i : Int) ∧ i ≤ n ∧ s.2.2.length = i ∧ s.2.1.length ≤ i ∧ (∀ a ∈ s.2.1, Data.sm a) ∧ ∀ q ∈ s.2.2, Data.sm q ∧ 0 ≤ q.2.2 ∧ q.2.2 < (s.2.1.length : Int)
theorem reg_step {qs : List QT} (hq : Data.sm qs) {i : Nat} {s : Int × List AutT × List QT} (hI : RegIn qs.length i s) : m_i_shared_l0 qs s = m_s_l31Build_l0 qs s ∧
    ((i < qs.length ∧ ∃ s', m_s_l31Build_l0 qs s = some (.nxt s') ∧ RegIn qs.length (i + 1) s') ∨ ∃ o, m_s_l31Build_l0 qs s = some o ∧ (∀ s', o ≠ .nxt s') ∧ (o = .ret (([], []), false) ∨ o = .brk s ∧ i = qs.length)) := by
  obtain ⟨hn, hs⟩ := sm_list hq
  obtain ⟨s1, A, Q⟩ := s
  obtain ⟨h1, h2, h3, h4, h5, h6⟩ := hI
  simp only at h1 h3 h4 h5 h6
  subst h1
  by_cases hi : i < qs.length
  · have hqi := hs _ (List.getElem_mem hi)
    obtain ⟨r, es, ei, hr⟩ := compile_any (e := qs[i].2.1) hqi.2.1.1
    obtain ⟨k, ks, ki, hk⟩ := index_both A r.1 (by omega) h5 hr
    have a1 : appI 56 A [r.1] = some (A ++ [r.1]) := appI_ok (by simp; omega)
    have a2 : ∀ y, appI 40 Q [y] = some (Q ++ [y]) := fun y => appI_ok (by simp; omega)
    have a3 : m_s_l8Copy qs[i].2.1 = some qs[i].2.1 := by unfold m_s_l8Copy; rw [appI_ok (by have := hqi.2.1.1; simp; omega)]; rfl
    have a4 : m_i_copyExpr qs[i].2.1 = some qs[i].2.1 := by unfold m_i_copyExpr; rw [appI_ok (by have := hqi.2.1.1; simp; omega)]; rfl
    unfold m_i_shared_l0 m_s_l31Build_l0
    simp only [lt_nat hi, if_true, getI_nat hi, Option.bind_some, es, ei, s_in, i_in, peta, ks, ki, a1, a2, a3, a4, wrap_succ (show i < 9223372036854775807 by omega)]
    by_cases c1 : r.2 = true
    case neg =>
      simp only [c1, Bool.false_eq_true, if_false]
      exact ⟨by first | trivial | rfl, .inr ⟨_, rfl, (fun s' e => by cases e), .inl rfl⟩⟩
    simp only [c1, if_true]
    by_cases c2 : 1 ≤ qs[i].1 ∧ qs[i].1 ≤ 99
    case neg =>
      simp only [c2, decide_false, Bool.false_eq_true, if_false]
      exact ⟨by first | trivial | rfl, .inr ⟨_, rfl, (fun s' e => by cases e), .inl rfl⟩⟩
    simp only [c2, decide_true, if_true]
    have fin : ∃ s' : Int × List AutT × List QT, (∀ (y : Option (Out (RegT × Bool) (Int × List AutT × List QT))), True) ∧ (Option.bind (if decide (k < 0) then some ((A.length : Int), A ++ [r.1], Q) else some (k, A, Q)) fun s10 : Int × List AutT × List QT => (appI 40 s10.2.2 [(qs[i].1, qs[i].2.1, s10.1)]).bind fun z18 => some (.nxt (((i + 1 : Nat) : Int), s10.2.1, z18)) : Option (Out (RegT × Bool) (Int × List AutT × List QT))) = some (.nxt s') ∧ RegIn qs.length (i + 1) s' := by
      rcases hk with rfl | ⟨j, hj, rfl⟩
      · refine ⟨(((i + 1 : Nat) : Int), A ++ [r.1], Q ++ [(qs[i].1, qs[i].2.1, (A.length : Int))]), fun _ => trivial, ?_, rfl, hi, by simp; omega, by simp; omega, fun a ha => ?_, fun q hq' => ?_⟩
        · simp only [show decide ((-1 : Int) < 0) = true from rfl, if_true, Option.bind_some, a2]
        · simp only [List.mem_append, List.mem_singleton] at ha
          rcases ha with ha | rfl
          · exact h5 a ha
          · exact hr
        · simp only [List.mem_append, List.mem_singleton] at hq'
          simp only [List.length_append, List.length_singleton]
          rcases hq' with hq' | rfl
          · obtain ⟨b1, b2, b3⟩ := h6 q hq'
            exact ⟨b1, b2, by omega⟩
          · exact ⟨⟨trivial, hqi.2.1, trivial⟩, by simp, by simp; omega⟩
      · refine ⟨(((i + 1 : Nat) : Int), A, Q ++ [(qs[i].1, qs[i].2.1, (j : Int))]), fun _ => trivial, ?_, rfl, hi, by simp; omega, by simp only; omega, h5, fun q hq' => ?_⟩
        · have : decide ((j : Int) < 0) = false := by simp
          simp only [this, Bool.false_eq_true, if_false, Option.bind_some, a2]
        · simp only [List.mem_append, List.mem_singleton] at hq'
          rcases hq' with hq' | rfl
          · exact h6 q hq'
          · exact ⟨⟨trivial, hqi.2.1, trivial⟩, by simp, by simp; omega⟩
    obtain ⟨s', -, e, hI'⟩ := fin
    by_cases c3 : (i : Int) > 0
    · have hp : i - 1 < qs.length := by omega
      have hw : IntKind.i64.wrap ((i : Int) - 1) = ((i - 1 : Nat) : Int) := by rw [wrap_pred (by omega)]; omega
      simp only [c3, decide_true, if_true, hw, getI_nat hp, Option.bind_some]
      by_cases c4 : qs[i - 1].1 ≥ qs[i].1
      · simp only [c4, decide_true, if_true]
        exact ⟨by first | trivial | rfl, .inr ⟨_, rfl, (fun s' e => by cases e), .inl rfl⟩⟩
      · simp only [c4, decide_false, Bool.false_eq_true, if_false]
        exact ⟨by first | trivial | rfl, .inl ⟨hi, s', e, hI'⟩⟩
    · simp only [c3, decide_false, Bool.false_eq_true, if_false]
      exact ⟨by first | trivial | rfl, .inl ⟨hi, s', e, hI'⟩⟩
  · obtain rfl : i = qs.length := by omega
    unfold m_i_shared_l0 m_s_l31Build_l0
    simp only [lt_self, Bool.false_eq_true, if_false]
    exact ⟨by first | trivial | rfl, .inr ⟨_, rfl, (fun s' e => by cases e), .inr (by first | exact ⟨rfl, rfl⟩ | exact ⟨trivial, rfl⟩ | exact ⟨rfl, trivial⟩ | simp)⟩⟩
def RegOk (r : RegT) : Prop := Data.sm r ∧ ∀ q ∈ r.2, 0 ≤ q.2.2 ∧ q.2.2 < (r.1.length : Int)
theorem reg_both {qs : List QT} (hq : Data.sm qs) : ∃ r : RegT, ∃ b : Bool, m_s_l31Build qs = (if (qs.length : Int) > 4 then some (([], []), false) else some (r, b)) ∧ m_i_shared qs = some (r, b && decide ((qs.length : Int) ≤ 4)) ∧ RegOk r := by
  have hn := (sm_list hq).1
  have h0 : RegIn qs.length 0 (0, [], []) := ⟨rfl, Nat.zero_le _, rfl, Nat.le_refl _, fun _ h => (by cases h), fun _ h => (by cases h)⟩
  have hs : loopM (m_i_shared_l0 qs) FUEL (0, [], []) = loopM (m_s_l31Build_l0 qs) FUEL (0, [], []) := loopM_same (RegIn qs.length) (fun i s hI => by
    obtain ⟨e, h⟩ := reg_step hq hI
    refine ⟨e, fun s' e' => ?_⟩
    rcases h with ⟨_, s2, e2, hI2⟩ | ⟨o, e2, hne, -⟩
    · rw [e2] at e'; cases e'; exact hI2
    · rw [e2] at e'; cases e'; exact absurd rfl (hne s')) FUEL 0 _ h0
  obtain ⟨o, e, ho⟩ := loopM_go (f := m_s_l31Build_l0 qs) (RegIn qs.length) (fun o => o = .ret (([], []), false) ∨ ∃ A Q, o = .brk ((qs.length : Int), A, Q) ∧ RegIn qs.length qs.length ((qs.length : Int), A, Q)) qs.length (fun i s hi hI => by
    rcases (reg_step hq hI).2 with h | ⟨o, e, hne, h⟩
    · exact .inl h
    · refine .inr ⟨o, e, hne, ?_⟩
      rcases h with h | ⟨h, rfl⟩
      · exact .inl h
      · obtain ⟨s1, A, Q⟩ := s
        obtain ⟨rfl, -⟩ := id hI
        exact .inr ⟨A, Q, h, hI⟩) h0 (fuelUp _ (by omega))
  unfold m_s_l31Build m_i_shared
  rw [hs, e]
  rcases ho with rfl | ⟨A, Q, rfl, -, -, h3, h4, h5, h6⟩
  · refine ⟨([], []), false, ?_, rfl, ⟨⟨Nat.zero_le _, fun _ h => (by cases h)⟩, Nat.zero_le _, fun _ h => (by cases h)⟩, fun _ h => (by cases h)⟩
    by_cases c : (qs.length : Int) > 4 <;> simp [c, bindL]
  · simp only at h3 h4 h5 h6
    refine ⟨(A, Q), true, ?_, by simp [bindL], ⟨⟨show A.length ≤ 1048576 by omega, h5⟩, show Q.length ≤ 1048576 by omega, fun q h => (h6 q h).1⟩, fun q h => (h6 q h).2⟩
    by_cases c : (qs.length : Int) > 4 <;> simp [c, bindL]
theorem valid_both {r : RegT} (hr : Data.sm r) : ∃ b, m_s_IsValidRegistry r = some b ∧ m_i_IsValidRegistry r = some b ∧ (b = true → RegOk r) := by
  obtain ⟨x, b, e1, e2, hx⟩ := reg_both hr.2
  unfold m_s_IsValidRegistry m_i_IsValidRegistry
  rw [e1, e2]
  by_cases c : (r.2.length : Int) > 4
  · have c' : ¬ (r.2.length : Int) ≤ 4 := by omega
    exact ⟨false, by simp [c], by simp [c'], fun e => by cases e⟩
  · have c' : (r.2.length : Int) ≤ 4 := by omega
    cases b with
    | false => exact ⟨false, by simp [c], by simp, fun e => by cases e⟩
    | true =>
      simp only [c, if_false, Option.bind_some, if_true, c', decide_true, Bool.and_true, peta, q_sRegistries x r hx.1, q_iRegistries x r hx.1]
      exact ⟨_, rfl, rfl, fun e => by rw [← of_decide_eq_true e]; exact hx⟩
end Go.Proofs.YtimjccbdngajoaaGreat.D
/- Automata copied; queries asked for their automaton. -/
set_option linter.unusedVariables false
set_option linter.unusedSimpArgs false
set_option linter.unnecessarySimpa false
set_option linter.unusedSectionVars false
set_option synthInstance.maxSize 20000
set_option synthInstance.maxHeartbeats 2000000
namespace Go.Proofs.YtimjccbdngajoaaGreat.D
open Go.RowKit

theorem s_copyA (a : AutT) (ha : Data.sm a) : m_s_l11Copy a = some a := by
  obtain ⟨-, ⟨hb, -⟩, hn, hr⟩ := ha
  unfold m_s_l11Copy
  rw [appI_ok (by simp; omega)]; simp only [Option.bind_some, List.nil_append]
  have := loopM_at (f := m_s_l11Copy_l0 a) (fun i => ((i : Int), a.1, a.2.1, a.2.2.take i)) a.2.2.length (fun i hi => by
    unfold m_s_l11Copy_l0
    have h1 : appI 8 ([] : List Int) a.2.2[i] = some a.2.2[i] := by rw [appI_ok (by have : a.2.2[i].length ≤ 1048576 := (hr _ (List.getElem_mem hi)).1; simp; omega)]; rfl
    simp only [lt_nat hi, if_true, getI_nat hi, Option.bind_some, h1, wrap_succ (show i < 9223372036854775807 by omega)]
    rw [appI_ok (by simp; omega)]
    simp only [Option.bind_some]
    rw [List.take_succ_eq_append_getElem hi]) (by
    unfold m_s_l11Copy_l0
    simp only [lt_self, Bool.false_eq_true, if_false]) (fuelUp _ (by omega))
  have e : loopM (m_s_l11Copy_l0 a) FUEL (0, a.1, a.2.1, []) = _ := this
  rw [e]
  simp only [bindL, List.take_length]
theorem i_copyA (a : AutT) (ha : Data.sm a) : m_i_copyAutomaton a = some a := by
  obtain ⟨-, ⟨hb, -⟩, hn, hr⟩ := ha
  unfold m_i_copyAutomaton
  rw [appI_ok (by simp; omega)]; simp only [Option.bind_some, List.nil_append]
  have := loopM_at (f := m_i_copyAutomaton_l0 a) (fun i => ((i : Int), a.1, a.2.1, a.2.2.take i)) a.2.2.length (fun i hi => by
    unfold m_i_copyAutomaton_l0 m_i_copyInts
    have h1 : appI 8 ([] : List Int) a.2.2[i] = some a.2.2[i] := by rw [appI_ok (by have : a.2.2[i].length ≤ 1048576 := (hr _ (List.getElem_mem hi)).1; simp; omega)]; rfl
    simp only [lt_nat hi, if_true, getI_nat hi, Option.bind_some, h1, wrap_succ (show i < 9223372036854775807 by omega)]
    rw [appI_ok (by simp; omega)]
    simp only [Option.bind_some]
    rw [List.take_succ_eq_append_getElem hi]) (by
    unfold m_i_copyAutomaton_l0
    simp only [lt_self, Bool.false_eq_true, if_false]) (fuelUp _ (by omega))
  have e : loopM (m_i_copyAutomaton_l0 a) FUEL (0, a.1, a.2.1, []) = _ := this
  rw [e]
  simp only [bindL, List.take_length]
theorem find_both (r : RegT) (id : Int) (hl : r.2.length ≤ 1048576) : ∃ k : Int, m_s_FindQuery r id = some k ∧ m_i_FindQuery r id = some k ∧ (k = -1 ∨ ∃ i : Nat, i < r.2.length ∧ k = (i : Int)) := by
  unfold m_s_FindQuery m_i_FindQuery m_g_slices_IndexFunc_S_Registered_Registered
  have hf : ∀ i (h : i < r.2.length), m_s_FindQuery_l0 r id (i : Int) = if r.2[i].1 = id then some (.ret (i : Int)) else some (.nxt ((i + 1 : Nat) : Int)) := fun i h => by
    simp only [m_s_FindQuery_l0, lt_nat h, if_true, getI_nat h, Option.bind_some, wrap_succ (show i < 9223372036854775807 by omega)]
    by_cases c : r.2[i].1 = id <;> simp [c]
  obtain ⟨k, e1, e2, h⟩ := idx_both (f := m_s_FindQuery_l0 r id) (g := m_g_slices_IndexFunc_S_Registered_Registered_l0 r.2 fun a0 => m_i_FindQuery_1 a0 id) r.2.length hl (fun i h => by
    rw [hf i h]; by_cases c : r.2[i].1 = id <;> simp [c]) (by simp only [m_s_FindQuery_l0, lt_self]; rfl) (fun i hi => by
    by_cases h : i < r.2.length
    · rw [hf i h]
      simp only [m_g_slices_IndexFunc_S_Registered_Registered_l0, m_i_FindQuery_1, lt_nat h, if_true, getI_nat h, Option.bind_some, wrap_succ (show i < 9223372036854775807 by omega)]
      by_cases c : r.2[i].1 = id <;> simp [c]
    · obtain rfl : i = r.2.length := by omega
      simp only [m_s_FindQuery_l0, m_g_slices_IndexFunc_S_Registered_Registered_l0, lt_self]; rfl)
  refine ⟨k, e1, ?_, h⟩
  rw [e2]; rfl

end Go.Proofs.YtimjccbdngajoaaGreat.D
/- Registries copied. -/
set_option linter.unusedVariables false
set_option linter.unusedSimpArgs false
set_option linter.unnecessarySimpa false
set_option linter.unusedSectionVars false
set_option synthInstance.maxSize 20000
set_option synthInstance.maxHeartbeats 2000000
namespace Go.Proofs.YtimjccbdngajoaaGreat.D
open Go.RowKit

theorem s_copyR (r : RegT) (hr : Data.sm r) : m_s_l31Copy r = some r := by
  obtain ⟨h1, h2⟩ := sm_list hr.1
  obtain ⟨h3, h4⟩ := sm_list hr.2
  unfold m_s_l31Copy
  have a := loopM_at (f := m_s_l31Copy_l0 r) (fun i => ((i : Int), r.1.take i, ([] : List QT))) r.1.length (fun i hi => by
    unfold m_s_l31Copy_l0
    simp only [lt_nat hi, if_true, getI_nat hi, Option.bind_some, peta, s_copyA _ (h2 _ (List.getElem_mem hi)), wrap_succ (show i < 9223372036854775807 by omega)]
    rw [appI_ok (by simp; omega)]
    simp only [Option.bind_some]
    rw [List.take_succ_eq_append_getElem hi]) (by
    unfold m_s_l31Copy_l0
    simp only [lt_self, Bool.false_eq_true, if_false]) (fuelUp _ (by omega))
  have e : loopM (m_s_l31Copy_l0 r) FUEL (0, [], []) = _ := a
  rw [e]
  simp only [bindL, List.take_length]
  have a := loopM_at (f := m_s_l31Copy_l1 r) (fun i => ((i : Int), r.1, r.2.take i)) r.2.length (fun i hi => by
    unfold m_s_l31Copy_l1
    have c : m_s_l8Copy r.2[i].2.1 = some r.2[i].2.1 := by unfold m_s_l8Copy; rw [appI_ok (by have := (h4 _ (List.getElem_mem hi)).2.1.1; simp; omega)]; rfl
    simp only [lt_nat hi, if_true, getI_nat hi, Option.bind_some, peta, c, wrap_succ (show i < 9223372036854775807 by omega)]
    rw [appI_ok (by simp; omega)]
    simp only [Option.bind_some]
    rw [List.take_succ_eq_append_getElem hi]) (by
    unfold m_s_l31Copy_l1
    simp only [lt_self, Bool.false_eq_true, if_false]) (fuelUp _ (by omega))
  have e : loopM (m_s_l31Copy_l1 r) FUEL (0, r.1, []) = _ := a
  rw [e]
  simp only [List.take_length]
theorem i_copyR (r : RegT) (hr : Data.sm r) : m_i_copyRegistry r = some r := by
  obtain ⟨h1, h2⟩ := sm_list hr.1
  obtain ⟨h3, h4⟩ := sm_list hr.2
  unfold m_i_copyRegistry
  have a := loopM_at (f := m_i_copyRegistry_l0 r) (fun i => ((i : Int), r.1.take i, ([] : List QT))) r.1.length (fun i hi => by
    unfold m_i_copyRegistry_l0
    simp only [lt_nat hi, if_true, getI_nat hi, Option.bind_some, peta, i_copyA _ (h2 _ (List.getElem_mem hi)), wrap_succ (show i < 9223372036854775807 by omega)]
    rw [appI_ok (by simp; omega)]
    simp only [Option.bind_some]
    rw [List.take_succ_eq_append_getElem hi]) (by
    unfold m_i_copyRegistry_l0
    simp only [lt_self, Bool.false_eq_true, if_false]) (fuelUp _ (by omega))
  have e : loopM (m_i_copyRegistry_l0 r) FUEL (0, [], []) = _ := a
  rw [e]
  simp only [bindL, List.take_length]
  have a := loopM_at (f := m_i_copyRegistry_l1 r) (fun i => ((i : Int), r.1, r.2.take i)) r.2.length (fun i hi => by
    unfold m_i_copyRegistry_l1
    have c : m_i_copyExpr r.2[i].2.1 = some r.2[i].2.1 := by unfold m_i_copyExpr; rw [appI_ok (by have := (h4 _ (List.getElem_mem hi)).2.1.1; simp; omega)]; rfl
    simp only [lt_nat hi, if_true, getI_nat hi, Option.bind_some, peta, c, wrap_succ (show i < 9223372036854775807 by omega)]
    rw [appI_ok (by simp; omega)]
    simp only [Option.bind_some]
    rw [List.take_succ_eq_append_getElem hi]) (by
    unfold m_i_copyRegistry_l1
    simp only [lt_self, Bool.false_eq_true, if_false]) (fuelUp _ (by omega))
  have e : loopM (m_i_copyRegistry_l1 r) FUEL (0, r.1, []) = _ := a
  rw [e]
  simp only [List.take_length]
theorem valid_len {r : RegT} (hr : Data.sm r) (h : m_i_IsValidRegistry r = some true) : r.2.length ≤ 4 := by
  obtain ⟨x, b, e1, e2, hx⟩ := reg_both hr.2
  unfold m_i_IsValidRegistry at h
  rw [e2] at h
  by_cases c : (r.2.length : Int) ≤ 4
  · omega
  · simp [c] at h
end Go.Proofs.YtimjccbdngajoaaGreat.D
/- A query put into a registry. -/
set_option linter.unusedVariables false
set_option linter.unusedSimpArgs false
set_option linter.unnecessarySimpa false
set_option linter.unusedSectionVars false
set_option synthInstance.maxSize 20000
set_option synthInstance.maxHeartbeats 2000000
namespace Go.Proofs.YtimjccbdngajoaaGreat.D
open Go.RowKit

theorem sm_ins {α : Type} [Data α] {xs : List α} {y : α} (h : Data.sm xs) (hy : Data.sm y) (i : Nat) (hl : xs.length ≤ 1048575) : Data.sm (xs.take i ++ ([y] ++ xs.drop i)) := by
  obtain ⟨h1, h2⟩ := sm_list h
  refine ⟨?_, fun x hx => ?_⟩
  · simp only [List.length_append, List.length_take, List.length_drop, List.length_cons, List.length_nil]; omega
  · rcases List.mem_append.1 hx with hx | hx
    · exact h2 _ (List.mem_of_mem_take hx)
    · rcases List.mem_append.1 hx with hx | hx
      · rw [List.mem_singleton.1 hx]; exact hy
      · exact h2 _ (List.mem_of_mem_drop hx)
theorem regis_both {r : RegT} (hr : Data.sm r) (id : Int) {e : List Tok} (he : Data.sm e) : ∃ x : RegT × Bool, m_s_RegisterQuery r id e = some x ∧ m_i_RegisterQuery r id e = some x ∧ Data.sm x.1 := by
  obtain ⟨hn, hq⟩ := sm_list hr.2
  obtain ⟨k, f1, f2, hk⟩ := find_both r id hn
  obtain ⟨b, v1, v2, hv⟩ := valid_both hr
  unfold m_s_RegisterQuery m_i_RegisterQuery
  simp only [f1, f2, v1, v2, Option.bind_some, peta, s_copyR r hr, i_copyR r hr]
  cases b with
  | false => exact ⟨(r, false), rfl, rfl, hr⟩
  | true =>
    simp only [if_true]
    by_cases hk0 : k ≥ 0
    · exact ⟨(r, false), by simp [hk0], by simp [hk0], hr⟩
    · have h4 := valid_len hr v2
      have hk0 : decide (k ≥ 0) = false := by simpa using hk0
      simp only [hk0, Bool.false_eq_true, if_false]
      -- where it goes
      have lp : ∀ f : Int → Option (Out (RegT × Bool) Int), (∀ s, f s = if decide (s < (r.2.length : Int)) then ((getI r.2 s).bind fun x5 => if decide (x5.1 < id) then (some (.nxt (IntKind.i64.wrap (s + 1)))) else (some (.brk s))) else (some (.brk s))) → ∃ i : Nat, i ≤ r.2.length ∧ loopM f FUEL 0 = some (.brk (i : Int)) := by
        intro f hf
        obtain ⟨o, e, i, hi, rfl⟩ := loopM_go (f := f) (fun i s => s = (i : Int)) (fun o => ∃ i : Nat, i ≤ r.2.length ∧ o = .brk (i : Int)) r.2.length (fun i s hi hI => by
          subst hI
          rw [hf]
          by_cases h1 : i < r.2.length
          · simp only [lt_nat h1, if_true, getI_nat h1, Option.bind_some, wrap_succ (show i < 9223372036854775807 by omega)]
            by_cases h2 : r.2[i].1 < id
            · exact .inl ⟨h1, _, by simp [h2], rfl⟩
            · exact .inr ⟨.brk (i : Int), by simp [h2], (fun s' e => by cases e), i, hi, rfl⟩
          · obtain rfl : i = r.2.length := by omega
            exact .inr ⟨.brk (r.2.length : Int), by simp only [lt_self, Bool.false_eq_true, if_false], (fun s' e => by cases e), _, hi, rfl⟩) (s := 0) rfl (fuelUp _ (by omega))
        exact ⟨i, hi, e⟩
      obtain ⟨i, hi, l1⟩ := lp (m_s_RegisterQuery_l0 r id) (fun s => rfl)
      have l2 : loopM (m_i_RegisterQuery_l0 r id) FUEL 0 = some (.brk (i : Int)) := by
        rw [← l1]
        congr 1
      simp only [l1, l2, bindL]
      have hy : Data.sm ((id, e, (0 : Int)) : QT) := ⟨trivial, he, trivial⟩
      have hs := sm_ins (y := ((id, e, (0 : Int)) : QT)) hr.2 hy i (by omega)
      obtain ⟨x, c, e1, e2, hx⟩ := reg_both hs
      have q1 : (chk (0 ≤ (i : Int) ∧ (i : Int) ≤ (r.2.length : Int))) = some () := if_pos (by omega)
      have a1 : appI 40 ([] : List QT) (r.2.take i) = some (r.2.take i) := by rw [appI_ok (by simp only [List.length_nil, List.length_take]; omega)]; rfl
      have a2 : appI 40 (r.2.take i) [((id, e, (0 : Int)) : QT)] = some (r.2.take i ++ [(id, e, 0)]) := appI_ok (by simp only [List.length_take, List.length_cons, List.length_nil]; omega)
      have a3 : appI 40 (r.2.take i ++ [((id, e, (0 : Int)) : QT)]) (r.2.drop i) = some (r.2.take i ++ ([(id, e, 0)] ++ r.2.drop i)) := by
        rw [appI_ok (by simp only [List.length_append, List.length_take, List.length_drop, List.length_cons, List.length_nil]; omega), List.append_assoc]
      have a4 : m_g_slices_Clone_S_Registered_Registered r.2 = some r.2 := by unfold m_g_slices_Clone_S_Registered_Registered; rw [appI_ok (by simp only [List.length_nil]; omega)]; rfl
      have a5 : m_g_slices_Insert_S_Registered_Registered r.2 (i : Int) [((id, e, (0 : Int)) : QT)] = some (r.2.take i ++ ([(id, e, 0)] ++ r.2.drop i), [(id, e, 0)]) := by
        unfold m_g_slices_Insert_S_Registered_Registered R.insI
        have : (chk (0 ≤ (i : Int) ∧ (i : Int) ≤ (r.2.length : Int) ∧ [((id, e, (0 : Int)) : QT)].length = 1 ∧ 1 ≤ 40 ∧ (r.2.length + 1) * 40 ≤ 140737488355328)) = some () := if_pos ⟨by omega, by omega, rfl, by omega, by omega⟩
        rw [this]; rfl
      simp only [q1, Option.bind_some, Int.toNat_natCast, a1, a2, a3, a4, a5, e1, e2]
      by_cases hl : ((r.2.take i ++ ([((id, e, (0 : Int)) : QT)] ++ r.2.drop i)).length : Int) > 4
      · have hl' : ¬ ((r.2.take i ++ ([((id, e, (0 : Int)) : QT)] ++ r.2.drop i)).length : Int) ≤ 4 := by omega
        simp only [hl, if_true, Option.bind_some, Bool.false_eq_true, if_false, hl', decide_false, Bool.and_false]
        exact ⟨_, rfl, rfl, hr⟩
      · have hl' : ((r.2.take i ++ ([((id, e, (0 : Int)) : QT)] ++ r.2.drop i)).length : Int) ≤ 4 := by omega
        simp only [hl, if_false, Option.bind_some, hl', decide_true, Bool.and_true]
        cases c with
        | true => exact ⟨_, rfl, rfl, hx.1⟩
        | false => exact ⟨_, rfl, rfl, hr⟩
end Go.Proofs.YtimjccbdngajoaaGreat.D
/- The plain law of RegisterQuery. -/
set_option linter.unusedVariables false
set_option linter.unusedSimpArgs false
set_option linter.unnecessarySimpa false
set_option linter.unusedSectionVars false
set_option synthInstance.maxSize 20000
set_option synthInstance.maxHeartbeats 2000000
namespace Go.Proofs.YtimjccbdngajoaaGreat.D
open Go.RowKit

theorem lawRegisterQuery (x : RegT) (id : Int) (e : List Tok) (hx : Data.lim x) (_ : Data.lim id) (he : Data.lim e) : m_w_FnExactRegisterQuery x id e = some true := by
  unfold m_w_FnExactRegisterQuery
  simp only [peta]
  obtain ⟨r1, e1, k1⟩ := z_szRegistry x 1048576 hx (by decide) (by decide)
  rw [e1]; simp only [Option.bind_some]
  rcases k1 with k1 | ⟨k1, j1, s1⟩
  · rw [if_pos (decide_eq_true k1)]
  rw [if_neg (by simpa using k1)]
  obtain ⟨r2, e2, k2⟩ := z_szExpr e r1 he (by omega) (by omega)
  rw [e2]; simp only [Option.bind_some]
  rcases k2 with k2 | ⟨k2, j2, s2⟩
  · rw [if_pos (decide_eq_true k2)]
  rw [if_neg (by simpa using k2)]
  obtain ⟨r, es, ei, sr⟩ := regis_both s1 id s2
  have b1 := nb_Registry x s1
  have b2 := nb_Registry r.1 sr
  have b3 := nb_Expr e s2
  have em1 : m_w_markRegistry x 1 = _ := mk_Registry x s1 (k := 1) (by omega)
  have em2 : m_w_markRegistry r.1 1 = _ := mk_Registry r.1 sr (k := 1) (by omega)
  have eh2 : m_w_heldRegistry (d_Registry r.1 1) 1 = _ := hd_Registry r.1 sr (k := 1) (by omega)
  have em3 := mk_Expr e s2 (k := 1 + n_Registry x) (by omega)
  simp only [t_toRegistry x s1, t_toExpr e s2, es, ei, q_eqRegistry r.1 r.1 sr sr, q_eqRegistry x x s1 s1, q_eqExpr e e s2 s2, Option.bind_some, peta, em1, em2, eh2, em3, decide_true, if_true, ltzM, bne_self_eq_false, Bool.false_eq_true, if_false]
end Go.Proofs.YtimjccbdngajoaaGreat.D
/- From 'the call returns true and changes nothing that was there' to the row's own post, whatever the arguments' types. -/
set_option linter.unusedVariables false
set_option linter.unusedSimpArgs false
namespace Go.Proofs.YtimjccbdngajoaaGreat
open Go.ChangeShapes Go.WideShapes Go.ChangeAt Go.RowKit
theorem own : ownKnob Tryz.prog.godebug = none := by kernel_rfl
theorem laidOut : laidOutB Tryz.prog = true := by kernel_rfl
theorem below_trodAll {H : Type} {enc : TypeId × Value → H} {P : Program} (hl : laidOutB P = true) {W W' : World} (hb : Below W.heap.size W W') :
    ∀ {ts : List TypeId} {vs : List Value} {ds : List (DataW H)} {ps : List MemPlace}, (∀ t ∈ ts, P.readableRec t = true ∧ t < P.types.size) →
      DataW.TrodAll enc P W 0 (fun _ => true) true ts vs ds ps → (∀ x ∈ ps, x.block < W.heap.size) → DataW.TrodAll enc P W' 0 (fun b => decide (b < W.heap.size)) true ts vs ds ps
  | [], [], [], ps, _, h, _ => h
  | t :: ts, v :: vs, d :: ds, ps, hr, ⟨p, q, h1, h2, h3⟩, hlt => by
    subst h3
    exact ⟨p, q, Below.trod hl (hr t (by simp)).1 (hr t (by simp)).2 h1 hb fun x hx => hlt x (by simp [hx]), below_trodAll hl hb (fun t ht => hr t (by simp [ht])) h2 fun x hx => hlt x (by simp [hx]), rfl⟩
  | [], _ :: _, _, _, _, h, _ => h.elim
  | [], [], _ :: _, _, _, h, _ => h.elim
  | _ :: _, [], _, _, _, h, _ => h.elim
  | _ :: _, _ :: _, [], _, _, h, _ => h.elim
theorem law_post {H : Type} {enc : TypeId × Value → H} {f : Func} {s : ChangeSpec} {W W' : World} {args : Array Value} {ds : List (DataW H)} {before : List MemPlace} (tb : TypeId)
    (hb : Tryz.prog.underlying tb = some .bool) (hr : f.resultTypes = #[tb]) (hp : (f.params.toList.all fun t => Tryz.prog.readableRec t && decide (t < Tryz.prog.types.size)) = true) (hv : s.vars = [])
    (hW : DataW.Whole enc Tryz.prog f.params.toList s.vars false W args.toList ds [] before) (hres : (s.fn H (ds ++ [])).results = [.lit (.bool true)]) (hargs : (s.fn H (ds ++ [])).args = ds) (hvars : (s.fn H (ds ++ [])).vars = [])
    (hbel : Below W.heap.size W W') : s.post enc Tryz.prog f false true false false W args (.bool true) W' := by
  obtain ⟨p, q, h1, h2, h3, h4, h5⟩ := hW
  have hW' : DataW.Whole enc Tryz.prog f.params.toList s.vars false W args.toList ds [] before := ⟨p, q, h1, h2, h3, h4, h5⟩
  have hq : q = [] := by rw [hv] at h2; exact h2
  subst hq
  simp only [List.append_nil] at h3
  subst h3
  refine ⟨ds, [], before, [], before, [], hW', ?_, ?_, ?_, hbel.frame _, fun h => by cases h⟩
  · rw [hres, hr]
    exact trodAll_mk1 (shut_bool hb true)
  · rw [hargs]
    exact below_trodAll laidOut hbel (fun t ht => by have := List.all_eq_true.1 hp t ht; simpa using this) h1 fun x hx => by simpa using hW'.lt x hx
  · rw [hvars, hv]; rfl
end Go.Proofs.YtimjccbdngajoaaGreat
/- FnExactRegisterQuery: for every input the law returns true and changes nothing that was there. (Printed by genrow.py over the walk and the plain law.) -/
set_option linter.unusedVariables false
set_option linter.unusedSimpArgs false
set_option linter.unnecessarySimpa false
set_option maxRecDepth 100000
namespace Go.Proofs.YtimjccbdngajoaaGreat
open Go.ChangeShapes Go.WideShapes Go.ChangeAt Go.RowKit
namespace D
theorem op3 : Opens Tryz.prog 3 rInt := opens_int Tryz.underlying3
theorem op4 : Opens Tryz.prog 4 rBool := opens_bool Tryz.underlying4
theorem op35 : Opens Tryz.prog 35 (rSlice 4 rBool) := opens_slice Tryz.underlying35 (by kernel_rfl) (by decide) op4
theorem op56 : Opens Tryz.prog 56 (rSlice 3 rInt) := opens_slice Tryz.underlying56 (by kernel_rfl) (by decide) op3
theorem op36 : Opens Tryz.prog 36 (rSlice 56 (rSlice 3 rInt)) := opens_slice Tryz.underlying36 (by kernel_rfl) (by decide) op56
theorem op109 : Opens Tryz.prog 109 (rProd rInt (rProd (rSlice 4 rBool) (rSlice 56 (rSlice 3 rInt)))) := by
  refine opens_struct Tryz.underlying109 (by kernel_rfl) ?_
  refine opens_next (R := rInt) (S := rProd (rSlice 4 rBool) (rSlice 56 (rSlice 3 rInt))) rfl (by kernel_rfl) op3 ?_
  refine opens_next (R := rSlice 4 rBool) (S := rSlice 56 (rSlice 3 rInt)) rfl (by kernel_rfl) op35 ?_
  exact opens_last rfl (by kernel_rfl) op36
theorem op22 : Opens Tryz.prog 22 (rSlice 109 (rProd rInt (rProd (rSlice 4 rBool) (rSlice 56 (rSlice 3 rInt))))) := opens_slice Tryz.underlying22 (by kernel_rfl) (by decide) op109
theorem op145 : Opens Tryz.prog 145 (rProd rInt (rProd rInt (rProd rInt rInt))) := by
  refine opens_struct Tryz.underlying145 (by kernel_rfl) ?_
  refine opens_next (R := rInt) (S := rProd (rInt) (rProd (rInt) (rInt))) rfl (by kernel_rfl) op3 ?_
  refine opens_next (R := rInt) (S := rProd (rInt) (rInt)) rfl (by kernel_rfl) op3 ?_
  refine opens_next (R := rInt) (S := rInt) rfl (by kernel_rfl) op3 ?_
  exact opens_last rfl (by kernel_rfl) op3
theorem op60 : Opens Tryz.prog 60 (rSlice 145 (rProd rInt (rProd rInt (rProd rInt rInt)))) := opens_slice Tryz.underlying60 (by kernel_rfl) (by decide) op145
theorem op62 : Opens Tryz.prog 62 (rSlice 145 (rProd rInt (rProd rInt (rProd rInt rInt)))) := by
  refine opens_struct Tryz.underlying62 (by kernel_rfl) ?_
  exact opens_last rfl (by kernel_rfl) op60
theorem op112 : Opens Tryz.prog 112 (rProd rInt (rProd (rSlice 145 (rProd rInt (rProd rInt (rProd rInt rInt)))) rInt)) := by
  refine opens_struct Tryz.underlying112 (by kernel_rfl) ?_
  refine opens_next (R := rInt) (S := rProd (rSlice 145 (rProd rInt (rProd rInt (rProd rInt rInt)))) (rInt)) rfl (by kernel_rfl) op3 ?_
  refine opens_next (R := rSlice 145 (rProd rInt (rProd rInt (rProd rInt rInt)))) (S := rInt) rfl (by kernel_rfl) op62 ?_
  exact opens_last rfl (by kernel_rfl) op3
theorem op23 : Opens Tryz.prog 23 (rSlice 112 (rProd rInt (rProd (rSlice 145 (rProd rInt (rProd rInt (rProd rInt rInt)))) rInt))) := opens_slice Tryz.underlying23 (by kernel_rfl) (by decide) op112
theorem op25 : Opens Tryz.prog 25 (rProd (rSlice 109 (rProd rInt (rProd (rSlice 4 rBool) (rSlice 56 (rSlice 3 rInt))))) (rSlice 112 (rProd rInt (rProd (rSlice 145 (rProd rInt (rProd rInt (rProd rInt rInt)))) rInt)))) := by
  refine opens_struct Tryz.underlying25 (by kernel_rfl) ?_
  refine opens_next (R := rSlice 109 (rProd rInt (rProd (rSlice 4 rBool) (rSlice 56 (rSlice 3 rInt))))) (S := rSlice 112 (rProd rInt (rProd (rSlice 145 (rProd rInt (rProd rInt (rProd rInt rInt)))) rInt))) rfl (by kernel_rfl) op22 ?_
  exact opens_last rfl (by kernel_rfl) op23
theorem rdL25 {W : World} {base : Nat} {z : Value} {H : Type} {enc : TypeId × Value → H} {d : DataW H} {p : List MemPlace} (hv : Value.okWide Tryz.prog W .any base 25 z) (h : DataW.Trod enc Tryz.prog W 0 (fun _ => true) true 25 z d p) :
    ∃ (x : (List (Int × (List Bool) × (List (List Int)))) × (List (Int × ((List (Int × Int × Int × Int))) × Int))) (v0 : Value) (v1 : Value), z = .agg #[v0, v1] ∧ Data.lim x ∧ (rSlice 109 (rProd rInt (rProd (rSlice 4 rBool) (rSlice 56 (rSlice 3 rInt))))).rd (hp W) [v0] x.1 ∧ (rSlice 112 (rProd rInt (rProd (rSlice 145 (rProd rInt (rProd rInt (rProd rInt rInt)))) rInt))).rd (hp W) [v1] x.2 := by
  obtain ⟨fuel, hf⟩ := h
  obtain ⟨⟨cs⟩, rfl, -⟩ := okWide_struct Tryz.underlying25 hv
  obtain ⟨x, hx, hl⟩ := op25.out enc W _ _ _ hf
  have hx : (rProd (rSlice 109 (rProd rInt (rProd (rSlice 4 rBool) (rSlice 56 (rSlice 3 rInt))))) (rSlice 112 (rProd rInt (rProd (rSlice 145 (rProd rInt (rProd rInt (rProd rInt rInt)))) rInt)))).rd (hp W) cs x := hx
  obtain ⟨_, _, rfl, r0, r1⟩ := hx
  obtain ⟨v0, rfl⟩ := one_cell r0 rfl
  obtain ⟨v1, rfl⟩ := one_cell r1 rfl
  exact ⟨x, v0, v1, rfl, hl, r0, r1⟩
theorem rdL3 {W : World} {base : Nat} {z : Value} {H : Type} {enc : TypeId × Value → H} {d : DataW H} {p : List MemPlace} (hv : Value.okWide Tryz.prog W .any base 3 z) (h : DataW.Trod enc Tryz.prog W 0 (fun _ => true) true 3 z d p) :
    ∃ (x : Int), z = .int .i64 x ∧ Data.lim x := by
  obtain ⟨fuel, hf⟩ := h
  obtain ⟨n, rfl⟩ := okWide_int Tryz.underlying3 hv
  obtain ⟨x, hx, hl⟩ := op3.out enc W _ _ _ hf
  exact ⟨x, (List.cons.inj (show [_] = [_] from hx)).1, hl⟩
theorem rdL62 {W : World} {base : Nat} {z : Value} {H : Type} {enc : TypeId × Value → H} {d : DataW H} {p : List MemPlace} (hv : Value.okWide Tryz.prog W .any base 62 z) (h : DataW.Trod enc Tryz.prog W 0 (fun _ => true) true 62 z d p) :
    ∃ (x : (List (Int × Int × Int × Int))) (v0 : Value), z = .agg #[v0] ∧ Data.lim x ∧ (rSlice 145 (rProd rInt (rProd rInt (rProd rInt rInt)))).rd (hp W) [v0] x := by
  obtain ⟨fuel, hf⟩ := h
  obtain ⟨⟨cs⟩, rfl, -⟩ := okWide_struct Tryz.underlying62 hv
  obtain ⟨x, hx, hl⟩ := op62.out enc W _ _ _ hf
  have hx : (rSlice 145 (rProd rInt (rProd rInt (rProd rInt rInt)))).rd (hp W) cs x := hx
  have r0 := hx
  obtain ⟨v0, rfl⟩ := one_cell r0 rfl
  exact ⟨x, v0, rfl, hl, r0⟩
end D
open D (Data)
theorem rowLRegisterQuery (W : World) (args : Array Value) (H : Type) (enc : TypeId × Value → H) (base : Nat) (ds gs : List (DataW H)) (before : List MemPlace)
    (hval : ∀ (j : Nat) t v, Tryz.f8.params[j]? = some t → args[j]? = some v → Value.okWide Tryz.prog W .any base t v)
    (hW : DataW.Whole enc Tryz.prog Tryz.f8.params.toList Rows.fnExactRegisterQuerySpec.vars false W args.toList ds gs before) :
    Calls Tryz.prog 8 args W fun e W' => ∃ v, e = .returned v ∧ Rows.fnExactRegisterQuerySpec.post enc Tryz.prog Tryz.f8 false true false false W args v W' := by
  have hW' := hW
  obtain ⟨p, q, hA, hV, rfl, hfz, hnd⟩ := hW
  rw [Tryz.params8] at hA hval
  obtain ⟨z0, vs0, d0, ds0, p0, q0, hargs, rfl, rfl, h0, r0⟩ := trodAll_cons hA
  obtain ⟨z1, vs1, d1, ds1, p1, q1, rfl, rfl, rfl, h1, r1⟩ := trodAll_cons r0
  obtain ⟨z2, vs2, d2, ds2, p2, q2, rfl, rfl, rfl, h2, r2⟩ := trodAll_cons r1
  obtain ⟨rfl, rfl, rfl⟩ := trodAll_nil r2
  obtain rfl : args = #[z0, z1, z2] := by cases args; simp_all
  obtain ⟨rfl, rfl⟩ := trodVars_none hV
  obtain ⟨x0, v0_0, v0_1, rfl, l0, r0_0, r0_1⟩ := D.rdL25 (hval 0 _ _ rfl rfl) h0
  obtain ⟨x1, rfl, l1⟩ := D.rdL3 (hval 1 _ _ rfl rfl) h1
  obtain ⟨x2, v2_0, rfl, l2, r2_0⟩ := D.rdL62 (hval 2 _ _ rfl rfl) h2
  have hc := D.c_w_FnExactRegisterQuery x0 x1 x2 true (D.lawRegisterQuery x0 x1 x2 l0 l1 l2) (I := D.hp W) (w0 := W) v0_0 v0_1 v2_0 r0_0 r0_1 r2_0 W [] (D.St.init W)
  refine hc.mono fun e W' ⟨v, he, hv, hs⟩ => ?_
  subst he; subst hv
  exact ⟨_, rfl, law_post (f := Tryz.f8) (s := Rows.fnExactRegisterQuerySpec) 4 Tryz.underlying4 rfl (by kernel_rfl) rfl hW' rfl rfl rfl (D.St.below hs)⟩
theorem liftedLRegisterQuery (os : Os) (started : os.Started) (H : Type) (enc : TypeId × Value → H) :
    ReturnsInHanded {} Tryz.checked os 8 .any (Rows.fnExactRegisterQuerySpec.pre6 enc Tryz.prog Tryz.f8 Rows.fnExactRegisterQueryRow.domain false) (Rows.fnExactRegisterQuerySpec.post enc Tryz.prog Tryz.f8 false true false false) := by
  refine returnsInHanded_of_change_sized (C := Tryz.checked) own started (by kernel_rfl) Tryz.func8
    (ChangeSpec.witness6 (enc := enc) (C := Tryz.checked) false ⟨#[], #[.agg #[.slice none 0 0, .slice none 0 0], .int .i64 0, .agg #[.slice none 0 0]], []⟩ 8 (by kernel_rfl) (by kernel_rfl) (by kernel_rfl) (by kernel_rfl)) ?_
  intro W base args ds gs before hval hW hcnd hsz _
  exact rowLRegisterQuery W args H enc base ds gs before hval hW
theorem holdsLRegisterQuery : Rows.FnExactRegisterQuerySaid :=
  OpenClaim.holds_of_wide 8 Tryz.f8 rfl rfl rfl rfl rfl rfl rfl ⟨rfl, rfl, rfl, rfl, rfl⟩ rfl rfl rfl rfl rfl (by kernel_rfl) Tryz.func8 (by kernel_rfl)
    (of_decide_eq_true (by kernel_rfl)) (by unfold Func.isWrapper; first | (rw [if_pos (by decide +kernel)]; kernel_rfl) | (rw [if_neg (by decide +kernel)]; exact ⟨rfl, rfl⟩))
    (fun os started H enc _ => liftedLRegisterQuery os started H enc)
end Go.Proofs.YtimjccbdngajoaaGreat
