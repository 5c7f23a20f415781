/- Intersection, union, difference and complement: pairs of states, by the reference and by the program. -/
import Derived.Test.YtcihbmdppgpmjaaCNumbS
import Derived.Test.YtcihbmdppgpmjaaCMinim3
import Derived.Test.YtcihbmdppgpmjaaCAutAcc
set_option linter.unusedVariables false
set_option linter.unusedSimpArgs false
set_option linter.unnecessarySimpa false
set_option linter.unusedSectionVars false
namespace Go.Proofs.Ytcihbmdppgpmjaa.D
open Go.RowKit

/-! ### What is numbered is an automaton -/
section
variable {κ : Type} [DecidableEq κ] [Inhabited κ] {nx : κ → List (Option κ)} {first : κ} {G : κ → Prop} {B N : Nat} {acc : κ → Bool}
theorem nbR_range : ∀ (l : List κ) (os : List (Option κ)), ∀ t ∈ nbR l os, -1 ≤ t ∧ t < ((nbS l os).length : Int)
  | l, [] => fun t ht => by cases ht
  | l, o :: os => fun t ht => by
    have hp := nbS_prefix (nbL l o) os
    have hl := hp.length_le
    rcases List.mem_cons.1 ht with rfl | ht
    · show -1 ≤ nbI l o ∧ nbI l o < ((nbS (nbL l o) os).length : Int)
      cases o with
      | none => exact ⟨by simp [nbI], by simp only [nbI]; omega⟩
      | some y =>
        by_cases c : y ∈ l
        · obtain ⟨q, hq, e, -⟩ := nbI_mem c
          rw [nbL_old c] at hl
          rw [e]; exact ⟨by omega, by rw [nbL_old c]; omega⟩
        · rw [nbL_new c] at hl
          rw [nbI_new c]; rw [List.length_append] at hl
          exact ⟨by omega, by rw [nbL_new c]; simp at hl; omega⟩
    · exact nbR_range (nbL l o) os t ht
theorem num_VA (H : NumOk nx first G B) (hN : bfE nx first N) : VA ((0, (bfS nx first N).map acc, bfR nx first N) : AutT) N := by
  have h0 : 0 < N := by
    have := bfS_first (nx := nx) (first := first) N
    have := (List.getElem?_eq_some_iff.1 this).1
    have := hN.1; omega
  have key : ∀ i, i ≤ N → ∀ r ∈ bfR nx first i, r.length = 9 ∧ ∀ t ∈ r, -1 ≤ t ∧ t < (N : Int) := by
    intro i
    induction i with
    | zero => intro _ r hr; cases hr
    | succ i ih =>
      intro hi r hr
      have hlt := hN.2 i (by omega)
      rw [bfR_succ hlt] at hr
      rcases List.mem_append.1 hr with hr | hr
      · exact ih (by omega) r hr
      · obtain rfl := List.mem_singleton.1 hr
        refine ⟨by rw [nbR_length, H.len _ (bfS_good H.g0 H.gn i _ (List.getElem_mem hlt))], fun t ht => ?_⟩
        have := nbR_range _ _ t ht
        rw [← bfS_succ hlt] at this
        have hl := (bfS_prefix (nx := nx) (first := first) hi).length_le
        have := hN.1
        omega
  exact ⟨by show ((bfS nx first N).map acc).length = N; rw [List.length_map]; exact hN.1.symm, ⟨Int.le_refl _, by show (0 : Int) < N; omega⟩, bfR_length hN.2, fun r hr => (key N (Nat.le_refl _) r hr).1, fun r hr => (key N (Nat.le_refl _) r hr).2⟩
end

/-! ### States, and none -/
section
variable {a b : AutT} {n m : Nat}
def mvn (a : AutT) (s : Int) (k : Nat) : Int := if s < 0 then -1 else mv a s k
def acn (a : AutT) (s : Int) : Bool := if s < 0 then false else nth a.2.1 s
theorem mvn_in (V : VA a n) {s : Int} {k : Nat} (h0 : -1 ≤ s) (h1 : s < n) (hk : k < 9) : -1 ≤ mvn a s k ∧ mvn a s k < n := by
  unfold mvn
  split
  · have := V.pos; omega
  · exact V.mv (by omega) h1 hk
theorem i_mvn (V : VA a n) {s : Int} {k : Nat} (h0 : -1 ≤ s) (h1 : s < n) (hk : k < 9) : m_i_Automaton_move a s (k : Int) = some (mvn a s k) := by
  unfold mvn
  split
  · exact i_move_neg ‹_›
  · exact i_move V (by omega) h1 hk
theorem s_mvn (V : VA a n) {s : Int} {k : Nat} (h0 : -1 ≤ s) (h1 : s < n) (hk : k < 9) : m_s_l12Next a s (k : Int) = some (mvn a s k) := by
  unfold mvn m_s_l12Next
  by_cases c : s < 0
  · rw [if_pos (by simpa using c), if_pos c]
  · rw [if_neg (by simpa using c), if_neg c, V.get (by omega) h1]; simp only [Option.bind_some]
    rw [V.get2 (by omega) h1 hk]; rfl
theorem i_acn (V : VA a n) {s : Int} (h0 : -1 ≤ s) (h1 : s < n) : m_i_Automaton_accepts a s = some (acn a s) := by
  unfold acn
  split
  · exact i_accepts_neg ‹_›
  · exact i_accepts V (by omega) h1
theorem s_acn (V : VA a n) {s : Int} (h0 : -1 ≤ s) (h1 : s < n) : m_s_l12Accept a s = some (acn a s) := by
  unfold acn m_s_l12Accept
  by_cases c : s < 0
  · rw [if_neg (by simp; omega), if_pos c]
  · rw [if_pos (by simp; omega), if_neg c, V.acc (by omega) h1]; rfl
/-- the pairs behind the letters -/
def nxP (a b : AutT) (x : Int × Int) : List (Option (Int × Int)) := (List.range 9).map fun k => some (mvn a x.1 k, mvn b x.2 k)
def inP (n m : Nat) (x : Int × Int) : Prop := (-1 ≤ x.1 ∧ x.1 < n) ∧ -1 ≤ x.2 ∧ x.2 < m
theorem nxP_at {x : Int × Int} {k : Nat} (hk : k < 9) : nth (nxP a b x) (k : Int) = some (mvn a x.1 k, mvn b x.2 k) := by
  have : k < (nxP a b x).length := by simp [nxP]; omega
  rw [nth_nat this]; simp [nxP]
theorem bound_pairs (n m : Nat) (l : List (Int × Int)) (hd : l.Nodup) (h : ∀ x ∈ l, inP n m x) : l.length ≤ (n + 1) * (m + 1) := by
  have := hd.length_le_of_subset (l₂ := (List.range (n + 1)).flatMap fun i : Nat => (List.range (m + 1)).map fun j : Nat => ((i : Int) - 1, (j : Int) - 1)) (fun x hx => by
    obtain ⟨⟨h0, h1⟩, h2, h3⟩ := h x hx
    refine List.mem_flatMap.2 ⟨(x.1 + 1).toNat, List.mem_range.2 (by omega), List.mem_map.2 ⟨(x.2 + 1).toNat, List.mem_range.2 (by omega), ?_⟩⟩
    exact Prod.ext (by show (((x.1 + 1).toNat : Nat) : Int) - 1 = x.1; omega) (by show (((x.2 + 1).toNat : Nat) : Int) - 1 = x.2; omega))
  have e : ((List.range (n + 1)).flatMap fun i : Nat => (List.range (m + 1)).map fun j : Nat => ((i : Int) - 1, (j : Int) - 1)).length = (n + 1) * (m + 1) := by
    rw [List.length_flatMap]
    simp only [List.length_map, List.length_range]
    rw [List.map_const', List.sum_replicate_nat, List.length_range]
  omega
theorem pairs_num (Va : VA a n) (Vb : VA b m) (hn : n ≤ 12) (hm : m ≤ 12) : NumOk (nxP a b) (a.1, b.1) (inP n m) 169 where
  g0 := ⟨⟨by have := Va.start.1; show -1 ≤ a.1; omega, Va.start.2⟩, by have := Vb.start.1; show -1 ≤ b.1; omega, Vb.start.2⟩
  gn x hx y hy := by
    obtain ⟨k, hk, e⟩ := List.mem_map.1 hy
    have hk : k < 9 := List.mem_range.1 hk
    obtain rfl := Option.some.inj e
    exact ⟨mvn_in Va hx.1.1 hx.1.2 hk, mvn_in Vb hx.2.1 hx.2.2 hk⟩
  len x _ := by simp [nxP]
  bound l hd h := by
    have h1 := bound_pairs n m l hd h
    have : (n + 1) * (m + 1) ≤ 13 * 13 := Nat.mul_le_mul (by omega) (by omega)
    omega
/-! ### The reference -/
def opB (op : Int) (x y : Bool) : Bool := if op == 1 then x && y else if op == 2 then x || y else x && !y
theorem s_op (op : Int) (x y : Bool) : m_s_l13Op op x y = some (opB op x y) := by
  unfold m_s_l13Op opB
  split
  · cases x <;> simp
  · split <;> cases x <;> simp
theorem s_pair_seek {xs ys rw_ : List Int} {q : Int} {l : List (Int × Int)} (hl : l.length ≤ 1000000) (hd : l.Nodup) (hx : xs = l.map (·.1)) (hy : ys = l.map (·.2)) (x y : Int) :
    loopM (m_s_l13Pairs_l2 (xs, ys, rw_, q) x y) FUEL (-1, 0) = some (.brk (if (x, y) ∈ l then nbI l (some (x, y)) else -1, (l.length : Int))) := by
  subst hx; subst hy
  have := loopM_at (f := m_s_l13Pairs_l2 (l.map (·.1), l.map (·.2), rw_, q) x y) (fun k => (if (x, y) ∈ l.take k then nbI l (some (x, y)) else -1, (k : Int))) l.length (fun k hk => by
    unfold m_s_l13Pairs_l2
    simp only
    rw [if_pos (by simp; omega), getI_nth (by omega) (by simp; omega), nth_map (by omega) (by omega)]; simp only [Option.bind_some]
    rw [getI_nth (by omega) (by simp; omega), nth_map (by omega) (by omega)]; simp only [Option.bind_some, wrap_succ (show k < 9223372036854775807 by omega)]
    rw [take_one hk]; simp only [List.mem_append, List.mem_singleton]
    by_cases h : nth l (k : Int) = (x, y)
    · have hm : (x, y) ∈ l := h ▸ nth_mem (by omega) (by omega)
      obtain ⟨q, hq, e1, e2⟩ := nbI_mem hm
      have : q = k := by
        have h1 : l[q]? = some (x, y) := by rw [List.getElem?_eq_getElem hq, e2]
        have h2 : l[k]? = some (x, y) := by rw [List.getElem?_eq_getElem hk, ← nth_nat hk, h]
        exact (List.getElem?_inj hq hd).1 (h1.trans h2.symm)
      subst this
      rw [h, if_pos (by simp), if_pos (by simp)]; simp only [Option.bind_some]
      rw [if_pos (.inr trivial), e1]
    · have hn : ¬ (x, y) = nth l (k : Int) := fun e => h e.symm
      by_cases h1 : (nth l (k : Int)).1 = x
      · by_cases h2 : (nth l (k : Int)).2 = y
        · exact absurd (Prod.ext h1 h2) h
        · rw [if_pos (by simpa using h1), if_neg (by simpa using h2)]; simp [hn]
      · rw [if_neg (by simpa using h1)]; simp [hn]) (by unfold m_s_l13Pairs_l2; simp) (up63 (by omega))
  rw [List.take_of_length_le (Nat.le_refl _)] at this
  exact this
theorem s_pairs_in (Va : VA a n) (Vb : VA b m) (hn : n ≤ 12) (hm : m ≤ 12) {l : List (Int × Int)} (hd : l.Nodup) (hG : ∀ x ∈ l, inP n m x) {acs : List Bool} {rws : List (List Int)} {i : Nat} (hi : i < l.length) :
    loopM (m_s_l13Pairs_l1 a b (l.map (·.1), l.map (·.2), (i : Int), acs, rws)) FUEL (l.map (·.1), l.map (·.2), [], 0) = some (.brk ((nbS l (nxP a b (nth l (i : Int)))).map (·.1), (nbS l (nxP a b (nth l (i : Int)))).map (·.2), nbR l (nxP a b (nth l (i : Int))), 9)) := by
  have hx := hG _ (nth_mem (i := (i : Int)) (by omega) (by omega))
  have hos : (nxP a b (nth l (i : Int))).length = 9 := by simp [nxP]
  have H := pairs_num Va Vb hn hm
  have hB : ∀ k, (nbS l ((nxP a b (nth l (i : Int))).take k)).length ≤ 169 := fun k => H.bound _ (nbS_nodup hd) fun x hx' => by
    rcases mem_nbS.1 hx' with h | h
    · exact hG x h
    · exact H.gn _ hx x (List.mem_of_mem_take h)
  have := loopM_at (f := m_s_l13Pairs_l1 a b (l.map (·.1), l.map (·.2), (i : Int), acs, rws)) (fun k => ((nbS l ((nxP a b (nth l (i : Int))).take k)).map (·.1), (nbS l ((nxP a b (nth l (i : Int))).take k)).map (·.2), nbR l ((nxP a b (nth l (i : Int))).take k), (k : Int))) 9 (fun k hk => by
    have hpre := nbS_prefix l ((nxP a b (nth l (i : Int))).take k)
    have hlen := hpre.length_le
    have hBk := hB k
    have hrl : (nbR l ((nxP a b (nth l (i : Int))).take k)).length ≤ 9 := by rw [nbR_length, List.length_take]; omega
    unfold m_s_l13Pairs_l1
    simp only [peta]
    rw [if_pos (by simp; omega), getI_nth (by omega) (by simp; omega), nth_map (by omega) (by omega), prefix_nth hpre (by omega) (by omega)]; simp only [Option.bind_some]
    rw [s_mvn Va hx.1.1 hx.1.2 hk]; simp only [Option.bind_some]
    rw [getI_nth (by omega) (by simp; omega), nth_map (by omega) (by omega), prefix_nth hpre (by omega) (by omega)]; simp only [Option.bind_some]
    rw [s_mvn Vb hx.2.1 hx.2.2 hk]; simp only [Option.bind_some]
    rw [bindL_brk (s_pair_seek (l := nbS l ((nxP a b (nth l (i : Int))).take k)) (by omega) (nbS_nodup hd) rfl rfl _ _)]
    simp only [wrap_succ (show k < 9223372036854775807 by omega)]
    rw [take_one (by omega), nbS_snoc, nbR_snoc, nxP_at hk]
    by_cases c : (mvn a (nth l (i : Int)).1 k, mvn b (nth l (i : Int)).2 k) ∈ nbS l ((nxP a b (nth l (i : Int))).take k)
    · obtain ⟨q, hq, e1, e2⟩ := nbI_mem c
      rw [if_pos c, nbL_old c, e1, if_neg (by simp)]; simp only [Option.bind_some]
      rw [appI_ok (by simp; omega)]; rfl
    · rw [if_neg c, nbL_new c, nbI_new c, if_pos (show decide ((-1 : Int) < 0) = true from rfl)]
      rw [appI_ok (by simp; omega)]; simp only [Option.bind_some]
      rw [appI_ok (by simp; omega)]; simp only [Option.bind_some]
      rw [appI_ok (by simp; omega)]; simp) (by
    unfold m_s_l13Pairs_l1
    simp) (by unfold FUEL; omega)
  rw [show (nxP a b (nth l (i : Int))).take 9 = nxP a b (nth l (i : Int)) from List.take_of_length_le (by omega)] at this
  exact this
def accP (a b : AutT) (op : Int) (x : Int × Int) : Bool := opB op (acn a x.1) (acn b x.2)
theorem s_pairs (Va : VA a n) (Vb : VA b m) (hn : n ≤ 12) (hm : m ≤ 12) (op : Int) : ∃ N, bfE (nxP a b) (a.1, b.1) N ∧ m_s_l13Pairs a b op = some (0, (bfS (nxP a b) (a.1, b.1) N).map (accP a b op), bfR (nxP a b) (a.1, b.1) N) := by
  have H := pairs_num Va Vb hn hm
  obtain ⟨N, hNB, hN⟩ := bfE_ex (nx := nxP a b) (first := (a.1, b.1)) (H.le)
  refine ⟨N, hN, ?_⟩
  unfold m_s_l13Pairs
  have := loopM_at (f := m_s_l13Pairs_l0 a b op) (fun i => ((bfS (nxP a b) (a.1, b.1) i).map (·.1), (bfS (nxP a b) (a.1, b.1) i).map (·.2), (i : Int), ((bfS (nxP a b) (a.1, b.1) i).take i).map (accP a b op), bfR (nxP a b) (a.1, b.1) i)) N (fun i hi => by
    have hlt := hN.2 i hi
    have hG := H.at hlt
    have hle := H.le i
    have hle' := H.le (i + 1)
    have hr : (bfR (nxP a b) (a.1, b.1) i).length = i := bfR_length fun j hj => hN.2 j (by omega)
    have hl2 := (bfS_step_prefix (nx := nxP a b) (first := (a.1, b.1)) i).length_le
    unfold m_s_l13Pairs_l0
    simp only [peta]
    rw [if_pos (by simp; omega), bindL_brk (s_pairs_in Va Vb hn hm (bfS_nodup i) (bfS_good H.g0 H.gn i) hlt), ← bfS_succ' hlt]
    simp only
    rw [getI_nth (by omega) (by simp; omega), nth_map (by omega) (by omega), prefix_nth (bfS_step_prefix i) (by omega) (by omega)]; simp only [Option.bind_some]
    rw [s_acn Va hG.1.1 hG.1.2]; simp only [Option.bind_some]
    rw [getI_nth (by omega) (by simp; omega), nth_map (by omega) (by omega), prefix_nth (bfS_step_prefix i) (by omega) (by omega)]; simp only [Option.bind_some]
    rw [s_acn Vb hG.2.1 hG.2.2]; simp only [Option.bind_some]
    rw [s_op]; simp only [Option.bind_some]
    rw [appI_ok (by simp; omega)]; simp only [Option.bind_some]
    rw [appI_ok (by simp; omega)]; simp only [Option.bind_some, wrap_succ (show i < 9223372036854775807 by omega)]
    rw [acc_succ hlt, bfR_succ' hlt]; rfl) (by
    unfold m_s_l13Pairs_l0
    simp only
    rw [if_neg (by have := hN.1; simp; omega)]) (up63 (by omega))
  have e := bindL_brk (kr := fun _ => none) (k := fun s60 : List Int × List Int × Int × List Bool × List (List Int) => (some (0, s60.2.2.2.1, s60.2.2.2.2) : Option AutT)) this
  refine e.trans ?_
  rw [List.take_of_length_le (by have := hN.1; omega)]
end
end Go.Proofs.Ytcihbmdppgpmjaa.D
