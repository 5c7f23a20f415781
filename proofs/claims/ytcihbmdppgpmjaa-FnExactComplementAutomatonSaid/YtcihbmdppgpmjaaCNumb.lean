/- Automata numbered from their first state on: by the program over a map, by the reference over representatives. -/
import Derived.Test.YtcihbmdppgpmjaaCLive
set_option linter.unusedVariables false
set_option linter.unusedSimpArgs false
set_option linter.unnecessarySimpa false
set_option linter.unusedSectionVars false
namespace Go.Proofs.Ytcihbmdppgpmjaa.D
open Go.RowKit

def nothing : AutT := (0, [false], [[-1, -1, -1, -1, -1, -1, -1, -1, -1]])
theorem s_nothing : m_s_l11Nothing = some nothing := by kernel_rfl
theorem i_nothing : m_i_nothing = some nothing := by kernel_rfl
theorem iOk_nat {n : Nat} (h : n ≤ 1000000) : iOk (n : Int) = true := by
  have h1 : IntKind.i64.min = -9223372036854775808 := by decide
  have h2 : IntKind.i64.max = 9223372036854775807 := by decide
  simp only [iOk, Lit.wf, h1, h2, Bool.and_eq_true, decide_eq_true_eq]
  omega
theorem take_one {α : Type} [Inhabited α] {xs : List α} {k : Nat} (h : k < xs.length) : xs.take (k + 1) = xs.take k ++ [nth xs (k : Int)] := by
  rw [List.take_succ_eq_append_getElem h, nth_nat h]
theorem prefix_nth {α : Type} [Inhabited α] {xs ys : List α} (h : xs <+: ys) {i : Int} (h0 : 0 ≤ i) (h1 : i < xs.length) : nth ys i = nth xs i := by
  obtain ⟨t, rfl⟩ := h
  exact nth_append_left h0 h1
/-- keys to be numbered: at most B of them -/
structure NumOk {κ : Type} [DecidableEq κ] (nx : κ → List (Option κ)) (first : κ) (G : κ → Prop) (B : Nat) : Prop where
  g0 : G first
  gn : ∀ x, G x → ∀ y, some y ∈ nx x → G y
  len : ∀ x, G x → (nx x).length = 9
  bound : ∀ l : List κ, l.Nodup → (∀ x ∈ l, G x) → l.length ≤ B
section
variable {κ : Type} [DecidableEq κ] [Inhabited κ] {nx : κ → List (Option κ)} {first : κ} {G : κ → Prop} {B : Nat}
theorem NumOk.le (H : NumOk nx first G B) (i : Nat) : (bfS nx first i).length ≤ B := H.bound _ (bfS_nodup i) (bfS_good H.g0 H.gn i)
theorem NumOk.at (H : NumOk nx first G B) {i : Nat} (h : i < (bfS nx first i).length) : G (nth (bfS nx first i) (i : Int)) := bfS_good H.g0 H.gn i _ (nth_mem (by omega) (by omega))
theorem bfS_succ' {i : Nat} (h : i < (bfS nx first i).length) : bfS nx first (i + 1) = nbS (bfS nx first i) (nx (nth (bfS nx first i) (i : Int))) := by rw [bfS_succ h, nth_nat h]
theorem bfR_succ' {i : Nat} (h : i < (bfS nx first i).length) : bfR nx first (i + 1) = bfR nx first i ++ [nbR (bfS nx first i) (nx (nth (bfS nx first i) (i : Int)))] := by rw [bfR_succ h, nth_nat h]
theorem acc_succ {β : Type} {acc : κ → β} {i : Nat} (h : i < (bfS nx first i).length) : ((bfS nx first (i + 1)).take (i + 1)).map acc = ((bfS nx first i).take i).map acc ++ [acc (nth (bfS nx first i) (i : Int))] := by
  have hp := bfS_step_prefix (nx := nx) (first := first) i
  have hl := hp.length_le
  have e : (bfS nx first (i + 1)).take i = (bfS nx first i).take i := by
    obtain ⟨t, ht⟩ := hp
    rw [← ht, List.take_append_of_le_length (by omega)]
  rw [take_one (by omega), List.map_append, e, prefix_nth hp (by omega) (by omega)]; rfl
/-- what the map of the numbers says -/
def MapOf (M : List (κ × Int)) (l : List κ) : Prop := M.length = l.length ∧ ∀ x, M.lookup x = if x ∈ l then some (l.idxOf x : Int) else none
theorem MapOf.one (x : κ) : MapOf [(x, 0)] [x] := by
  refine ⟨rfl, fun y => ?_⟩
  rw [List.lookup_cons]
  by_cases e : y = x
  · subst e; simp
  · simp only [show (y == x) = false from by simp [e]]; simp [e]
theorem MapOf.put {M : List (κ × Int)} {l : List κ} (h : MapOf M l) {x : κ} (hx : x ∉ l) : MapOf ((x, (l.length : Int)) :: M) (l ++ [x]) := by
  refine ⟨by simp [h.1], fun y => ?_⟩
  rw [List.lookup_cons]
  by_cases e : y = x
  · subst e
    simp [List.idxOf_append, hx]
  · simp only [show (y == x) = false from by simp [e], h.2 y, List.mem_append, List.mem_singleton, e, or_false]
    by_cases k : y ∈ l
    · simp [k, List.idxOf_append]
    · simp [k]
end

/-! ### The program: keys that are ints -/
section
variable {nx : Int → List (Option Int)} {first : Int} {G : Int → Prop} {B : Nat}
theorem i_numb_in {p3 : Int → Int → Option (Int × Bool)} {l : List Int} {M : List (Int × Int)} {os : List (Option Int)} {acs : List Bool} {rws : List (List Int)} {i : Nat}
    (hi : i < l.length) (hos : os.length = 9) (hM : MapOf M l) (hok : ∀ y, some y ∈ os → iOk y = true) (hB : ∀ k, (nbS l (os.take k)).length ≤ 1000000)
    (hp : ∀ (k : Nat) (hk : k < 9), ∃ j, p3 (nth l (i : Int)) (k : Int) = some (match nth os (k : Int) with | some y => (y, true) | none => (j, false))) :
    ∃ M', loopM (m_i_numbered_int_l1 p3 (l, M, (i : Int), acs, rws)) FUEL (l, M, [], 0) = some (.brk (nbS l os, M', nbR l os, 9)) ∧ MapOf M' (nbS l os) := by
  obtain ⟨s', e, M', rfl, hM'⟩ := loopM_for (f := m_i_numbered_int_l1 p3 (l, M, (i : Int), acs, rws)) (fun k s => ∃ M', s = (nbS l (os.take k), M', nbR l (os.take k), (k : Int)) ∧ MapOf M' (nbS l (os.take k))) 9 (by
    rintro k s hk ⟨M1, rfl, hM1⟩
    have hpre := nbS_prefix l (os.take k)
    have hlen := hpre.length_le
    have hBk := hB k
    obtain ⟨j, hj⟩ := hp k hk
    have hrl : (nbR l (os.take k)).length ≤ 9 := by rw [nbR_length, List.length_take]; omega
    unfold m_i_numbered_int_l1
    simp only
    rw [if_pos (by simp; omega), getI_nth (by omega) (by omega)]; simp only [Option.bind_some]
    rw [prefix_nth hpre (by omega) (by omega), hj, take_one (by omega), nbS_snoc, nbR_snoc]
    simp only [Option.bind_some, wrap_succ (show k < 9223372036854775807 by omega)]
    cases ho : nth os (k : Int) with
    | none =>
      simp only [Bool.false_eq_true, if_false]
      rw [appI_ok (by simp; omega)]
      exact ⟨_, rfl, M1, rfl, hM1⟩
    | some y =>
      have hy : iOk y = true := hok y (ho ▸ nth_mem (by omega) (by omega))
      simp only [if_true]
      rw [show chk (iOk y = true) = some () from by unfold chk; rw [if_pos hy]]; simp only [Option.bind_some]
      rw [show lkM M1 y = _ from hM1.2 y]
      by_cases c : y ∈ nbS l (os.take k)
      · simp only [c, if_true, Option.isSome_some, Option.getD_some, Option.bind_some]
        rw [appI_ok (by simp; omega)]
        exact ⟨_, rfl, M1, by rw [nbL_old c]; rfl, by rw [nbL_old c]; exact hM1⟩
      · have hput : putM M1 iOk iOk y ((nbS l (os.take k)).length : Int) = some ((y, ((nbS l (os.take k)).length : Int)) :: M1) := by
          unfold putM
          rw [if_pos ⟨by have := hM1.1; omega, hy, iOk_nat hBk⟩]
        simp only [c, if_false, Option.isSome_none, Bool.false_eq_true, hput, Option.bind_some]
        rw [appI_ok (by simp; omega)]; simp only [Option.bind_some]
        rw [appI_ok (by simp; omega)]
        refine ⟨_, rfl, (y, ((nbS l (os.take k)).length : Int)) :: M1, ?_, ?_⟩
        · rw [nbL_new c]; simp only [nbI, idxOf_nbL c]
        · rw [nbL_new c]; exact hM1.put c) (by
    rintro s ⟨M1, rfl, hM1⟩
    unfold m_i_numbered_int_l1
    simp) (s := (l, M, [], 0)) ⟨M, rfl, hM⟩ (by unfold FUEL; omega)
  rw [List.take_of_length_le (by omega)] at e hM'
  exact ⟨M', e, hM'⟩
theorem i_numb {most : Int} {p2 : Int → Option Bool} {p3 : Int → Int → Option (Int × Bool)} {acc : Int → Bool} (H : NumOk nx first G B) (hB : B ≤ 1000000) (hmost : (B : Int) ≤ most) (hok : ∀ x, G x → iOk x = true)
    (h2 : ∀ x, G x → p2 x = some (acc x)) (h3 : ∀ x (k : Nat), G x → k < 9 → ∃ j, p3 x (k : Int) = some (match nth (nx x) (k : Int) with | some y => (y, true) | none => (j, false))) :
    ∃ N, bfE nx first N ∧ m_i_numbered_int first most p2 p3 = some ((0, (bfS nx first N).map acc, bfR nx first N), true) := by
  obtain ⟨N, hNB, hN⟩ := bfE_ex (nx := nx) (first := first) (H.le)
  refine ⟨N, hN, ?_⟩
  unfold m_i_numbered_int
  rw [show putM ([] : List (Int × Int)) iOk iOk first 0 = some [(first, 0)] from by unfold putM; rw [if_pos ⟨by simp, hok _ H.g0, by decide⟩]]; simp only [Option.bind_some]
  obtain ⟨s', e, M', rfl, hM'⟩ := loopM_for (f := m_i_numbered_int_l0 most p2 p3) (fun i s => ∃ M, s = (bfS nx first i, M, (i : Int), ((bfS nx first i).take i).map acc, bfR nx first i) ∧ MapOf M (bfS nx first i)) N (by
    rintro i s hi ⟨M, rfl, hM⟩
    have hlt := hN.2 i hi
    have hG := H.at hlt
    have hle := H.le i
    have hle' := H.le (i + 1)
    obtain ⟨M', e, hM'⟩ := i_numb_in (p3 := p3) (l := bfS nx first i) (M := M) (os := nx (nth (bfS nx first i) (i : Int))) (acs := ((bfS nx first i).take i).map acc) (rws := bfR nx first i) hlt (H.len _ hG) hM (fun y hy => hok y (H.gn _ hG y hy))
      (fun k => by
        have : (nbS (bfS nx first i) ((nx (nth (bfS nx first i) (i : Int))).take k)).length ≤ B := H.bound _ (nbS_nodup (bfS_nodup i)) fun x hx => by
          rcases mem_nbS.1 hx with hx | hx
          · exact bfS_good H.g0 H.gn i x hx
          · exact H.gn _ hG x (List.mem_of_mem_take hx)
        omega) (fun k hk => h3 _ k hG hk)
    unfold m_i_numbered_int_l0
    simp only
    rw [if_pos (by simp; omega), bindL_brk e, ← bfS_succ' hlt]
    rw [← bfS_succ' hlt] at hM'
    have hl2 := (bfS_step_prefix (nx := nx) (first := first) i).length_le
    simp only
    rw [if_neg (by simp; omega), getI_nth (by omega) (by omega)]; simp only [Option.bind_some]
    rw [prefix_nth (bfS_step_prefix i) (by omega) (by omega), h2 _ hG]; simp only [Option.bind_some]
    have hr : (bfR nx first i).length = i := bfR_length fun j hj => hN.2 j (by omega)
    rw [appI_ok (by simp; omega)]; simp only [Option.bind_some]
    rw [appI_ok (by simp; omega)]; simp only [Option.bind_some, wrap_succ (show i < 9223372036854775807 by omega)]
    exact ⟨_, rfl, M', by rw [acc_succ hlt, bfR_succ' hlt], hM'⟩) (by
    rintro s ⟨M, rfl, hM⟩
    unfold m_i_numbered_int_l0
    simp only
    rw [if_neg (by have := hN.1; simp; omega)]) (s := ([first], [(first, 0)], 0, [], [])) ⟨_, rfl, MapOf.one first⟩ (up63 (by omega))
  rw [bindL_brk e]
  simp only
  rw [List.take_of_length_le (by have := hN.1; omega)]
end

/-! ### The reference: classes and their representatives -/
theorem s_find {l : List Int} {x : Int} (h : l.length ≤ 9223372036854775807) : m_s_l11Find l x = some (if x ∈ l then (l.idxOf x : Int) else -1) := by
  unfold m_s_l11Find
  obtain ⟨o, e, hq⟩ := loopM_go (f := m_s_l11Find_l0 l x) (fun i s => s = (i : Int) ∧ x ∉ l.take i) (fun o => (x ∈ l ∧ o = .ret (l.idxOf x : Int)) ∨ (x ∉ l ∧ ∃ s, o = .brk s)) l.length (s := 0) (by
    rintro i s hi ⟨rfl, hx⟩
    unfold m_s_l11Find_l0
    by_cases hl : i < l.length
    · rw [if_pos (by simp; omega), getI_nth (by omega) (by omega)]; simp only [Option.bind_some]
      by_cases c : nth l (i : Int) = x
      · refine .inr ⟨_, by rw [if_pos (by simpa using c)], (fun s' e => by cases e), .inl ?_⟩
        have e : l = l.take i ++ (x :: l.drop (i + 1)) := by
          rw [← c, nth_nat hl, ← List.drop_eq_getElem_cons hl, List.take_append_drop]
        refine ⟨by rw [e]; simp, ?_⟩
        congr 1
        conv => rhs; rw [e, List.idxOf_append, if_neg hx, List.idxOf_cons_self]
        simp [List.length_take]; first | done | omega
      · refine .inl ⟨hl, _, by rw [if_neg (by simpa using c)], by rw [wrap_succ (by omega)], ?_⟩
        rw [take_one hl, List.mem_append, List.mem_singleton]
        rintro (h | h)
        · exact hx h
        · exact c h.symm
    · refine .inr ⟨_, by rw [if_neg (by simp; omega)], (fun s' e => by cases e), .inr ⟨?_, _, rfl⟩⟩
      rwa [List.take_of_length_le (by omega)] at hx) ⟨rfl, by simp⟩ (up63 h)
  rcases hq with ⟨hx, rfl⟩ | ⟨hx, s, rfl⟩
  · rw [bindL_ret e, if_pos hx]
  · rw [bindL_brk e, if_neg hx]
section
variable {a : AutT} {n : Nat} {c : List Int} {lv : List Bool} {nx : Int → List (Option Int)} {G : Int → Prop} {B : Nat} {acc : Int → Bool}
def good (n : Nat) (lv : List Bool) (r : Int) : Prop := 0 ≤ r ∧ r < n ∧ nth lv r = true
/-- the classes behind the letters of a state -/
def succs (a : AutT) (c : List Int) (lv : List Bool) (r : Int) : List (Option Int) := (List.range 9).map fun k => if mv a r k ≥ 0 ∧ nth lv (mv a r k) = true then some (nth c (mv a r k)) else none
theorem succs_at {r : Int} {k : Nat} (hk : k < 9) : nth (succs a c lv r) (k : Int) = if mv a r k ≥ 0 ∧ nth lv (mv a r k) = true then some (nth c (mv a r k)) else none := by
  have : k < (succs a c lv r).length := by simp [succs]; omega
  rw [nth_nat this]; simp [succs]
/-- states that stand for the classes l -/
def RepsOf (n : Nat) (lv : List Bool) (c : List Int) (rs l : List Int) : Prop := rs.length = l.length ∧ ∀ j : Nat, j < l.length → good n lv (nth rs j) ∧ nth c (nth rs j) = nth l (j : Int)
theorem RepsOf.snoc {rs l : List Int} (h : RepsOf n lv c rs l) {t : Int} (ht : good n lv t) : RepsOf n lv c (rs ++ [t]) (l ++ [nth c t]) := by
  refine ⟨by simp [h.1], fun j hj => ?_⟩
  by_cases e : j < l.length
  · rw [nth_append_left (by omega) (by have := h.1; omega), nth_append_left (by omega) (by omega)]; exact h.2 j e
  · have e : j = l.length := by simp at hj; omega
    subst e
    have h1 : nth (rs ++ [t]) (l.length : Int) = t := by rw [nth_nat (by simp [h.1])]; simp [← h.1]
    have h2 : nth (l ++ [nth c t]) (l.length : Int) = nth c t := by rw [nth_nat (by simp)]; simp
    rw [h1, h2]; exact ⟨ht, rfl⟩
theorem s_numb_in (V : VA a n) (hn : n ≤ 1000000) (hc : c.length = n) (hlv : lv.length = n) {l rs : List Int} {acs : List Bool} {rws : List (List Int)} {i : Nat} (hi : i < l.length) (hR : RepsOf n lv c rs l) {os : List (Option Int)} (hos : os.length = 9)
    (ho : ∀ r, good n lv r → nth c r = nth l (i : Int) → succs a c lv r = os) (hB : ∀ k, (nbS l (os.take k)).length ≤ 1000000) :
    ∃ rs', loopM (m_s_l11Number_l1 a c lv (l, rs, (i : Int), acs, rws)) FUEL (l, rs, [], 0) = some (.brk (nbS l os, rs', nbR l os, 9)) ∧ RepsOf n lv c rs' (nbS l os) := by
  obtain ⟨s', e, rs', rfl, hR'⟩ := loopM_for (f := m_s_l11Number_l1 a c lv (l, rs, (i : Int), acs, rws)) (fun k s => ∃ rs', s = (nbS l (os.take k), rs', nbR l (os.take k), (k : Int)) ∧ RepsOf n lv c rs' (nbS l (os.take k))) 9 (by
    rintro k s hk ⟨r1, rfl, hR1⟩
    have hpre := nbS_prefix l (os.take k)
    have hlen := hpre.length_le
    have hBk := hB k
    have hrl : (nbR l (os.take k)).length ≤ 9 := by rw [nbR_length, List.length_take]; omega
    have hr1 := hR1.1
    obtain ⟨⟨g0, g1, g2⟩, gc⟩ := hR1.2 i (by omega)
    rw [prefix_nth hpre (by omega) (by omega)] at gc
    have hsu := ho _ ⟨g0, g1, g2⟩ gc
    have hok : nth os (k : Int) = if mv a (nth r1 (i : Int)) k ≥ 0 ∧ nth lv (mv a (nth r1 (i : Int)) k) = true then some (nth c (mv a (nth r1 (i : Int)) k)) else none := by
      rw [← hsu]; exact succs_at hk
    have hmv := V.mv (s := nth r1 (i : Int)) (k := k) g0 g1 hk
    unfold m_s_l11Number_l1
    simp only
    rw [if_pos (by simp; omega), getI_nth (xs := r1) (by omega) (by omega)]; simp only [Option.bind_some]
    rw [V.get g0 g1]; simp only [Option.bind_some]
    rw [V.get2 g0 g1 hk, take_one (by omega), nbS_snoc, nbR_snoc]
    simp only [Option.bind_some, wrap_succ (show k < 9223372036854775807 by omega)]
    by_cases c1 : mv a (nth r1 (i : Int)) k ≥ 0
    · rw [if_pos (by simpa using c1), getI_nth (xs := lv) c1 (by omega)]; simp only [Option.bind_some]
      by_cases c2 : nth lv (mv a (nth r1 (i : Int)) k) = true
      · rw [if_pos ⟨c1, c2⟩] at hok
        rw [if_pos c2, getI_nth (xs := c) c1 (by omega), hok]; simp only [Option.bind_some]
        rw [s_find (by omega)]; simp only [Option.bind_some]
        by_cases c3 : nth c (mv a (nth r1 (i : Int)) k) ∈ nbS l (os.take k)
        · rw [if_pos c3, if_neg (by simp)]; simp only [Option.bind_some]
          rw [appI_ok (by simp; omega)]
          exact ⟨_, rfl, r1, by rw [nbL_old c3]; rfl, by rw [nbL_old c3]; exact hR1⟩
        · rw [if_neg c3, if_pos (by decide)]
          rw [appI_ok (by simp; omega)]; simp only [Option.bind_some]
          rw [appI_ok (by simp; omega)]; simp only [Option.bind_some]
          rw [appI_ok (by simp; omega)]; simp only [Option.bind_some]
          refine ⟨_, rfl, r1 ++ [mv a (nth r1 (i : Int)) k], ?_, ?_⟩
          · rw [nbL_new c3]; simp only [nbI, idxOf_nbL c3]
          · rw [nbL_new c3]; exact hR1.snoc ⟨c1, hmv.2, c2⟩
      · rw [if_neg (fun h => c2 h.2)] at hok
        rw [if_neg c2, hok]; simp only [Option.bind_some]
        rw [appI_ok (by simp; omega)]
        exact ⟨_, rfl, r1, rfl, hR1⟩
    · rw [if_neg (fun h => c1 h.1)] at hok
      rw [if_neg (by simpa using c1), hok]; simp only [Option.bind_some]
      rw [appI_ok (by simp; omega)]
      exact ⟨_, rfl, r1, rfl, hR1⟩) (by
    rintro s ⟨r1, rfl, hR1⟩
    unfold m_s_l11Number_l1
    simp) (s := (l, rs, [], 0)) ⟨rs, rfl, hR⟩ (by unfold FUEL; omega)
  rw [List.take_of_length_le (by omega)] at e hR'
  exact ⟨rs', e, hR'⟩
theorem s_numb (V : VA a n) (hn : n ≤ 1000000) (hc : c.length = n) (hlv : lv.length = n) (hs : nth lv a.1 = true) (H : NumOk nx (nth c a.1) G B) (hB : B ≤ 1000000)
    (hnx : ∀ r, good n lv r → nx (nth c r) = succs a c lv r) (hacc : ∀ r, good n lv r → acc (nth c r) = nth a.2.1 r) :
    ∃ N, bfE nx (nth c a.1) N ∧ m_s_l11Number a c lv = some (0, (bfS nx (nth c a.1) N).map acc, bfR nx (nth c a.1) N) := by
  obtain ⟨N, hNB, hN⟩ := bfE_ex (nx := nx) (first := nth c a.1) (H.le)
  refine ⟨N, hN, ?_⟩
  have hst := V.start
  have hlen := V.len
  unfold m_s_l11Number
  rw [getI_nth hst.1 (by omega)]; simp only [Option.bind_some]
  rw [if_pos hs, getI_nth hst.1 (by omega)]; simp only [Option.bind_some]
  obtain ⟨s', e, rs, rfl, hR⟩ := loopM_for (f := m_s_l11Number_l0 a c lv) (fun i s => ∃ rs, s = (bfS nx (nth c a.1) i, rs, (i : Int), ((bfS nx (nth c a.1) i).take i).map acc, bfR nx (nth c a.1) i) ∧ RepsOf n lv c rs (bfS nx (nth c a.1) i)) N (by
    rintro i s hi ⟨rs, rfl, hR⟩
    have hlt := hN.2 i hi
    have hG := H.at hlt
    have hle := H.le i
    have hle' := H.le (i + 1)
    obtain ⟨rs', e, hR'⟩ := s_numb_in (acs := ((bfS nx (nth c a.1) i).take i).map acc) (rws := bfR nx (nth c a.1) i) V hn hc hlv hlt hR (os := nx (nth (bfS nx (nth c a.1) i) (i : Int))) (H.len _ hG) (fun r hr e => by rw [← hnx r hr, e]) (fun k => by
        have : (nbS (bfS nx (nth c a.1) i) ((nx (nth (bfS nx (nth c a.1) i) (i : Int))).take k)).length ≤ B := H.bound _ (nbS_nodup (bfS_nodup i)) fun x hx => by
          rcases mem_nbS.1 hx with hx | hx
          · exact bfS_good H.g0 H.gn i x hx
          · exact H.gn _ hG x (List.mem_of_mem_take hx)
        omega)
    unfold m_s_l11Number_l0
    simp only
    rw [if_pos (by simp; omega), bindL_brk e]
    rw [← bfS_succ' hlt] at hR'
    have hl2 := (bfS_step_prefix (nx := nx) (first := nth c a.1) i).length_le
    have hr1 := hR'.1
    obtain ⟨⟨g0, g1, g2⟩, gc⟩ := hR'.2 i (by omega)
    rw [prefix_nth (bfS_step_prefix i) (by omega) (by omega)] at gc
    rw [getI_nth (xs := rs') (by omega) (by omega)]; simp only [Option.bind_some]
    rw [V.acc g0 g1, ← hacc _ ⟨g0, g1, g2⟩, gc]; simp only [Option.bind_some]
    have hr : (bfR nx (nth c a.1) i).length = i := bfR_length fun j hj => hN.2 j (by omega)
    rw [appI_ok (by simp; omega)]; simp only [Option.bind_some]
    rw [appI_ok (by simp; omega)]; simp only [Option.bind_some, wrap_succ (show i < 9223372036854775807 by omega)]
    exact ⟨_, rfl, rs', by rw [← bfS_succ' hlt, acc_succ hlt, bfR_succ' hlt], hR'⟩) (by
    rintro s ⟨rs, rfl, hR⟩
    unfold m_s_l11Number_l0
    simp only
    rw [if_neg (by have := hN.1; simp; omega)]) (s := ([nth c a.1], [a.1], 0, [], [])) ⟨[a.1], rfl, rfl, fun j hj => by
      obtain rfl : j = 0 := by simpa [bfS] using hj
      exact ⟨⟨hst.1, hst.2, hs⟩, rfl⟩⟩ (up63 (by omega))
  rw [bindL_brk e]
  simp only
  rw [List.take_of_length_le (by have := hN.1; omega)]
theorem s_numb_dead (V : VA a n) (hlv : lv.length = n) (hs : nth lv a.1 = false) : m_s_l11Number a c lv = some nothing := by
  have hst := V.start
  unfold m_s_l11Number
  rw [getI_nth hst.1 (by omega)]; simp only [Option.bind_some]
  rw [hs, s_nothing]; rfl
end
end Go.Proofs.Ytcihbmdppgpmjaa.D
