/- Loops of models: what rows are looked through, copied, counted, compared. No program text is named here. -/
import Derived.Test.YtfkocnnphjkmfaaRead
import Derived.Test.YtfkocnnphjkmfaaMore
set_option linter.unusedVariables false
set_option linter.unusedSimpArgs false
set_option linter.unnecessarySimpa false
namespace Go.Proofs.Ytfkocnnphjkmfaa.D
open Go.RowKit

theorem wrapI {n : Int} (h1 : -9223372036854775808 ≤ n) (h2 : n ≤ 9223372036854775807) : IntKind.i64.wrap n = n := by
  simp only [IntKind.wrap, IntKind.bits, IntKind.signed, Bool.true_and]
  split <;> rename_i h <;> simp at h <;> omega
theorem wrap_succ {i : Nat} (h : i < 9223372036854775807) : IntKind.i64.wrap ((i : Int) + 1) = ((i + 1 : Nat) : Int) := by
  rw [wrapI (by omega) (by omega)]; rfl
theorem getI_nat {α : Type} {xs : List α} {i : Nat} (h : i < xs.length) : getI xs (i : Int) = some (xs[i]) := by
  unfold getI
  rw [if_pos (Int.natCast_nonneg _)]
  simp [h]
theorem lt_nat {i n : Nat} (h : i < n) : decide ((i : Int) < (n : Int)) = true := by simp [h]
theorem lt_self {n : Nat} : decide ((n : Int) < (n : Int)) = false := by simp
theorem fuelUp (k : Nat) (h : k ≤ 9223372036854775807) : k < FUEL := by unfold FUEL; omega
theorem mkI_ok {α : Type} {b n : Nat} {z : α} (h : n * b ≤ 140737488355328) : mkI b (n : Int) z = some (List.replicate n z) := by
  unfold mkI
  rw [if_pos ⟨Int.natCast_nonneg _, by simpa using h⟩]; simp
theorem loopM_nxt {R S : Type} {f : S → Option (Out R S)} (inv : Nat → S) (N : Nat) (h : ∀ i, i < N → f (inv i) = some (.nxt (inv (i + 1)))) : ∀ (m i k : Nat), i + m = N → loopM f (k + m) (inv i) = loopM f k (inv N)
  | 0, i, k, e => by rw [show i = N by omega]; rfl
  | m + 1, i, k, e => by
    rw [← Nat.add_assoc, loopM, h i (by omega)]
    exact loopM_nxt inv N h m (i + 1) k (by omega)
theorem loopM_all {R S : Type} {f : S → Option (Out R S)} (inv : Nat → S) (N : Nat) {s : S} (h : ∀ i, i < N → f (inv i) = some (.nxt (inv (i + 1)))) (he : f (inv N) = some (.brk s)) (hN : N < FUEL) : loopM f FUEL (inv 0) = some (.brk s) := by
  have e : FUEL = (FUEL - N - 1) + 1 + N := by omega
  rw [e, loopM_nxt inv N h N 0 _ (by omega), loopM, he]
/-- copying a row element by element -/
theorem toL {R α : Type} {f : List α × Int → Option (Out R (List α × Int))} {z : α} (xs : List α) (hN : xs.length ≤ 9223372036854775807)
    (hstep : ∀ ys i (h : i < xs.length), ys.length = xs.length → f (ys, (i : Int)) = some (.nxt (ys.set i xs[i], ((i + 1 : Nat) : Int)))) (hend : ∀ ys, ys.length = xs.length → f (ys, (xs.length : Int)) = some (.brk (ys, (xs.length : Int)))) :
    loopM f FUEL (List.replicate xs.length z, 0) = some (.brk (xs, (xs.length : Int))) := by
  have h0 : (List.replicate xs.length z, (0 : Int)) = (fun i : Nat => (xs.take i ++ (List.replicate xs.length z).drop i, (i : Int))) 0 := by simp
  rw [h0]
  refine loopM_all (fun i : Nat => (xs.take i ++ (List.replicate xs.length z).drop i, (i : Int))) xs.length (fun i hi => ?_) ?_ (fuelUp _ hN)
  · have hl : (xs.take i ++ (List.replicate xs.length z).drop i).length = xs.length := by
      rw [List.length_append, List.length_take, List.length_drop, List.length_replicate]; omega
    rw [hstep _ i hi hl]
    congr 3
    have ht : (xs.take i).length = i := by rw [List.length_take]; omega
    rw [List.set_append_right _ _ (by omega), ht, Nat.sub_self, List.drop_eq_getElem_cons (by rw [List.length_replicate]; exact hi), List.set_cons_zero, List.take_succ_eq_append_getElem hi, List.append_assoc]
    rfl
  · have := hend xs rfl
    rw [List.take_of_length_le (Nat.le_refl _), List.drop_of_length_le (by rw [List.length_replicate]; exact Nat.le_refl _), List.append_nil]
    exact this
/-- counting a row down -/
def SzOk {α : Type} [Data α] (m : α → Int → Option Int) : Prop := ∀ x l, Data.lim x → 0 ≤ l → l ≤ 1048576 → ∃ r, m x l = some r ∧ (r < 0 ∨ (0 ≤ r ∧ r ≤ l ∧ Data.sm x))
def ToOk {α : Type} [Data α] (m : α → Option α) : Prop := ∀ x, Data.sm x → m x = some x
def EqOk {α : Type} [Data α] [DecidableEq α] (m : α → α → Option Bool) : Prop := ∀ x y, Data.sm x → Data.sm y → m x y = some (decide (x = y))
theorem szGo {α : Type} [Data α] {f : Int × Int → Option (Out Int (Int × Int))} (xs : List α)
    (hstep : ∀ i (h : i < xs.length) l, 0 ≤ l → l ≤ 1048576 → ∃ r, f (l, (i : Int)) = some (if r < 0 then .ret (-1) else .nxt (r, ((i + 1 : Nat) : Int))) ∧ (r < 0 ∨ (0 ≤ r ∧ r ≤ l ∧ Data.sm xs[i])))
    (hend : ∀ l, f (l, (xs.length : Int)) = some (.brk (l, (xs.length : Int)))) : ∀ (m i k : Nat) (l : Int), i + m = xs.length → m < k → 0 ≤ l → l ≤ 1048576 →
      loopM f k (l, (i : Int)) = some (.ret (-1)) ∨ ∃ r, loopM f k (l, (i : Int)) = some (.brk (r, (xs.length : Int))) ∧ 0 ≤ r ∧ r ≤ l ∧ ∀ j (h : j < xs.length), i ≤ j → Data.sm xs[j]
  | 0, i, k, l, e, hk, h0, h1 => by
    obtain ⟨k, rfl⟩ : ∃ q, k = q + 1 := ⟨k - 1, by omega⟩
    obtain rfl : i = xs.length := by omega
    exact .inr ⟨l, by rw [loopM, hend], h0, Int.le_refl _, fun j hj hi => by omega⟩
  | m + 1, i, k, l, e, hk, h0, h1 => by
    obtain ⟨k, rfl⟩ : ∃ q, k = q + 1 := ⟨k - 1, by omega⟩
    obtain ⟨r, e1, e2⟩ := hstep i (by omega) l h0 h1
    rw [loopM, e1]
    rcases e2 with e2 | ⟨e2, e3, e4⟩
    · rw [if_pos e2]; exact .inl rfl
    · rw [if_neg (by omega)]
      rcases szGo xs hstep hend m (i + 1) k r (by omega) (by omega) e2 (by omega) with h | ⟨q, g1, g2, g3, g4⟩
      · exact .inl h
      · refine .inr ⟨q, g1, g2, by omega, fun j hj hi => ?_⟩
        by_cases hji : j = i
        · subst hji; exact e4
        · exact g4 j hj (by omega)
theorem szL {α : Type} [Data α] {f : Int × Int → Option (Out Int (Int × Int))} (xs : List α) {l : Int} (hN : xs.length ≤ 9223372036854775807)
    (hstep : ∀ i (h : i < xs.length) l, 0 ≤ l → l ≤ 1048576 → ∃ r, f (l, (i : Int)) = some (if r < 0 then .ret (-1) else .nxt (r, ((i + 1 : Nat) : Int))) ∧ (r < 0 ∨ (0 ≤ r ∧ r ≤ l ∧ Data.sm xs[i])))
    (hend : ∀ l, f (l, (xs.length : Int)) = some (.brk (l, (xs.length : Int)))) (h0 : 0 ≤ l) (h1 : l ≤ 1048576) :
    ∃ r, (if decide (IntKind.i64.wrap (l - (xs.length : Int)) < 0) then (some (-1)) else (bindL (loopM f FUEL (IntKind.i64.wrap (l - (xs.length : Int)), 0)) (fun r => some r) (fun s4 => some s4.1))) = some r ∧ (r < 0 ∨ (0 ≤ r ∧ r ≤ l ∧ Data.sm xs)) := by
  rw [wrapI (by omega) (by omega)]
  by_cases h : l - (xs.length : Int) < 0
  · exact ⟨-1, by rw [if_pos (decide_eq_true h)], .inl (by decide)⟩
  · rw [if_neg (by simpa using h)]
    rcases szGo xs hstep hend xs.length 0 FUEL (l - xs.length) (by omega) (fuelUp _ hN) (by omega) (by omega) with e | ⟨r, e, g1, g2, g3⟩
    · exact ⟨-1, by rw [show ((0 : Int)) = ((0 : Nat) : Int) from rfl, e]; rfl, .inl (by decide)⟩
    · refine ⟨r, by rw [show ((0 : Int)) = ((0 : Nat) : Int) from rfl, e]; rfl, .inr ⟨g1, by omega, by omega, fun x hx => ?_⟩⟩
      obtain ⟨j, hj, rfl⟩ := List.getElem_of_mem hx
      exact g3 j hj (Nat.zero_le _)
theorem szF {α : Type} [Data α] (xs : List α) {l : Int} (hN : xs.length ≤ 9223372036854775807) (hf : ∀ x : α, Data.sm x) (h0 : 0 ≤ l) (h1 : l ≤ 1048576) :
    ∃ r, (if decide (IntKind.i64.wrap (l - (xs.length : Int)) < 0) then (some (-1)) else (some (IntKind.i64.wrap (l - (xs.length : Int))))) = some r ∧ (r < 0 ∨ (0 ≤ r ∧ r ≤ l ∧ Data.sm xs)) := by
  rw [wrapI (by omega) (by omega)]
  by_cases h : l - (xs.length : Int) < 0
  · exact ⟨-1, by rw [if_pos (decide_eq_true h)], .inl (by decide)⟩
  · exact ⟨_, by rw [if_neg (by simpa using h)], .inr ⟨by omega, by omega, by omega, fun x _ => hf x⟩⟩
/-- comparing two rows -/
theorem eqGo {α : Type} [DecidableEq α] {f : Int → Option (Out Bool Int)} (xs ys : List α) (hl : xs.length = ys.length)
    (hstep : ∀ i (h : i < xs.length) (h' : i < ys.length), f (i : Int) = some (if xs[i] = ys[i] then .nxt ((i + 1 : Nat) : Int) else .ret false)) (hend : f (xs.length : Int) = some (.brk (xs.length : Int))) : ∀ (m i k : Nat), i + m = xs.length → m < k →
      loopM f k (i : Int) = some (if xs.drop i = ys.drop i then .brk (xs.length : Int) else .ret false)
  | 0, i, k, e, hk => by
    obtain ⟨k, rfl⟩ : ∃ q, k = q + 1 := ⟨k - 1, by omega⟩
    obtain rfl : i = xs.length := by omega
    rw [loopM, hend, List.drop_of_length_le (Nat.le_refl _), List.drop_of_length_le (by omega), if_pos rfl]
  | m + 1, i, k, e, hk => by
    obtain ⟨k, rfl⟩ : ∃ q, k = q + 1 := ⟨k - 1, by omega⟩
    have hi : i < xs.length := by omega
    have hi' : i < ys.length := by omega
    have d1 := List.drop_eq_getElem_cons hi
    have d2 := List.drop_eq_getElem_cons hi'
    rw [loopM, hstep i hi hi', d1, d2]
    by_cases h : xs[i] = ys[i]
    · rw [if_pos h]
      simp only
      rw [eqGo xs ys hl hstep hend m (i + 1) k (by omega) (by omega)]
      simp only [List.cons.injEq, h, true_and]
    · rw [if_neg h]
      simp only [List.cons.injEq, h, false_and, if_false]
theorem eqL {α : Type} [DecidableEq α] {f : Int → Option (Out Bool Int)} (xs ys : List α) (hN : xs.length ≤ 9223372036854775807)
    (hstep : ∀ i (h : i < xs.length) (h' : i < ys.length), f (i : Int) = some (if xs[i] = ys[i] then .nxt ((i + 1 : Nat) : Int) else .ret false)) (hend : f (xs.length : Int) = some (.brk (xs.length : Int))) :
    (if (xs.length : Int) != (ys.length : Int) then (some false) else (bindL (loopM f FUEL 0) (fun r => some r) (fun s4 => some true))) = some (decide (xs = ys)) := by
  by_cases hl : xs.length = ys.length
  · rw [if_neg (by rw [hl]; simp), show ((0 : Int)) = ((0 : Nat) : Int) from rfl, eqGo xs ys hl hstep hend xs.length 0 FUEL (by omega) (fuelUp _ hN)]
    by_cases h : xs = ys
    · subst h; simp [bindL]
    · simp [bindL, h]
  · have : xs ≠ ys := fun e => hl (by rw [e])
    rw [if_pos (by simp; omega)]; simp [this]
theorem iteOpt {α : Type} {c d : Prop} [Decidable c] [Decidable d] {a b : α} (h : c ↔ d) : (if c then some a else some b) = some (if d then a else b) := by
  by_cases k : c
  · rw [if_pos k, if_pos (h.1 k)]
  · rw [if_neg k, if_neg (fun e => k (h.2 e))]
theorem iteOptN {α : Type} {c d : Prop} [Decidable c] [Decidable d] {a b : α} (h : c ↔ ¬ d) : (if c then some b else some a) = some (if d then a else b) := by
  by_cases k : d
  · rw [if_neg (fun e => h.1 e k), if_pos k]
  · rw [if_pos (h.2 k), if_neg k]
theorem eqB {α : Type} [DecidableEq α] {f : Int → Option (Out Bool Int)} {K : Option Bool} (xs ys : List α) (hN : xs.length ≤ 9223372036854775807) (hl : xs.length = ys.length)
    (hstep : ∀ i (h : i < xs.length) (h' : i < ys.length), f (i : Int) = some (if xs[i] = ys[i] then .nxt ((i + 1 : Nat) : Int) else .ret false)) (hend : f (xs.length : Int) = some (.brk (xs.length : Int))) :
    bindL (loopM f FUEL 0) (fun r => some r) (fun s4 => K) = (if xs = ys then K else some false) := by
  rw [show ((0 : Int)) = ((0 : Nat) : Int) from rfl, eqGo xs ys hl hstep hend xs.length 0 FUEL (by omega) (fuelUp _ hN)]
  by_cases h : xs = ys
  · subst h; simp [bindL]
  · simp [bindL, h]
theorem cmpGo {f : Int → Option (Out Int Int)} (xs ys : List Int)
    (hstep : ∀ i (h : i < xs.length) (h' : i < ys.length), f (i : Int) = some (if xs[i] < ys[i] then .ret (-1) else if xs[i] > ys[i] then .ret 1 else .nxt ((i + 1 : Nat) : Int))) (hend : ∀ i, xs.length ≤ i ∨ ys.length ≤ i → f (i : Int) = some (.brk (i : Int))) : ∀ (m i k : Nat), i + m = xs.length → m < k →
      (∃ r, loopM f k (i : Int) = some (.ret r) ∧ r ≠ 0 ∧ xs ≠ ys) ∨ ∃ s, loopM f k (i : Int) = some (.brk s) ∧ (xs.length = ys.length → xs.drop i = ys.drop i)
  | 0, i, k, e, hk => by
    obtain ⟨k, rfl⟩ : ∃ q, k = q + 1 := ⟨k - 1, by omega⟩
    exact .inr ⟨_, by rw [loopM, hend i (.inl (by omega))], fun h => by rw [List.drop_of_length_le (by omega), List.drop_of_length_le (by omega)]⟩
  | m + 1, i, k, e, hk => by
    obtain ⟨k, rfl⟩ : ∃ q, k = q + 1 := ⟨k - 1, by omega⟩
    have hi : i < xs.length := by omega
    by_cases hi' : i < ys.length
    · have hne : ∀ h : xs[i] ≠ ys[i], xs ≠ ys := fun h e => h (by subst e; rfl)
      rw [loopM, hstep i hi hi']
      by_cases h1 : xs[i] < ys[i]
      · rw [if_pos h1]; exact .inl ⟨-1, rfl, by decide, hne (by omega)⟩
      · rw [if_neg h1]
        by_cases h2 : xs[i] > ys[i]
        · rw [if_pos h2]; exact .inl ⟨1, rfl, by decide, hne (by omega)⟩
        · rw [if_neg h2]
          rcases cmpGo xs ys hstep hend m (i + 1) k (by omega) (by omega) with h | ⟨s, g1, g2⟩
          · exact .inl h
          · refine .inr ⟨s, g1, fun hl => ?_⟩
            have h3 : xs[i] = ys[i] := by omega
            rw [List.drop_eq_getElem_cons hi, List.drop_eq_getElem_cons hi', g2 hl, h3]
    · exact .inr ⟨_, by rw [loopM, hend i (.inr (by omega))], fun h => by omega⟩
instance : LawfulBEq ByteArray where
  eq_of_beq {a b} h := ByteArray.ext (eq_of_beq (show (a.data == b.data) = true from h))
  rfl {a} := beq_self_eq_true a.data
theorem peq2 {α β : Type} {a b : α × β} : (a.1 = b.1 ∧ a.2 = b.2) ↔ a = b := Prod.ext_iff.symm
theorem peq3 {α β γ : Type} {a b : α × β × γ} : (a.1 = b.1 ∧ a.2.1 = b.2.1 ∧ a.2.2 = b.2.2) ↔ a = b := by rw [Prod.ext_iff, Prod.ext_iff]
theorem peq4 {α β γ δ : Type} {a b : α × β × γ × δ} : (a.1 = b.1 ∧ a.2.1 = b.2.1 ∧ a.2.2.1 = b.2.2.1 ∧ a.2.2.2 = b.2.2.2) ↔ a = b := by rw [Prod.ext_iff, Prod.ext_iff, Prod.ext_iff]
theorem peta {α β : Type} (p : α × β) : (p.1, p.2) = p := rfl
theorem sm_list {α : Type} [Data α] {xs : List α} (h : Data.sm xs) : xs.length ≤ 1048576 ∧ ∀ x, x ∈ xs → Data.sm x := h
theorem lim_list {α : Type} [Data α] {xs : List α} (h : Data.lim xs) : xs.length ≤ 9223372036854775807 ∧ ∀ x, x ∈ xs → Data.lim x := h
end Go.Proofs.Ytfkocnnphjkmfaa.D
