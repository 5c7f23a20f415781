/- Marks put into a result, and held there. No program text is named here. -/
import Derived.Test.YtfkocnnphjkmfaaPure
set_option linter.unusedVariables false
set_option linter.unusedSimpArgs false
set_option linter.unnecessarySimpa false
set_option linter.unusedSectionVars false
namespace Go.Proofs.Ytfkocnnphjkmfaa.D
open Go.RowKit

section
variable {α : Type} [Inhabited α]
def smk (mk : α → Nat) : List α → Nat
  | [] => 0
  | x :: xs => mk x + smk mk xs
def mkd (mk : α → Nat) (m : α → Nat → α) : List α → Nat → List α
  | [], _ => []
  | x :: xs, k => m x k :: mkd mk m xs (k + mk x)
theorem smk_snoc (mk : α → Nat) : ∀ (xs : List α) (x : α), smk mk (xs ++ [x]) = smk mk xs + mk x
  | [], x => by simp [smk]
  | y :: xs, x => by simp [smk, smk_snoc mk xs x, Nat.add_assoc]
theorem mkd_snoc (mk : α → Nat) (m : α → Nat → α) : ∀ (xs : List α) (x : α) (k : Nat), mkd mk m (xs ++ [x]) k = mkd mk m xs k ++ [m x (k + smk mk xs)]
  | [], x, k => by simp [mkd, smk]
  | y :: xs, x, k => by simp [mkd, smk, mkd_snoc mk m xs x, Nat.add_assoc]
theorem mkd_length (mk : α → Nat) (m : α → Nat → α) : ∀ (xs : List α) (k : Nat), (mkd mk m xs k).length = xs.length
  | [], _ => rfl
  | x :: xs, k => by simp [mkd, mkd_length mk m xs]
theorem mkd_take (mk : α → Nat) (m : α → Nat → α) : ∀ (xs : List α) (k i : Nat), (mkd mk m xs k).take i = mkd mk m (xs.take i) k
  | [], _, _ => by simp [mkd]
  | x :: xs, k, 0 => by simp [mkd]
  | x :: xs, k, i + 1 => by simp [mkd, mkd_take mk m xs]
theorem takeS {xs : List α} {k : Nat} (h : k < xs.length) : xs.take (k + 1) = xs.take k ++ [nth xs (k : Int)] := by
  rw [List.take_succ_eq_append_getElem h, nth_nat h]
theorem mkd_at (mk : α → Nat) (m : α → Nat → α) (xs : List α) (k : Nat) {i : Nat} (h : i < xs.length) : nth (mkd mk m xs k) (i : Int) = m (nth xs (i : Int)) (k + smk mk (xs.take i)) := by
  have h' : i < (mkd mk m xs k).length := by rw [mkd_length]; exact h
  have e := takeS h'
  rw [mkd_take, mkd_take, takeS h, mkd_snoc] at e
  have := List.append_cancel_left e
  simpa using this.symm
theorem smk_take (mk : α → Nat) {xs : List α} {i : Nat} (h : i < xs.length) : smk mk (xs.take (i + 1)) = smk mk (xs.take i) + mk (nth xs (i : Int)) := by rw [takeS h, smk_snoc]
theorem smk_le (mk : α → Nat) : ∀ (xs : List α) (i : Nat), smk mk (xs.take i) ≤ smk mk xs
  | [], _ => by simp
  | x :: xs, 0 => by simp [smk]
  | x :: xs, i + 1 => by simp [smk]; exact smk_le mk xs i
theorem smk_bound (mk : α → Nat) {B : Nat} : ∀ (xs : List α), (∀ x ∈ xs, mk x ≤ B) → smk mk xs ≤ xs.length * B
  | [], _ => by simp [smk]
  | x :: xs, h => by
    have h1 := smk_bound mk xs fun y hy => h y (by simp [hy])
    have h2 := h x (by simp)
    simp only [smk, List.length_cons, Nat.add_mul, Nat.one_mul]; omega
theorem set_mid {xs ys : List α} {i : Nat} (hi : i < xs.length) (hl : ys.length = i) (x : α) : (ys ++ xs.drop i).set i x = ys ++ [x] ++ xs.drop (i + 1) := by
  rw [List.set_append_right _ _ (by omega), hl, Nat.sub_self, List.drop_eq_getElem_cons hi, List.set_cons_zero, List.append_assoc]; rfl
/-- putting marks into a row -/
theorem markL {R : Type} {f : List α × Int × Int → Option (Out R (List α × Int × Int))} (xs : List α) (mk : α → Nat) (m : α → Nat → α) (hN : xs.length ≤ 9223372036854775807) {k : Nat} (hk : k + smk mk xs ≤ 4611686018427387904)
    (hstep : ∀ ys (i k : Nat), i < xs.length → ys.length = xs.length → nth ys (i : Int) = nth xs (i : Int) → k + mk (nth xs (i : Int)) ≤ 4611686018427387904 → f (ys, (k : Int), (i : Int)) = some (.nxt (ys.set i (m (nth xs (i : Int)) k), ((k + mk (nth xs (i : Int)) : Nat) : Int), ((i + 1 : Nat) : Int))))
    (hend : ∀ ys (k : Nat), ys.length = xs.length → f (ys, (k : Int), (xs.length : Int)) = some (.brk (ys, (k : Int), (xs.length : Int)))) :
    loopM f FUEL (xs, (k : Int), 0) = some (.brk (mkd mk m xs k, ((k + smk mk xs : Nat) : Int), (xs.length : Int))) := by
  have hlen : ∀ i, i ≤ xs.length → (mkd mk m (xs.take i) k ++ xs.drop i).length = xs.length := fun i hi => by
    rw [List.length_append, mkd_length, List.length_take, List.length_drop]; omega
  have := loopM_at (f := f) (fun i => (mkd mk m (xs.take i) k ++ xs.drop i, ((k + smk mk (xs.take i) : Nat) : Int), (i : Int))) xs.length (fun i hi => by
    have hl : (mkd mk m (xs.take i) k).length = i := by rw [mkd_length, List.length_take]; omega
    have hle := smk_le mk xs (i + 1)
    rw [smk_take mk hi] at hle
    rw [hstep _ i (k + smk mk (xs.take i)) hi (hlen i (by omega)) ?_ (by omega), set_mid hi hl, takeS hi, mkd_snoc, smk_snoc, Nat.add_assoc]
    have h' : i < (mkd mk m (xs.take i) k ++ xs.drop i).length := by rw [hlen i (by omega)]; exact hi
    rw [nth_nat h', nth_nat hi, List.getElem_append_right (by omega)]
    simp [hl]) (by
    have := hend (mkd mk m (xs.take xs.length) k ++ xs.drop xs.length) (k + smk mk (xs.take xs.length)) (hlen _ (Nat.le_refl _))
    exact this) (up63 hN)
  simpa [mkd, smk] using this
/-- finding them there -/
theorem heldL {f : Int × Int → Option (Out Int (Int × Int))} (xs : List α) (mk : α → Nat) (m : α → Nat → α) (hN : xs.length ≤ 9223372036854775807) {k : Nat} (hk : k + smk mk xs ≤ 4611686018427387904)
    (hstep : ∀ (i k' : Nat), i < xs.length → nth (mkd mk m xs k) (i : Int) = m (nth xs (i : Int)) k' → k' + mk (nth xs (i : Int)) ≤ 4611686018427387904 → f ((k' : Int), (i : Int)) = some (.nxt (((k' + mk (nth xs (i : Int)) : Nat) : Int), ((i + 1 : Nat) : Int))))
    (hend : ∀ (k' : Nat), f ((k' : Int), (xs.length : Int)) = some (.brk ((k' : Int), (xs.length : Int)))) :
    loopM f FUEL ((k : Int), 0) = some (.brk (((k + smk mk xs : Nat) : Int), (xs.length : Int))) := by
  have := loopM_at (f := f) (fun i => (((k + smk mk (xs.take i) : Nat) : Int), (i : Int))) xs.length (fun i hi => by
    have hle := smk_le mk xs (i + 1)
    rw [smk_take mk hi] at hle
    rw [hstep i (k + smk mk (xs.take i)) hi (mkd_at mk m xs k hi) (by omega), smk_take mk hi, Nat.add_assoc]) (hend _) (up63 hN)
  simpa [smk] using this
end
/-- marks of a type: how many, what is left, what is found -/
def MkOk {α β : Type} [Data α] (mark : α → Int → Option (Int × β)) (held : α → β → Int → Option Int) (B : Nat) : Prop :=
  ∀ x, Data.sm x → ∃ c : Nat, c ≤ B ∧ ∀ k : Nat, k + c ≤ 4611686018427387904 → ∃ y, mark x (k : Int) = some (((k + c : Nat) : Int), y) ∧ held x y (k : Int) = some ((k + c : Nat) : Int)
end Go.Proofs.Ytfkocnnphjkmfaa.D
