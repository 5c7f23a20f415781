/- Plain facts on lists and numbers that the laws' helpers want: sizes, marks. -/
import Derived.Test.YtokiommgielfjaaMem
set_option linter.unusedVariables false
set_option linter.unusedSimpArgs false
namespace Go.Proofs.Ytokiommgielfjaa
open Go.RowKit

/-- what is left of n behind so many -/
def lft (n : Int) (s : Nat) : Int := if n < s then -1 else n - s
theorem lft_neg {n : Int} {s : Nat} (h : n < s) : lft n s = -1 := if_pos h
theorem lft_pos {n : Int} {s : Nat} (h : ¬ n < s) : lft n s = n - s := if_neg h
theorem lft_add {n : Int} {a b : Nat} (h : 0 ≤ lft n a) : lft (lft n a) b = lft n (a + b) := by
  unfold lft at *
  split at h
  · omega
  · rename_i h1
    rw [if_neg h1]
    by_cases h2 : n < ↑(a + b)
    · rw [if_pos h2, if_pos (by omega)]
    · rw [if_neg h2, if_neg (by omega)]; omega
theorem lft_over {n : Int} {a : Nat} (b : Nat) (h : lft n a < 0) : lft n (a + b) = -1 := by
  unfold lft at *
  split at h
  · rw [if_pos (by omega)]
  · omega
theorem lft_le {n : Int} {a : Nat} (h : n ≤ 1048576) : lft n a ≤ 1048576 := by
  unfold lft; split <;> omega
theorem lft_bd {n : Int} {a : Nat} : -1 ≤ lft n a := by
  unfold lft; split <;> omega
theorem le_of_lft {n : Int} {a : Nat} (h : 0 ≤ lft n a) : (a : Int) ≤ n := by
  unfold lft at h; split at h <;> omega

def sumL {α : Type} (f : α → Nat) : List α → Nat
  | [] => 0
  | x :: xs => f x + sumL f xs
def szL {α : Type} (f : α → Nat) (xs : List α) : Nat := xs.length + sumL f xs
theorem sumL_append {α : Type} (f : α → Nat) : ∀ xs ys : List α, sumL f (xs ++ ys) = sumL f xs + sumL f ys
  | [], _ => by simp [sumL]
  | x :: xs, ys => by simp only [List.cons_append, sumL, sumL_append f xs ys]; omega
theorem sumL_take_succ {α : Type} {f : α → Nat} {xs : List α} {k : Nat} {x : α} (h : xs[k]? = some x) : sumL f (xs.take (k + 1)) = sumL f (xs.take k) + f x := by
  rw [take_get h, sumL_append]; simp [sumL]
theorem sumL_take_le {α : Type} {f : α → Nat} {xs : List α} (k : Nat) : sumL f (xs.take k) ≤ sumL f xs := by
  have := sumL_append f (xs.take k) (xs.drop k)
  rw [List.take_append_drop] at this; omega
theorem sumL_get_le {α : Type} {f : α → Nat} {xs : List α} {k : Nat} {x : α} (h : xs[k]? = some x) : f x ≤ sumL f xs := by
  have := sumL_take_succ (f := f) h
  have := sumL_take_le (f := f) (xs := xs) (k + 1); omega

/-! ### Marks -/
def mkL {α : Type} (mk : Int → α → α) (c : α → Nat) : Int → List α → List α
  | _, [] => []
  | k, x :: xs => mk k x :: mkL mk c (k + c x) xs
def mkTo {α : Type} (mk : Int → α → α) (c : α → Nat) (k : Int) (xs : List α) (i : Nat) : List α := mkL mk c k (xs.take i) ++ xs.drop i
section
variable {α : Type} {mk : Int → α → α} {c : α → Nat}
theorem mkL_length : ∀ {xs : List α} {k : Int}, (mkL mk c k xs).length = xs.length
  | [], _ => rfl
  | x :: xs, k => by simp [mkL, mkL_length]
theorem mkL_append : ∀ {xs ys : List α} {k : Int}, mkL mk c k (xs ++ ys) = mkL mk c k xs ++ mkL mk c (k + sumL c xs) ys
  | [], ys, k => by simp [mkL, sumL]
  | x :: xs, ys, k => by
    simp only [List.cons_append, mkL, mkL_append (xs := xs), sumL]
    rw [show k + ↑(c x) + ↑(sumL c xs) = k + ↑(c x + sumL c xs) from by omega]
theorem mkTo_length {xs : List α} {k : Int} {i : Nat} : (mkTo mk c k xs i).length = xs.length := by
  simp only [mkTo, List.length_append, mkL_length, List.length_take, List.length_drop]; omega
theorem mkTo_zero {xs : List α} {k : Int} : mkTo mk c k xs 0 = xs := by simp [mkTo, mkL]
theorem mkTo_all {xs : List α} {k : Int} {i : Nat} (h : xs.length ≤ i) : mkTo mk c k xs i = mkL mk c k xs := by
  simp [mkTo, List.take_of_length_le h, List.drop_of_length_le h]
theorem mkTo_get {xs : List α} {k : Int} {i : Nat} {x : α} (h : xs[i]? = some x) : (mkTo mk c k xs i)[i]? = some x := by
  have hl := (List.getElem?_eq_some_iff.1 h).1
  unfold mkTo
  rw [List.getElem?_append_right (by rw [mkL_length, List.length_take]; omega), mkL_length, List.length_take, List.getElem?_drop, ← h]
  congr 1; omega
theorem mkTo_set {xs : List α} {k : Int} {i : Nat} {x : α} (h : xs[i]? = some x) : (mkTo mk c k xs i).set i (mk (k + sumL c (xs.take i)) x) = mkTo mk c k xs (i + 1) := by
  have hl := (List.getElem?_eq_some_iff.1 h).1
  unfold mkTo
  rw [List.set_append_right _ _ (by rw [mkL_length, List.length_take]; omega), mkL_length, List.length_take, take_get h, mkL_append]
  rw [show i - min i xs.length = 0 from by omega]
  rw [List.drop_eq_getElem_cons hl]
  simp only [mkL, List.set_cons_zero, List.append_assoc, List.cons_append, List.nil_append]
theorem mkL_get {xs : List α} {k : Int} {i : Nat} {x : α} (h : xs[i]? = some x) : (mkL mk c k xs)[i]? = some (mk (k + sumL c (xs.take i)) x) := by
  have hl := (List.getElem?_eq_some_iff.1 h).1
  have := mkL_append (mk := mk) (c := c) (xs := xs.take i) (ys := xs.drop i) (k := k)
  rw [List.take_append_drop] at this
  have hx : xs[i] = x := by rw [List.getElem?_eq_getElem hl] at h; exact Option.some.inj h
  rw [this, List.getElem?_append_right (by rw [mkL_length, List.length_take]; omega), mkL_length, List.length_take, List.drop_eq_getElem_cons hl, hx]
  rw [show i - min i xs.length = 0 from by omega]; rfl
end

/-! ### A slice whose elements are written over -/
section
variable {α : Type} {R : Rep α} {E n cap g i : Nat} {w : World} {xs : List α} {x : α} {F : List Nat}
/-- One element, to be changed in its own blocks. -/
theorem own_in (h : (rSlice E R).own w [.slice (some ⟨g, 0, none⟩) n cap] xs F) (hF : F.Nodup) (hx : xs[i]? = some x) :
    ∃ c G, R.own w c x G ∧ G.Nodup ∧ c.length = R.size ∧ (∀ j u, c[j]? = some u → w.cell? ⟨g, i * R.size + j, none⟩ = some u) ∧
      ∀ w' x' G', R.own w' c x' G' → G'.Perm G → Chg w w' G → ∃ F', (rSlice E R).own w' [.slice (some ⟨g, 0, none⟩) n cap] (xs.set i x') F' ∧ F'.Perm F ∧ Chg w w' F := by
  obtain ⟨hl, h⟩ := h
  rcases h with ⟨h, _⟩ | ⟨g', cap', cur, K, h1, h2, h3, h4, h5, rfl, h6⟩
  · simp at h
  simp at h1
  obtain ⟨rfl, rfl, rfl⟩ := h1
  obtain ⟨hg, hK⟩ := List.nodup_cons.1 hF
  obtain ⟨c, G, e1, e2, e3, e4, e5, e6, e7⟩ := h6.elem hK hx
  refine ⟨c, G, e1, e2, e4, fun j u hu => ?_, fun w' x' G' k1 k2 k3 => ?_⟩
  · have := e5 j (by have := (List.getElem?_eq_some_iff.1 hu).1; omega)
    rw [hu] at this
    simp only [World.cell?, h2]
    simpa using this
  · have hgs : w'.heap[g]? = w.heap[g]? := k3.block g (Array.getElem?_eq_some_iff.1 h2).1 fun hh => hg (e3 g hh)
    obtain ⟨F', f1, f2⟩ := e7 w' c x' cur.toList G' k1 e4 k2 (fun b hb hn => k3.block b (h6.live b hb) hn) rfl e5 (fun _ _ => rfl)
    exact ⟨g :: F', ⟨by rw [List.length_set]; exact hl, .inr ⟨g, cap, cur, F', by rw [List.length_set], by rw [hgs]; exact h2, by rw [List.length_set]; exact h3, h4, h5, rfl, f1⟩⟩, f2.cons g, k3.mono fun b hb => List.mem_cons_of_mem _ (e3 b hb)⟩
/-- One flat element, stored over. -/
theorem own_put {enc : α → List Value} {ok : α → Prop} (fl : Flat R enc ok) (h : (rSlice E R).own w [.slice (some ⟨g, 0, none⟩) n cap] xs F) (hF : F.Nodup) (hx : xs[i]? = some x) (x' : α) (hok : ok x') (hsz : (enc x').length = R.size) :
    (∀ j u, (enc x)[j]? = some u → w.cell? ⟨g, i * R.size + j, none⟩ = some u) ∧ (∀ j, w.frozen? ⟨g, j, none⟩ = false) ∧
      ∃ F', (rSlice E R).own (sets w g (i * R.size) (enc x')) [.slice (some ⟨g, 0, none⟩) n cap] (xs.set i x') F' ∧ F'.Perm F ∧ Chg w (sets w g (i * R.size) (enc x')) F := by
  obtain ⟨hl, h⟩ := h
  rcases h with ⟨h, _⟩ | ⟨g', cap', cur, K, h1, h2, h3, h4, h5, rfl, h6⟩
  · simp at h
  simp at h1
  obtain ⟨rfl, rfl, rfl⟩ := h1
  obtain ⟨hg, hK⟩ := List.nodup_cons.1 hF
  obtain ⟨c, G, e1, e2, e3, e4, e5, e6, e7⟩ := h6.elem hK hx
  obtain ⟨rfl, rfl, hok1⟩ := fl.own.1 e1
  rw [Array.length_toList] at e6
  obtain ⟨cur', r1, r2, r3, r4⟩ := sets_row (vs := enc x') (o := i * R.size) h2 (by omega)
  have hch := sets_chg (vs := enc x') (o := i * R.size) (g := g) (w := w)
  refine ⟨fun j u hu => ?_, fun j => by simp [World.frozen?, h2], ?_⟩
  · have := e5 j (by have := (List.getElem?_eq_some_iff.1 hu).1; omega)
    rw [hu] at this
    simp only [World.cell?, h2]
    simpa using this
  · obtain ⟨F', f1, f2⟩ := e7 (sets w g (i * R.size) (enc x')) (enc x') x' cur'.toList [] (fl.own.2 ⟨rfl, rfl, hok⟩) hsz (.refl _) (fun b hb _ => hch.block b (h6.live b hb) (by simp; rintro rfl; exact hg hb))
      (by rw [Array.length_toList, Array.length_toList, r2]) (fun j hj => by have := r3 j (by omega); simpa using this) (fun j hj => by have := r4 j (by omega); simpa using this)
    exact ⟨g :: F', ⟨by rw [List.length_set]; exact hl, .inr ⟨g, cap, cur', F', by rw [List.length_set], r1, by rw [List.length_set]; exact h3, h4, by omega, rfl, f1⟩⟩, f2.cons g, hch.mono fun b hb => by simp at hb; simp [hb]⟩
end
end Go.Proofs.Ytokiommgielfjaa
