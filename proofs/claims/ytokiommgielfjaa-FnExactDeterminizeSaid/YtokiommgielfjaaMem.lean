/- Changes in place: owned rows that are filled or written over; the laws' marks. -/
import Derived.Test.YtokiommgielfjaaCore
import Derived.BigQuiet
import Derived.Deep.QuietTactic
import Derived.Deep.RegionWith
import Derived.Deep.RegionHeld3
set_option linter.unusedVariables false
set_option linter.unusedSimpArgs false
namespace Go.Proofs.Ytokiommgielfjaa
open Go.RowKit

theorem get_of_lt {α : Type} {l : List α} {k : Nat} (h : k < l.length) : ∃ x, l[k]? = some x := ⟨l[k], List.getElem?_eq_getElem h⟩
theorem take_snoc_eq {α : Type} {xs ys : List α} {k : Nat} {x : α} (h : xs.take k = ys.take k) (hx : xs[k]? = some x) (hy : ys[k]? = some x) : xs.take (k + 1) = ys.take (k + 1) := by
  rw [List.take_add_one, List.take_add_one, h, hx, hy]
theorem ne_of_get {α : Type} {xs ys : List α} {k : Nat} {x y : α} (hx : xs[k]? = some x) (hy : ys[k]? = some y) (h : ¬ x = y) : ¬ xs = ys := by
  rintro rfl
  rw [hx] at hy
  exact h (Option.some.inj hy)
theorem eq_of_take {α : Type} {xs ys : List α} {k : Nat} (h : xs.take k = ys.take k) (h1 : xs.length ≤ k) (h2 : ys.length ≤ k) : xs = ys := by
  rwa [List.take_of_length_le h1, List.take_of_length_le h2] at h
theorem take_get {α : Type} {xs : List α} {k : Nat} {x : α} (hx : xs[k]? = some x) : xs.take (k + 1) = xs.take k ++ [x] := by
  rw [List.take_add_one, hx]; rfl

/-- the value of a slice's, or a struct's, cells -/
def agg : List Value → Value
  | cs => .agg cs.toArray

/-! ### Worlds that differ in some blocks -/
structure Chg (w w' : World) (F : List Nat) : Prop where
  os : w'.os = w.os
  tape : w'.tape = w.tape
  output : w'.output = w.output
  size : w.heap.size ≤ w'.heap.size
  block : ∀ b, b < w.heap.size → b ∉ F → w'.heap[b]? = w.heap[b]?
theorem Chg.refl (w : World) (F : List Nat) : Chg w w F := ⟨rfl, rfl, rfl, Nat.le_refl _, fun _ _ _ => rfl⟩
theorem Chg.trans {a b c : World} {F : List Nat} (h : Chg a b F) (k : Chg b c F) : Chg a c F :=
  ⟨k.os.trans h.os, k.tape.trans h.tape, k.output.trans h.output, Nat.le_trans h.size k.size, fun i hi hn => (k.block i (Nat.lt_of_lt_of_le hi h.size) hn).trans (h.block i hi hn)⟩
theorem Chg.mono {w w' : World} {F G : List Nat} (h : Chg w w' F) (hs : ∀ b, b ∈ F → b ∈ G) : Chg w w' G := ⟨h.os, h.tape, h.output, h.size, fun b hb hn => h.block b hb fun hf => hn (hs b hf)⟩
theorem Chg.of_below {w w' : World} (h : Below w.heap.size w w') (F : List Nat) : Chg w w' F := ⟨h.os, h.tape, h.output, h.size, fun b hb _ => h.block b hb⟩
theorem Chg.below {w w' : World} (h : Chg w w' []) : Below w.heap.size w w' := ⟨h.os, h.tape, h.output, h.size, fun b hb => h.block b hb (by simp)⟩
theorem St.chg {w w' : World} {cs : List Ch} (h : St w w' cs) (F : List Nat) : Chg w w' F := .of_below h.1 F
/-- Owned data that a callee changes in its own blocks. -/
theorem St.mut {w0 w : World} {cs : List Ch} {α : Type} {R : Rep α} {v : List Value} {a : α} (h : St w0 w cs) (i : Nat) (hi : cs[i]? = some (Ch.own R v a)) :
    ∃ F, R.own w v a F ∧ F.Nodup ∧ ∀ w' a' F', R.own w' v a' F' → F'.Perm F → Chg w w' F → St w0 w' (Ch.own R v a' :: cs.eraseIdx i) := by
  obtain ⟨hb, F, ⟨G, K, rfl, e2, e3⟩, h2, h3⟩ := h.front i hi
  obtain ⟨n1, n2, n3⟩ := List.nodup_append.1 h2
  refine ⟨G, e2, n1, fun w' a' G' ho hp hc => ⟨hb.trans ⟨hc.os, hc.tape, hc.output, hc.size, fun b hb' => hc.block b (Nat.lt_of_lt_of_le hb' hb.size) fun hg => ?_⟩, G' ++ K, ⟨G', K, rfl, ho, e3.stay fun b hb' => hc.block b (e3.live b hb') fun hg => n3 b hg b hb' rfl⟩, (hp.append_right K).nodup_iff.2 h2, fun b hb' => h3 b ((hp.append_right K).mem_iff.1 hb')⟩⟩
  have := h3 b (List.mem_append_left _ hg); omega

/-! ### Stores one behind the other -/
def sets (w : World) (g : Nat) : Nat → List Value → World
  | _, [] => w
  | o, v :: vs => sets (w.setCell ⟨g, o, none⟩ v) g (o + 1) vs
theorem sets_chg {g : Nat} : ∀ {vs : List Value} {o : Nat} {w : World}, Chg w (sets w g o vs) [g]
  | [], _, _ => Chg.refl _ _
  | v :: vs, o, w => by
    refine Chg.trans (b := w.setCell ⟨g, o, none⟩ v) ⟨rfl, rfl, rfl, by simp, fun b hb hn => Below.heap_setCell _ _ _ _ (by simpa using hn)⟩ sets_chg
theorem heap_setCell_at {w : World} {g o : Nat} {v : Value} {cur : Array Value} {E : TypeId} {fr : Nat × Nat} (h : w.heap[g]? = some (.cells cur E fr)) : (w.setCell ⟨g, o, none⟩ v).heap[g]? = some (.cells (cur.setIfInBounds o v) E fr) := by
  simp [World.setCell, Array.getElem?_modify, h]
/-- the row behind the stores, cell by cell -/
theorem sets_row {g : Nat} {E : TypeId} {fr : Nat × Nat} : ∀ {vs : List Value} {o : Nat} {w : World} {cur : Array Value}, w.heap[g]? = some (.cells cur E fr) → o + vs.length ≤ cur.size →
    ∃ cur' : Array Value, (sets w g o vs).heap[g]? = some (.cells cur' E fr) ∧ cur'.size = cur.size ∧ (∀ j, j < vs.length → cur'[o + j]? = vs[j]?) ∧ ∀ j, j < o ∨ o + vs.length ≤ j → cur'[j]? = cur[j]?
  | [], o, w, cur, h, _ => ⟨cur, h, rfl, by simp, fun _ _ => rfl⟩
  | v :: vs, o, w, cur, h, hl => by
    rw [List.length_cons] at hl
    obtain ⟨cur', h1, h2, h3, h4⟩ := sets_row (vs := vs) (o := o + 1) (heap_setCell_at (o := o) (v := v) h) (by rw [Array.size_setIfInBounds]; omega)
    refine ⟨cur', h1, by simpa using h2, fun j hj => ?_, fun j hj => ?_⟩
    · rw [List.length_cons] at hj
      match j with
      | 0 => rw [Nat.add_zero, h4 o (.inl (by omega)), Array.getElem?_setIfInBounds_self_of_lt (by omega)]; rfl
      | j + 1 => rw [show o + (j + 1) = o + 1 + j from by omega, h3 j (by omega)]; simp
    · rw [List.length_cons] at hj
      rw [h4 j (by omega), Array.getElem?_setIfInBounds_ne (by omega)]

/-! ### One element of an owned row -/
section
variable {α : Type} {R : Rep α}
/-- the element at i: its cells, its blocks; and the row with another in its place -/
theorem OwnEls.elem {w : World} : ∀ {xs : List α} {cur F} {i : Nat} {x : α}, OwnEls R w cur xs F → F.Nodup → xs[i]? = some x →
    ∃ c G, R.own w c x G ∧ G.Nodup ∧ (∀ b, b ∈ G → b ∈ F) ∧ c.length = R.size ∧ (∀ j, j < R.size → cur[i * R.size + j]? = c[j]?) ∧ i * R.size + R.size ≤ cur.length ∧
      ∀ w' c' x' cur' G', R.own w' c' x' G' → c'.length = R.size → G'.Perm G → (∀ b, b ∈ F → b ∉ G → w'.heap[b]? = w.heap[b]?) → cur'.length = cur.length → (∀ j, j < R.size → cur'[i * R.size + j]? = c'[j]?) →
        (∀ j, j < i * R.size ∨ i * R.size + R.size ≤ j → cur'[j]? = cur[j]?) → ∃ F', OwnEls R w' cur' (xs.set i x') F' ∧ F'.Perm F
  | [], _, _, i, x, _, _, hx => by simp at hx
  | y :: xs, cur, F, 0, x, ⟨c, rest, G, K, h1, h2, h3, h4, h5⟩, hn, hx => by
    subst h1; subst h3
    simp at hx; subst hx
    obtain ⟨n1, n2, n3⟩ := List.nodup_append.1 hn
    refine ⟨c, G, h4, n1, fun b hb => List.mem_append_left _ hb, h2, fun j hj => by rw [Nat.zero_mul, Nat.zero_add, List.getElem?_append_left (by omega)], by rw [List.length_append]; omega, ?_⟩
    intro w' c' x' cur' G' k1 k2 kp k3 k4 k5 k6
    refine ⟨G' ++ K, ⟨c', cur'.drop R.size, G', K, ?_, k2, rfl, k1, ?_⟩, kp.append_right K⟩
    · apply List.ext_getElem?
      intro j
      by_cases hj : j < R.size
      · have := k5 j hj
        rw [Nat.zero_mul, Nat.zero_add] at this
        rw [this, List.getElem?_append_left (by omega)]
      · rw [List.getElem?_append_right (by omega), List.getElem?_drop]; congr 1; omega
    · have e : cur'.drop R.size = rest := by
        apply List.ext_getElem?
        intro j
        rw [List.getElem?_drop, k6 _ (.inr (by omega)), List.getElem?_append_right (by omega)]
        congr 1; omega
      rw [e]
      exact h5.stay fun b hb => k3 b (List.mem_append_right _ hb) fun hg => n3 b hg b hb rfl
  | y :: xs, cur, F, i + 1, x, ⟨c, rest, G, K, h1, h2, h3, h4, h5⟩, hn, hx => by
    subst h1; subst h3
    obtain ⟨n1, n2, n3⟩ := List.nodup_append.1 hn
    obtain ⟨d, J, e1, e2, e3, e4, e5, e6, e7⟩ := h5.elem (i := i) (x := x) n2 (by simpa using hx)
    have hm : (i + 1) * R.size = i * R.size + R.size := by rw [Nat.add_mul, Nat.one_mul]
    refine ⟨d, J, e1, e2, fun b hb => List.mem_append_right _ (e3 b hb), e4, fun j hj => ?_, by rw [List.length_append]; omega, ?_⟩
    · rw [List.getElem?_append_right (by omega), ← e5 j hj]; congr 1; omega
    intro w' c' x' cur' G' k1 k2 kp k3 k4 k5 k6
    obtain ⟨F', f1, f2⟩ := e7 w' c' x' (cur'.drop R.size) G' k1 k2 kp (fun b hb hg => k3 b (List.mem_append_right _ hb) hg) (by rw [List.length_drop, k4, List.length_append]; omega)
      (fun j hj => by rw [List.getElem?_drop, ← k5 j hj]; congr 1; omega)
      (fun j hj => by rw [List.getElem?_drop, k6 _ (by omega), List.getElem?_append_right (by omega)]; congr 1; omega)
    refine ⟨G ++ F', ⟨c, cur'.drop R.size, G, F', ?_, h2, rfl, R.own_stay h4 fun b hb => k3 b (List.mem_append_left _ hb) fun hg => n3 b hb b (e3 b hg) rfl, f1⟩, f2.append_left G⟩
    apply List.ext_getElem?
    intro j
    by_cases hj : j < R.size
    · rw [k6 j (.inl (by omega)), List.getElem?_append_left (by omega), List.getElem?_append_left (by omega)]
    · rw [List.getElem?_append_right (by omega), List.getElem?_drop]; congr 1; omega
end

/-! ### Owned structs, part by part -/
section
variable {w0 w : World} {r : List Ch} {α β : Type} {R : Rep α} {S : Rep β} {cs c d : List Value}
theorem St.mid {c : Ch} (l : List Ch) (h : St w0 w (l ++ c :: r)) : St w0 w (c :: (l ++ r)) := h.perm List.perm_middle
theorem St.back {c : Ch} (l : List Ch) (h : St w0 w (c :: (l ++ r))) : St w0 w (l ++ c :: r) := h.perm List.perm_middle.symm
theorem St.prod_split (l : List Ch) {x : α × β} (h : St w0 w (l ++ Ch.own (rProd R S) cs x :: r)) : ∃ c d, cs = c ++ d ∧ St w0 w (l ++ Ch.own R c x.1 :: Ch.own S d x.2 :: r) := by
  obtain ⟨hb, F, ⟨G, K, rfl, ⟨c, d, G1, K1, e1, e2, e3, e4⟩, k⟩, n1, n2⟩ := h.mid l
  subst e2
  refine ⟨c, d, e1, St.perm (cs := Ch.own R c x.1 :: Ch.own S d x.2 :: (l ++ r)) ?_ ⟨hb, G1 ++ (K1 ++ K), ⟨G1, K1 ++ K, rfl, e3, K1, K, rfl, e4, k⟩, by rwa [List.append_assoc] at n1, fun b hb' => n2 b (by rwa [List.append_assoc])⟩⟩
  exact (List.perm_middle.trans ((List.perm_middle).cons _)).symm
theorem St.prod_join (l : List Ch) {x : α × β} (h : St w0 w (l ++ Ch.own R c x.1 :: Ch.own S d x.2 :: r)) : St w0 w (l ++ Ch.own (rProd R S) (c ++ d) x :: r) := by
  have h2 : St w0 w (Ch.own R c x.1 :: Ch.own S d x.2 :: (l ++ r)) := h.perm (List.perm_middle.trans ((List.perm_middle).cons _))
  obtain ⟨hb, F, ⟨G, K, rfl, e3, K1, K2, rfl, e4, k⟩, n1, n2⟩ := h2
  refine St.back l ⟨hb, (G ++ K1) ++ K2, ⟨G ++ K1, K2, rfl, ⟨c, d, G, K1, rfl, rfl, e3, e4⟩, k⟩, by rwa [List.append_assoc], fun b hb' => n2 b (by rwa [List.append_assoc] at hb')⟩
theorem St.flat_split {enc : α → Value} {ok : α → Prop} {h1 : ∀ a, (enc a).oneCell' = true} (l : List Ch) {x : α} (h : St w0 w (l ++ Ch.own (rFlat α enc ok h1) cs x :: r)) : cs = [enc x] ∧ ok x ∧ St w0 w (l ++ r) := by
  obtain ⟨hb, F, ⟨G, K, rfl, ⟨rfl, e2, e3⟩, k⟩, n1, n2⟩ := h.mid l
  exact ⟨e2, e3, hb, K, k, by simpa using n1, by simpa using n2⟩
theorem St.flat_join {enc : α → Value} {ok : α → Prop} {h1 : ∀ a, (enc a).oneCell' = true} (l : List Ch) {x : α} (hx : ok x) (h : St w0 w (l ++ r)) : St w0 w (l ++ Ch.own (rFlat α enc ok h1) [enc x] x :: r) := by
  obtain ⟨hb, F, h1, n1, n2⟩ := h
  exact St.back l ⟨hb, F, ⟨[], F, rfl, ⟨rfl, rfl, hx⟩, h1⟩, n1, n2⟩
theorem St.len {α : Type} {R : Rep α} {x : α} (l : List Ch) (h : St w0 w (l ++ Ch.own R cs x :: r)) : cs.length = R.size := by
  obtain ⟨hb, F, ⟨G, K, rfl, e, k⟩, n1, n2⟩ := h.mid l
  exact R.rd_len (R.own_rd e (B := w.heap.size) fun b hb' => R.own_live e b hb')
theorem St.one (l : List Ch) {α : Type} {R : Rep α} {x : α} (h : St w0 w (l ++ Ch.own R cs x :: r)) (hs : R.size = 1) : ∃ v, cs = [v] := by
  have := h.len l
  rw [hs] at this
  exact List.length_eq_one_iff.1 this
end

/-- Rows of zeros, and rows of flat elements. -/
structure Flat {α : Type} (R : Rep α) (enc : α → List Value) (ok : α → Prop) : Prop where
  own : ∀ {w c x F}, R.own w c x F ↔ F = [] ∧ c = enc x ∧ ok x
  rd : ∀ {B w c x}, R.rd B w c x ↔ c = enc x ∧ ok x
theorem Flat.flat {α : Type} {enc : α → Value} {ok : α → Prop} {h1 : ∀ a, (enc a).oneCell' = true} : Flat (rFlat α enc ok h1) (fun a => [enc a]) ok := ⟨Iff.rfl, Iff.rfl⟩
theorem Flat.pair {α β : Type} {R : Rep α} {S : Rep β} {e : α → List Value} {f : β → List Value} {p : α → Prop} {q : β → Prop} (h : Flat R e p) (k : Flat S f q) : Flat (rProd R S) (fun x => e x.1 ++ f x.2) (fun x => p x.1 ∧ q x.2) := by
  refine ⟨⟨?_, ?_⟩, ⟨?_, ?_⟩⟩
  · rintro ⟨c, d, G, K, rfl, rfl, h1, h2⟩
    obtain ⟨rfl, rfl, h3⟩ := h.own.1 h1
    obtain ⟨rfl, rfl, h4⟩ := k.own.1 h2
    exact ⟨rfl, rfl, h3, h4⟩
  · rintro ⟨rfl, rfl, h3, h4⟩
    exact ⟨_, _, [], [], rfl, rfl, h.own.2 ⟨rfl, rfl, h3⟩, k.own.2 ⟨rfl, rfl, h4⟩⟩
  · rintro ⟨c, d, rfl, h1, h2⟩
    obtain ⟨rfl, h3⟩ := h.rd.1 h1
    obtain ⟨rfl, h4⟩ := k.rd.1 h2
    exact ⟨rfl, h3, h4⟩
  · rintro ⟨rfl, h3, h4⟩
    exact ⟨_, _, rfl, h.rd.2 ⟨rfl, h3⟩, k.rd.2 ⟨rfl, h4⟩⟩

/-- A slice, opened: its head, and its elements' cells. -/
theorem sl_open {α : Type} {R : Rep α} {E B : Nat} {w : World} {cs : List Value} {xs : List α} (h : (rSlice E R).rd B w cs xs) :
    ∃ ao cap b off, cs = [.slice ao xs.length cap] ∧ xs.length ≤ lim ∧ (0 < xs.length → ao = some ⟨b, off, none⟩ ∧ b < B) ∧ ∀ k x, xs[k]? = some x → ∃ c : List Value, c.length = R.size ∧ R.rd B w c x ∧ ∀ j u, c[j]? = some u → w.cell? ⟨b, off + k * R.size + j, none⟩ = some u := by
  obtain ⟨ao, cap, rfl, hl, h⟩ := h
  rcases h with rfl | ⟨b, off, ccs, t, fr, rfl, hb, hh, hx⟩
  · exact ⟨ao, cap, 0, 0, rfl, hl, by simp, by simp⟩
  · refine ⟨_, cap, b, off, rfl, hl, fun _ => ⟨rfl, hb⟩, fun k x hk => ?_⟩
    obtain ⟨c, e1, e2, e3⟩ := hx k x hk
    refine ⟨c, e1, e3, fun j u hj => ?_⟩
    have := e2 j (by have := (List.getElem?_eq_some_iff.1 hj).1; omega)
    simp only [World.cell?, hh]
    rw [hj] at this
    simpa using this
/-- A slice of flat elements of one cell, opened. -/
theorem flat_open {α : Type} {enc : α → Value} {ok : α → Prop} {h1 : ∀ a, (enc a).oneCell' = true} {E B : Nat} {w : World} {cs : List Value} {xs : List α} (h : (rSlice E (rFlat α enc ok h1)).rd B w cs xs) :
    ∃ ao cap b off, cs = [.slice ao xs.length cap] ∧ xs.length ≤ lim ∧ (0 < xs.length → ao = some ⟨b, off, none⟩ ∧ b < B) ∧ ∀ k x, xs[k]? = some x → w.cell? ⟨b, off + k, none⟩ = some (enc x) ∧ ok x := by
  obtain ⟨ao, cap, b, off, e1, e2, e3, e4⟩ := sl_open h
  refine ⟨ao, cap, b, off, e1, e2, e3, fun k x hx => ?_⟩
  obtain ⟨c, f1, f2, f3⟩ := e4 k x hx
  obtain ⟨rfl, hok⟩ := f2
  have := f3 0 (enc x) rfl
  simp only [rFlat, Nat.mul_one, Nat.add_zero] at this
  exact ⟨this, hok⟩
/-- An owned slice, opened. -/
theorem own_open {α : Type} {R : Rep α} {E : Nat} {w : World} {cs : List Value} {xs : List α} {F : List Nat} (h : (rSlice E R).own w cs xs F) :
    xs.length ≤ lim ∧ ((cs = [.slice none 0 0] ∧ xs = [] ∧ F = []) ∨
      ∃ g cap cur K, cs = [.slice (some ⟨g, 0, none⟩) xs.length cap] ∧ w.heap[g]? = some (.cells cur E (0, 0)) ∧ xs.length ≤ cap ∧ cap ≤ maxLen ∧ cur.size = cap * R.size ∧ F = g :: K ∧ OwnEls R w cur.toList xs K) := h

/-- the head of an owned slice -/
theorem St.hdr {w0 w : World} {cs : List Ch} {α : Type} {R : Rep α} {E : Nat} {v : Value} {xs : List α} (h : St w0 w cs) (i : Nat) (hi : cs[i]? = some (Ch.own (rSlice E R) [v] xs)) : ∃ ao cap, v = .slice ao xs.length cap := by
  obtain ⟨ao, cap, hv, _⟩ := h.rd i hi
  exact ⟨ao, cap, by simpa using hv⟩
/-- A row that is filled from its head on: so many elements are there. -/
def Ch.part {α : Type} (R : Rep α) (g cap : Nat) (E : TypeId) (xs : List α) : Ch :=
  ⟨fun w F => ∃ cur K, F = g :: K ∧ w.heap[g]? = some (.cells cur E (0, 0)) ∧ cur.size = cap * R.size ∧ OwnEls R w cur.toList xs K,
   by rintro w w' F ⟨cur, K, rfl, h1, h2, h3⟩ hw; exact ⟨cur, K, rfl, by rw [hw g (by simp)]; exact h1, h2, h3.stay fun b hb => hw b (by simp [hb])⟩,
   by
    rintro w F ⟨cur, K, rfl, h1, h2, h3⟩ b hb
    rcases List.mem_cons.1 hb with rfl | hb
    · exact (Array.getElem?_eq_some_iff.1 h1).1
    · exact h3.live b hb⟩
section
variable {w0 w : World} {cs : List Ch} {α : Type} {R : Rep α} {g cap : Nat} {E : TypeId} {xs : List α}
theorem St.part_start (h : St w0 w cs) (z : Array Value) (hz : z.size = cap * R.size) : St w0 (w.alloc (.cells z E)) (Ch.part R w.heap.size cap E [] :: cs) := by
  have k : St w (w.alloc (.cells z E)) [Ch.part R w.heap.size cap E []] :=
    ⟨(Below.refl _ _).alloc (Nat.le_refl _) _, [w.heap.size], ⟨[w.heap.size], [], rfl, ⟨z, [], rfl, heap_alloc_new w _, hz, rfl⟩, rfl⟩, by simp, by simp⟩
  exact h.call k
theorem St.part_cell (h : St w0 w (Ch.part R g cap E xs :: cs)) : (∀ j, j < cap * R.size → ∃ u, w.cell? ⟨g, j, none⟩ = some u) ∧ (∀ j, w.frozen? ⟨g, j, none⟩ = false) ∧ g < w.heap.size ∧ w0.heap.size ≤ g := by
  obtain ⟨hb, F, ⟨G, K, rfl, ⟨cur, K', rfl, h1, h2, h3⟩, e3⟩, n2, n3⟩ := h
  refine ⟨fun j hj => ⟨cur[j]'(by omega), by simp [World.cell?, h1]⟩, fun j => by simp [World.frozen?, h1], (Array.getElem?_eq_some_iff.1 h1).1, n3 g (by simp)⟩
/-- one element more, stored behind those that are there -/
theorem St.part_put {c : List Value} {x : α} (h : St w0 w (Ch.part R g cap E xs :: Ch.own R c x :: cs)) (hl : xs.length < cap) : St w0 (sets w g (xs.length * R.size) c) (Ch.part R g cap E (xs ++ [x]) :: cs) := by
  obtain ⟨hb, F, ⟨G, K, rfl, ⟨cur, K', rfl, h1, h2, h3⟩, G2, K2, rfl, e2, e3⟩, n2, n3⟩ := h
  have hc : c.length = R.size := R.rd_len (R.own_rd e2 (B := w.heap.size) fun b hb' => R.own_live e2 b hb')
  have hsz : xs.length * R.size + R.size ≤ cap * R.size := by
    have := Nat.mul_le_mul_right R.size (show xs.length + 1 ≤ cap from hl)
    rw [Nat.add_mul, Nat.one_mul] at this; exact this
  obtain ⟨cur', r1, r2, r3, r4⟩ := sets_row (vs := c) (o := xs.length * R.size) h1 (by omega)
  have hln : cur'.toList.length = cur'.size := Array.length_toList
  have hch := sets_chg (vs := c) (o := xs.length * R.size) (g := g) (w := w)
  simp only [List.cons_append, List.nodup_cons, List.mem_append, not_or] at n2
  obtain ⟨⟨na, nb, nc⟩, nd⟩ := n2
  have stay : ∀ b, b ≠ g → b < w.heap.size → (sets w g (xs.length * R.size) c).heap[b]? = w.heap[b]? := fun b hn hb' => hch.block b hb' (by simpa using hn)
  have hg : w0.heap.size ≤ g := n3 g (by simp)
  have hK' : OwnEls R (sets w g (xs.length * R.size) c) cur.toList xs K' := h3.stay fun b hb' => stay b (fun e => na (e ▸ hb')) (h3.live b hb')
  have ex : R.own (sets w g (xs.length * R.size) c) c x G2 := R.own_stay e2 fun b hb' => stay b (fun e => nb (e ▸ hb')) (R.own_live e2 b hb')
  refine ⟨hb.trans ⟨hch.os, hch.tape, hch.output, hch.size, fun b hb' => stay b (by omega) (Nat.lt_of_lt_of_le hb' hb.size)⟩, (g :: (K' ++ G2)) ++ K2, ⟨g :: (K' ++ G2), K2, rfl, ⟨cur', K' ++ G2, rfl, r1, by omega, ?_⟩, e3.stay fun b hb' => stay b (fun e => nc (e ▸ hb')) (e3.live b hb')⟩, ?_, ?_⟩
  · have q : OwnEls R (sets w g (xs.length * R.size) c) (cur'.toList.take (xs.length * R.size)) xs K' := by
      refine hK'.rest ?_
      rw [List.take_take, Nat.min_self]
      apply List.ext_getElem?
      intro j
      rw [List.getElem?_take, List.getElem?_take]
      split
      · have := r4 j (.inl (by omega)); simpa using this
      · rfl
    have q2 := q.snoc (c := c) (x := x) (G := G2) (by rw [List.length_take]; omega) ex hc
    refine q2.rest ?_
    rw [List.length_append, List.length_singleton, Nat.add_mul, Nat.one_mul]
    apply List.ext_getElem?
    intro j
    rw [List.getElem?_take, List.getElem?_take]
    split
    · by_cases hj : j < xs.length * R.size
      · rw [List.getElem?_append_left (by rw [List.length_take]; omega), List.getElem?_take, if_pos hj]
      · rw [List.getElem?_append_right (by rw [List.length_take]; omega), List.length_take]
        have := r3 (j - xs.length * R.size) (by omega)
        rw [show xs.length * R.size + (j - xs.length * R.size) = j from by omega] at this
        rw [show j - min (xs.length * R.size) cur'.toList.length = j - xs.length * R.size from by omega, ← this]
        simp
    · rfl
  · simp only [List.cons_append, List.nodup_cons, List.append_assoc, List.mem_append, not_or]
    exact ⟨⟨na, nb, nc⟩, nd⟩
  · intro b hb'
    refine n3 b ?_
    simpa [List.append_assoc] using hb'
/-- the row is full -/
theorem St.part_done (h : St w0 w (Ch.part R g cap E xs :: cs)) (hl : xs.length = cap) (hm : cap ≤ lim) : St w0 w (Ch.own (rSlice E R) [.slice (some ⟨g, 0, none⟩) cap cap] xs :: cs) := by
  obtain ⟨hb, F, ⟨G, K, rfl, ⟨cur, K', rfl, h1, h2, h3⟩, e3⟩, n2, n3⟩ := h
  refine ⟨hb, (g :: K') ++ K, ⟨g :: K', K, rfl, ⟨by omega, .inr ⟨g, cap, cur, K', by rw [hl], h1, by omega, by unfold lim at hm; unfold maxLen; omega, h2, rfl, h3⟩⟩, e3⟩, n2, n3⟩
end

/-! ### A slice with one element taken out -/
section
variable {α : Type} {R : Rep α}
theorem OwnEls.join {w : World} : ∀ {xs ys : List α} {cur rest F G}, OwnEls R w cur xs F → cur.length = xs.length * R.size → OwnEls R w rest ys G → OwnEls R w (cur ++ rest) (xs ++ ys) (F ++ G)
  | [], ys, cur, rest, F, G, h, hl, k => by
    have : cur = [] := List.eq_nil_of_length_eq_zero (by simpa using hl)
    subst this
    rw [show F = [] from h]
    exact k
  | x :: xs, ys, cur, rest, F, G, ⟨c, r, G1, K, h1, h2, h3, h4, h5⟩, hl, k => by
    subst h1; subst h3
    refine ⟨c, r ++ rest, G1, K ++ G, by simp, h2, by simp, h4, h5.join ?_ k⟩
    rw [List.length_append, List.length_cons, Nat.add_mul] at hl; omega
theorem OwnEls.parts {w : World} : ∀ {xs ys : List α} {cur F}, OwnEls R w cur (xs ++ ys) F → ∃ G K, F = G ++ K ∧ OwnEls R w cur xs G ∧ OwnEls R w (cur.drop (xs.length * R.size)) ys K
  | [], ys, cur, F, h => ⟨[], F, rfl, rfl, by simpa using h⟩
  | x :: xs, ys, cur, F, ⟨c, r, G1, K, h1, h2, h3, h4, h5⟩ => by
    obtain ⟨G, K', e1, e2, e3⟩ := h5.parts
    subst h1; subst h3; subst e1
    refine ⟨G1 ++ G, K', by simp, ⟨c, r, G1, G, rfl, h2, rfl, h4, e2⟩, ?_⟩
    rw [List.length_cons, Nat.add_mul, Nat.one_mul, Nat.add_comm, List.drop_append, List.drop_of_length_le (by omega), h2, Nat.add_sub_cancel_left]
    simpa using e3
end
/-- The slice at block g, its element at i taken out: what is left, and that element's cells. -/
def Ch.hole {α : Type} (R : Rep α) (E g n cap : Nat) (xs : List α) (i : Nat) (c : List Value) : Ch :=
  ⟨fun w F => ∃ cur K1 K2, F = g :: (K1 ++ K2) ∧ w.heap[g]? = some (.cells cur E (0, 0)) ∧ cur.size = cap * R.size ∧ n ≤ cap ∧ cap ≤ maxLen ∧ n ≤ lim ∧ xs.length = n ∧ i < n ∧ c.length = R.size ∧
      OwnEls R w cur.toList (xs.take i) K1 ∧ OwnEls R w (cur.toList.drop ((i + 1) * R.size)) (xs.drop (i + 1)) K2 ∧ ∀ j, j < R.size → cur.toList[i * R.size + j]? = c[j]?,
   by
    rintro w w' F ⟨cur, K1, K2, rfl, h1, h2, h3, h4, h5, h6, h7, h8, h9, h10, h11⟩ hw
    exact ⟨cur, K1, K2, rfl, by rw [hw g (by simp)]; exact h1, h2, h3, h4, h5, h6, h7, h8, h9.stay fun b hb => hw b (by simp [hb]), h10.stay fun b hb => hw b (by simp [hb]), h11⟩,
   by
    rintro w F ⟨cur, K1, K2, rfl, h1, h2, h3, h4, h5, h6, h7, h8, h9, h10, h11⟩ b hb
    simp only [List.mem_cons, List.mem_append] at hb
    rcases hb with rfl | hb | hb
    · exact (Array.getElem?_eq_some_iff.1 h1).1
    · exact h9.live b hb
    · exact h10.live b hb⟩
section
variable {w0 w : World} {r : List Ch} {α : Type} {R : Rep α} {E g n cap i : Nat} {xs : List α} {x : α} {c : List Value}
theorem St.take (h : St w0 w (Ch.own (rSlice E R) [.slice (some ⟨g, 0, none⟩) n cap] xs :: r)) (hx : xs[i]? = some x) :
    ∃ c : List Value, St w0 w (Ch.own R c x :: Ch.hole R E g n cap xs i c :: r) := by
  obtain ⟨hb, F, ⟨G, K, rfl, ⟨hl, hown⟩, k⟩, n1, n2⟩ := h
  have hi := (List.getElem?_eq_some_iff.1 hx).1
  rcases hown with ⟨h, _⟩ | ⟨g', cap', cur, K0, h1, h2, h3, h4, h5, rfl, h6⟩
  · simp at h
  simp at h1
  obtain ⟨rfl, rfl, rfl⟩ := h1
  have e : xs = xs.take i ++ x :: xs.drop (i + 1) := by
    have hxi : xs[i] = x := by rw [List.getElem?_eq_getElem hi] at hx; exact Option.some.inj hx
    rw [← hxi, ← List.drop_eq_getElem_cons hi, List.take_append_drop]
  have hlt : (xs.take i).length = i := by rw [List.length_take]; omega
  rw [e] at h6
  obtain ⟨K1, K', rfl, a1, a2⟩ := h6.parts
  rw [hlt] at a2
  obtain ⟨c, rest, G1, K2, b1, b2, rfl, b4, b5⟩ := a2
  have hrest : rest = cur.toList.drop ((i + 1) * R.size) := by
    have := congrArg (List.drop R.size) b1
    rw [List.drop_drop, List.drop_append, List.drop_of_length_le (l := c) (by omega), b2, Nat.sub_self] at this
    simp at this
    rw [← this]; congr 1; rw [Nat.add_mul]; omega
  have hp : (G1 ++ ((g :: (K1 ++ K2)) ++ K)).Perm ((g :: (K1 ++ (G1 ++ K2))) ++ K) := by
    rw [List.cons_append, List.cons_append]
    refine List.perm_middle.trans (List.Perm.cons g ?_)
    rw [← List.append_assoc, ← List.append_assoc, ← List.append_assoc]
    exact List.Perm.append_right K (List.Perm.append_right K2 List.perm_append_comm)
  refine ⟨c, hb, G1 ++ ((g :: (K1 ++ K2)) ++ K), ⟨G1, (g :: (K1 ++ K2)) ++ K, rfl, b4, g :: (K1 ++ K2), K, rfl, ⟨cur, K1, K2, rfl, h2, h5, h3, h4, hl, rfl, hi, b2, a1, hrest ▸ b5, fun j hj => ?_⟩, k⟩, hp.nodup_iff.2 n1, fun b hb' => n2 b (hp.mem_iff.1 hb')⟩
  have := congrArg (fun l => l[j]?) b1
  simp only [List.getElem?_drop] at this
  rw [this, List.getElem?_append_left (by omega)]
theorem St.give {c' : List Value} {x' : α} (h : St w0 w (Ch.own R c' x' :: Ch.hole R E g n cap xs i c' :: r)) : St w0 w (Ch.own (rSlice E R) [.slice (some ⟨g, 0, none⟩) n cap] (xs.set i x') :: r) := by
  obtain ⟨hb, F, ⟨G1, K', rfl, b4, G', K, rfl, ⟨cur, K1, K2, rfl, h1, h2, h3, h4, h5, h6, h7, h8, h9, h10, h11⟩, k⟩, n1, n2⟩ := h
  have hlt : (xs.take i).length = i := by rw [List.length_take]; omega
  have hsz : (i + 1) * R.size ≤ cur.size := by rw [h2]; exact Nat.mul_le_mul_right _ (by omega)
  have hln : cur.toList.length = cur.size := Array.length_toList
  have hm : (i + 1) * R.size = i * R.size + R.size := by rw [Nat.add_mul, Nat.one_mul]
  have hp : ((g :: (K1 ++ (G1 ++ K2))) ++ K).Perm (G1 ++ ((g :: (K1 ++ K2)) ++ K)) := by
    rw [List.cons_append, List.cons_append]
    refine (List.perm_middle.trans (List.Perm.cons g ?_)).symm
    rw [← List.append_assoc, ← List.append_assoc, ← List.append_assoc]
    exact List.Perm.append_right K (List.Perm.append_right K2 List.perm_append_comm)
  refine ⟨hb, (g :: (K1 ++ (G1 ++ K2))) ++ K, ⟨g :: (K1 ++ (G1 ++ K2)), K, rfl, ⟨by rw [List.length_set]; omega, .inr ⟨g, cap, cur, K1 ++ (G1 ++ K2), by rw [List.length_set, h6], h1, by rw [List.length_set]; omega, h4, h2, rfl, ?_⟩⟩, k⟩, hp.nodup_iff.2 n1, fun b hb' => n2 b (hp.mem_iff.1 hb')⟩
  have e : xs.set i x' = xs.take i ++ x' :: xs.drop (i + 1) := List.set_eq_take_append_cons_drop ▸ (by rw [if_pos (by omega)])
  have ec : cur.toList = cur.toList.take (i * R.size) ++ (c' ++ cur.toList.drop ((i + 1) * R.size)) := by
    conv => lhs; rw [← List.take_append_drop (i * R.size) cur.toList]
    congr 1
    apply List.ext_getElem?
    intro j
    rw [List.getElem?_drop]
    by_cases hj : j < R.size
    · rw [List.getElem?_append_left (by omega)]; exact h11 j hj
    · rw [List.getElem?_append_right (by omega), List.getElem?_drop]; congr 1; omega
  rw [e, ec]
  refine OwnEls.join (h9.rest (by rw [List.take_take, hlt, Nat.min_self])) (by rw [List.length_take, hlt]; omega) ⟨c', _, G1, K2, rfl, h8, rfl, b4, h10⟩
theorem St.hole_cell (h : St w0 w (Ch.hole R E g n cap xs i c :: r)) : (∀ j u, c[j]? = some u → w.cell? ⟨g, i * R.size + j, none⟩ = some u) ∧ ∀ j, w.frozen? ⟨g, j, none⟩ = false := by
  obtain ⟨hb, F, ⟨G, K, rfl, ⟨cur, K1, K2, rfl, h1, h2, h3, h4, h5, h6, h7, h8, h9, h10, h11⟩, k⟩, n1, n2⟩ := h
  refine ⟨fun j u hu => ?_, fun j => by simp [World.frozen?, h1]⟩
  have hj : j < R.size := by have := (List.getElem?_eq_some_iff.1 hu).1; omega
  have := h11 j hj
  rw [hu] at this
  simp only [World.cell?, h1]
  simpa using this
theorem St.hole_set (j : Nat) (v : Value) (hj : j < R.size) (h : St w0 w (Ch.hole R E g n cap xs i c :: r)) : St w0 (w.setCell ⟨g, i * R.size + j, none⟩ v) (Ch.hole R E g n cap xs i (c.set j v) :: r) := by
  refine h.step rfl rfl rfl (by simp) ?_
  rintro F ⟨cur, K1, K2, rfl, h1, h2, h3, h4, h5, h6, h7, h8, h9, h10, h11⟩ hn
  have hm : (i + 1) * R.size = i * R.size + R.size := by rw [Nat.add_mul, Nat.one_mul]
  have hsz : (i + 1) * R.size ≤ cur.size := by rw [h2]; exact Nat.mul_le_mul_right _ (by omega)
  have hlt : (xs.take i).length = i := by rw [List.length_take]; omega
  have hln : cur.toList.length = cur.size := Array.length_toList
  obtain ⟨hg, hK⟩ := List.nodup_cons.1 hn
  refine ⟨fun b hb hnb => Below.heap_setCell _ _ _ _ (by simp at hnb; simp; omega), g :: (K1 ++ K2), ⟨cur.setIfInBounds (i * R.size + j) v, K1, K2, rfl, heap_setCell_at h1, by simpa using h2, h3, h4, h5, h6, h7, by simpa using h8, ?_, ?_, fun l hl => ?_⟩, hn, fun b hb => .inl hb⟩
  · refine (h9.stay fun b hb => Below.heap_setCell _ _ _ _ ?_).rest ?_
    · rintro rfl; exact hg (List.mem_append_left _ hb)
    · rw [hlt, Array.toList_setIfInBounds, List.take_set_of_le (by omega)]
  · rw [Array.toList_setIfInBounds, List.drop_set_of_lt (by omega)]
    exact h10.stay fun b hb => Below.heap_setCell _ _ _ _ (by rintro rfl; exact hg (List.mem_append_right _ hb))
  · rw [Array.toList_setIfInBounds]
    by_cases e : l = j
    · subst e
      rw [List.getElem?_set_self (by omega), List.getElem?_set_self (by omega)]
    · rw [List.getElem?_set_ne (by omega), List.getElem?_set_ne (by omega)]
      exact h11 l hl
end

/-! ### Results that lie in memory -/
theorem res_cell {P : Program} {fn : Func} {p : Tmp} {ty E : TypeId} {cs : List Value} {g : Nat} {fr : Nat × Nat} {tmps : Array Value} {w : World} {d : TypeDesc} (h : fn.results = #[.cell p ty]) (hp : tmps.getD p undef = .pointer (some ⟨g, 0, none⟩))
    (hg : w.heap[g]? = some (.cells cs.toArray E fr)) (hd : (match d with | .struct _ | .array _ _ => true | _ => false) = true) (hu : P.underlying ty = some d) (hi : (P.info? ty).map (·.size) = some cs.length) :
    (results fn tmps).run P w = .ok (.agg cs.toArray) w := by
  have hl := run_loadVar_row (P := P) w g E ty cs.toArray fr d hg hu (by cases d <;> exact hd) (by simpa using hi)
  have hp' : tmps[p]?.getD undef = .pointer (some ⟨g, 0, none⟩) := by simpa using hp
  simp only [results, h]
  simp [Sem.run_bind, Result.andThen, hp', asAddr, hl]
theorem res_cell_tmp {P : Program} {fn : Func} {p u : Tmp} {ty E : TypeId} {cs : List Value} {g : Nat} {fr : Nat × Nat} {tmps : Array Value} {w : World} {d : TypeDesc} {v : Value} (h : fn.results = #[.cell p ty, .tmp u]) (hp : tmps.getD p undef = .pointer (some ⟨g, 0, none⟩)) (hv : tmps.getD u undef = v)
    (hg : w.heap[g]? = some (.cells cs.toArray E fr)) (hd : (match d with | .struct _ | .array _ _ => true | _ => false) = true) (hu : P.underlying ty = some d) (hi : (P.info? ty).map (·.size) = some cs.length) :
    (results fn tmps).run P w = .ok (.tuple #[.agg cs.toArray, v]) w := by
  have hl := run_loadVar_row (P := P) w g E ty cs.toArray fr d hg hu (by cases d <;> exact hd) (by simpa using hi)
  rw [results_cell_tmp h, hv, hp]
  simp [asAddr, hl, Result.andThen]
theorem St.drewN {w0 w : World} {cs : List Ch} {n : Nat} (h : St w0 w cs) : St w0 (w.drewN n) cs := by
  obtain ⟨hb, F, h1, h2, h3⟩ := h
  exact ⟨⟨hb.os, hb.tape, hb.output, hb.size, hb.block⟩, F, h1.stay fun _ _ => rfl, h2, h3⟩
section
variable {w0 w : World} {r : List Ch} {α : Type} {R : Rep α} {E g n cap i : Nat} {xs : List α} {c : List Value}
theorem St.hole_set' (l : List Ch) (j o : Nat) (v : Value) (hj : j < R.size) (ho : i * R.size + j = o) (h : St w0 w (l ++ Ch.hole R E g n cap xs i c :: r)) : St w0 (w.setCell ⟨g, o, none⟩ v) (l ++ Ch.hole R E g n cap xs i (c.set j v) :: r) :=
  ho ▸ (St.back l ((h.mid l).hole_set j v hj))
theorem St.hole_cell' (l : List Ch) (h : St w0 w (l ++ Ch.hole R E g n cap xs i c :: r)) : (∀ j u o, i * R.size + j = o → c[j]? = some u → w.cell? ⟨g, o, none⟩ = some u) ∧ ∀ j, w.frozen? ⟨g, j, none⟩ = false :=
  ⟨fun j u o e h1 => e ▸ (h.mid l).hole_cell.1 j u h1, (h.mid l).hole_cell.2⟩
theorem St.hdr2 {v : Value} (h : St w0 w (Ch.own (rSlice E R) [v] xs :: r)) : (v = .slice none 0 0 ∧ xs = []) ∨ ∃ g cap, v = .slice (some ⟨g, 0, none⟩) xs.length cap := by
  obtain ⟨hb, F, ⟨G, K, rfl, ⟨hl, hown⟩, k⟩, n1, n2⟩ := h
  rcases hown with ⟨h1, h2, _⟩ | ⟨g, cap, cur, K0, h1, _⟩
  · exact .inl ⟨by simpa using h1, h2⟩
  · exact .inr ⟨g, cap, by simpa using h1⟩
end

/-! ### What a region that draws its order holds on to -/
theorem held_any {w0 w w1 : World} {cs ds : List Ch} {Q : Prop} (h : St w0 w cs ∧ Q) (k : St w w1 ds) : St w0 w1 cs := St.left (St.swap (h.1.call k))
theorem arg_any {w0 w : World} {cs : List Ch} {Q : Prop} {α : Type} {R : Rep α} {v : List Value} {a : α} (h : St w0 w cs ∧ Q) (hx : R.rd w0.heap.size w0 v a) : R.rd w.heap.size w v a := h.1.arg hx
theorem rd_any {w0 w : World} {cs : List Ch} {Q : Prop} {α : Type} {R : Rep α} {v : List Value} {a : α} (h : St w0 w cs ∧ Q) (i : Nat) (hi : cs[i]? = some (Ch.own R v a)) : R.rd w.heap.size w v a := h.1.rd i hi
/-! ### Smaller laws for walks -/
theorem St.part_put' {w0 w : World} {cs : List Ch} {α : Type} {R : Rep α} {g cap : Nat} {E : TypeId} {xs : List α} {c : List Value} {x : α} {o : Nat} (h : St w0 w (Ch.part R g cap E xs :: cs)) (ho : o = xs.length * R.size) (hl : xs.length < cap) (hx : R.own w c x []) : St w0 (sets w g o c) (Ch.part R g cap E (xs ++ [x]) :: cs) := by
  subst ho
  refine St.part_put (c := c) ?_ hl
  obtain ⟨hb, F, ⟨G, K, rfl, e, k⟩, n1, n2⟩ := h
  exact ⟨hb, G ++ ([] ++ K), ⟨G, [] ++ K, rfl, e, [], K, rfl, hx, k⟩, by simpa using n1, by simpa using n2⟩
theorem St.set0 {w0 w : World} {cs : List Ch} {g : Nat} {l : List Value} {E : TypeId} (h : St w0 w (Ch.blk g l E :: cs)) (j : Nat) (v : Value) : St w0 (w.setCell ⟨g, j, none⟩ v) (Ch.blk g (l.set j v) E :: cs) := h.set 0 rfl j v
theorem St.alloc2 {w0 w : World} {cs : List Ch} (h : St w0 w cs) (a : List Value) (A : TypeId) (b : List Value) (B : TypeId) : St w0 ((w.alloc (.cells a.toArray A)).alloc (.cells b.toArray B)) (Ch.blk (w.heap.size + 1) b B :: Ch.blk w.heap.size a A :: cs) := by
  simpa using (h.alloc a A).alloc b B
theorem St.alloc3 {w0 w : World} {cs : List Ch} (h : St w0 w cs) (a : List Value) (A : TypeId) (b : List Value) (B : TypeId) (c : List Value) (C : TypeId) : St w0 (((w.alloc (.cells a.toArray A)).alloc (.cells b.toArray B)).alloc (.cells c.toArray C)) (Ch.blk (w.heap.size + 2) c C :: Ch.blk (w.heap.size + 1) b B :: Ch.blk w.heap.size a A :: cs) := by
  simpa using (h.alloc2 a A b B).alloc c C
theorem val_int {k : IntKind} {a b : Int} (h : a = b) : Value.int k a = .int k b := by rw [h]
theorem ret_int {k : IntKind} {a b : Int} (h : a = b) : Ending.returned (.int k a) = .returned (.int k b) := by rw [h]
theorem St.swap3 {w0 w : World} {r : List Ch} (l m : List Ch) (h : St w0 w (l ++ (m ++ r))) : St w0 w (m ++ (l ++ r)) := h.perm (List.perm_append_comm_assoc _ _ _)
end Go.Proofs.Ytokiommgielfjaa
