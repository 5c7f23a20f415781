/- The operations on memory, each as a step on assertions. No program text is named here. -/
import Derived.Test.YtfkocnnphjkmfaaOps
import Derived.Great.BuildSlice
import Derived.Shelf.Abstract
set_option linter.unusedVariables false
set_option linter.unusedSimpArgs false
set_option linter.unnecessarySimpa false
namespace Go.Proofs.Ytfkocnnphjkmfaa.D
open Go.RowKit

section
variable {P : Program} {I : Hp} {w0 w w' : World} {cs : List Ch}
theorem Upon.imp {ok ok' : Value → World → Prop} {r : Result Next} (h : Upon P ok r) (k : ∀ v w, ok v w → ok' v w) : Upon P ok' r := by
  cases r with
  | halt x w => exact h
  | ok x w =>
    cases x <;> first | exact h | exact k _ _ h | skip
    exact Calls.mono h fun e w' ⟨v, h1, h2⟩ => ⟨v, h1, k _ _ h2⟩
/-- pointers to a block of the function's own -/
def bk : Value → Nat
  | .pointer (some a) => a.block
  | _ => 0
def IsPt (v : Value) : Prop := ∃ g, v = .pointer (some ⟨g, 0, none⟩)
variable {o : Oper} {ev : Operand → Value}
theorem opT_alloc {T : TypeId} {z : Value} {n b : Nat} {l : List Value} (hz : TZ P T z n b) (hl : z.cells = l.toArray) (ho : o.op = .alloc T) : OpT P I w0 o ev [] IsPt (fun v => [Ch.blk (bk v) l T]) := by
  intro w C hs
  have hr : (execOp ev o).run P w = .ok (.value (.pointer (some ⟨w.heap.size, 0, none⟩))) (w.alloc (.cells l.toArray T)) := by
    simp only [execOp, ho, Instr.alloc, Sem.run_bind, hz.run_zero, Result.andThen_ok]
    simp [newVar, newRow, hl, Result.andThen]
  rw [hr]
  exact ⟨⟨_, rfl⟩, hs.alloc l T⟩
theorem opT_box {T : TypeId} {x : Operand} {u : Value} {l : List Value} (hu : ev x = u) (hl : u.cells = l.toArray) (ho : o.op = .box T x) : OpT P I w0 o ev [] IsPt (fun v => [Ch.blk (bk v) l T]) := by
  intro w C hs
  have hr : (execOp ev o).run P w = .ok (.value (.pointer (some ⟨w.heap.size, 0, none⟩))) (w.alloc (.cells l.toArray T)) := by
    simp only [execOp, ho, Instr.box, hu, Sem.run_bind]
    simp [newVar, newRow, hl, Result.andThen]
  rw [hr]
  exact ⟨⟨_, rfl⟩, hs.alloc l T⟩

/-! ### Loads -/
/-- the value that a variable of type T has, whose cells are d -/
def Lds (agg : Bool) (d : List Value) (u : Value) : Prop := if agg then u = .agg d.toArray else d = [u]
theorem run_ld {T : TypeId} {agg : Bool} {n b off : Nat} {d : List Value} (hT : TI P T agg n) (hd : d.length = n) (hn : agg = false → n = 1) (hc : w.rangeAt b off d) : ∃ u, (Instr.loadAt T (.pointer (some ⟨b, off, none⟩))).run P w = .ok u w ∧ Lds agg d u := by
  cases agg with
  | true =>
    obtain ⟨⟨t, h1, h2⟩, h3⟩ := hT
    exact ⟨_, run_loadAt_mid w b off T d t hc h1 (by cases t <;> first | rfl | cases h2) (by rw [h3, hd]), rfl⟩
  | false =>
    obtain ⟨u, rfl⟩ := List.length_eq_one_iff.1 (hd.trans (hn rfl))
    refine ⟨u, ?_, rfl⟩
    have hc0 := hc 0 u rfl
    rw [Nat.add_zero] at hc0
    simp [Instr.loadAt, Instr.sureAddr, loadVar, Sem.run_bind, hT.run_agg, load, Sem.run, hc0, Result.andThen]
theorem opT_load {T : TypeId} {x : Operand} {agg : Bool} {n b off : Nat} {d : List Value} {rn : List Ch} (hT : TI P T agg n) (ho : o.op = .load T x) (hx : ev x = .pointer (some ⟨b, off, none⟩)) (hd : d.length = n) (hn : agg = false → n = 1) (hc : ∀ w C, St I w0 w (rn ++ C) → w.rangeAt b off d) : OpT P I w0 o ev rn (Lds agg d) (fun _ => rn) := by
  intro w C hs
  obtain ⟨u, hr, hu⟩ := run_ld hT hd hn (hc w C hs)
  simp only [execOp, ho, hx, Sem.run_bind, hr, Result.andThen_ok]
  exact ⟨hu, hs⟩
theorem blk_range {g off : Nat} {l d : List Value} {E : TypeId} {C : List Ch} (h : St I w0 w (Ch.blk g l E :: C)) (hd : (l.drop off).take d.length = d) : w.rangeAt g off d := by
  intro j v hj
  have hg := h.heap 0 rfl
  rw [← hd, List.getElem?_take] at hj
  split at hj
  · rw [List.getElem?_drop] at hj
    simp [World.cell?, hg, hj]
  · cases hj
/-- a load out of a block known whole -/
theorem opT_load_blk {T : TypeId} {x : Operand} {agg : Bool} {n g off : Nat} {l d : List Value} {E : TypeId} {u : Value} (hT : TI P T agg n) (ho : o.op = .load T x) (hx : ev x = .pointer (some ⟨g, off, none⟩)) (hn : (agg || n == 1) = true) (hd : (l.drop off).take n = d) (hdl : d.length = n) (hu : (if agg then Value.agg d.toArray else d.getD 0 undef) = u) :
    OpT P I w0 o ev [Ch.blk g l E] (· = u) (fun _ => [Ch.blk g l E]) := by
  intro w C hs
  refine (opT_load (rn := [Ch.blk g l E]) hT ho hx hdl (fun e => by subst e; simpa using hn) (fun w C h => blk_range h (by rw [hdl]; exact hd)) w C hs).imp fun v w hv => ⟨?_, hv.2⟩
  have := hv.1
  unfold Lds at this
  cases agg with
  | true => exact this.trans hu
  | false => simp only [Bool.false_eq_true, ite_false] at this hu; rw [← hu, this]; rfl
theorem opT_load_fro {T : TypeId} {x : Operand} {agg : Bool} {n g off : Nat} {l d : List Value} {E : TypeId} {fr : Nat × Nat} {u : Value} (hI : I g = some (.cells l.toArray E fr)) (hT : TI P T agg n) (ho : o.op = .load T x) (hx : ev x = .pointer (some ⟨g, off, none⟩)) (hn : (agg || n == 1) = true) (hd : (l.drop off).take n = d) (hdl : d.length = n) (hu : (if agg then Value.agg d.toArray else d.getD 0 undef) = u) :
    OpT P I w0 o ev [] (· = u) (fun _ => []) := by
  intro w C hs
  refine (opT_load (rn := []) hT ho hx hdl (fun e => by subst e; simpa using hn) (fun w C h j v hj => ?_) w C hs).imp fun v w hv => ⟨?_, hv.2⟩
  · have hg : w.heap[g]? = some (.cells l.toArray E fr) := h.2.1 g _ hI
    rw [← hd, List.getElem?_take] at hj
    split at hj
    · rw [List.getElem?_drop] at hj
      simp [World.cell?, hg, hj]
    · cases hj
  · have := hv.1
    unfold Lds at this
    cases agg with
    | true => exact this.trans hu
    | false => simp only [Bool.false_eq_true, ite_false] at this hu; rw [← hu, this]; rfl

/-! ### Fields -/
/-- A field of what R reads: at offset off, read by S. -/
def Fld {α β : Type} (R : Rep α) (off : Nat) (S : Rep β) (f : α → β) : Prop := ∀ I c x, R.rd I c x → ∃ d, (c.drop off).take S.size = d ∧ S.rd I d (f x)
theorem Fld.self {α : Type} {R : Rep α} : Fld R 0 R (fun x => x) := fun I c x h => ⟨c, by rw [← R.rd_len h]; simp, h⟩
theorem Fld.fst {α β γ : Type} {A : Rep α} {B : Rep β} {S : Rep γ} {off : Nat} {f : α → γ} (h : Fld A off S f) : Fld (rProd A B) off S (fun x => f x.1) := by
  rintro I c x ⟨c1, c2, rfl, h1, h2⟩
  obtain ⟨d, e1, e2⟩ := h I c1 x.1 h1
  refine ⟨d, ?_, e2⟩
  have hl : d.length = S.size := S.rd_len e2
  have : off + S.size ≤ c1.length ∨ S.size = 0 := by
    rw [← e1, List.length_take, List.length_drop] at hl; omega
  rw [List.drop_append]
  rcases this with h | h
  · rw [show off - c1.length = 0 from by omega, List.drop_zero, List.take_append_of_le_length (by rw [List.length_drop]; omega)]; exact e1
  · rw [h, List.take_zero] at e1 ⊢; exact e1
theorem Fld.snd {α β γ : Type} {A : Rep α} {B : Rep β} {S : Rep γ} {off : Nat} {f : β → γ} (h : Fld B off S f) : Fld (rProd A B) (A.size + off) S (fun x => f x.2) := by
  rintro I c x ⟨c1, c2, rfl, h1, h2⟩
  obtain ⟨d, e1, e2⟩ := h I c2 x.2 h2
  refine ⟨d, ?_, e2⟩
  rw [List.drop_append, List.drop_of_length_le (by rw [A.rd_len h1]; omega), A.rd_len h1, Nat.add_sub_cancel_left]; exact e1

/-! ### Elements -/
/-- the place of what lies o cells behind a slice's head -/
def ptB : Value → Nat
  | .slice (some a) _ _ => a.block
  | _ => 0
def ptO : Value → Nat
  | .slice (some a) _ _ => a.off
  | _ => 0
def pt (v : Value) (o : Nat) : Value := .pointer (some ⟨ptB v, ptO v + o, none⟩)
/-- element i of a list, i an integer of Go's -/
def getI {α : Type} (xs : List α) (i : Int) : Option α := if 0 ≤ i then xs[i.toNat]? else none
def inI {α : Type} (xs : List α) (i : Int) : Prop := 0 ≤ i ∧ i.toNat < xs.length
theorem getI_in {α : Type} {xs : List α} {i : Int} {x : α} (h : getI xs i = some x) : inI xs i := by
  unfold getI at h
  split at h
  · exact ⟨‹_›, (List.getElem?_eq_some_iff.1 h).1⟩
  · cases h
theorem getI_at {α : Type} {xs : List α} {i : Int} {x : α} (h : getI xs i = some x) : xs[i.toNat]? = some x := by
  unfold getI at h
  split at h
  · exact h
  · cases h
/-- a slice's head -/
def Hd (v : Value) (n : Nat) : Prop := ∃ ao cap, v = .slice ao n cap ∧ (0 < n → ∃ b off, ao = some ⟨b, off, none⟩) ∧ n ≤ cap
theorem Hd.of_rd {α : Type} {E : TypeId} {R : Rep α} {v : Value} {xs : List α} (h : (rSlice E R).rd I [v] xs) : Hd v xs.length := by
  obtain ⟨ao, cap, hv, hl, h⟩ := h
  refine ⟨ao, cap, by simpa using hv, fun hp => ?_, hl.2⟩
  rcases h with rfl | ⟨b, off, _, _, _, rfl, _⟩
  · simp at hp
  · exact ⟨b, off, rfl⟩
theorem Hd.of_own {α : Type} {E : TypeId} {R : Rep α} {v : Value} {xs : List α} {F : List Nat} (h : (rSlice E R).own I w [v] xs F) : Hd v xs.length := by
  obtain ⟨hl, h⟩ := h
  rcases h with ⟨hv, rfl, rfl⟩ | ⟨g, cap, cur, K, hv, _, hle, _⟩
  · exact ⟨none, 0, by simpa using hv, by simp, Nat.le_refl _⟩
  · exact ⟨_, cap, by simpa using hv, fun _ => ⟨g, 0, rfl⟩, by assumption⟩
theorem St.hd {α : Type} {E : TypeId} {R : Rep α} {v : Value} {xs : List α} (h : St I w0 w cs) (i : Nat) (hi : cs[i]? = some (Ch.own (rSlice E R) [v] xs)) : Hd v xs.length ∧ xs.length ≤ lim := by
  obtain ⟨hb, _, F, ⟨G, K, e1, e2, e3⟩, h2, h3⟩ := h.front i hi
  exact ⟨Hd.of_own (I := I) (w := w) (E := E) (R := R) (F := G) e2, e2.1⟩
theorem len_rd {α : Type} {E : TypeId} {R : Rep α} {v : Value} {xs : List α} (h : (rSlice E R).rd I [v] xs) : xs.length ≤ lim := by
  obtain ⟨_, _, _, hl, _⟩ := h; exact hl.1
theorem opT_len_hd {x : Operand} {T E : TypeId} {v : Value} {n : Nat} (h : Hd v n) (hT : P.underlying T = some (.slice E)) (ho : o.op = .call { callee := .builtin .len, args := #[x], argTypes := #[T] }) (hx : ev x = v) : OpT P I w0 o ev [] (· = .int .i64 n) (fun _ => []) := by
  obtain ⟨ao, cap, rfl, _⟩ := h
  exact opT_len_s hT ho hx
theorem opT_index_hd {α : Type} {x y : Operand} {T E : TypeId} {v : Value} {xs : List α} {i : Int} {n : Nat} {agg : Bool} (h : Hd v xs.length) (hT : P.underlying T = some (.slice E)) (hE : TI P E agg n) (ho : o.op = .indexAddr T x y) (hx : ev x = v) (hy : ev y = .int .i64 i) (hi : inI xs i) : OpT P I w0 o ev [] (· = pt v (i.toNat * n)) (fun _ => []) := by
  obtain ⟨ao, cap, rfl, hp, -⟩ := h
  obtain ⟨b, off, rfl⟩ := hp (by have := hi.2; omega)
  refine opT_val fun w => ?_
  have h2 : i < (xs.length : Int) := by have := hi.2; have := hi.1; omega
  simp [execOp, ho, hx, hy, Instr.indexAt, asIntOf, run_underlying hT, hE.run_size, hi.1, h2, Result.andThen, pt, ptB, ptO, Addr.add_mid]
theorem opT_field_pt {x : Operand} {T : TypeId} {f off n b : Nat} {v : Value} (hf : TF P T f off n) (ho : o.op = .fieldAddr T x f) (hx : ev x = pt v b) : OpT P I w0 o ev [] (· = pt v (b + off)) (fun _ => []) := by
  have := opT_field_addr (I := I) (w0 := w0) hf ho hx
  rw [Nat.add_assoc] at this
  exact this
/-- a load out of an element of a frozen slice -/
theorem opT_load_el {α β : Type} {E T : TypeId} {R : Rep α} {S : Rep β} {off n k : Nat} {f : α → β} {x : Operand} {v : Value} {xs : List α} {a : α} {i : Int} {agg : Bool} (hr : (rSlice E R).rd I [v] xs) (ha : getI xs i = some a) (hf : Fld R off S f) (hT : TI P T agg n) (hS : S.size = n) (hn : (agg || n == 1) = true) (ho : o.op = .load T x) (hx : ev x = pt v (i.toNat * k + off)) (hk : R.size = k) :
    OpT P I w0 o ev [] (fun u => ∃ d, S.rd I d (f a) ∧ Lds agg d u) (fun _ => []) := by
  obtain ⟨ao, cap, hv, hl, h⟩ := hr
  obtain rfl : v = .slice ao xs.length cap := by simpa using hv
  have hm := getI_at ha
  rcases h with rfl | ⟨b, ofs, ccs, t, fr, rfl, hI, hel⟩
  · simp at hm
  obtain ⟨c, c1, c2, c3⟩ := hel i.toNat a hm
  obtain ⟨d, d1, d2⟩ := hf I c a c3
  intro w C hs
  refine (opT_load (rn := []) hT ho hx ((S.rd_len d2).trans hS) (fun e => by subst e; simpa using hn) (fun w C h j u hj => ?_) w C hs).imp fun u w hv => ⟨⟨d, d2, hv.1⟩, hv.2⟩
  have hg : w.heap[b]? = some (.cells ccs t fr) := h.2.1 b _ hI
  rw [← d1, List.getElem?_take] at hj
  split at hj
  · rw [List.getElem?_drop] at hj
    have hlt := (List.getElem?_eq_some_iff.1 hj).1
    have := c2 (off + j) (by omega)
    simp only [ptB, ptO, World.cell?, hg]
    rw [hk] at this
    rw [show ofs + (i.toNat * k + off) + j = ofs + i.toNat * k + (off + j) from by omega]
    rw [hj] at this
    simpa using this
  · cases hj
/-- what is owned and leans on nothing but frozen data -/
def Rep.Sh {α : Type} (R : Rep α) : Prop := ∀ {I w cs a F}, R.own I w cs a F → F = [] ∧ R.rd I cs a
theorem sh_flat {α : Type} {enc : α → Value} {h1 : ∀ a, (enc a).oneCell' = true} : (rFlat α enc h1).Sh := fun h => h
theorem sh_prod {α β : Type} {R : Rep α} {S : Rep β} (h : R.Sh) (k : S.Sh) : (rProd R S).Sh := by
  rintro I w cs a F ⟨c, d, G, K, rfl, rfl, h1, h2⟩
  obtain ⟨g1, g2⟩ := h h1
  obtain ⟨k1, k2⟩ := k h2
  exact ⟨by rw [g1, k1]; rfl, c, d, rfl, g2, k2⟩
theorem sh_fro {α : Type} {R : Rep α} : (rFro R).Sh := fun h => h
theorem sh_int : rInt.Sh := sh_flat
theorem sh_bool : rBool.Sh := sh_flat
theorem sh_str : rStr.Sh := sh_flat
theorem OwnEls.sh {α : Type} {R : Rep α} (hR : R.Sh) : ∀ {xs : List α} {cur F}, OwnEls R I w cur xs F → F = []
  | [], _, _, h => h
  | x :: xs, cur, F, ⟨c, rest, G, K, h1, h2, h3, h4, h5⟩ => by rw [h3, (hR h4).1, h5.sh hR]; rfl
theorem St.own_at {α : Type} {E : TypeId} {R : Rep α} (hR : R.Sh) {v : Value} {xs : List α} (h : St I w0 w (Ch.own (rSlice E R) [v] xs :: cs)) {k : Nat} {x : α} (hx : xs[k]? = some x) : ∃ c, R.rd I c x ∧ w.rangeAt (ptB v) (ptO v + k * R.size) c := by
  obtain ⟨hb, hi, F, ⟨G, K, rfl, ⟨hl, e2⟩, e3⟩, h2, h3⟩ := h
  rcases e2 with ⟨hv, rfl, rfl⟩ | ⟨g, cap, cur, K1, hv, k1, k2, k3, k4, rfl, k5⟩
  · simp at hx
  obtain rfl : v = .slice (some ⟨g, 0, none⟩) xs.length cap := by simpa using hv
  have := k5.sh hR
  subst this
  obtain ⟨c, c1, c2, c3⟩ := k5.at Hp.le.rfl (by simp) k x hx
  refine ⟨c, c3, fun j u hj => ?_⟩
  have hlt := (List.getElem?_eq_some_iff.1 hj).1
  have := c2 j (by omega)
  simp only [ptB, ptO, World.cell?, k1, Nat.zero_add]
  rw [hj] at this
  simpa using this
/-- a load out of an element of an owned slice -/
theorem opT_load_own {α β : Type} {E T : TypeId} {R : Rep α} {S : Rep β} {off n k : Nat} {f : α → β} {x : Operand} {v : Value} {xs : List α} {a : α} {i : Int} {agg : Bool} (hR : R.Sh) (ha : getI xs i = some a) (hf : Fld R off S f) (hT : TI P T agg n) (hS : S.size = n) (hn : (agg || n == 1) = true) (ho : o.op = .load T x) (hx : ev x = pt v (i.toNat * k + off)) (hk : R.size = k) :
    OpT P I w0 o ev [Ch.own (rSlice E R) [v] xs] (fun u => ∃ d, S.rd I d (f a) ∧ Lds agg d u) (fun _ => [Ch.own (rSlice E R) [v] xs]) := by
  intro w C hs
  obtain ⟨c, c1, c2⟩ := St.own_at (cs := C) hR hs (getI_at ha)
  obtain ⟨d, d1, d2⟩ := hf I c a c1
  obtain ⟨u, hr, hu⟩ := run_ld (P := P) (w := w) (b := ptB v) (off := ptO v + (i.toNat * k + off)) hT ((S.rd_len d2).trans hS) (fun e => by subst e; simpa using hn) (fun j u hj => by
    rw [← d1, List.getElem?_take] at hj
    split at hj
    · rw [List.getElem?_drop] at hj
      have := c2 (off + j) u hj
      rw [hk] at this
      rwa [show ptO v + (i.toNat * k + off) + j = ptO v + i.toNat * k + (off + j) from by omega]
    · cases hj)
  simp only [execOp, ho, hx, pt, Sem.run_bind, hr, Result.andThen_ok]
  exact ⟨⟨d, d2, hu⟩, hs⟩
theorem lds_one {α : Type} {enc : α → Value} {h1 : ∀ a, (enc a).oneCell' = true} {x : α} {u : Value} (h : ∃ d, (rFlat α enc h1).rd I d x ∧ Lds false d u) : u = enc x := by
  obtain ⟨d, h1, h2⟩ := h
  have h1 : d = [enc x] := h1
  have h2 : d = [u] := h2
  rw [h1] at h2
  simpa using h2.symm
theorem lds_sl {α : Type} {R : Rep α} {E : TypeId} {x : List α} {u : Value} (h : ∃ d, (rSlice E R).rd I d x ∧ Lds false d u) : (rSlice E R).rd I [u] x := by
  obtain ⟨d, h1, h2⟩ := h
  have h2 : d = [u] := h2
  rw [← h2]; exact h1

/-! ### Stores -/
def setsW (w : World) (g : Nat) : Nat → List Value → World
  | _, [] => w
  | o, v :: vs => setsW (w.setCell ⟨g, o, none⟩ v) g (o + 1) vs
theorem run_store_cells {g : Nat} : ∀ (vs : List Value) (w : World) (o i : Nat), (∀ j, j < vs.length → (w.cell? ⟨g, o + i + j, none⟩).isSome = true) → (∀ j, w.frozen? ⟨g, o + j, none⟩ = false) → (∀ v, v ∈ vs → v.oneCell' = true) →
    (storeCells ⟨g, o, none⟩ vs i).run P w = .ok () (setsW w g (o + i) vs)
  | [], w, o, i, _, _, _ => by simp [storeCells, setsW]
  | v :: vs, w, o, i, hc, hf, h1 => by
    have ih := run_store_cells vs (w.setCell ⟨g, o + i, none⟩ v) o (i + 1) (fun j hj => by
      have := hc (j + 1) (by rw [List.length_cons]; omega)
      rw [show o + (i + 1) + j = o + i + (j + 1) from by omega]
      rw [Option.isSome_iff_exists] at this ⊢
      obtain ⟨u, hu⟩ := this
      simp only [World.cell?, World.setCell, Array.getElem?_modify] at hu ⊢
      cases hg : w.heap[g]? with
      | none => simp [hg] at hu
      | some ob => cases ob <;> simp [hg] at hu ⊢ <;> exact ⟨u, hu⟩) (fun j => by
      have := hf j
      simp only [World.frozen?, World.setCell, Array.getElem?_modify] at this ⊢
      cases hg : w.heap[g]? with
      | none => simp [hg]
      | some ob => cases ob <;> simp [hg] at this ⊢; exact this) (fun u hu => h1 u (by simp [hu]))
    have h0 := hc 0 (by simp)
    rw [Nat.add_zero, Option.isSome_iff_exists] at h0
    obtain ⟨u, hu⟩ := h0
    have hv := h1 v (by simp)
    have hfr := hf i
    simp only [storeCells, Sem.run_bind, Addr.add_mid, store]
    have hrun : (Sem.store .plain ⟨g, o + i, none⟩ v (.pure ())).run P w = .ok () (w.setCell ⟨g, o + i, none⟩ v) := by
      cases v <;> first | (simp [Sem.run, hu, hfr]; done) | (simp [Value.oneCell'] at hv)
    rw [hrun]
    simp only [Result.andThen_ok, setsW]
    rw [ih]; rfl
theorem run_st {T : TypeId} {agg : Bool} {n g o : Nat} {u : Value} {l : List Value} (hT : TI P T agg n) (hu : u.cells = l.toArray) (hl : l.length = n) (hc : ∀ j, j < n → (w.cell? ⟨g, o + j, none⟩).isSome = true) (hf : ∀ j, w.frozen? ⟨g, o + j, none⟩ = false) (h1 : ∀ v, v ∈ l → v.oneCell' = true) :
    (Instr.storeAt T (.pointer (some ⟨g, o, none⟩)) u).run P w = .ok () (setsW w g o l) := by
  have := run_store_cells (P := P) (g := g) l w o 0 (by simpa [hl] using hc) hf h1
  simp only [Instr.storeAt, Instr.sureAddr, storeVar, Sem.run_bind, Sem.run_pure, Result.andThen_ok, hT.run_size, hu]
  simp only [List.size_toArray, hl, ne_eq, not_true_eq_false, ite_false, Sem.run_bind, Sem.run_pure, Result.andThen_ok]
  simpa using this
def spl (l : List Value) : Nat → List Value → List Value
  | _, [] => l
  | o, v :: vs => spl (l.set o v) (o + 1) vs
theorem spl_len : ∀ (vs l : List Value) (o : Nat), (spl l o vs).length = l.length
  | [], l, o => rfl
  | v :: vs, l, o => by rw [spl, spl_len vs, List.length_set]
theorem St.sets {g : Nat} {E : TypeId} : ∀ (vs l : List Value) (o : Nat) {w : World}, St I w0 w (Ch.blk g l E :: cs) → St I w0 (setsW w g o vs) (Ch.blk g (spl l o vs) E :: cs)
  | [], l, o, w, h => h
  | v :: vs, l, o, w, h => St.sets vs (l.set o v) (o + 1) (h.set o v)
/-- a store into a block known whole -/
theorem opT_store_blk {T : TypeId} {x y : Operand} {agg : Bool} {n g off : Nat} {l d : List Value} {E : TypeId} {u : Value} (hT : TI P T agg n) (ho : o.op = .store T x y) (hx : ev x = .pointer (some ⟨g, off, none⟩)) (hy : ev y = u) (hu : u.cells = d.toArray) (hd : d.length = n) (h1 : d.all (·.oneCell') = true) (hl : off + n ≤ l.length) :
    OpT P I w0 o ev [Ch.blk g l E] (fun _ => True) (fun _ => [Ch.blk g (spl l off d) E]) := by
  intro w C hs
  have hg := hs.heap 0 rfl
  have hr := run_st (P := P) (w := w) hT (g := g) (o := off) hu hd (fun j hj => by
    simp only [World.cell?, hg]
    simp only [Option.isSome_none, Bool.false_eq_true, ite_false, List.getElem?_toArray]
    rw [List.getElem?_eq_getElem (by omega)]; rfl) (fun j => by simp [World.frozen?, hg]) (fun v hv => List.all_eq_true.1 h1 v hv)
  simp only [execOp, ho, hx, hy, Sem.run_bind, hr, Result.andThen_ok]
  exact ⟨trivial, St.sets d l off hs⟩
end
end Go.Proofs.Ytfkocnnphjkmfaa.D
