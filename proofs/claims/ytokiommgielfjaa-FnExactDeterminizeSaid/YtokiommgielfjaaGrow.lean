/- Appending one element to an owned slice; a map of the call's own; small built slices: in the terms of 'St'. No program text is named here. -/
import Derived.Test.YtokiommgielfjaaMem
import Derived.Maps.AppendAt
import Derived.Maps.OwnSet
import Derived.Carry
import Derived.Deep.AppendLies
set_option linter.unusedVariables false
set_option linter.unusedSimpArgs false
namespace Go.Proofs.Ytokiommgielfjaa
open Go.RowKit

section
variable {P : Program} {w0 w : World} {r : List Ch} {α : Type} {R : Rep α}
theorem St.append {E t ty : TypeId} {i : TypeInfo} {z : Value} {size bytes : Nat} (ht : P.underlying t = some (.slice E)) (hi : P.info? E = some i) (hz : i.zero = some z)
    (hsize : i.size = size) (hby : i.bytes = bytes) (hzs : z.cells.size = size) (hsz : 0 < size) (hR : R.size = size)
    {v : Value} {xs : List α} {c : List Value} {x : α} (h : St w0 w (Ch.own (rSlice E R) [v] xs :: Ch.own R c x :: r)) (hlen : xs.length + 1 ≤ lim) (hb : (xs.length + 1) * bytes ≤ 140737488355328) (cap : Nat) :
    ∃ g cap' w', (Builtin.append_ #[t, t] ty #[v, .slice (some ⟨w.heap.size, 0, none⟩) 1 cap]).run P (w.alloc (.cells c.toArray E)) = .ok (.slice (some ⟨g, 0, none⟩) (xs.length + 1) cap') w' ∧
      St w0 w' (Ch.own (rSlice E R) [.slice (some ⟨g, 0, none⟩) (xs.length + 1) cap'] (xs ++ [x]) :: r) := by
  obtain ⟨hbl, F, ⟨G, K, rfl, ⟨hl, hown⟩, G2, K2, rfl, hc, hr⟩, n1, n2⟩ := h
  have hcl : c.length = size := by
    rw [← hR]; exact R.rd_len (R.own_rd hc (B := w.heap.size) fun b hb' => R.own_live hc b hb')
  have hc1 := R.rd_one (R.own_rd hc (B := w.heap.size) fun b hb' => R.own_live hc b hb')
  have hnews : ∀ j u, c[j]? = some u → (w.alloc (.cells c.toArray E)).cell? ((⟨w.heap.size, 0, none⟩ : Addr).add j) = some u := by
    intro j u hu
    have hadd : (⟨w.heap.size, 0, none⟩ : Addr).add j = ⟨w.heap.size, j, none⟩ := by unfold Addr.add; split <;> simp_all
    rw [hadd, World.cell?_alloc_at _ _ _ _ rfl]
    simpa using hu
  -- the old row
  have old : ∃ K1 cells, (w.alloc (.cells c.toArray E)).ownsRow w0.heap.size E size v xs.length cells ∧ OwnEls R w cells xs K1 ∧ cells.length = xs.length * size ∧
      ((G = K1 ∧ v.ownBlock = none) ∨ ∃ g, G = g :: K1 ∧ v.ownBlock = some g ∧ g < w.heap.size) := by
    rcases hown with ⟨hv, rfl, rfl⟩ | ⟨g, cp, cur, K1, hv, hg, h3, h4, h5, rfl, h6⟩
    · obtain rfl : v = .slice none 0 0 := by simpa using hv
      exact ⟨[], [], (World.ownsRow_nil w _ E size).alloc _, rfl, by simp, .inl ⟨rfl, rfl⟩⟩
    · obtain rfl : v = .slice (some ⟨g, 0, none⟩) xs.length cp := by simpa using hv
      have hlt := (Array.getElem?_eq_some_iff.1 hg).1
      rw [hR] at h5
      have hfit : xs.length * size ≤ cur.size := by rw [h5]; exact Nat.mul_le_mul_right _ h3
      have htl : (cur.toList.take (xs.length * size)).length = xs.length * size := by rw [List.length_take, Array.length_toList]; exact Nat.min_eq_left hfit
      refine ⟨K1, cur.toList.take (xs.length * size), ?_, h6.rest (by rw [hR, List.take_take, Nat.min_self]), htl, .inr ⟨g, rfl, rfl, hlt⟩⟩
      exact World.ownsRow.alloc ⟨htl, .inr ⟨g, cp, cur, rfl, n2 g (by simp), hg, h3, h4, h5, rfl⟩⟩ _
  obtain ⟨K1, cells, hrow, hels, hcells, hG⟩ := old
  obtain ⟨v', w', hrun, hrow', hgrow, hnil, hat⟩ := run_append_own_at (P := P) (w.alloc (.cells c.toArray E)) w0.heap.size t ty E i z size bytes ht hi hz hsize hby hzs hsz v xs.length cells hrow ⟨w.heap.size, 0, none⟩ 1 cap c (by omega) hnews hc1
    (by unfold lim at hlen; unfold maxLen; omega) hb (by have := hbl.size; simp; omega)
  obtain ⟨hr1, hr2⟩ := hrow'
  rcases hr2 with ⟨_, h0⟩ | ⟨g', cp', cur', rfl, hg1, hg2, hg3, hg4, hg5, hg6⟩
  · omega
  refine ⟨g', cp', w', hrun, ?_⟩
  have hkeep : ∀ b, b < w.heap.size → some b ≠ v.ownBlock → w'.heap[b]? = w.heap[b]? := by
    intro b hb1 hb2
    rw [hgrow.block b (by simp; omega) hb2]
    show (w.heap.push _)[b]? = _
    rw [Array.getElem?_push_lt hb1, Array.getElem?_eq_getElem hb1]
  have hK1 : ∀ b, b ∈ K1 → b < w.heap.size := hels.live
  have hG2 : ∀ b, b ∈ G2 → b < w.heap.size := R.own_live hc
  have hK2 : ∀ b, b ∈ K2 → b < w.heap.size := hr.live
  -- none of the others is the old row
  have hne : ∀ b, b ∈ K1 ∨ b ∈ G2 ∨ b ∈ K2 → some b ≠ v.ownBlock := by
    intro b hb1 e
    rcases hG with ⟨rfl, hv⟩ | ⟨g, rfl, hv, _⟩
    · rw [hv] at e; cases e
    · rw [hv] at e
      obtain rfl := Option.some.inj e
      rw [List.cons_append] at n1
      have := (List.nodup_cons.1 n1).1
      simp only [List.mem_append] at this
      exact this hb1
  have hnew : ∀ b, b ∈ K1 ∨ b ∈ G2 ∨ b ∈ K2 → b ≠ g' := by
    intro b hb1 e
    subst e
    rcases hat with e | e
    · exact hne b hb1 (by rw [← e]; rfl)
    · simp [Value.ownBlock] at e
      rcases hb1 with h | h | h
      · have := hK1 b h; omega
      · have := hG2 b h; omega
      · have := hK2 b h; omega
  have hnd : (K1 ++ (G2 ++ K2)).Nodup := by
    rcases hG with ⟨rfl, _⟩ | ⟨g, rfl, _, _⟩
    · exact n1
    · exact (List.nodup_cons.1 (List.cons_append ▸ n1)).2
  have hge : ∀ b, b ∈ K1 ++ (G2 ++ K2) → w0.heap.size ≤ b := by
    intro b hb1
    rcases hG with ⟨rfl, _⟩ | ⟨g, rfl, _, _⟩
    · exact n2 b hb1
    · exact n2 b (by simp at hb1 ⊢; exact .inr hb1)
  refine ⟨?_, (g' :: (K1 ++ G2)) ++ K2, ⟨g' :: (K1 ++ G2), K2, rfl, ⟨by simpa using hlen, .inr ⟨g', cp', cur', K1 ++ G2, by simp, hg2, by simpa using hg3, hg4, by rw [hR]; exact hg5, rfl, ?_⟩⟩, hr.stay fun b hb1 => hkeep b (hK2 b hb1) (hne b (.inr (.inr hb1)))⟩, ?_, ?_⟩
  · refine ⟨hgrow.os.trans hbl.os, hgrow.tape.trans hbl.tape, hgrow.output.trans hbl.output, by have := hbl.size; have := hgrow.size; simp at this; omega, fun b hb1 => ?_⟩
    rw [← hbl.block b hb1]
    refine hkeep b (Nat.lt_of_lt_of_le hb1 hbl.size) ?_
    rcases hG with ⟨rfl, hv⟩ | ⟨g, rfl, hv, _⟩
    · rw [hv]; simp
    · rw [hv]; intro e; obtain rfl := Option.some.inj e; have := n2 b (by simp); omega
  · have q := (hels.stay (w' := w') fun b hb1 => hkeep b (hK1 b hb1) (hne b (.inl hb1))).snoc (c := c) (x := x) (G := G2) (by rw [hR]; exact hcells) (R.own_stay hc fun b hb1 => hkeep b (hG2 b hb1) (hne b (.inr (.inl hb1)))) (by rw [hR]; exact hcl)
    refine q.rest ?_
    rw [List.length_append, List.length_singleton, hR, ← hg6, List.take_take, Nat.min_self]
  · rw [List.cons_append, List.append_assoc]
    refine List.nodup_cons.2 ⟨fun hm => ?_, hnd⟩
    simp only [List.mem_append] at hm
    exact hnew g' hm rfl
  · intro b hb1
    rw [List.cons_append, List.append_assoc] at hb1
    rcases List.mem_cons.1 hb1 with rfl | hb1
    · exact hg1
    · exact hge b hb1
end

section
variable {P : Program} {w0 w : World} {r : List Ch} {α : Type} {R : Rep α}
theorem wp_append_st {o : Oper} {a : Act} {K : Act → World → Prop} {Q : Exit → Act → World → Prop} (s y : Operand) (t : TypeId)
    (ho : o.op = .call { callee := .builtin .append, args := #[s, y], argTypes := #[t, t] })
    {E : TypeId} {i : TypeInfo} {z : Value} {size bytes : Nat} (ht : P.underlying t = some (.slice E)) (hi : P.info? E = some i) (hz : i.zero = some z)
    (hsize : i.size = size) (hby : i.bytes = bytes) (hzs : z.cells.size = size) (hsz : 0 < size) (hR : R.size = size)
    (v : Value) (xs : List α) (c : List Value) (x : α) (h : St w0 w (Ch.own (rSlice E R) [v] xs :: Ch.own R c x :: r)) (hlen : xs.length + 1 ≤ lim) (hb : (xs.length + 1) * bytes ≤ 140737488355328) {cap : Nat}
    (hs : a.eval s = v) (hy : a.eval y = .slice (some ⟨w.heap.size, 0, none⟩) 1 cap)
    (hk : ∀ g cap' w', St w0 w' (Ch.own (rSlice E R) [.slice (some ⟨g, 0, none⟩) (xs.length + 1) cap'] (xs ++ [x]) :: r) → K (a.put o.dst (.slice (some ⟨g, 0, none⟩) (xs.length + 1) cap')) w') :
    o.wp P a (w.alloc (.cells c.toArray E)) K Q := by
  obtain ⟨g, cap', w', hrun, h2⟩ := h.append (ty := o.type) (cap := cap) ht hi hz hsize hby hzs hsz hR hlen hb
  unfold Oper.wp execOp
  simp only [ho, resolve, invoke, builtin, Sem.run_bind, Sem.run_pure, Result.andThen_ok, List.map_toArray, List.map_cons, List.map_nil, hs, hy, hrun]
  exact hk g cap' w' h2
/-- AT AN append OF ONE ELEMENT, FOR THE WALK. -/
theorem wpList_append_st {ops : Array Oper} {rest : List Oper} {o : Oper} {a : Act} {Q : Exit → Act → World → Prop} (hgd : o.guard = none) (s y : Operand) (t : TypeId)
    (ho : o.op = .call { callee := .builtin .append, args := #[s, y], argTypes := #[t, t] })
    {E : TypeId} {i : TypeInfo} {z : Value} {size bytes : Nat} (ht : P.underlying t = some (.slice E)) (hi : P.info? E = some i) (hz : i.zero = some z)
    (hsize : i.size = size) (hby : i.bytes = bytes) (hzs : z.cells.size = size) (hsz : 0 < size) (hR : R.size = size)
    (v : Value) (xs : List α) (c : List Value) (x : α) (h : St w0 w (Ch.own (rSlice E R) [v] xs :: Ch.own R c x :: r)) (hlen : xs.length + 1 ≤ lim) (hb : (xs.length + 1) * bytes ≤ 140737488355328) {cap : Nat}
    (hs : a.eval s = v) (hy : a.eval y = .slice (some ⟨w.heap.size, 0, none⟩) 1 cap)
    (hk : ∀ g cap' w', St w0 w' (Ch.own (rSlice E R) [.slice (some ⟨g, 0, none⟩) (xs.length + 1) cap'] (xs ++ [x]) :: r) → wpList P ops Q rest (a.put o.dst (.slice (some ⟨g, 0, none⟩) (xs.length + 1) cap')) w') :
    wpList P ops Q (o :: rest) a (w.alloc (.cells c.toArray E)) :=
  wpList_plain hgd fun K hK => wp_append_st s y t ho ht hi hz hsize hby hzs hsz hR v xs c x h hlen hb hs hy fun g cap' w' h2 => hK _ _ (hk g cap' w' h2)
/-- .. at a step of a region that draws its order. -/
theorem step_append_st {ops : Array Oper} {o : Oper} {a : Act} {K : Act → World → Prop} {Q : Exit → Act → World → Prop} {Z : Prop} (hgd : o.guard = none) (s y : Operand) (t : TypeId)
    (ho : o.op = .call { callee := .builtin .append, args := #[s, y], argTypes := #[t, t] })
    {E : TypeId} {i : TypeInfo} {z : Value} {size bytes : Nat} (ht : P.underlying t = some (.slice E)) (hi : P.info? E = some i) (hz : i.zero = some z)
    (hsize : i.size = size) (hby : i.bytes = bytes) (hzs : z.cells.size = size) (hsz : 0 < size) (hR : R.size = size)
    (v : Value) (xs : List α) (c : List Value) (x : α) (h : St w0 w (Ch.own (rSlice E R) [v] xs :: Ch.own R c x :: r)) (hlen : xs.length + 1 ≤ lim) (hb : (xs.length + 1) * bytes ≤ 140737488355328) {cap : Nat}
    (hs : a.eval s = v) (hy : a.eval y = .slice (some ⟨w.heap.size, 0, none⟩) 1 cap)
    (hk : ∀ g cap' w', St w0 w' (Ch.own (rSlice E R) [.slice (some ⟨g, 0, none⟩) (xs.length + 1) cap'] (xs ++ [x]) :: r) → K (a.put o.dst (.slice (some ⟨g, 0, none⟩) (xs.length + 1) cap')) w') :
    if Region.wanted o (yielded ops a.tmps) = true then Oper.wp P o a (w.alloc (.cells c.toArray E)) K Q else Z := by
  have hw : Region.wanted o (yielded ops a.tmps) = true := by simp [Region.wanted, hgd]
  rw [if_pos hw]
  exact wp_append_st s y t ho ht hi hz hsize hby hzs hsz hR v xs c x h hlen hb hs hy hk
end

/-! ### Small built slices -/
section
variable {w0 w : World} {r : List Ch} {α : Type} {R : Rep α} {g E : Nat}
theorem St.built0 (h : St w0 w (Ch.blk g [] E :: r)) : St w0 w (Ch.own (rSlice E R) [.slice (some ⟨g, 0, none⟩) 0 0] [] :: r) := by
  obtain ⟨hb, F, ⟨G, K, rfl, ⟨rfl, hg⟩, hr⟩, n1, n2⟩ := h
  exact ⟨hb, [g] ++ K, ⟨[g], K, rfl, ⟨by simp, .inr ⟨g, 0, #[], [], rfl, hg, by simp, by simp, by simp, rfl, rfl⟩⟩, hr⟩, n1, n2⟩
theorem St.built1 {c : List Value} {x : α} (hc : c.length = R.size) (h : St w0 w (Ch.blk g c E :: Ch.own R c x :: r)) : St w0 w (Ch.own (rSlice E R) [.slice (some ⟨g, 0, none⟩) 1 1] [x] :: r) := by
  obtain ⟨hb, F, ⟨G, K, rfl, ⟨rfl, hg⟩, G2, K2, rfl, hx, hr⟩, n1, n2⟩ := h
  refine ⟨hb, (g :: G2) ++ K2, ⟨g :: G2, K2, rfl, ⟨by simp [lim], .inr ⟨g, 1, c.toArray, G2, rfl, hg, by simp, by simp [maxLen], by simp [hc], rfl, ?_⟩⟩, hr⟩, by simpa using n1, fun b hb => n2 b (by simpa using hb)⟩
  exact ⟨c, [], G2, [], by simp, hc, by simp, hx, rfl⟩
end

/-! ### A map of the call's own, of plain elements -/
/-- Block b is a map of at most n entries that reads as D. -/
def Ch.map (P : Program) (k e : TypeId) (b n : Nat) (D : DataW Unit) : Ch :=
  ⟨fun w F => F = [b] ∧ w.ownsMap P k (plainElem P e) b n D,
   fun {w w' F} h hw => ⟨h.1, by
    obtain ⟨h1, es, clock, hb, h2⟩ := h
    exact ⟨es, clock, by rw [hw b (by rw [h1]; simp)]; exact hb, h2⟩⟩,
   fun {w F} h b' hb' => by rw [h.1] at hb'; simp at hb'; subst hb'; exact h.2.lt⟩
section
variable {P : Program} {w0 w w' : World} {r : List Ch} {k e b n m : Nat} {D D' : DataW Unit}
theorem St.map_made (h : St w0 w r) : St w0 (w.alloc (.map #[] 0)) (Ch.map P k e w.heap.size 0 (.map []) :: r) := by
  obtain ⟨hb, F, h1, h2, h3⟩ := h
  refine ⟨hb.alloc hb.size _, w.heap.size :: F, ⟨[w.heap.size], F, rfl, ⟨rfl, World.ownsMap_made _ _ _ _⟩, h1.stay fun b hb' => ?_⟩, List.nodup_cons.2 ⟨fun hm => ?_, h2⟩, fun b hb' => ?_⟩
  · have := h1.live b hb'
    show (w.heap.push _)[b]? = _
    rw [Array.getElem?_push_lt this, Array.getElem?_eq_getElem this]
  · have := h1.live _ hm; omega
  · rcases List.mem_cons.1 hb' with rfl | hb'
    · exact hb.size
    · exact h3 b hb'
theorem St.map_owns (h : St w0 w (Ch.map P k e b n D :: r)) : w.ownsMap P k (plainElem P e) b n D := by
  obtain ⟨hb, F, ⟨G, K, rfl, ⟨rfl, h1⟩, h2⟩, h3⟩ := h
  exact h1
theorem St.map_step (h : St w0 w (Ch.map P k e b n D :: r)) (ho : w'.ownsMap P k (plainElem P e) b m D') (hg : w.grownBy w' (some b)) : St w0 w' (Ch.map P k e b m D' :: r) := by
  obtain ⟨hb, F, ⟨G, K, rfl, ⟨rfl, h1⟩, h2⟩, h3, h4⟩ := h
  have hnb : b ∉ K := by simpa using (List.nodup_cons.1 h3).1
  refine ⟨⟨hg.os.trans hb.os, hg.tape.trans hb.tape, hg.output.trans hb.output, Nat.le_trans hb.size hg.size, fun i hi => ?_⟩, [b] ++ K, ⟨[b], K, rfl, ⟨rfl, ho⟩, h2.stay fun i hi => hg.block i (h2.live i hi) (fun e => hnb (Option.some.inj e ▸ hi))⟩, h3, h4⟩
  have hlt := h4 b (by simp)
  rw [← hb.block i hi]
  exact hg.block i (Nat.lt_of_lt_of_le hi hb.size) (fun e => by obtain rfl := Option.some.inj e; omega)
end

/-- The map that numbers the members of a list, each by its place. -/
def numMap (L : List Int) : DataW Unit := L.zipIdx.foldl (fun D p => D.put (.int .i64 p.1) (.lit (.int .i64 (p.2 : Nat)))) (.map [])
theorem numMap_snoc (L : List Int) (t : Int) : numMap (L ++ [t]) = (numMap L).put (.int .i64 t) (.lit (.int .i64 (L.length : Nat))) := by
  simp [numMap, List.zipIdx_append]
theorem list_snoc {α : Type} (p : List α → Prop) (h0 : p []) (h1 : ∀ l x, p l → p (l ++ [x])) : ∀ l, p l := by
  intro l
  rw [← List.reverse_reverse l]
  induction l.reverse with
  | nil => exact h0
  | cons x l ih => rw [List.reverse_cons]; exact h1 _ _ ih
theorem numMap_isMap (L : List Int) : Maps.IsMap (numMap L) := by
  refine list_snoc (fun L => Maps.IsMap (numMap L)) Maps.isMap_empty (fun l x h => ?_) L
  rw [numMap_snoc]; exact h.put _ _
/-- The place of the first t. -/
def pos {α : Type} [DecidableEq α] : List α → α → Option Nat
  | [], _ => none
  | x :: l, t => if x = t then some 0 else (pos l t).map (· + 1)
section
variable {α : Type} [DecidableEq α]
theorem pos_none {l : List α} {t : α} : pos l t = none ↔ t ∉ l := by
  induction l with
  | nil => simp [pos]
  | cons x l ih =>
    by_cases h : x = t
    · simp [pos, h]
    · simp [pos, h, ih, show ¬ t = x from fun e => h e.symm]
theorem pos_snoc (l : List α) (x t : α) : pos (l ++ [x]) t = match pos l t with | some n => some n | none => if x = t then some l.length else none := by
  induction l with
  | nil => simp [pos]
  | cons y l ih =>
    by_cases h : y = t
    · simp [pos, h]
    · simp only [List.cons_append, pos, if_neg h, ih]
      cases pos l t with
      | some n => simp
      | none => by_cases e : x = t <;> simp [e]
theorem pos_lt {l : List α} {t : α} {n : Nat} (h : pos l t = some n) : n < l.length ∧ l[n]? = some t := by
  induction l generalizing n with
  | nil => simp [pos] at h
  | cons y l ih =>
    by_cases e : y = t
    · simp [pos, e] at h; subst h; simp [e]
    · simp [pos, e] at h
      obtain ⟨m, hm, rfl⟩ := h
      have := ih hm
      simp; exact ⟨this.1, this.2⟩
/-- what a search from the head has not met yet -/
theorem pos_of_take {l : List α} {t : α} {k : Nat} (h : t ∉ l.take k) (hk : l[k]? = some t) : pos l t = some k := by
  induction l generalizing k with
  | nil => simp at hk
  | cons y l ih =>
    cases k with
    | zero => simp at hk; simp [pos, hk]
    | succ k =>
      simp at h hk
      rw [pos, if_neg (fun e => h.1 e.symm), ih h.2 hk]; rfl
end
theorem numMap_has (L : List Int) (t : Int) : Maps.has (numMap L) (.int .i64 t) = (pos L t).isSome := by
  refine list_snoc (fun L => Maps.has (numMap L) (.int .i64 t) = (pos L t).isSome) rfl (fun l x h => ?_) L
  rw [numMap_snoc, pos_snoc]
  by_cases e : x = t
  · subst e
    rw [Maps.has_put_same (numMap_isMap l) (by trivial)]
    cases pos l x <;> simp
  · rw [Maps.has_put_other (by simpa using fun h : t = x => e h.symm), h]
    cases pos l t <;> simp [e]
theorem numMap_at (L : List Int) (t : Int) (z : DataW Unit) (hn : L.Nodup) : (numMap L).atKey (.int .i64 t) z = match pos L t with | some n => .lit (.int .i64 (n : Nat)) | none => z := by
  revert hn
  refine list_snoc (fun L => L.Nodup → (numMap L).atKey (.int .i64 t) z = match pos L t with | some n => .lit (.int .i64 (n : Nat)) | none => z) (fun _ => rfl) (fun l x h hn => ?_) L
  have hn1 : l.Nodup := (List.nodup_append.1 hn).1
  have hx : x ∉ l := fun hm => (List.nodup_append.1 hn).2.2 x hm x (by simp) rfl
  rw [numMap_snoc, pos_snoc]
  by_cases e : x = t
  · subst e
    rw [Maps.atKey_put_same (numMap_isMap l) (by trivial), pos_none.2 hx]; simp
  · rw [Maps.atKey_put_other (by simpa using fun h : t = x => e h.symm), h hn1]
    cases pos l t <;> simp [e]

theorem bits_i64 (op : BinOp) (a b : Int) : I64 (bits op .i64 a b) := ⟨bits_lo_i64 op a b, bits_hi_i64 op a b⟩
/-- one flat element, laid down as a chunk -/
theorem St.flat {α : Type} {enc : α → Value} {ok : α → Prop} {h1 : ∀ a, (enc a).oneCell' = true} {w0 w : World} {cs : List Ch} {x : α} (hx : ok x) (h : St w0 w cs) : St w0 w (Ch.own (rFlat α enc ok h1) [enc x] x :: cs) := St.flat_join [] hx h
theorem St.int {w0 w : World} {cs : List Ch} {x : Int} (hx : I64 x) (h : St w0 w cs) : St w0 w (Ch.own rInt [.int .i64 x] x :: cs) := St.flat (enc := Value.int .i64) (ok := I64) hx h
theorem St.bool {w0 w : World} {cs : List Ch} {x : Bool} (h : St w0 w cs) : St w0 w (Ch.own rBool [.bool x] x :: cs) := St.flat (enc := Value.bool) (ok := fun _ => True) trivial h
theorem St.nilSlice {α : Type} {R : Rep α} {E : TypeId} {w0 w : World} {cs : List Ch} (h : St w0 w cs) : St w0 w (Ch.own (rSlice E R) [.slice none 0 0] [] :: cs) := by
  obtain ⟨hb, F, h1, h2, h3⟩ := h
  exact ⟨hb, F, ⟨[], F, rfl, ⟨by simp, .inl ⟨rfl, rfl, rfl⟩⟩, h1⟩, h2, h3⟩
/-- the elements of an owned slice of integers are integers of 64 bits -/
theorem St.ints {w0 w : World} {cs : List Ch} {E : TypeId} {v : List Value} {xs : List Int} (h : St w0 w (Ch.own (rSlice E rInt) v xs :: cs)) : ∀ x ∈ xs, I64 x := by
  intro x hx
  have hr := h.rd 0 rfl
  obtain ⟨ao, cap, b, off, hv, hl, hao, hc⟩ := flat_open (enc := Value.int .i64) (ok := I64) (h1 := fun _ => rfl) hr
  obtain ⟨k, hk, rfl⟩ := List.getElem_of_mem hx
  exact (hc k _ (List.getElem?_eq_getElem hk)).2
end Go.Proofs.Ytokiommgielfjaa
