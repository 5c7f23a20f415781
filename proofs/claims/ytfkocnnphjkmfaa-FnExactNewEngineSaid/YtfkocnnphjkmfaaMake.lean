/- Slices that are made: literals, make, append; stores into elements; calls; parts of slices. No program text is named here. -/
import Derived.Test.YtfkocnnphjkmfaaMemo
set_option linter.unusedVariables false
set_option linter.unusedSimpArgs false
set_option linter.unnecessarySimpa false
namespace Go.Proofs.Ytfkocnnphjkmfaa.D
open Go.RowKit

section
variable {P : Program} {I : Hp} {w0 w w' : World} {cs : List Ch} {o : Oper} {ev : Operand → Value} {α : Type} {R : Rep α} {E : TypeId}
/-! ### Literals -/
theorem set_run : ∀ (l : List Value) (k : Nat) (cells : Array Value), k + l.length ≤ cells.size → ((l.toArray.zipIdx).foldl (fun cs (c, j) => cs.setIfInBounds (k + j) c) cells).toList = cells.toList.take k ++ l ++ cells.toList.drop (k + l.length) := by
  intro l k cells h
  have key : ∀ (l : List Value) (i : Nat) (cells : Array Value), k + i + l.length ≤ cells.size → ((l.zipIdx i).foldl (fun cs (p : Value × Nat) => cs.setIfInBounds (k + p.2) p.1) cells).toList = cells.toList.take (k + i) ++ l ++ cells.toList.drop (k + i + l.length) := by
    intro l
    induction l with
    | nil => intro i cells h; simp
    | cons x l ih =>
      intro i cells h
      rw [List.length_cons] at h
      rw [List.zipIdx_cons, List.foldl_cons, ih (i + 1) _ (by rw [Array.size_setIfInBounds]; omega), Array.toList_setIfInBounds]
      have hs : cells.toList.length = cells.size := Array.length_toList
      have e1 : (cells.toList.set (k + i) x).take (k + i + 1) = cells.toList.take (k + i) ++ [x] := by
        rw [List.take_add_one, List.take_set_of_le (Nat.le_refl _), List.getElem?_set_self (by omega)]; rfl
      have e2 : (cells.toList.set (k + i) x).drop (k + (i + 1) + l.length) = cells.toList.drop (k + (i + 1) + l.length) := List.drop_set_of_lt (by omega)
      rw [e2, show k + (i + 1) = k + i + 1 from rfl, e1, List.length_cons, show k + i + (l.length + 1) = k + i + 1 + l.length from by omega]
      simp
  have := key l 0 cells (by omega)
  rw [← Array.foldl_toList]
  simpa [Nat.add_assoc] using this
theorem fill_ones (size : Nat) : ∀ (us : List (Value × List Value)) (k : Nat) (cells : Array Value), (∀ u ∈ us, u.1.cells = u.2.toArray ∧ u.2.length = size) → (k + us.length) * size ≤ cells.size →
    ∃ c, Instr.fill (fun i => some (i * size, size)) cells ((us.zipIdx k).map fun p => (p.2, p.1.1)) = some c ∧ c.toList = cells.toList.take (k * size) ++ us.flatMap (·.2) ++ cells.toList.drop ((k + us.length) * size)
  | [], k, cells, _, _ => ⟨cells, rfl, by simp⟩
  | (u, l) :: us, k, cells, h, hs => by
    obtain ⟨hu, hl⟩ := h (u, l) (by simp)
    simp only at hu hl
    rw [List.length_cons] at hs
    have hk : (k + 1 + us.length) * size ≤ cells.size := by rw [show k + 1 + us.length = k + (us.length + 1) from by omega]; exact hs
    have hk1 : (k + 1) * size ≤ cells.size := Nat.le_trans (Nat.mul_le_mul_right _ (by omega)) hk
    rw [Nat.add_mul, Nat.one_mul] at hk1
    have hr := set_run l (k * size) cells (by omega)
    have hsz : ((l.toArray.zipIdx).foldl (fun cs (p : Value × Nat) => cs.setIfInBounds (k * size + p.2) p.1) cells).size = cells.size := by
      rw [← Array.length_toList, hr]
      simp only [List.length_append, List.length_take, List.length_drop, Array.length_toList]; omega
    obtain ⟨c, c1, c2⟩ := fill_ones size us (k + 1) _ (fun u hu => h u (by simp [hu])) (by rw [hsz]; exact hk)
    refine ⟨c, ?_, ?_⟩
    · rw [List.zipIdx_cons, List.map_cons, Instr.fill]
      simp only [hu, List.size_toArray, hl, ne_eq, not_true_eq_false, decide_false, Bool.false_or]
      rw [if_neg (by simp; omega)]
      exact c1
    · rw [c2, hr]
      have e1 : (k + 1) * size = k * size + l.length := by rw [Nat.add_mul, Nat.one_mul, hl]
      have e2 : (k + 1 + us.length) * size = k * size + l.length + us.length * size := by rw [Nat.add_mul, e1]
      have e3 : (k + (us.length + 1)) * size = k * size + l.length + us.length * size := by rw [← e2]; congr 1; omega
      have htl : (cells.toList.take (k * size)).length = k * size := by rw [List.length_take, Array.length_toList]; omega
      rw [e1, e2, List.length_cons, e3, List.flatMap_cons]
      rw [List.append_assoc, List.append_assoc, List.append_assoc]
      rw [List.take_append, htl, List.take_of_length_le (by omega), Nat.add_sub_cancel_left, List.take_left]
      rw [List.drop_append, htl, List.drop_of_length_le (by rw [htl]; omega), List.drop_append, show k * size + l.length + us.length * size - k * size - l.length = us.length * size from by omega, List.drop_of_length_le (by omega), List.drop_drop]
      simp
theorem opT_lit0 {T : TypeId} (hT : P.underlying T = some (.slice E)) {agg : Bool} {n : Nat} (hE : TI P E agg n) (ho : o.op = .buildSlice T 0 #[]) : OpT P I w0 o ev [] (fun _ => True) (fun v => [Ch.own (rSlice E R) [v] []]) := by
  intro w C hs
  have hr : (execOp ev o).run P w = .ok (.value (.slice (some ⟨w.heap.size, 0, none⟩) 0 0)) (w.alloc (.cells #[] E)) := by
    simp [execOp, ho, Instr.buildSlice, run_underlying hT, hE.run_size, Instr.fill, newRow, Result.andThen]
    rw [show Array.map (fun x => (default : Value)) (Array.range 0) = #[] from Array.eq_empty_of_size_eq_zero (by simp)]
  rw [hr]
  refine ⟨trivial, ?_⟩
  obtain ⟨hb, hi, F, ⟨G, K, rfl, ⟨rfl, hg⟩, hr⟩, n1, n2⟩ := hs.alloc [] E
  exact ⟨hb, hi, [w.heap.size] ++ K, ⟨[w.heap.size], K, rfl, ⟨by simp, .inr ⟨w.heap.size, 0, #[], [], rfl, hg, by simp, by simp, by simp, rfl, rfl⟩⟩, hr⟩, n1, n2⟩
/-- the elements' chunks -/
def ownsOf (R : Rep α) : List (List Value) → List α → List Ch
  | c :: ls, x :: xs => Ch.own R c x :: ownsOf R ls xs
  | _, _ => []
theorem owns_els : ∀ {ls : List (List Value)} {xs : List α} {F}, ls.length = xs.length → Sep I (ownsOf R ls xs) w F → OwnEls R I w (ls.flatMap (fun l => l)) xs F
  | [], [], F, _, h => h
  | l :: ls, x :: xs, F, he, ⟨G, K, h1, h2, h3⟩ => ⟨l, ls.flatMap (fun l => l), G, K, by simp, R.own_len h2, h1, h2, owns_els (by simpa using he) h3⟩
  | [], _ :: _, F, he, h => by simp at he
  | _ :: _, [], F, he, h => by simp at he
theorem flat_len {n : Nat} : ∀ us : List (Value × List Value), (∀ u ∈ us, u.2.length = n) → (us.flatMap (·.2)).length = us.length * n
  | [], _ => by simp
  | u :: us, h => by rw [List.flatMap_cons, List.length_append, List.length_cons, Nat.add_mul, h u (by simp), flat_len us fun v hv => h v (by simp [hv])]; omega
theorem opT_lit {T : TypeId} {z : Value} {n b m : Nat} {parts : Array (Nat × Operand)} (us : List (Value × List Value)) (xs : List α) (hT : P.underlying T = some (.slice E)) (hE : TZ P E z n b) (hn : 0 < n) (hR : R.size = n) (hm : 0 < m) (hsm : m * n ≤ 16777216) (ho : o.op = .buildSlice T m parts) (hp : parts.toList.map (fun p => (p.1, ev p.2)) = (us.zipIdx 0).map fun p => (p.2, p.1.1)) (hl : us.length = m) (hx : xs.length = m)
    (hu : ∀ u ∈ us, u.1.cells = u.2.toArray ∧ u.2.length = n) : OpT P I w0 o ev (ownsOf R (us.map (·.2)) xs) (fun _ => True) (fun v => [Ch.own (rSlice E R) [v] xs]) := by
  intro w C hs
  obtain ⟨ie, hie, hz, h1, h2⟩ := info_parts hE
  have hsz : ((Array.range (m * n)).map (z.cells[· % z.cells.size]!)).size = m * n := by simp
  obtain ⟨c, c1, c2⟩ := fill_ones n us 0 ((Array.range (m * n)).map (z.cells[· % z.cells.size]!)) hu (by rw [hsz, Nat.zero_add, hl]; exact Nat.le_refl _)
  rw [Nat.zero_mul, List.take_zero, List.nil_append, Nat.zero_add, hl, List.drop_of_length_le (by rw [Array.length_toList, hsz]; exact Nat.le_refl _), List.append_nil] at c2
  have hmn : 0 < m * n := Nat.mul_pos hm hn
  have hr : (execOp ev o).run P w = .ok (.value (.slice (some ⟨w.heap.size, 0, none⟩) m m)) (w.alloc (.cells c E)) := by
    simp only [execOp, ho, Sem.run_bind]
    rw [run_buildSlice w T E m _ c ie z hT hie hz (by rw [h1]; omega) (by rw [h1]; omega) (by rw [h1, Array.toList_map]; rw [show (fun x : Nat × Operand => match x with | (i, x) => (i, ev x)) = fun p => (p.1, ev p.2) from rfl, hp]; exact c1)]
    rfl
  rw [hr]
  refine ⟨trivial, ?_⟩
  have hc : c = (us.flatMap (·.2)).toArray := by rw [← c2]
  rw [hc]
  obtain ⟨hb, hi, F, ⟨G, K, rfl, ⟨rfl, hg⟩, hr⟩, n1, n2⟩ := hs.alloc (us.flatMap (·.2)) E
  obtain ⟨F1, F2, rfl, k1, k2⟩ := hr.split
  refine ⟨hb, hi, (w.heap.size :: F1) ++ F2, ⟨w.heap.size :: F1, F2, rfl, ⟨by rw [hx]; unfold lim; have : m ≤ m * n := Nat.le_mul_of_pos_right _ hn; omega, .inr ⟨w.heap.size, m, _, F1, by rw [hx], hg, by omega, ?_, ?_, rfl, ?_⟩⟩, k2⟩, by simpa using n1, fun b hb => n2 b (by simpa using hb)⟩
  · unfold maxLen; have : m ≤ m * n := Nat.le_mul_of_pos_right _ hn; omega
  · rw [← hc, ← Array.length_toList, c2, hR]
    rw [flat_len us fun u h => (hu u h).2, hl]
  · have := owns_els (R := R) (I := I) (w := w.alloc (.cells (us.flatMap (·.2)).toArray E)) (ls := us.map (·.2)) (xs := xs) (by simp [hl, hx]) k1
    rw [List.flatMap_map] at this
    exact this

/-! ### append -/
theorem run_append_none {t ty e : TypeId} {i : TypeInfo} (ht : P.underlying t = some (.slice e)) (hi : P.info? e = some i) {ao : Option Addr} {n c : Nat} (hc : n ≤ c) {bo : Option Addr} {d : Nat} : (Builtin.append_ #[t, t] ty #[.slice ao n c, .slice bo 0 d]).run P w = .ok (.slice ao n c) w := by
  have hz : (Builtin.firstCells i.size 0 (.slice bo 0 d)).run P w = .ok #[] w := by
    cases bo <;> simp [Builtin.firstCells, loadCells, loadCellsFrom]
  simp [Builtin.append_, run_underlying ht, sizeOf, typeInfo, hi, Builtin.lenOf, hz, hc, Result.andThen]
  cases ao <;> simp [storeCells]
/-- the cells of a list's elements, all of one size -/
theorem rd_els {ccs : Array Value} {off : Nat} : ∀ {xs : List α}, (∀ i x, xs[i]? = some x → ∃ c : List Value, c.length = R.size ∧ (∀ j, j < R.size → ccs.toList[off + i * R.size + j]? = c[j]?) ∧ R.rd I c x) →
    ∃ news : List Value, news.length = xs.length * R.size ∧ (∀ j u, news[j]? = some u → ccs.toList[off + j]? = some u) ∧ (∀ u ∈ news, u.oneCell' = true) ∧ OwnEls (rFro R) I w news xs [] := by
  intro xs
  induction xs generalizing off with
  | nil => intro _; exact ⟨[], by simp, by simp, by simp, rfl⟩
  | cons x xs ih =>
    intro h
    obtain ⟨c, c1, c2, c3⟩ := h 0 x rfl
    obtain ⟨news, n1, n2, n3, n4⟩ := ih (off := off + R.size) fun i y hy => by
      obtain ⟨c, c1, c2, c3⟩ := h (i + 1) y (by simpa using hy)
      exact ⟨c, c1, fun j hj => by rw [← c2 j hj, Nat.add_mul]; congr 1; omega, c3⟩
    refine ⟨c ++ news, by rw [List.length_append, c1, n1, List.length_cons, Nat.add_mul]; omega, fun j u hj => ?_, fun u hu => ?_, ⟨c, news, [], [], rfl, c1, rfl, ⟨rfl, c3⟩, n4⟩⟩
    · by_cases hj' : j < c.length
      · rw [List.getElem?_append_left hj'] at hj
        have := c2 j (by omega)
        rw [Nat.zero_mul, Nat.add_zero] at this
        rw [this]; exact hj
      · rw [List.getElem?_append_right (by omega)] at hj
        have := n2 _ u hj
        rwa [show off + R.size + (j - c.length) = off + j from by omega] at this
    · rcases List.mem_append.1 hu with h | h
      · exact R.rd_one c3 u h
      · exact n3 u h
/-- the append itself: an owned row, and cells that lie somewhere -/
theorem St.append_cells {t ty : TypeId} {z : Value} {n b : Nat} (ht : P.underlying t = some (.slice E)) (hE : TZ P E z n b) (hzs : z.cells.size = n) (hn : 0 < n) (hR : R.size = n)
    {v : Value} {xs ys : List α} {news : List Value} {K2 : List Nat} {a : Addr} {cap : Nat} {C : List Ch} (hs : St I w0 w (Ch.own (rSlice E R) [v] xs :: C))
    (hsep : ∃ G F', (∃ F, (rSlice E R).own I w [v] xs G ∧ Sep I C w F ∧ F' = K2 ++ F ∧ (G ++ F').Nodup ∧ ∀ b, b ∈ G ++ F' → I b = none)) (hels : OwnEls R I w news ys K2)
    (hnews : ∀ j u, news[j]? = some u → w.cell? (a.add j) = some u) (hone : ∀ u ∈ news, u.oneCell' = true) (hl : news.length = ys.length * n) (hb : (xs.length + ys.length) * b ≤ 140737488355328) (hb1 : 1 ≤ b) :
    ∃ v' w', (Builtin.append_ #[t, t] ty #[v, .slice (some a) ys.length cap]).run P w = .ok v' w' ∧ St I w0 w' (Ch.own (rSlice E R) [v'] (xs ++ ys) :: C) := by
  obtain ⟨i, hi, hz, hsize, hby⟩ := info_parts hE
  obtain ⟨G, F', F, ⟨hlx, hown⟩, hC, rfl, hnd, hI⟩ := hsep
  have hlen : xs.length + ys.length ≤ 140737488355328 := Nat.le_trans (Nat.le_mul_of_pos_right _ hb1) hb
  have old : ∃ K1 cells, w.ownsRow 0 E n v xs.length cells ∧ OwnEls R I w cells xs K1 ∧ cells.length = xs.length * n ∧
      ((G = K1 ∧ v.ownBlock = none) ∨ ∃ g, G = g :: K1 ∧ v.ownBlock = some g ∧ g < w.heap.size) := by
    rcases hown with ⟨hv, rfl, rfl⟩ | ⟨g, cp, cur, K1, hv, hg, h3, h4, h5, rfl, h6⟩
    · obtain rfl : v = .slice none 0 0 := by simpa using hv
      exact ⟨[], [], World.ownsRow_nil w _ E n, rfl, by simp, .inl ⟨rfl, rfl⟩⟩
    · obtain rfl : v = .slice (some ⟨g, 0, none⟩) xs.length cp := by simpa using hv
      have hlt := (Array.getElem?_eq_some_iff.1 hg).1
      rw [hR] at h5
      have hfit : xs.length * n ≤ cur.size := by rw [h5]; exact Nat.mul_le_mul_right _ h3
      have htl : (cur.toList.take (xs.length * n)).length = xs.length * n := by rw [List.length_take, Array.length_toList]; exact Nat.min_eq_left hfit
      exact ⟨K1, cur.toList.take (xs.length * n), ⟨htl, .inr ⟨g, cp, cur, rfl, by omega, hg, h3, h4, h5, rfl⟩⟩, h6.rest (by rw [hR, List.take_take, Nat.min_self]), htl, .inr ⟨g, rfl, rfl, hlt⟩⟩
  obtain ⟨K1, cells, hrow, hxs, hcells, hG⟩ := old
  obtain ⟨v', w', hrun, hrow', hgrow, hnil, hat⟩ := run_append_own_at (P := P) (w := w) 0 t ty E i z n b ht hi hz hsize hby hzs hn v xs.length cells hrow a ys.length cap news hl hnews hone
    (by unfold maxLen; omega) hb (by omega)
  refine ⟨v', w', hrun, ?_⟩
  obtain ⟨⟨b1, b2, b3, b4⟩, hle, -⟩ := hs
  have hlt : ∀ b o, I b = some o → b < w.heap.size := fun b o hb => (Array.getElem?_eq_some_iff.1 (hle b o hb)).1
  have hK1 : ∀ b, b ∈ K1 → b < w.heap.size := hxs.live
  have hK2 : ∀ b, b ∈ K2 → b < w.heap.size := hels.live
  have hF : ∀ b, b ∈ F → b < w.heap.size := hC.live
  have hne : ∀ b, b ∈ K1 ∨ b ∈ K2 ∨ b ∈ F → some b ≠ v.ownBlock := by
    intro b hb1 e
    rcases hG with ⟨rfl, hv⟩ | ⟨g, rfl, hv, _⟩
    · rw [hv] at e; cases e
    · rw [hv] at e
      obtain rfl := Option.some.inj e
      rw [List.cons_append] at hnd
      have := (List.nodup_cons.1 hnd).1
      simp only [List.mem_append] at this
      exact this hb1
  have hIne : ∀ b o, I b = some o → some b ≠ v.ownBlock := by
    intro b o hb e
    rcases hG with ⟨rfl, hv⟩ | ⟨g, rfl, hv, _⟩
    · rw [hv] at e; cases e
    · rw [hv] at e
      obtain rfl := Option.some.inj e
      rw [hI b (by simp)] at hb; cases hb
  have hkeep : ∀ b, b < w.heap.size → some b ≠ v.ownBlock → w'.heap[b]? = w.heap[b]? := fun b h1 h2 => hgrow.block b h1 h2
  have hnd' : (K1 ++ (K2 ++ F)).Nodup := by
    rcases hG with ⟨rfl, _⟩ | ⟨g, rfl, _, _⟩
    · exact hnd
    · exact (List.nodup_cons.1 (List.cons_append ▸ hnd)).2
  have hI' : ∀ b, b ∈ K1 ++ (K2 ++ F) → I b = none := by
    intro b hb
    rcases hG with ⟨rfl, _⟩ | ⟨g, rfl, _, _⟩
    · exact hI b hb
    · exact hI b (List.mem_cons_of_mem _ hb)
  have hxs' : OwnEls R I w' cells xs K1 := hxs.stay fun b hb => hkeep b (hK1 b hb) (hne b (.inl hb))
  have hys' : OwnEls R I w' news ys K2 := hels.stay fun b hb => hkeep b (hK2 b hb) (hne b (.inr (.inl hb)))
  have hj := hxs'.join (by rw [hR]; exact hcells) hys'
  have hC' : Sep I C w' F := hC.stay fun b hb => hkeep b (hF b hb) (hne b (.inr (.inr hb)))
  obtain ⟨hr1, hr2⟩ := hrow'
  refine ⟨⟨hgrow.os.trans b1, hgrow.tape.trans b2, hgrow.output.trans b3, Nat.le_trans b4 hgrow.size⟩, fun b o hb => ?_, ?_⟩
  · show w'.heap[b]? = some o
    rw [hkeep b (hlt b o hb) (hIne b o hb)]; exact hle b o hb
  rcases hr2 with ⟨rfl, h0⟩ | ⟨g', cp', cur', rfl, hg1, hg2, hg3, hg4, hg5, hg6⟩
  · have hx0 : xs = [] := List.eq_nil_of_length_eq_zero (by omega)
    have hy0 : ys = [] := List.eq_nil_of_length_eq_zero (by omega)
    subst hx0; subst hy0
    have e1 : K1 = [] := hxs
    have e2 : K2 = [] := hels
    subst e1; subst e2
    exact ⟨F, ⟨[], F, rfl, ⟨by simp, .inl ⟨rfl, rfl, rfl⟩⟩, hC'⟩, by simpa using hnd', fun b hb => hI' b (by simpa using hb)⟩
  · have hnew : ∀ b, b ∈ K1 ++ (K2 ++ F) → b ≠ g' := by
      intro b hb e
      subst e
      have hb' : b ∈ K1 ∨ b ∈ K2 ∨ b ∈ F := by simpa using hb
      rcases hat with e | e
      · exact hne b hb' (by rw [← e]; rfl)
      · simp [Value.ownBlock] at e
        rcases hb' with h | h | h
        · have := hK1 b h; omega
        · have := hK2 b h; omega
        · have := hF b h; omega
    refine ⟨(g' :: (K1 ++ K2)) ++ F, ⟨g' :: (K1 ++ K2), F, rfl, ⟨by rw [List.length_append]; unfold lim; omega, .inr ⟨g', cp', cur', K1 ++ K2, by rw [List.length_append], hg2, by rw [List.length_append]; exact hg3, hg4, by rw [hR]; exact hg5, rfl, hj.rest ?_⟩⟩, hC'⟩, ?_, fun b hb => ?_⟩
    · rw [List.length_append, hR, ← hg6, List.take_take, Nat.min_self]
    · rw [List.cons_append, List.append_assoc]
      exact List.nodup_cons.2 ⟨fun hm => hnew g' hm rfl, hnd'⟩
    · rw [List.cons_append, List.append_assoc] at hb
      rcases List.mem_cons.1 hb with rfl | hb
      · cases hIb : I b with
        | none => rfl
        | some o =>
          rcases hat with e | e
          · exact absurd (by rw [← e]; rfl) (hIne b o hIb)
          · simp [Value.ownBlock] at e
            have := hlt b o hIb; omega
      · exact hI' b hb

/-- data that may be held as R where it is read by S -/
def Cpy (S R : Rep α) : Prop := ∀ {I w c a}, S.rd I c a → R.own I w c a []
theorem cpy_flat {enc : α → Value} {h1 : ∀ a, (enc a).oneCell' = true} : Cpy (rFlat α enc h1) (rFlat α enc h1) := fun h => ⟨rfl, h⟩
theorem cpy_int : Cpy rInt rInt := cpy_flat
theorem cpy_bool : Cpy rBool rBool := cpy_flat
theorem cpy_str : Cpy rStr rStr := cpy_flat
theorem cpy_fro {R : Rep α} : Cpy R (rFro R) := fun h => ⟨rfl, h⟩
theorem cpy_fro2 {R : Rep α} : Cpy (rFro R) (rFro R) := fun h => ⟨rfl, h⟩
theorem cpy_prod {α β : Type} {A A' : Rep α} {B B' : Rep β} (h : Cpy A A') (k : Cpy B B') : Cpy (rProd A B) (rProd A' B') := by
  rintro I w c a ⟨d, e, rfl, h1, h2⟩
  exact ⟨d, e, [], [], rfl, rfl, h h1, k h2⟩
theorem St.free {R : Rep α} {c : List Value} {x : α} (h : St I w0 w cs) (hx : R.own I w c x []) : St I w0 w (Ch.own R c x :: cs) := by
  obtain ⟨hb, hi, F, h1, h2, h3⟩ := h
  exact ⟨hb, hi, F, ⟨[], F, rfl, hx, h1⟩, h2, h3⟩
theorem St.frees {R : Rep α} : ∀ {ls : List (List Value)} {xs : List α}, St I w0 w cs → (∀ p, p ∈ ls.zip xs → R.own I w p.1 p.2 []) → St I w0 w (ownsOf R ls xs ++ cs)
  | [], _, h, _ => h
  | _ :: _, [], h, _ => h
  | c :: ls, x :: xs, h, hx => (St.frees h fun p hp => hx p (by simp [hp])).free (hx (c, x) (by simp))
theorem opT_lit_cpy {S : Rep α} {T : TypeId} {z : Value} {n b m : Nat} {parts : Array (Nat × Operand)} (us : List (Value × List Value)) (xs : List α) (hc : Cpy S R) (hr : ∀ p, p ∈ (us.map (·.2)).zip xs → S.rd I p.1 p.2) (hT : P.underlying T = some (.slice E)) (hE : TZ P E z n b) (hn : 0 < n) (hR : R.size = n) (hm : 0 < m) (hsm : m * n ≤ 16777216) (ho : o.op = .buildSlice T m parts) (hp : parts.toList.map (fun p => (p.1, ev p.2)) = (us.zipIdx 0).map fun p => (p.2, p.1.1)) (hl : us.length = m) (hx : xs.length = m)
    (hu : ∀ u ∈ us, u.1.cells = u.2.toArray ∧ u.2.length = n) : OpT P I w0 o ev [] (fun _ => True) (fun v => [Ch.own (rSlice E R) [v] xs]) := by
  intro w C hs
  exact opT_lit (R := R) us xs hT hE hn hR hm hsm ho hp hl hx hu w C (St.frees hs fun p hp => hc (hr p hp))
theorem run_call_append {T : TypeId} {x y : Operand} {s u v : Value} (ho : o.op = .call { callee := .builtin .append, args := #[x, y], argTypes := #[T, T] }) (hx : ev x = s) (hy : ev y = u) (hr : (Builtin.append_ #[T, T] o.type #[s, u]).run P w = .ok v w') : (execOp ev o).run P w = .ok (.value v) w' := by
  simp only [execOp, ho, resolve, invoke, builtin, Sem.run_bind, Sem.run_pure, Result.andThen_ok, List.map_toArray, List.map_cons, List.map_nil, hx, hy, hr]
/-- what is appended is the function's own, and is used up -/
theorem opT_append {T : TypeId} {z : Value} {n b : Nat} {x y : Operand} {s u : Value} {xs ys : List α} (hT : P.underlying T = some (.slice E)) (hE : TZ P E z n b) (hzs : z.cells.size = n) (hn : 0 < n) (hR : R.size = n) (hb1 : 1 ≤ b) (ho : o.op = .call { callee := .builtin .append, args := #[x, y], argTypes := #[T, T] }) (hx : ev x = s) (hy : ev y = u) (hb : (xs.length + ys.length) * b ≤ 140737488355328) :
    OpT P I w0 o ev [Ch.own (rSlice E R) [s] xs, Ch.own (rSlice E R) [u] ys] (fun _ => True) (fun v => [Ch.own (rSlice E R) [v] (xs ++ ys)]) := by
  intro w C hs
  have hs0 := hs
  obtain ⟨hb0, hi, F, ⟨G, K, rfl, e1, K1, K2, rfl, ⟨hly, e2⟩, e3⟩, hnd, hI⟩ := hs
  have hst : St I w0 w (Ch.own (rSlice E R) [s] xs :: C) := (hs0.perm (List.Perm.swap _ _ _)).tail
  rcases e2 with ⟨hv, rfl, rfl⟩ | ⟨g, cap, cur, K3, hv, k1, k2, k3, k4, rfl, k5⟩
  · obtain rfl : u = .slice none 0 0 := by simpa using hv
    obtain ⟨i, hi', hz, hsize, hby⟩ := info_parts hE
    have hrun : (Builtin.append_ #[T, T] o.type #[s, .slice none 0 0]).run P w = .ok s w := by
      rcases e1.2 with ⟨hs1, _⟩ | ⟨g, cap, cur, K, hs1, _, h3, _⟩
      · obtain rfl : s = .slice none 0 0 := by simpa using hs1
        exact run_append_none hT hi' (Nat.le_refl _)
      · obtain rfl : s = .slice (some ⟨g, 0, none⟩) xs.length cap := by simpa using hs1
        exact run_append_none hT hi' h3
    rw [run_call_append ho hx hy hrun]
    refine ⟨trivial, ?_⟩
    rw [List.append_nil]; exact hst
  · obtain rfl : u = .slice (some ⟨g, 0, none⟩) ys.length cap := by simpa using hv
    have hfit : ys.length * n ≤ cur.size := by rw [k4, hR]; exact Nat.mul_le_mul_right _ k2
    have hln : cur.toList.length = cur.size := Array.length_toList
    have hlen : (cur.toList.take (ys.length * n)).length = ys.length * n := by rw [List.length_take]; omega
    have hels : OwnEls R I w (cur.toList.take (ys.length * n)) ys K3 := k5.rest (by rw [hR, List.take_take, Nat.min_self])
    have hone : ∀ v ∈ cur.toList.take (ys.length * n), v.oneCell' = true := by
      have : ∀ {ys : List α} {l : List Value} {F}, OwnEls R I w l ys F → ∀ v ∈ l.take (ys.length * R.size), v.oneCell' = true := by
        intro ys
        induction ys with
        | nil => intro l F _ v hv; simp at hv
        | cons y ys ih =>
          rintro l F ⟨c, rest, G, K, rfl, h2, h3, h4, h5⟩ v hv
          rw [List.length_cons, Nat.add_mul, Nat.one_mul, Nat.add_comm, List.take_append, List.take_of_length_le (by omega), h2, Nat.add_sub_cancel_left] at hv
          rcases List.mem_append.1 hv with h | h
          · exact R.own_one h4 v h
          · exact ih h5 v h
      have := this k5
      rwa [hR] at this
    have hnd1 : (G ++ (K3 ++ K2)).Nodup := by
      rw [List.cons_append] at hnd
      exact hnd.sublist (List.Sublist.append_left (List.sublist_cons_self _ _) _)
    obtain ⟨v', w', hrun, hst'⟩ := St.append_cells (ty := o.type) hT hE hzs hn hR (a := ⟨g, 0, none⟩) (cap := cap) (K2 := K3) (ys := ys) (news := cur.toList.take (ys.length * n)) hst
      ⟨G, K3 ++ K2, K2, e1, e3, rfl, hnd1, fun b hb => hI b (by rcases List.mem_append.1 hb with h | h; exact List.mem_append_left _ h; exact List.mem_append_right _ (by rw [List.cons_append]; exact List.mem_cons_of_mem _ h))⟩
      hels (fun j u hj => by
        rw [Addr.add_mid, Nat.zero_add]
        rw [List.getElem?_take] at hj
        split at hj
        · simp only [World.cell?, k1]; simpa using hj
        · cases hj) hone hlen hb hb1
    rw [run_call_append ho hx hy hrun]
    exact ⟨trivial, hst'⟩
/-- what is appended lies frozen -/
theorem opT_append_fro {S : Rep α} {E' T : TypeId} {z : Value} {n b : Nat} {x y : Operand} {s u : Value} {xs ys : List α} (hc : Cpy S R) (hSz : S.size = n) (hr : (rSlice E' S).rd I [u] ys) (hT : P.underlying T = some (.slice E)) (hE : TZ P E z n b) (hzs : z.cells.size = n) (hn : 0 < n) (hR : R.size = n) (hb1 : 1 ≤ b) (ho : o.op = .call { callee := .builtin .append, args := #[x, y], argTypes := #[T, T] }) (hx : ev x = s) (hy : ev y = u) (hb : (xs.length + ys.length) * b ≤ 140737488355328) :
    OpT P I w0 o ev [Ch.own (rSlice E R) [s] xs] (fun _ => True) (fun v => [Ch.own (rSlice E R) [v] (xs ++ ys)]) := by
  intro w C hs
  have hs0 := hs
  obtain ⟨hb0, hi, F, ⟨G, K, rfl, e1, e3⟩, hnd, hI⟩ := hs
  obtain ⟨ao, cap, hv, hl, h⟩ := hr
  obtain rfl : u = .slice ao ys.length cap := by simpa using hv
  rcases h with rfl | ⟨g, off, ccs, t, fr, rfl, hg, hel⟩
  · obtain ⟨i, hi', hz, hsize, hby⟩ := info_parts hE
    have hrun : (Builtin.append_ #[T, T] o.type #[s, .slice ao 0 cap]).run P w = .ok s w := by
      rcases e1.2 with ⟨hs1, _⟩ | ⟨g, cap, cur, K, hs1, _, h3, _⟩
      · obtain rfl : s = .slice none 0 0 := by simpa using hs1
        exact run_append_none hT hi' (Nat.le_refl _)
      · obtain rfl : s = .slice (some ⟨g, 0, none⟩) xs.length cap := by simpa using hs1
        exact run_append_none hT hi' h3
    rw [run_call_append ho hx hy hrun]
    refine ⟨trivial, ?_⟩
    rw [List.append_nil]; exact hs0
  · obtain ⟨news, n1, n2, n3, n4⟩ := rd_els (R := S) (I := I) (w := w) hel
    have n4' : OwnEls R I w news ys [] := by
      have : ∀ {ys : List α} {l : List Value}, OwnEls (rFro S) I w l ys [] → OwnEls R I w l ys [] := by
        intro ys
        induction ys with
        | nil => intro l h; exact h
        | cons y ys ih =>
          rintro l ⟨c, rest, G, K, h1, h2, h3, ⟨rfl, h4⟩, h5⟩
          have : K = [] := by simpa using h3.symm
          subst this
          exact ⟨c, rest, [], [], h1, by rw [hR, ← hSz]; exact h2, rfl, hc h4, ih h5⟩
      exact this n4
    have hw : w.heap[g]? = some (.cells ccs t fr) := hi g _ hg
    obtain ⟨v', w', hrun, hst'⟩ := St.append_cells (ty := o.type) hT hE hzs hn hR (a := ⟨g, off, none⟩) (cap := cap) (K2 := []) (ys := ys) (news := news) hs0
      ⟨G, K, K, e1, e3, rfl, hnd, hI⟩ n4' (fun j u hj => by
        rw [Addr.add_mid]
        have := n2 j u hj
        simp only [World.cell?, hw]; simpa using this) n3 (by rw [n1, hSz]) hb hb1
    rw [run_call_append ho hx hy hrun]
    exact ⟨trivial, hst'⟩
/-- what is appended is the function's own, and stays -/
theorem opT_append_keep {T : TypeId} {z : Value} {n b : Nat} {x y : Operand} {s u : Value} {xs ys : List α} (hSh : R.Sh) (hc : Cpy R R) (hT : P.underlying T = some (.slice E)) (hE : TZ P E z n b) (hzs : z.cells.size = n) (hn : 0 < n) (hR : R.size = n) (hb1 : 1 ≤ b) (ho : o.op = .call { callee := .builtin .append, args := #[x, y], argTypes := #[T, T] }) (hx : ev x = s) (hy : ev y = u) (hb : (xs.length + ys.length) * b ≤ 140737488355328) :
    OpT P I w0 o ev [Ch.own (rSlice E R) [s] xs, Ch.own (rSlice E R) [u] ys] (fun _ => True) (fun v => [Ch.own (rSlice E R) [v] (xs ++ ys), Ch.own (rSlice E R) [u] ys]) := by
  intro w C hs
  have hs0 := hs
  obtain ⟨hb0, hi, F, ⟨G, K, rfl, e1, K1, K2, rfl, e2', e3⟩, hnd, hI⟩ := hs
  obtain ⟨hly, e2⟩ := e2'
  rcases e2 with ⟨hv, rfl, rfl⟩ | ⟨g, cap, cur, K3, hv, k1, k2, k3, k4, rfl, k5⟩
  · obtain rfl : u = .slice none 0 0 := by simpa using hv
    obtain ⟨i, hi', hz, hsize, hby⟩ := info_parts hE
    have hrun : (Builtin.append_ #[T, T] o.type #[s, .slice none 0 0]).run P w = .ok s w := by
      rcases e1.2 with ⟨hs1, _⟩ | ⟨g, cap, cur, K, hs1, _, h3, _⟩
      · obtain rfl : s = .slice none 0 0 := by simpa using hs1
        exact run_append_none hT hi' (Nat.le_refl _)
      · obtain rfl : s = .slice (some ⟨g, 0, none⟩) xs.length cap := by simpa using hs1
        exact run_append_none hT hi' h3
    rw [run_call_append ho hx hy hrun]
    refine ⟨trivial, ?_⟩
    rw [List.append_nil]; exact hs0
  · obtain rfl : u = .slice (some ⟨g, 0, none⟩) ys.length cap := by simpa using hv
    have := k5.sh hSh
    subst this
    have hfit : ys.length * n ≤ cur.size := by rw [k4, hR]; exact Nat.mul_le_mul_right _ k2
    have hln : cur.toList.length = cur.size := Array.length_toList
    have hlen : (cur.toList.take (ys.length * n)).length = ys.length * n := by rw [List.length_take]; omega
    have hels : OwnEls R I w (cur.toList.take (ys.length * n)) ys [] := k5.rest (by rw [hR, List.take_take, Nat.min_self])
    have hone : ∀ v ∈ cur.toList.take (ys.length * n), v.oneCell' = true := by
      have : ∀ {ys : List α} {l : List Value} {F}, OwnEls R I w l ys F → ∀ v ∈ l.take (ys.length * R.size), v.oneCell' = true := by
        intro ys
        induction ys with
        | nil => intro l F _ v hv; simp at hv
        | cons y ys ih =>
          rintro l F ⟨c, rest, G, K, rfl, h2, h3, h4, h5⟩ v hv
          rw [List.length_cons, Nat.add_mul, Nat.one_mul, Nat.add_comm, List.take_append, List.take_of_length_le (by omega), h2, Nat.add_sub_cancel_left] at hv
          rcases List.mem_append.1 hv with h | h
          · exact R.own_one h4 v h
          · exact ih h5 v h
      have := this k5
      rwa [hR] at this
    obtain ⟨v', w', hrun, hst'⟩ := St.append_cells (ty := o.type) hT hE hzs hn hR (a := ⟨g, 0, none⟩) (cap := cap) (K2 := []) (ys := ys) (news := cur.toList.take (ys.length * n)) hs0
      ⟨G, [g] ++ K2, [g] ++ K2, e1, ⟨[g], K2, rfl, ⟨hly, .inr ⟨g, cap, cur, [], hv, k1, k2, k3, k4, rfl, k5⟩⟩, e3⟩, rfl, hnd, hI⟩
      hels (fun j u hj => by
        rw [Addr.add_mid, Nat.zero_add]
        rw [List.getElem?_take] at hj
        split at hj
        · simp only [World.cell?, k1]; simpa using hj
        · cases hj) hone hlen hb hb1
    rw [run_call_append ho hx hy hrun]
    exact ⟨trivial, hst'⟩
end
end Go.Proofs.Ytfkocnnphjkmfaa.D
