/- Loads, stores and parts taken out, of memory of the function's own: laws. No program text is named here. -/
import Derived.Test.YtfkocnnphjkmfaaRD
set_option linter.unusedVariables false
set_option linter.unusedSimpArgs false
set_option linter.unnecessarySimpa false
set_option linter.unusedSectionVars false
namespace Go.Proofs.Ytfkocnnphjkmfaa.R
open Go.RowKit
open Go.Proofs.Ytfkocnnphjkmfaa.D

section
variable {P : Program} {I J : Hp} {w0 w w' : World} {C : List Ch} {o : Oper} {ev : Operand → Value} {α β : Type} {R : Rep α} {S : Rep β} {E T : TypeId}
/-- an element of an owned row, and the rest -/
theorem own_row_cut {v : Value} {xs : List α} {i : Nat} {x : α} {F : List Nat} (h : (rSlice E R).own I w [v] xs F) (hx : xs[i]? = some x) :
    ∃ g cap cur K1 K3 c1 cell c3 G, v = .slice (some ⟨g, 0, none⟩) xs.length cap ∧ xs.length ≤ lim ∧ w.heap[g]? = some (.cells cur E (0, 0)) ∧ xs.length ≤ cap ∧ cap ≤ maxLen ∧ cur.size = cap * R.size ∧ F = g :: (K1 ++ (G ++ K3)) ∧
      cur.toList = c1 ++ (cell ++ c3) ∧ c1.length = i * R.size ∧ cell.length = R.size ∧ OwnEls R I w c1 (xs.take i) K1 ∧ R.own I w cell x G ∧ OwnEls R I w c3 (xs.drop (i + 1)) K3 := by
  have hlt := (List.getElem?_eq_some_iff.1 hx).1
  obtain ⟨hl, ⟨-, rfl, -⟩ | ⟨g, cap, cur, K, hv, k1, k2, k3, k4, rfl, k5⟩⟩ := h
  · simp at hlt
  obtain rfl : v = .slice (some ⟨g, 0, none⟩) xs.length cap := by simpa using hv
  have e : xs = xs.take i ++ (x :: xs.drop (i + 1)) := by
    have := (List.getElem?_eq_some_iff.1 hx).2
    rw [← this, ← List.drop_eq_getElem_cons hlt, List.take_append_drop]
  rw [e] at k5
  obtain ⟨c1, c2, K1, K2, f1, f2, rfl, f4, cells, c3, G, K3, rfl, f6, rfl, f8, f9⟩ := k5.cut2
  have hi : (xs.take i).length = i := by rw [List.length_take]; omega
  rw [hi] at f2
  exact ⟨g, cap, cur, K1, K3, c1, cells, c3, G, rfl, hl, k1, k2, k3, k4, rfl, f1, f2, f6, f4, f8, f9⟩
/-- a load of a part that holds nothing of its own -/
theorem opT_load_part {off n k : Nat} {f : α → β} {u : α → β → α} {x : Operand} {v : Value} {xs : List α} {a : α} {i : Int} {agg : Bool} (hS : S.Sh) (ha : getI xs i = some a) (hf : Lens R off S f u) (hT : TI P T agg n) (hSn : S.size = n) (hn : (agg || n == 1) = true) (ho : o.op = .load T x) (hx : ev x = pt v (i.toNat * k + off)) (hk : R.size = k) :
    OpT P I w0 o ev [Ch.own (rSlice E R) [v] xs] (fun u => ∃ d, S.rd I d (f a) ∧ Lds agg d u) (fun _ => [Ch.own (rSlice E R) [v] xs]) := by
  intro w C hs
  obtain ⟨hb, hi, F, ⟨G, K, rfl, e2, e3⟩, h2, h3⟩ := id hs
  obtain ⟨g, cap, cur, K1, K3, c1, cell, c3, G1, rfl, hl, k1, k2, k3, k4, rfl, f1, f2, f3, -, f5, -⟩ := own_row_cut e2 (getI_at ha)
  obtain ⟨d, G2, K2, p, e1, e4, -⟩ := hf I w cell a G1 f5
  obtain ⟨-, d2⟩ := hS e4
  have hdl : d.length = n := (S.rd_len d2).trans hSn
  obtain ⟨u, hr, hu⟩ := run_ld (P := P) (w := w) (b := g) (off := 0 + (i.toNat * k + off)) hT hdl (fun e => by subst e; simpa using hn) (fun j u hj => by
    rw [← e1, List.getElem?_take] at hj
    split at hj
    · rw [List.getElem?_drop] at hj
      have hlt := (List.getElem?_eq_some_iff.1 hj).1
      simp only [World.cell?, k1]
      rw [← Array.getElem?_toList, f1, List.getElem?_append_right (by rw [f2, hk]; omega), List.getElem?_append_left (by rw [f2, hk]; omega), f2, hk]
      rw [show 0 + (i.toNat * k + off) + j - i.toNat * k = off + j from by omega]; exact hj
    · cases hj)
  simp only [execOp, ho, hx, pt, ptB, ptO, Sem.run_bind, hr, Result.andThen_ok]
  exact ⟨⟨d, d2, hu⟩, hs⟩
/-- the row without the part, once the element is cut open -/
theorem gap_of {off : Nat} {u : α → β → α} {xs : List α} {i : Nat} {a : α} {g cap : Nat} {cur : Array Value} {K1 K2 K3 : List Nat} {c1 cell c3 : List Value} {v0 : Value}
    (hlt : i < xs.length) (hl : xs.length ≤ lim) (k1 : w.heap[g]? = some (.cells cur E (0, 0))) (k2 : xs.length ≤ cap) (k3 : cap ≤ maxLen) (k4 : cur.size = cap * R.size) (f1 : cur.toList = c1 ++ (cell ++ c3)) (f2 : c1.length = i * R.size) (f3 : cell.length = R.size)
    (f4 : OwnEls R I w c1 (xs.take i) K1) (f6 : OwnEls R I w c3 (xs.drop (i + 1)) K3) (hv : cell[off]? = some v0) (hne : ∀ b, b ∈ K1 ++ (K2 ++ K3) → b ≠ g) (hlv : ∀ b, b ∈ K2 → b < w.heap.size) (hS : S.size = 1)
    (hW : ∀ J w' d' y G', I.le J → (∀ b, b ∈ K2 → w'.heap[b]? = w.heap[b]?) → S.own J w' d' y G' → ∃ F, F.Perm (G' ++ K2) ∧ R.own J w' (spl cell off d') (u a y) F) :
    (Ch.gap (rSlice E R) [.slice (some ⟨g, 0, none⟩) xs.length cap] S (fun y => xs.set i (u a y)) g (0 + (i * R.size + off)) v0).holds I w (g :: (K1 ++ (K2 ++ K3))) := by
  have hoff := (List.getElem?_eq_some_iff.1 hv).1
  refine ⟨by simp, ⟨cur, E, k1, ?_⟩, fun b hb => ?_, fun J w' v' y G' hJ hs hg h' => ?_⟩
  · rw [← Array.getElem?_toList, f1, List.getElem?_append_right (by omega), List.getElem?_append_left (by omega), f2]
    rw [show 0 + (i * R.size + off) - i * R.size = off from by omega]; exact hv
  · rcases List.mem_cons.1 hb with rfl | hb
    · exact (Array.getElem?_eq_some_iff.1 k1).1
    · rcases List.mem_append.1 hb with hb | hb
      · exact f4.live b hb
      · rcases List.mem_append.1 hb with hb | hb
        · exact hlv b hb
        · exact f6.live b hb
  · have st : ∀ b, b ∈ K1 ++ (K2 ++ K3) → w'.heap[b]? = w.heap[b]? := fun b hb => hs b (List.mem_cons_of_mem _ hb) (hne b hb)
    obtain ⟨F1, p, q⟩ := hW J w' [v'] y G' hJ (fun b hb => st b (List.mem_append_right _ (List.mem_append_left _ hb))) h'
    have hcur := hg cur E k1
    have hcells : (cur.setIfInBounds (0 + (i * R.size + off)) v').toList = c1 ++ (spl cell off [v'] ++ c3) := by
      rw [Array.toList_setIfInBounds, f1, List.set_append_right _ _ (by omega), List.set_append_left _ _ (by omega), f2]
      rw [show 0 + (i * R.size + off) - i * R.size = off from by omega]; rfl
    have hi : (xs.take i).length = i := by rw [List.length_take]; omega
    refine ⟨g :: (K1 ++ (F1 ++ K3)), ?_, by rw [List.length_set]; exact hl, .inr ⟨g, cap, _, K1 ++ (F1 ++ K3), by rw [List.length_set], hcur, by rw [List.length_set]; exact k2, k3, by rw [Array.size_setIfInBounds]; exact k4, rfl, ?_⟩⟩
    · have p1 : (F1 ++ K3).Perm (G' ++ (K2 ++ K3)) := by rw [← List.append_assoc]; exact p.append_right _
      have p2 : (K1 ++ (F1 ++ K3)).Perm (G' ++ (K1 ++ (K2 ++ K3))) := (p1.append_left K1).trans (List.perm_append_comm_assoc _ _ _)
      exact (p2.cons g).trans (List.perm_middle (l₁ := G')).symm
    · show OwnEls R J w' _ (xs.set i (u a y)) _
      rw [List.set_eq_take_append_cons_drop, if_pos hlt, hcells]
      exact OwnEls.glue (ys := xs.take i) (zs := u a y :: xs.drop (i + 1)) (by rw [hi, f2]) ((f4.mono hJ).stay fun b hb => st b (List.mem_append_left _ hb))
        ⟨spl cell off [v'], c3, F1, K3, rfl, by rw [spl_len]; exact f3, rfl, q, (f6.mono hJ).stay fun b hb => st b (List.mem_append_right _ (List.mem_append_right _ hb))⟩
/-- a part of one cell, taken out as it is read -/
theorem opT_take_part {off k : Nat} {f : α → β} {u : α → β → α} {x : Operand} {v : Value} {xs : List α} {a : α} {i : Int} (ha : getI xs i = some a) (hf : Lens R off S f u) (hT : TI P T false 1) (hS : S.size = 1) (ho : o.op = .load T x) (hx : ev x = pt v (i.toNat * k + off)) (hk : R.size = k) :
    OpT P I w0 o ev [Ch.own (rSlice E R) [v] xs] (fun u => u.oneCell' = true) (fun c => [Ch.own S [c] (f a), Ch.gap (rSlice E R) [v] S (fun y => xs.set i.toNat (u a y)) (ptB v) (ptO v + (i.toNat * k + off)) c]) := by
  intro w C hs
  obtain ⟨hb, hi, F, ⟨G, K, rfl, e2, e3⟩, h2, h3⟩ := hs
  have hlt := (List.getElem?_eq_some_iff.1 (getI_at ha)).1
  obtain ⟨g, cap, cur, K1, K3, c1, cell, c3, G1, rfl, hl, k1, k2, k3, k4, rfl, f1, f2, f3, f4, f5, f6⟩ := own_row_cut e2 (getI_at ha)
  obtain ⟨d, G2, K2, p, e1, e4, e5⟩ := hf I w cell a G1 f5
  have hdl : d.length = 1 := (S.own_len e4).trans hS
  obtain ⟨c, rfl⟩ := List.length_eq_one_iff.1 hdl
  have hc : cell[off]? = some c := by
    have := congrArg (fun l : List Value => l[0]?) e1
    simpa [List.getElem?_take, List.getElem?_drop, hS] using this
  obtain ⟨u', hr, hu⟩ := run_ld (P := P) (w := w) (b := g) (off := 0 + (i.toNat * k + off)) (d := [c]) hT rfl (fun _ => rfl) (fun j u hj => by
    have hj0 : j = 0 := by have := (List.getElem?_eq_some_iff.1 hj).1; simpa using this
    subst hj0
    obtain rfl : c = u := by simpa using hj
    have hoff := (List.getElem?_eq_some_iff.1 hc).1
    simp only [World.cell?, k1]
    rw [← Array.getElem?_toList, f1, List.getElem?_append_right (by rw [f2, hk]; omega), List.getElem?_append_left (by rw [f2, hk]; omega), f2, hk]
    rw [show 0 + (i.toNat * k + off) + 0 - i.toNat * k = off from by omega]; exact hc)
  obtain rfl : c = u' := by simpa using (show [c] = [u'] from hu)
  simp only [execOp, ho, hx, pt, ptB, ptO, Sem.run_bind, hr, Result.andThen_ok]
  have hperm : ((g :: (K1 ++ (G1 ++ K3))) ++ K).Perm (G2 ++ ((g :: (K1 ++ (K2 ++ K3))) ++ K)) := by
    have p1 : (G1 ++ K3).Perm (G2 ++ (K2 ++ K3)) := by rw [← List.append_assoc]; exact p.append_right _
    have p2 : (K1 ++ (G1 ++ K3)).Perm (G2 ++ (K1 ++ (K2 ++ K3))) := (p1.append_left K1).trans (List.perm_append_comm_assoc _ _ _)
    have p3 := ((p2.cons g).trans (List.perm_middle (l₁ := G2)).symm).append_right K
    rwa [List.append_assoc] at p3
  have hnd := hperm.nodup_iff.1 h2
  have hnd2 : (g :: (K1 ++ (K2 ++ K3))).Nodup := (List.nodup_append.1 (List.nodup_append.1 hnd).2.1).1
  refine ⟨S.own_one e4 c (by simp), hb, hi, G2 ++ ((g :: (K1 ++ (K2 ++ K3))) ++ K), ⟨G2, _, rfl, e4, g :: (K1 ++ (K2 ++ K3)), K, rfl, ?_, e3⟩, hnd, fun b hb => h3 b (hperm.mem_iff.2 hb)⟩
  have := gap_of (u := u) (a := a) (v0 := c) hlt hl k1 k2 k3 k4 f1 f2 f3 f4 f6 hc (K2 := K2) (S := S) (fun b hb e => by
    subst e; exact (List.nodup_cons.1 hnd2).1 hb) (fun b hb => R.own_live f5 b (p.mem_iff.2 (List.mem_append_right _ hb))) hS e5
  rw [hk] at this
  exact this
/-- the part put back -/
theorem St.settle {cs : List Value} {f : β → α} {b off : Nat} {v : Value} {y : β} (h : St I w0 w (Ch.own S [v] y :: Ch.gap R cs S f b off v :: C)) : St I w0 w (Ch.own R cs (f y) :: C) := by
  obtain ⟨h1, h2, F, ⟨G, K, rfl, e1, K', K2, rfl, ⟨k1, ⟨cur, E, k2, k2'⟩, k3, k4⟩, e3⟩, h4, h5⟩ := h
  obtain ⟨F, p, q⟩ := k4 I w v y G Hp.le.rfl (fun _ _ _ => rfl) (fun cur' E' hc => by
    rw [k2] at hc ⊢
    obtain ⟨rfl, rfl⟩ : cur = cur' ∧ E = E' := by injection hc with hc; injection hc with a b c; exact ⟨a, b⟩
    congr 2
    obtain ⟨hlt, he⟩ := Array.getElem?_eq_some_iff.1 k2'
    exact Array.ext (by simp) fun i h1 h2 => by
      by_cases e : i = off
      · subst e; simp [he]
      · rw [Array.getElem_setIfInBounds_ne _ (by omega)]) e1
  have p2 : (F ++ K2).Perm (G ++ (K' ++ K2)) := by rw [← List.append_assoc]; exact p.append_right _
  exact ⟨h1, h2, F ++ K2, ⟨F, K2, rfl, q, e3⟩, p2.nodup_iff.2 h4, fun b hb => h5 b (p2.mem_iff.1 hb)⟩
/-- a store into the place of what was taken out -/
theorem opT_store_gap {cs : List Value} {f : β → α} {b off : Nat} {v u : Value} {x y : Operand} (hT : TI P T false 1) (ho : o.op = .store T x y) (hx : ev x = .pointer (some ⟨b, off, none⟩)) (hy : ev y = u) (h1 : u.oneCell' = true) :
    OpT P I w0 o ev [Ch.gap R cs S f b off v] (fun _ => True) (fun _ => [Ch.gap R cs S f b off u]) := by
  intro w C hs
  obtain ⟨hb0, hi, F, ⟨K, K2, rfl, ⟨k1, ⟨cur, E, k2, k2'⟩, k3, k4⟩, e3⟩, h4, h5⟩ := id hs
  obtain ⟨hlt, he⟩ := Array.getElem?_eq_some_iff.1 k2'
  have hr := run_st (P := P) (w := w) hT (g := b) (o := off) (l := [u]) (one_cells h1) rfl (fun j hj => by
    have hj0 : j = 0 := by simpa using hj
    subst hj0
    simp only [World.cell?, k2, Option.isSome_none, Bool.false_eq_true, ite_false]
    rw [Nat.add_zero, k2']; rfl) (fun j => by simp [World.frozen?, k2]) (fun v hv => by obtain rfl := List.mem_singleton.1 hv; exact h1)
  simp only [execOp, ho, hx, hy, Sem.run_bind, hr, Result.andThen_ok]
  refine ⟨trivial, ?_⟩
  have hw : setsW w b off [u] = w.setCell ⟨b, off, none⟩ u := rfl
  rw [hw]
  refine St.step (w := w) (c := [Ch.gap R cs S f b off v]) (c' := [Ch.gap R cs S f b off u]) (w' := w.setCell ⟨b, off, none⟩ u) hs rfl rfl rfl (by simp [World.setCell]) ?_
  rintro F ⟨K, K', rfl, ⟨q1, ⟨cur', E', q2, q2'⟩, q3, q4⟩, rfl⟩ hnd hfr
  rw [List.append_nil] at *
  refine ⟨fun c hc hn => Below.heap_setCell _ _ _ _ fun e => hn (e ▸ q1), K, ⟨K, [], by simp, ⟨q1, ⟨_, E', heap_setCell_at q2, ?_⟩, fun c hc => by have := q3 c hc; simpa [World.setCell] using this, fun J w'' v' y' G hJ s1 s2 => q4 J w'' v' y' G hJ (fun c hc hne => by rw [s1 c hc hne, Below.heap_setCell _ _ _ _ hne]) fun cur2 E2 hc => ?_⟩, rfl⟩, hnd, fun c hc => .inl hc⟩
  · obtain ⟨hlt, -⟩ := Array.getElem?_eq_some_iff.1 q2'
    rw [Array.getElem?_setIfInBounds_self_of_lt hlt]
  · have := s2 _ E2 (heap_setCell_at (v := u) (o := off) hc)
    rw [this]
    congr 2
    exact Array.ext (by simp) fun i h1 h2 => by
      by_cases e : off = i
      · subst e; simp
      · simp [Array.getElem_setIfInBounds_ne, e]
end
end Go.Proofs.Ytfkocnnphjkmfaa.R
