/- An element of an owned row, taken out and put back. No program text is named here. -/
import Derived.Test.YtfkocnnphjkmfaaDeep
set_option linter.unusedVariables false
set_option linter.unusedSimpArgs false
set_option linter.unnecessarySimpa false
namespace Go.Proofs.Ytfkocnnphjkmfaa.D
open Go.RowKit

section
variable {P : Program} {I J : Hp} {w0 w w' : World} {cs C : List Ch} {n : Nat} {a : Act} {L L' : List (Nat × Value)} {o : Oper} {ev : Operand → Value}
theorem OwnEls.cut2 {α : Type} {R : Rep α} : ∀ {ys zs : List α} {cur : List Value} {F : List Nat}, OwnEls R I w cur (ys ++ zs) F → ∃ c1 c2 K1 K2, cur = c1 ++ c2 ∧ c1.length = ys.length * R.size ∧ F = K1 ++ K2 ∧ OwnEls R I w c1 ys K1 ∧ OwnEls R I w c2 zs K2
  | [], zs, cur, F, h => ⟨[], cur, [], F, rfl, by simp, rfl, rfl, h⟩
  | y :: ys, zs, cur, F, ⟨c, rest, G, K, h1, h2, h3, h4, h5⟩ => by
    obtain ⟨c1, c2, K1, K2, rfl, e2, rfl, e4, e5⟩ := OwnEls.cut2 (ys := ys) h5
    exact ⟨c ++ c1, c2, G ++ K1, K2, by rw [h1, List.append_assoc], by rw [List.length_append, h2, e2, List.length_cons, Nat.add_mul, Nat.one_mul, Nat.add_comm], by rw [h3, List.append_assoc], ⟨c, c1, G, K1, rfl, h2, rfl, h4, e4⟩, e5⟩
theorem OwnEls.glue {α : Type} {R : Rep α} : ∀ {ys zs : List α} {c1 c2 : List Value} {K1 K2 : List Nat}, c1.length = ys.length * R.size → OwnEls R I w c1 ys K1 → OwnEls R I w c2 zs K2 → OwnEls R I w (c1 ++ c2) (ys ++ zs) (K1 ++ K2)
  | [], zs, c1, c2, K1, K2, hl, h1, h2 => by
    rw [List.length_nil, Nat.zero_mul, List.length_eq_zero_iff] at hl
    rw [hl, show K1 = [] from h1]; exact h2
  | y :: ys, zs, cur, c2, F, K2, hl, ⟨c, rest, G, K, h1, h2, h3, h4, h5⟩, h => by
    subst h1; subst h3
    rw [List.length_append, h2, List.length_cons, Nat.add_mul, Nat.one_mul] at hl
    exact ⟨c, rest ++ c2, G, K ++ K2, by rw [List.append_assoc], h2, by rw [List.append_assoc], h4, h5.glue (by omega) h⟩
/-- a row from which the element i, with the cells 'cells', is taken out -/
def Ch.hole {α : Type} (E : TypeId) (R : Rep α) (v : Value) (cells : List Value) (xs : List α) (i : Nat) : Ch where
  holds I w F := xs.length ≤ lim ∧ cells.length = R.size ∧ i < xs.length ∧ ∃ g cap cur K1 K2 c1 c2, v = .slice (some ⟨g, 0, none⟩) xs.length cap ∧ w.heap[g]? = some (.cells cur E (0, 0)) ∧ xs.length ≤ cap ∧ cap ≤ maxLen ∧ cur.size = cap * R.size ∧ F = g :: (K1 ++ K2) ∧
    cur.toList = c1 ++ (cells ++ c2) ∧ c1.length = i * R.size ∧ OwnEls R I w c1 (xs.take i) K1 ∧ OwnEls R I w c2 (xs.drop (i + 1)) K2
  mono := by
    rintro I J w F ⟨h1, h2, h3, g, cap, cur, K1, K2, c1, c2, e1, e2, e3, e4, e5, e6, e7, e8, e9, e10⟩ hJ
    exact ⟨h1, h2, h3, g, cap, cur, K1, K2, c1, c2, e1, e2, e3, e4, e5, e6, e7, e8, e9.mono hJ, e10.mono hJ⟩
  stay := by
    rintro I w w' F ⟨h1, h2, h3, g, cap, cur, K1, K2, c1, c2, e1, e2, e3, e4, e5, rfl, e7, e8, e9, e10⟩ hw
    exact ⟨h1, h2, h3, g, cap, cur, K1, K2, c1, c2, e1, by rw [hw g (by simp)]; exact e2, e3, e4, e5, rfl, e7, e8, e9.stay fun b hb => hw b (by simp [hb]), e10.stay fun b hb => hw b (by simp [hb])⟩
  live := by
    rintro I w F ⟨h1, h2, h3, g, cap, cur, K1, K2, c1, c2, e1, e2, e3, e4, e5, rfl, e7, e8, e9, e10⟩ b hb
    rcases List.mem_cons.1 hb with rfl | hb
    · exact (Array.getElem?_eq_some_iff.1 e2).1
    · rcases List.mem_append.1 hb with hb | hb
      · exact e9.live b hb
      · exact e10.live b hb
theorem Sep.borrow {α : Type} {E : TypeId} {R : Rep α} {v : Value} {xs : List α} {i : Nat} {x : α} {F : List Nat} (h : (rSlice E R).own I w [v] xs F) (hx : xs[i]? = some x) :
    ∃ cells G K, F.Perm (G ++ K) ∧ R.own I w cells x G ∧ (Ch.hole E R v cells xs i).holds I w K ∧ ∀ j u, cells[j]? = some u → w.cell? ⟨ptB v, ptO v + i * R.size + j, none⟩ = some u := by
  have hlt := (List.getElem?_eq_some_iff.1 hx).1
  obtain ⟨hl, ⟨-, rfl, -⟩ | ⟨g, cap, cur, K, hv, k1, k2, k3, k4, rfl, k5⟩⟩ := h
  · simp at hlt
  obtain rfl : v = .slice (some ⟨g, 0, none⟩) xs.length cap := by simpa using hv
  have e : xs = xs.take i ++ (x :: xs.drop (i + 1)) := by
    have := (List.getElem?_eq_some_iff.1 hx).2
    rw [← this, ← List.drop_eq_getElem_cons hlt, List.take_append_drop]
  rw [e] at k5
  obtain ⟨c1, c2, K1, K2, f1, f2, rfl, f4, cells, c3, G, K3, rfl, f6, rfl, f8, f9⟩ := k5.cut2
  have hi : (xs.take i).length = i := by rw [List.length_take]; omega
  rw [hi] at f2
  refine ⟨cells, G, g :: (K1 ++ K3), ?_, f8, ⟨hl, f6, hlt, g, cap, cur, K1, K3, c1, c3, rfl, k1, k2, k3, k4, rfl, f1, f2, f4, f9⟩, fun j u hj => ?_⟩
  · have p1 : (K1 ++ (G ++ K3)).Perm (G ++ (K1 ++ K3)) := by
      rw [← List.append_assoc, ← List.append_assoc]; exact List.perm_append_comm.append_right _
    exact (p1.cons g).trans (List.perm_middle (l₁ := G)).symm
  · have hj' := (List.getElem?_eq_some_iff.1 hj).1
    simp only [ptB, ptO, World.cell?, k1, Nat.zero_add]
    rw [← Array.getElem?_toList, f1, List.getElem?_append_right (by omega), List.getElem?_append_left (by omega), f2, Nat.add_sub_cancel_left]
    exact hj
theorem Sep.putback {α : Type} {E : TypeId} {R : Rep α} {v : Value} {cells : List Value} {xs : List α} {i : Nat} {y : α} {G K : List Nat} (h1 : R.own I w cells y G) (h2 : (Ch.hole E R v cells xs i).holds I w K) :
    ∃ F, F.Perm (G ++ K) ∧ (rSlice E R).own I w [v] (xs.set i y) F := by
  obtain ⟨hl, hc, hlt, g, cap, cur, K1, K2, c1, c2, rfl, k1, k2, k3, k4, rfl, k6, k7, k8, k9⟩ := h2
  have hi : (xs.take i).length = i := by rw [List.length_take]; omega
  refine ⟨g :: (K1 ++ (G ++ K2)), ?_, by rw [List.length_set]; exact hl, .inr ⟨g, cap, cur, K1 ++ (G ++ K2), by rw [List.length_set], k1, by rw [List.length_set]; exact k2, k3, k4, rfl, ?_⟩⟩
  · have p1 : (K1 ++ (G ++ K2)).Perm (G ++ (K1 ++ K2)) := by
      rw [← List.append_assoc, ← List.append_assoc]; exact List.perm_append_comm.append_right _
    exact (p1.cons g).trans (List.perm_middle (l₁ := G)).symm
  · rw [List.set_eq_take_append_cons_drop, if_pos hlt, k6]
    exact OwnEls.glue (ys := xs.take i) (zs := y :: xs.drop (i + 1)) (by rw [hi, k7]) k8 ⟨cells, c2, G, K2, rfl, hc, rfl, h1, k9⟩
theorem St.putback {α : Type} {E : TypeId} {R : Rep α} {v : Value} {cells : List Value} {xs : List α} {i : Nat} {y : α} (h : St I w0 w (Ch.own R cells y :: Ch.hole E R v cells xs i :: C)) : St I w0 w (Ch.own (rSlice E R) [v] (xs.set i y) :: C) := by
  obtain ⟨h1, h2, F, ⟨G, K, rfl, e1, K', K2, rfl, e2, e3⟩, h4, h5⟩ := h
  obtain ⟨F, p, q⟩ := Sep.putback e1 e2
  have p2 : (F ++ K2).Perm (G ++ (K' ++ K2)) := by rw [← List.append_assoc]; exact p.append_right _
  exact ⟨h1, h2, F ++ K2, ⟨F, K2, rfl, q, e3⟩, p2.nodup_iff.2 h4, fun b hb => h5 b (p2.mem_iff.1 hb)⟩
/-- an element that is one header, taken out as it is read -/
theorem opT_borrow {α : Type} {E T : TypeId} {R : Rep α} {k : Nat} {x : Operand} {v : Value} {xs : List α} {y : α} {i : Int} (ha : getI xs i = some y) (hT : TI P T false 1) (hS : R.size = 1) (ho : o.op = .load T x) (hx : ev x = pt v (i.toNat * k)) (hk : R.size = k) :
    OpT P I w0 o ev [Ch.own (rSlice E R) [v] xs] (fun _ => True) (fun u => [Ch.own R [u] y, Ch.hole E R v [u] xs i.toNat]) := by
  intro w C hs
  obtain ⟨h1, h2, F, ⟨G, K, rfl, e1, e2⟩, h4, h5⟩ := hs
  obtain ⟨cells, G', K', p, q1, q2, q3⟩ := Sep.borrow e1 (getI_at ha)
  have hl : cells.length = 1 := (R.own_len q1).trans hS
  obtain ⟨u0, rfl⟩ := List.length_eq_one_iff.1 hl
  obtain ⟨u, hr, hu⟩ := run_ld (P := P) (w := w) (b := ptB v) (off := ptO v + (i.toNat * k)) (d := [u0]) hT rfl (fun _ => rfl) (fun j u hj => by
    have := q3 j u hj
    rw [hk] at this
    exact this)
  have hu : [u0] = [u] := hu
  obtain rfl : u0 = u := by simpa using hu
  simp only [execOp, ho, hx, pt, Sem.run_bind, hr, Result.andThen_ok]
  have p2 : (G ++ K).Perm (G' ++ (K' ++ K)) := by rw [← List.append_assoc]; exact p.append_right _
  exact ⟨trivial, h1, h2, G' ++ (K' ++ K), ⟨G', K' ++ K, rfl, q1, K', K, rfl, q2, e2⟩, p2.nodup_iff.1 h4, fun b hb => h5 b (p2.mem_iff.2 hb)⟩
end
end Go.Proofs.Ytfkocnnphjkmfaa.D
