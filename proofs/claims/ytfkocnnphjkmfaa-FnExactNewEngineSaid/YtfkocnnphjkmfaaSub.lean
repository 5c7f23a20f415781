/- Parts of slices. No program text is named here. -/
import Derived.Test.YtfkocnnphjkmfaaMap
import Derived.Laws.CopyRow
set_option linter.unusedVariables false
set_option linter.unusedSimpArgs false
set_option linter.unnecessarySimpa false
namespace Go.Proofs.Ytfkocnnphjkmfaa.D
open Go.RowKit

/-- the header of v[l:h] (elements of s cells), its capacity up to the old one's -/
def subV (v : Value) (l h s : Nat) : Value := match v with
  | .slice a _ c => sliced a l h c s
  | _ => v
/-- the block of captured box i -/
def cg (v : Value) (i : Nat) : Nat := match v with
  | .func _ _ capt => bk (capt.getD i undef)
  | _ => 0
section
variable {P : Program} {I J : Hp} {w0 w w' : World} {o : Oper} {ev : Operand → Value}
theorem TI.size {T : TypeId} {agg : Bool} {n : Nat} (h : TI P T agg n) (w : World) : (sizeOf T).run P w = .ok n w := by
  obtain ⟨-, h3⟩ := h
  cases hq : P.info? T with
  | none => simp [Program.cellsOf, hq] at h3; first | done | simp [sizeOf, typeInfo, hq, h3]
  | some i => simp [Program.cellsOf, hq] at h3; first | done | simp [sizeOf, typeInfo, hq, h3]
theorem opT_slice_l {t e : TypeId} {x y : Operand} {v : Value} {len n : Nat} {l : Int} {agg : Bool} (hT : P.underlying t = some (.slice e)) (hE : TI P e agg n) (hv : Hd v len) (ho : o.op = .slice t x (some y) none none) (hx : ev x = v) (hy : ev y = .int .i64 l) (h : 0 ≤ l ∧ l ≤ len) :
    OpT P I w0 o ev [] (· = subV v l.toNat len n) (fun _ => []) := by
  obtain ⟨ao, cap, rfl, -⟩ := hv
  have he : P.elem t = e := by simp [Program.elem, hT]
  have hT' : P.underlying t = some (.slice (P.elem t)) := by rw [he]; exact hT
  refine opT_val fun w => ?_
  have hs := TI.size hE w
  rw [← he] at hs
  simp only [execOp, ho, hx, Option.map_some, Option.map_none, hy, Sem.run_bind, run_sliceAt_slice w t _ _ _ _ hT', run_slice_l w t ao len cap hT' .i64 l h.1 h.2, hs, Result.andThen_ok]
  rfl
theorem opT_slice_h {t e : TypeId} {x y : Operand} {v : Value} {len n : Nat} {l : Int} {agg : Bool} (hT : P.underlying t = some (.slice e)) (hE : TI P e agg n) (hv : Hd v len) (ho : o.op = .slice t x none (some y) none) (hx : ev x = v) (hy : ev y = .int .i64 l) (h : 0 ≤ l ∧ l ≤ len) :
    OpT P I w0 o ev [] (· = subV v 0 l.toNat n) (fun _ => []) := by
  obtain ⟨ao, cap, rfl, -, hc⟩ := hv
  have he : P.elem t = e := by simp [Program.elem, hT]
  have hT' : P.underlying t = some (.slice (P.elem t)) := by rw [he]; exact hT
  refine opT_val fun w => ?_
  have hs := TI.size hE w
  rw [← he] at hs
  simp only [execOp, ho, hx, Option.map_some, Option.map_none, hy, Sem.run_bind, run_sliceAt_slice w t _ _ _ _ hT', run_slice_h w t ao len cap hT' .i64 l h.1 (by omega), hs, Result.andThen_ok]
  rfl

theorem opT_slice_lh {t e : TypeId} {x y z : Operand} {v : Value} {len n : Nat} {l h : Int} {agg : Bool} (hT : P.underlying t = some (.slice e)) (hE : TI P e agg n) (hv : Hd v len) (ho : o.op = .slice t x (some y) (some z) none) (hx : ev x = v) (hy : ev y = .int .i64 l) (hz : ev z = .int .i64 h) (hh : 0 ≤ l ∧ l ≤ h ∧ h ≤ len) :
    OpT P I w0 o ev [] (· = subV v l.toNat h.toNat n) (fun _ => []) := by
  obtain ⟨ao, cap, rfl, -, hc⟩ := hv
  have he : P.elem t = e := by simp [Program.elem, hT]
  have hT' : P.underlying t = some (.slice (P.elem t)) := by rw [he]; exact hT
  refine opT_val fun w => ?_
  have hs := TI.size hE w
  rw [← he] at hs
  simp only [execOp, ho, hx, Option.map_some, Option.map_none, hy, hz, Sem.run_bind, run_sliceAt_slice w t _ _ _ _ hT', run_slice_lh w t ao len cap hT' .i64 .i64 l h hh.1 hh.2.1 (by omega), hs, Result.andThen_ok]
  rfl
/-- a part of what is read -/
theorem rd_sub {α : Type} {E : TypeId} {R : Rep α} {v : Value} {xs : List α} {l h n : Nat} (hr : (rSlice E R).rd I [v] xs) (h1 : l ≤ h) (h2 : h ≤ xs.length) (hn : R.size = n) : (rSlice E R).rd I [subV v l h n] ((xs.take h).drop l) := by
  obtain ⟨ao, cap, hv, ⟨hl1, hl2⟩, hx⟩ := hr
  obtain rfl : v = .slice ao xs.length cap := by simpa using hv
  have hlen : ((xs.take h).drop l).length = h - l := by rw [List.length_drop, List.length_take]; omega
  by_cases hz : h = l
  · subst hz
    have hz : (xs.take h).drop h = [] := List.eq_nil_of_length_eq_zero (by rw [hlen]; omega)
    rw [hz]
    exact ⟨_, _, by simp only [subV, sliced]; rw [Nat.sub_self]; rfl, ⟨Nat.zero_le _, Nat.zero_le _⟩, .inl rfl⟩
  · rcases hx with rfl | ⟨b, off, ccs, t, fr, rfl, hI, hel⟩
    · simp at h2; omega
    · refine ⟨some ⟨b, off + l * n, none⟩, cap - l, ?_, ⟨by rw [hlen]; omega, by rw [hlen]; omega⟩, .inr ⟨b, off + l * n, ccs, t, fr, rfl, hI, fun i x hx => ?_⟩⟩
      · have hc : cap ≠ l := by omega
        simp [subV, sliced, hc, hlen, Addr.add_mid]
      · rw [List.getElem?_drop, List.getElem?_take] at hx
        split at hx
        · obtain ⟨c, c1, c2, c3⟩ := hel (l + i) x hx
          refine ⟨c, c1, fun j hj => ?_, c3⟩
          rw [← c2 j hj, ← hn, Nat.add_mul]
          congr 1; omega
        · cases hx
theorem rd_sub_l {α : Type} {E : TypeId} {R : Rep α} {v : Value} {xs : List α} {l n : Nat} (hr : (rSlice E R).rd I [v] xs) (h1 : l ≤ xs.length) (hn : R.size = n) : (rSlice E R).rd I [subV v l xs.length n] (xs.drop l) := by
  have := rd_sub hr h1 (Nat.le_refl _) hn
  rwa [List.take_of_length_le (Nat.le_refl _)] at this
theorem rd_sub_h {α : Type} {E : TypeId} {R : Rep α} {v : Value} {xs : List α} {h n : Nat} (hr : (rSlice E R).rd I [v] xs) (h1 : h ≤ xs.length) (hn : R.size = n) : (rSlice E R).rd I [subV v 0 h n] (xs.take h) := by
  have := rd_sub hr (Nat.zero_le h) h1 hn
  rwa [List.drop_zero] at this

/-! ### copy -/
theorem ownEls_flat {α : Type} {enc : α → Value} {h1 : ∀ a, (enc a).oneCell' = true} : ∀ {xs : List α} {cur : List Value} {K : List Nat}, OwnEls (rFlat α enc h1) I w cur xs K ↔ K = [] ∧ ∃ rest, cur = xs.map enc ++ rest
  | [], cur, K => ⟨fun h => ⟨h, cur, rfl⟩, fun h => h.1⟩
  | x :: xs, cur, K => by
    constructor
    · rintro ⟨c, rest, G, K', rfl, -, rfl, ⟨rfl, rfl⟩, h5⟩
      obtain ⟨rfl, r, rfl⟩ := ownEls_flat.1 h5
      exact ⟨rfl, r, rfl⟩
    · rintro ⟨rfl, r, rfl⟩
      exact ⟨[enc x], xs.map enc ++ r, [], [], rfl, rfl, rfl, ⟨rfl, rfl⟩, ownEls_flat.2 ⟨rfl, r, rfl⟩⟩
/-- xs from lo on overwritten by ys, as far as it goes -/
def cpyI {α : Type} (xs : List α) (lo : Nat) (ys : List α) : List α := xs.take lo ++ (ys.take (xs.length - lo) ++ xs.drop (lo + min ys.length (xs.length - lo)))
/-- the cells that a source of a copy leads to -/
def Src (w : World) (u : Value) (cs : List Value) : Prop := ∃ ao cap, u = .slice ao cs.length cap ∧ (cs = [] ∨ ∃ a, ao = some a ∧ ∀ j v, cs[j]? = some v → w.cell? (a.add j) = some v)
theorem Src.take {u : Value} {cs : List Value} (h : Src w u cs) (n : Nat) : n ≤ cs.length → ∃ ao cap, u = .slice ao cs.length cap ∧ (cs.take n = [] ∨ ∃ a, ao = some a ∧ ∀ j v, (cs.take n)[j]? = some v → w.cell? (a.add j) = some v) := by
  intro _
  obtain ⟨ao, cap, h1, h2⟩ := h
  refine ⟨ao, cap, h1, ?_⟩
  rcases h2 with rfl | ⟨a, h3, h4⟩
  · exact .inl (by simp)
  · refine .inr ⟨a, h3, fun j v hj => h4 j v ?_⟩
    rw [List.getElem?_take] at hj
    split at hj
    · exact hj
    · cases hj
theorem Src.of_rd {α : Type} {E : TypeId} {enc : α → Value} {h1 : ∀ a, (enc a).oneCell' = true} {u : Value} {ys : List α} {cs0 : List Ch} (hs : St I w0 w cs0) (h : (rSlice E (rFlat α enc h1)).rd I [u] ys) : Src w u (ys.map enc) := by
  obtain ⟨ao, cap, hu, -, h⟩ := h
  obtain rfl : u = .slice ao ys.length cap := by simpa using hu
  refine ⟨ao, cap, by simp, ?_⟩
  rcases h with rfl | ⟨b, off, ccs, t, fr, rfl, hI, hel⟩
  · exact .inl rfl
  · refine .inr ⟨_, rfl, fun j v hj => ?_⟩
    rw [List.getElem?_map] at hj
    cases hy : ys[j]? with
    | none => rw [hy] at hj; cases hj
    | some y =>
      rw [hy] at hj
      obtain ⟨c, c1, c2, c3⟩ := hel j y hy
      obtain rfl : c = [enc y] := c3
      have hg : w.heap[b]? = some (.cells ccs t fr) := hs.2.1 b _ hI
      have := c2 0 (Nat.zero_lt_one)
      have e : (rFlat α enc h1).size = 1 := rfl
      rw [e] at this
      simp only [Nat.mul_one, Nat.add_zero, List.getElem?_cons_zero] at this
      simp only [Option.map_some, Option.some.injEq] at hj
      subst hj
      simp only [Addr.add_mid, World.cell?, hg]
      simpa using this
theorem run_copy_any {dT sT ty elem : TypeId} {g o dLen dCap sLen sCap : Nat} {ao : Option Addr} {cur : Array Value} {t : TypeId} {cs : List Value}
    (hu : P.underlying dT = some (.slice elem)) (hs : (P.info? elem).map (·.size) = some 1)
    (hg : w.heap[g]? = some (.cells cur t (0, 0))) (hn : cs.length = Nat.min sLen dLen)
    (hsrc : cs = [] ∨ ∃ a, ao = some a ∧ ∀ j v, cs[j]? = some v → w.cell? (a.add j) = some v) (hfit : o + cs.length ≤ cur.size) (h1 : ∀ v ∈ cs, v.oneCell' = true) :
    (Builtin.copy_ #[dT, sT] ty #[.slice (some ⟨g, o, none⟩) dLen dCap, .slice ao sLen sCap]).run P w =
      .ok (goInt cs.length) (w.setRow g (cur.toList.take o ++ cs ++ cur.toList.drop (o + cs.length)).toArray) := by
  rcases hsrc with rfl | ⟨a, rfl, h⟩
  · have hz : Nat.min sLen dLen = 0 := hn.symm
    have e : (w.setRow g (cur.toList.take o ++ [] ++ cur.toList.drop (o + ([] : List Value).length)).toArray) = w := by
      have : (cur.toList.take o ++ [] ++ cur.toList.drop (o + ([] : List Value).length)).toArray = cur := by simp
      rw [this]; exact setRow_self w g cur t (0, 0) hg
    rw [e]
    cases hq : P.info? elem with
    | none => simp [hq] at hs
    | some i =>
      have hi : i.size = 1 := by simpa [hq] using hs
      cases ao with
      | none => simp [Builtin.copy_, run_underlying hu, Builtin.lenOf, Builtin.firstCells, sizeOf, typeInfo, hq, hi, hz, storeCells]
      | some a =>
        have h0 : (loadCells a 0).run P w = .ok #[] w := run_loadCells_list (P := P) w a [] (by simp)
        simp [Builtin.copy_, run_underlying hu, Builtin.lenOf, Builtin.firstCells, sizeOf, typeInfo, hq, hi, hz, storeCells, h0]
  · exact run_copy_row P w dT sT ty elem g o dLen dCap a sLen sCap cur t cs hu hs hg hn h hfit h1
theorem opT_copy_any {α : Type} {E dT sT : TypeId} {enc : α → Value} {h1 : ∀ a, (enc a).oneCell' = true} {x y : Operand} {v dv u : Value} {xs ys : List α} {lo : Nat} (hT : P.underlying dT = some (.slice E)) (hE : (P.info? E).map (·.size) = some 1)
    (ho : o.op = .call { callee := .builtin .copy, args := #[x, y], argTypes := #[dT, sT] }) (hx : ev x = dv) (hy : ev y = u) (hlo : lo ≤ xs.length) (hd : (dv = v ∧ lo = 0) ∨ dv = subV v lo xs.length 1)
    (hsrc : ∀ w C, St I w0 w (Ch.own (rSlice E (rFlat α enc h1)) [v] xs :: C) → Src w u (ys.map enc)) :
    OpT P I w0 o ev [Ch.own (rSlice E (rFlat α enc h1)) [v] xs] (· = .int .i64 (min ys.length (xs.length - lo) : Nat)) (fun _ => [Ch.own (rSlice E (rFlat α enc h1)) [v] (cpyI xs lo ys)]) := by
  intro w C hs
  obtain ⟨ao, scap, rfl, hc⟩ := hsrc w C hs
  have hk : min ys.length (xs.length - lo) ≤ (ys.map enc).length := by simp; omega
  have hcs := Src.take ⟨ao, scap, rfl, hc⟩ _ hk
  obtain ⟨ao', scap', e0, hcs⟩ := hcs
  obtain ⟨rfl, rfl⟩ : ao = ao' ∧ scap = scap' := by injection e0 with e1 e2 e3; exact ⟨e1, e3⟩
  simp only [execOp, ho, hx, hy, resolve, Sem.run_bind, Sem.run_pure, Result.andThen_ok, invoke, builtin]
  have hargs : (#[x, y] : Array Operand).map ev = #[dv, .slice ao (ys.map enc).length scap] := by simp [hx, hy]
  rw [hargs]
  obtain ⟨hb, hi, F, ⟨G, K, rfl, ⟨hl, e2⟩, e3⟩, h4, h5⟩ := hs
  have hl2 : (cpyI xs lo ys).length = xs.length := by
    simp only [cpyI, List.length_append, List.length_take, List.length_drop]; omega
  rcases e2 with ⟨hv, rfl, rfl⟩ | ⟨g, cap, cur, K1, hv, k1, k2, k3, k4, rfl, k5⟩
  · -- nothing to write to
    obtain rfl : v = .slice none 0 0 := by simpa using hv
    obtain rfl : lo = 0 := by simpa using hlo
    have hdv : dv = .slice none 0 0 := by
      rcases hd with ⟨rfl, -⟩ | rfl
      · rfl
      · rfl
    subst hdv
    have hr : (Builtin.copy_ #[dT, sT] o.type #[.slice none 0 0, .slice ao (ys.map enc).length scap]).run P w = .ok (goInt 0) w := by
      cases hq : P.info? E with
      | none => simp [hq] at hE
      | some i =>
        have hi : i.size = 1 := by simpa [hq] using hE
        cases ao with
        | none => simp [Builtin.copy_, run_underlying hT, Builtin.lenOf, Builtin.firstCells, sizeOf, typeInfo, hq, hi, storeCells]
        | some a =>
          have h0 : (loadCells a 0).run P w = .ok #[] w := run_loadCells_list (P := P) w a [] (by simp)
          simp [Builtin.copy_, run_underlying hT, Builtin.lenOf, Builtin.firstCells, sizeOf, typeInfo, hq, hi, storeCells, h0]
    rw [hr]
    refine ⟨by simp [goInt], hb, hi, [] ++ K, ⟨[], K, rfl, ⟨?_, .inl ⟨rfl, ?_, rfl⟩⟩, e3⟩, h4, h5⟩
    · simp [cpyI]
    · simp [cpyI]
  · obtain rfl : v = .slice (some ⟨g, 0, none⟩) xs.length cap := by simpa using hv
    have k4' : cur.size = cap := by rw [k4]; exact Nat.mul_one _
    obtain ⟨rfl, rest, hcur⟩ := ownEls_flat.1 k5
    have hcurl : cur.toList.length = cap := by simpa using k4'
    have hdv : ∃ o' dCap, dv = .slice (some ⟨g, o', none⟩) (xs.length - lo) dCap ∧ (o' = lo ∨ (xs.length - lo = 0 ∧ o' ≤ cap)) := by
      rcases hd with ⟨rfl, rfl⟩ | rfl
      · exact ⟨0, cap, rfl, .inl rfl⟩
      · by_cases hcl : cap = lo
        · exact ⟨0, cap - lo, by simp [subV, sliced, hcl], .inr ⟨by omega, by omega⟩⟩
        · exact ⟨lo, cap - lo, by simp [subV, sliced, hcl, Addr.add_mid], .inl rfl⟩
    obtain ⟨o', dCap, rfl, ho'⟩ := hdv
    have hm : ((ys.map enc).take (min ys.length (xs.length - lo))).length = min ys.length (xs.length - lo) := by
      rw [List.length_take, List.length_map]; omega
    have hr := run_copy_any (P := P) (w := w) (dT := dT) (sT := sT) (ty := o.type) (elem := E) (g := g) (o := o') (dLen := xs.length - lo) (dCap := dCap) (sLen := (ys.map enc).length) (sCap := scap) (ao := ao) (cur := cur) (t := E) (cs := (ys.map enc).take (min ys.length (xs.length - lo))) hT hE k1
      (by rw [hm, List.length_map]) hcs (by rw [hm, k4']; omega) (fun v hv => by
        obtain ⟨a, -, rfl⟩ := List.mem_map.1 (List.mem_of_mem_take hv)
        exact h1 a)
    rw [hr, hm]
    have hcells : cur.toList.take o' ++ (ys.map enc).take (min ys.length (xs.length - lo)) ++ cur.toList.drop (o' + min ys.length (xs.length - lo)) = (cpyI xs lo ys).map enc ++ rest := by
      by_cases hz : min ys.length (xs.length - lo) = 0
      · rw [hz]
        have e : cpyI xs lo ys = xs := by
          unfold cpyI
          have : ys.take (xs.length - lo) = [] := List.eq_nil_of_length_eq_zero (by rw [List.length_take]; omega)
          rw [this, hz, List.nil_append, Nat.add_zero, List.take_append_drop]
        rw [e, ← hcur]; simp
      · have ho : o' = lo := by rcases ho' with h | h <;> omega
        subst ho
        rw [hcur, List.take_append_of_le_length (by rw [List.length_map]; omega), List.drop_append_of_le_length (by rw [List.length_map]; omega)]
        simp only [cpyI, List.map_append, List.map_take, List.map_drop, List.append_assoc]
        congr 1
        congr 1
        rw [List.take_eq_take_iff, List.length_map]; omega
    rw [hcells]
    have hsz : ((cpyI xs lo ys).map enc ++ rest).length = cap := by
      have := congrArg List.length hcur
      rw [List.length_append, List.length_map] at this ⊢
      rw [hl2]; omega
    have hst : St I w0 w (Ch.own (rSlice E (rFlat α enc h1)) [.slice (some ⟨g, 0, none⟩) xs.length cap] xs :: C) := ⟨hb, hi, [g] ++ K, ⟨[g], K, rfl, ⟨hl, .inr ⟨g, cap, cur, [], rfl, k1, k2, k3, k4, rfl, k5⟩⟩, e3⟩, h4, h5⟩
    have := St.step (w := w) (c := [Ch.own (rSlice E (rFlat α enc h1)) [.slice (some ⟨g, 0, none⟩) xs.length cap] xs]) (c' := [Ch.own (rSlice E (rFlat α enc h1)) [.slice (some ⟨g, 0, none⟩) xs.length cap] (cpyI xs lo ys)]) (w' := w.setRow g ((cpyI xs lo ys).map enc ++ rest).toArray) hst rfl rfl rfl (by simp [World.setRow]) (by
      rintro F ⟨G2, K2, rfl, ⟨hl', e2'⟩, rfl⟩ - -
      rcases e2' with ⟨hv', -, -⟩ | ⟨g', cap', cur', K1', hv', k1', k2', k3', k4', rfl, k5'⟩
      · cases hv'
      obtain ⟨rfl, rfl⟩ : g = g' ∧ cap = cap' := by simpa using hv'
      obtain ⟨rfl, -⟩ := ownEls_flat.1 k5'
      refine ⟨fun b hb hn => ?_, [g], ⟨[g], [], rfl, ⟨by rw [hl2]; exact hl, .inr ⟨g, cap, ((cpyI xs lo ys).map enc ++ rest).toArray, [], by rw [hl2], setRow_heap w g cur _ E _ k1, by rw [hl2]; exact k2, k3, ?_, rfl, ownEls_flat.2 ⟨rfl, rest, rfl⟩⟩⟩, rfl⟩, by simp, by simp⟩
      · have hne : g ≠ b := fun e => hn (by simp [e])
        simp [World.setRow, Array.getElem?_modify, hne]
      · show ((cpyI xs lo ys).map enc ++ rest).toArray.size = cap * 1
        rw [List.size_toArray, hsz, Nat.mul_one])
    exact ⟨rfl, this⟩
/-- a copy out of what is read -/
theorem opT_copy_rd {α : Type} {E E' dT sT : TypeId} {enc : α → Value} {h1 : ∀ a, (enc a).oneCell' = true} {x y : Operand} {v dv u : Value} {xs ys : List α} {lo : Nat} (hr : (rSlice E' (rFlat α enc h1)).rd I [u] ys) (hT : P.underlying dT = some (.slice E)) (hE : (P.info? E).map (·.size) = some 1)
    (ho : o.op = .call { callee := .builtin .copy, args := #[x, y], argTypes := #[dT, sT] }) (hx : ev x = dv) (hy : ev y = u) (hlo : lo ≤ xs.length) (hd : (dv = v ∧ lo = 0) ∨ dv = subV v lo xs.length 1) :
    OpT P I w0 o ev [Ch.own (rSlice E (rFlat α enc h1)) [v] xs] (· = .int .i64 (min ys.length (xs.length - lo) : Nat)) (fun _ => [Ch.own (rSlice E (rFlat α enc h1)) [v] (cpyI xs lo ys)]) :=
  opT_copy_any hT hE ho hx hy hlo hd fun w C hs => Src.of_rd hs hr
/-- a copy out of the first elements of the same row -/
theorem opT_copy_self {α : Type} {E dT sT : TypeId} {enc : α → Value} {h1 : ∀ a, (enc a).oneCell' = true} {x y : Operand} {v dv : Value} {xs : List α} {lo hi : Nat} (hT : P.underlying dT = some (.slice E)) (hE : (P.info? E).map (·.size) = some 1)
    (ho : o.op = .call { callee := .builtin .copy, args := #[x, y], argTypes := #[dT, sT] }) (hx : ev x = dv) (hy : ev y = subV v 0 hi 1) (hlo : lo ≤ xs.length) (hhi : hi ≤ xs.length) (hd : (dv = v ∧ lo = 0) ∨ dv = subV v lo xs.length 1) :
    OpT P I w0 o ev [Ch.own (rSlice E (rFlat α enc h1)) [v] xs] (· = .int .i64 (min (xs.take hi).length (xs.length - lo) : Nat)) (fun _ => [Ch.own (rSlice E (rFlat α enc h1)) [v] (cpyI xs lo (xs.take hi))]) := by
  refine opT_copy_any hT hE ho hx hy hlo hd fun w C hs => ?_
  obtain ⟨hb, hi', F, ⟨G, K, rfl, ⟨hl, e2⟩, e3⟩, h4, h5⟩ := hs
  rcases e2 with ⟨hv, rfl, rfl⟩ | ⟨g, cap, cur, K1, hv, k1, k2, k3, k4, rfl, k5⟩
  · obtain rfl : v = .slice none 0 0 := by simpa using hv
    obtain rfl : hi = 0 := by simpa using hhi
    exact ⟨none, 0, rfl, .inl (by simp)⟩
  · obtain rfl : v = .slice (some ⟨g, 0, none⟩) xs.length cap := by simpa using hv
    obtain ⟨rfl, rest, hcur⟩ := ownEls_flat.1 k5
    have hlen : ((xs.take hi).map enc).length = hi := by rw [List.length_map, List.length_take]; omega
    refine ⟨some ⟨g, 0, none⟩, cap, by rw [hlen]; simp [subV, sliced, Addr.add_mid], .inr ⟨_, rfl, fun j u hj => ?_⟩⟩
    simp only [Addr.add_mid, World.cell?, k1, Nat.zero_add]
    rw [← Array.getElem?_toList, hcur, List.map_take] at *
    rw [List.getElem?_take] at hj
    split at hj
    · rw [List.getElem?_append_left (by have := (List.getElem?_eq_some_iff.1 hj).1; exact this)]; exact hj
    · cases hj
section
variable {n : Nat} {a : Act} {L : List (Nat × Value)} {Q : Exit → Act → World → Prop} {ops : Array Oper} {rest : List Oper} {C C0 rn_ : List Ch} {v : Value} {g d : Nat} {want b : Bool} {fact : Value → Prop} {gv : Value → List Ch}
theorem rn {l : List Oper} (ha : Agr n a L) (hs : St I w0 w C) (k : ∀ a w, Agr n a L → St I w0 w C → wpList P ops Q l a w) : wpList P ops Q l a w := k a w ha hs
theorem sv (hop : OpT P I w0 o (evL L) [] (· = v) (fun _ => [])) (hg : o.guard = none) (hk : (knowsAll L o && dstOk n o.dst && noSelect o) = true)
    (k : ∀ a w, Agr n a (putL o.dst v L) → St I w0 w C → wpList P ops Q rest a w) : ∀ a w, Agr n a L → St I w0 w C → wpList P ops Q (o :: rest) a w :=
  fun a w ha hs => seq_op0 ha hs hop hg hk fun u a w e A S => k a w (e ▸ A) S
theorem svg (hg : o.guard = some (g, want)) (hd : ((ops[g]?).bind (·.dst)) = some d) (hv : L.lookup d = some (.bool b)) (hb : b = want) (hop : OpT P I w0 o (evL L) [] (· = v) (fun _ => [])) (hk : (knowsAll L o && dstOk n o.dst && noSelect o) = true)
    (k : ∀ a w, Agr n a (putL o.dst v L) → St I w0 w C → wpList P ops Q rest a w) : ∀ a w, Agr n a L → St I w0 w C → wpList P ops Q (o :: rest) a w :=
  fun a w ha hs => seq_op_g0 ha hs hg hd hv hb hop hk fun u a w e A S => k a w (e ▸ A) S
theorem so0 (hop : OpT P I w0 o (evL L) [] fact (fun _ => [])) (hg : o.guard = none) (hk : (knowsAll L o && dstOk n o.dst && noSelect o) = true)
    (k : ∀ v a w, fact v → Agr n a (putL o.dst v L) → St I w0 w C → wpList P ops Q rest a w) : ∀ a w, Agr n a L → St I w0 w C → wpList P ops Q (o :: rest) a w :=
  fun a w ha hs => seq_op0 ha hs hop hg hk k
theorem so0g (hg : o.guard = some (g, want)) (hd : ((ops[g]?).bind (·.dst)) = some d) (hv : L.lookup d = some (.bool b)) (hb : b = want) (hop : OpT P I w0 o (evL L) [] fact (fun _ => [])) (hk : (knowsAll L o && dstOk n o.dst && noSelect o) = true)
    (k : ∀ v a w, fact v → Agr n a (putL o.dst v L) → St I w0 w C → wpList P ops Q rest a w) : ∀ a w, Agr n a L → St I w0 w C → wpList P ops Q (o :: rest) a w :=
  fun a w ha hs => seq_op_g0 ha hs hg hd hv hb hop hk k
theorem sop (hop : OpT P I w0 o (evL L) rn_ fact gv) (hp : C0.Perm (rn_ ++ C)) (hg : o.guard = none) (hk : (knowsAll L o && dstOk n o.dst && noSelect o) = true)
    (k : ∀ v a w, fact v → Agr n a (putL o.dst v L) → St I w0 w (gv v ++ C) → wpList P ops Q rest a w) : ∀ a w, Agr n a L → St I w0 w C0 → wpList P ops Q (o :: rest) a w :=
  fun a w ha hs => seq_op ha hs hg hop hp hk k
theorem sopg (hg : o.guard = some (g, want)) (hd : ((ops[g]?).bind (·.dst)) = some d) (hv : L.lookup d = some (.bool b)) (hb : b = want) (hop : OpT P I w0 o (evL L) rn_ fact gv) (hp : C0.Perm (rn_ ++ C)) (hk : (knowsAll L o && dstOk n o.dst && noSelect o) = true)
    (k : ∀ v a w, fact v → Agr n a (putL o.dst v L) → St I w0 w (gv v ++ C) → wpList P ops Q rest a w) : ∀ a w, Agr n a L → St I w0 w C0 → wpList P ops Q (o :: rest) a w :=
  fun a w ha hs => seq_op_g ha hs hg hd hv hb hop hp hk k
theorem ssk (hg : o.guard = some (g, want)) (hd : ((ops[g]?).bind (·.dst)) = some d) (hv : L.lookup d = some (.bool b)) (hb : b = !want) (hn : dstOk n o.dst = true)
    (k : ∀ a w, Agr n a (putL o.dst undef L) → St I w0 w C → wpList P ops Q rest a w) : ∀ a w, Agr n a L → St I w0 w C → wpList P ops Q (o :: rest) a w :=
  fun a w ha hs => seq_skip ha hs hg hd hv hb hn fun a A => k a w A hs
theorem ssu (hg : o.guard = some (g, want)) (hd : ((ops[g]?).bind (·.dst)) = some d) (hv : L.lookup d = some undef) (hn : dstOk n o.dst = true)
    (k : ∀ a w, Agr n a (putL o.dst undef L) → St I w0 w C → wpList P ops Q rest a w) : ∀ a w, Agr n a L → St I w0 w C → wpList P ops Q (o :: rest) a w :=
  fun a w ha hs => seq_skip_u ha hs hg hd hv hn fun a A => k a w A hs
end
theorem Agr.pk {n : Nat} {a : Act} {L L' : List (Nat × Value)} (h : Agr n a L) (k : L'.map (fun p => L.lookup p.1) = L'.map (fun p => some p.2)) : Agr n a L' :=
  h.pick L' fun p hp => by
    obtain ⟨i, hi, rfl⟩ := List.getElem_of_mem hp
    have := congrArg (fun l : List (Option Value) => l[i]?) k
    simpa [hi] using this
theorem enR {n : Nat} {L L' : List (Nat × Value)} {Q : Exit → Act → World → Prop} {ops : Array Oper} {C : List Ch} (h : L'.map (fun p => L.lookup p.1) = L'.map (fun p => some p.2)) (k : ∀ a w, Agr n a L' → St I w0 w C → Q .normal a w) : ∀ a w, Agr n a L → St I w0 w C → wpList P ops Q [] a w :=
  fun a w ha hs => wpList_nil (k a w (ha.pk h) hs)
theorem ti_one {T : TypeId} {agg : Bool} (h : TI P T agg 1) : (P.info? T).map (·.size) = some 1 := h.2
theorem sub_l {l : Int} {n : Nat} (h : 0 ≤ l ∧ l ≤ (n : Int)) : l.toNat ≤ n := by omega
theorem sub_h {l : Int} {n : Nat} (h : 0 ≤ l ∧ l ≤ (n : Int)) : l.toNat ≤ n := by omega
theorem sub_lh {l h : Int} {n : Nat} (k : 0 ≤ l ∧ l ≤ h ∧ h ≤ (n : Int)) : l.toNat ≤ h.toNat ∧ h.toNat ≤ n := by omega
end
end Go.Proofs.Ytfkocnnphjkmfaa.D
