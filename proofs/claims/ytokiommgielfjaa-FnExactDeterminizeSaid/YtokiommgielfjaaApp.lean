/- Appending one integer, one bool, one slice of integers. -/
import Derived.Test.YtokiommgielfjaaGrow
import Derived.Test.YtokiommgielfjaaH
set_option linter.unusedVariables false
set_option linter.unusedSimpArgs false
namespace Go.Proofs.Ytokiommgielfjaa
open Go.RowKit
section
variable {w0 w : World} {r : List Ch}
theorem wpList_append_int {ops : Array Oper} {rest : List Oper} {o : Oper} {a : Act} {Q : Exit → Act → World → Prop} (hgd : o.guard = none) (s y : Operand)
    (ho : o.op = .call { callee := .builtin .append, args := #[s, y], argTypes := #[38, 38] })
    (v : Value) (xs : List Int) (x : Int) (h : St w0 w (Ch.own rIntS [v] xs :: r)) (hx : I64 x) (hlen : xs.length ≤ 1099511627776) {cap : Nat}
    (hs : a.eval s = v) (hy : a.eval y = .slice (some ⟨w.heap.size, 0, none⟩) 1 cap)
    (hk : ∀ g cap' w', St w0 w' (Ch.own rIntS [.slice (some ⟨g, 0, none⟩) (xs.length + 1) cap'] (xs ++ [x]) :: r) → wpList Try.prog ops Q rest (a.put o.dst (.slice (some ⟨g, 0, none⟩) (xs.length + 1) cap')) w') :
    wpList Try.prog ops Q (o :: rest) a (w.alloc (.cells #[.int .i64 x] 3)) := by
  obtain ⟨i0, hi, hz0, hz1, hz2⟩ := info_parts (show (Try.prog.info? 3).map (fun i => (i.zero, i.size, i.bytes)) = some (some (.int .i64 0), 1, 8) by kernel_rfl)
  exact wpList_append_st hgd s y 38 ho Try.underlying38 hi hz0 hz1 hz2 rfl (by decide) rfl v xs [.int .i64 x] x ((h.int hx).perm (List.Perm.swap _ _ _)) (by unfold lim; omega) (by omega) hs hy hk
theorem wpList_append_bool {ops : Array Oper} {rest : List Oper} {o : Oper} {a : Act} {Q : Exit → Act → World → Prop} (hgd : o.guard = none) (s y : Operand)
    (ho : o.op = .call { callee := .builtin .append, args := #[s, y], argTypes := #[42, 42] })
    (v : Value) (xs : List Bool) (x : Bool) (h : St w0 w (Ch.own rBoolS [v] xs :: r)) (hlen : xs.length ≤ 1099511627776) {cap : Nat}
    (hs : a.eval s = v) (hy : a.eval y = .slice (some ⟨w.heap.size, 0, none⟩) 1 cap)
    (hk : ∀ g cap' w', St w0 w' (Ch.own rBoolS [.slice (some ⟨g, 0, none⟩) (xs.length + 1) cap'] (xs ++ [x]) :: r) → wpList Try.prog ops Q rest (a.put o.dst (.slice (some ⟨g, 0, none⟩) (xs.length + 1) cap')) w') :
    wpList Try.prog ops Q (o :: rest) a (w.alloc (.cells #[.bool x] 4)) := by
  obtain ⟨i0, hi, hz0, hz1, hz2⟩ := info_parts (show (Try.prog.info? 4).map (fun i => (i.zero, i.size, i.bytes)) = some (some (.bool false), 1, 1) by kernel_rfl)
  exact wpList_append_st hgd s y 42 ho Try.underlying42 hi hz0 hz1 hz2 rfl (by decide) rfl v xs [.bool x] x (h.bool.perm (List.Perm.swap _ _ _)) (by unfold lim; omega) (by omega) hs hy hk
theorem step_append_bool {ops : Array Oper} {o : Oper} {a : Act} {K : Act → World → Prop} {Q : Exit → Act → World → Prop} {Z : Prop} (hgd : o.guard = none) (s y : Operand)
    (ho : o.op = .call { callee := .builtin .append, args := #[s, y], argTypes := #[42, 42] })
    (v : Value) (xs : List Bool) (x : Bool) (h : St w0 w (Ch.own rBoolS [v] xs :: r)) (hlen : xs.length ≤ 1099511627776) {cap : Nat}
    (hs : a.eval s = v) (hy : a.eval y = .slice (some ⟨w.heap.size, 0, none⟩) 1 cap)
    (hk : ∀ g cap' w', St w0 w' (Ch.own rBoolS [.slice (some ⟨g, 0, none⟩) (xs.length + 1) cap'] (xs ++ [x]) :: r) → K (a.put o.dst (.slice (some ⟨g, 0, none⟩) (xs.length + 1) cap')) w') :
    if Region.wanted o (yielded ops a.tmps) = true then Oper.wp Try.prog o a (w.alloc (.cells #[.bool x] 4)) K Q else Z := by
  obtain ⟨i0, hi, hz0, hz1, hz2⟩ := info_parts (show (Try.prog.info? 4).map (fun i => (i.zero, i.size, i.bytes)) = some (some (.bool false), 1, 1) by kernel_rfl)
  exact step_append_st hgd s y 42 ho Try.underlying42 hi hz0 hz1 hz2 rfl (by decide) rfl v xs [.bool x] x (h.bool.perm (List.Perm.swap _ _ _)) (by unfold lim; omega) (by omega) hs hy hk
theorem wpList_append_ints {ops : Array Oper} {rest : List Oper} {o : Oper} {a : Act} {Q : Exit → Act → World → Prop} (hgd : o.guard = none) (s y : Operand)
    (ho : o.op = .call { callee := .builtin .append, args := #[s, y], argTypes := #[43, 43] })
    (v u : Value) (xs : List (List Int)) (x : List Int) (h : St w0 w (Ch.own rIntSS [v] xs :: Ch.own rIntS [u] x :: r)) (hlen : xs.length ≤ 1099511627776) {cap : Nat}
    (hs : a.eval s = v) (hy : a.eval y = .slice (some ⟨w.heap.size, 0, none⟩) 1 cap)
    (hk : ∀ g cap' w', St w0 w' (Ch.own rIntSS [.slice (some ⟨g, 0, none⟩) (xs.length + 1) cap'] (xs ++ [x]) :: r) → wpList Try.prog ops Q rest (a.put o.dst (.slice (some ⟨g, 0, none⟩) (xs.length + 1) cap')) w') :
    wpList Try.prog ops Q (o :: rest) a (w.alloc (.cells #[u] 38)) := by
  obtain ⟨i0, hi, hz0, hz1, hz2⟩ := info_parts (show (Try.prog.info? 38).map (fun i => (i.zero, i.size, i.bytes)) = some (some (.slice none 0 0), 1, 24) by kernel_rfl)
  exact wpList_append_st hgd s y 43 ho Try.underlying43 hi hz0 hz1 hz2 rfl (by decide) rfl v xs [u] x h (by unfold lim; omega) (by omega) hs hy hk
theorem St.cell_int {E : TypeId} {g n cap k : Nat} {xs : List Int} {x : Int} (h : St w0 w (Ch.own (rSlice E rInt) [.slice (some ⟨g, 0, none⟩) n cap] xs :: r)) (hx : xs[k]? = some x) : w.cell? ⟨g, k, none⟩ = some (.int .i64 x) := by
  obtain ⟨ao, cap', b, off, hv, hl, hao, hc⟩ := flat_open (enc := Value.int .i64) (ok := I64) (h1 := fun _ => rfl) (h.rd 0 rfl)
  have hlt := (List.getElem?_eq_some_iff.1 hx).1
  obtain ⟨rfl, hb⟩ := hao (by omega)
  simp at hv
  obtain ⟨⟨rfl, rfl⟩, -, -⟩ := hv
  simpa using (hc k x hx).1
end
end Go.Proofs.Ytokiommgielfjaa
