/- From the form's reading of an argument to a representation: every data type of the program is opened by these laws. No program text is named here. -/
import Derived.Test.YtfkocnnphjkmfaaFlow
import Derived.Deep.Slices
set_option linter.unusedVariables false
set_option linter.unusedSimpArgs false
set_option linter.unnecessarySimpa false
namespace Go.Proofs.Ytfkocnnphjkmfaa.D
open Go.RowKit

def I64 (n : Int) : Prop := -9223372036854775808 ≤ n ∧ n ≤ 9223372036854775807
/-- data within the bounds of the machine ('lim'), and small data, as the laws let through ('sm') -/
class Data (α : Type) where
  lim : α → Prop
  sm : α → Prop
instance : Data Int := ⟨I64, fun _ => True⟩
instance : Data Bool := ⟨fun _ => True, fun _ => True⟩
instance : Data ByteArray := ⟨fun s => s.size ≤ 9223372036854775807, fun s => s.size ≤ 1048576⟩
instance {α β : Type} [Data α] [Data β] : Data (α × β) := ⟨fun x => Data.lim x.1 ∧ Data.lim x.2, fun x => Data.sm x.1 ∧ Data.sm x.2⟩
instance {α : Type} [Data α] : Data (List α) := ⟨fun xs => xs.length ≤ 9223372036854775807 ∧ ∀ x, x ∈ xs → Data.lim x, fun xs => xs.length ≤ 1048576 ∧ ∀ x, x ∈ xs → Data.sm x⟩
/-- What the form reads as a value of the type t, R reads too. -/
structure Opens (P : Program) (t : TypeId) {α : Type} [Data α] (R : Rep α) : Prop where
  out : ∀ {H : Type} (enc : TypeId × Value → H) (w : World) (fuel : Nat) (cs : List Value) (x : DataW H × List MemPlace), DataW.trod enc P w 0 (fun _ => true) true fuel t cs = some x → ∃ a : α, R.rd (hp w) cs a ∧ Data.lim a

theorem opens_int {P : Program} {t : TypeId} (h : P.underlying t = some (.int .i64)) : Opens P t rInt := by
  constructor
  intro H enc w fuel cs x hx
  obtain ⟨n, rfl, -, hw⟩ := DataW.trod_int h hx
  refine ⟨n, rfl, show I64 n from ?_⟩
  simp [Lit.wf, IntKind.min, IntKind.max, IntKind.signed, IntKind.bits] at hw
  unfold I64
  omega
theorem opens_bool {P : Program} {t : TypeId} (h : P.underlying t = some .bool) : Opens P t rBool := by
  constructor
  intro H enc w fuel cs x hx
  obtain ⟨n, rfl, -⟩ := DataW.trod_bool h hx
  exact ⟨n, rfl, trivial⟩
theorem opens_string {P : Program} {t : TypeId} (h : P.underlying t = some .string) : Opens P t rStr := by
  constructor
  intro H enc w fuel cs x hx
  obtain ⟨n, rfl, -, hm⟩ := DataW.trod_string h hx
  exact ⟨n, rfl, show n.size ≤ _ by unfold maxLen at hm; omega⟩
theorem opens_slice {P : Program} {t e : TypeId} {α : Type} [Data α] {R : Rep α} {E : TypeId} (h : P.underlying t = some (.slice e)) (hc : P.cellsOf e = R.size) (h0 : 0 < R.size) (he : Opens P e R) : Opens P t (rSlice E R) := by
  constructor
  intro H enc w fuel cs x hx
  rcases Go.Deep.open_slice h hx with ⟨rfl, -⟩ | ⟨a, len, cap, m, n, D, Pl, rfl, -, hl, hm, hmm, -, hel⟩
  · exact ⟨[], ⟨none, 0, rfl, by simp, .inl rfl⟩, Nat.zero_le _, fun x hx => by cases hx⟩
  have hlm : m = cap := by simpa using hmm
  subst hlm
  rw [hc] at hel
  by_cases hz : len = 0
  · subst hz
    exact ⟨[], ⟨some a, m, rfl, by simp, .inl rfl⟩, Nat.zero_le _, fun x hx => by cases hx⟩
  · have hone : ∀ i, i < len → ∃ c : List Value, ∃ y : α, c.length = R.size ∧ (∀ j, j < R.size → w.cell? ((a.add (i * R.size)).add j) = c[j]?) ∧ R.rd (hp w) c y ∧ Data.lim y := by
      intro i hi
      obtain ⟨c, h1, h2⟩ := hel i (by omega)
      obtain ⟨-, h3, h4⟩ := World.cells?_some h1
      obtain ⟨y, hy⟩ := he.out enc w _ _ _ h2
      exact ⟨c, y, h3, h4, hy⟩
    obtain ⟨c0, y0, hc0, hr0, -⟩ := hone 0 (by omega)
    have h00 := hr0 0 h0
    have hsome : ∃ v, c0[0]? = some v := ⟨_, List.getElem?_eq_getElem (by omega)⟩
    obtain ⟨v, hv⟩ := hsome
    rw [hv] at h00
    have ha : (a.add (0 * R.size)).add 0 = a := by simp [Addr.add]
    rw [ha] at h00
    obtain ⟨b, off, spot⟩ := a
    have hb : ∃ ccs T fr, w.heap[b]? = some (.cells ccs T fr) ∧ spot = none := by
      simp only [World.cell?] at h00
      split at h00
      · rename_i ccs T fr heq
        cases spot with
        | none => exact ⟨ccs, T, fr, heq, rfl⟩
        | some s => simp at h00
      · simp at h00
    obtain ⟨ccs, T, fr, hh, rfl⟩ := hb
    have hadd : ∀ i j, (Addr.add ⟨b, off, none⟩ i).add j = ⟨b, off + i + j, none⟩ := by
      intro i j
      by_cases h1 : i = 0 <;> by_cases h2 : j = 0 <;> simp [Addr.add, h1, h2, Nat.add_assoc]
    haveI : Inhabited α := ⟨y0⟩
    obtain ⟨X, hX⟩ := Go.Deep.choose_lt (α := α) (n := len) (p := fun i y => ∃ c : List Value, c.length = R.size ∧ (∀ j, j < R.size → ccs.toList[off + i * R.size + j]? = c[j]?) ∧ R.rd (hp w) c y ∧ Data.lim y) (fun i hi => by
      obtain ⟨c, y, h1, h2, h3⟩ := hone i hi
      refine ⟨y, c, h1, fun j hj => ?_, h3⟩
      have := h2 j hj
      rw [hadd] at this
      simp only [World.cell?, hh] at this
      simpa using this)
    have hlen : ((List.range len).map X).length = len := by simp
    have hel2 : ∀ i y, ((List.range len).map X)[i]? = some y → i < len ∧ y = X i := fun i y hy => by
      have hi : i < len := by have := (List.getElem?_eq_some_iff.1 hy).1; omega
      exact ⟨hi, by simpa [hi] using hy.symm⟩
    refine ⟨(List.range len).map X, ⟨some ⟨b, off, none⟩, m, by rw [hlen], by rw [hlen]; unfold maxLen at hm; unfold lim; omega, .inr ⟨b, off, ccs, T, fr, rfl, hh, fun i y hy => ?_⟩⟩, by rw [hlen]; unfold maxLen at hm; omega, fun y hy => ?_⟩
    · obtain ⟨hi, rfl⟩ := hel2 i y hy
      obtain ⟨c, e1, e2, e3, -⟩ := hX i hi
      exact ⟨c, e1, e2, e3⟩
    · obtain ⟨i, hi, he⟩ := List.mem_iff_getElem?.1 hy |>.imp fun i hi => hel2 i y hi
      obtain ⟨-, -, -, -, e4⟩ := hX i hi
      rw [he]; exact e4

/-- .. of the fields of a struct, from the offset o on. -/
structure OpensFs (P : Program) (fs : List Field) (o : Nat) {α : Type} [Data α] (R : Rep α) : Prop where
  out : ∀ {H : Type} (enc : TypeId × Value → H) (w : World) (fuel : Nat) (cs : List Value) , cs.length = o + R.size →
    (∀ f ∈ fs, ∃ x, DataW.trod enc P w 0 (fun _ => true) true fuel f.type ((cs.drop f.offset).take (P.cellsOf f.type)) = some x) → ∃ a : α, R.rd (hp w) (cs.drop o) a ∧ Data.lim a
theorem opens_last {P : Program} {f : Field} {o : Nat} {α : Type} [Data α] {R : Rep α} (ho : f.offset = o) (hc : P.cellsOf f.type = R.size) (h : Opens P f.type R) : OpensFs P [f] o R := by
  constructor
  intro H enc w fuel cs hl hx
  obtain ⟨x, hx⟩ := hx f (by simp)
  rw [ho, hc, List.take_of_length_le (by rw [List.length_drop]; omega)] at hx
  exact h.out enc w _ _ _ hx
theorem opens_next {P : Program} {f : Field} {fs : List Field} {o : Nat} {α β : Type} [Data α] [Data β] {R : Rep α} {S : Rep β} (ho : f.offset = o) (hc : P.cellsOf f.type = R.size) (h : Opens P f.type R) (hs : OpensFs P fs (o + R.size) S) : OpensFs P (f :: fs) o (rProd R S) := by
  constructor
  intro H enc w fuel cs hl hx
  have hl' : cs.length = o + (R.size + S.size) := hl
  obtain ⟨b, hb, hlb⟩ := hs.out enc w fuel cs (by omega) (fun g hg => hx g (by simp [hg]))
  obtain ⟨x, hx⟩ := hx f (by simp)
  rw [ho, hc] at hx
  obtain ⟨a, ha, hla⟩ := h.out enc w _ _ _ hx
  refine ⟨(a, b), ⟨(cs.drop o).take R.size, cs.drop (o + R.size), ?_, ha, hb⟩, hla, hlb⟩
  rw [← List.drop_drop, List.take_append_drop]
theorem opens_struct {P : Program} {t : TypeId} {fs : Array Field} {α : Type} [Data α] {R : Rep α} (h : P.underlying t = some (.struct fs)) (hc : P.cellsOf t = R.size) (hf : OpensFs P fs.toList 0 R) : Opens P t R := by
  constructor
  intro H enc w fuel cs x hx
  obtain ⟨xs, n, -, -, hl, hn, hel⟩ := DataW.trod_struct h hx
  have := hf.out enc w n cs (by omega) (fun f hm => by
    obtain ⟨i, hi, rfl⟩ := List.getElem_of_mem hm
    have h1 : fs[i]? = some fs.toList[i] := by simp
    exact ⟨_, (hel i _ h1).trans (List.getElem?_eq_getElem (by simp at hi; omega))⟩)
  simpa using this
theorem St.below {w0 w : World} {cs : List Ch} (h : St (hp w0) w0 w cs) : Below w0.heap.size w0 w := by
  obtain ⟨⟨h1, h2, h3, h4⟩, h5, -⟩ := h
  refine ⟨h1, h2, h3, h4, fun b hb => ?_⟩
  have e : w0.heap[b]? = some w0.heap[b] := Array.getElem?_eq_getElem hb
  rw [e]; exact h5 b _ e
end Go.Proofs.Ytfkocnnphjkmfaa.D
