/- FnExactReplayLog: for every input the law returns true and changes nothing that was there. Part 2 of 9. -/
import Derived.Test.YtfkjjnddefojjaaGreatDoorRows
import Derived.WalkKit
import Derived.WalkSpells
import Derived.WalkLawsBesides
import Derived.ProofKit
import Derived.Orders
import Derived.Deep.MidRow
import Derived.Maps.AppendAt
import Derived.OwnWalk
import Derived.Great.BuildSlice
import Derived.Shelf.Abstract
import Derived.Laws.StructEq
import Derived.Lib.SliceRun
import Derived.Maps.OwnSet
import Derived.DeepKeys4
import Derived.Laws.CopyRow
import Derived.Lib.LaidTab
import Derived.Lib.ItoaNum
import Derived.Lib.AppendZeros
import Derived.Lib.Overlaps
import Derived.Laws.AppendOwn
import Derived.Shelf.Strings.OnBuilder
import Derived.Shelf.Strconv.Itoa3
import Derived.Sort.Grow
import Derived.Shelf.Strings.Split
import Derived.Shelf.Strings.Cut
import Derived.Shelf.Small.Strs
import Derived.Shelf.Strconv.Atoi
import Derived.Shelf.Strconv.ErrVar
import Derived.Lib.AtoiBound
import Derived.Shelf.LaysM
import Derived.Shelf.LaysC
import Derived.Test.YtfkjjnddefojjaaGreatDoorProg
import Derived.Deep.Slices
import Derived.Lib.ItoaLen
import Derived.Lib.Join
import Derived.Lib.Atoi
import Derived.Lib.Split
import Derived.Test.YtfkjjnddefojjaaGreatDoorCards
import Derived.Test.YtfkjjnddefojjaaGreatDoorTie
import Derived.LaidMore
import Derived.OpenShut
import Derived.Stop.Joined
import Derived.SevenTiedAt
import Derived.Stop.LaidErr
import Derived.SizedLaws
import Derived.Lay
set_option linter.unusedVariables false
set_option linter.unusedSimpArgs false
set_option linter.unnecessarySimpa false
set_option linter.unusedSectionVars false
/- How Go data lies in memory (read-only in a frozen part of the heap, or owned), and assertions on worlds. No program text is named here. -/
set_option linter.unusedVariables false
set_option linter.unusedSimpArgs false
set_option linter.unnecessarySimpa false
namespace Go.Proofs.YtfkjjnddefojjaaGreatDoor.D
open Go.RowKit

def lim : Nat := 9223372036854775807

/-! ### The frozen part of a heap -/
def Hp := Nat → Option Obj
def Hp.le (I J : Hp) : Prop := ∀ b o, I b = some o → J b = some o
def hp (w : World) : Hp := fun b => w.heap[b]?
theorem Hp.le.rfl {I : Hp} : I.le I := fun _ _ h => h
theorem Hp.le.trans {I J K : Hp} (h : I.le J) (k : J.le K) : I.le K := fun b o e => k b o (h b o e)

structure Rep (α : Type) where
  size : Nat
  rd : Hp → List Value → α → Prop
  own : Hp → World → List Value → α → List Nat → Prop
  rd_len : ∀ {I cs a}, rd I cs a → cs.length = size
  rd_one : ∀ {I cs a}, rd I cs a → ∀ u ∈ cs, u.oneCell' = true
  rd_mono : ∀ {I J cs a}, rd I cs a → I.le J → rd J cs a
  own_len : ∀ {I w cs a F}, own I w cs a F → cs.length = size
  own_one : ∀ {I w cs a F}, own I w cs a F → ∀ u ∈ cs, u.oneCell' = true
  own_mono : ∀ {I J w cs a F}, own I w cs a F → I.le J → own J w cs a F
  own_stay : ∀ {I w w' cs a F}, own I w cs a F → (∀ b, b ∈ F → w'.heap[b]? = w.heap[b]?) → own I w' cs a F
  own_live : ∀ {I w cs a F}, own I w cs a F → ∀ b, b ∈ F → b < w.heap.size
  own_rd : ∀ {I J w cs a F}, own I w cs a F → I.le J → (∀ b, b ∈ F → J b = w.heap[b]?) → rd J cs a

def rFlat (α : Type) (enc : α → Value) (h1 : ∀ a, (enc a).oneCell' = true) : Rep α where
  size := 1
  rd _ cs a := cs = [enc a]
  own _ _ cs a F := F = [] ∧ cs = [enc a]
  rd_len h := by rw [h]; rfl
  rd_one h := by rw [h]; intro u hu; simp at hu; subst hu; exact h1 _
  rd_mono h _ := h
  own_len h := by rw [h.2]; rfl
  own_one h := by rw [h.2]; intro u hu; simp at hu; subst hu; exact h1 _
  own_mono h _ := h
  own_stay h _ := h
  own_live h := by rw [h.1]; intro b hb; cases hb
  own_rd h _ _ := h.2

def rInt : Rep Int := rFlat Int (.int .i64) fun _ => rfl
def rBool : Rep Bool := rFlat Bool .bool fun _ => rfl
def rStr : Rep ByteArray := rFlat ByteArray .string fun _ => rfl

def rProd {α β : Type} (R : Rep α) (S : Rep β) : Rep (α × β) where
  size := R.size + S.size
  rd I cs x := ∃ c d, cs = c ++ d ∧ R.rd I c x.1 ∧ S.rd I d x.2
  own I w cs x F := ∃ c d G K, cs = c ++ d ∧ F = G ++ K ∧ R.own I w c x.1 G ∧ S.own I w d x.2 K
  rd_len := by
    rintro I cs x ⟨c, d, rfl, h1, h2⟩
    rw [List.length_append, R.rd_len h1, S.rd_len h2]
  rd_one := by
    rintro I cs x ⟨c, d, rfl, h1, h2⟩ u hu
    rcases List.mem_append.1 hu with h | h
    · exact R.rd_one h1 u h
    · exact S.rd_one h2 u h
  rd_mono := by
    rintro I J cs x ⟨c, d, rfl, h1, h2⟩ h
    exact ⟨c, d, rfl, R.rd_mono h1 h, S.rd_mono h2 h⟩
  own_len := by
    rintro I w cs x F ⟨c, d, G, K, rfl, rfl, h1, h2⟩
    rw [List.length_append, R.own_len h1, S.own_len h2]
  own_one := by
    rintro I w cs x F ⟨c, d, G, K, rfl, rfl, h1, h2⟩ u hu
    rcases List.mem_append.1 hu with h | h
    · exact R.own_one h1 u h
    · exact S.own_one h2 u h
  own_mono := by
    rintro I J w cs x F ⟨c, d, G, K, rfl, rfl, h1, h2⟩ h
    exact ⟨c, d, G, K, rfl, rfl, R.own_mono h1 h, S.own_mono h2 h⟩
  own_stay := by
    rintro I w w' cs x F ⟨c, d, G, K, rfl, rfl, h1, h2⟩ h
    exact ⟨c, d, G, K, rfl, rfl, R.own_stay h1 fun b hb => h b (List.mem_append_left _ hb), S.own_stay h2 fun b hb => h b (List.mem_append_right _ hb)⟩
  own_live := by
    rintro I w cs x F ⟨c, d, G, K, rfl, rfl, h1, h2⟩ b hb
    rcases List.mem_append.1 hb with h | h
    · exact R.own_live h1 b h
    · exact S.own_live h2 b h
  own_rd := by
    rintro I J w cs x F ⟨c, d, G, K, rfl, rfl, h1, h2⟩ hJ h
    exact ⟨c, d, rfl, R.own_rd h1 hJ fun b hb => h b (List.mem_append_left _ hb), S.own_rd h2 hJ fun b hb => h b (List.mem_append_right _ hb)⟩

def rFro {α : Type} (R : Rep α) : Rep α where
  size := R.size
  rd := R.rd
  own I _ cs a F := F = [] ∧ R.rd I cs a
  rd_len := R.rd_len
  rd_one := R.rd_one
  rd_mono := R.rd_mono
  own_len h := R.rd_len h.2
  own_one h := R.rd_one h.2
  own_mono h k := ⟨h.1, R.rd_mono h.2 k⟩
  own_stay h _ := h
  own_live h := by rw [h.1]; intro b hb; cases hb
  own_rd h k _ := R.rd_mono h.2 k

def OwnEls {α : Type} (R : Rep α) (I : Hp) (w : World) : List Value → List α → List Nat → Prop
  | _, [], F => F = []
  | cur, x :: xs, F => ∃ c rest G K, cur = c ++ rest ∧ c.length = R.size ∧ F = G ++ K ∧ R.own I w c x G ∧ OwnEls R I w rest xs K

section
variable {α : Type} {R : Rep α} {I J : Hp}
theorem OwnEls.stay {w w' : World} : ∀ {xs : List α} {cur F}, OwnEls R I w cur xs F → (∀ b, b ∈ F → w'.heap[b]? = w.heap[b]?) → OwnEls R I w' cur xs F
  | [], _, _, h, _ => h
  | x :: xs, cur, F, ⟨c, rest, G, K, h1, h2, h3, h4, h5⟩, h => by
    subst h3
    exact ⟨c, rest, G, K, h1, h2, rfl, R.own_stay h4 fun b hb => h b (List.mem_append_left _ hb), h5.stay fun b hb => h b (List.mem_append_right _ hb)⟩
theorem OwnEls.mono {w : World} : ∀ {xs : List α} {cur F}, OwnEls R I w cur xs F → I.le J → OwnEls R J w cur xs F
  | [], _, _, h, _ => h
  | x :: xs, cur, F, ⟨c, rest, G, K, h1, h2, h3, h4, h5⟩, h => ⟨c, rest, G, K, h1, h2, h3, R.own_mono h4 h, h5.mono h⟩
theorem OwnEls.live {w : World} : ∀ {xs : List α} {cur F}, OwnEls R I w cur xs F → ∀ b, b ∈ F → b < w.heap.size
  | [], _, _, h, b, hb => by rw [show _ = [] from h] at hb; cases hb
  | x :: xs, cur, F, ⟨c, rest, G, K, _, _, h3, h4, h5⟩, b, hb => by
    subst h3
    rcases List.mem_append.1 hb with h | h
    · exact R.own_live h4 b h
    · exact h5.live b h
theorem OwnEls.at {w : World} : ∀ {xs : List α} {cur F}, OwnEls R I w cur xs F → I.le J → (∀ b, b ∈ F → J b = w.heap[b]?) → ∀ (i : Nat) x, xs[i]? = some x → ∃ c : List Value, c.length = R.size ∧ (∀ j, j < R.size → cur[i * R.size + j]? = c[j]?) ∧ R.rd J c x
  | [], _, _, _, _, _, i, x, hx => by simp at hx
  | y :: xs, cur, F, ⟨c, rest, G, K, h1, h2, h3, h4, h5⟩, hJ, hB, i, x, hx => by
    subst h3; subst h1
    match i, hx with
    | 0, hx =>
      simp at hx; subst hx
      exact ⟨c, h2, fun j hj => by rw [Nat.zero_mul, Nat.zero_add, List.getElem?_append_left (by omega)], R.own_rd h4 hJ fun b hb => hB b (List.mem_append_left _ hb)⟩
    | i + 1, hx =>
      obtain ⟨d, e1, e2, e3⟩ := h5.at hJ (fun b hb => hB b (List.mem_append_right _ hb)) i x (by simpa using hx)
      refine ⟨d, e1, fun j hj => ?_, e3⟩
      rw [List.getElem?_append_right (by rw [h2, Nat.add_mul]; omega), h2]
      rw [show (i + 1) * R.size + j - R.size = i * R.size + j from by rw [Nat.add_mul]; omega]
      exact e2 j hj
theorem OwnEls.len {w : World} : ∀ {xs : List α} {cur F}, OwnEls R I w cur xs F → xs.length * R.size ≤ cur.length
  | [], _, _, _ => by simp
  | y :: xs, cur, F, ⟨c, rest, G, K, h1, h2, h3, h4, h5⟩ => by
    subst h1
    have := h5.len
    rw [List.length_append, List.length_cons, Nat.add_mul]; omega
theorem OwnEls.rest {w : World} : ∀ {xs : List α} {cur cur' F}, OwnEls R I w cur xs F → cur'.take (xs.length * R.size) = cur.take (xs.length * R.size) → OwnEls R I w cur' xs F
  | [], _, _, _, h, _ => h
  | y :: xs, cur, cur', F, ⟨c, rest, G, K, h1, h2, h3, h4, h5⟩, h => by
    subst h1
    have hl := h5.len
    rw [List.length_cons, Nat.add_mul, Nat.one_mul, Nat.add_comm] at h
    rw [List.take_append, List.take_of_length_le (l := c) (by omega), h2, Nat.add_sub_cancel_left] at h
    have e0 : cur'.take R.size = c := by
      have := congrArg (List.take R.size) h
      rw [List.take_take, Nat.min_eq_left (by omega), ← h2, List.take_left, h2] at this
      exact this
    refine ⟨c, cur'.drop R.size, G, K, ?_, h2, h3, h4, h5.rest ?_⟩
    · rw [← e0, List.take_append_drop]
    · have := congrArg (List.drop R.size) h
      rw [← h2, List.drop_left, List.drop_take, h2] at this
      rw [← this]; congr 1; omega
theorem OwnEls.join {w : World} : ∀ {xs ys : List α} {cur rest F G}, OwnEls R I w cur xs F → cur.length = xs.length * R.size → OwnEls R I w rest ys G → OwnEls R I w (cur ++ rest) (xs ++ ys) (F ++ G)
  | [], ys, cur, rest, F, G, h, hl, k => by
    have : cur = [] := List.eq_nil_of_length_eq_zero (by simpa using hl)
    subst this
    rw [show F = [] from h]
    exact k
  | x :: xs, ys, cur, rest, F, G, ⟨c, r, G1, K, h1, h2, h3, h4, h5⟩, hl, k => by
    subst h1; subst h3
    refine ⟨c, r ++ rest, G1, K ++ G, by simp, h2, by simp, h4, h5.join ?_ k⟩
    rw [List.length_append, List.length_cons, Nat.add_mul] at hl; omega
theorem OwnEls.parts {w : World} : ∀ {xs ys : List α} {cur F}, OwnEls R I w cur (xs ++ ys) F → ∃ G K, F = G ++ K ∧ OwnEls R I w cur xs G ∧ OwnEls R I w (cur.drop (xs.length * R.size)) ys K
  | [], ys, cur, F, h => ⟨[], F, rfl, rfl, by simpa using h⟩
  | x :: xs, ys, cur, F, ⟨c, r, G1, K, h1, h2, h3, h4, h5⟩ => by
    obtain ⟨G, K', e1, e2, e3⟩ := h5.parts
    subst h1; subst h3; subst e1
    refine ⟨G1 ++ G, K', by simp, ⟨c, r, G1, G, rfl, h2, rfl, h4, e2⟩, ?_⟩
    rw [List.length_cons, Nat.add_mul, Nat.one_mul, Nat.add_comm, List.drop_append, List.drop_of_length_le (by omega), h2, Nat.add_sub_cancel_left]
    simpa using e3
end

def rSlice {α : Type} (E : TypeId) (R : Rep α) : Rep (List α) where
  size := 1
  rd I cs xs := ∃ ao cap, cs = [.slice ao xs.length cap] ∧ (xs.length ≤ lim ∧ xs.length ≤ cap) ∧ (xs = [] ∨ ∃ b off ccs t fr, ao = some ⟨b, off, none⟩ ∧ I b = some (.cells ccs t fr) ∧
    ∀ i x, xs[i]? = some x → ∃ c : List Value, c.length = R.size ∧ (∀ j, j < R.size → ccs.toList[off + i * R.size + j]? = c[j]?) ∧ R.rd I c x)
  own I w cs xs F := xs.length ≤ lim ∧ ((cs = [.slice none 0 0] ∧ xs = [] ∧ F = []) ∨
    ∃ g ofs cap cur K, cs = [.slice (some ⟨g, ofs, none⟩) xs.length cap] ∧ w.heap[g]? = some (.cells cur E (0, 0)) ∧ xs.length ≤ cap ∧ cap ≤ maxLen ∧ ofs + cap * R.size ≤ cur.size ∧ F = g :: K ∧ OwnEls R I w (cur.toList.drop ofs) xs K)
  rd_len := by rintro I cs xs ⟨ao, cap, rfl, _⟩; rfl
  rd_one := by rintro I cs xs ⟨ao, cap, rfl, _⟩ u hu; simp at hu; subst hu; rfl
  rd_mono := by
    rintro I J cs xs ⟨ao, cap, rfl, hl, h⟩ hJ
    refine ⟨ao, cap, rfl, hl, ?_⟩
    rcases h with h | ⟨b, off, ccs, t, fr, h1, h2, h4⟩
    · exact .inl h
    · exact .inr ⟨b, off, ccs, t, fr, h1, hJ _ _ h2, fun i x hx => let ⟨c, e1, e2, e3⟩ := h4 i x hx; ⟨c, e1, e2, R.rd_mono e3 hJ⟩⟩
  own_len := by
    rintro I w cs xs F ⟨hl, h⟩
    rcases h with ⟨rfl, _⟩ | ⟨g, ofs, cap, cur, K, rfl, _⟩ <;> rfl
  own_one := by
    rintro I w cs xs F ⟨hl, h⟩ u hu
    rcases h with ⟨rfl, _⟩ | ⟨g, ofs, cap, cur, K, rfl, _⟩ <;> (simp at hu; subst hu; rfl)
  own_mono := by
    rintro I J w cs xs F ⟨hl, h⟩ hJ
    refine ⟨hl, ?_⟩
    rcases h with h | ⟨g, ofs, cap, cur, K, h1, h2, h3, h4, h5, h6, h7⟩
    · exact .inl h
    · exact .inr ⟨g, ofs, cap, cur, K, h1, h2, h3, h4, h5, h6, h7.mono hJ⟩
  own_stay := by
    rintro I w w' cs xs F ⟨hl, h⟩ hw
    refine ⟨hl, ?_⟩
    rcases h with h | ⟨g, ofs, cap, cur, K, h1, h2, h3, h4, h5, rfl, h6⟩
    · exact .inl h
    · exact .inr ⟨g, ofs, cap, cur, K, h1, by rw [hw g (by simp)]; exact h2, h3, h4, h5, rfl, h6.stay fun b hb => hw b (by simp [hb])⟩
  own_live := by
    rintro I w cs xs F ⟨hl, h⟩ b hb
    rcases h with ⟨_, _, rfl⟩ | ⟨g, ofs, cap, cur, K, h1, h2, h3, h4, h5, rfl, h6⟩
    · cases hb
    · rcases List.mem_cons.1 hb with rfl | hb
      · exact (Array.getElem?_eq_some_iff.1 h2).1
      · exact h6.live b hb
  own_rd := by
    rintro I J w cs xs F ⟨hl, h⟩ hJ hB
    rcases h with ⟨rfl, rfl, rfl⟩ | ⟨g, ofs, cap, cur, K, rfl, h2, h3, h4, h5, rfl, h6⟩
    · exact ⟨none, 0, rfl, by simp, .inl rfl⟩
    · refine ⟨some ⟨g, ofs, none⟩, cap, rfl, ⟨hl, h3⟩, .inr ⟨g, ofs, cur, E, (0, 0), rfl, by rw [hB g (by simp)]; exact h2, fun i x hx => ?_⟩⟩
      obtain ⟨c, e1, e2, e3⟩ := h6.at hJ (fun b hb => hB b (by simp [hb])) i x hx
      exact ⟨c, e1, fun j hj => by rw [Nat.add_assoc, ← List.getElem?_drop]; exact e2 j hj, e3⟩

/-! ### Assertions -/
structure Ch where
  holds : Hp → World → List Nat → Prop
  mono : ∀ {I J w F}, holds I w F → I.le J → holds J w F
  stay : ∀ {I w w' F}, holds I w F → (∀ b, b ∈ F → w'.heap[b]? = w.heap[b]?) → holds I w' F
  live : ∀ {I w F}, holds I w F → ∀ b, b ∈ F → b < w.heap.size

def Ch.own {α : Type} (R : Rep α) (cs : List Value) (a : α) : Ch := ⟨fun I w F => R.own I w cs a F, fun h => R.own_mono h, fun h => R.own_stay h, fun h => R.own_live h⟩
def Ch.blk (g : Nat) (cs : List Value) (E : TypeId) : Ch :=
  ⟨fun _ w F => F = [g] ∧ w.heap[g]? = some (.cells cs.toArray E (0, 0)), fun h _ => h, fun h hw => ⟨h.1, by rw [hw g (by rw [h.1]; simp)]; exact h.2⟩, fun h b hb => by rw [h.1] at hb; simp at hb; subst hb; exact (Array.getElem?_eq_some_iff.1 h.2).1⟩

def Sep (I : Hp) : List Ch → World → List Nat → Prop
  | [], _, F => F = []
  | c :: cs, w, F => ∃ G K, F = G ++ K ∧ c.holds I w G ∧ Sep I cs w K

section
variable {I J : Hp}
theorem Sep.stay {w w' : World} : ∀ {cs F}, Sep I cs w F → (∀ b, b ∈ F → w'.heap[b]? = w.heap[b]?) → Sep I cs w' F
  | [], _, h, _ => h
  | c :: cs, F, ⟨G, K, h1, h2, h3⟩, h => by
    subst h1
    exact ⟨G, K, rfl, c.stay h2 fun b hb => h b (List.mem_append_left _ hb), h3.stay fun b hb => h b (List.mem_append_right _ hb)⟩
theorem Sep.mono {w : World} : ∀ {cs F}, Sep I cs w F → I.le J → Sep J cs w F
  | [], _, h, _ => h
  | c :: cs, F, ⟨G, K, h1, h2, h3⟩, h => ⟨G, K, h1, c.mono h2 h, h3.mono h⟩
theorem Sep.live {w : World} : ∀ {cs F}, Sep I cs w F → ∀ b, b ∈ F → b < w.heap.size
  | [], _, h, b, hb => by rw [show _ = [] from h] at hb; cases hb
  | c :: cs, F, ⟨G, K, h1, h2, h3⟩, b, hb => by
    subst h1
    rcases List.mem_append.1 hb with h | h
    · exact c.live h2 b h
    · exact h3.live b h
theorem Sep.append {w : World} : ∀ {cs ds F G}, Sep I cs w F → Sep I ds w G → Sep I (cs ++ ds) w (F ++ G)
  | [], ds, F, G, h, k => by rw [show F = [] from h]; exact k
  | c :: cs, ds, F, G, ⟨G1, K, h1, h2, h3⟩, k => by
    subst h1
    exact ⟨G1, K ++ G, by simp, h2, h3.append k⟩
theorem Sep.split {w : World} : ∀ {cs ds F}, Sep I (cs ++ ds) w F → ∃ G K, F = G ++ K ∧ Sep I cs w G ∧ Sep I ds w K
  | [], ds, F, h => ⟨[], F, rfl, rfl, h⟩
  | c :: cs, ds, F, ⟨G, K, h1, h2, h3⟩ => by
    obtain ⟨G', K', e1, e2, e3⟩ := Sep.split h3
    subst e1; subst h1
    exact ⟨G ++ G', K', by simp, ⟨G, G', rfl, h2, e2⟩, e3⟩
theorem Sep.perm {w : World} {cs ds : List Ch} (h : cs.Perm ds) : ∀ {F}, Sep I cs w F → ∃ G, G.Perm F ∧ Sep I ds w G := by
  induction h with
  | nil => intro F h; exact ⟨F, .refl _, h⟩
  | cons c _ ih =>
    rintro F ⟨G, K, rfl, h2, h3⟩
    obtain ⟨K', e1, e2⟩ := ih h3
    exact ⟨G ++ K', e1.append_left G, G, K', rfl, h2, e2⟩
  | swap a b l =>
    rintro F ⟨G, K, rfl, h2, ⟨G', K', rfl, h4, h5⟩⟩
    exact ⟨G' ++ (G ++ K'), List.perm_append_comm_assoc _ _ _, G', G ++ K', rfl, h4, G, K', rfl, h2, h5⟩
  | trans _ _ ih1 ih2 =>
    intro F h
    obtain ⟨G, e1, e2⟩ := ih1 h
    obtain ⟨K, f1, f2⟩ := ih2 e2
    exact ⟨K, f1.trans e1, f2⟩
end

def St (I : Hp) (w0 w : World) (cs : List Ch) : Prop :=
  (w.os = w0.os ∧ w.tape = w0.tape ∧ w.output = w0.output ∧ w0.heap.size ≤ w.heap.size) ∧ I.le (hp w) ∧ ∃ F, Sep I cs w F ∧ F.Nodup ∧ ∀ b, b ∈ F → I b = none

section
variable {I J : Hp} {w0 w w' : World} {cs ds : List Ch}
theorem St.init (w : World) : St (hp w) w w [] := ⟨⟨rfl, rfl, rfl, Nat.le_refl _⟩, .rfl, [], rfl, List.nodup_nil, by simp⟩
theorem St.perm (h : St I w0 w cs) (hp : cs.Perm ds) : St I w0 w ds := by
  obtain ⟨hb, hi, F, h1, h2, h3⟩ := h
  obtain ⟨G, e1, e2⟩ := h1.perm hp
  exact ⟨hb, hi, G, e2, e1.nodup_iff.2 h2, fun b hb' => h3 b (e1.mem_iff.1 hb')⟩
theorem perm_front {α : Type} {l : List α} {c : α} : ∀ {i : Nat}, l[i]? = some c → l.Perm (c :: l.eraseIdx i) := by
  induction l with
  | nil => intro i h; simp at h
  | cons x l ih =>
    intro i h
    cases i with
    | zero => simp at h; subst h; exact .refl _
    | succ i => exact ((ih (by simpa using h)).cons x).trans (.swap _ _ _)
theorem St.front (h : St I w0 w cs) {c : Ch} (i : Nat) (hi : cs[i]? = some c) : St I w0 w (c :: cs.eraseIdx i) := h.perm (perm_front hi)
theorem St.tail {c : Ch} (h : St I w0 w (c :: cs)) : St I w0 w cs := by
  obtain ⟨hb, hi, F, ⟨G, K, rfl, e2, e3⟩, h2, h3⟩ := h
  exact ⟨hb, hi, K, e3, (List.nodup_append.1 h2).2.1, fun b hb' => h3 b (List.mem_append_right _ hb')⟩
theorem St.left (h : St I w0 w (cs ++ ds)) : St I w0 w cs := by
  obtain ⟨hb, hi, F, h1, h2, h3⟩ := h
  obtain ⟨G, K, rfl, e2, e3⟩ := h1.split
  exact ⟨hb, hi, G, e2, (List.nodup_append.1 h2).1, fun b hb' => h3 b (List.mem_append_left _ hb')⟩
theorem St.step {c : List Ch} {c' : List Ch} (h : St I w0 w (c ++ cs)) (ho : w'.os = w.os) (ht : w'.tape = w.tape) (hu : w'.output = w.output) (hz : w.heap.size ≤ w'.heap.size)
    (hs : ∀ F, Sep I c w F → F.Nodup → (∀ b, b ∈ F → I b = none) → (∀ b, b < w.heap.size → b ∉ F → w'.heap[b]? = w.heap[b]?) ∧ ∃ F', Sep I c' w' F' ∧ F'.Nodup ∧ ∀ b, b ∈ F' → b ∈ F ∨ w.heap.size ≤ b) : St I w0 w' (c' ++ cs) := by
  obtain ⟨⟨b1, b2, b3, b4⟩, hi, F, h1, h2, h3⟩ := h
  obtain ⟨G, K, rfl, e2, e3⟩ := h1.split
  obtain ⟨n1, n2, n3⟩ := List.nodup_append.1 h2
  obtain ⟨k1, G', k2, k3, k4⟩ := hs G e2 n1 fun b hb => h3 b (List.mem_append_left _ hb)
  have hK : ∀ b, b ∈ K → w'.heap[b]? = w.heap[b]? := fun b hb' => k1 b (e3.live b hb') fun hg => n3 b hg b hb' rfl
  have hlt : ∀ b o, I b = some o → b < w.heap.size := fun b o hb => (Array.getElem?_eq_some_iff.1 (hi b o hb)).1
  refine ⟨⟨ho.trans b1, ht.trans b2, hu.trans b3, Nat.le_trans b4 hz⟩, fun b o hb => ?_, G' ++ K, k2.append (e3.stay hK), List.nodup_append.2 ⟨k3, n2, ?_⟩, ?_⟩
  · show w'.heap[b]? = some o
    rw [k1 b (hlt b o hb) fun hg => by rw [h3 b (List.mem_append_left _ hg)] at hb; cases hb]
    exact hi b o hb
  · rintro b hb1 c hb2 rfl
    rcases k4 b hb1 with h | h
    · exact n3 b h b hb2 rfl
    · have := e3.live b hb2; omega
  · intro b hb'
    rcases List.mem_append.1 hb' with h | h
    · rcases k4 b h with h | h
      · exact h3 b (List.mem_append_left _ h)
      · cases hI : I b with
        | none => rfl
        | some o => have := hlt b o hI; omega
    · exact h3 b (List.mem_append_right _ h)
theorem St.drawn (h : St I w0 w cs) (ho : w'.os = w.os) (ht : w'.tape = w.tape) (hu : w'.output = w.output) (hz : w'.heap = w.heap) : St I w0 w' cs := by
  refine St.step (w := w) (c := []) (c' := []) h ho ht hu (by rw [hz]; exact Nat.le_refl _) ?_
  rintro F rfl - -
  exact ⟨fun b hb _ => by rw [hz], [], rfl, List.nodup_nil, by simp⟩
theorem St.drew (h : St I w0 w cs) : St I w0 w.drew cs := h.drawn rfl rfl rfl rfl
def Ch.fr (I : Hp) (cs : List Ch) : Ch := ⟨fun _ w F => Sep I cs w F, fun h _ => h, fun h => h.stay, fun h => h.live⟩
def Ch.deep (c : Ch) : Prop := ∀ {I J w F}, c.holds J w F → c.holds I w F
def Ch.deeps : List Ch → Prop
  | [] => True
  | c :: cs => c.deep ∧ Ch.deeps cs
theorem Sep.deeps {w : World} : ∀ {cs F}, Ch.deeps cs → Sep J cs w F → Sep I cs w F
  | [], _, _, h => h
  | c :: cs, F, hd, ⟨G, K, h1, h2, h3⟩ => ⟨G, K, h1, hd.1 h2, h3.deeps hd.2⟩
theorem St.freeze {α : Type} {R : Rep α} {v : List Value} {a : α} (h : St I w0 w (Ch.own R v a :: cs)) : ∃ J, I.le J ∧ R.rd J v a ∧ St J w0 w cs := by
  obtain ⟨hb, hi, F, ⟨G, K, rfl, e2, e3⟩, h2, h3⟩ := h
  obtain ⟨n1, n2, n3⟩ := List.nodup_append.1 h2
  refine ⟨fun b => if b ∈ G then w.heap[b]? else I b, fun b o hb' => ?_, R.own_rd e2 (fun b o hb' => ?_) fun b hb' => if_pos hb', hb, fun b o hb' => ?_, K, e3.mono fun b o hb' => ?_, n2, fun b hb' => ?_⟩
  · show (if b ∈ G then w.heap[b]? else I b) = some o
    split
    · exact hi b o hb'
    · exact hb'
  · show (if b ∈ G then w.heap[b]? else I b) = some o
    split
    · exact hi b o hb'
    · exact hb'
  · have hb'' : (if b ∈ G then w.heap[b]? else I b) = some o := hb'
    split at hb''
    · exact hb''
    · exact hi b o hb''
  · show (if b ∈ G then w.heap[b]? else I b) = some o
    split
    · exact hi b o hb'
    · exact hb'
  · show (if b ∈ G then w.heap[b]? else I b) = none
    rw [if_neg fun hg => n3 b hg b hb' rfl]; exact h3 b (List.mem_append_right _ hb')
theorem St.freeze_blk {g : Nat} {l : List Value} {E : TypeId} (h : St I w0 w (Ch.blk g l E :: cs)) : ∃ J, I.le J ∧ J g = some (.cells l.toArray E (0, 0)) ∧ St J w0 w cs := by
  obtain ⟨hb, hi, F, ⟨G, K, rfl, ⟨rfl, e2⟩, e3⟩, h2, h3⟩ := h
  obtain ⟨n1, n2, n3⟩ := List.nodup_append.1 h2
  refine ⟨fun b => if b ∈ [g] then w.heap[b]? else I b, fun b o hb' => ?_, (if_pos (by simp)).trans e2, hb, fun b o hb' => ?_, K, e3.mono fun b o hb' => ?_, n2, fun b hb' => ?_⟩
  · show (if b ∈ [g] then w.heap[b]? else I b) = some o
    split
    · exact hi b o hb'
    · exact hb'
  · have hb'' : (if b ∈ [g] then w.heap[b]? else I b) = some o := hb'
    split at hb''
    · exact hb''
    · exact hi b o hb''
  · show (if b ∈ [g] then w.heap[b]? else I b) = some o
    split
    · exact hi b o hb'
    · exact hb'
  · show (if b ∈ [g] then w.heap[b]? else I b) = none
    rw [if_neg fun hg => n3 b hg b hb' rfl]; exact h3 b (List.mem_append_right _ hb')
theorem St.heap (h : St I w0 w cs) {g : Nat} {l : List Value} {E : TypeId} (i : Nat) (hi : cs[i]? = some (Ch.blk g l E)) : w.heap[g]? = some (.cells l.toArray E (0, 0)) := by
  obtain ⟨hb, _, F, ⟨G, K, e1, e2, e3⟩, h2, h3⟩ := h.front i hi
  exact e2.2
theorem St.alloc (h : St I w0 w cs) (l : List Value) (E : TypeId) : St I w0 (w.alloc (.cells l.toArray E)) (Ch.blk w.heap.size l E :: cs) := by
  refine St.step (w := w) (c := []) (c' := [Ch.blk w.heap.size l E]) (w' := w.alloc (.cells l.toArray E)) h rfl rfl rfl (by simp) ?_
  rintro F rfl - -
  refine ⟨fun b hb _ => ?_, [w.heap.size], ⟨[w.heap.size], [], rfl, ⟨rfl, heap_alloc_new w _⟩, rfl⟩, by simp, by simp⟩
  show (w.heap.push _)[b]? = _
  rw [Array.getElem?_push_lt hb, Array.getElem?_eq_getElem hb]
theorem heap_setCell_at {w : World} {g o : Nat} {v : Value} {cur : Array Value} {E : TypeId} {fr : Nat × Nat} (h : w.heap[g]? = some (.cells cur E fr)) : (w.setCell ⟨g, o, none⟩ v).heap[g]? = some (.cells (cur.setIfInBounds o v) E fr) := by
  simp [World.setCell, Array.getElem?_modify, h]
theorem St.set {g : Nat} {l : List Value} {E : TypeId} (h : St I w0 w (Ch.blk g l E :: cs)) (j : Nat) (v : Value) : St I w0 (w.setCell ⟨g, j, none⟩ v) (Ch.blk g (l.set j v) E :: cs) := by
  refine St.step (c := [Ch.blk g l E]) (c' := [Ch.blk g (l.set j v) E]) (w' := w.setCell ⟨g, j, none⟩ v) h rfl rfl rfl (by simp) ?_
  rintro F ⟨G, K, rfl, ⟨rfl, h2⟩, rfl⟩ - -
  refine ⟨fun b hb hn => Below.heap_setCell _ _ _ _ (by simpa using hn), [g], ⟨[g], [], rfl, ⟨rfl, ?_⟩, rfl⟩, by simp, by simp⟩
  rw [heap_setCell_at h2]; simp
end
end Go.Proofs.YtfkjjnddefojjaaGreatDoor.D
/- Operations as steps on assertions; a region in the order of the text, and a region that draws its order: every order serves. No program text is named here. -/
set_option linter.unusedVariables false
set_option linter.unusedSimpArgs false
set_option linter.unnecessarySimpa false
namespace Go.Proofs.YtfkjjnddefojjaaGreatDoor.D
open Go.RowKit

/-! ### Slots -/
def evL (L : List (Nat × Value)) : Operand → Value
  | .tmp t => (L.lookup t).getD undef
  | .const v => v
  | .global g => .pointer (some ⟨g, 0, none⟩)
  | .func f => .func (.func f) #[] #[]
def knows (L : List (Nat × Value)) : Operand → Bool
  | .tmp t => (L.lookup t).isSome
  | _ => true
def knowsAll (L : List (Nat × Value)) (o : Oper) : Bool := o.op.operands.toList.all (knows L)
def Agr (n : Nat) (a : Act) (L : List (Nat × Value)) : Prop := a.defers = [] ∧ a.tmps.size = n ∧ ∀ t v, L.lookup t = some v → a.tmps.getD t undef = v
def putL (d : Option Tmp) (v : Value) (L : List (Nat × Value)) : List (Nat × Value) :=
  match d with
  | some d => (d, v) :: L
  | none => L
def dstOk (n : Nat) : Option Tmp → Bool
  | some d => decide (d < n)
  | none => true
section
variable {n : Nat} {a : Act} {L L' : List (Nat × Value)}
theorem Agr.eval (h : Agr n a L) {x : Operand} (hx : knows L x = true) : a.eval x = evL L x := by
  cases x with
  | tmp t =>
    obtain ⟨v, hv⟩ := Option.isSome_iff_exists.1 hx
    simp only [Act.eval, evL, hv]
    exact h.2.2 t v hv
  | _ => rfl
theorem getD_set_self {l : Array Value} {d : Nat} {v x : Value} (h : d < l.size) : (l.setIfInBounds d v).getD d x = v := by
  simp [Array.getD_eq_getD_getElem?, Array.getElem?_setIfInBounds_self_of_lt h]
theorem getD_set_ne {l : Array Value} {d t : Nat} {v x : Value} (h : d ≠ t) : (l.setIfInBounds d v).getD t x = l.getD t x := by
  simp [Array.getD_eq_getD_getElem?, Array.getElem?_setIfInBounds_ne h]
theorem Agr.put (h : Agr n a L) {d : Option Tmp} (v : Value) (hd : dstOk n d = true) : Agr n (a.put d v) (putL d v L) := by
  cases d with
  | none => exact h
  | some d =>
    have hd : d < n := by simpa [dstOk] using hd
    refine ⟨h.1, by simp [Act.put, h.2.1], fun t u hu => ?_⟩
    simp only [putL, List.lookup_cons] at hu
    by_cases e : t = d
    · subst e
      simp at hu; subst hu
      exact getD_set_self (by rw [h.2.1]; exact hd)
    · have : (t == d) = false := by simpa using e
      rw [this] at hu
      show (a.tmps.setIfInBounds d v).getD t undef = u
      rw [getD_set_ne (fun e' => e e'.symm)]
      exact h.2.2 t u hu
theorem Agr.sub (h : Agr n a L) (hs : ∀ t v, L'.lookup t = some v → L.lookup t = some v) : Agr n a L' := ⟨h.1, h.2.1, fun t v hv => h.2.2 t v (hs t v hv)⟩
theorem Agr.pick (h : Agr n a L) (L' : List (Nat × Value)) (hs : ∀ p ∈ L', L.lookup p.1 = some p.2) : Agr n a L' := by
  refine h.sub fun t v hv => ?_
  have : ∀ (M : List (Nat × Value)), (∀ p ∈ M, L.lookup p.1 = some p.2) → M.lookup t = some v → L.lookup t = some v := by
    intro M
    induction M with
    | nil => intro _ h; cases h
    | cons p M ih =>
      intro hM hv
      rw [List.lookup_cons] at hv
      by_cases e : t = p.1
      · subst e
        simp at hv
        rw [← hv]; exact hM p (by simp)
      · have : (t == p.1) = false := by simpa using e
        rw [this] at hv
        exact ih (fun q hq => hM q (by simp [hq])) hv
  exact this L' hs hv
theorem Agr.start {args : Array Value} {m : Nat} (L : List (Nat × Value)) (hn : args.size + m = n) (hs : ∀ p ∈ L, args[p.1]? = some p.2) : Agr n { tmps := args ++ Array.replicate m undef, defers := [] } L := by
  have h0 : Agr n { tmps := args ++ Array.replicate m undef, defers := [] } (args.toList.zipIdx.map fun p => (p.2, p.1)) := by
    refine ⟨rfl, by simp [hn], fun t v hv => ?_⟩
    have key : ∀ (l : List Value) (k : Nat), ((l.zipIdx k).map fun p => (p.2, p.1)).lookup t = some v → k ≤ t ∧ l[t - k]? = some v := by
      intro l
      induction l with
      | nil => intro k h; simp at h
      | cons x l ih =>
        intro k h
        simp only [List.zipIdx_cons, List.map_cons, List.lookup_cons] at h
        by_cases e : t = k
        · subst e
          simp at h
          simp [h]
        · have : (t == k) = false := by simpa using e
          rw [this] at h
          obtain ⟨h1, h2⟩ := ih (k + 1) h
          refine ⟨by omega, ?_⟩
          rw [show t - k = (t - (k + 1)) + 1 from by omega]
          simpa using h2
    obtain ⟨-, h2⟩ := key _ 0 hv
    rw [Nat.sub_zero, Array.getElem?_toList] at h2
    have hlt : t < args.size := (Array.getElem?_eq_some_iff.1 h2).1
    rw [Array.getD_eq_getD_getElem?, Array.getElem?_append_left hlt, h2]; rfl
  refine h0.pick L fun p hp => ?_
  have hp2 := hs p hp
  have key : ∀ (l : List Value) (k : Nat), k ≤ p.1 → l[p.1 - k]? = some p.2 → ((l.zipIdx k).map fun p => (p.2, p.1)).lookup p.1 = some p.2 := by
    intro l
    induction l with
    | nil => intro k _ h; simp at h
    | cons x l ih =>
      intro k hk h
      simp only [List.zipIdx_cons, List.map_cons, List.lookup_cons]
      by_cases e : p.1 = k
      · rw [e, Nat.sub_self] at h
        simp at h
        simp [e, h]
      · have : (p.1 == k) = false := by simpa using e
        rw [this]
        refine ih (k + 1) (by omega) ?_
        rw [show p.1 - k = (p.1 - (k + 1)) + 1 from by omega] at h
        simpa using h
  exact key _ 0 (by omega) (by rw [Nat.sub_zero, Array.getElem?_toList]; exact hp2)
end

/-! ### One operation -/
def Upon (P : Program) (ok : Value → World → Prop) : Result Next → Prop
  | .ok (.value v) w' => ok v w'
  | .ok .skip w' => ok undef w'
  | .ok (.enter f args) w' => Calls P f args w' fun e w'' => ∃ v, e = .returned v ∧ ok v w''
  | _ => False
def OpT (P : Program) (I : Hp) (w0 : World) (o : Oper) (ev : Operand → Value) (rn : List Ch) (fact : Value → Prop) (gv : Value → List Ch) : Prop :=
  ∀ w C, St I w0 w (rn ++ C) → Upon P (fun v w' => fact v ∧ St I w0 w' (gv v ++ C)) ((execOp ev o).run P w)
theorem Upon.wp {P : Program} {o : Oper} {a : Act} {w : World} {ok : Value → World → Prop} {K : Act → World → Prop} {Q : Exit → Act → World → Prop} (hr : Upon P ok ((execOp a.eval o).run P w)) (hk : ∀ v w', ok v w' → K (a.put o.dst v) w') : o.wp P a w K Q := by
  unfold Oper.wp
  generalize (execOp a.eval o).run P w = r at hr
  cases r with
  | halt h w' => exact hr.elim
  | ok x w' =>
    cases x <;> first | exact hr.elim | exact hk _ _ hr | skip
    refine Calls.mono hr ?_
    rintro e w'' ⟨v, rfl, h⟩
    exact hk _ _ h
def noSelect (o : Oper) : Bool := match o.op with | .select .. => false | _ => true
theorem execOp_same {ρ ρ' : Operand → Value} {o : Oper} (hs : noSelect o = true) (h : ∀ x ∈ o.op.operands, ρ x = ρ' x) : execOp ρ o = execOp ρ' o :=
  execOp_congr o (fun cs b e => by rw [noSelect, e] at hs; cases hs) h

/-! ### A region in the order of the text -/
section
variable {P : Program} {I : Hp} {w0 w : World} {n : Nat} {a : Act} {L : List (Nat × Value)} {C0 C rn : List Ch} {ops : Array Oper} {Q : Exit → Act → World → Prop} {o : Oper} {rest : List Oper}
theorem seq_op {fact : Value → Prop} {gv : Value → List Ch} (ha : Agr n a L) (hs : St I w0 w C0) (hg : o.guard = none) (hop : OpT P I w0 o (evL L) rn fact gv) (hp : C0.Perm (rn ++ C)) (hk : (knowsAll L o && dstOk n o.dst && noSelect o) = true)
    (k : ∀ v a w, fact v → Agr n a (putL o.dst v L) → St I w0 w (gv v ++ C) → wpList P ops Q rest a w) : wpList P ops Q (o :: rest) a w := by
  simp only [Bool.and_eq_true] at hk
  obtain ⟨⟨hk1, hk2⟩, hk3⟩ := hk
  refine wpList_plain hg fun K hK => ?_
  have he : execOp a.eval o = execOp (evL L) o := execOp_same hk3 fun x hx => ha.eval ((List.all_eq_true.1 hk1) x (by simpa using hx))
  have h := hop w C (hs.perm hp)
  rw [← he] at h
  exact h.wp fun v w' hv => hK _ _ (k v _ w' hv.1 (ha.put v hk2) hv.2)
end
end Go.Proofs.YtfkjjnddefojjaaGreatDoor.D
/- A region that draws its order: one proof a operation serves every order. No program text is named here. -/
set_option linter.unusedVariables false
set_option linter.unusedSimpArgs false
set_option linter.unnecessarySimpa false
namespace Go.Proofs.YtfkjjnddefojjaaGreatDoor.D
open Go.RowKit

structure OpRec where
  reads : List Nat
  needs : List Nat
  gives : List Nat
  deps : List Nat
  fact : List Value → Prop
  src : List (Nat × Option Nat)
structure ResRec where
  deps : List Nat
  ch : List Value → Ch
structure Plan where
  ops : List OpRec
  res : List ResRec
  base : List Nat
  pre : List (List Nat)
  fin : List (Nat × Option Nat)
  left : List Nat
def upd (vs : Nat → Value) (i : Nat) (v : Value) : Nat → Value := fun j => if j = i then v else vs j
theorem upd_self {vs : Nat → Value} {i : Nat} {v : Value} : upd vs i v i = v := by simp [upd]
theorem upd_ne {vs : Nat → Value} {i j : Nat} {v : Value} (h : j ≠ i) : upd vs i v j = vs j := by simp [upd, h]
namespace Plan
def op (p : Plan) (i : Nat) : OpRec := p.ops.getD i ⟨[], [], [], [], fun _ => True, []⟩
def chunk (p : Plan) (r : Nat) (vs : Nat → Value) : Ch :=
  match p.res[r]? with
  | some x => x.ch (x.deps.map vs)
  | none => Ch.fr (fun _ => none) []
def fact (p : Plan) (i : Nat) (vs : Nat → Value) : Prop := (p.op i).fact ((p.op i).deps.map vs)
end Plan
def edgesOf (o : Oper) : List Nat := (o.after.toList.filter (Region.binds .any)).map (·.on)
def slotsOf (ops : Array Oper) (o : Oper) : List Nat := o.looksAt ops
def wants (o : Oper) (vs : Nat → Value) : Option Bool :=
  match o.guard with
  | none => some true
  | some (g, want) => match vs g with
    | .bool b => some (b == want)
    | _ => some false
section
variable {p : Plan} {C : List Ch} {P : Program} {I : Hp} {w0 : World} {n : Nat} {L : List (Nat × Value)} {ops : List Oper} {S : Nat → Bool} {vs : Nat → Value} {a : Act} {w : World} {i : Nat} {o : Oper}
theorem mem_ready {ops : Array Oper} {listed : Array Bool} {i : Nat} : i ∈ Region.ready .any ops listed ↔ i < ops.size ∧ listed.getD i true = false ∧ ∀ o, ops[i]? = some o → ∀ j, j ∈ edgesOf o → listed.getD j false = true := by
  unfold Region.ready
  rw [List.mem_filter, List.mem_range]
  constructor
  · rintro ⟨h1, h2⟩
    simp only [Bool.and_eq_true, Bool.not_eq_true'] at h2
    refine ⟨h1, h2.1, fun o ho j hj => ?_⟩
    rw [ho] at h2
    simp only [Option.map_some, Option.getD_some, Array.all_eq_true'] at h2
    unfold edgesOf at hj
    obtain ⟨e, he, rfl⟩ := List.mem_map.1 hj
    obtain ⟨he1, he2⟩ := List.mem_filter.1 he
    have := h2.2 e (by simpa using he1)
    simp only [Bool.or_eq_true, Bool.not_eq_true'] at this
    rcases this with h | h
    · rw [he2] at h; cases h
    · exact h
  · rintro ⟨h1, h2, h3⟩
    refine ⟨h1, ?_⟩
    simp only [Bool.and_eq_true, Bool.not_eq_true']
    refine ⟨h2, ?_⟩
    have ho : ops[i]? = some ops[i] := Array.getElem?_eq_getElem h1
    rw [ho]
    simp only [Option.map_some, Option.getD_some, Array.all_eq_true', Bool.or_eq_true, Bool.not_eq_true']
    intro e he
    cases hb : Region.binds .any e with
    | false => exact .inl rfl
    | true =>
      refine .inr (h3 _ ho _ ?_)
      unfold edgesOf
      exact List.mem_map.2 ⟨e, List.mem_filter.2 ⟨by simpa using he, hb⟩, rfl⟩
def leftOf (m : Nat) (listed : Array Bool) : Nat := ((List.range m).filter fun i => !listed.getD i false).length
end
end Go.Proofs.YtfkjjnddefojjaaGreatDoor.D
/- The operations' laws, each as a step on assertions. No program text is named here. -/
set_option linter.unusedVariables false
set_option linter.unusedSimpArgs false
set_option linter.unnecessarySimpa false
namespace Go.Proofs.YtfkjjnddefojjaaGreatDoor.D
open Go.RowKit

/-! ### Facts of types -/
def isRowD : TypeDesc → Bool
  | .struct _ | .array _ _ => true
  | _ => false
def TI (P : Program) (T : TypeId) (agg : Bool) (n : Nat) : Prop := (∃ d, P.underlying T = some d ∧ isRowD d = agg) ∧ (P.info? T).map (·.size) = some n
def TZ (P : Program) (T : TypeId) (z : Value) (n bytes : Nat) : Prop := (P.info? T).map (fun i => (i.zero, i.size, i.bytes)) = some (some z, n, bytes)
def TF (P : Program) (T : TypeId) (f off n : Nat) : Prop := ∃ fs fd, P.underlying T = some (.struct fs) ∧ fs[f]? = some fd ∧ fd.offset = off ∧ (P.info? fd.type).map (·.size) = some (n + 1)
section
variable {P : Program}
theorem TI.run_agg {T : TypeId} {agg : Bool} {n : Nat} (h : TI P T agg n) (w : World) : (isAgg T).run P w = .ok agg w := by
  obtain ⟨⟨d, hd, rfl⟩, -⟩ := h
  unfold isAgg
  rw [Sem.run_bind, run_underlying hd w]
  cases d <;> rfl
theorem TI.run_size {T : TypeId} {agg : Bool} {n : Nat} (h : TI P T agg n) (w : World) : (sizeOf T).run P w = .ok n w := by
  obtain ⟨-, h⟩ := h
  cases hq : P.info? T with
  | none => simp [hq] at h
  | some i =>
    have : i.size = n := by simpa [hq] using h
    simp [sizeOf, typeInfo, hq, this]
theorem TZ.run_zero {T : TypeId} {z : Value} {n b : Nat} (h : TZ P T z n b) (w : World) : (zeroValue T).run P w = .ok z w := by
  obtain ⟨i, hi, h1, h2, h3⟩ := info_parts h
  simp [zeroValue, typeInfo, hi, h1]
variable {I : Hp} {w0 : World} {o : Oper} {ev : Operand → Value}
/-! ### Operations that only reckon -/
theorem opT_val {v : Value} (h : ∀ w, (execOp ev o).run P w = .ok (.value v) w) : OpT P I w0 o ev [] (· = v) (fun _ => []) := by
  intro w C hs
  rw [h]
  exact ⟨rfl, hs⟩
theorem opT_move {x : Operand} {v : Value} (ho : o.op = .move x) (hv : ev x = v) : OpT P I w0 o ev [] (· = v) (fun _ => []) :=
  opT_val fun w => by simp only [execOp, ho, hv]; rfl
theorem opT_assign {x : Operand} {v : Value} (ho : o.op = .assign x) (hv : ev x = v) : OpT P I w0 o ev [] (· = v) (fun _ => []) :=
  opT_val fun w => by simp only [execOp, ho, hv]; rfl
theorem opT_pick {c x y : Operand} {b : Bool} {v : Value} (ho : o.op = .pick c x y) (hc : ev c = .bool b) (hv : (if b then ev x else ev y) = v) : OpT P I w0 o ev [] (· = v) (fun _ => []) :=
  opT_val fun w => by simp only [execOp, ho, hc, asBool, ← hv]; cases b <;> rfl
theorem opT_extract {x : Operand} {vs : Array Value} {i : Nat} {v : Value} (ho : o.op = .extract x i) (hx : ev x = .tuple vs) (hv : vs[i]? = some v) : OpT P I w0 o ev [] (· = v) (fun _ => []) :=
  opT_val fun w => by simp [execOp, ho, hx, Instr.extract, hv, Result.andThen]
theorem opT_not {x : Operand} {t : TypeId} {b : Bool} (ho : o.op = .unOp .not t x) (hx : ev x = .bool b) : OpT P I w0 o ev [] (· = .bool (!b)) (fun _ => []) :=
  opT_val fun w => by simp only [execOp, ho, hx]; rfl
theorem opT_neg {x : Operand} {t : TypeId} {n : Int} (ho : o.op = .unOp .neg t x) (hx : ev x = .int .i64 n) : OpT P I w0 o ev [] (· = .int .i64 (IntKind.i64.wrap (-n))) (fun _ => []) :=
  opT_val fun w => by simp [execOp, ho, hx, Op.unary, Op.intArith, Result.andThen]
def isCmp : BinOp → Bool
  | .eql | .neq | .lss | .leq | .gtr | .geq => true
  | _ => false
def cmpI : BinOp → Int → Int → Bool
  | .eql, a, b => a == b
  | .neq, a, b => a != b
  | .lss, a, b => decide (a < b)
  | .leq, a, b => decide (a ≤ b)
  | .gtr, a, b => decide (a > b)
  | _, a, b => decide (a ≥ b)
theorem opT_cmp {x y : Operand} {b : BinOp} {t u : TypeId} {k : IntKind} {m n : Int} {c : Bool} (ho : o.op = .binOp b t x y u) (hx : ev x = .int k m) (hy : ev y = .int k n) (hb : isCmp b = true) (hc : cmpI b m n = c) : OpT P I w0 o ev [] (· = .bool c) (fun _ => []) :=
  opT_val fun w => by
    subst hc
    simp only [execOp, ho, hx, hy]
    cases b <;> first | exact absurd hb (by decide) | (cases k <;> rfl)
theorem opT_add {x y : Operand} {t u : TypeId} {m n : Int} (ho : o.op = .binOp .add t x y u) (hx : ev x = .int .i64 m) (hy : ev y = .int .i64 n) : OpT P I w0 o ev [] (· = .int .i64 (IntKind.i64.wrap (m + n))) (fun _ => []) :=
  opT_val fun w => by simp only [execOp, ho, hx, hy]; rfl
theorem opT_sub {x y : Operand} {t u : TypeId} {m n : Int} (ho : o.op = .binOp .sub t x y u) (hx : ev x = .int .i64 m) (hy : ev y = .int .i64 n) : OpT P I w0 o ev [] (· = .int .i64 (IntKind.i64.wrap (m - n))) (fun _ => []) :=
  opT_val fun w => by simp only [execOp, ho, hx, hy]; rfl
theorem opT_mul {x y : Operand} {t u : TypeId} {m n : Int} (ho : o.op = .binOp .mul t x y u) (hx : ev x = .int .i64 m) (hy : ev y = .int .i64 n) : OpT P I w0 o ev [] (· = .int .i64 (IntKind.i64.wrap (m * n))) (fun _ => []) :=
  opT_val fun w => by simp only [execOp, ho, hx, hy]; rfl
def quoI (m n : Int) : Int := IntKind.i64.wrap (m.tdiv n)
theorem opT_quo {x y : Operand} {t u : TypeId} {m n : Int} (ho : o.op = .binOp .quo t x y u) (hx : ev x = .int .i64 m) (hy : ev y = .int .i64 n) (h0 : n ≠ 0) : OpT P I w0 o ev [] (· = .int .i64 (quoI m n)) (fun _ => []) :=
  opT_val fun w => by simp [execOp, ho, hx, hy, eqGuard, binOp, Op.intDiv, h0, Result.andThen, quoI]
theorem opT_rem {x y : Operand} {t u : TypeId} {m n : Int} (ho : o.op = .binOp .rem t x y u) (hx : ev x = .int .i64 m) (hy : ev y = .int .i64 n) (h0 : n ≠ 0) : OpT P I w0 o ev [] (· = .int .i64 (m.tmod n)) (fun _ => []) :=
  opT_val fun w => by simp [execOp, ho, hx, hy, eqGuard, binOp, Op.intDiv, h0, Result.andThen]
def shlI (m n : Int) : Int := IntKind.i64.wrap (m * 2 ^ (min n.toNat 64))
def shrI (m n : Int) : Int := m.fdiv (2 ^ (min n.toNat 64))
theorem opT_shl {x y : Operand} {t u : TypeId} {m n : Int} (ho : o.op = .binOp .shl t x y u) (hx : ev x = .int .i64 m) (hy : ev y = .int .i64 n) (h0 : 0 ≤ n) : OpT P I w0 o ev [] (· = .int .i64 (shlI m n)) (fun _ => []) :=
  opT_val fun w => by simp [execOp, ho, hx, hy, eqGuard, binOp, Op.shift, show ¬ n < 0 from by omega, Result.andThen, shlI, IntKind.bits]
theorem opT_shr {x y : Operand} {t u : TypeId} {m n : Int} (ho : o.op = .binOp .shr t x y u) (hx : ev x = .int .i64 m) (hy : ev y = .int .i64 n) (h0 : 0 ≤ n) : OpT P I w0 o ev [] (· = .int .i64 (shrI m n)) (fun _ => []) :=
  opT_val fun w => by simp [execOp, ho, hx, hy, eqGuard, binOp, Op.shift, show ¬ n < 0 from by omega, Result.andThen, shrI, IntKind.bits]
def andI (m n : Int) : Int := IntKind.i64.wrap ((BitVec.ofInt 64 m &&& BitVec.ofInt 64 n).toNat : Nat)
def orI (m n : Int) : Int := IntKind.i64.wrap ((BitVec.ofInt 64 m ||| BitVec.ofInt 64 n).toNat : Nat)
def xorI (m n : Int) : Int := IntKind.i64.wrap ((BitVec.ofInt 64 m ^^^ BitVec.ofInt 64 n).toNat : Nat)
theorem opT_and {x y : Operand} {t u : TypeId} {m n : Int} (ho : o.op = .binOp .and t x y u) (hx : ev x = .int .i64 m) (hy : ev y = .int .i64 n) : OpT P I w0 o ev [] (· = .int .i64 (andI m n)) (fun _ => []) :=
  opT_val fun w => by simp only [execOp, ho, hx, hy]; rfl
theorem opT_or {x y : Operand} {t u : TypeId} {m n : Int} (ho : o.op = .binOp .or t x y u) (hx : ev x = .int .i64 m) (hy : ev y = .int .i64 n) : OpT P I w0 o ev [] (· = .int .i64 (orI m n)) (fun _ => []) :=
  opT_val fun w => by simp only [execOp, ho, hx, hy]; rfl
theorem opT_xor {x y : Operand} {t u : TypeId} {m n : Int} (ho : o.op = .binOp .xor t x y u) (hx : ev x = .int .i64 m) (hy : ev y = .int .i64 n) : OpT P I w0 o ev [] (· = .int .i64 (xorI m n)) (fun _ => []) :=
  opT_val fun w => by simp only [execOp, ho, hx, hy]; rfl
theorem run_eq_bool {t : TypeId} {b c : Bool} (hT : P.underlying t = some .bool) (w : World) : (Op.equal t (.bool b) (.bool c)).run P w = .ok (b == c) w := by
  unfold Op.equal Op.maxDepth
  rw [Op.equalIn, Sem.run_bind, run_underlying hT]; rfl
theorem opT_eqb {x y : Operand} {t u : TypeId} {b c : Bool} (hT : P.underlying t = some .bool) (ho : o.op = .binOp .eql t x y u) (hx : ev x = .bool b) (hy : ev y = .bool c) : OpT P I w0 o ev [] (· = .bool (b == c)) (fun _ => []) :=
  opT_val fun w => by
    have g1 : eqGuard .eql t x y (.bool b) (.bool c) = pure () := rfl
    have g2 : binOp .eql t (.bool b) (.bool c) = (do pure (.bool (← Op.equal t (.bool b) (.bool c)))) := rfl
    simp only [execOp, ho, hx, hy, g1, g2, Sem.run_bind, Sem.run_pure, run_eq_bool hT, Result.andThen_ok]
theorem opT_neb {x y : Operand} {t u : TypeId} {b c : Bool} (hT : P.underlying t = some .bool) (ho : o.op = .binOp .neq t x y u) (hx : ev x = .bool b) (hy : ev y = .bool c) : OpT P I w0 o ev [] (· = .bool (b != c)) (fun _ => []) :=
  opT_val fun w => by
    have g1 : eqGuard .neq t x y (.bool b) (.bool c) = pure () := rfl
    have g2 : binOp .neq t (.bool b) (.bool c) = (do pure (.bool (!(← Op.equal t (.bool b) (.bool c))))) := rfl
    simp only [execOp, ho, hx, hy, g1, g2, Sem.run_bind, Sem.run_pure, run_eq_bool hT, Result.andThen_ok]; rfl
theorem opT_field_addr {x : Operand} {T : TypeId} {f g off b n : Nat} (hf : TF P T f off n) (ho : o.op = .fieldAddr T x f) (hx : ev x = .pointer (some ⟨g, b, none⟩)) : OpT P I w0 o ev [] (· = .pointer (some ⟨g, b + off, none⟩)) (fun _ => []) := by
  obtain ⟨fs, fd, h1, h2, h3, h4⟩ := hf
  refine opT_val fun w => ?_
  cases hq : P.info? fd.type with
  | none => simp [hq] at h4
  | some i =>
    have h5 : i.size = n + 1 := by simpa [hq] using h4
    simp [execOp, ho, hx, Instr.fieldAt, Instr.sureAddr, run_underlying h1, h2, fieldPlace, sizeOf, typeInfo, hq, h5, h3, Result.andThen, Addr.add_mid]
theorem opT_len_s {x : Operand} {T : TypeId} {E : TypeId} {a : Option Addr} {n c : Nat} (hT : P.underlying T = some (.slice E)) (ho : o.op = .call { callee := .builtin .len, args := #[x], argTypes := #[T] }) (hx : ev x = .slice a n c) : OpT P I w0 o ev [] (· = .int .i64 n) (fun _ => []) :=
  opT_val fun w => by simp [execOp, ho, hx, resolve, invoke, builtin, Builtin.len_, run_underlying hT, Result.andThen, goInt]
theorem opT_len_str {x : Operand} {T : TypeId} {s : ByteArray} (hT : P.underlying T = some .string) (ho : o.op = .call { callee := .builtin .len, args := #[x], argTypes := #[T] }) (hx : ev x = .string s) : OpT P I w0 o ev [] (· = .int .i64 s.size) (fun _ => []) :=
  opT_val fun w => by simp [execOp, ho, hx, resolve, invoke, builtin, Builtin.len_, run_underlying hT, Result.andThen, goInt]
theorem opT_make_func {f : Fn} {first captured : Array Operand} {v : Value} (ho : o.op = .makeFunc f first captured) (hv : Value.func f (first.toList.map ev).toArray (captured.toList.map ev).toArray = v) : OpT P I w0 o ev [] (· = v) (fun _ => []) :=
  opT_val fun w => by
    have h1 : first.map ev = (first.toList.map ev).toArray := by rw [← Array.toList_map]
    have h2 : captured.map ev = (captured.toList.map ev).toArray := by rw [← Array.toList_map]
    simp only [execOp, ho, ← hv, h1, h2]; rfl
end
end Go.Proofs.YtfkjjnddefojjaaGreatDoor.D
/- The operations on memory, each as a step on assertions. No program text is named here. -/
set_option linter.unusedVariables false
set_option linter.unusedSimpArgs false
set_option linter.unnecessarySimpa false
namespace Go.Proofs.YtfkjjnddefojjaaGreatDoor.D
open Go.RowKit

section
variable {P : Program} {I : Hp} {w0 w w' : World} {cs : List Ch}
theorem Upon.imp {ok ok' : Value → World → Prop} {r : Result Next} (h : Upon P ok r) (k : ∀ v w, ok v w → ok' v w) : Upon P ok' r := by
  cases r with
  | halt x w => exact h
  | ok x w =>
    cases x <;> first | exact h | exact k _ _ h | skip
    exact Calls.mono h fun e w' ⟨v, h1, h2⟩ => ⟨v, h1, k _ _ h2⟩
def bk : Value → Nat
  | .pointer (some a) => a.block
  | _ => 0
def IsPt (v : Value) : Prop := ∃ g, v = .pointer (some ⟨g, 0, none⟩)
variable {o : Oper} {ev : Operand → Value}
theorem opT_alloc {T : TypeId} {z : Value} {n b : Nat} {l : List Value} (hz : TZ P T z n b) (hl : z.cells = l.toArray) (ho : o.op = .alloc T) : OpT P I w0 o ev [] IsPt (fun v => [Ch.blk (bk v) l T]) := by
  intro w C hs
  have hr : (execOp ev o).run P w = .ok (.value (.pointer (some ⟨w.heap.size, 0, none⟩))) (w.alloc (.cells l.toArray T)) := by
    simp only [execOp, ho, Instr.alloc, Sem.run_bind, hz.run_zero, Result.andThen_ok]
    simp [newVar, newRow, hl, Result.andThen]
  rw [hr]
  exact ⟨⟨_, rfl⟩, hs.alloc l T⟩
theorem opT_box {T : TypeId} {x : Operand} {u : Value} {l : List Value} (hu : ev x = u) (hl : u.cells = l.toArray) (ho : o.op = .box T x) : OpT P I w0 o ev [] IsPt (fun v => [Ch.blk (bk v) l T]) := by
  intro w C hs
  have hr : (execOp ev o).run P w = .ok (.value (.pointer (some ⟨w.heap.size, 0, none⟩))) (w.alloc (.cells l.toArray T)) := by
    simp only [execOp, ho, Instr.box, hu, Sem.run_bind]
    simp [newVar, newRow, hl, Result.andThen]
  rw [hr]
  exact ⟨⟨_, rfl⟩, hs.alloc l T⟩

/-! ### Loads -/
def Lds (agg : Bool) (d : List Value) (u : Value) : Prop := if agg then u = .agg d.toArray else d = [u]
theorem run_ld {T : TypeId} {agg : Bool} {n b off : Nat} {d : List Value} (hT : TI P T agg n) (hd : d.length = n) (hn : agg = false → n = 1) (hc : w.rangeAt b off d) : ∃ u, (Instr.loadAt T (.pointer (some ⟨b, off, none⟩))).run P w = .ok u w ∧ Lds agg d u := by
  cases agg with
  | true =>
    obtain ⟨⟨t, h1, h2⟩, h3⟩ := hT
    exact ⟨_, run_loadAt_mid w b off T d t hc h1 (by cases t <;> first | rfl | cases h2) (by rw [h3, hd]), rfl⟩
  | false =>
    obtain ⟨u, rfl⟩ := List.length_eq_one_iff.1 (hd.trans (hn rfl))
    refine ⟨u, ?_, rfl⟩
    have hc0 := hc 0 u rfl
    rw [Nat.add_zero] at hc0
    simp [Instr.loadAt, Instr.sureAddr, loadVar, Sem.run_bind, hT.run_agg, load, Sem.run, hc0, Result.andThen]
theorem opT_load {T : TypeId} {x : Operand} {agg : Bool} {n b off : Nat} {d : List Value} {rn : List Ch} (hT : TI P T agg n) (ho : o.op = .load T x) (hx : ev x = .pointer (some ⟨b, off, none⟩)) (hd : d.length = n) (hn : agg = false → n = 1) (hc : ∀ w C, St I w0 w (rn ++ C) → w.rangeAt b off d) : OpT P I w0 o ev rn (Lds agg d) (fun _ => rn) := by
  intro w C hs
  obtain ⟨u, hr, hu⟩ := run_ld hT hd hn (hc w C hs)
  simp only [execOp, ho, hx, Sem.run_bind, hr, Result.andThen_ok]
  exact ⟨hu, hs⟩
theorem blk_range {g off : Nat} {l d : List Value} {E : TypeId} {C : List Ch} (h : St I w0 w (Ch.blk g l E :: C)) (hd : (l.drop off).take d.length = d) : w.rangeAt g off d := by
  intro j v hj
  have hg := h.heap 0 rfl
  rw [← hd, List.getElem?_take] at hj
  split at hj
  · rw [List.getElem?_drop] at hj
    simp [World.cell?, hg, hj]
  · cases hj
theorem opT_load_blk {T : TypeId} {x : Operand} {agg : Bool} {n g off : Nat} {l d : List Value} {E : TypeId} {u : Value} (hT : TI P T agg n) (ho : o.op = .load T x) (hx : ev x = .pointer (some ⟨g, off, none⟩)) (hn : (agg || n == 1) = true) (hd : (l.drop off).take n = d) (hdl : d.length = n) (hu : (if agg then Value.agg d.toArray else d.getD 0 undef) = u) :
    OpT P I w0 o ev [Ch.blk g l E] (· = u) (fun _ => [Ch.blk g l E]) := by
  intro w C hs
  refine (opT_load (rn := [Ch.blk g l E]) hT ho hx hdl (fun e => by subst e; simpa using hn) (fun w C h => blk_range h (by rw [hdl]; exact hd)) w C hs).imp fun v w hv => ⟨?_, hv.2⟩
  have := hv.1
  unfold Lds at this
  cases agg with
  | true => exact this.trans hu
  | false => simp only [Bool.false_eq_true, ite_false] at this hu; rw [← hu, this]; rfl
theorem opT_load_fro {T : TypeId} {x : Operand} {agg : Bool} {n g off : Nat} {l d : List Value} {E : TypeId} {fr : Nat × Nat} {u : Value} (hI : I g = some (.cells l.toArray E fr)) (hT : TI P T agg n) (ho : o.op = .load T x) (hx : ev x = .pointer (some ⟨g, off, none⟩)) (hn : (agg || n == 1) = true) (hd : (l.drop off).take n = d) (hdl : d.length = n) (hu : (if agg then Value.agg d.toArray else d.getD 0 undef) = u) :
    OpT P I w0 o ev [] (· = u) (fun _ => []) := by
  intro w C hs
  refine (opT_load (rn := []) hT ho hx hdl (fun e => by subst e; simpa using hn) (fun w C h j v hj => ?_) w C hs).imp fun v w hv => ⟨?_, hv.2⟩
  · have hg : w.heap[g]? = some (.cells l.toArray E fr) := h.2.1 g _ hI
    rw [← hd, List.getElem?_take] at hj
    split at hj
    · rw [List.getElem?_drop] at hj
      simp [World.cell?, hg, hj]
    · cases hj
  · have := hv.1
    unfold Lds at this
    cases agg with
    | true => exact this.trans hu
    | false => simp only [Bool.false_eq_true, ite_false] at this hu; rw [← hu, this]; rfl

/-! ### Fields -/
def Fld {α β : Type} (R : Rep α) (off : Nat) (S : Rep β) (f : α → β) : Prop := ∀ I c x, R.rd I c x → ∃ d, (c.drop off).take S.size = d ∧ S.rd I d (f x)
theorem Fld.self {α : Type} {R : Rep α} : Fld R 0 R (fun x => x) := fun I c x h => ⟨c, by rw [← R.rd_len h]; simp, h⟩
theorem Fld.fst {α β γ : Type} {A : Rep α} {B : Rep β} {S : Rep γ} {off : Nat} {f : α → γ} (h : Fld A off S f) : Fld (rProd A B) off S (fun x => f x.1) := by
  rintro I c x ⟨c1, c2, rfl, h1, h2⟩
  obtain ⟨d, e1, e2⟩ := h I c1 x.1 h1
  refine ⟨d, ?_, e2⟩
  have hl : d.length = S.size := S.rd_len e2
  have : off + S.size ≤ c1.length ∨ S.size = 0 := by
    rw [← e1, List.length_take, List.length_drop] at hl; omega
  rw [List.drop_append]
  rcases this with h | h
  · rw [show off - c1.length = 0 from by omega, List.drop_zero, List.take_append_of_le_length (by rw [List.length_drop]; omega)]; exact e1
  · rw [h, List.take_zero] at e1 ⊢; exact e1
theorem Fld.snd {α β γ : Type} {A : Rep α} {B : Rep β} {S : Rep γ} {off : Nat} {f : β → γ} (h : Fld B off S f) : Fld (rProd A B) (A.size + off) S (fun x => f x.2) := by
  rintro I c x ⟨c1, c2, rfl, h1, h2⟩
  obtain ⟨d, e1, e2⟩ := h I c2 x.2 h2
  refine ⟨d, ?_, e2⟩
  rw [List.drop_append, List.drop_of_length_le (by rw [A.rd_len h1]; omega), A.rd_len h1, Nat.add_sub_cancel_left]; exact e1

/-! ### Elements -/
def ptB : Value → Nat
  | .slice (some a) _ _ => a.block
  | _ => 0
def ptO : Value → Nat
  | .slice (some a) _ _ => a.off
  | _ => 0
def pt (v : Value) (o : Nat) : Value := .pointer (some ⟨ptB v, ptO v + o, none⟩)
def getI {α : Type} (xs : List α) (i : Int) : Option α := if 0 ≤ i then xs[i.toNat]? else none
def inI {α : Type} (xs : List α) (i : Int) : Prop := 0 ≤ i ∧ i.toNat < xs.length
theorem getI_in {α : Type} {xs : List α} {i : Int} {x : α} (h : getI xs i = some x) : inI xs i := by
  unfold getI at h
  split at h
  · exact ⟨‹_›, (List.getElem?_eq_some_iff.1 h).1⟩
  · cases h
theorem getI_at {α : Type} {xs : List α} {i : Int} {x : α} (h : getI xs i = some x) : xs[i.toNat]? = some x := by
  unfold getI at h
  split at h
  · exact h
  · cases h
def Hd (v : Value) (n : Nat) : Prop := ∃ ao cap, v = .slice ao n cap ∧ (0 < n → ∃ b off, ao = some ⟨b, off, none⟩) ∧ n ≤ cap
theorem Hd.of_rd {α : Type} {E : TypeId} {R : Rep α} {v : Value} {xs : List α} (h : (rSlice E R).rd I [v] xs) : Hd v xs.length := by
  obtain ⟨ao, cap, hv, hl, h⟩ := h
  refine ⟨ao, cap, by simpa using hv, fun hp => ?_, hl.2⟩
  rcases h with rfl | ⟨b, off, _, _, _, rfl, _⟩
  · simp at hp
  · exact ⟨b, off, rfl⟩
theorem Hd.of_own {α : Type} {E : TypeId} {R : Rep α} {v : Value} {xs : List α} {F : List Nat} (h : (rSlice E R).own I w [v] xs F) : Hd v xs.length := by
  obtain ⟨hl, h⟩ := h
  rcases h with ⟨hv, rfl, rfl⟩ | ⟨g, ofs, cap, cur, K, hv, _, hle, _⟩
  · exact ⟨none, 0, by simpa using hv, by simp, Nat.le_refl _⟩
  · exact ⟨_, cap, by simpa using hv, fun _ => ⟨g, ofs, rfl⟩, by assumption⟩
theorem St.hd {α : Type} {E : TypeId} {R : Rep α} {v : Value} {xs : List α} (h : St I w0 w cs) (i : Nat) (hi : cs[i]? = some (Ch.own (rSlice E R) [v] xs)) : Hd v xs.length ∧ xs.length ≤ lim := by
  obtain ⟨hb, _, F, ⟨G, K, e1, e2, e3⟩, h2, h3⟩ := h.front i hi
  exact ⟨Hd.of_own (I := I) (w := w) (E := E) (R := R) (F := G) e2, e2.1⟩
theorem opT_len_hd {x : Operand} {T E : TypeId} {v : Value} {n : Nat} (h : Hd v n) (hT : P.underlying T = some (.slice E)) (ho : o.op = .call { callee := .builtin .len, args := #[x], argTypes := #[T] }) (hx : ev x = v) : OpT P I w0 o ev [] (· = .int .i64 n) (fun _ => []) := by
  obtain ⟨ao, cap, rfl, _⟩ := h
  exact opT_len_s hT ho hx
theorem opT_index_hd {α : Type} {x y : Operand} {T E : TypeId} {v : Value} {xs : List α} {i : Int} {n : Nat} {agg : Bool} (h : Hd v xs.length) (hT : P.underlying T = some (.slice E)) (hE : TI P E agg n) (ho : o.op = .indexAddr T x y) (hx : ev x = v) (hy : ev y = .int .i64 i) (hi : inI xs i) : OpT P I w0 o ev [] (· = pt v (i.toNat * n)) (fun _ => []) := by
  obtain ⟨ao, cap, rfl, hp, -⟩ := h
  obtain ⟨b, off, rfl⟩ := hp (by have := hi.2; omega)
  refine opT_val fun w => ?_
  have h2 : i < (xs.length : Int) := by have := hi.2; have := hi.1; omega
  simp [execOp, ho, hx, hy, Instr.indexAt, asIntOf, run_underlying hT, hE.run_size, hi.1, h2, Result.andThen, pt, ptB, ptO, Addr.add_mid]
theorem opT_field_pt {x : Operand} {T : TypeId} {f off n b : Nat} {v : Value} (hf : TF P T f off n) (ho : o.op = .fieldAddr T x f) (hx : ev x = pt v b) : OpT P I w0 o ev [] (· = pt v (b + off)) (fun _ => []) := by
  have := opT_field_addr (I := I) (w0 := w0) hf ho hx
  rw [Nat.add_assoc] at this
  exact this
theorem opT_load_el {α β : Type} {E T : TypeId} {R : Rep α} {S : Rep β} {off n k : Nat} {f : α → β} {x : Operand} {v : Value} {xs : List α} {a : α} {i : Int} {agg : Bool} (hr : (rSlice E R).rd I [v] xs) (ha : getI xs i = some a) (hf : Fld R off S f) (hT : TI P T agg n) (hS : S.size = n) (hn : (agg || n == 1) = true) (ho : o.op = .load T x) (hx : ev x = pt v (i.toNat * k + off)) (hk : R.size = k) :
    OpT P I w0 o ev [] (fun u => ∃ d, S.rd I d (f a) ∧ Lds agg d u) (fun _ => []) := by
  obtain ⟨ao, cap, hv, hl, h⟩ := hr
  obtain rfl : v = .slice ao xs.length cap := by simpa using hv
  have hm := getI_at ha
  rcases h with rfl | ⟨b, ofs, ccs, t, fr, rfl, hI, hel⟩
  · simp at hm
  obtain ⟨c, c1, c2, c3⟩ := hel i.toNat a hm
  obtain ⟨d, d1, d2⟩ := hf I c a c3
  intro w C hs
  refine (opT_load (rn := []) hT ho hx ((S.rd_len d2).trans hS) (fun e => by subst e; simpa using hn) (fun w C h j u hj => ?_) w C hs).imp fun u w hv => ⟨⟨d, d2, hv.1⟩, hv.2⟩
  have hg : w.heap[b]? = some (.cells ccs t fr) := h.2.1 b _ hI
  rw [← d1, List.getElem?_take] at hj
  split at hj
  · rw [List.getElem?_drop] at hj
    have hlt := (List.getElem?_eq_some_iff.1 hj).1
    have := c2 (off + j) (by omega)
    simp only [ptB, ptO, World.cell?, hg]
    rw [hk] at this
    rw [show ofs + (i.toNat * k + off) + j = ofs + i.toNat * k + (off + j) from by omega]
    rw [hj] at this
    simpa using this
  · cases hj
def Rep.Sh {α : Type} (R : Rep α) : Prop := ∀ {I w cs a F}, R.own I w cs a F → F = [] ∧ R.rd I cs a
theorem sh_flat {α : Type} {enc : α → Value} {h1 : ∀ a, (enc a).oneCell' = true} : (rFlat α enc h1).Sh := fun h => h
theorem sh_prod {α β : Type} {R : Rep α} {S : Rep β} (h : R.Sh) (k : S.Sh) : (rProd R S).Sh := by
  rintro I w cs a F ⟨c, d, G, K, rfl, rfl, h1, h2⟩
  obtain ⟨g1, g2⟩ := h h1
  obtain ⟨k1, k2⟩ := k h2
  exact ⟨by rw [g1, k1]; rfl, c, d, rfl, g2, k2⟩
theorem sh_fro {α : Type} {R : Rep α} : (rFro R).Sh := fun h => h
theorem sh_bool : rBool.Sh := sh_flat
theorem sh_str : rStr.Sh := sh_flat
theorem OwnEls.sh {α : Type} {R : Rep α} (hR : R.Sh) : ∀ {xs : List α} {cur F}, OwnEls R I w cur xs F → F = []
  | [], _, _, h => h
  | x :: xs, cur, F, ⟨c, rest, G, K, h1, h2, h3, h4, h5⟩ => by rw [h3, (hR h4).1, h5.sh hR]; rfl
/-! ### Stores -/
def setsW (w : World) (g : Nat) : Nat → List Value → World
  | _, [] => w
  | o, v :: vs => setsW (w.setCell ⟨g, o, none⟩ v) g (o + 1) vs
theorem run_store_cells {g : Nat} : ∀ (vs : List Value) (w : World) (o i : Nat), (∀ j, j < vs.length → (w.cell? ⟨g, o + i + j, none⟩).isSome = true) → (∀ j, w.frozen? ⟨g, o + j, none⟩ = false) → (∀ v, v ∈ vs → v.oneCell' = true) →
    (storeCells ⟨g, o, none⟩ vs i).run P w = .ok () (setsW w g (o + i) vs)
  | [], w, o, i, _, _, _ => by simp [storeCells, setsW]
  | v :: vs, w, o, i, hc, hf, h1 => by
    have ih := run_store_cells vs (w.setCell ⟨g, o + i, none⟩ v) o (i + 1) (fun j hj => by
      have := hc (j + 1) (by rw [List.length_cons]; omega)
      rw [show o + (i + 1) + j = o + i + (j + 1) from by omega]
      rw [Option.isSome_iff_exists] at this ⊢
      obtain ⟨u, hu⟩ := this
      simp only [World.cell?, World.setCell, Array.getElem?_modify] at hu ⊢
      cases hg : w.heap[g]? with
      | none => simp [hg] at hu
      | some ob => cases ob <;> simp [hg] at hu ⊢ <;> exact ⟨u, hu⟩) (fun j => by
      have := hf j
      simp only [World.frozen?, World.setCell, Array.getElem?_modify] at this ⊢
      cases hg : w.heap[g]? with
      | none => simp [hg]
      | some ob => cases ob <;> simp [hg] at this ⊢; exact this) (fun u hu => h1 u (by simp [hu]))
    have h0 := hc 0 (by simp)
    rw [Nat.add_zero, Option.isSome_iff_exists] at h0
    obtain ⟨u, hu⟩ := h0
    have hv := h1 v (by simp)
    have hfr := hf i
    simp only [storeCells, Sem.run_bind, Addr.add_mid, store]
    have hrun : (Sem.store .plain ⟨g, o + i, none⟩ v (.pure ())).run P w = .ok () (w.setCell ⟨g, o + i, none⟩ v) := by
      cases v <;> first | (simp [Sem.run, hu, hfr]; done) | (simp [Value.oneCell'] at hv)
    rw [hrun]
    simp only [Result.andThen_ok, setsW]
    rw [ih]; rfl
theorem run_st {T : TypeId} {agg : Bool} {n g o : Nat} {u : Value} {l : List Value} (hT : TI P T agg n) (hu : u.cells = l.toArray) (hl : l.length = n) (hc : ∀ j, j < n → (w.cell? ⟨g, o + j, none⟩).isSome = true) (hf : ∀ j, w.frozen? ⟨g, o + j, none⟩ = false) (h1 : ∀ v, v ∈ l → v.oneCell' = true) :
    (Instr.storeAt T (.pointer (some ⟨g, o, none⟩)) u).run P w = .ok () (setsW w g o l) := by
  have := run_store_cells (P := P) (g := g) l w o 0 (by simpa [hl] using hc) hf h1
  simp only [Instr.storeAt, Instr.sureAddr, storeVar, Sem.run_bind, Sem.run_pure, Result.andThen_ok, hT.run_size, hu]
  simp only [List.size_toArray, hl, ne_eq, not_true_eq_false, ite_false, Sem.run_bind, Sem.run_pure, Result.andThen_ok]
  simpa using this
def spl (l : List Value) : Nat → List Value → List Value
  | _, [] => l
  | o, v :: vs => spl (l.set o v) (o + 1) vs
theorem spl_len : ∀ (vs l : List Value) (o : Nat), (spl l o vs).length = l.length
  | [], l, o => rfl
  | v :: vs, l, o => by rw [spl, spl_len vs, List.length_set]
theorem St.sets {g : Nat} {E : TypeId} : ∀ (vs l : List Value) (o : Nat) {w : World}, St I w0 w (Ch.blk g l E :: cs) → St I w0 (setsW w g o vs) (Ch.blk g (spl l o vs) E :: cs)
  | [], l, o, w, h => h
  | v :: vs, l, o, w, h => St.sets vs (l.set o v) (o + 1) (h.set o v)
theorem opT_store_blk {T : TypeId} {x y : Operand} {agg : Bool} {n g off : Nat} {l d : List Value} {E : TypeId} {u : Value} (hT : TI P T agg n) (ho : o.op = .store T x y) (hx : ev x = .pointer (some ⟨g, off, none⟩)) (hy : ev y = u) (hu : u.cells = d.toArray) (hd : d.length = n) (h1 : d.all (·.oneCell') = true) (hl : off + n ≤ l.length) :
    OpT P I w0 o ev [Ch.blk g l E] (fun _ => True) (fun _ => [Ch.blk g (spl l off d) E]) := by
  intro w C hs
  have hg := hs.heap 0 rfl
  have hr := run_st (P := P) (w := w) hT (g := g) (o := off) hu hd (fun j hj => by
    simp only [World.cell?, hg]
    simp only [Option.isSome_none, Bool.false_eq_true, ite_false, List.getElem?_toArray]
    rw [List.getElem?_eq_getElem (by omega)]; rfl) (fun j => by simp [World.frozen?, hg]) (fun v hv => List.all_eq_true.1 h1 v hv)
  simp only [execOp, ho, hx, hy, Sem.run_bind, hr, Result.andThen_ok]
  exact ⟨trivial, St.sets d l off hs⟩
end
end Go.Proofs.YtfkjjnddefojjaaGreatDoor.D
/- Slices that are made: literals, make, append; stores into elements; calls; parts of slices. No program text is named here. -/
set_option linter.unusedVariables false
set_option linter.unusedSimpArgs false
set_option linter.unnecessarySimpa false
namespace Go.Proofs.YtfkjjnddefojjaaGreatDoor.D
open Go.RowKit

section
variable {P : Program} {I : Hp} {w0 w w' : World} {cs : List Ch} {o : Oper} {ev : Operand → Value} {α : Type} {R : Rep α} {E : TypeId}
/-! ### Literals -/
theorem set_run : ∀ (l : List Value) (k : Nat) (cells : Array Value), k + l.length ≤ cells.size → ((l.toArray.zipIdx).foldl (fun cs (c, j) => cs.setIfInBounds (k + j) c) cells).toList = cells.toList.take k ++ l ++ cells.toList.drop (k + l.length) := by
  intro l k cells h
  have key : ∀ (l : List Value) (i : Nat) (cells : Array Value), k + i + l.length ≤ cells.size → ((l.zipIdx i).foldl (fun cs (p : Value × Nat) => cs.setIfInBounds (k + p.2) p.1) cells).toList = cells.toList.take (k + i) ++ l ++ cells.toList.drop (k + i + l.length) := by
    intro l
    induction l with
    | nil => intro i cells h; simp
    | cons x l ih =>
      intro i cells h
      rw [List.length_cons] at h
      rw [List.zipIdx_cons, List.foldl_cons, ih (i + 1) _ (by rw [Array.size_setIfInBounds]; omega), Array.toList_setIfInBounds]
      have hs : cells.toList.length = cells.size := Array.length_toList
      have e1 : (cells.toList.set (k + i) x).take (k + i + 1) = cells.toList.take (k + i) ++ [x] := by
        rw [List.take_add_one, List.take_set_of_le (Nat.le_refl _), List.getElem?_set_self (by omega)]; rfl
      have e2 : (cells.toList.set (k + i) x).drop (k + (i + 1) + l.length) = cells.toList.drop (k + (i + 1) + l.length) := List.drop_set_of_lt (by omega)
      rw [e2, show k + (i + 1) = k + i + 1 from rfl, e1, List.length_cons, show k + i + (l.length + 1) = k + i + 1 + l.length from by omega]
      simp
  have := key l 0 cells (by omega)
  rw [← Array.foldl_toList]
  simpa [Nat.add_assoc] using this
theorem fill_ones (size : Nat) : ∀ (us : List (Value × List Value)) (k : Nat) (cells : Array Value), (∀ u ∈ us, u.1.cells = u.2.toArray ∧ u.2.length = size) → (k + us.length) * size ≤ cells.size →
    ∃ c, Instr.fill (fun i => some (i * size, size)) cells ((us.zipIdx k).map fun p => (p.2, p.1.1)) = some c ∧ c.toList = cells.toList.take (k * size) ++ us.flatMap (·.2) ++ cells.toList.drop ((k + us.length) * size)
  | [], k, cells, _, _ => ⟨cells, rfl, by simp⟩
  | (u, l) :: us, k, cells, h, hs => by
    obtain ⟨hu, hl⟩ := h (u, l) (by simp)
    simp only at hu hl
    rw [List.length_cons] at hs
    have hk : (k + 1 + us.length) * size ≤ cells.size := by rw [show k + 1 + us.length = k + (us.length + 1) from by omega]; exact hs
    have hk1 : (k + 1) * size ≤ cells.size := Nat.le_trans (Nat.mul_le_mul_right _ (by omega)) hk
    rw [Nat.add_mul, Nat.one_mul] at hk1
    have hr := set_run l (k * size) cells (by omega)
    have hsz : ((l.toArray.zipIdx).foldl (fun cs (p : Value × Nat) => cs.setIfInBounds (k * size + p.2) p.1) cells).size = cells.size := by
      rw [← Array.length_toList, hr]
      simp only [List.length_append, List.length_take, List.length_drop, Array.length_toList]; omega
    obtain ⟨c, c1, c2⟩ := fill_ones size us (k + 1) _ (fun u hu => h u (by simp [hu])) (by rw [hsz]; exact hk)
    refine ⟨c, ?_, ?_⟩
    · rw [List.zipIdx_cons, List.map_cons, Instr.fill]
      simp only [hu, List.size_toArray, hl, ne_eq, not_true_eq_false, decide_false, Bool.false_or]
      rw [if_neg (by simp; omega)]
      exact c1
    · rw [c2, hr]
      have e1 : (k + 1) * size = k * size + l.length := by rw [Nat.add_mul, Nat.one_mul, hl]
      have e2 : (k + 1 + us.length) * size = k * size + l.length + us.length * size := by rw [Nat.add_mul, e1]
      have e3 : (k + (us.length + 1)) * size = k * size + l.length + us.length * size := by rw [← e2]; congr 1; omega
      have htl : (cells.toList.take (k * size)).length = k * size := by rw [List.length_take, Array.length_toList]; omega
      rw [e1, e2, List.length_cons, e3, List.flatMap_cons]
      rw [List.append_assoc, List.append_assoc, List.append_assoc]
      rw [List.take_append, htl, List.take_of_length_le (by omega), Nat.add_sub_cancel_left, List.take_left]
      rw [List.drop_append, htl, List.drop_of_length_le (by rw [htl]; omega), List.drop_append, show k * size + l.length + us.length * size - k * size - l.length = us.length * size from by omega, List.drop_of_length_le (by omega), List.drop_drop]
      simp
theorem opT_lit0 {T : TypeId} (hT : P.underlying T = some (.slice E)) {agg : Bool} {n : Nat} (hE : TI P E agg n) (ho : o.op = .buildSlice T 0 #[]) : OpT P I w0 o ev [] (fun _ => True) (fun v => [Ch.own (rSlice E R) [v] []]) := by
  intro w C hs
  have hr : (execOp ev o).run P w = .ok (.value (.slice (some ⟨w.heap.size, 0, none⟩) 0 0)) (w.alloc (.cells #[] E)) := by
    simp [execOp, ho, Instr.buildSlice, run_underlying hT, hE.run_size, Instr.fill, newRow, Result.andThen]
    rw [show Array.map (fun x => (default : Value)) (Array.range 0) = #[] from Array.eq_empty_of_size_eq_zero (by simp)]
  rw [hr]
  refine ⟨trivial, ?_⟩
  obtain ⟨hb, hi, F, ⟨G, K, rfl, ⟨rfl, hg⟩, hr⟩, n1, n2⟩ := hs.alloc [] E
  exact ⟨hb, hi, [w.heap.size] ++ K, ⟨[w.heap.size], K, rfl, ⟨by simp, .inr ⟨w.heap.size, 0, 0, #[], [], rfl, hg, by simp, by simp, by simp, rfl, rfl⟩⟩, hr⟩, n1, n2⟩
def ownsOf (R : Rep α) : List (List Value) → List α → List Ch
  | c :: ls, x :: xs => Ch.own R c x :: ownsOf R ls xs
  | _, _ => []
theorem owns_els : ∀ {ls : List (List Value)} {xs : List α} {F}, ls.length = xs.length → Sep I (ownsOf R ls xs) w F → OwnEls R I w (ls.flatMap (fun l => l)) xs F
  | [], [], F, _, h => h
  | l :: ls, x :: xs, F, he, ⟨G, K, h1, h2, h3⟩ => ⟨l, ls.flatMap (fun l => l), G, K, by simp, R.own_len h2, h1, h2, owns_els (by simpa using he) h3⟩
  | [], _ :: _, F, he, h => by simp at he
  | _ :: _, [], F, he, h => by simp at he
theorem flat_len {n : Nat} : ∀ us : List (Value × List Value), (∀ u ∈ us, u.2.length = n) → (us.flatMap (·.2)).length = us.length * n
  | [], _ => by simp
  | u :: us, h => by rw [List.flatMap_cons, List.length_append, List.length_cons, Nat.add_mul, h u (by simp), flat_len us fun v hv => h v (by simp [hv])]; omega
theorem opT_lit {T : TypeId} {z : Value} {n b m : Nat} {parts : Array (Nat × Operand)} (us : List (Value × List Value)) (xs : List α) (hT : P.underlying T = some (.slice E)) (hE : TZ P E z n b) (hn : 0 < n) (hR : R.size = n) (hm : 0 < m) (hsm : m * n ≤ 16777216) (ho : o.op = .buildSlice T m parts) (hp : parts.toList.map (fun p => (p.1, ev p.2)) = (us.zipIdx 0).map fun p => (p.2, p.1.1)) (hl : us.length = m) (hx : xs.length = m)
    (hu : ∀ u ∈ us, u.1.cells = u.2.toArray ∧ u.2.length = n) : OpT P I w0 o ev (ownsOf R (us.map (·.2)) xs) (fun _ => True) (fun v => [Ch.own (rSlice E R) [v] xs]) := by
  intro w C hs
  obtain ⟨ie, hie, hz, h1, h2⟩ := info_parts hE
  have hsz : ((Array.range (m * n)).map (z.cells[· % z.cells.size]!)).size = m * n := by simp
  obtain ⟨c, c1, c2⟩ := fill_ones n us 0 ((Array.range (m * n)).map (z.cells[· % z.cells.size]!)) hu (by rw [hsz, Nat.zero_add, hl]; exact Nat.le_refl _)
  rw [Nat.zero_mul, List.take_zero, List.nil_append, Nat.zero_add, hl, List.drop_of_length_le (by rw [Array.length_toList, hsz]; exact Nat.le_refl _), List.append_nil] at c2
  have hmn : 0 < m * n := Nat.mul_pos hm hn
  have hr : (execOp ev o).run P w = .ok (.value (.slice (some ⟨w.heap.size, 0, none⟩) m m)) (w.alloc (.cells c E)) := by
    simp only [execOp, ho, Sem.run_bind]
    rw [run_buildSlice w T E m _ c ie z hT hie hz (by rw [h1]; omega) (by rw [h1]; omega) (by rw [h1, Array.toList_map]; rw [show (fun x : Nat × Operand => match x with | (i, x) => (i, ev x)) = fun p => (p.1, ev p.2) from rfl, hp]; exact c1)]
    rfl
  rw [hr]
  refine ⟨trivial, ?_⟩
  have hc : c = (us.flatMap (·.2)).toArray := by rw [← c2]
  rw [hc]
  obtain ⟨hb, hi, F, ⟨G, K, rfl, ⟨rfl, hg⟩, hr⟩, n1, n2⟩ := hs.alloc (us.flatMap (·.2)) E
  obtain ⟨F1, F2, rfl, k1, k2⟩ := hr.split
  refine ⟨hb, hi, (w.heap.size :: F1) ++ F2, ⟨w.heap.size :: F1, F2, rfl, ⟨by rw [hx]; unfold lim; have : m ≤ m * n := Nat.le_mul_of_pos_right _ hn; omega, .inr ⟨w.heap.size, 0, m, _, F1, by rw [hx], hg, by omega, ?_, ?_, rfl, ?_⟩⟩, k2⟩, by simpa using n1, fun b hb => n2 b (by simpa using hb)⟩
  · unfold maxLen; have : m ≤ m * n := Nat.le_mul_of_pos_right _ hn; omega
  · rw [← hc, ← Array.length_toList, c2, hR, Nat.zero_add]
    rw [flat_len us fun u h => (hu u h).2, hl]
    exact Nat.le_refl _
  · have := owns_els (R := R) (I := I) (w := w.alloc (.cells (us.flatMap (·.2)).toArray E)) (ls := us.map (·.2)) (xs := xs) (by simp [hl, hx]) k1
    rw [List.flatMap_map] at this
    exact this

/-! ### append -/
theorem run_append_none {t ty e : TypeId} {i : TypeInfo} (ht : P.underlying t = some (.slice e)) (hi : P.info? e = some i) {ao : Option Addr} {n c : Nat} (hc : n ≤ c) {bo : Option Addr} {d : Nat} : (Builtin.append_ #[t, t] ty #[.slice ao n c, .slice bo 0 d]).run P w = .ok (.slice ao n c) w := by
  have hz : (Builtin.firstCells i.size 0 (.slice bo 0 d)).run P w = .ok #[] w := by
    cases bo <;> simp [Builtin.firstCells, loadCells, loadCellsFrom]
  simp [Builtin.append_, run_underlying ht, sizeOf, typeInfo, hi, Builtin.lenOf, hz, hc, Result.andThen]
  cases ao <;> simp [storeCells]
theorem rd_els {ccs : Array Value} {off : Nat} : ∀ {xs : List α}, (∀ i x, xs[i]? = some x → ∃ c : List Value, c.length = R.size ∧ (∀ j, j < R.size → ccs.toList[off + i * R.size + j]? = c[j]?) ∧ R.rd I c x) →
    ∃ news : List Value, news.length = xs.length * R.size ∧ (∀ j u, news[j]? = some u → ccs.toList[off + j]? = some u) ∧ (∀ u ∈ news, u.oneCell' = true) ∧ OwnEls (rFro R) I w news xs [] := by
  intro xs
  induction xs generalizing off with
  | nil => intro _; exact ⟨[], by simp, by simp, by simp, rfl⟩
  | cons x xs ih =>
    intro h
    obtain ⟨c, c1, c2, c3⟩ := h 0 x rfl
    obtain ⟨news, n1, n2, n3, n4⟩ := ih (off := off + R.size) fun i y hy => by
      obtain ⟨c, c1, c2, c3⟩ := h (i + 1) y (by simpa using hy)
      exact ⟨c, c1, fun j hj => by rw [← c2 j hj, Nat.add_mul]; congr 1; omega, c3⟩
    refine ⟨c ++ news, by rw [List.length_append, c1, n1, List.length_cons, Nat.add_mul]; omega, fun j u hj => ?_, fun u hu => ?_, ⟨c, news, [], [], rfl, c1, rfl, ⟨rfl, c3⟩, n4⟩⟩
    · by_cases hj' : j < c.length
      · rw [List.getElem?_append_left hj'] at hj
        have := c2 j (by omega)
        rw [Nat.zero_mul, Nat.add_zero] at this
        rw [this]; exact hj
      · rw [List.getElem?_append_right (by omega)] at hj
        have := n2 _ u hj
        rwa [show off + R.size + (j - c.length) = off + j from by omega] at this
    · rcases List.mem_append.1 hu with h | h
      · exact R.rd_one c3 u h
      · exact n3 u h
def OffRow (w : World) (E : TypeId) (n : Nat) (v : Value) (len : Nat) (cells : List Value) : Prop := cells.length = len * n ∧ ((v = .slice none 0 0 ∧ len = 0) ∨ ∃ g ofs cap cur, v = .slice (some ⟨g, ofs, none⟩) len cap ∧ w.heap[g]? = some (.cells cur E (0, 0)) ∧ len ≤ cap ∧ cap ≤ maxLen ∧ ofs + cap * n ≤ cur.size ∧ (cur.toList.drop ofs).take (len * n) = cells)
theorem OffRow.of_owns {b n len : Nat} {v : Value} {cells : List Value} (h : w.ownsRow b E n v len cells) : OffRow w E n v len cells :=
  ⟨h.1, h.2.imp (fun h => h) fun ⟨g, cap, cur, e, _, hg, h1, h2, h3, h4⟩ => ⟨g, 0, cap, cur, e, hg, h1, h2, by rw [h3, Nat.zero_add]; exact Nat.le_refl _, h4⟩⟩
theorem setCells_other (g : Nat) : ∀ (d : List Value) (o : Nat) (w : World), (w.setCells g o d).os = w.os ∧ (w.setCells g o d).tape = w.tape ∧ (w.setCells g o d).output = w.output ∧ (w.setCells g o d).heap.size = w.heap.size ∧ ∀ b, b ≠ g → (w.setCells g o d).heap[b]? = w.heap[b]?
  | [], _, _ => ⟨rfl, rfl, rfl, rfl, fun _ _ => rfl⟩
  | v :: d, o, w => by
    obtain ⟨i1, i2, i3, i4, i5⟩ := setCells_other g d (o + 1) (w.setCell ⟨g, o, none⟩ v)
    exact ⟨i1, i2, i3, i4.trans (by simp [World.setCell]), fun b hb => (i5 b hb).trans (Below.heap_setCell _ _ _ _ hb)⟩
theorem setCells_row {g : Nat} {fr : Nat × Nat} : ∀ (d : List Value) (o : Nat) (w : World) (cur : Array Value), o + d.length ≤ cur.size → w.heap[g]? = some (.cells cur E fr) → (w.setCells g o d).heap[g]? = some (.cells (cur.toList.take o ++ d ++ cur.toList.drop (o + d.length)).toArray E fr)
  | [], o, w, cur, _, h => by simpa [World.setCells] using h
  | v :: d, o, w, cur, hs, h => by
    rw [List.length_cons] at hs
    have := setCells_row d (o + 1) (w.setCell ⟨g, o, none⟩ v) (cur.setIfInBounds o v) (by rw [Array.size_setIfInBounds]; omega) (heap_setCell_at h)
    rw [World.setCells, this, Array.toList_setIfInBounds]
    have hl : cur.toList.length = cur.size := Array.length_toList
    have e1 : (cur.toList.set o v).take (o + 1) = cur.toList.take o ++ [v] := by
      rw [List.take_add_one, List.take_set_of_le (Nat.le_refl _), List.getElem?_set_self (by omega)]; rfl
    have e2 : (cur.toList.set o v).drop (o + 1 + d.length) = cur.toList.drop (o + 1 + d.length) := List.drop_set_of_lt (by omega)
    rw [e1, e2, List.length_cons, show o + (d.length + 1) = o + 1 + d.length from by omega]
    simp
theorem run_append_off {t ty : TypeId} {z : Value} {n b : Nat} {i : TypeInfo} (ht : P.underlying t = some (.slice E)) (hi : P.info? E = some i) (hz : i.zero = some z) (hsize : i.size = n) (hby : i.bytes = b) (hzs : z.cells.size = n) (hn : 0 < n)
    {v : Value} {len : Nat} {cells : List Value} (hrow : OffRow w E n v len cells) (a : Addr) (m c : Nat) (news : List Value) (hl : news.length = m * n) (hnews : ∀ j u, news[j]? = some u → w.cell? (a.add j) = some u) (hone : ∀ u ∈ news, u.oneCell' = true) (h63 : len + m ≤ maxLen) (hb : (len + m) * b ≤ 140737488355328) :
    ∃ v' w', (Builtin.append_ #[t, t] ty #[v, .slice (some a) m c]).run P w = .ok v' w' ∧ OffRow w' E n v' (len + m) (cells ++ news) ∧ w.grownBy w' v.ownBlock ∧ (v'.ownBlock = v.ownBlock ∨ ∃ g', v'.ownBlock = some g' ∧ w.heap.size ≤ g') := by
  obtain ⟨hcl, h⟩ := hrow
  have hlen : (cells ++ news).length = (len + m) * n := by rw [List.length_append, hcl, hl, Nat.add_mul]
  rcases h with ⟨rfl, rfl⟩ | ⟨g, ofs, cap, cur, rfl, hg, h3, h4, h5, h6⟩
  · obtain rfl : cells = [] := List.eq_nil_of_length_eq_zero (by simpa using hcl)
    obtain ⟨v', w', hrun, r1, r2, -, r3⟩ := run_append_own_at (P := P) (w := w) 0 t ty E i z n b ht hi hz hsize hby hzs hn (.slice none 0 0) 0 [] (World.ownsRow_nil w _ E n) a m c news hl hnews hone h63 hb (by omega)
    exact ⟨v', w', hrun, .of_owns r1, r2, r3.imp (fun h => h) fun h => ⟨_, h, Nat.le_refl _⟩⟩
  · have hln : cur.toList.length = cur.size := Array.length_toList
    by_cases hroom : len + m ≤ cap
    · have hfit : ofs + len * n + news.length ≤ cur.size := by
        have : (len + m) * n ≤ cap * n := Nat.mul_le_mul_right _ hroom
        rw [Nat.add_mul] at this
        rw [hl]; omega
      have hrun := run_append_room_cells (P := P) w t ty E i ht hi g ofs len cap a m c news (by rw [hsize]; exact hl) hnews hone hroom (fun j hj => by
        rw [hsize]; simp only [World.cell?, hg, Option.isSome_none, Bool.false_eq_true, ite_false]
        rw [Array.getElem?_eq_getElem (by omega)]; rfl) (fun j _ => by simp [World.frozen?, hg])
      rw [hsize] at hrun
      obtain ⟨o1, o2, o3, o4, o5⟩ := setCells_other g news (ofs + len * n) w
      refine ⟨_, _, hrun, ⟨hlen, .inr ⟨g, ofs, cap, _, rfl, setCells_row news _ w cur hfit hg, hroom, h4, ?_, ?_⟩⟩, ⟨o1, o2, o3, by rw [o4]; exact Nat.le_refl _, fun k _ hk => o5 k fun e => hk (by rw [e]; rfl)⟩, .inl rfl⟩
      · simp only [List.size_toArray, List.length_append, List.length_take, List.length_drop, Array.length_toList]; omega
      · have e0 : (cur.toList.take (ofs + len * n)).drop ofs = cells := by rw [List.drop_take, Nat.add_sub_cancel_left]; exact h6
        show ((cur.toList.take (ofs + len * n) ++ news ++ cur.toList.drop (ofs + len * n + news.length)).drop ofs).take ((len + m) * n) = cells ++ news
        rw [List.append_assoc, List.drop_append_of_le_length (by rw [List.length_take]; omega), e0, ← List.append_assoc, ← hlen]
        exact List.take_left
    · obtain ⟨v', w', hrun, r1, r2⟩ := run_append_arg_grows (P := P) w t ty E i z n b ht hi hz hsize hby hzs hn ⟨g, ofs, none⟩ len cap cells hcl (fun j u hj => by
        rw [Addr.add_mid]
        rw [← h6, List.getElem?_take] at hj
        split at hj
        · rw [List.getElem?_drop] at hj
          simp only [World.cell?, hg]; simpa using hj
        · cases hj) a m c news hl hnews (by omega) h63 hb
      refine ⟨v', w', hrun, .of_owns r1, ⟨r2.os, r2.tape, r2.output, r2.size, fun k hk _ => r2.block k hk (by simp)⟩, .inr ?_⟩
      rcases r1.2 with ⟨_, h0⟩ | ⟨g', cp, cu, rfl, hge, -⟩
      · omega
      · exact ⟨g', rfl, hge⟩
theorem St.append_cells {t ty : TypeId} {z : Value} {n b : Nat} (ht : P.underlying t = some (.slice E)) (hE : TZ P E z n b) (hzs : z.cells.size = n) (hn : 0 < n) (hR : R.size = n)
    {v : Value} {xs ys : List α} {news : List Value} {K2 : List Nat} {a : Addr} {cap : Nat} {C : List Ch} (hs : St I w0 w (Ch.own (rSlice E R) [v] xs :: C))
    (hsep : ∃ G F', (∃ F, (rSlice E R).own I w [v] xs G ∧ Sep I C w F ∧ F' = K2 ++ F ∧ (G ++ F').Nodup ∧ ∀ b, b ∈ G ++ F' → I b = none)) (hels : OwnEls R I w news ys K2)
    (hnews : ∀ j u, news[j]? = some u → w.cell? (a.add j) = some u) (hone : ∀ u ∈ news, u.oneCell' = true) (hl : news.length = ys.length * n) (hb : (xs.length + ys.length) * b ≤ 140737488355328) (hb1 : 1 ≤ b) :
    ∃ v' w', (Builtin.append_ #[t, t] ty #[v, .slice (some a) ys.length cap]).run P w = .ok v' w' ∧ St I w0 w' (Ch.own (rSlice E R) [v'] (xs ++ ys) :: C) := by
  obtain ⟨i, hi, hz, hsize, hby⟩ := info_parts hE
  obtain ⟨G, F', F, ⟨hlx, hown⟩, hC, rfl, hnd, hI⟩ := hsep
  have hlen : xs.length + ys.length ≤ 140737488355328 := Nat.le_trans (Nat.le_mul_of_pos_right _ hb1) hb
  have old : ∃ K1 cells, OffRow w E n v xs.length cells ∧ OwnEls R I w cells xs K1 ∧ cells.length = xs.length * n ∧
      ((G = K1 ∧ v.ownBlock = none) ∨ ∃ g, G = g :: K1 ∧ v.ownBlock = some g ∧ g < w.heap.size) := by
    rcases hown with ⟨hv, rfl, rfl⟩ | ⟨g, ofs, cp, cur, K1, hv, hg, h3, h4, h5, rfl, h6⟩
    · obtain rfl : v = .slice none 0 0 := by simpa using hv
      exact ⟨[], [], .of_owns (World.ownsRow_nil w 0 E n), rfl, by simp, .inl ⟨rfl, rfl⟩⟩
    · obtain rfl : v = .slice (some ⟨g, ofs, none⟩) xs.length cp := by simpa using hv
      have hlt := (Array.getElem?_eq_some_iff.1 hg).1
      rw [hR] at h5
      have hfit : xs.length * n ≤ cur.size - ofs := by have := Nat.mul_le_mul_right n h3; omega
      have htl : ((cur.toList.drop ofs).take (xs.length * n)).length = xs.length * n := by rw [List.length_take, List.length_drop, Array.length_toList]; exact Nat.min_eq_left hfit
      exact ⟨K1, (cur.toList.drop ofs).take (xs.length * n), ⟨htl, .inr ⟨g, ofs, cp, cur, rfl, hg, h3, h4, h5, rfl⟩⟩, h6.rest (by rw [hR, List.take_take, Nat.min_self]), htl, .inr ⟨g, rfl, rfl, hlt⟩⟩
  obtain ⟨K1, cells, hrow, hxs, hcells, hG⟩ := old
  obtain ⟨v', w', hrun, hrow', hgrow, hat⟩ := run_append_off (P := P) (w := w) (ty := ty) ht hi hz hsize hby hzs hn hrow a ys.length cap news hl hnews hone
    (by unfold maxLen; omega) hb
  refine ⟨v', w', hrun, ?_⟩
  obtain ⟨⟨b1, b2, b3, b4⟩, hle, -⟩ := hs
  have hlt : ∀ b o, I b = some o → b < w.heap.size := fun b o hb => (Array.getElem?_eq_some_iff.1 (hle b o hb)).1
  have hK1 : ∀ b, b ∈ K1 → b < w.heap.size := hxs.live
  have hK2 : ∀ b, b ∈ K2 → b < w.heap.size := hels.live
  have hF : ∀ b, b ∈ F → b < w.heap.size := hC.live
  have hne : ∀ b, b ∈ K1 ∨ b ∈ K2 ∨ b ∈ F → some b ≠ v.ownBlock := by
    intro b hb1 e
    rcases hG with ⟨rfl, hv⟩ | ⟨g, rfl, hv, _⟩
    · rw [hv] at e; cases e
    · rw [hv] at e
      obtain rfl := Option.some.inj e
      rw [List.cons_append] at hnd
      have := (List.nodup_cons.1 hnd).1
      simp only [List.mem_append] at this
      exact this hb1
  have hIne : ∀ b o, I b = some o → some b ≠ v.ownBlock := by
    intro b o hb e
    rcases hG with ⟨rfl, hv⟩ | ⟨g, rfl, hv, _⟩
    · rw [hv] at e; cases e
    · rw [hv] at e
      obtain rfl := Option.some.inj e
      rw [hI b (by simp)] at hb; cases hb
  have hkeep : ∀ b, b < w.heap.size → some b ≠ v.ownBlock → w'.heap[b]? = w.heap[b]? := fun b h1 h2 => hgrow.block b h1 h2
  have hnd' : (K1 ++ (K2 ++ F)).Nodup := by
    rcases hG with ⟨rfl, _⟩ | ⟨g, rfl, _, _⟩
    · exact hnd
    · exact (List.nodup_cons.1 (List.cons_append ▸ hnd)).2
  have hI' : ∀ b, b ∈ K1 ++ (K2 ++ F) → I b = none := by
    intro b hb
    rcases hG with ⟨rfl, _⟩ | ⟨g, rfl, _, _⟩
    · exact hI b hb
    · exact hI b (List.mem_cons_of_mem _ hb)
  have hxs' : OwnEls R I w' cells xs K1 := hxs.stay fun b hb => hkeep b (hK1 b hb) (hne b (.inl hb))
  have hys' : OwnEls R I w' news ys K2 := hels.stay fun b hb => hkeep b (hK2 b hb) (hne b (.inr (.inl hb)))
  have hj := hxs'.join (by rw [hR]; exact hcells) hys'
  have hC' : Sep I C w' F := hC.stay fun b hb => hkeep b (hF b hb) (hne b (.inr (.inr hb)))
  obtain ⟨hr1, hr2⟩ := hrow'
  refine ⟨⟨hgrow.os.trans b1, hgrow.tape.trans b2, hgrow.output.trans b3, Nat.le_trans b4 hgrow.size⟩, fun b o hb => ?_, ?_⟩
  · show w'.heap[b]? = some o
    rw [hkeep b (hlt b o hb) (hIne b o hb)]; exact hle b o hb
  rcases hr2 with ⟨rfl, h0⟩ | ⟨g', ofs', cp', cur', rfl, hg2, hg3, hg4, hg5, hg6⟩
  · have hx0 : xs = [] := List.eq_nil_of_length_eq_zero (by omega)
    have hy0 : ys = [] := List.eq_nil_of_length_eq_zero (by omega)
    subst hx0; subst hy0
    have e1 : K1 = [] := hxs
    have e2 : K2 = [] := hels
    subst e1; subst e2
    exact ⟨F, ⟨[], F, rfl, ⟨by simp, .inl ⟨rfl, rfl, rfl⟩⟩, hC'⟩, by simpa using hnd', fun b hb => hI' b (by simpa using hb)⟩
  · have hnew : ∀ b, b ∈ K1 ++ (K2 ++ F) → b ≠ g' := by
      intro b hb e
      subst e
      have hb' : b ∈ K1 ∨ b ∈ K2 ∨ b ∈ F := by simpa using hb
      rcases hat with e | ⟨g1, e, hge⟩
      · exact hne b hb' (by rw [← e]; rfl)
      · simp [Value.ownBlock] at e
        rcases hb' with h | h | h
        · have := hK1 b h; omega
        · have := hK2 b h; omega
        · have := hF b h; omega
    refine ⟨(g' :: (K1 ++ K2)) ++ F, ⟨g' :: (K1 ++ K2), F, rfl, ⟨by rw [List.length_append]; unfold lim; omega, .inr ⟨g', ofs', cp', cur', K1 ++ K2, by rw [List.length_append], hg2, by rw [List.length_append]; exact hg3, hg4, by rw [hR]; exact hg5, rfl, hj.rest ?_⟩⟩, hC'⟩, ?_, fun b hb => ?_⟩
    · rw [List.length_append, hR, ← hg6, List.take_take, Nat.min_self]
    · rw [List.cons_append, List.append_assoc]
      exact List.nodup_cons.2 ⟨fun hm => hnew g' hm rfl, hnd'⟩
    · rw [List.cons_append, List.append_assoc] at hb
      rcases List.mem_cons.1 hb with rfl | hb
      · cases hIb : I b with
        | none => rfl
        | some o =>
          rcases hat with e | ⟨g1, e, hge⟩
          · exact absurd (by rw [← e]; rfl) (hIne b o hIb)
          · simp [Value.ownBlock] at e
            have := hlt b o hIb; omega
      · exact hI' b hb

def Cpy (S R : Rep α) : Prop := ∀ {I w c a}, S.rd I c a → R.own I w c a []
theorem cpy_flat {enc : α → Value} {h1 : ∀ a, (enc a).oneCell' = true} : Cpy (rFlat α enc h1) (rFlat α enc h1) := fun h => ⟨rfl, h⟩
theorem cpy_bool : Cpy rBool rBool := cpy_flat
theorem cpy_str : Cpy rStr rStr := cpy_flat
theorem cpy_fro2 {R : Rep α} : Cpy (rFro R) (rFro R) := fun h => ⟨rfl, h⟩
theorem cpy_prod {α β : Type} {A A' : Rep α} {B B' : Rep β} (h : Cpy A A') (k : Cpy B B') : Cpy (rProd A B) (rProd A' B') := by
  rintro I w c a ⟨d, e, rfl, h1, h2⟩
  exact ⟨d, e, [], [], rfl, rfl, h h1, k h2⟩
theorem St.free {R : Rep α} {c : List Value} {x : α} (h : St I w0 w cs) (hx : R.own I w c x []) : St I w0 w (Ch.own R c x :: cs) := by
  obtain ⟨hb, hi, F, h1, h2, h3⟩ := h
  exact ⟨hb, hi, F, ⟨[], F, rfl, hx, h1⟩, h2, h3⟩
theorem St.frees {R : Rep α} : ∀ {ls : List (List Value)} {xs : List α}, St I w0 w cs → (∀ p, p ∈ ls.zip xs → R.own I w p.1 p.2 []) → St I w0 w (ownsOf R ls xs ++ cs)
  | [], _, h, _ => h
  | _ :: _, [], h, _ => h
  | c :: ls, x :: xs, h, hx => (St.frees h fun p hp => hx p (by simp [hp])).free (hx (c, x) (by simp))
theorem opT_lit_cpy {S : Rep α} {T : TypeId} {z : Value} {n b m : Nat} {parts : Array (Nat × Operand)} (us : List (Value × List Value)) (xs : List α) (hc : Cpy S R) (hr : ∀ p, p ∈ (us.map (·.2)).zip xs → S.rd I p.1 p.2) (hT : P.underlying T = some (.slice E)) (hE : TZ P E z n b) (hn : 0 < n) (hR : R.size = n) (hm : 0 < m) (hsm : m * n ≤ 16777216) (ho : o.op = .buildSlice T m parts) (hp : parts.toList.map (fun p => (p.1, ev p.2)) = (us.zipIdx 0).map fun p => (p.2, p.1.1)) (hl : us.length = m) (hx : xs.length = m)
    (hu : ∀ u ∈ us, u.1.cells = u.2.toArray ∧ u.2.length = n) : OpT P I w0 o ev [] (fun _ => True) (fun v => [Ch.own (rSlice E R) [v] xs]) := by
  intro w C hs
  exact opT_lit (R := R) us xs hT hE hn hR hm hsm ho hp hl hx hu w C (St.frees hs fun p hp => hc (hr p hp))
theorem run_call_append {T : TypeId} {x y : Operand} {s u v : Value} (ho : o.op = .call { callee := .builtin .append, args := #[x, y], argTypes := #[T, T] }) (hx : ev x = s) (hy : ev y = u) (hr : (Builtin.append_ #[T, T] o.type #[s, u]).run P w = .ok v w') : (execOp ev o).run P w = .ok (.value v) w' := by
  simp only [execOp, ho, resolve, invoke, builtin, Sem.run_bind, Sem.run_pure, Result.andThen_ok, List.map_toArray, List.map_cons, List.map_nil, hx, hy, hr]
theorem opT_append {T : TypeId} {z : Value} {n b : Nat} {x y : Operand} {s u : Value} {xs ys : List α} (hT : P.underlying T = some (.slice E)) (hE : TZ P E z n b) (hzs : z.cells.size = n) (hn : 0 < n) (hR : R.size = n) (hb1 : 1 ≤ b) (ho : o.op = .call { callee := .builtin .append, args := #[x, y], argTypes := #[T, T] }) (hx : ev x = s) (hy : ev y = u) (hb : (xs.length + ys.length) * b ≤ 140737488355328) :
    OpT P I w0 o ev [Ch.own (rSlice E R) [s] xs, Ch.own (rSlice E R) [u] ys] (fun _ => True) (fun v => [Ch.own (rSlice E R) [v] (xs ++ ys)]) := by
  intro w C hs
  have hs0 := hs
  obtain ⟨hb0, hi, F, ⟨G, K, rfl, e1, K1, K2, rfl, ⟨hly, e2⟩, e3⟩, hnd, hI⟩ := hs
  have hst : St I w0 w (Ch.own (rSlice E R) [s] xs :: C) := (hs0.perm (List.Perm.swap _ _ _)).tail
  rcases e2 with ⟨hv, rfl, rfl⟩ | ⟨g, ofs, cap, cur, K3, hv, k1, k2, k3, k4, rfl, k5⟩
  · obtain rfl : u = .slice none 0 0 := by simpa using hv
    obtain ⟨i, hi', hz, hsize, hby⟩ := info_parts hE
    have hrun : (Builtin.append_ #[T, T] o.type #[s, .slice none 0 0]).run P w = .ok s w := by
      rcases e1.2 with ⟨hs1, _⟩ | ⟨g, ofs, cap, cur, K, hs1, _, h3, _⟩
      · obtain rfl : s = .slice none 0 0 := by simpa using hs1
        exact run_append_none hT hi' (Nat.le_refl _)
      · obtain rfl : s = .slice (some ⟨g, ofs, none⟩) xs.length cap := by simpa using hs1
        exact run_append_none hT hi' h3
    rw [run_call_append ho hx hy hrun]
    refine ⟨trivial, ?_⟩
    rw [List.append_nil]; exact hst
  · obtain rfl : u = .slice (some ⟨g, ofs, none⟩) ys.length cap := by simpa using hv
    have hln : cap * n ≤ (cur.toList.drop ofs).length := by rw [List.length_drop, Array.length_toList]; rw [hR] at k4; omega
    have hfit : ys.length * n ≤ cap * n := Nat.mul_le_mul_right _ k2
    have hlen : ((cur.toList.drop ofs).take (ys.length * n)).length = ys.length * n := by rw [List.length_take]; omega
    have hels : OwnEls R I w ((cur.toList.drop ofs).take (ys.length * n)) ys K3 := k5.rest (by rw [hR, List.take_take, Nat.min_self])
    have hone : ∀ v ∈ (cur.toList.drop ofs).take (ys.length * n), v.oneCell' = true := by
      have : ∀ {ys : List α} {l : List Value} {F}, OwnEls R I w l ys F → ∀ v ∈ l.take (ys.length * R.size), v.oneCell' = true := by
        intro ys
        induction ys with
        | nil => intro l F _ v hv; simp at hv
        | cons y ys ih =>
          rintro l F ⟨c, rest, G, K, rfl, h2, h3, h4, h5⟩ v hv
          rw [List.length_cons, Nat.add_mul, Nat.one_mul, Nat.add_comm, List.take_append, List.take_of_length_le (by omega), h2, Nat.add_sub_cancel_left] at hv
          rcases List.mem_append.1 hv with h | h
          · exact R.own_one h4 v h
          · exact ih h5 v h
      have := this k5
      rwa [hR] at this
    have hnd1 : (G ++ (K3 ++ K2)).Nodup := by
      rw [List.cons_append] at hnd
      exact hnd.sublist (List.Sublist.append_left (List.sublist_cons_self _ _) _)
    obtain ⟨v', w', hrun, hst'⟩ := St.append_cells (ty := o.type) hT hE hzs hn hR (a := ⟨g, ofs, none⟩) (cap := cap) (K2 := K3) (ys := ys) (news := (cur.toList.drop ofs).take (ys.length * n)) hst
      ⟨G, K3 ++ K2, K2, e1, e3, rfl, hnd1, fun b hb => hI b (by rcases List.mem_append.1 hb with h | h; exact List.mem_append_left _ h; exact List.mem_append_right _ (by rw [List.cons_append]; exact List.mem_cons_of_mem _ h))⟩
      hels (fun j u hj => by
        rw [Addr.add_mid]
        rw [List.getElem?_take] at hj
        split at hj
        · rw [List.getElem?_drop] at hj
          simp only [World.cell?, k1]; simpa using hj
        · cases hj) hone hlen hb hb1
    rw [run_call_append ho hx hy hrun]
    exact ⟨trivial, hst'⟩
theorem opT_append_fro {S : Rep α} {E' T : TypeId} {z : Value} {n b : Nat} {x y : Operand} {s u : Value} {xs ys : List α} (hc : Cpy S R) (hSz : S.size = n) (hr : (rSlice E' S).rd I [u] ys) (hT : P.underlying T = some (.slice E)) (hE : TZ P E z n b) (hzs : z.cells.size = n) (hn : 0 < n) (hR : R.size = n) (hb1 : 1 ≤ b) (ho : o.op = .call { callee := .builtin .append, args := #[x, y], argTypes := #[T, T] }) (hx : ev x = s) (hy : ev y = u) (hb : (xs.length + ys.length) * b ≤ 140737488355328) :
    OpT P I w0 o ev [Ch.own (rSlice E R) [s] xs] (fun _ => True) (fun v => [Ch.own (rSlice E R) [v] (xs ++ ys)]) := by
  intro w C hs
  have hs0 := hs
  obtain ⟨hb0, hi, F, ⟨G, K, rfl, e1, e3⟩, hnd, hI⟩ := hs
  obtain ⟨ao, cap, hv, hl, h⟩ := hr
  obtain rfl : u = .slice ao ys.length cap := by simpa using hv
  rcases h with rfl | ⟨g, off, ccs, t, fr, rfl, hg, hel⟩
  · obtain ⟨i, hi', hz, hsize, hby⟩ := info_parts hE
    have hrun : (Builtin.append_ #[T, T] o.type #[s, .slice ao 0 cap]).run P w = .ok s w := by
      rcases e1.2 with ⟨hs1, _⟩ | ⟨g, ofs, cap, cur, K, hs1, _, h3, _⟩
      · obtain rfl : s = .slice none 0 0 := by simpa using hs1
        exact run_append_none hT hi' (Nat.le_refl _)
      · obtain rfl : s = .slice (some ⟨g, ofs, none⟩) xs.length cap := by simpa using hs1
        exact run_append_none hT hi' h3
    rw [run_call_append ho hx hy hrun]
    refine ⟨trivial, ?_⟩
    rw [List.append_nil]; exact hs0
  · obtain ⟨news, n1, n2, n3, n4⟩ := rd_els (R := S) (I := I) (w := w) hel
    have n4' : OwnEls R I w news ys [] := by
      have : ∀ {ys : List α} {l : List Value}, OwnEls (rFro S) I w l ys [] → OwnEls R I w l ys [] := by
        intro ys
        induction ys with
        | nil => intro l h; exact h
        | cons y ys ih =>
          rintro l ⟨c, rest, G, K, h1, h2, h3, ⟨rfl, h4⟩, h5⟩
          have : K = [] := by simpa using h3.symm
          subst this
          exact ⟨c, rest, [], [], h1, by rw [hR, ← hSz]; exact h2, rfl, hc h4, ih h5⟩
      exact this n4
    have hw : w.heap[g]? = some (.cells ccs t fr) := hi g _ hg
    obtain ⟨v', w', hrun, hst'⟩ := St.append_cells (ty := o.type) hT hE hzs hn hR (a := ⟨g, off, none⟩) (cap := cap) (K2 := []) (ys := ys) (news := news) hs0
      ⟨G, K, K, e1, e3, rfl, hnd, hI⟩ n4' (fun j u hj => by
        rw [Addr.add_mid]
        have := n2 j u hj
        simp only [World.cell?, hw]; simpa using this) n3 (by rw [n1, hSz]) hb hb1
    rw [run_call_append ho hx hy hrun]
    exact ⟨trivial, hst'⟩
theorem opT_append_keep {T : TypeId} {z : Value} {n b : Nat} {x y : Operand} {s u : Value} {xs ys : List α} (hSh : R.Sh) (hc : Cpy R R) (hT : P.underlying T = some (.slice E)) (hE : TZ P E z n b) (hzs : z.cells.size = n) (hn : 0 < n) (hR : R.size = n) (hb1 : 1 ≤ b) (ho : o.op = .call { callee := .builtin .append, args := #[x, y], argTypes := #[T, T] }) (hx : ev x = s) (hy : ev y = u) (hb : (xs.length + ys.length) * b ≤ 140737488355328) :
    OpT P I w0 o ev [Ch.own (rSlice E R) [s] xs, Ch.own (rSlice E R) [u] ys] (fun _ => True) (fun v => [Ch.own (rSlice E R) [v] (xs ++ ys), Ch.own (rSlice E R) [u] ys]) := by
  intro w C hs
  have hs0 := hs
  obtain ⟨hb0, hi, F, ⟨G, K, rfl, e1, K1, K2, rfl, e2', e3⟩, hnd, hI⟩ := hs
  obtain ⟨hly, e2⟩ := e2'
  rcases e2 with ⟨hv, rfl, rfl⟩ | ⟨g, ofs, cap, cur, K3, hv, k1, k2, k3, k4, rfl, k5⟩
  · obtain rfl : u = .slice none 0 0 := by simpa using hv
    obtain ⟨i, hi', hz, hsize, hby⟩ := info_parts hE
    have hrun : (Builtin.append_ #[T, T] o.type #[s, .slice none 0 0]).run P w = .ok s w := by
      rcases e1.2 with ⟨hs1, _⟩ | ⟨g, ofs, cap, cur, K, hs1, _, h3, _⟩
      · obtain rfl : s = .slice none 0 0 := by simpa using hs1
        exact run_append_none hT hi' (Nat.le_refl _)
      · obtain rfl : s = .slice (some ⟨g, ofs, none⟩) xs.length cap := by simpa using hs1
        exact run_append_none hT hi' h3
    rw [run_call_append ho hx hy hrun]
    refine ⟨trivial, ?_⟩
    rw [List.append_nil]; exact hs0
  · obtain rfl : u = .slice (some ⟨g, ofs, none⟩) ys.length cap := by simpa using hv
    have := k5.sh hSh
    subst this
    have hln : cap * n ≤ (cur.toList.drop ofs).length := by rw [List.length_drop, Array.length_toList]; rw [hR] at k4; omega
    have hfit : ys.length * n ≤ cap * n := Nat.mul_le_mul_right _ k2
    have hlen : ((cur.toList.drop ofs).take (ys.length * n)).length = ys.length * n := by rw [List.length_take]; omega
    have hels : OwnEls R I w ((cur.toList.drop ofs).take (ys.length * n)) ys [] := k5.rest (by rw [hR, List.take_take, Nat.min_self])
    have hone : ∀ v ∈ (cur.toList.drop ofs).take (ys.length * n), v.oneCell' = true := by
      have : ∀ {ys : List α} {l : List Value} {F}, OwnEls R I w l ys F → ∀ v ∈ l.take (ys.length * R.size), v.oneCell' = true := by
        intro ys
        induction ys with
        | nil => intro l F _ v hv; simp at hv
        | cons y ys ih =>
          rintro l F ⟨c, rest, G, K, rfl, h2, h3, h4, h5⟩ v hv
          rw [List.length_cons, Nat.add_mul, Nat.one_mul, Nat.add_comm, List.take_append, List.take_of_length_le (by omega), h2, Nat.add_sub_cancel_left] at hv
          rcases List.mem_append.1 hv with h | h
          · exact R.own_one h4 v h
          · exact ih h5 v h
      have := this k5
      rwa [hR] at this
    obtain ⟨v', w', hrun, hst'⟩ := St.append_cells (ty := o.type) hT hE hzs hn hR (a := ⟨g, ofs, none⟩) (cap := cap) (K2 := []) (ys := ys) (news := (cur.toList.drop ofs).take (ys.length * n)) hs0
      ⟨G, [g] ++ K2, [g] ++ K2, e1, ⟨[g], K2, rfl, ⟨hly, .inr ⟨g, ofs, cap, cur, [], hv, k1, k2, k3, k4, rfl, k5⟩⟩, e3⟩, rfl, hnd, hI⟩
      hels (fun j u hj => by
        rw [Addr.add_mid]
        rw [List.getElem?_take] at hj
        split at hj
        · rw [List.getElem?_drop] at hj
          simp only [World.cell?, k1]; simpa using hj
        · cases hj) hone hlen hb hb1
    rw [run_call_append ho hx hy hrun]
    exact ⟨trivial, hst'⟩
end
end Go.Proofs.YtfkjjnddefojjaaGreatDoor.D
/- The flow of control: calls, contracts, conditions, loops, results; models of loops. No program text is named here. -/
set_option linter.unusedVariables false
set_option linter.unusedSimpArgs false
set_option linter.unnecessarySimpa false
namespace Go.Proofs.YtfkjjnddefojjaaGreatDoor.D
open Go.RowKit

/-! ### Models -/
inductive Out (R S : Type) where
  | nxt (s : S)
  | brk (s : S)
  | ret (r : R)
def loopM {R S : Type} (f : S → Option (Out R S)) : Nat → S → Option (Out R S)
  | 0, _ => none
  | k + 1, s => match f s with
    | none => none
    | some (.nxt s') => loopM f k s'
    | some (.brk s') => some (.brk s')
    | some (.ret r) => some (.ret r)
def FUEL : Nat := 1180591620717411303424
def appI {α : Type} (b : Nat) (xs ys : List α) : Option (List α) := if (xs.length + ys.length) * b ≤ 140737488355328 then some (xs ++ ys) else none
def chk (p : Prop) [Decidable p] : Option Unit := if p then some () else none
theorem bind_some {α β : Type} {x : Option α} {f : α → Option β} {r : β} (h : (x.bind f) = some r) : ∃ a, x = some a ∧ f a = some r := Option.bind_eq_some_iff.1 h
theorem appI_some {α : Type} {b : Nat} {xs ys zs : List α} (h : appI b xs ys = some zs) : zs = xs ++ ys ∧ (xs.length + ys.length) * b ≤ 140737488355328 := by
  unfold appI at h
  split at h
  · exact ⟨(Option.some.inj h).symm, ‹_›⟩
  · cases h
theorem chk_some {p : Prop} [Decidable p] {u : Unit} (h : chk p = some u) : p := by
  unfold chk at h
  split at h
  · assumption
  · cases h

section
variable {P : Program} {I J : Hp} {w0 w w' : World} {cs C : List Ch} {n : Nat} {a : Act} {L : List (Nat × Value)} {Q : Exit → Act → World → Prop}
/-! ### Contracts -/
def Con (P : Program) (k : FuncId) (args : Array Value) (I : Hp) (w0 : World) (rn : List Ch) (fact : Value → Prop) (gv : Value → List Ch) : Prop :=
  ∀ w C, St I w0 w (rn ++ C) → Calls P k args w fun e w' => ∃ v, e = .returned v ∧ fact v ∧ St I w0 w' (gv v ++ C)
theorem opT_call {o : Oper} {ev : Operand → Value} {k : FuncId} {f : Operand} {xs : Array Operand} {ts : Array TypeId} {first captured args : Array Value} {rn : List Ch} {fact : Value → Prop} {gv : Value → List Ch} (he : Enters P k) (ho : o.op = .call { callee := .value f, args := xs, argTypes := ts }) (hf : ev f = .func (.func k) first captured) (hl : first.toList ++ xs.toList.map ev ++ captured.toList = args.toList) (hc : Con P k args I w0 rn fact gv) : OpT P I w0 o ev rn fact gv := by
  intro w C hs
  have ha : (first ++ xs.map ev) ++ captured = args := by
    apply Array.ext'
    rw [← hl]; simp
  have hr : (execOp ev o).run P w = .ok (.enter k args) w := by
    simp only [execOp, ho, resolve, hf, Deferred.ofValue, Sem.run_bind, Sem.run_pure, Result.andThen_ok, invoke, ha]
    exact he args w
  rw [hr]
  exact hc w C hs
theorem Con.imp {k : FuncId} {args : Array Value} {rn : List Ch} {fact fact' : Value → Prop} {gv gv' : Value → List Ch} (h : Con P k args I w0 rn fact gv) (hf : ∀ v, fact v → fact' v) (hg : ∀ v, fact v → ∀ w C, St I w0 w (gv v ++ C) → St I w0 w (gv' v ++ C)) : Con P k args I w0 rn fact' gv' :=
  fun w C hs => (h w C hs).mono fun e w' ⟨v, h1, h2, h3⟩ => ⟨v, h1, hf v h2, hg v h2 _ _ h3⟩
def Rep.Dp {α : Type} (R : Rep α) : Prop := ∀ {I J : Hp} {w : World} {v : List Value} {x : α} {F : List Nat}, R.own J w v x F → R.own I w v x F
theorem dp_flat {α : Type} {enc : α → Value} {h1 : ∀ a, (enc a).oneCell' = true} : (rFlat α enc h1).Dp := fun h => h
theorem dp_bool : rBool.Dp := dp_flat
theorem dp_str : rStr.Dp := dp_flat
theorem dp_prod {α β : Type} {R : Rep α} {S : Rep β} (h : R.Dp) (k : S.Dp) : (rProd R S).Dp := by
  rintro I J w v x F ⟨c, d, G, K, h1, h2, h3, h4⟩
  exact ⟨c, d, G, K, h1, h2, h h3, k h4⟩
theorem dp_slice {α : Type} {E : TypeId} {R : Rep α} (h : R.Dp) : (rSlice E R).Dp := by
  intro I J w v x F hh
  have key : ∀ {xs : List α} {cur F}, OwnEls R J w cur xs F → OwnEls R I w cur xs F := by
    intro xs
    induction xs with
    | nil => intro cur F h; exact h
    | cons x xs ih =>
      rintro cur F ⟨c, rest, G, K, h1, h2, h3, h4, h5⟩
      exact ⟨c, rest, G, K, h1, h2, h3, h h4, ih h5⟩
  refine ⟨hh.1, hh.2.imp (fun h => h) ?_⟩
  rintro ⟨g, ofs, cap, cur, K, h1, h2, h3, h4, h5, h6, h7⟩
  exact ⟨g, ofs, cap, cur, K, h1, h2, h3, h4, h5, h6, key h7⟩
theorem dp_own {α : Type} {R : Rep α} (h : R.Dp) {v : List Value} {x : α} : (Ch.own R v x).deep := fun hh => h hh
theorem dp_blk {g : Nat} {l : List Value} {E : TypeId} : (Ch.blk g l E).deep := fun hh => hh

/-! ### Results -/
def resOf (P : Program) (a : Act) (w : World) : ResultVar → Value → Prop
  | .tmp t, v => a.tmps.getD t undef = v
  | .cell p T, v => ∃ A, a.tmps.getD p undef = .pointer (some A) ∧ (loadVar T A).run P w = .ok v w
theorem res_tmp (ha : Agr n a L) {t : Nat} {v : Value} (h : L.lookup t = some v) : resOf P a w (.tmp t) v := ha.2.2 t v h
theorem res_cell (ha : Agr n a L) {t g : Nat} {T E : TypeId} {l : List Value} {m : Nat} {cs : List Ch} (h : L.lookup t = some (.pointer (some ⟨g, 0, none⟩))) (hs : St I w0 w cs) (i : Nat) (hi : cs[i]? = some (Ch.blk g l E)) (hT : TI P T true m) (hl : l.length = m) : resOf P a w (.cell t T) (.agg l.toArray) := by
  refine ⟨_, ha.2.2 t _ h, ?_⟩
  obtain ⟨⟨d, h1, h2⟩, h3⟩ := hT
  refine run_loadVar_mid w g 0 T l d (fun j v hv => ?_) h1 (by cases d <;> first | rfl | cases h2) (by rw [h3, hl])
  have hg := hs.heap i hi
  rw [Nat.zero_add]
  simp [World.cell?, hg, hv]

/-! ### Control -/
theorem cnd_true {c : Operand} {x y : Code} {b : Bool} (ha : Agr n a L) (hk : knows L c = true) (hv : evL L c = .bool b) (hb : b = true) (h : x.wp P Q a w) : (Code.cond c x y).wp P Q a w :=
  wp_cond_true (by rw [ha.eval hk, hv, hb]) h
theorem cnd_false {c : Operand} {x y : Code} {b : Bool} (ha : Agr n a L) (hk : knows L c = true) (hv : evL L c = .bool b) (hb : b = false) (h : y.wp P Q a w) : (Code.cond c x y).wp P Q a w :=
  wp_cond_false (by rw [ha.eval hk, hv, hb]) h
theorem ex_in {id : Nat} (h : Q .normal a w) : Exit.inBlock id Q (.exit id) a w := by
  show if id = id then Q .normal a w else Q (.exit id) a w
  rw [if_pos rfl]; exact h
theorem ex_out {id id' : Nat} (hne : id' ≠ id) (h : Q (.exit id') a w) : Exit.inBlock id Q (.exit id') a w := by
  show if id' = id then Q .normal a w else Q (.exit id') a w
  rw [if_neg hne]; exact h
theorem wp_loopM {R S : Type} {c : Code} {f : S → Option (Out R S)} {k : Nat} {s : S} {o : Out R S} (Inv : S → Act → World → Prop) (h : loopM f k s = some o) (h0 : Inv s a w)
    (round : ∀ s o', f s = some o' → ((∀ s', o' ≠ .nxt s') → o' = o) → ∀ a w, Inv s a w → c.wp P (Exit.then (fun a w => ∃ s', o' = .nxt s' ∧ Inv s' a w) Q) a w) : (Code.loop c).wp P Q a w := by
  intro b it cs
  have key : ∀ k s a w, loopM f k s = some o → Inv s a w → ∃ e a' w', Q e a' w' ∧ Arrives P (lone (b.at a (.code c :: .inLoop c :: it)) cs w) b it cs e a' w' := by
    intro k
    induction k with
    | zero => intro s a w h; cases h
    | succ k ih =>
      intro s a w h hI
      rw [loopM] at h
      cases hf : f s with
      | none => rw [hf] at h; cases h
      | some o' =>
        rw [hf] at h
        obtain ⟨e, a₁, w₁, hq, harr⟩ := round s o' hf (fun hn => by
          cases o' with
          | nxt s' => exact absurd rfl (hn s')
          | brk s' => exact Option.some.inj h
          | ret r => exact Option.some.inj h) a w hI b (.inLoop c :: it) cs
        cases e with
        | normal =>
          obtain ⟨s', rfl, hI₁⟩ := hq
          obtain ⟨e₂, a₂, w₂, hq₂, harr₂⟩ := ih s' a₁ w₁ h hI₁
          exact ⟨e₂, a₂, w₂, hq₂, .of_steps (Steps.trans harr (.one step_inLoop)) harr₂⟩
        | exit id => exact ⟨_, a₁, w₁, hq, .pass (x := .inLoop c) rfl (fun _ _ => .inl (by simp)) harr⟩
        | goto l => exact ⟨_, a₁, w₁, hq, .pass (x := .inLoop c) rfl (fun _ _ => .inl (by simp)) harr⟩
        | ret => exact ⟨_, a₁, w₁, hq, .pass (x := .inLoop c) rfl (fun _ _ => .inl (by simp)) harr⟩
        | panic ch => exact ⟨_, a₁, w₁, hq, .pass (x := .inLoop c) rfl (fun _ _ => .inl (by simp)) harr⟩
        | outgrown => exact ⟨_, a₁, w₁, hq, .pass (x := .inLoop c) rfl (fun _ _ => .inl (by simp)) harr⟩
  obtain ⟨e, a', w', hq, harr⟩ := key k s a w h h0
  exact ⟨e, a', w', hq, .of_steps (.one step_loop) harr⟩
theorem seq_skip {ops : Array Oper} {o : Oper} {rest : List Oper} {g d : Nat} {want b : Bool} (ha : Agr n a L) (hs : St I w0 w C) (hg : o.guard = some (g, want)) (hd : ((ops[g]?).bind (·.dst)) = some d) (hv : L.lookup d = some (.bool b)) (hb : b = !want) (hn : dstOk n o.dst = true)
    (k : ∀ a, Agr n a (putL o.dst undef L) → wpList P ops Q rest a w) : wpList P ops Q (o :: rest) a w := by
  refine wpList_skip ?_ (k _ (ha.put undef hn))
  have h := ha.2.2 d _ hv
  unfold Region.wanted yielded
  rw [hg]; simp only
  rw [hd]; simp only [Option.bind_some]
  rw [Array.getD_eq_getD_getElem?] at h
  cases ht : a.tmps[d]? with
  | none => rw [ht] at h; cases h
  | some u =>
    rw [ht] at h
    simp only [Option.getD_some] at h
    rw [h]; simp only [hb]
    cases want <;> rfl
theorem seq_op_g {ops : Array Oper} {o : Oper} {rest : List Oper} {g d : Nat} {want b : Bool} {C0 rn : List Ch} {fact : Value → Prop} {gv : Value → List Ch} (ha : Agr n a L) (hs : St I w0 w C0) (hg : o.guard = some (g, want)) (hd : ((ops[g]?).bind (·.dst)) = some d) (hv : L.lookup d = some (.bool b)) (hb : b = want) (hop : OpT P I w0 o (evL L) rn fact gv) (hp : C0.Perm (rn ++ C)) (hk : (knowsAll L o && dstOk n o.dst && noSelect o) = true)
    (k : ∀ v a w, fact v → Agr n a (putL o.dst v L) → St I w0 w (gv v ++ C) → wpList P ops Q rest a w) : wpList P ops Q (o :: rest) a w := by
  simp only [Bool.and_eq_true] at hk
  obtain ⟨⟨hk1, hk2⟩, hk3⟩ := hk
  have hw : Region.wanted o (yielded ops a.tmps) = true := by
    have h := ha.2.2 d _ hv
    unfold Region.wanted yielded
    rw [hg]; simp only
    rw [hd]; simp only [Option.bind_some]
    rw [Array.getD_eq_getD_getElem?] at h
    cases ht : a.tmps[d]? with
    | none => rw [ht] at h; cases h
    | some u =>
      rw [ht] at h
      simp only [Option.getD_some] at h
      rw [h]; simp [hb]
  refine BigFrame.wpList_want hw fun K hK => ?_
  have he : execOp a.eval o = execOp (evL L) o := execOp_same hk3 fun x hx => ha.eval ((List.all_eq_true.1 hk1) x (by simpa using hx))
  have h := hop w C (hs.perm hp)
  rw [← he] at h
  exact h.wp fun v w' hv => hK _ _ (k v _ w' hv.1 (ha.put v hk2) hv.2)
end
end Go.Proofs.YtfkjjnddefojjaaGreatDoor.D
/- More laws of operations, and small lemmas for walks that a program prints. No program text is named here. -/
set_option linter.unusedVariables false
set_option linter.unusedSimpArgs false
set_option linter.unnecessarySimpa false
namespace Go.Proofs.YtfkjjnddefojjaaGreatDoor.D
open Go.RowKit

section
variable {P : Program} {I J : Hp} {w0 w w' : World} {cs C : List Ch} {n : Nat} {a : Act} {L L' : List (Nat × Value)} {Q : Exit → Act → World → Prop} {o : Oper} {ev : Operand → Value}
theorem nrm {K : Act → World → Prop} (h : K a w) : Exit.then K Q .normal a w := h
theorem nrmB {id : Nat} (h : Q .normal a w) : Exit.inBlock id Q .normal a w := h
theorem thenX {K : Act → World → Prop} {id : Nat} (h : Q (.exit id) a w) : Exit.then K Q (.exit id) a w := h
theorem thenR {K : Act → World → Prop} (h : Q .ret a w) : Exit.then K Q .ret a w := h
theorem blkR {id : Nat} (h : Q .ret a w) : Exit.inBlock id Q .ret a w := h
theorem two (b : Bool) : b = false ∨ b = true := by cases b <;> simp
theorem Hd.one {v : Value} {n : Nat} (h : Hd v n) : v.oneCell' = true := by obtain ⟨_, _, rfl, _⟩ := h; rfl
/-! ### Structs put together -/
def fillL (place : Nat → Option (Nat × Nat)) (cells : List Value) : List (Nat × List Value) → Option (List Value)
  | [] => some cells
  | (i, l) :: rest => match place i with
    | none => none
    | some (off, size) => if l.length = size ∧ off + size ≤ cells.length then fillL place (cells.take off ++ l ++ cells.drop (off + size)) rest else none
theorem fill_L {place : Nat → Option (Nat × Nat)} : ∀ {parts : List (Nat × Value)} {ls : List (Nat × List Value)} {cells r : List Value}, parts.map (fun p => (p.1, p.2.cells)) = ls.map (fun p => (p.1, p.2.toArray)) → fillL place cells ls = some r → Instr.fill place cells.toArray parts = some r.toArray
  | [], [], cells, r, _, h => by rw [fillL] at h; rw [Instr.fill, Option.some.inj h]
  | [], _ :: _, cells, r, he, h => by simp at he
  | _ :: _, [], cells, r, he, h => by simp at he
  | (i, u) :: parts, (j, l) :: ls, cells, r, he, h => by
    simp only [List.map_cons, List.cons.injEq, Prod.mk.injEq] at he
    obtain ⟨⟨rfl, hu⟩, he⟩ := he
    rw [fillL] at h
    rw [Instr.fill]
    cases hp : place i with
    | none => rw [hp] at h; cases h
    | some q =>
      obtain ⟨off, size⟩ := q
      rw [hp] at h
      simp only at h ⊢
      split at h
      · rename_i hc
        rw [hu]
        simp only [List.size_toArray]
        rw [if_neg (by simp; omega)]
        have hr := set_run l off cells.toArray (by simp; omega)
        have e : (l.toArray.zipIdx.foldl (fun cs (c, j) => cs.setIfInBounds (off + j) c) cells.toArray) = (cells.take off ++ l ++ cells.drop (off + size)).toArray := by
          rw [← hc.1]
          apply Array.ext'
          rw [hr]
        rw [e]
        exact fill_L he h
      · cases h
def TB (P : Program) (T : TypeId) (pl : List (Nat × Nat)) : Prop := ∃ fs, P.underlying T = some (.struct fs) ∧ fs.toList.mapM (fun f => (P.info? f.type).map fun i => (f.offset, i.size)) = some pl
def peq : List (Nat × Value) → List (Nat × List Value) → Prop
  | [], [] => True
  | (i, u) :: p, (j, l) :: q => i = j ∧ u.cells = l.toArray ∧ peq p q
  | _, _ => False
theorem peq_map : ∀ {p : List (Nat × Value)} {q : List (Nat × List Value)}, peq p q → p.map (fun p => (p.1, p.2.cells)) = q.map (fun p => (p.1, p.2.toArray))
  | [], [], _ => rfl
  | (i, u) :: p, (j, l) :: q, h => by
    obtain ⟨rfl, h2, h3⟩ := h
    rw [List.map_cons, List.map_cons, peq_map h3, h2]
  | [], _ :: _, h => h.elim
  | _ :: _, [], h => h.elim
theorem opT_build {T : TypeId} {z : Value} {m b : Nat} {parts : Array (Nat × Operand)} {zl r : List Value} (ls : List (Nat × List Value)) {pl : List (Nat × Nat)} (hT : TB P T pl) (hz : TZ P T z m b) (hzl : z.cells = zl.toArray) (ho : o.op = .build T parts)
    (hls : peq (parts.toList.map fun p => (p.1, ev p.2)) ls) (hr : fillL (pl[·]?) zl ls = some r) : OpT P I w0 o ev [] (· = .agg r.toArray) (fun _ => []) := by
  refine opT_val fun w => ?_
  obtain ⟨fs, h1, h2⟩ := hT
  obtain ⟨i, hi, hz1, -, -⟩ := info_parts hz
  have hf := fill_L (place := fun i => pl.toArray[i]?) (cells := zl) (r := r) (parts := (parts.map fun (i, x) => (i, ev x)).toList) (by rw [Array.toList_map]; exact peq_map hls) (by simpa using hr)
  have hb : P.built T (parts.map fun (i, x) => (i, ev x)).toList = some r.toArray := by
    unfold Program.built
    rw [hi, h1]
    simp only [hz1, h2]
    rw [hzl]; exact hf
  simp only [execOp, ho, Sem.run_bind, run_build w T _ _ hb]; rfl

/-! ### Loops and joins, in models -/
def bindL {R S T : Type} (x : Option (Out R S)) (kr : R → Option T) (k : S → Option T) : Option T :=
  match x with
  | some (.brk s) => k s
  | some (.ret r) => kr r
  | _ => none
theorem bindL_some {R S T : Type} {x : Option (Out R S)} {kr : R → Option T} {k : S → Option T} {t : T} (h : bindL x kr k = some t) : ∃ o, x = some o ∧ ((∃ s, o = .brk s ∧ k s = some t) ∨ ∃ r, o = .ret r ∧ kr r = some t) := by
  unfold bindL at h
  split at h
  · exact ⟨_, rfl, .inl ⟨_, rfl, h⟩⟩
  · exact ⟨_, rfl, .inr ⟨_, rfl, h⟩⟩
  · cases h
def bindJ {S T : Type} (x : Option (T ⊕ S)) (k : S → Option T) : Option T :=
  match x with
  | some (.inr s) => k s
  | some (.inl t) => some t
  | none => none
theorem bindJ_some {S T : Type} {x : Option (T ⊕ S)} {k : S → Option T} {t : T} (h : bindJ x k = some t) : ∃ o, x = some o ∧ ((∃ s, o = .inr s ∧ k s = some t) ∨ o = .inl t) := by
  unfold bindJ at h
  split at h
  · exact ⟨_, rfl, .inl ⟨_, rfl, h⟩⟩
  · exact ⟨_, rfl, .inr (by rw [Option.some.inj h])⟩
  · cases h
/-! ### Values taken apart -/
def vg : Value → List Nat → Value
  | v, [] => v
  | .tuple vs, i :: l => vg (vs.getD i undef) l
  | .agg cs, i :: l => vg (cs.getD i undef) l
  | .func _ _ cs, i :: l => vg (cs.getD i undef) l
  | _, _ :: _ => undef
theorem St.nil {α : Type} {R : Rep α} {E : TypeId} (h : St I w0 w cs) : St I w0 w (Ch.own (rSlice E R) [.slice none 0 0] ([] : List α) :: cs) :=
  h.free ⟨by simp, .inl ⟨rfl, rfl, rfl⟩⟩
theorem one_cell {α : Type} {R : Rep α} {c : List Value} {x : α} (h : R.rd I c x) (hs : R.size = 1) : ∃ v, c = [v] := List.length_eq_one_iff.1 ((R.rd_len h).trans hs)

theorem rd_nil {α : Type} {R : Rep α} {E : TypeId} : (rSlice E R).rd I [.slice none 0 0] ([] : List α) := ⟨none, 0, rfl, by simp, .inl rfl⟩
theorem OwnEls.stay' {α : Type} {R : Rep α} (hR : R.Sh) (hc : Cpy R R) : ∀ {xs : List α} {cur : List Value}, OwnEls R I w cur xs [] → OwnEls R I w' cur xs []
  | [], _, h => h
  | x :: xs, cur, ⟨d, rest, G, K, h1, h2, h3, h4, h5⟩ => by
    have hK : K = [] := by simp at h3; exact h3.2
    subst hK
    exact ⟨d, rest, [], [], h1, h2, rfl, hc (hR h4).2, h5.stay' hR hc⟩
/-! ### Elements written over -/
def Upd {α β : Type} (R : Rep α) (off : Nat) (S : Rep β) (u : α → β → α) : Prop := ∀ I c x d y, R.rd I c x → S.rd I d y → R.rd I (spl c off d) (u x y)
theorem spl_eq : ∀ (d c : List Value) (off : Nat), off + d.length ≤ c.length → spl c off d = c.take off ++ d ++ c.drop (off + d.length)
  | [], c, off, h => by simp [spl]
  | v :: d, c, off, h => by
    rw [List.length_cons] at h
    rw [spl, spl_eq d _ _ (by rw [List.length_set]; omega)]
    have e1 : (c.set off v).take (off + 1) = c.take off ++ [v] := by
      rw [List.take_add_one, List.take_set_of_le (Nat.le_refl _), List.getElem?_set_self (by omega)]; rfl
    have e2 : (c.set off v).drop (off + 1 + d.length) = c.drop (off + 1 + d.length) := List.drop_set_of_lt (by omega)
    rw [e1, e2, List.length_cons, show off + (d.length + 1) = off + 1 + d.length from by omega]
    simp
theorem Upd.self {α : Type} {R : Rep α} : Upd R 0 R (fun _ y => y) := by
  intro I c x d y h k
  rw [spl_eq _ _ _ (by rw [R.rd_len h, R.rd_len k]; omega), R.rd_len k, ← R.rd_len h]
  simpa using k
theorem spl_left : ∀ (d c e : List Value) (off : Nat), off + d.length ≤ c.length → spl (c ++ e) off d = spl c off d ++ e
  | [], c, e, off, h => rfl
  | v :: d, c, e, off, h => by
    rw [List.length_cons] at h
    rw [spl, spl, List.set_append_left _ _ (by omega), spl_left d _ e _ (by rw [List.length_set]; omega)]
theorem spl_right : ∀ (d c e : List Value) (off : Nat), spl (c ++ e) (c.length + off) d = c ++ spl e off d
  | [], c, e, off => rfl
  | v :: d, c, e, off => by
    rw [spl, spl, List.set_append_right _ _ (by omega), Nat.add_sub_cancel_left, show c.length + off + 1 = c.length + (off + 1) from by omega, spl_right d]
theorem spl_drop {d c : List Value} {o off : Nat} (h : o ≤ c.length) : (spl c (o + off) d).drop o = spl (c.drop o) off d := by
  have hl : (c.take o).length = o := by rw [List.length_take]; omega
  have := spl_right d (c.take o) (c.drop o) off
  rw [List.take_append_drop, hl] at this
  rw [this, List.drop_left' hl]
theorem Upd.fst {α β γ : Type} {A : Rep α} {B : Rep β} {S : Rep γ} {off : Nat} {u : α → γ → α} (hs : off + S.size ≤ A.size) (h : Upd A off S u) : Upd (rProd A B) off S (fun x y => (u x.1 y, x.2)) := by
  rintro I c x d y ⟨c1, c2, rfl, h1, h2⟩ k
  rw [spl_left _ _ _ _ (by rw [A.rd_len h1, S.rd_len k]; exact hs)]
  exact ⟨_, c2, rfl, h I c1 x.1 d y h1 k, h2⟩
theorem Upd.snd {α β γ : Type} {A : Rep α} {B : Rep β} {S : Rep γ} {off : Nat} {u : β → γ → β} (h : Upd B off S u) : Upd (rProd A B) (A.size + off) S (fun x y => (x.1, u x.2 y)) := by
  rintro I c x d y ⟨c1, c2, rfl, h1, h2⟩ k
  rw [← A.rd_len h1, spl_right]
  exact ⟨c1, _, rfl, h1, h I c2 x.2 d y h2 k⟩
theorem OwnEls.set {α : Type} {R : Rep α} (hR : R.Sh) (hc : Cpy R R) {c : List Value} {y : α} (hy : R.rd I c y) : ∀ {xs : List α} {cur cur' : List Value} {k : Nat}, OwnEls R I w cur xs [] → k < xs.length → cur'.length = cur.length → (∀ j, j < R.size → cur'[k * R.size + j]? = c[j]?) → (∀ j, j < k * R.size ∨ k * R.size + R.size ≤ j → cur'[j]? = cur[j]?) → OwnEls R I w' cur' (xs.set k y) []
  | [], _, _, k, _, hk, _, _, _ => by simp at hk
  | x :: xs, cur, cur', 0, ⟨d, rest, G, K, h1, h2, h3, h4, h5⟩, hk, hl, h6, h7 => by
    have hK : K = [] := by simp at h3; exact h3.2
    subst hK; subst h1
    have hcl := R.rd_len hy
    refine ⟨c, cur'.drop R.size, [], [], ?_, hcl, rfl, hc hy, ?_⟩
    · apply List.ext_getElem?
      intro j
      by_cases hj : j < R.size
      · have := h6 j hj
        rw [Nat.zero_mul, Nat.zero_add] at this
        rw [this, List.getElem?_append_left (by omega)]
      · rw [List.getElem?_append_right (by omega), List.getElem?_drop]; congr 1; omega
    · have e : cur'.drop R.size = rest := by
        apply List.ext_getElem?
        intro j
        rw [List.getElem?_drop, h7 _ (.inr (by omega)), List.getElem?_append_right (by omega)]
        congr 1; omega
      rw [e]
      exact h5.stay' hR hc
  | x :: xs, cur, cur', k + 1, ⟨d, rest, G, K, h1, h2, h3, h4, h5⟩, hk, hl, h6, h7 => by
    have hK : K = [] := by simp at h3; exact h3.2
    have hG : G = [] := by simp at h3; exact h3.1
    subst hK; subst hG; subst h1
    have hm : (k + 1) * R.size = k * R.size + R.size := by rw [Nat.add_mul, Nat.one_mul]
    refine ⟨d, cur'.drop R.size, [], [], ?_, h2, rfl, hc (hR h4).2, ?_⟩
    · apply List.ext_getElem?
      intro j
      by_cases hj : j < R.size
      · rw [h7 j (.inl (by omega)), List.getElem?_append_left (by omega), List.getElem?_append_left (by omega)]
      · rw [List.getElem?_append_right (by omega), List.getElem?_drop]; congr 1; omega
    · refine OwnEls.set hR hc hy (cur := rest) h5 (by simpa using hk) ?_ (fun j hj => ?_) (fun j hj => ?_)
      · rw [List.length_drop, hl, List.length_append]; omega
      · rw [List.getElem?_drop, ← h6 j hj]; congr 1; omega
      · rw [List.getElem?_drop, h7 _ (by omega), List.getElem?_append_right (by omega)]; congr 1; omega
theorem spl_get {c d : List Value} {off j : Nat} (h : off + d.length ≤ c.length) : (spl c off d)[j]? = if off ≤ j ∧ j < off + d.length then d[j - off]? else c[j]? := by
  rw [spl_eq _ _ _ h]
  have h1 : (c.take off).length = off := by rw [List.length_take]; omega
  by_cases h2 : j < off
  · rw [if_neg (by omega), List.append_assoc, List.getElem?_append_left (by omega), List.getElem?_take, if_pos h2]
  · by_cases h3 : j < off + d.length
    · rw [if_pos (by omega), List.append_assoc, List.getElem?_append_right (by omega), h1, List.getElem?_append_left (by omega)]
    · rw [if_neg (by omega), List.getElem?_append_right (by rw [List.length_append]; omega), List.length_append, h1, List.getElem?_drop]; congr 1; omega
theorem opT_store_el {α β : Type} {E T : TypeId} {R : Rep α} {S : Rep β} {agg : Bool} {n k off : Nat} {f : α → β → α} {x y : Operand} {v u : Value} {xs : List α} {a : α} {b : β} {i : Int} {d : List Value} (hR : R.Sh) (hc : Cpy R R) (ha : getI xs i = some a) (hU : Upd R off S f) (hT : TI P T agg n) (ho : o.op = .store T x y) (hx : ev x = pt v (i.toNat * k + off)) (hy : ev y = u) (hu : u.cells = d.toArray) (h1 : d.all (·.oneCell') = true) (hd : d.length = n) (hk : R.size = k) (hS : off + n ≤ k) (hb : S.rd I d b) :
    OpT P I w0 o ev [Ch.own (rSlice E R) [v] xs] (fun _ => True) (fun _ => [Ch.own (rSlice E R) [v] (xs.set i.toNat (f a b))]) := by
  intro w C hs
  have hm := getI_at ha
  have hlt := (List.getElem?_eq_some_iff.1 hm).1
  obtain ⟨hb0, hi, F, ⟨G, K, rfl, ⟨hl, e2⟩, e3⟩, hnd, hI⟩ := hs
  rcases e2 with ⟨hv, rfl, rfl⟩ | ⟨g, ofs, cap, cur, K1, hv, k1, k2, k3, k4, rfl, k5⟩
  · simp at hlt
  obtain rfl : v = .slice (some ⟨g, ofs, none⟩) xs.length cap := by simpa using hv
  have := k5.sh hR
  subst this
  obtain ⟨c, c1, c2, c3⟩ := k5.at Hp.le.rfl (by simp) i.toNat a hm
  have hfit : ofs + (i.toNat * k + k) ≤ cur.size := by
    have k4' := k4
    rw [hk] at k4'
    have : (i.toNat + 1) * k ≤ cap * k := Nat.mul_le_mul_right _ (by omega)
    rw [Nat.add_mul, Nat.one_mul] at this; omega
  have hln : cur.toList.length = cur.size := Array.length_toList
  have hld : (cur.toList.drop ofs).length = cur.size - ofs := by rw [List.length_drop, hln]
  have hr := run_st (P := P) (w := w) hT (g := g) (o := ofs + (i.toNat * k + off)) hu hd (fun j hj => by
    simp only [World.cell?, k1, Option.isSome_none, Bool.false_eq_true, ite_false]
    rw [Array.getElem?_eq_getElem (by omega)]; rfl) (fun j => by simp [World.frozen?, k1]) (fun v hv => List.all_eq_true.1 h1 v hv)
  simp only [execOp, ho, hx, hy, pt, ptB, ptO, Sem.run_bind, hr, Result.andThen_ok]
  refine ⟨trivial, ?_⟩
  have hch : ∀ (d : List Value) (o : Nat) (w : World), (setsW w g o d).os = w.os ∧ (setsW w g o d).tape = w.tape ∧ (setsW w g o d).output = w.output ∧ (setsW w g o d).heap.size = w.heap.size ∧ ∀ b, b ≠ g → (setsW w g o d).heap[b]? = w.heap[b]? := by
    intro d
    induction d with
    | nil => intro o w; exact ⟨rfl, rfl, rfl, rfl, fun _ _ => rfl⟩
    | cons v d ih =>
      intro o w
      obtain ⟨i1, i2, i3, i4, i5⟩ := ih (o + 1) (w.setCell ⟨g, o, none⟩ v)
      exact ⟨i1, i2, i3, i4.trans (by simp [World.setCell]), fun b hb => (i5 b hb).trans (Below.heap_setCell _ _ _ _ hb)⟩
  have hrow : ∀ (d : List Value) (o : Nat) (w : World) (cur : Array Value), w.heap[g]? = some (.cells cur E (0, 0)) → (setsW w g o d).heap[g]? = some (.cells (spl cur.toList o d).toArray E (0, 0)) := by
    intro d
    induction d with
    | nil => intro o w cur h; simpa [setsW, spl] using h
    | cons v d ih =>
      intro o w cur h
      have := ih (o + 1) (w.setCell ⟨g, o, none⟩ v) (cur.setIfInBounds o v) (heap_setCell_at h)
      rw [Array.toList_setIfInBounds] at this
      exact this
  obtain ⟨q1, q2, q3, q4, q5⟩ := hch d (ofs + (i.toNat * k + off)) w
  have hgK : g ∉ K := by rw [List.cons_append] at hnd; simpa using (List.nodup_cons.1 hnd).1
  have hcl : c.length = k := by rw [c1, hk]
  have hrd : R.rd I (spl c off d) (f a b) := hU I c a d b c3 hb
  refine ⟨⟨q1.trans hb0.1, q2.trans hb0.2.1, q3.trans hb0.2.2.1, by rw [q4]; exact hb0.2.2.2⟩, fun b o hbo => ?_, [g] ++ K, ⟨[g], K, rfl, ⟨by rw [List.length_set]; exact hl, .inr ⟨g, ofs, cap, _, [], by rw [List.length_set], hrow d _ w cur k1, by rw [List.length_set]; exact k2, k3, by rw [List.size_toArray, spl_len]; rw [hln]; exact k4, rfl, ?_⟩⟩, e3.stay fun b hb => q5 b fun e => hgK (e ▸ hb)⟩, hnd, hI⟩
  · show (setsW w g (ofs + (i.toNat * k + off)) d).heap[b]? = some o
    rw [q5 b fun e => by rw [e, hI g (by simp)] at hbo; cases hbo]
    exact hi b o hbo
  · have hsp : ∀ j, (spl (cur.toList.drop ofs) (i.toNat * k + off) d)[j]? = if i.toNat * k + off ≤ j ∧ j < i.toNat * k + off + d.length then d[j - (i.toNat * k + off)]? else (cur.toList.drop ofs)[j]? := fun j => spl_get (by omega)
    show OwnEls R I _ ((spl cur.toList (ofs + (i.toNat * k + off)) d).drop ofs) _ _
    rw [spl_drop (by omega)]
    refine OwnEls.set (w := w) hR hc hrd (cur := cur.toList.drop ofs) k5 hlt (by rw [spl_len]) (fun j hj => ?_) (fun j hj => ?_)
    · rw [hk] at hj ⊢
      rw [hsp, spl_get (by omega)]
      by_cases h : off ≤ j ∧ j < off + d.length
      · rw [if_pos h, if_pos (by omega)]; congr 1; omega
      · rw [if_neg h, if_neg (by omega)]
        have := c2 j (by omega)
        rw [hk] at this; exact this
    · rw [hk] at hj
      rw [hsp, if_neg (by omega)]
/-! ### make -/
def mkI {α : Type} (b : Nat) (n : Int) (z : α) : Option (List α) := if 0 ≤ n ∧ n.toNat * b ≤ 140737488355328 then some (List.replicate n.toNat z) else none
theorem opT_app {α : Type} {E T : TypeId} {R : Rep α} {z : Value} {n b : Nat} {x y : Operand} {s u : Value} {xs ys zs : List α} (h : appI b xs ys = some zs) (hT : P.underlying T = some (.slice E)) (hE : TZ P E z n b) (hzs : z.cells.size = n) (hn : 0 < n) (hR : R.size = n) (hb1 : 1 ≤ b) (ho : o.op = .call { callee := .builtin .append, args := #[x, y], argTypes := #[T, T] }) (hx : ev x = s) (hy : ev y = u) :
    OpT P I w0 o ev [Ch.own (rSlice E R) [s] xs, Ch.own (rSlice E R) [u] ys] (fun _ => True) (fun v => [Ch.own (rSlice E R) [v] zs]) := by
  obtain ⟨rfl, hb⟩ := appI_some h
  exact opT_append hT hE hzs hn hR hb1 ho hx hy hb
theorem opT_app_fro {α : Type} {E T E' : TypeId} {R S : Rep α} {z : Value} {n b : Nat} {x y : Operand} {s u : Value} {xs ys zs : List α} (h : appI b xs ys = some zs) (hc : Cpy S R) (hSz : S.size = n) (hr : (rSlice E' S).rd I [u] ys) (hT : P.underlying T = some (.slice E)) (hE : TZ P E z n b) (hzs : z.cells.size = n) (hn : 0 < n) (hR : R.size = n) (hb1 : 1 ≤ b) (ho : o.op = .call { callee := .builtin .append, args := #[x, y], argTypes := #[T, T] }) (hx : ev x = s) (hy : ev y = u) :
    OpT P I w0 o ev [Ch.own (rSlice E R) [s] xs] (fun _ => True) (fun v => [Ch.own (rSlice E R) [v] zs]) := by
  obtain ⟨rfl, hb⟩ := appI_some h
  exact opT_append_fro hc hSz hr hT hE hzs hn hR hb1 ho hx hy hb
theorem opT_app_keep {α : Type} {E T : TypeId} {R : Rep α} {z : Value} {n b : Nat} {x y : Operand} {s u : Value} {xs ys zs : List α} (h : appI b xs ys = some zs) (hSh : R.Sh) (hc : Cpy R R) (hT : P.underlying T = some (.slice E)) (hE : TZ P E z n b) (hzs : z.cells.size = n) (hn : 0 < n) (hR : R.size = n) (hb1 : 1 ≤ b) (ho : o.op = .call { callee := .builtin .append, args := #[x, y], argTypes := #[T, T] }) (hx : ev x = s) (hy : ev y = u) :
    OpT P I w0 o ev [Ch.own (rSlice E R) [s] xs, Ch.own (rSlice E R) [u] ys] (fun _ => True) (fun v => [Ch.own (rSlice E R) [v] zs, Ch.own (rSlice E R) [u] ys]) := by
  obtain ⟨rfl, hb⟩ := appI_some h
  exact opT_append_keep hSh hc hT hE hzs hn hR hb1 ho hx hy hb
/-! ### Operands by their values -/
theorem isPt_bk {v : Value} (h : IsPt v) : v = .pointer (some ⟨bk v, 0, none⟩) := by obtain ⟨g, rfl⟩ := h; rfl
/-! ### Ways out -/
theorem OpT.hdk {rn : List Ch} {fact : Value → Prop} {gv : Value → List Ch} {α : Type} {E : TypeId} {R : Rep α} {xs : List α} (u : Value → Value) (k : Nat) (hk : ∀ v, (gv v)[k]? = some (Ch.own (rSlice E R) [u v] xs)) (h : OpT P I w0 o ev rn fact gv) : OpT P I w0 o ev rn (fun v => fact v ∧ Hd (u v) xs.length) gv := by
  intro w C hs
  refine (h w C hs).imp fun v w hv => ⟨⟨hv.1, ?_⟩, hv.2⟩
  have hlt := (List.getElem?_eq_some_iff.1 (hk v)).1
  exact (hv.2.hd k (by rw [List.getElem?_append_left hlt]; exact hk v)).1
theorem seq_skip_u {ops : Array Oper} {rest : List Oper} {g d : Nat} {want : Bool} (ha : Agr n a L) (hs : St I w0 w C) (hg : o.guard = some (g, want)) (hd : ((ops[g]?).bind (·.dst)) = some d) (hv : L.lookup d = some undef) (hn : dstOk n o.dst = true)
    (k : ∀ a, Agr n a (putL o.dst undef L) → wpList P ops Q rest a w) : wpList P ops Q (o :: rest) a w := by
  refine wpList_skip ?_ (k _ (ha.put undef hn))
  have h := ha.2.2 d _ hv
  unfold Region.wanted yielded
  rw [hg]; simp only
  rw [hd]; simp only [Option.bind_some]
  rw [Array.getD_eq_getD_getElem?] at h
  cases ht : a.tmps[d]? with
  | none => rfl
  | some u =>
    rw [ht] at h
    simp only [Option.getD_some] at h
    rw [h]; rfl
theorem opT_eqs {x y : Operand} {t u : TypeId} {a b : ByteArray} (ho : o.op = .binOp .eql t x y u) (hx : ev x = .string a) (hy : ev y = .string b) : OpT P I w0 o ev [] (· = .bool (a == b)) (fun _ => []) :=
  opT_val fun w => by rw [beq_toListBytes]; simp only [execOp, ho, hx, hy]; rfl
theorem opT_nes {x y : Operand} {t u : TypeId} {a b : ByteArray} (ho : o.op = .binOp .neq t x y u) (hx : ev x = .string a) (hy : ev y = .string b) : OpT P I w0 o ev [] (· = .bool (a != b)) (fun _ => []) :=
  opT_val fun w => by unfold bne; rw [beq_toListBytes]; simp only [execOp, ho, hx, hy]; rfl
def EqT (P : Program) (t : TypeId) (x y : Value) (b : Bool) (w : World) : Prop := (Op.equal t x y).run P w = .ok b w ∧ (eqGuard .eql t (.const x) (.const y) x y).run P w = .ok () w ∧ (eqGuard .neq t (.const x) (.const y) x y).run P w = .ok () w
theorem opT_eqv {x y : Operand} {t u : TypeId} {va vb : Array Value} {b : Bool} (h : ∀ w, EqT P t (.agg va) (.agg vb) b w) (ho : o.op = .binOp .eql t x y u) (hx : ev x = .agg va) (hy : ev y = .agg vb) {c : Bool} (hc : b = c) : OpT P I w0 o ev [] (· = .bool c) (fun _ => []) :=
  opT_val fun w => by
    subst hc
    obtain ⟨h1, h2, h3⟩ := h w
    have g2 : binOp .eql t (.agg va) (.agg vb) = (do pure (.bool (← Op.equal t (.agg va) (.agg vb)))) := rfl
    have g3 : (eqGuard .eql t x y (.agg va) (.agg vb)).run P w = .ok () w := h2
    simp only [execOp, ho, hx, hy, g2, Sem.run_bind, Sem.run_pure, g3, h1, Result.andThen_ok]
theorem opT_nev {x y : Operand} {t u : TypeId} {va vb : Array Value} {b : Bool} (h : ∀ w, EqT P t (.agg va) (.agg vb) b w) (ho : o.op = .binOp .neq t x y u) (hx : ev x = .agg va) (hy : ev y = .agg vb) {c : Bool} (hc : (!b) = c) : OpT P I w0 o ev [] (· = .bool c) (fun _ => []) :=
  opT_val fun w => by
    subst hc
    obtain ⟨h1, h2, h3⟩ := h w
    have g2 : binOp .neq t (.agg va) (.agg vb) = (do pure (.bool (!(← Op.equal t (.agg va) (.agg vb))))) := rfl
    have g3 : (eqGuard .neq t x y (.agg va) (.agg vb)).run P w = .ok () w := h3
    simp only [execOp, ho, hx, hy, g2, Sem.run_bind, Sem.run_pure, g3, h1, Result.andThen_ok]

theorem eqF_nil {d : Nat} {xs ys : Array Value} (w : World) : (Op.eqFields d xs ys []).run P w = .ok true w := rfl
theorem eqF_cons {d : Nat} {xs ys : Array Value} {f : Field} {fs : List Field} {va vb : Value} {r r2 : Bool} {w : World} (hn : (f.name != "_") = true) (ha : (part f.type xs f.offset).run P w = .ok va w) (hb : (part f.type ys f.offset).run P w = .ok vb w) (he : (Op.equalIn d f.type va vb).run P w = .ok r w) (h2 : (Op.eqFields d xs ys fs).run P w = .ok r2 w) : (Op.eqFields d xs ys (f :: fs)).run P w = .ok (r && r2) w := by
  rw [Op.eqFields, if_pos (by simpa using hn)]
  simp only [Sem.run_bind, ha, hb, he, Result.andThen_ok]
  cases r
  · rfl
  · simpa using h2
theorem part_1 {T : TypeId} {cs : Array Value} {off : Nat} {v : Value} {w : World} (hT : TI P T false 1) (h : cs[off]? = some v) : (part T cs off).run P w = .ok v w := by
  unfold part
  rw [Sem.run_bind, hT.run_agg]
  simp [h, Result.andThen]
theorem eqT_of {t : TypeId} {fs : Array Field} {xs ys : Array Value} {b : Bool} (w : World) (ht : P.underlying t = some (.struct fs)) (hp : P.stoodInHeld t = false) (hm : P.eqGuardType P.depth t = false) (h : (Op.eqFields 9999 xs ys fs.toList).run P w = .ok b w) : EqT P t (.agg xs) (.agg ys) b w := by
  have hf : P.fieldsOf t = fs := by unfold Program.fieldsOf; rw [ht]
  refine ⟨?_, run_eqGuard_agg w _ _ _ _ _ _ hm, run_eqGuard_agg w _ _ _ _ _ _ hm⟩
  unfold Op.equal Op.maxDepth
  rw [show (10000 : Nat) = 9999 + 1 from rfl, run_equalIn_agg w 9999 t xs ys (by rw [hf]; exact ht) hp, hf]; exact h
end
end Go.Proofs.YtfkjjnddefojjaaGreatDoor.D
/- Function values known by what they do: closures, method values, functions handed over. No program text is named here. -/
set_option linter.unusedVariables false
set_option linter.unusedSimpArgs false
set_option linter.unnecessarySimpa false
namespace Go.Proofs.YtfkjjnddefojjaaGreatDoor.D
open Go.RowKit

section
variable {P : Program} {I J : Hp} {w0 w w' : World} {cs C : List Ch} {n : Nat} {a : Act} {L L' : List (Nat × Value)} {o : Oper} {ev : Operand → Value}
theorem seq_op0 {Q : Exit → Act → World → Prop} {ops : Array Oper} {rest : List Oper} {C : List Ch} {fact : Value → Prop} (ha : Agr n a L) (hs : St I w0 w C) (hop : OpT P I w0 o (evL L) [] fact (fun _ => [])) (hg : o.guard = none) (hk : (knowsAll L o && dstOk n o.dst && noSelect o) = true)
    (k : ∀ v a w, fact v → Agr n a (putL o.dst v L) → St I w0 w C → wpList P ops Q rest a w) : wpList P ops Q (o :: rest) a w :=
  seq_op ha hs hg hop (List.Perm.refl _) hk k
end
end Go.Proofs.YtfkjjnddefojjaaGreatDoor.D
/- Owned data put into owned data: literals, stores, 'make' of rows that hold memory of their own. No program text is named here. -/
set_option linter.unusedVariables false
set_option linter.unusedSimpArgs false
set_option linter.unnecessarySimpa false
namespace Go.Proofs.YtfkjjnddefojjaaGreatDoor.D
open Go.RowKit

def Bun (I : Hp) (ls : List Ch) {α : Type} (R : Rep α) (cs : List Value) (x : α) : Prop := ∀ w F, Sep I ls w F → R.own I w cs x F
section
variable {P : Program} {I J : Hp} {w0 w w' : World} {cs C : List Ch} {n : Nat} {a : Act} {L L' : List (Nat × Value)} {o : Oper} {ev : Operand → Value}
theorem bun_own {α : Type} {R : Rep α} {c : List Value} {x : α} : Bun I [Ch.own R c x] R c x := by
  rintro w F ⟨G, K, rfl, h1, rfl⟩
  rw [List.append_nil]; exact h1
theorem bun_nil {α : Type} {E : TypeId} {R : Rep α} : Bun I [] (rSlice E R) [.slice none 0 0] [] := fun w F h => ⟨Nat.zero_le _, .inl ⟨rfl, rfl, h⟩⟩
theorem bun_rd {α : Type} {R : Rep α} {c : List Value} {x : α} (h : R.rd I c x) : Bun I [] (rFro R) c x := fun w F k => ⟨k, h⟩
theorem bun_prod {α β : Type} {R : Rep α} {S : Rep β} {l m : List Ch} {c d : List Value} {x : α} {y : β} (h : Bun I l R c x) (k : Bun I m S d y) : Bun I (l ++ m) (rProd R S) (c ++ d) (x, y) := by
  intro w F hs
  obtain ⟨G, K, rfl, h1, h2⟩ := hs.split
  exact ⟨c, d, G, K, rfl, rfl, h w G h1, k w K h2⟩
def SepTo (I : Hp) (l m : List Ch) : Prop := ∀ w F, Sep I l w F → Sep I m w F
theorem sepTo_nil : SepTo I [] [] := fun _ _ h => h
theorem sepTo_bun {α : Type} {R : Rep α} {l m m' : List Ch} {c : List Value} {x : α} (h : Bun I l R c x) (k : SepTo I m m') : SepTo I (l ++ m) (Ch.own R c x :: m') := by
  intro w F hs
  obtain ⟨G, K, rfl, h1, h2⟩ := hs.split
  exact ⟨G, K, rfl, h w G h1, k w K h2⟩
theorem OpT.pre {l0 ls ls' : List Ch} {fact : Value → Prop} {gv : Value → List Ch} (k : SepTo I l0 ls') (e : l0 = ls) (h : OpT P I w0 o ev ls' fact gv) : OpT P I w0 o ev ls fact gv := by
  subst e
  intro w C hs
  refine h w C ?_
  obtain ⟨h1, h2, F, h3, h4, h5⟩ := hs
  obtain ⟨G, K, rfl, e1, e2⟩ := h3.split
  exact ⟨h1, h2, G ++ K, (k w G e1).append e2, h4, h5⟩
def UpdO {α β : Type} (R : Rep α) (off : Nat) (S : Rep β) (u : α → β → α) : Prop := ∀ I w c x G d y K, R.own I w c x G → S.own I w d y K → ∃ G' D, R.own I w (spl c off d) (u x y) G' ∧ (G' ++ D).Perm (G ++ K)
theorem UpdO.self {α : Type} {R : Rep α} : UpdO R 0 R (fun _ y => y) := by
  intro I w c x G d y K h k
  rw [spl_eq _ _ _ (by rw [R.own_len h, R.own_len k]; omega), R.own_len k, ← R.own_len h]
  exact ⟨K, G, by simpa using k, List.perm_append_comm⟩
theorem UpdO.fst {α β γ : Type} {A : Rep α} {B : Rep β} {S : Rep γ} {off : Nat} {u : α → γ → α} (hs : off + S.size ≤ A.size) (h : UpdO A off S u) : UpdO (rProd A B) off S (fun x y => (u x.1 y, x.2)) := by
  rintro I w c x F d y K ⟨c1, c2, G1, G2, rfl, rfl, h1, h2⟩ k
  rw [spl_left _ _ _ _ (by rw [A.own_len h1, S.own_len k]; exact hs)]
  obtain ⟨G', D, e1, e2⟩ := h I w c1 x.1 G1 d y K h1 k
  refine ⟨G' ++ G2, D, ⟨_, c2, G', G2, rfl, rfl, e1, h2⟩, ?_⟩
  have p1 : (G' ++ G2 ++ D).Perm ((G' ++ D) ++ G2) := by
    rw [List.append_assoc, List.append_assoc]; exact List.Perm.append_left _ List.perm_append_comm
  have p2 : ((G1 ++ K) ++ G2).Perm (G1 ++ G2 ++ K) := by
    rw [List.append_assoc, List.append_assoc]; exact List.Perm.append_left _ List.perm_append_comm
  exact p1.trans ((e2.append_right G2).trans p2)
theorem UpdO.snd {α β γ : Type} {A : Rep α} {B : Rep β} {S : Rep γ} {off : Nat} {u : β → γ → β} (h : UpdO B off S u) : UpdO (rProd A B) (A.size + off) S (fun x y => (x.1, u x.2 y)) := by
  rintro I w c x F d y K ⟨c1, c2, G1, G2, rfl, rfl, h1, h2⟩ k
  rw [← A.own_len h1, spl_right]
  obtain ⟨G', D, e1, e2⟩ := h I w c2 x.2 G2 d y K h2 k
  refine ⟨G1 ++ G', D, ⟨c1, _, G1, G', rfl, rfl, h1, e1⟩, ?_⟩
  rw [List.append_assoc, List.append_assoc]
  exact e2.append_left _
theorem OwnEls.setO {α β : Type} {R : Rep α} {S : Rep β} {off : Nat} {f : α → β → α} (hU : UpdO R off S f) {d : List Value} {y : β} {Kd : List Nat} (hd : S.own I w d y Kd) (hoff : off + S.size ≤ R.size) :
    ∀ {xs : List α} {cur : List Value} {F : List Nat} {k : Nat} {x : α}, OwnEls R I w cur xs F → xs[k]? = some x → ∃ F' D, OwnEls R I w (spl cur (k * R.size + off) d) (xs.set k (f x y)) F' ∧ (F' ++ D).Perm (F ++ Kd)
  | [], _, _, k, _, _, hk => by simp at hk
  | z :: xs, cur, F, 0, x, ⟨c, rest, G, K, h1, h2, h3, h4, h5⟩, hk => by
    simp at hk; subst hk; subst h1; subst h3
    obtain ⟨G', D, e1, e2⟩ := hU I w c z G d y Kd h4 hd
    rw [Nat.zero_mul, Nat.zero_add, spl_left _ _ _ _ (by rw [h2, S.own_len hd]; exact hoff)]
    refine ⟨G' ++ K, D, ⟨_, rest, G', K, rfl, by rw [spl_len]; exact h2, rfl, e1, h5⟩, ?_⟩
    have p1 : (G' ++ K ++ D).Perm ((G' ++ D) ++ K) := by
      rw [List.append_assoc, List.append_assoc]; exact List.Perm.append_left _ List.perm_append_comm
    have p2 : ((G ++ Kd) ++ K).Perm (G ++ K ++ Kd) := by
      rw [List.append_assoc, List.append_assoc]; exact List.Perm.append_left _ List.perm_append_comm
    exact p1.trans ((e2.append_right K).trans p2)
  | z :: xs, cur, F, k + 1, x, ⟨c, rest, G, K, h1, h2, h3, h4, h5⟩, hk => by
    subst h1; subst h3
    obtain ⟨F', D, e1, e2⟩ := OwnEls.setO hU hd hoff h5 (k := k) (by simpa using hk)
    have e : (k + 1) * R.size + off = c.length + (k * R.size + off) := by rw [h2, Nat.add_mul, Nat.one_mul]; omega
    rw [e, spl_right]
    refine ⟨G ++ F', D, ⟨c, _, G, F', rfl, h2, rfl, h4, e1⟩, ?_⟩
    rw [List.append_assoc, List.append_assoc]
    exact e2.append_left _
theorem opT_store_own {α β : Type} {E T : TypeId} {R : Rep α} {S : Rep β} {ls : List Ch} {agg : Bool} {n k off : Nat} {f : α → β → α} {x y : Operand} {v u : Value} {xs : List α} {a : α} {b : β} {i : Int} {d : List Value} (hB : Bun I ls S d b) (ha : getI xs i = some a) (hU : UpdO R off S f) (hT : TI P T agg n) (ho : o.op = .store T x y) (hx : ev x = pt v (i.toNat * k + off)) (hy : ev y = u) (hu : u.cells = d.toArray) (h1 : d.all (·.oneCell') = true) (hd : d.length = n) (hSn : S.size = n) (hk : R.size = k) (hS : off + n ≤ k) :
    OpT P I w0 o ev (Ch.own (rSlice E R) [v] xs :: ls) (fun _ => True) (fun _ => [Ch.own (rSlice E R) [v] (xs.set i.toNat (f a b))]) := by
  intro w C hs
  have hm := getI_at ha
  have hlt := (List.getElem?_eq_some_iff.1 hm).1
  obtain ⟨hb0, hi, F, ⟨G, K, rfl, ⟨hl, e2⟩, e3⟩, hnd, hI⟩ := hs
  obtain ⟨Kd, KC, rfl, e4, e5⟩ := Sep.split e3
  rcases e2 with ⟨hv, rfl, rfl⟩ | ⟨g, ofs, cap, cur, K1, hv, k1, k2, k3, k4, rfl, k5⟩
  · simp at hlt
  obtain rfl : v = .slice (some ⟨g, ofs, none⟩) xs.length cap := by simpa using hv
  have hfit : ofs + (i.toNat * k + k) ≤ cur.size := by
    have k4' := k4
    rw [hk] at k4'
    have : (i.toNat + 1) * k ≤ cap * k := Nat.mul_le_mul_right _ (by omega)
    rw [Nat.add_mul, Nat.one_mul] at this; omega
  have hln : cur.toList.length = cur.size := Array.length_toList
  have hr := run_st (P := P) (w := w) hT (g := g) (o := ofs + (i.toNat * k + off)) hu hd (fun j hj => by
    simp only [World.cell?, k1, Option.isSome_none, Bool.false_eq_true, ite_false]
    rw [Array.getElem?_eq_getElem (by omega)]; rfl) (fun j => by simp [World.frozen?, k1]) (fun v hv => List.all_eq_true.1 h1 v hv)
  simp only [execOp, ho, hx, hy, pt, ptB, ptO, Sem.run_bind, hr, Result.andThen_ok]
  refine ⟨trivial, ?_⟩
  have hch : ∀ (d : List Value) (o : Nat) (w : World), (setsW w g o d).os = w.os ∧ (setsW w g o d).tape = w.tape ∧ (setsW w g o d).output = w.output ∧ (setsW w g o d).heap.size = w.heap.size ∧ ∀ b, b ≠ g → (setsW w g o d).heap[b]? = w.heap[b]? := by
    intro d
    induction d with
    | nil => intro o w; exact ⟨rfl, rfl, rfl, rfl, fun _ _ => rfl⟩
    | cons v d ih =>
      intro o w
      obtain ⟨i1, i2, i3, i4, i5⟩ := ih (o + 1) (w.setCell ⟨g, o, none⟩ v)
      exact ⟨i1, i2, i3, i4.trans (by simp [World.setCell]), fun b hb => (i5 b hb).trans (Below.heap_setCell _ _ _ _ hb)⟩
  have hrow : ∀ (d : List Value) (o : Nat) (w : World) (cur : Array Value), w.heap[g]? = some (.cells cur E (0, 0)) → (setsW w g o d).heap[g]? = some (.cells (spl cur.toList o d).toArray E (0, 0)) := by
    intro d
    induction d with
    | nil => intro o w cur h; simpa [setsW, spl] using h
    | cons v d ih =>
      intro o w cur h
      have := ih (o + 1) (w.setCell ⟨g, o, none⟩ v) (cur.setIfInBounds o v) (heap_setCell_at h)
      rw [Array.toList_setIfInBounds] at this
      exact this
  obtain ⟨q1, q2, q3, q4, q5⟩ := hch d (ofs + (i.toNat * k + off)) w
  obtain ⟨F', D, z1, z2⟩ := OwnEls.setO hU (hB w Kd e4) (by rw [hSn, hk]; exact hS) k5 hm
  -- what is left of the footprints
  have hperm : ((g :: F' ++ KC) ++ D).Perm ((g :: K1) ++ (Kd ++ KC)) := by
    have p1 : ((F' ++ KC) ++ D).Perm ((F' ++ D) ++ KC) := by
      rw [List.append_assoc, List.append_assoc]; exact List.Perm.append_left _ List.perm_append_comm
    have p2 := p1.trans (z2.append_right KC)
    rw [List.append_assoc] at p2
    simpa using p2
  have hnd' := (hperm.nodup_iff).2 hnd
  have hmem : ∀ b, b ∈ g :: F' ++ KC → b ∈ (g :: K1) ++ (Kd ++ KC) := fun b hb => hperm.mem_iff.1 (List.mem_append_left _ hb)
  have hnd2 : (g :: F' ++ KC).Nodup := (List.nodup_append.1 hnd').1
  have hgF : g ∉ F' ++ KC := (List.nodup_cons.1 (show (g :: (F' ++ KC)).Nodup from hnd2)).1
  refine ⟨⟨q1.trans hb0.1, q2.trans hb0.2.1, q3.trans hb0.2.2.1, by rw [q4]; exact hb0.2.2.2⟩, fun b o hbo => ?_, (g :: F') ++ KC, ⟨g :: F', KC, rfl, ⟨by rw [List.length_set]; exact hl, .inr ⟨g, ofs, cap, _, F', by rw [List.length_set], hrow d _ w cur k1, by rw [List.length_set]; exact k2, k3, by rw [List.size_toArray, spl_len]; rw [hln]; exact k4, rfl, ?_⟩⟩, e5.stay fun b hb => q5 b fun e => hgF (List.mem_append_right _ (e ▸ hb))⟩, hnd2, fun b hb => hI b (hmem b hb)⟩
  · show (setsW w g (ofs + (i.toNat * k + off)) d).heap[b]? = some o
    rw [q5 b fun e => by rw [e, hI g (by simp)] at hbo; cases hbo]
    exact hi b o hbo
  · rw [hk] at z1
    show OwnEls R I _ ((spl cur.toList (ofs + (i.toNat * k + off)) d).drop ofs) _ _
    rw [spl_drop (by omega)]
    exact OwnEls.stay z1 fun b hb => q5 b fun e => hgF (List.mem_append_left _ (e ▸ hb))
/-! ### make, of whatever has a zero -/
def Zro {α : Type} (R : Rep α) (cs : List Value) (z : α) : Prop := ∀ (I : Hp) (w : World), R.own I w cs z []
theorem zro_flat {α : Type} {enc : α → Value} {h1 : ∀ a, (enc a).oneCell' = true} {x : α} : Zro (rFlat α enc h1) [enc x] x := fun I w => ⟨rfl, rfl⟩
theorem zro_nil {α : Type} {E : TypeId} {R : Rep α} : Zro (rSlice E R) [.slice none 0 0] [] := fun I w => ⟨Nat.zero_le _, .inl ⟨rfl, rfl, rfl⟩⟩
theorem zro_prod {α β : Type} {R : Rep α} {S : Rep β} {c d : List Value} {x : α} {y : β} (h : Zro R c x) (k : Zro S d y) : Zro (rProd R S) (c ++ d) (x, y) := fun I w => ⟨c, d, [], [], rfl, rfl, h I w, k I w⟩
theorem zro_fro {α : Type} {R : Rep α} {c : List Value} {x : α} (h : ∀ I, R.rd I c x) : Zro (rFro R) c x := fun I w => ⟨rfl, h I⟩
theorem opT_mk {α : Type} {E T : TypeId} {R : Rep α} {zv : Value} {n b : Nat} {x y : Operand} {l : Int} {z : α} {xs : List α} (hz : Zro R zv.cells.toList z) (hT : P.underlying T = some (.slice E)) (hE : TZ P E zv n b) (ho : o.op = .makeSlice T x y) (hR : R.size = n) (hn : 0 < n) (hb : 1 ≤ b) (hx : ev x = .int .i64 l) (hy : ev y = .int .i64 l) (h : mkI b l z = some xs) : OpT P I w0 o ev [] (fun _ => True) (fun v => [Ch.own (rSlice E R) [v] xs]) := by
  intro w C hs
  unfold mkI at h
  split at h
  · rename_i hl
    obtain rfl := Option.some.inj h
    obtain ⟨i, hi, hz1, hsz, hby⟩ := info_parts hE
    have hzl : zv.cells.size = n := by have := R.own_len (hz I w); rw [Array.length_toList, hR] at this; exact this
    have hle : l.toNat ≤ 140737488355328 := Nat.le_trans (Nat.le_mul_of_pos_right _ hb) hl.2
    have hl' : (l.toNat : Int) = l := Int.toNat_of_nonneg hl.1
    have hr := run_make (P := P) w T E i zv hT hi hz1 .i64 .i64 l l hl.1 (Int.le_refl _) (by rw [hby, ← hl', ← Int.natCast_mul, Nat.mul_comm]; omega) (by omega)
    rw [hsz] at hr
    simp only [execOp, ho, hx, hy, Sem.run_bind, hr, Result.andThen_ok]
    refine ⟨trivial, ?_⟩
    have hs1 := hs.alloc (madeCells zv.cells (l.toNat * n)).toList E
    obtain ⟨hb0, hi0, F, ⟨G, K, rfl, ⟨rfl, hg⟩, hr2⟩, n1, n2⟩ := hs1
    refine ⟨hb0, hi0, [w.heap.size] ++ K, ⟨[w.heap.size], K, rfl, ⟨by rw [List.length_replicate]; unfold lim; omega, .inr ⟨w.heap.size, 0, l.toNat, _, [], by rw [List.length_replicate], hg, by rw [List.length_replicate]; exact Nat.le_refl _, by unfold maxLen; omega, by rw [hR]; simp [madeCells], rfl, ?_⟩⟩, hr2⟩, n1, n2⟩
    have key : ∀ (W : World) (m : Nat), OwnEls R I W (madeCells zv.cells (m * n)).toList (List.replicate m z) [] := by
      intro W m
      induction m with
      | zero => exact rfl
      | succ m ih =>
        refine ⟨zv.cells.toList, (madeCells zv.cells (m * n)).toList, [], [], ?_, by rw [Array.length_toList, hzl, hR], rfl, hz I W, ih⟩
        apply List.ext_getElem?
        intro j
        by_cases hj : j < n
        · rw [List.getElem?_append_left (by rw [Array.length_toList, hzl]; exact hj)]
          have h1 : j < (m + 1) * n := by rw [Nat.add_mul, Nat.one_mul]; omega
          simp [madeCells, h1, hzl, Nat.mod_eq_of_lt hj, Array.getElem?_range]
          rw [getElem!_pos _ _ (by omega)]; simp [hzl, hj]
        · rw [List.getElem?_append_right (by rw [Array.length_toList, hzl]; omega), Array.length_toList, hzl]
          by_cases h1 : j < (m + 1) * n
          · have h2 : j - n < m * n := by rw [Nat.add_mul, Nat.one_mul] at h1; omega
            simp [madeCells, h1, h2, hzl, Array.getElem?_range]
            congr 1
            conv => lhs; rw [show j = (j - n) + n from by omega, Nat.add_mod_right]
          · have h2 : ¬ j - n < m * n := by rw [Nat.add_mul, Nat.one_mul] at h1; omega
            simp [madeCells, h1, h2]
    exact key _ l.toNat
  · cases h
end
end Go.Proofs.YtfkjjnddefojjaaGreatDoor.D
/- An element of an owned row, taken out and put back. No program text is named here. -/
set_option linter.unusedVariables false
set_option linter.unusedSimpArgs false
set_option linter.unnecessarySimpa false
namespace Go.Proofs.YtfkjjnddefojjaaGreatDoor.D
open Go.RowKit

section
variable {P : Program} {I J : Hp} {w0 w w' : World} {cs C : List Ch} {n : Nat} {a : Act} {L L' : List (Nat × Value)} {o : Oper} {ev : Operand → Value}
theorem OwnEls.cut2 {α : Type} {R : Rep α} : ∀ {ys zs : List α} {cur : List Value} {F : List Nat}, OwnEls R I w cur (ys ++ zs) F → ∃ c1 c2 K1 K2, cur = c1 ++ c2 ∧ c1.length = ys.length * R.size ∧ F = K1 ++ K2 ∧ OwnEls R I w c1 ys K1 ∧ OwnEls R I w c2 zs K2
  | [], zs, cur, F, h => ⟨[], cur, [], F, rfl, by simp, rfl, rfl, h⟩
  | y :: ys, zs, cur, F, ⟨c, rest, G, K, h1, h2, h3, h4, h5⟩ => by
    obtain ⟨c1, c2, K1, K2, rfl, e2, rfl, e4, e5⟩ := OwnEls.cut2 (ys := ys) h5
    exact ⟨c ++ c1, c2, G ++ K1, K2, by rw [h1, List.append_assoc], by rw [List.length_append, h2, e2, List.length_cons, Nat.add_mul, Nat.one_mul, Nat.add_comm], by rw [h3, List.append_assoc], ⟨c, c1, G, K1, rfl, h2, rfl, h4, e4⟩, e5⟩
theorem OwnEls.glue {α : Type} {R : Rep α} : ∀ {ys zs : List α} {c1 c2 : List Value} {K1 K2 : List Nat}, c1.length = ys.length * R.size → OwnEls R I w c1 ys K1 → OwnEls R I w c2 zs K2 → OwnEls R I w (c1 ++ c2) (ys ++ zs) (K1 ++ K2)
  | [], zs, c1, c2, K1, K2, hl, h1, h2 => by
    rw [List.length_nil, Nat.zero_mul, List.length_eq_zero_iff] at hl
    rw [hl, show K1 = [] from h1]; exact h2
  | y :: ys, zs, cur, c2, F, K2, hl, ⟨c, rest, G, K, h1, h2, h3, h4, h5⟩, h => by
    subst h1; subst h3
    rw [List.length_append, h2, List.length_cons, Nat.add_mul, Nat.one_mul] at hl
    exact ⟨c, rest ++ c2, G, K ++ K2, by rw [List.append_assoc], h2, by rw [List.append_assoc], h4, h5.glue (by omega) h⟩
end
end Go.Proofs.YtfkjjnddefojjaaGreatDoor.D
/- Maps of a call's own, with values of type int: a chunk that reads as an association list. No program text is named here. -/
set_option linter.unusedVariables false
set_option linter.unusedSimpArgs false
set_option linter.unnecessarySimpa false
namespace Go.Proofs.YtfkjjnddefojjaaGreatDoor.D
open Go.RowKit

def Reads {κ ε : Type} [DecidableEq κ] (lit : κ → Lit) (ok : κ → Bool) (elit : ε → Lit) (z : ε) (D : DataW Unit) (M : List (κ × ε)) : Prop :=
  Maps.IsMap D ∧ ∀ x, ok x = true → Maps.has D (lit x) = (M.lookup x).isSome ∧ D.atKey (lit x) (.lit (elit z)) = .lit (elit ((M.lookup x).getD z))
def lkM {κ ε : Type} [DecidableEq κ] (M : List (κ × ε)) (x : κ) : Option ε := M.lookup x
structure KeyOk (P : Program) (k : TypeId) {κ : Type} [DecidableEq κ] (val : κ → Value) (lit : κ → Lit) (ok : κ → Bool) : Prop where
  keyed : Maps.Keyed P k
  inj : ∀ x y, val x = val y → x = y
  key : ∀ x, ok x = true → keyOf P k (val x) = some (lit x)
theorem KeyOk.linj {P : Program} {k : TypeId} {κ : Type} [DecidableEq κ] {val : κ → Value} {lit : κ → Lit} {ok : κ → Bool} (K : KeyOk P k val lit ok) {x y : κ} (hx : ok x = true) (hy : ok y = true) (h : lit x = lit y) : x = y :=
  K.inj _ _ (K.keyed.inj (K.key x hx) (by rw [h]; exact K.key y hy))
theorem KeyOk.isKey {P : Program} {k : TypeId} {κ : Type} [DecidableEq κ] {val : κ → Value} {lit : κ → Lit} {ok : κ → Bool} (K : KeyOk P k val lit ok) {x : κ} (hx : ok x = true) : WideAt.IsKeyLit (lit x) := K.keyed.key (K.key x hx)
structure EltOk (P : Program) (e : TypeId) {ε : Type} (enc : ε → Value) (elit : ε → Lit) (eok : ε → Bool) (z : ε) : Prop where
  plain : ∀ i, eok i = true → plainElem (H := Unit) P e (enc i) = some (.lit (elit i), [])
  inv : ∀ v y ps, plainElem (H := Unit) P e v = some (.lit (elit y), ps) → v = enc y
  zero : ∀ w, (zeroValue e).run P w = .ok (enc z) w
  zok : eok z = true
def Ch.mp (P : Program) (k e : TypeId) {κ ε : Type} [DecidableEq κ] (lit : κ → Lit) (ok : κ → Bool) (elit : ε → Lit) (z : ε) (v : Value) (M : List (κ × ε)) : Ch where
  holds I w F := ∃ b, v = .map (some b) ∧ F = [b] ∧ ∃ n D, w.ownsMap P k (plainElem P e) b n D ∧ n ≤ M.length ∧ Reads lit ok elit z D M
  mono h _ := h
  stay := by
    rintro I w w' F ⟨b, rfl, rfl, n, D, ⟨es, clock, hb, h⟩, h2⟩ hw
    exact ⟨b, rfl, rfl, n, D, ⟨es, clock, by rw [hw b (by simp)]; exact hb, h⟩, h2⟩
  live := by
    rintro I w F ⟨b, rfl, rfl, n, D, h, h2⟩ b' hb
    simp at hb; subst hb; exact h.lt
def iLit (n : Int) : Lit := .int .i64 n
def iOk (n : Int) : Bool := (Lit.int .i64 n).wf
def bLit (b : Bool) : Lit := .bool b
def bOk (b : Bool) : Bool := true
def iiLit (x : Int × Int) : Lit := .string (keyBytes [.int .i64 x.1, .int .i64 x.2])
def iiOk (x : Int × Int) : Bool := (Lit.int .i64 x.1).wf && (Lit.int .i64 x.2).wf
section
variable {P : Program} {I J : Hp} {w0 w w' : World} {cs C : List Ch} {n : Nat} {a : Act} {L L' : List (Nat × Value)} {o : Oper} {ev : Operand → Value}
variable {κ ε : Type} [DecidableEq κ] {lit : κ → Lit} {val : κ → Value} {ok : κ → Bool} {enc : ε → Value} {elit : ε → Lit} {eok : ε → Bool} {z : ε}
theorem reads_nil : Reads lit ok elit z (.map []) ([] : List (κ × ε)) := ⟨Maps.isMap_empty, fun x _ => ⟨rfl, rfl⟩⟩
theorem Reads.put {k : TypeId} (K : KeyOk P k val lit ok) {D : DataW Unit} {M : List (κ × ε)} (h : Reads lit ok elit z D M) (x : κ) (hx : ok x = true) (i : ε) : Reads lit ok elit z (D.put (lit x) (.lit (elit i))) ((x, i) :: M) := by
  refine ⟨h.1.put _ _, fun y hy => ?_⟩
  by_cases e : y = x
  · subst e
    rw [List.lookup_cons_self]
    exact ⟨Maps.has_put_same h.1 (K.isKey hy) _, Maps.atKey_put_same h.1 (K.isKey hy) _ _⟩
  · have hne : lit y ≠ lit x := fun h => e (K.linj hy hx h)
    rw [List.lookup_cons, show (y == x) = false from by simp [e]]
    exact ⟨by rw [Maps.has_put_other hne]; exact (h.2 y hy).1, by rw [Maps.atKey_put_other hne]; exact (h.2 y hy).2⟩
theorem opT_makeMap {t k e : TypeId} (ho : o.op = .makeMap t none) : OpT P I w0 o ev [] (fun _ => True) (fun v => [Ch.mp P k e lit ok elit z v []]) := by
  intro w C hs
  have hr : (execOp ev o).run P w = .ok (.value (.map (some w.heap.size))) (w.alloc (.map #[] 0)) := by
    simp only [execOp, ho]; rfl
  rw [hr]
  refine ⟨trivial, ?_⟩
  refine St.step (w := w) (c := []) (c' := [Ch.mp P k e lit ok elit z (.map (some w.heap.size)) []]) (w' := w.alloc (.map #[] 0)) hs rfl rfl rfl (by simp) ?_
  rintro F rfl - -
  refine ⟨fun b hb _ => ?_, [w.heap.size], ⟨[w.heap.size], [], rfl, ⟨_, rfl, rfl, 0, .map [], World.ownsMap_made _ _ _ _, Nat.le_refl _, reads_nil⟩, rfl⟩, by simp, by simp⟩
  show (w.heap.push _)[b]? = _
  rw [Array.getElem?_push_lt hb, Array.getElem?_eq_getElem hb]
def putM (M : List (κ × ε)) (ok : κ → Bool) (eok : ε → Bool) (x : κ) (i : ε) : Option (List (κ × ε)) := if M.length < 9223372036854775807 ∧ ok x = true ∧ eok i = true then some ((x, i) :: M) else none
theorem opT_putMap {t k e : TypeId} {m x y : Operand} {v : Value} {q : κ} {i : ε} {M M' : List (κ × ε)} (K : KeyOk P k val lit ok) (E : EltOk P e enc elit eok z) (ht : P.underlying t = some (.map k e))
    (ho : o.op = .mapUpdate t m x y ∨ o.op = .insert t m x y) (hm : ev m = v) (hx : ev x = val q) (hy : ev y = enc i) (h : putM M ok eok q i = some M') :
    OpT P I w0 o ev [Ch.mp P k e lit ok elit z v M] (fun _ => True) (fun _ => [Ch.mp P k e lit ok elit z v M']) := by
  unfold putM at h
  split at h
  case isFalse => cases h
  rename_i hh
  obtain rfl := Option.some.inj h
  intro w C hs
  obtain ⟨h1, h2, F, ⟨G, G', rfl, ⟨b, rfl, rfl, n, D, hown, hn, hR⟩, e2⟩, h4, h5⟩ := hs
  obtain ⟨w', hrun, g1, g2⟩ := hown.update K.keyed ht (by unfold maxLen; omega) (K.key q hh.2.1) (E.plain i hh.2.2)
  have hb : b ∉ G' := by simpa using (List.nodup_cons.1 h4).1
  have hr : (execOp ev o).run P w = .ok .skip w' := by
    rcases ho with ho | ho
    · simp only [execOp, ho, hm, hx, hy, Sem.run_bind, hrun, Result.andThen_ok]; rfl
    · simp only [execOp, ho, hm, hx, hy, Sem.run_bind, hrun, Result.andThen_ok]; rfl
  rw [hr]
  refine ⟨trivial, ⟨g2.os.trans h1.1, g2.tape.trans h1.2.1, g2.output.trans h1.2.2.1, Nat.le_trans h1.2.2.2 g2.size⟩, fun c o hc => ?_, [b] ++ G', ⟨[b], G', rfl, ⟨b, rfl, rfl, n + 1, _, g1, by simpa using hn, hR.put K q hh.2.1 i⟩, e2.stay fun c hc => ?_⟩, h4, h5⟩
  · have hne : c ≠ b := fun e => by rw [e, h5 b (by simp)] at hc; cases hc
    have := h2 c o hc
    have hlt : c < w.heap.size := (Array.getElem?_eq_some_iff.1 this).1
    show w'.heap[c]? = some o
    rw [g2.block c hlt (fun e => hne (Option.some.inj e))]; exact this
  · exact g2.block c (e2.live c hc) (fun e => hb (Option.some.inj e ▸ hc))
theorem run_look {t k e : TypeId} {b n : Nat} {D : DataW Unit} {q : κ} {M : List (κ × ε)} (K : KeyOk P k val lit ok) (E : EltOk P e enc elit eok z) (ht : P.underlying t = some (.map k e)) (hq : ok q = true) (hown : w.ownsMap P k (plainElem P e) b n D) (hR : Reads lit ok elit z D M) :
    (Instr.lookup t (.map (some b)) (val q) true).run P w = .ok (.tuple #[enc ((M.lookup q).getD z), .bool (M.lookup q).isSome]) w := by
  obtain ⟨u, ps, hrun, hu⟩ := hown.look_ok K.keyed ht (E.zero w) (E.plain z E.zok) (K.key q hq)
  obtain ⟨r1, r2⟩ := hR.2 q hq
  rw [r2] at hu
  obtain rfl := E.inv _ _ _ hu
  rw [hrun, r1]
theorem opT_lookMap {t k e : TypeId} {m x : Operand} {v : Value} {q : κ} {M : List (κ × ε)} (K : KeyOk P k val lit ok) (E : EltOk P e enc elit eok z) (hq : ok q = true) (ht : P.underlying t = some (.map k e))
    (ho : o.op = .lookup t m x true) (hm : ev m = v) (hx : ev x = val q) :
    OpT P I w0 o ev [Ch.mp P k e lit ok elit z v M] (· = .tuple #[enc ((M.lookup q).getD z), .bool (M.lookup q).isSome]) (fun _ => [Ch.mp P k e lit ok elit z v M]) := by
  intro w C hs
  have hs' := hs
  obtain ⟨h1, h2, F, ⟨G, G', rfl, ⟨b, rfl, rfl, n, D, hown, hn, hR⟩, e2⟩, h4, h5⟩ := hs
  have hrun := run_look K E ht hq hown hR
  have hr : (execOp ev o).run P w = .ok (.value (.tuple #[enc ((M.lookup q).getD z), .bool (M.lookup q).isSome])) w := by
    simp only [execOp, ho, hm, hx, Sem.run_bind, hrun, Result.andThen_ok]; rfl
  rw [hr]
  exact ⟨rfl, hs'⟩
theorem opT_lookMap1 {t k e : TypeId} {m x : Operand} {v : Value} {q : κ} {M : List (κ × ε)} (K : KeyOk P k val lit ok) (E : EltOk P e enc elit eok z) (hq : ok q = true) (ht : P.underlying t = some (.map k e))
    (ho : o.op = .lookup t m x false) (hm : ev m = v) (hx : ev x = val q) :
    OpT P I w0 o ev [Ch.mp P k e lit ok elit z v M] (· = enc ((M.lookup q).getD z)) (fun _ => [Ch.mp P k e lit ok elit z v M]) := by
  intro w C hs
  have hs' := hs
  obtain ⟨h1, h2, F, ⟨G, G', rfl, ⟨b, rfl, rfl, n, D, hown, hn, hR⟩, e2⟩, h4, h5⟩ := hs
  obtain ⟨u, ps, hrun, hu⟩ := hown.lookup K.keyed ht (E.zero w) (E.plain z E.zok) (K.key q hq)
  obtain ⟨r1, r2⟩ := hR.2 q hq
  rw [r2] at hu
  obtain rfl := E.inv _ _ _ hu
  have hr : (execOp ev o).run P w = .ok (.value (enc ((M.lookup q).getD z))) w := by
    simp only [execOp, ho, hm, hx, Sem.run_bind, hrun, Result.andThen_ok]; rfl
  rw [hr]
  exact ⟨rfl, hs'⟩
end
/-! ### Unsigned words, conversions of ints -/
section
variable {P : Program} {I J : Hp} {w0 w w' : World} {o : Oper} {ev : Operand → Value}
theorem opU_add {x y : Operand} {t u : TypeId} {m n : Int} (ho : o.op = .binOp .add t x y u) (hx : ev x = .int .u64 m) (hy : ev y = .int .u64 n) : OpT P I w0 o ev [] (· = .int .u64 (IntKind.u64.wrap (m + n))) (fun _ => []) :=
  opT_val fun w => by simp only [execOp, ho, hx, hy]; rfl
theorem opU_sub {x y : Operand} {t u : TypeId} {m n : Int} (ho : o.op = .binOp .sub t x y u) (hx : ev x = .int .u64 m) (hy : ev y = .int .u64 n) : OpT P I w0 o ev [] (· = .int .u64 (IntKind.u64.wrap (m - n))) (fun _ => []) :=
  opT_val fun w => by simp only [execOp, ho, hx, hy]; rfl
theorem opU_mul {x y : Operand} {t u : TypeId} {m n : Int} (ho : o.op = .binOp .mul t x y u) (hx : ev x = .int .u64 m) (hy : ev y = .int .u64 n) : OpT P I w0 o ev [] (· = .int .u64 (IntKind.u64.wrap (m * n))) (fun _ => []) :=
  opT_val fun w => by simp only [execOp, ho, hx, hy]; rfl
def andU (m n : Int) : Int := bits .and .u64 m n
theorem opU_and {x y : Operand} {t u : TypeId} {m n : Int} (ho : o.op = .binOp .and t x y u) (hx : ev x = .int .u64 m) (hy : ev y = .int .u64 n) : OpT P I w0 o ev [] (· = .int .u64 (andU m n)) (fun _ => []) :=
  opT_val fun w => by simp only [execOp, ho, hx, hy]; rfl
theorem opU_shr {x y : Operand} {t u : TypeId} {m n : Int} (ho : o.op = .binOp .shr t x y u) (hx : ev x = .int .u64 m) (hy : ev y = .int .u64 n) (h0 : 0 ≤ n) : OpT P I w0 o ev [] (· = .int .u64 (shrI m n)) (fun _ => []) :=
  opT_val fun w => by simp [execOp, ho, hx, hy, eqGuard, binOp, Op.shift, show ¬ n < 0 from by omega, Result.andThen, shrI, IntKind.bits]
theorem opT_conv_int {x : Operand} {s d : TypeId} {k k' : IntKind} {m : Int} (hs : P.underlying s = some (.int k)) (hd : P.underlying d = some (.int k')) (ho : o.op = .convert s d x) (hx : ev x = .int k m) : OpT P I w0 o ev [] (· = .int k' (k'.wrap m)) (fun _ => []) :=
  opT_val fun w => by simp [execOp, ho, hx, convert, Conv.intToInt, run_underlying hs, run_underlying hd, Result.andThen]
end
end Go.Proofs.YtfkjjnddefojjaaGreatDoor.D
/- Parts of slices. No program text is named here. -/
set_option linter.unusedVariables false
set_option linter.unusedSimpArgs false
set_option linter.unnecessarySimpa false
namespace Go.Proofs.YtfkjjnddefojjaaGreatDoor.D
open Go.RowKit

def subV (v : Value) (l h s : Nat) : Value := match v with
  | .slice a _ c => sliced a l h c s
  | _ => v
section
variable {P : Program} {I J : Hp} {w0 w w' : World} {o : Oper} {ev : Operand → Value}
theorem TI.size {T : TypeId} {agg : Bool} {n : Nat} (h : TI P T agg n) (w : World) : (sizeOf T).run P w = .ok n w := by
  obtain ⟨-, h3⟩ := h
  cases hq : P.info? T with
  | none => simp [Program.cellsOf, hq] at h3; first | done | simp [sizeOf, typeInfo, hq, h3]
  | some i => simp [Program.cellsOf, hq] at h3; first | done | simp [sizeOf, typeInfo, hq, h3]
theorem opT_slice_l {t e : TypeId} {x y : Operand} {v : Value} {len n : Nat} {l : Int} {agg : Bool} (hT : P.underlying t = some (.slice e)) (hE : TI P e agg n) (hv : Hd v len) (ho : o.op = .slice t x (some y) none none) (hx : ev x = v) (hy : ev y = .int .i64 l) (h : 0 ≤ l ∧ l ≤ len) :
    OpT P I w0 o ev [] (· = subV v l.toNat len n) (fun _ => []) := by
  obtain ⟨ao, cap, rfl, -⟩ := hv
  have he : P.elem t = e := by simp [Program.elem, hT]
  have hT' : P.underlying t = some (.slice (P.elem t)) := by rw [he]; exact hT
  refine opT_val fun w => ?_
  have hs := TI.size hE w
  rw [← he] at hs
  simp only [execOp, ho, hx, Option.map_some, Option.map_none, hy, Sem.run_bind, run_sliceAt_slice w t _ _ _ _ hT', run_slice_l w t ao len cap hT' .i64 l h.1 h.2, hs, Result.andThen_ok]
  rfl
theorem opT_slice_h {t e : TypeId} {x y : Operand} {v : Value} {len n : Nat} {l : Int} {agg : Bool} (hT : P.underlying t = some (.slice e)) (hE : TI P e agg n) (hv : Hd v len) (ho : o.op = .slice t x none (some y) none) (hx : ev x = v) (hy : ev y = .int .i64 l) (h : 0 ≤ l ∧ l ≤ len) :
    OpT P I w0 o ev [] (· = subV v 0 l.toNat n) (fun _ => []) := by
  obtain ⟨ao, cap, rfl, -, hc⟩ := hv
  have he : P.elem t = e := by simp [Program.elem, hT]
  have hT' : P.underlying t = some (.slice (P.elem t)) := by rw [he]; exact hT
  refine opT_val fun w => ?_
  have hs := TI.size hE w
  rw [← he] at hs
  simp only [execOp, ho, hx, Option.map_some, Option.map_none, hy, Sem.run_bind, run_sliceAt_slice w t _ _ _ _ hT', run_slice_h w t ao len cap hT' .i64 l h.1 (by omega), hs, Result.andThen_ok]
  rfl

theorem opT_slice_lh {t e : TypeId} {x y z : Operand} {v : Value} {len n : Nat} {l h : Int} {agg : Bool} (hT : P.underlying t = some (.slice e)) (hE : TI P e agg n) (hv : Hd v len) (ho : o.op = .slice t x (some y) (some z) none) (hx : ev x = v) (hy : ev y = .int .i64 l) (hz : ev z = .int .i64 h) (hh : 0 ≤ l ∧ l ≤ h ∧ h ≤ len) :
    OpT P I w0 o ev [] (· = subV v l.toNat h.toNat n) (fun _ => []) := by
  obtain ⟨ao, cap, rfl, -, hc⟩ := hv
  have he : P.elem t = e := by simp [Program.elem, hT]
  have hT' : P.underlying t = some (.slice (P.elem t)) := by rw [he]; exact hT
  refine opT_val fun w => ?_
  have hs := TI.size hE w
  rw [← he] at hs
  simp only [execOp, ho, hx, Option.map_some, Option.map_none, hy, hz, Sem.run_bind, run_sliceAt_slice w t _ _ _ _ hT', run_slice_lh w t ao len cap hT' .i64 .i64 l h hh.1 hh.2.1 (by omega), hs, Result.andThen_ok]
  rfl
theorem rd_sub {α : Type} {E : TypeId} {R : Rep α} {v : Value} {xs : List α} {l h n : Nat} (hr : (rSlice E R).rd I [v] xs) (h1 : l ≤ h) (h2 : h ≤ xs.length) (hn : R.size = n) : (rSlice E R).rd I [subV v l h n] ((xs.take h).drop l) := by
  obtain ⟨ao, cap, hv, ⟨hl1, hl2⟩, hx⟩ := hr
  obtain rfl : v = .slice ao xs.length cap := by simpa using hv
  have hlen : ((xs.take h).drop l).length = h - l := by rw [List.length_drop, List.length_take]; omega
  by_cases hz : h = l
  · subst hz
    have hz : (xs.take h).drop h = [] := List.eq_nil_of_length_eq_zero (by rw [hlen]; omega)
    rw [hz]
    exact ⟨_, _, by simp only [subV, sliced]; rw [Nat.sub_self]; rfl, ⟨Nat.zero_le _, Nat.zero_le _⟩, .inl rfl⟩
  · rcases hx with rfl | ⟨b, off, ccs, t, fr, rfl, hI, hel⟩
    · simp at h2; omega
    · refine ⟨some ⟨b, off + l * n, none⟩, cap - l, ?_, ⟨by rw [hlen]; omega, by rw [hlen]; omega⟩, .inr ⟨b, off + l * n, ccs, t, fr, rfl, hI, fun i x hx => ?_⟩⟩
      · have hc : cap ≠ l := by omega
        simp [subV, sliced, hc, hlen, Addr.add_mid]
      · rw [List.getElem?_drop, List.getElem?_take] at hx
        split at hx
        · obtain ⟨c, c1, c2, c3⟩ := hel (l + i) x hx
          refine ⟨c, c1, fun j hj => ?_, c3⟩
          rw [← c2 j hj, ← hn, Nat.add_mul]
          congr 1; omega
        · cases hx
theorem rd_sub_l {α : Type} {E : TypeId} {R : Rep α} {v : Value} {xs : List α} {l n : Nat} (hr : (rSlice E R).rd I [v] xs) (h1 : l ≤ xs.length) (hn : R.size = n) : (rSlice E R).rd I [subV v l xs.length n] (xs.drop l) := by
  have := rd_sub hr h1 (Nat.le_refl _) hn
  rwa [List.take_of_length_le (Nat.le_refl _)] at this
theorem rd_sub_h {α : Type} {E : TypeId} {R : Rep α} {v : Value} {xs : List α} {h n : Nat} (hr : (rSlice E R).rd I [v] xs) (h1 : h ≤ xs.length) (hn : R.size = n) : (rSlice E R).rd I [subV v 0 h n] (xs.take h) := by
  have := rd_sub hr (Nat.zero_le h) h1 hn
  rwa [List.drop_zero] at this

/-! ### copy -/
theorem ownEls_flat {α : Type} {enc : α → Value} {h1 : ∀ a, (enc a).oneCell' = true} : ∀ {xs : List α} {cur : List Value} {K : List Nat}, OwnEls (rFlat α enc h1) I w cur xs K ↔ K = [] ∧ ∃ rest, cur = xs.map enc ++ rest
  | [], cur, K => ⟨fun h => ⟨h, cur, rfl⟩, fun h => h.1⟩
  | x :: xs, cur, K => by
    constructor
    · rintro ⟨c, rest, G, K', rfl, -, rfl, ⟨rfl, rfl⟩, h5⟩
      obtain ⟨rfl, r, rfl⟩ := ownEls_flat.1 h5
      exact ⟨rfl, r, rfl⟩
    · rintro ⟨rfl, r, rfl⟩
      exact ⟨[enc x], xs.map enc ++ r, [], [], rfl, rfl, rfl, ⟨rfl, rfl⟩, ownEls_flat.2 ⟨rfl, r, rfl⟩⟩
def cpyI {α : Type} (xs : List α) (lo : Nat) (ys : List α) : List α := xs.take lo ++ (ys.take (xs.length - lo) ++ xs.drop (lo + min ys.length (xs.length - lo)))
def Src (w : World) (u : Value) (cs : List Value) : Prop := ∃ ao cap, u = .slice ao cs.length cap ∧ (cs = [] ∨ ∃ a, ao = some a ∧ ∀ j v, cs[j]? = some v → w.cell? (a.add j) = some v)
theorem Src.take {u : Value} {cs : List Value} (h : Src w u cs) (n : Nat) : n ≤ cs.length → ∃ ao cap, u = .slice ao cs.length cap ∧ (cs.take n = [] ∨ ∃ a, ao = some a ∧ ∀ j v, (cs.take n)[j]? = some v → w.cell? (a.add j) = some v) := by
  intro _
  obtain ⟨ao, cap, h1, h2⟩ := h
  refine ⟨ao, cap, h1, ?_⟩
  rcases h2 with rfl | ⟨a, h3, h4⟩
  · exact .inl (by simp)
  · refine .inr ⟨a, h3, fun j v hj => h4 j v ?_⟩
    rw [List.getElem?_take] at hj
    split at hj
    · exact hj
    · cases hj
theorem Src.of_rd {α : Type} {E : TypeId} {enc : α → Value} {h1 : ∀ a, (enc a).oneCell' = true} {u : Value} {ys : List α} {cs0 : List Ch} (hs : St I w0 w cs0) (h : (rSlice E (rFlat α enc h1)).rd I [u] ys) : Src w u (ys.map enc) := by
  obtain ⟨ao, cap, hu, -, h⟩ := h
  obtain rfl : u = .slice ao ys.length cap := by simpa using hu
  refine ⟨ao, cap, by simp, ?_⟩
  rcases h with rfl | ⟨b, off, ccs, t, fr, rfl, hI, hel⟩
  · exact .inl rfl
  · refine .inr ⟨_, rfl, fun j v hj => ?_⟩
    rw [List.getElem?_map] at hj
    cases hy : ys[j]? with
    | none => rw [hy] at hj; cases hj
    | some y =>
      rw [hy] at hj
      obtain ⟨c, c1, c2, c3⟩ := hel j y hy
      obtain rfl : c = [enc y] := c3
      have hg : w.heap[b]? = some (.cells ccs t fr) := hs.2.1 b _ hI
      have := c2 0 (Nat.zero_lt_one)
      have e : (rFlat α enc h1).size = 1 := rfl
      rw [e] at this
      simp only [Nat.mul_one, Nat.add_zero, List.getElem?_cons_zero] at this
      simp only [Option.map_some, Option.some.injEq] at hj
      subst hj
      simp only [Addr.add_mid, World.cell?, hg]
      simpa using this
theorem run_copy_any {dT sT ty elem : TypeId} {g o dLen dCap sLen sCap : Nat} {ao : Option Addr} {cur : Array Value} {t : TypeId} {cs : List Value}
    (hu : P.underlying dT = some (.slice elem)) (hs : (P.info? elem).map (·.size) = some 1)
    (hg : w.heap[g]? = some (.cells cur t (0, 0))) (hn : cs.length = Nat.min sLen dLen)
    (hsrc : cs = [] ∨ ∃ a, ao = some a ∧ ∀ j v, cs[j]? = some v → w.cell? (a.add j) = some v) (hfit : o + cs.length ≤ cur.size) (h1 : ∀ v ∈ cs, v.oneCell' = true) :
    (Builtin.copy_ #[dT, sT] ty #[.slice (some ⟨g, o, none⟩) dLen dCap, .slice ao sLen sCap]).run P w =
      .ok (goInt cs.length) (w.setRow g (cur.toList.take o ++ cs ++ cur.toList.drop (o + cs.length)).toArray) := by
  rcases hsrc with rfl | ⟨a, rfl, h⟩
  · have hz : Nat.min sLen dLen = 0 := hn.symm
    have e : (w.setRow g (cur.toList.take o ++ [] ++ cur.toList.drop (o + ([] : List Value).length)).toArray) = w := by
      have : (cur.toList.take o ++ [] ++ cur.toList.drop (o + ([] : List Value).length)).toArray = cur := by simp
      rw [this]; exact setRow_self w g cur t (0, 0) hg
    rw [e]
    cases hq : P.info? elem with
    | none => simp [hq] at hs
    | some i =>
      have hi : i.size = 1 := by simpa [hq] using hs
      cases ao with
      | none => simp [Builtin.copy_, run_underlying hu, Builtin.lenOf, Builtin.firstCells, sizeOf, typeInfo, hq, hi, hz, storeCells]
      | some a =>
        have h0 : (loadCells a 0).run P w = .ok #[] w := run_loadCells_list (P := P) w a [] (by simp)
        simp [Builtin.copy_, run_underlying hu, Builtin.lenOf, Builtin.firstCells, sizeOf, typeInfo, hq, hi, hz, storeCells, h0]
  · exact run_copy_row P w dT sT ty elem g o dLen dCap a sLen sCap cur t cs hu hs hg hn h hfit h1
theorem opT_copy_any {α : Type} {E dT sT : TypeId} {enc : α → Value} {h1 : ∀ a, (enc a).oneCell' = true} {x y : Operand} {v dv u : Value} {xs ys : List α} {lo : Nat} (hT : P.underlying dT = some (.slice E)) (hE : (P.info? E).map (·.size) = some 1)
    (ho : o.op = .call { callee := .builtin .copy, args := #[x, y], argTypes := #[dT, sT] }) (hx : ev x = dv) (hy : ev y = u) (hlo : lo ≤ xs.length) (hd : (dv = v ∧ lo = 0) ∨ dv = subV v lo xs.length 1)
    (hsrc : ∀ w C, St I w0 w (Ch.own (rSlice E (rFlat α enc h1)) [v] xs :: C) → Src w u (ys.map enc)) :
    OpT P I w0 o ev [Ch.own (rSlice E (rFlat α enc h1)) [v] xs] (· = .int .i64 (min ys.length (xs.length - lo) : Nat)) (fun _ => [Ch.own (rSlice E (rFlat α enc h1)) [v] (cpyI xs lo ys)]) := by
  intro w C hs
  obtain ⟨ao, scap, rfl, hc⟩ := hsrc w C hs
  have hk : min ys.length (xs.length - lo) ≤ (ys.map enc).length := by simp; omega
  have hcs := Src.take ⟨ao, scap, rfl, hc⟩ _ hk
  obtain ⟨ao', scap', e0, hcs⟩ := hcs
  obtain ⟨rfl, rfl⟩ : ao = ao' ∧ scap = scap' := by injection e0 with e1 e2 e3; exact ⟨e1, e3⟩
  simp only [execOp, ho, hx, hy, resolve, Sem.run_bind, Sem.run_pure, Result.andThen_ok, invoke, builtin]
  have hargs : (#[x, y] : Array Operand).map ev = #[dv, .slice ao (ys.map enc).length scap] := by simp [hx, hy]
  rw [hargs]
  obtain ⟨hb, hi, F, ⟨G, K, rfl, ⟨hl, e2⟩, e3⟩, h4, h5⟩ := hs
  have hl2 : (cpyI xs lo ys).length = xs.length := by
    simp only [cpyI, List.length_append, List.length_take, List.length_drop]; omega
  rcases e2 with ⟨hv, rfl, rfl⟩ | ⟨g, ofs, cap, cur, K1, hv, k1, k2, k3, k4, rfl, k5⟩
  · -- nothing to write to
    obtain rfl : v = .slice none 0 0 := by simpa using hv
    obtain rfl : lo = 0 := by simpa using hlo
    have hdv : dv = .slice none 0 0 := by
      rcases hd with ⟨rfl, -⟩ | rfl
      · rfl
      · rfl
    subst hdv
    have hr : (Builtin.copy_ #[dT, sT] o.type #[.slice none 0 0, .slice ao (ys.map enc).length scap]).run P w = .ok (goInt 0) w := by
      cases hq : P.info? E with
      | none => simp [hq] at hE
      | some i =>
        have hi : i.size = 1 := by simpa [hq] using hE
        cases ao with
        | none => simp [Builtin.copy_, run_underlying hT, Builtin.lenOf, Builtin.firstCells, sizeOf, typeInfo, hq, hi, storeCells]
        | some a =>
          have h0 : (loadCells a 0).run P w = .ok #[] w := run_loadCells_list (P := P) w a [] (by simp)
          simp [Builtin.copy_, run_underlying hT, Builtin.lenOf, Builtin.firstCells, sizeOf, typeInfo, hq, hi, storeCells, h0]
    rw [hr]
    refine ⟨by simp [goInt], hb, hi, [] ++ K, ⟨[], K, rfl, ⟨?_, .inl ⟨rfl, ?_, rfl⟩⟩, e3⟩, h4, h5⟩
    · simp [cpyI]
    · simp [cpyI]
  · obtain rfl : v = .slice (some ⟨g, ofs, none⟩) xs.length cap := by simpa using hv
    have k4' : ofs + cap ≤ cur.size := by have : ofs + cap * 1 ≤ cur.size := k4; rwa [Nat.mul_one] at this
    obtain ⟨rfl, rest, hcur⟩ := ownEls_flat.1 k5
    have hcurl : (cur.toList.drop ofs).length = cur.size - ofs := by rw [List.length_drop, Array.length_toList]
    have hto : (cur.toList.take ofs).length = ofs := by rw [List.length_take, Array.length_toList]; omega
    have hdv : ∃ o' dCap, dv = .slice (some ⟨g, ofs + o', none⟩) (xs.length - lo) dCap ∧ (o' = lo ∨ (xs.length - lo = 0 ∧ o' ≤ cap)) := by
      rcases hd with ⟨rfl, rfl⟩ | rfl
      · exact ⟨0, cap, rfl, .inl rfl⟩
      · by_cases hcl : cap = lo
        · exact ⟨0, cap - lo, by simp [subV, sliced, hcl], .inr ⟨by omega, by omega⟩⟩
        · exact ⟨lo, cap - lo, by simp [subV, sliced, hcl, Addr.add_mid], .inl rfl⟩
    obtain ⟨o', dCap, rfl, ho'⟩ := hdv
    have hm : ((ys.map enc).take (min ys.length (xs.length - lo))).length = min ys.length (xs.length - lo) := by
      rw [List.length_take, List.length_map]; omega
    have hr := run_copy_any (P := P) (w := w) (dT := dT) (sT := sT) (ty := o.type) (elem := E) (g := g) (o := ofs + o') (dLen := xs.length - lo) (dCap := dCap) (sLen := (ys.map enc).length) (sCap := scap) (ao := ao) (cur := cur) (t := E) (cs := (ys.map enc).take (min ys.length (xs.length - lo))) hT hE k1
      (by rw [hm, List.length_map]) hcs (by rw [hm]; omega) (fun v hv => by
        obtain ⟨a, -, rfl⟩ := List.mem_map.1 (List.mem_of_mem_take hv)
        exact h1 a)
    rw [hr, hm]
    have hcells0 : (cur.toList.drop ofs).take o' ++ (ys.map enc).take (min ys.length (xs.length - lo)) ++ (cur.toList.drop ofs).drop (o' + min ys.length (xs.length - lo)) = (cpyI xs lo ys).map enc ++ rest := by
      by_cases hz : min ys.length (xs.length - lo) = 0
      · rw [hz]
        have e : cpyI xs lo ys = xs := by
          unfold cpyI
          have : ys.take (xs.length - lo) = [] := List.eq_nil_of_length_eq_zero (by rw [List.length_take]; omega)
          rw [this, hz, List.nil_append, Nat.add_zero, List.take_append_drop]
        rw [e, ← hcur, List.take_zero, List.append_nil, Nat.add_zero, List.take_append_drop]
      · have ho : o' = lo := by rcases ho' with h | h <;> omega
        subst ho
        rw [hcur, List.take_append_of_le_length (by rw [List.length_map]; omega), List.drop_append_of_le_length (by rw [List.length_map]; omega)]
        simp only [cpyI, List.map_append, List.map_take, List.map_drop, List.append_assoc]
        congr 1
        congr 1
        rw [List.take_eq_take_iff, List.length_map]; omega
    have hcells : cur.toList.take (ofs + o') ++ (ys.map enc).take (min ys.length (xs.length - lo)) ++ cur.toList.drop (ofs + o' + min ys.length (xs.length - lo)) = cur.toList.take ofs ++ ((cpyI xs lo ys).map enc ++ rest) := by
      rw [← hcells0, List.take_add, Nat.add_assoc, show cur.toList.drop (ofs + (o' + min ys.length (xs.length - lo))) = (cur.toList.drop ofs).drop (o' + min ys.length (xs.length - lo)) from by rw [List.drop_drop]]
      simp only [List.append_assoc]
    rw [hcells]
    have hsz : (cur.toList.take ofs ++ ((cpyI xs lo ys).map enc ++ rest)).length = cur.size := by
      have := congrArg List.length hcur
      rw [List.length_append, List.length_map] at this
      rw [List.length_append, hto, List.length_append, List.length_map, hl2]; omega
    have hst : St I w0 w (Ch.own (rSlice E (rFlat α enc h1)) [.slice (some ⟨g, ofs, none⟩) xs.length cap] xs :: C) := ⟨hb, hi, [g] ++ K, ⟨[g], K, rfl, ⟨hl, .inr ⟨g, ofs, cap, cur, [], rfl, k1, k2, k3, k4, rfl, k5⟩⟩, e3⟩, h4, h5⟩
    have := St.step (w := w) (c := [Ch.own (rSlice E (rFlat α enc h1)) [.slice (some ⟨g, ofs, none⟩) xs.length cap] xs]) (c' := [Ch.own (rSlice E (rFlat α enc h1)) [.slice (some ⟨g, ofs, none⟩) xs.length cap] (cpyI xs lo ys)]) (w' := w.setRow g (cur.toList.take ofs ++ ((cpyI xs lo ys).map enc ++ rest)).toArray) hst rfl rfl rfl (by simp [World.setRow]) (by
      rintro F ⟨G2, K2, rfl, ⟨hl', e2'⟩, rfl⟩ - -
      rcases e2' with ⟨hv', -, -⟩ | ⟨g', ofs', cap', cur', K1', hv', k1', k2', k3', k4', rfl, k5'⟩
      · cases hv'
      obtain ⟨⟨rfl, rfl⟩, rfl⟩ : (g = g' ∧ ofs = ofs') ∧ cap = cap' := by simpa using hv'
      obtain ⟨rfl, -⟩ := ownEls_flat.1 k5'
      refine ⟨fun b hb hn => ?_, [g], ⟨[g], [], rfl, ⟨by rw [hl2]; exact hl, .inr ⟨g, ofs, cap, (cur.toList.take ofs ++ ((cpyI xs lo ys).map enc ++ rest)).toArray, [], by rw [hl2], setRow_heap w g cur _ E _ k1, by rw [hl2]; exact k2, k3, ?_, rfl, ownEls_flat.2 ⟨rfl, rest, List.drop_left' hto⟩⟩⟩, rfl⟩, by simp, by simp⟩
      · have hne : g ≠ b := fun e => hn (by simp [e])
        simp [World.setRow, Array.getElem?_modify, hne]
      · show (cur.toList.take ofs ++ ((cpyI xs lo ys).map enc ++ rest)).toArray.size ≥ ofs + cap * 1
        rw [List.size_toArray, hsz]; exact k4)
    exact ⟨rfl, this⟩
theorem opT_copy_rd {α : Type} {E E' dT sT : TypeId} {enc : α → Value} {h1 : ∀ a, (enc a).oneCell' = true} {x y : Operand} {v dv u : Value} {xs ys : List α} {lo : Nat} (hr : (rSlice E' (rFlat α enc h1)).rd I [u] ys) (hT : P.underlying dT = some (.slice E)) (hE : (P.info? E).map (·.size) = some 1)
    (ho : o.op = .call { callee := .builtin .copy, args := #[x, y], argTypes := #[dT, sT] }) (hx : ev x = dv) (hy : ev y = u) (hlo : lo ≤ xs.length) (hd : (dv = v ∧ lo = 0) ∨ dv = subV v lo xs.length 1) :
    OpT P I w0 o ev [Ch.own (rSlice E (rFlat α enc h1)) [v] xs] (· = .int .i64 (min ys.length (xs.length - lo) : Nat)) (fun _ => [Ch.own (rSlice E (rFlat α enc h1)) [v] (cpyI xs lo ys)]) :=
  opT_copy_any hT hE ho hx hy hlo hd fun w C hs => Src.of_rd hs hr
theorem opT_copy_self {α : Type} {E dT sT : TypeId} {enc : α → Value} {h1 : ∀ a, (enc a).oneCell' = true} {x y : Operand} {v dv : Value} {xs : List α} {lo hi : Nat} (hT : P.underlying dT = some (.slice E)) (hE : (P.info? E).map (·.size) = some 1)
    (ho : o.op = .call { callee := .builtin .copy, args := #[x, y], argTypes := #[dT, sT] }) (hx : ev x = dv) (hy : ev y = subV v 0 hi 1) (hlo : lo ≤ xs.length) (hhi : hi ≤ xs.length) (hd : (dv = v ∧ lo = 0) ∨ dv = subV v lo xs.length 1) :
    OpT P I w0 o ev [Ch.own (rSlice E (rFlat α enc h1)) [v] xs] (· = .int .i64 (min (xs.take hi).length (xs.length - lo) : Nat)) (fun _ => [Ch.own (rSlice E (rFlat α enc h1)) [v] (cpyI xs lo (xs.take hi))]) := by
  refine opT_copy_any hT hE ho hx hy hlo hd fun w C hs => ?_
  obtain ⟨hb, hi', F, ⟨G, K, rfl, ⟨hl, e2⟩, e3⟩, h4, h5⟩ := hs
  rcases e2 with ⟨hv, rfl, rfl⟩ | ⟨g, ofs, cap, cur, K1, hv, k1, k2, k3, k4, rfl, k5⟩
  · obtain rfl : v = .slice none 0 0 := by simpa using hv
    obtain rfl : hi = 0 := by simpa using hhi
    exact ⟨none, 0, rfl, .inl (by simp)⟩
  · obtain rfl : v = .slice (some ⟨g, ofs, none⟩) xs.length cap := by simpa using hv
    obtain ⟨rfl, rest, hcur⟩ := ownEls_flat.1 k5
    have hlen : ((xs.take hi).map enc).length = hi := by rw [List.length_map, List.length_take]; omega
    refine ⟨some ⟨g, ofs, none⟩, cap, by rw [hlen]; simp [subV, sliced, Addr.add_mid], .inr ⟨_, rfl, fun j u hj => ?_⟩⟩
    simp only [Addr.add_mid, World.cell?, k1]
    rw [List.map_take, List.getElem?_take] at hj
    rw [← Array.getElem?_toList, ← List.getElem?_drop, hcur]
    split at hj
    · rw [List.getElem?_append_left (by have := (List.getElem?_eq_some_iff.1 hj).1; exact this)]; exact hj
    · cases hj
section
variable {n : Nat} {a : Act} {L : List (Nat × Value)} {Q : Exit → Act → World → Prop} {ops : Array Oper} {rest : List Oper} {C C0 rn_ : List Ch} {v : Value} {g d : Nat} {want b : Bool} {fact : Value → Prop} {gv : Value → List Ch}
theorem rn {l : List Oper} (ha : Agr n a L) (hs : St I w0 w C) (k : ∀ a w, Agr n a L → St I w0 w C → wpList P ops Q l a w) : wpList P ops Q l a w := k a w ha hs
theorem sv (hop : OpT P I w0 o (evL L) [] (· = v) (fun _ => [])) (hg : o.guard = none) (hk : (knowsAll L o && dstOk n o.dst && noSelect o) = true)
    (k : ∀ a w, Agr n a (putL o.dst v L) → St I w0 w C → wpList P ops Q rest a w) : ∀ a w, Agr n a L → St I w0 w C → wpList P ops Q (o :: rest) a w :=
  fun a w ha hs => seq_op0 ha hs hop hg hk fun u a w e A S => k a w (e ▸ A) S
end
theorem ti_one {T : TypeId} {agg : Bool} (h : TI P T agg 1) : (P.info? T).map (·.size) = some 1 := h.2
end
end Go.Proofs.YtfkjjnddefojjaaGreatDoor.D
