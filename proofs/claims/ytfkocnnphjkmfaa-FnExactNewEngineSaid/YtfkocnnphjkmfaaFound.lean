/- How Go data lies in memory (read-only in a frozen part of the heap, or owned), and assertions on worlds. No program text is named here. -/
import Derived.Test.YtfkocnnphjkmfaaRows
import Derived.WalkKit
import Derived.WalkSpells
import Derived.WalkLawsBesides
import Derived.ProofKit
set_option linter.unusedVariables false
set_option linter.unusedSimpArgs false
set_option linter.unnecessarySimpa false
namespace Go.Proofs.Ytfkocnnphjkmfaa.D
open Go.RowKit

def lim : Nat := 9223372036854775807

/-! ### The frozen part of a heap -/
def Hp := Nat → Option Obj
def Hp.le (I J : Hp) : Prop := ∀ b o, I b = some o → J b = some o
def hp (w : World) : Hp := fun b => w.heap[b]?
theorem Hp.le.rfl {I : Hp} : I.le I := fun _ _ h => h
theorem Hp.le.trans {I J K : Hp} (h : I.le J) (k : J.le K) : I.le K := fun b o e => k b o (h b o e)

/-- How data of the type 'α' lies in cells. 'rd I cs a': the cells cs read as a, by blocks of the frozen part I. 'own I w cs a F': they read as a, through blocks of the function's own, listed in F. -/
structure Rep (α : Type) where
  size : Nat
  rd : Hp → List Value → α → Prop
  own : Hp → World → List Value → α → List Nat → Prop
  rd_len : ∀ {I cs a}, rd I cs a → cs.length = size
  rd_one : ∀ {I cs a}, rd I cs a → ∀ u ∈ cs, u.oneCell' = true
  rd_mono : ∀ {I J cs a}, rd I cs a → I.le J → rd J cs a
  own_len : ∀ {I w cs a F}, own I w cs a F → cs.length = size
  own_one : ∀ {I w cs a F}, own I w cs a F → ∀ u ∈ cs, u.oneCell' = true
  own_mono : ∀ {I J w cs a F}, own I w cs a F → I.le J → own J w cs a F
  own_stay : ∀ {I w w' cs a F}, own I w cs a F → (∀ b, b ∈ F → w'.heap[b]? = w.heap[b]?) → own I w' cs a F
  own_live : ∀ {I w cs a F}, own I w cs a F → ∀ b, b ∈ F → b < w.heap.size
  own_rd : ∀ {I J w cs a F}, own I w cs a F → I.le J → (∀ b, b ∈ F → J b = w.heap[b]?) → rd J cs a

def rFlat (α : Type) (enc : α → Value) (h1 : ∀ a, (enc a).oneCell' = true) : Rep α where
  size := 1
  rd _ cs a := cs = [enc a]
  own _ _ cs a F := F = [] ∧ cs = [enc a]
  rd_len h := by rw [h]; rfl
  rd_one h := by rw [h]; intro u hu; simp at hu; subst hu; exact h1 _
  rd_mono h _ := h
  own_len h := by rw [h.2]; rfl
  own_one h := by rw [h.2]; intro u hu; simp at hu; subst hu; exact h1 _
  own_mono h _ := h
  own_stay h _ := h
  own_live h := by rw [h.1]; intro b hb; cases hb
  own_rd h _ _ := h.2

def rInt : Rep Int := rFlat Int (.int .i64) fun _ => rfl
def rBool : Rep Bool := rFlat Bool .bool fun _ => rfl
def rStr : Rep ByteArray := rFlat ByteArray .string fun _ => rfl

def rProd {α β : Type} (R : Rep α) (S : Rep β) : Rep (α × β) where
  size := R.size + S.size
  rd I cs x := ∃ c d, cs = c ++ d ∧ R.rd I c x.1 ∧ S.rd I d x.2
  own I w cs x F := ∃ c d G K, cs = c ++ d ∧ F = G ++ K ∧ R.own I w c x.1 G ∧ S.own I w d x.2 K
  rd_len := by
    rintro I cs x ⟨c, d, rfl, h1, h2⟩
    rw [List.length_append, R.rd_len h1, S.rd_len h2]
  rd_one := by
    rintro I cs x ⟨c, d, rfl, h1, h2⟩ u hu
    rcases List.mem_append.1 hu with h | h
    · exact R.rd_one h1 u h
    · exact S.rd_one h2 u h
  rd_mono := by
    rintro I J cs x ⟨c, d, rfl, h1, h2⟩ h
    exact ⟨c, d, rfl, R.rd_mono h1 h, S.rd_mono h2 h⟩
  own_len := by
    rintro I w cs x F ⟨c, d, G, K, rfl, rfl, h1, h2⟩
    rw [List.length_append, R.own_len h1, S.own_len h2]
  own_one := by
    rintro I w cs x F ⟨c, d, G, K, rfl, rfl, h1, h2⟩ u hu
    rcases List.mem_append.1 hu with h | h
    · exact R.own_one h1 u h
    · exact S.own_one h2 u h
  own_mono := by
    rintro I J w cs x F ⟨c, d, G, K, rfl, rfl, h1, h2⟩ h
    exact ⟨c, d, G, K, rfl, rfl, R.own_mono h1 h, S.own_mono h2 h⟩
  own_stay := by
    rintro I w w' cs x F ⟨c, d, G, K, rfl, rfl, h1, h2⟩ h
    exact ⟨c, d, G, K, rfl, rfl, R.own_stay h1 fun b hb => h b (List.mem_append_left _ hb), S.own_stay h2 fun b hb => h b (List.mem_append_right _ hb)⟩
  own_live := by
    rintro I w cs x F ⟨c, d, G, K, rfl, rfl, h1, h2⟩ b hb
    rcases List.mem_append.1 hb with h | h
    · exact R.own_live h1 b h
    · exact S.own_live h2 b h
  own_rd := by
    rintro I J w cs x F ⟨c, d, G, K, rfl, rfl, h1, h2⟩ hJ h
    exact ⟨c, d, rfl, R.own_rd h1 hJ fun b hb => h b (List.mem_append_left _ hb), S.own_rd h2 hJ fun b hb => h b (List.mem_append_right _ hb)⟩

/-- Data that is frozen wherever it is held. -/
def rFro {α : Type} (R : Rep α) : Rep α where
  size := R.size
  rd := R.rd
  own I _ cs a F := F = [] ∧ R.rd I cs a
  rd_len := R.rd_len
  rd_one := R.rd_one
  rd_mono := R.rd_mono
  own_len h := R.rd_len h.2
  own_one h := R.rd_one h.2
  own_mono h k := ⟨h.1, R.rd_mono h.2 k⟩
  own_stay h _ := h
  own_live h := by rw [h.1]; intro b hb; cases hb
  own_rd h k _ := R.rd_mono h.2 k

/-- The elements of an owned row, one behind the other. -/
def OwnEls {α : Type} (R : Rep α) (I : Hp) (w : World) : List Value → List α → List Nat → Prop
  | _, [], F => F = []
  | cur, x :: xs, F => ∃ c rest G K, cur = c ++ rest ∧ c.length = R.size ∧ F = G ++ K ∧ R.own I w c x G ∧ OwnEls R I w rest xs K

section
variable {α : Type} {R : Rep α} {I J : Hp}
theorem OwnEls.stay {w w' : World} : ∀ {xs : List α} {cur F}, OwnEls R I w cur xs F → (∀ b, b ∈ F → w'.heap[b]? = w.heap[b]?) → OwnEls R I w' cur xs F
  | [], _, _, h, _ => h
  | x :: xs, cur, F, ⟨c, rest, G, K, h1, h2, h3, h4, h5⟩, h => by
    subst h3
    exact ⟨c, rest, G, K, h1, h2, rfl, R.own_stay h4 fun b hb => h b (List.mem_append_left _ hb), h5.stay fun b hb => h b (List.mem_append_right _ hb)⟩
theorem OwnEls.mono {w : World} : ∀ {xs : List α} {cur F}, OwnEls R I w cur xs F → I.le J → OwnEls R J w cur xs F
  | [], _, _, h, _ => h
  | x :: xs, cur, F, ⟨c, rest, G, K, h1, h2, h3, h4, h5⟩, h => ⟨c, rest, G, K, h1, h2, h3, R.own_mono h4 h, h5.mono h⟩
theorem OwnEls.live {w : World} : ∀ {xs : List α} {cur F}, OwnEls R I w cur xs F → ∀ b, b ∈ F → b < w.heap.size
  | [], _, _, h, b, hb => by rw [show _ = [] from h] at hb; cases hb
  | x :: xs, cur, F, ⟨c, rest, G, K, _, _, h3, h4, h5⟩, b, hb => by
    subst h3
    rcases List.mem_append.1 hb with h | h
    · exact R.own_live h4 b h
    · exact h5.live b h
theorem OwnEls.at {w : World} : ∀ {xs : List α} {cur F}, OwnEls R I w cur xs F → I.le J → (∀ b, b ∈ F → J b = w.heap[b]?) → ∀ (i : Nat) x, xs[i]? = some x → ∃ c : List Value, c.length = R.size ∧ (∀ j, j < R.size → cur[i * R.size + j]? = c[j]?) ∧ R.rd J c x
  | [], _, _, _, _, _, i, x, hx => by simp at hx
  | y :: xs, cur, F, ⟨c, rest, G, K, h1, h2, h3, h4, h5⟩, hJ, hB, i, x, hx => by
    subst h3; subst h1
    match i, hx with
    | 0, hx =>
      simp at hx; subst hx
      exact ⟨c, h2, fun j hj => by rw [Nat.zero_mul, Nat.zero_add, List.getElem?_append_left (by omega)], R.own_rd h4 hJ fun b hb => hB b (List.mem_append_left _ hb)⟩
    | i + 1, hx =>
      obtain ⟨d, e1, e2, e3⟩ := h5.at hJ (fun b hb => hB b (List.mem_append_right _ hb)) i x (by simpa using hx)
      refine ⟨d, e1, fun j hj => ?_, e3⟩
      rw [List.getElem?_append_right (by rw [h2, Nat.add_mul]; omega), h2]
      rw [show (i + 1) * R.size + j - R.size = i * R.size + j from by rw [Nat.add_mul]; omega]
      exact e2 j hj
theorem OwnEls.len {w : World} : ∀ {xs : List α} {cur F}, OwnEls R I w cur xs F → xs.length * R.size ≤ cur.length
  | [], _, _, _ => by simp
  | y :: xs, cur, F, ⟨c, rest, G, K, h1, h2, h3, h4, h5⟩ => by
    subst h1
    have := h5.len
    rw [List.length_append, List.length_cons, Nat.add_mul]; omega
/-- what lies behind the elements does not matter -/
theorem OwnEls.rest {w : World} : ∀ {xs : List α} {cur cur' F}, OwnEls R I w cur xs F → cur'.take (xs.length * R.size) = cur.take (xs.length * R.size) → OwnEls R I w cur' xs F
  | [], _, _, _, h, _ => h
  | y :: xs, cur, cur', F, ⟨c, rest, G, K, h1, h2, h3, h4, h5⟩, h => by
    subst h1
    have hl := h5.len
    rw [List.length_cons, Nat.add_mul, Nat.one_mul, Nat.add_comm] at h
    rw [List.take_append, List.take_of_length_le (l := c) (by omega), h2, Nat.add_sub_cancel_left] at h
    have e0 : cur'.take R.size = c := by
      have := congrArg (List.take R.size) h
      rw [List.take_take, Nat.min_eq_left (by omega), ← h2, List.take_left, h2] at this
      exact this
    refine ⟨c, cur'.drop R.size, G, K, ?_, h2, h3, h4, h5.rest ?_⟩
    · rw [← e0, List.take_append_drop]
    · have := congrArg (List.drop R.size) h
      rw [← h2, List.drop_left, List.drop_take, h2] at this
      rw [← this]; congr 1; omega
theorem OwnEls.join {w : World} : ∀ {xs ys : List α} {cur rest F G}, OwnEls R I w cur xs F → cur.length = xs.length * R.size → OwnEls R I w rest ys G → OwnEls R I w (cur ++ rest) (xs ++ ys) (F ++ G)
  | [], ys, cur, rest, F, G, h, hl, k => by
    have : cur = [] := List.eq_nil_of_length_eq_zero (by simpa using hl)
    subst this
    rw [show F = [] from h]
    exact k
  | x :: xs, ys, cur, rest, F, G, ⟨c, r, G1, K, h1, h2, h3, h4, h5⟩, hl, k => by
    subst h1; subst h3
    refine ⟨c, r ++ rest, G1, K ++ G, by simp, h2, by simp, h4, h5.join ?_ k⟩
    rw [List.length_append, List.length_cons, Nat.add_mul] at hl; omega
theorem OwnEls.snoc {w : World} {xs : List α} {cur F} {x : α} {c : List Value} {G : List Nat} (h : OwnEls R I w cur xs F) (hl : cur.length = xs.length * R.size) (hx : R.own I w c x G) : OwnEls R I w (cur ++ c) (xs ++ [x]) (F ++ G) :=
  h.join hl ⟨c, [], G, [], by simp, R.own_len hx, by simp, hx, rfl⟩
theorem OwnEls.parts {w : World} : ∀ {xs ys : List α} {cur F}, OwnEls R I w cur (xs ++ ys) F → ∃ G K, F = G ++ K ∧ OwnEls R I w cur xs G ∧ OwnEls R I w (cur.drop (xs.length * R.size)) ys K
  | [], ys, cur, F, h => ⟨[], F, rfl, rfl, by simpa using h⟩
  | x :: xs, ys, cur, F, ⟨c, r, G1, K, h1, h2, h3, h4, h5⟩ => by
    obtain ⟨G, K', e1, e2, e3⟩ := h5.parts
    subst h1; subst h3; subst e1
    refine ⟨G1 ++ G, K', by simp, ⟨c, r, G1, G, rfl, h2, rfl, h4, e2⟩, ?_⟩
    rw [List.length_cons, Nat.add_mul, Nat.one_mul, Nat.add_comm, List.drop_append, List.drop_of_length_le (by omega), h2, Nat.add_sub_cancel_left]
    simpa using e3
end

/-- A slice. -/
def rSlice {α : Type} (E : TypeId) (R : Rep α) : Rep (List α) where
  size := 1
  rd I cs xs := ∃ ao cap, cs = [.slice ao xs.length cap] ∧ (xs.length ≤ lim ∧ xs.length ≤ cap) ∧ (xs = [] ∨ ∃ b off ccs t fr, ao = some ⟨b, off, none⟩ ∧ I b = some (.cells ccs t fr) ∧
    ∀ i x, xs[i]? = some x → ∃ c : List Value, c.length = R.size ∧ (∀ j, j < R.size → ccs.toList[off + i * R.size + j]? = c[j]?) ∧ R.rd I c x)
  own I w cs xs F := xs.length ≤ lim ∧ ((cs = [.slice none 0 0] ∧ xs = [] ∧ F = []) ∨
    ∃ g cap cur K, cs = [.slice (some ⟨g, 0, none⟩) xs.length cap] ∧ w.heap[g]? = some (.cells cur E (0, 0)) ∧ xs.length ≤ cap ∧ cap ≤ maxLen ∧ cur.size = cap * R.size ∧ F = g :: K ∧ OwnEls R I w cur.toList xs K)
  rd_len := by rintro I cs xs ⟨ao, cap, rfl, _⟩; rfl
  rd_one := by rintro I cs xs ⟨ao, cap, rfl, _⟩ u hu; simp at hu; subst hu; rfl
  rd_mono := by
    rintro I J cs xs ⟨ao, cap, rfl, hl, h⟩ hJ
    refine ⟨ao, cap, rfl, hl, ?_⟩
    rcases h with h | ⟨b, off, ccs, t, fr, h1, h2, h4⟩
    · exact .inl h
    · exact .inr ⟨b, off, ccs, t, fr, h1, hJ _ _ h2, fun i x hx => let ⟨c, e1, e2, e3⟩ := h4 i x hx; ⟨c, e1, e2, R.rd_mono e3 hJ⟩⟩
  own_len := by
    rintro I w cs xs F ⟨hl, h⟩
    rcases h with ⟨rfl, _⟩ | ⟨g, cap, cur, K, rfl, _⟩ <;> rfl
  own_one := by
    rintro I w cs xs F ⟨hl, h⟩ u hu
    rcases h with ⟨rfl, _⟩ | ⟨g, cap, cur, K, rfl, _⟩ <;> (simp at hu; subst hu; rfl)
  own_mono := by
    rintro I J w cs xs F ⟨hl, h⟩ hJ
    refine ⟨hl, ?_⟩
    rcases h with h | ⟨g, cap, cur, K, h1, h2, h3, h4, h5, h6, h7⟩
    · exact .inl h
    · exact .inr ⟨g, cap, cur, K, h1, h2, h3, h4, h5, h6, h7.mono hJ⟩
  own_stay := by
    rintro I w w' cs xs F ⟨hl, h⟩ hw
    refine ⟨hl, ?_⟩
    rcases h with h | ⟨g, cap, cur, K, h1, h2, h3, h4, h5, rfl, h6⟩
    · exact .inl h
    · exact .inr ⟨g, cap, cur, K, h1, by rw [hw g (by simp)]; exact h2, h3, h4, h5, rfl, h6.stay fun b hb => hw b (by simp [hb])⟩
  own_live := by
    rintro I w cs xs F ⟨hl, h⟩ b hb
    rcases h with ⟨_, _, rfl⟩ | ⟨g, cap, cur, K, h1, h2, h3, h4, h5, rfl, h6⟩
    · cases hb
    · rcases List.mem_cons.1 hb with rfl | hb
      · exact (Array.getElem?_eq_some_iff.1 h2).1
      · exact h6.live b hb
  own_rd := by
    rintro I J w cs xs F ⟨hl, h⟩ hJ hB
    rcases h with ⟨rfl, rfl, rfl⟩ | ⟨g, cap, cur, K, rfl, h2, h3, h4, h5, rfl, h6⟩
    · exact ⟨none, 0, rfl, by simp, .inl rfl⟩
    · refine ⟨some ⟨g, 0, none⟩, cap, rfl, ⟨hl, h3⟩, .inr ⟨g, 0, cur, E, (0, 0), rfl, by rw [hB g (by simp)]; exact h2, fun i x hx => ?_⟩⟩
      obtain ⟨c, e1, e2, e3⟩ := h6.at hJ (fun b hb => hB b (by simp [hb])) i x hx
      exact ⟨c, e1, fun j hj => by rw [Nat.zero_add]; exact e2 j hj, e3⟩

/-! ### Assertions -/
structure Ch where
  holds : Hp → World → List Nat → Prop
  mono : ∀ {I J w F}, holds I w F → I.le J → holds J w F
  stay : ∀ {I w w' F}, holds I w F → (∀ b, b ∈ F → w'.heap[b]? = w.heap[b]?) → holds I w' F
  live : ∀ {I w F}, holds I w F → ∀ b, b ∈ F → b < w.heap.size

/-- Owned data. -/
def Ch.own {α : Type} (R : Rep α) (cs : List Value) (a : α) : Ch := ⟨fun I w F => R.own I w cs a F, fun h => R.own_mono h, fun h => R.own_stay h, fun h => R.own_live h⟩
/-- A block known whole. -/
def Ch.blk (g : Nat) (cs : List Value) (E : TypeId) : Ch :=
  ⟨fun _ w F => F = [g] ∧ w.heap[g]? = some (.cells cs.toArray E (0, 0)), fun h _ => h, fun h hw => ⟨h.1, by rw [hw g (by rw [h.1]; simp)]; exact h.2⟩, fun h b hb => by rw [h.1] at hb; simp at hb; subst hb; exact (Array.getElem?_eq_some_iff.1 h.2).1⟩

def Sep (I : Hp) : List Ch → World → List Nat → Prop
  | [], _, F => F = []
  | c :: cs, w, F => ∃ G K, F = G ++ K ∧ c.holds I w G ∧ Sep I cs w K

section
variable {I J : Hp}
theorem Sep.stay {w w' : World} : ∀ {cs F}, Sep I cs w F → (∀ b, b ∈ F → w'.heap[b]? = w.heap[b]?) → Sep I cs w' F
  | [], _, h, _ => h
  | c :: cs, F, ⟨G, K, h1, h2, h3⟩, h => by
    subst h1
    exact ⟨G, K, rfl, c.stay h2 fun b hb => h b (List.mem_append_left _ hb), h3.stay fun b hb => h b (List.mem_append_right _ hb)⟩
theorem Sep.mono {w : World} : ∀ {cs F}, Sep I cs w F → I.le J → Sep J cs w F
  | [], _, h, _ => h
  | c :: cs, F, ⟨G, K, h1, h2, h3⟩, h => ⟨G, K, h1, c.mono h2 h, h3.mono h⟩
theorem Sep.live {w : World} : ∀ {cs F}, Sep I cs w F → ∀ b, b ∈ F → b < w.heap.size
  | [], _, h, b, hb => by rw [show _ = [] from h] at hb; cases hb
  | c :: cs, F, ⟨G, K, h1, h2, h3⟩, b, hb => by
    subst h1
    rcases List.mem_append.1 hb with h | h
    · exact c.live h2 b h
    · exact h3.live b h
theorem Sep.append {w : World} : ∀ {cs ds F G}, Sep I cs w F → Sep I ds w G → Sep I (cs ++ ds) w (F ++ G)
  | [], ds, F, G, h, k => by rw [show F = [] from h]; exact k
  | c :: cs, ds, F, G, ⟨G1, K, h1, h2, h3⟩, k => by
    subst h1
    exact ⟨G1, K ++ G, by simp, h2, h3.append k⟩
theorem Sep.split {w : World} : ∀ {cs ds F}, Sep I (cs ++ ds) w F → ∃ G K, F = G ++ K ∧ Sep I cs w G ∧ Sep I ds w K
  | [], ds, F, h => ⟨[], F, rfl, rfl, h⟩
  | c :: cs, ds, F, ⟨G, K, h1, h2, h3⟩ => by
    obtain ⟨G', K', e1, e2, e3⟩ := Sep.split h3
    subst e1; subst h1
    exact ⟨G ++ G', K', by simp, ⟨G, G', rfl, h2, e2⟩, e3⟩
theorem Sep.perm {w : World} {cs ds : List Ch} (h : cs.Perm ds) : ∀ {F}, Sep I cs w F → ∃ G, G.Perm F ∧ Sep I ds w G := by
  induction h with
  | nil => intro F h; exact ⟨F, .refl _, h⟩
  | cons c _ ih =>
    rintro F ⟨G, K, rfl, h2, h3⟩
    obtain ⟨K', e1, e2⟩ := ih h3
    exact ⟨G ++ K', e1.append_left G, G, K', rfl, h2, e2⟩
  | swap a b l =>
    rintro F ⟨G, K, rfl, h2, ⟨G', K', rfl, h4, h5⟩⟩
    exact ⟨G' ++ (G ++ K'), List.perm_append_comm_assoc _ _ _, G', G ++ K', rfl, h4, G, K', rfl, h2, h5⟩
  | trans _ _ ih1 ih2 =>
    intro F h
    obtain ⟨G, e1, e2⟩ := ih1 h
    obtain ⟨K, f1, f2⟩ := ih2 e2
    exact ⟨K, f1.trans e1, f2⟩
end

/-- The frozen part stands as it was; the chunks hold, each in blocks of its own. -/
def St (I : Hp) (w0 w : World) (cs : List Ch) : Prop :=
  (w.os = w0.os ∧ w.tape = w0.tape ∧ w.output = w0.output ∧ w0.heap.size ≤ w.heap.size) ∧ I.le (hp w) ∧ ∃ F, Sep I cs w F ∧ F.Nodup ∧ ∀ b, b ∈ F → I b = none

section
variable {I J : Hp} {w0 w w' : World} {cs ds : List Ch}
theorem St.init (w : World) : St (hp w) w w [] := ⟨⟨rfl, rfl, rfl, Nat.le_refl _⟩, .rfl, [], rfl, List.nodup_nil, by simp⟩
theorem St.perm (h : St I w0 w cs) (hp : cs.Perm ds) : St I w0 w ds := by
  obtain ⟨hb, hi, F, h1, h2, h3⟩ := h
  obtain ⟨G, e1, e2⟩ := h1.perm hp
  exact ⟨hb, hi, G, e2, e1.nodup_iff.2 h2, fun b hb' => h3 b (e1.mem_iff.1 hb')⟩
theorem perm_front {α : Type} {l : List α} {c : α} : ∀ {i : Nat}, l[i]? = some c → l.Perm (c :: l.eraseIdx i) := by
  induction l with
  | nil => intro i h; simp at h
  | cons x l ih =>
    intro i h
    cases i with
    | zero => simp at h; subst h; exact .refl _
    | succ i => exact ((ih (by simpa using h)).cons x).trans (.swap _ _ _)
theorem St.front (h : St I w0 w cs) {c : Ch} (i : Nat) (hi : cs[i]? = some c) : St I w0 w (c :: cs.eraseIdx i) := h.perm (perm_front hi)
theorem St.tail {c : Ch} (h : St I w0 w (c :: cs)) : St I w0 w cs := by
  obtain ⟨hb, hi, F, ⟨G, K, rfl, e2, e3⟩, h2, h3⟩ := h
  exact ⟨hb, hi, K, e3, (List.nodup_append.1 h2).2.1, fun b hb' => h3 b (List.mem_append_right _ hb')⟩
theorem St.left (h : St I w0 w (cs ++ ds)) : St I w0 w cs := by
  obtain ⟨hb, hi, F, h1, h2, h3⟩ := h
  obtain ⟨G, K, rfl, e2, e3⟩ := h1.split
  exact ⟨hb, hi, G, e2, (List.nodup_append.1 h2).1, fun b hb' => h3 b (List.mem_append_left _ hb')⟩
theorem St.right (h : St I w0 w (cs ++ ds)) : St I w0 w ds := (h.perm List.perm_append_comm).left
theorem filterMap_range {β : Type} (cs : List β) : (List.range cs.length).filterMap (cs[·]?) = cs := by
  induction cs with
  | nil => rfl
  | cons c cs ih =>
    rw [List.length_cons, List.range_succ_eq_map, List.filterMap_cons, List.filterMap_map]
    simpa [Function.comp_def] using ih
/-- Reorder and drop: the chunks at the places l. -/
theorem St.sel (h : St I w0 w cs) (n : Nat) (l : List Nat) (hn : cs.length = n) (hl : (l ++ (List.range n).filter fun i => !l.contains i).isPerm (List.range n) = true) : St I w0 w (l.filterMap (cs[·]?)) := by
  subst hn
  have hp := ((List.isPerm_iff.1 hl).filterMap (cs[·]?))
  rw [filterMap_range, List.filterMap_append] at hp
  exact (h.perm hp.symm).left
theorem St.drop (h : St I w0 w cs) : St I w0 w [] := ⟨h.1, h.2.1, [], rfl, List.nodup_nil, by simp⟩
/-- The first chunk changes; whatever else there is stays. -/
theorem St.step {c : List Ch} {c' : List Ch} (h : St I w0 w (c ++ cs)) (ho : w'.os = w.os) (ht : w'.tape = w.tape) (hu : w'.output = w.output) (hz : w.heap.size ≤ w'.heap.size)
    (hs : ∀ F, Sep I c w F → F.Nodup → (∀ b, b ∈ F → I b = none) → (∀ b, b < w.heap.size → b ∉ F → w'.heap[b]? = w.heap[b]?) ∧ ∃ F', Sep I c' w' F' ∧ F'.Nodup ∧ ∀ b, b ∈ F' → b ∈ F ∨ w.heap.size ≤ b) : St I w0 w' (c' ++ cs) := by
  obtain ⟨⟨b1, b2, b3, b4⟩, hi, F, h1, h2, h3⟩ := h
  obtain ⟨G, K, rfl, e2, e3⟩ := h1.split
  obtain ⟨n1, n2, n3⟩ := List.nodup_append.1 h2
  obtain ⟨k1, G', k2, k3, k4⟩ := hs G e2 n1 fun b hb => h3 b (List.mem_append_left _ hb)
  have hK : ∀ b, b ∈ K → w'.heap[b]? = w.heap[b]? := fun b hb' => k1 b (e3.live b hb') fun hg => n3 b hg b hb' rfl
  have hlt : ∀ b o, I b = some o → b < w.heap.size := fun b o hb => (Array.getElem?_eq_some_iff.1 (hi b o hb)).1
  refine ⟨⟨ho.trans b1, ht.trans b2, hu.trans b3, Nat.le_trans b4 hz⟩, fun b o hb => ?_, G' ++ K, k2.append (e3.stay hK), List.nodup_append.2 ⟨k3, n2, ?_⟩, ?_⟩
  · show w'.heap[b]? = some o
    rw [k1 b (hlt b o hb) fun hg => by rw [h3 b (List.mem_append_left _ hg)] at hb; cases hb]
    exact hi b o hb
  · rintro b hb1 c hb2 rfl
    rcases k4 b hb1 with h | h
    · exact n3 b h b hb2 rfl
    · have := e3.live b hb2; omega
  · intro b hb'
    rcases List.mem_append.1 hb' with h | h
    · rcases k4 b h with h | h
      · exact h3 b (List.mem_append_left _ h)
      · cases hI : I b with
        | none => rfl
        | some o => have := hlt b o hI; omega
    · exact h3 b (List.mem_append_right _ h)
theorem St.drawn (h : St I w0 w cs) (ho : w'.os = w.os) (ht : w'.tape = w.tape) (hu : w'.output = w.output) (hz : w'.heap = w.heap) : St I w0 w' cs := by
  refine St.step (w := w) (c := []) (c' := []) h ho ht hu (by rw [hz]; exact Nat.le_refl _) ?_
  rintro F rfl - -
  exact ⟨fun b hb _ => by rw [hz], [], rfl, List.nodup_nil, by simp⟩
theorem St.drew (h : St I w0 w cs) : St I w0 w.drew cs := h.drawn rfl rfl rfl rfl
theorem St.rd_world {α : Type} {R : Rep α} {v : List Value} {a : α} (h : St I w0 w cs) (hx : R.rd I v a) : R.rd (hp w) v a := R.rd_mono hx h.2.1
/-- A list of chunks as one, held against a frozen part of its own. -/
def Ch.fr (I : Hp) (cs : List Ch) : Ch := ⟨fun _ w F => Sep I cs w F, fun h _ => h, fun h => h.stay, fun h => h.live⟩
/-- A chunk that leans on no frozen part. -/
def Ch.deep (c : Ch) : Prop := ∀ {I J w F}, c.holds J w F → c.holds I w F
def Ch.deeps : List Ch → Prop
  | [] => True
  | c :: cs => c.deep ∧ Ch.deeps cs
theorem Sep.deeps {w : World} : ∀ {cs F}, Ch.deeps cs → Sep J cs w F → Sep I cs w F
  | [], _, _, h => h
  | c :: cs, F, hd, ⟨G, K, h1, h2, h3⟩ => ⟨G, K, h1, hd.1 h2, h3.deeps hd.2⟩
theorem St.fr (h : St I w0 w cs) : St I w0 w [Ch.fr I cs] := by
  obtain ⟨hb, hi, F, h1, h2, h3⟩ := h
  exact ⟨hb, hi, F, ⟨F, [], by simp, h1, rfl⟩, h2, h3⟩
theorem St.fr_back (hIJ : I.le J) (hd : Ch.deeps ds) (h : St J w0 w (ds ++ [Ch.fr I cs])) : St I w0 w (ds ++ cs) := by
  obtain ⟨hb, hi, F, h1, h2, h3⟩ := h
  obtain ⟨G, K, rfl, e1, K', L, rfl, e2, rfl⟩ := h1.split
  refine ⟨hb, hIJ.trans hi, G ++ K', (e1.deeps hd).append e2, by simpa using h2, fun b hb' => ?_⟩
  have := h3 b (by simpa using hb')
  cases hI : I b with
  | none => rfl
  | some o => rw [hIJ b o hI] at this; cases this
/-- What is owned, lent out: frozen for a while. -/
theorem St.lend {ls : List Ch} (h : St I w0 w (ls ++ cs)) : ∃ J, I.le J ∧ (∀ {α : Type} (R : Rep α) (v : List Value) (a : α), Ch.own R v a ∈ ls → R.rd J v a) ∧ (∀ g l E, Ch.blk g l E ∈ ls → J g = some (.cells l.toArray E (0, 0))) ∧ St J w0 w [Ch.fr I cs] ∧
    ∀ w' ds, Ch.deeps ds → St J w0 w' (ds ++ [Ch.fr I cs]) → St I w0 w' (ds ++ (ls ++ cs)) := by
  obtain ⟨hb, hi, F, h1, h2, h3⟩ := h
  obtain ⟨G, K, rfl, e2, e3⟩ := h1.split
  obtain ⟨n1, n2, n3⟩ := List.nodup_append.1 h2
  let J : Hp := fun b => if b ∈ G then w.heap[b]? else I b
  have hIJ : I.le J := fun b o hb' => by
    show (if b ∈ G then w.heap[b]? else I b) = some o
    split
    · exact hi b o hb'
    · exact hb'
  have hJG : ∀ b, b ∈ G → J b = w.heap[b]? := fun b hb' => if_pos hb'
  have hJn : ∀ b, b ∉ G → J b = I b := fun b hb' => if_neg hb'
  have hmem : ∀ {ls : List Ch} {G : List Nat} {c : Ch}, Sep I ls w G → c ∈ ls → ∃ G', (∀ b, b ∈ G' → b ∈ G) ∧ c.holds I w G' := by
    intro ls
    induction ls with
    | nil => intro G c _ hc; cases hc
    | cons d ls ih =>
      rintro G c ⟨G1, K1, rfl, e, e'⟩ hc
      rcases List.mem_cons.1 hc with rfl | hc
      · exact ⟨G1, fun b hb => List.mem_append_left _ hb, e⟩
      · obtain ⟨G', f1, f2⟩ := ih e' hc
        exact ⟨G', fun b hb => List.mem_append_right _ (f1 b hb), f2⟩
  refine ⟨J, hIJ, fun R v a hm => ?_, fun g l E hm => ?_, ⟨hb, fun b o hb' => ?_, K, ⟨K, [], by simp, e3, rfl⟩, n2, fun b hb' => ?_⟩, ?_⟩
  · obtain ⟨G', f1, f2⟩ := hmem e2 hm
    exact R.own_rd f2 hIJ fun b hb => hJG b (f1 b hb)
  · obtain ⟨G', f1, f2, f3⟩ := hmem e2 hm
    subst f2
    rw [hJG g (f1 g (by simp))]; exact f3
  · by_cases hg : b ∈ G
    · rw [hJG b hg] at hb'; exact hb'
    · rw [hJn b hg] at hb'; exact hi b o hb'
  · rw [hJn b fun hg => n3 b hg b hb' rfl]; exact h3 b (List.mem_append_right _ hb')
  · rintro w' ds hd ⟨kb, ki, F', k1, k2, k3⟩
    obtain ⟨F1, F2, rfl, q1, F3, F4, rfl, q4, rfl⟩ := k1.split
    have hl2 := e2.live
    have hlv : ∀ b, b ∈ G → w'.heap[b]? = w.heap[b]? := fun b hg => by
      obtain ⟨o, ho⟩ : ∃ o, w.heap[b]? = some o := ⟨_, Array.getElem?_eq_getElem (hl2 b hg)⟩
      rw [ho]
      exact ki b o (by rw [hJG b hg]; exact ho)
    have hgd : ∀ b, b ∈ G → b ∉ F1 ++ (F3 ++ []) := fun b hg hf => by
      have := k3 b hf
      rw [hJG b hg, Array.getElem?_eq_getElem (hl2 b hg)] at this
      cases this
    rw [List.append_nil] at k2 k3 hgd
    refine ⟨kb, hIJ.trans ki, F1 ++ (G ++ F3), (q1.deeps hd).append ((e2.stay hlv).append q4), ?_, fun b hb' => ?_⟩
    · have hp : (F1 ++ (G ++ F3)).Perm (G ++ (F1 ++ F3)) := List.perm_append_comm_assoc _ _ _
      exact hp.nodup_iff.2 (List.nodup_append.2 ⟨n1, k2, fun b hb1 c hb2 hbc => hgd b hb1 (hbc ▸ hb2)⟩)
    · have hb'' : b ∈ G ∨ b ∈ F1 ++ F3 := by simp at hb' ⊢; rcases hb' with h | h | h <;> simp [h]
      rcases hb'' with h | h
      · exact h3 b (List.mem_append_left _ h)
      · have := k3 b h
        rw [hJn b fun hg => hgd b hg h] at this
        exact this
/-- What is owned, frozen for good. -/
theorem St.freeze {α : Type} {R : Rep α} {v : List Value} {a : α} (h : St I w0 w (Ch.own R v a :: cs)) : ∃ J, I.le J ∧ R.rd J v a ∧ St J w0 w cs := by
  obtain ⟨hb, hi, F, ⟨G, K, rfl, e2, e3⟩, h2, h3⟩ := h
  obtain ⟨n1, n2, n3⟩ := List.nodup_append.1 h2
  refine ⟨fun b => if b ∈ G then w.heap[b]? else I b, fun b o hb' => ?_, R.own_rd e2 (fun b o hb' => ?_) fun b hb' => if_pos hb', hb, fun b o hb' => ?_, K, e3.mono fun b o hb' => ?_, n2, fun b hb' => ?_⟩
  · show (if b ∈ G then w.heap[b]? else I b) = some o
    split
    · exact hi b o hb'
    · exact hb'
  · show (if b ∈ G then w.heap[b]? else I b) = some o
    split
    · exact hi b o hb'
    · exact hb'
  · have hb'' : (if b ∈ G then w.heap[b]? else I b) = some o := hb'
    split at hb''
    · exact hb''
    · exact hi b o hb''
  · show (if b ∈ G then w.heap[b]? else I b) = some o
    split
    · exact hi b o hb'
    · exact hb'
  · show (if b ∈ G then w.heap[b]? else I b) = none
    rw [if_neg fun hg => n3 b hg b hb' rfl]; exact h3 b (List.mem_append_right _ hb')
theorem St.freeze_blk {g : Nat} {l : List Value} {E : TypeId} (h : St I w0 w (Ch.blk g l E :: cs)) : ∃ J, I.le J ∧ J g = some (.cells l.toArray E (0, 0)) ∧ St J w0 w cs := by
  obtain ⟨hb, hi, F, ⟨G, K, rfl, ⟨rfl, e2⟩, e3⟩, h2, h3⟩ := h
  obtain ⟨n1, n2, n3⟩ := List.nodup_append.1 h2
  refine ⟨fun b => if b ∈ [g] then w.heap[b]? else I b, fun b o hb' => ?_, (if_pos (by simp)).trans e2, hb, fun b o hb' => ?_, K, e3.mono fun b o hb' => ?_, n2, fun b hb' => ?_⟩
  · show (if b ∈ [g] then w.heap[b]? else I b) = some o
    split
    · exact hi b o hb'
    · exact hb'
  · have hb'' : (if b ∈ [g] then w.heap[b]? else I b) = some o := hb'
    split at hb''
    · exact hb''
    · exact hi b o hb''
  · show (if b ∈ [g] then w.heap[b]? else I b) = some o
    split
    · exact hi b o hb'
    · exact hb'
  · show (if b ∈ [g] then w.heap[b]? else I b) = none
    rw [if_neg fun hg => n3 b hg b hb' rfl]; exact h3 b (List.mem_append_right _ hb')
theorem St.heap (h : St I w0 w cs) {g : Nat} {l : List Value} {E : TypeId} (i : Nat) (hi : cs[i]? = some (Ch.blk g l E)) : w.heap[g]? = some (.cells l.toArray E (0, 0)) := by
  obtain ⟨hb, _, F, ⟨G, K, e1, e2, e3⟩, h2, h3⟩ := h.front i hi
  exact e2.2
theorem St.alloc (h : St I w0 w cs) (l : List Value) (E : TypeId) : St I w0 (w.alloc (.cells l.toArray E)) (Ch.blk w.heap.size l E :: cs) := by
  refine St.step (w := w) (c := []) (c' := [Ch.blk w.heap.size l E]) (w' := w.alloc (.cells l.toArray E)) h rfl rfl rfl (by simp) ?_
  rintro F rfl - -
  refine ⟨fun b hb _ => ?_, [w.heap.size], ⟨[w.heap.size], [], rfl, ⟨rfl, heap_alloc_new w _⟩, rfl⟩, by simp, by simp⟩
  show (w.heap.push _)[b]? = _
  rw [Array.getElem?_push_lt hb, Array.getElem?_eq_getElem hb]
theorem heap_setCell_at {w : World} {g o : Nat} {v : Value} {cur : Array Value} {E : TypeId} {fr : Nat × Nat} (h : w.heap[g]? = some (.cells cur E fr)) : (w.setCell ⟨g, o, none⟩ v).heap[g]? = some (.cells (cur.setIfInBounds o v) E fr) := by
  simp [World.setCell, Array.getElem?_modify, h]
theorem St.set {g : Nat} {l : List Value} {E : TypeId} (h : St I w0 w (Ch.blk g l E :: cs)) (j : Nat) (v : Value) : St I w0 (w.setCell ⟨g, j, none⟩ v) (Ch.blk g (l.set j v) E :: cs) := by
  refine St.step (c := [Ch.blk g l E]) (c' := [Ch.blk g (l.set j v) E]) (w' := w.setCell ⟨g, j, none⟩ v) h rfl rfl rfl (by simp) ?_
  rintro F ⟨G, K, rfl, ⟨rfl, h2⟩, rfl⟩ - -
  refine ⟨fun b hb hn => Below.heap_setCell _ _ _ _ (by simpa using hn), [g], ⟨[g], [], rfl, ⟨rfl, ?_⟩, rfl⟩, by simp, by simp⟩
  rw [heap_setCell_at h2]; simp
end
end Go.Proofs.Ytfkocnnphjkmfaa.D
