/- The representation of Go data in memory (read-only and owned), a small separation logic over worlds, and the laws of the operations on slices in its terms. No program text is named here. -/
import Derived.Test.YtokiommgielfjaaRows
import Derived.WalkKit
import Derived.WalkSpells
import Derived.WalkLawsBesides
import Derived.ProofKit
set_option linter.unusedVariables false
set_option linter.unusedSimpArgs false
namespace Go.Proofs.Ytokiommgielfjaa
open Go.RowKit

theorem hid {p : Prop} (h : p) : Hid p := h

/-! ### Data -/
def I64 (n : Int) : Prop := -9223372036854775808 ≤ n ∧ n ≤ 9223372036854775807
def lim : Nat := 9223372036854775807

/-- How data of the type 'α' lies in cells. 'rd B w cs a': the cells cs read as a, by blocks below B. 'own w cs a F': they read as a, through blocks that are whole rows, unfrozen, listed in F. -/
structure Rep (α : Type) where
  size : Nat
  rd : Nat → World → List Value → α → Prop
  own : World → List Value → α → List Nat → Prop
  rd_len : ∀ {B w cs a}, rd B w cs a → cs.length = size
  rd_one : ∀ {B w cs a}, rd B w cs a → ∀ u ∈ cs, u.oneCell' = true
  rd_stay : ∀ {B w w' cs a}, rd B w cs a → (∀ b, b < B → w'.heap[b]? = w.heap[b]?) → rd B w' cs a
  rd_mono : ∀ {B B' w cs a}, rd B w cs a → B ≤ B' → rd B' w cs a
  own_stay : ∀ {w w' cs a F}, own w cs a F → (∀ b, b ∈ F → w'.heap[b]? = w.heap[b]?) → own w' cs a F
  own_live : ∀ {w cs a F}, own w cs a F → ∀ b, b ∈ F → b < w.heap.size
  own_rd : ∀ {w cs a F B}, own w cs a F → (∀ b, b ∈ F → b < B) → rd B w cs a

def rFlat (α : Type) (enc : α → Value) (ok : α → Prop) (h1 : ∀ a, (enc a).oneCell' = true) : Rep α where
  size := 1
  rd _ _ cs a := cs = [enc a] ∧ ok a
  own _ cs a F := F = [] ∧ cs = [enc a] ∧ ok a
  rd_len h := by rw [h.1]; rfl
  rd_one h := by rw [h.1]; intro u hu; simp at hu; subst hu; exact h1 _
  rd_stay h _ := h
  rd_mono h _ := h
  own_stay h _ := h
  own_live h := by rw [h.1]; intro b hb; cases hb
  own_rd h _ := h.2

def rInt : Rep Int := rFlat Int (.int .i64) I64 fun _ => rfl
def rBool : Rep Bool := rFlat Bool .bool (fun _ => True) fun _ => rfl
def rStr : Rep ByteArray := rFlat ByteArray .string (fun s => s.size ≤ lim) fun _ => rfl

def rProd {α β : Type} (R : Rep α) (S : Rep β) : Rep (α × β) where
  size := R.size + S.size
  rd B w cs x := ∃ c d, cs = c ++ d ∧ R.rd B w c x.1 ∧ S.rd B w d x.2
  own w cs x F := ∃ c d G K, cs = c ++ d ∧ F = G ++ K ∧ R.own w c x.1 G ∧ S.own w d x.2 K
  rd_len := by
    rintro B w cs x ⟨c, d, rfl, h1, h2⟩
    rw [List.length_append, R.rd_len h1, S.rd_len h2]
  rd_one := by
    rintro B w cs x ⟨c, d, rfl, h1, h2⟩ u hu
    rcases List.mem_append.1 hu with h | h
    · exact R.rd_one h1 u h
    · exact S.rd_one h2 u h
  rd_stay := by
    rintro B w w' cs x ⟨c, d, rfl, h1, h2⟩ h
    exact ⟨c, d, rfl, R.rd_stay h1 h, S.rd_stay h2 h⟩
  rd_mono := by
    rintro B B' w cs x ⟨c, d, rfl, h1, h2⟩ h
    exact ⟨c, d, rfl, R.rd_mono h1 h, S.rd_mono h2 h⟩
  own_stay := by
    rintro w w' cs x F ⟨c, d, G, K, rfl, rfl, h1, h2⟩ h
    exact ⟨c, d, G, K, rfl, rfl, R.own_stay h1 fun b hb => h b (List.mem_append_left _ hb), S.own_stay h2 fun b hb => h b (List.mem_append_right _ hb)⟩
  own_live := by
    rintro w cs x F ⟨c, d, G, K, rfl, rfl, h1, h2⟩ b hb
    rcases List.mem_append.1 hb with h | h
    · exact R.own_live h1 b h
    · exact S.own_live h2 b h
  own_rd := by
    rintro w cs x F B ⟨c, d, G, K, rfl, rfl, h1, h2⟩ h
    exact ⟨c, d, rfl, R.own_rd h1 fun b hb => h b (List.mem_append_left _ hb), S.own_rd h2 fun b hb => h b (List.mem_append_right _ hb)⟩

def rIso {α β : Type} (R : Rep α) (f : β → α) : Rep β where
  size := R.size
  rd B w cs x := R.rd B w cs (f x)
  own w cs x F := R.own w cs (f x) F
  rd_len h := R.rd_len h
  rd_one h := R.rd_one h
  rd_stay h := R.rd_stay h
  rd_mono h := R.rd_mono h
  own_stay h := R.own_stay h
  own_live h := R.own_live h
  own_rd h := R.own_rd h

/-- The elements of an owned row, one behind the other. -/
def OwnEls {α : Type} (R : Rep α) (w : World) : List Value → List α → List Nat → Prop
  | _, [], F => F = []
  | cur, x :: xs, F => ∃ c rest G K, cur = c ++ rest ∧ c.length = R.size ∧ F = G ++ K ∧ R.own w c x G ∧ OwnEls R w rest xs K

section
variable {α : Type} {R : Rep α}
theorem OwnEls.stay {w w' : World} : ∀ {xs : List α} {cur F}, OwnEls R w cur xs F → (∀ b, b ∈ F → w'.heap[b]? = w.heap[b]?) → OwnEls R w' cur xs F
  | [], _, _, h, _ => h
  | x :: xs, cur, F, ⟨c, rest, G, K, h1, h2, h3, h4, h5⟩, h => by
    subst h3
    exact ⟨c, rest, G, K, h1, h2, rfl, R.own_stay h4 fun b hb => h b (List.mem_append_left _ hb), h5.stay fun b hb => h b (List.mem_append_right _ hb)⟩
theorem OwnEls.live {w : World} : ∀ {xs : List α} {cur F}, OwnEls R w cur xs F → ∀ b, b ∈ F → b < w.heap.size
  | [], _, _, h, b, hb => by rw [show _ = [] from h] at hb; cases hb
  | x :: xs, cur, F, ⟨c, rest, G, K, _, _, h3, h4, h5⟩, b, hb => by
    subst h3
    rcases List.mem_append.1 hb with h | h
    · exact R.own_live h4 b h
    · exact h5.live b h
theorem OwnEls.at {w : World} : ∀ {xs : List α} {cur F}, OwnEls R w cur xs F → ∀ B, (∀ b, b ∈ F → b < B) → ∀ (i : Nat) x, xs[i]? = some x → ∃ c : List Value, c.length = R.size ∧ (∀ j, j < R.size → cur[i * R.size + j]? = c[j]?) ∧ R.rd B w c x
  | [], _, _, _, _, _, i, x, hx => by simp at hx
  | y :: xs, cur, F, ⟨c, rest, G, K, h1, h2, h3, h4, h5⟩, B, hB, i, x, hx => by
    subst h3; subst h1
    match i, hx with
    | 0, hx =>
      simp at hx; subst hx
      exact ⟨c, h2, fun j hj => by rw [Nat.zero_mul, Nat.zero_add, List.getElem?_append_left (by omega)], R.own_rd h4 fun b hb => hB b (List.mem_append_left _ hb)⟩
    | i + 1, hx =>
      obtain ⟨d, e1, e2, e3⟩ := h5.at B (fun b hb => hB b (List.mem_append_right _ hb)) i x (by simpa using hx)
      refine ⟨d, e1, fun j hj => ?_, e3⟩
      rw [List.getElem?_append_right (by rw [h2, Nat.add_mul]; omega), h2]
      rw [show (i + 1) * R.size + j - R.size = i * R.size + j from by rw [Nat.add_mul]; omega]
      exact e2 j hj
theorem OwnEls.len {w : World} : ∀ {xs : List α} {cur F}, OwnEls R w cur xs F → xs.length * R.size ≤ cur.length
  | [], _, _, _ => by simp
  | y :: xs, cur, F, ⟨c, rest, G, K, h1, h2, h3, h4, h5⟩ => by
    subst h1
    have := h5.len
    rw [List.length_append, List.length_cons, Nat.add_mul]; omega
theorem OwnEls.one {w : World} : ∀ {xs : List α} {cur F}, OwnEls R w cur xs F → ∀ u ∈ cur.take (xs.length * R.size), u.oneCell' = true
  | [], _, _, _ => by simp
  | y :: xs, cur, F, ⟨c, rest, G, K, h1, h2, h3, h4, h5⟩ => by
    subst h1
    intro u hu
    rw [List.length_cons, Nat.add_mul, Nat.one_mul, Nat.add_comm, List.take_append, List.take_of_length_le (by omega), h2, Nat.add_sub_cancel_left] at hu
    rcases List.mem_append.1 hu with h | h
    · exact R.rd_one (R.own_rd h4 (B := w.heap.size) fun b hb => R.own_live h4 b hb) u h
    · exact h5.one u h
/-- what lies behind the elements does not matter -/
theorem OwnEls.rest {w : World} : ∀ {xs : List α} {cur cur' F}, OwnEls R w cur xs F → cur'.take (xs.length * R.size) = cur.take (xs.length * R.size) → OwnEls R w cur' xs F
  | [], _, _, _, h, _ => h
  | y :: xs, cur, cur', F, ⟨c, rest, G, K, h1, h2, h3, h4, h5⟩, h => by
    subst h1
    have hl := h5.len
    rw [List.length_cons, Nat.add_mul, Nat.one_mul, Nat.add_comm] at h
    rw [List.take_append, List.take_of_length_le (l := c) (by omega), h2, Nat.add_sub_cancel_left] at h
    have e0 : cur'.take R.size = c := by
      have := congrArg (List.take R.size) h
      rw [List.take_take, Nat.min_eq_left (by omega), ← h2, List.take_left, h2] at this
      exact this
    refine ⟨c, cur'.drop R.size, G, K, ?_, h2, h3, h4, h5.rest ?_⟩
    · rw [← e0, List.take_append_drop]
    · have := congrArg (List.drop R.size) h
      rw [← h2, List.drop_left, List.drop_take, h2] at this
      rw [← this]; congr 1; omega
theorem OwnEls.snoc {w : World} : ∀ {xs : List α} {cur F} {x : α} {c : List Value} {G : List Nat}, OwnEls R w cur xs F → cur.length = xs.length * R.size → R.own w c x G → c.length = R.size → OwnEls R w (cur ++ c) (xs ++ [x]) (F ++ G)
  | [], cur, F, x, c, G, h, hl, hx, hc => by
    have : cur = [] := List.eq_nil_of_length_eq_zero (by simpa using hl)
    subst this
    rw [show F = [] from h]
    exact ⟨c, [], G, [], by simp, hc, by simp, hx, rfl⟩
  | y :: xs, cur, F, x, c, G, ⟨c1, rest, G1, K, h1, h2, h3, h4, h5⟩, hl, hx, hc => by
    subst h1; subst h3
    refine ⟨c1, rest ++ c, G1, K ++ G, by simp, h2, by simp, h4, h5.snoc ?_ hx hc⟩
    rw [List.length_append, List.length_cons, Nat.add_mul] at hl; omega
end

/-- A slice. -/
def rSlice {α : Type} (E : TypeId) (R : Rep α) : Rep (List α) where
  size := 1
  rd B w cs xs := ∃ ao cap, cs = [.slice ao xs.length cap] ∧ xs.length ≤ lim ∧ (xs = [] ∨ ∃ b off ccs t fr, ao = some ⟨b, off, none⟩ ∧ b < B ∧ w.heap[b]? = some (.cells ccs t fr) ∧
    ∀ i x, xs[i]? = some x → ∃ c : List Value, c.length = R.size ∧ (∀ j, j < R.size → ccs.toList[off + i * R.size + j]? = c[j]?) ∧ R.rd B w c x)
  own w cs xs F := xs.length ≤ lim ∧ ((cs = [.slice none 0 0] ∧ xs = [] ∧ F = []) ∨
    ∃ g cap cur K, cs = [.slice (some ⟨g, 0, none⟩) xs.length cap] ∧ w.heap[g]? = some (.cells cur E (0, 0)) ∧ xs.length ≤ cap ∧ cap ≤ maxLen ∧ cur.size = cap * R.size ∧ F = g :: K ∧ OwnEls R w cur.toList xs K)
  rd_len := by rintro B w cs xs ⟨ao, cap, rfl, _⟩; rfl
  rd_one := by rintro B w cs xs ⟨ao, cap, rfl, _⟩ u hu; simp at hu; subst hu; rfl
  rd_stay := by
    rintro B w w' cs xs ⟨ao, cap, rfl, hl, h⟩ hw
    refine ⟨ao, cap, rfl, hl, ?_⟩
    rcases h with h | ⟨b, off, ccs, t, fr, h1, h2, h3, h4⟩
    · exact .inl h
    · exact .inr ⟨b, off, ccs, t, fr, h1, h2, by rw [hw b h2]; exact h3, fun i x hx => let ⟨c, e1, e2, e3⟩ := h4 i x hx; ⟨c, e1, e2, R.rd_stay e3 hw⟩⟩
  rd_mono := by
    rintro B B' w cs xs ⟨ao, cap, rfl, hl, h⟩ hB
    refine ⟨ao, cap, rfl, hl, ?_⟩
    rcases h with h | ⟨b, off, ccs, t, fr, h1, h2, h3, h4⟩
    · exact .inl h
    · exact .inr ⟨b, off, ccs, t, fr, h1, Nat.lt_of_lt_of_le h2 hB, h3, fun i x hx => let ⟨c, e1, e2, e3⟩ := h4 i x hx; ⟨c, e1, e2, R.rd_mono e3 hB⟩⟩
  own_stay := by
    rintro w w' cs xs F ⟨hl, h⟩ hw
    refine ⟨hl, ?_⟩
    rcases h with h | ⟨g, cap, cur, K, h1, h2, h3, h4, h5, rfl, h6⟩
    · exact .inl h
    · exact .inr ⟨g, cap, cur, K, h1, by rw [hw g (by simp)]; exact h2, h3, h4, h5, rfl, h6.stay fun b hb => hw b (by simp [hb])⟩
  own_live := by
    rintro w cs xs F ⟨hl, h⟩ b hb
    rcases h with ⟨_, _, rfl⟩ | ⟨g, cap, cur, K, h1, h2, h3, h4, h5, rfl, h6⟩
    · cases hb
    · rcases List.mem_cons.1 hb with rfl | hb
      · exact (Array.getElem?_eq_some_iff.1 h2).1
      · exact h6.live b hb
  own_rd := by
    rintro w cs xs F B ⟨hl, h⟩ hB
    rcases h with ⟨rfl, rfl, rfl⟩ | ⟨g, cap, cur, K, rfl, h2, h3, h4, h5, rfl, h6⟩
    · exact ⟨none, 0, rfl, by simp, .inl rfl⟩
    · refine ⟨some ⟨g, 0, none⟩, cap, rfl, hl, .inr ⟨g, 0, cur, E, (0, 0), rfl, hB g (by simp), h2, fun i x hx => ?_⟩⟩
      obtain ⟨c, e1, e2, e3⟩ := h6.at B (fun b hb => hB b (by simp [hb])) i x hx
      exact ⟨c, e1, fun j hj => by rw [Nat.zero_add]; exact e2 j hj, e3⟩

/-! ### Assertions -/
structure Ch where
  holds : World → List Nat → Prop
  stay : ∀ {w w' F}, holds w F → (∀ b, b ∈ F → w'.heap[b]? = w.heap[b]?) → holds w' F
  live : ∀ {w F}, holds w F → ∀ b, b ∈ F → b < w.heap.size

/-- Owned data. -/
def Ch.own {α : Type} (R : Rep α) (cs : List Value) (a : α) : Ch := ⟨fun w F => R.own w cs a F, fun h => R.own_stay h, fun h => R.own_live h⟩
/-- A block known whole. -/
def Ch.blk (g : Nat) (cs : List Value) (E : TypeId) : Ch :=
  ⟨fun w F => F = [g] ∧ w.heap[g]? = some (.cells cs.toArray E (0, 0)), fun h hw => ⟨h.1, by rw [hw g (by rw [h.1]; simp)]; exact h.2⟩, fun h b hb => by rw [h.1] at hb; simp at hb; subst hb; exact (Array.getElem?_eq_some_iff.1 h.2).1⟩

def Sep : List Ch → World → List Nat → Prop
  | [], _, F => F = []
  | c :: cs, w, F => ∃ G K, F = G ++ K ∧ c.holds w G ∧ Sep cs w K

theorem Sep.stay {w w' : World} : ∀ {cs F}, Sep cs w F → (∀ b, b ∈ F → w'.heap[b]? = w.heap[b]?) → Sep cs w' F
  | [], _, h, _ => h
  | c :: cs, F, ⟨G, K, h1, h2, h3⟩, h => by
    subst h1
    exact ⟨G, K, rfl, c.stay h2 fun b hb => h b (List.mem_append_left _ hb), h3.stay fun b hb => h b (List.mem_append_right _ hb)⟩
theorem Sep.live {w : World} : ∀ {cs F}, Sep cs w F → ∀ b, b ∈ F → b < w.heap.size
  | [], _, h, b, hb => by rw [show _ = [] from h] at hb; cases hb
  | c :: cs, F, ⟨G, K, h1, h2, h3⟩, b, hb => by
    subst h1
    rcases List.mem_append.1 hb with h | h
    · exact c.live h2 b h
    · exact h3.live b h
theorem Sep.append {w : World} : ∀ {cs ds F G}, Sep cs w F → Sep ds w G → Sep (cs ++ ds) w (F ++ G)
  | [], ds, F, G, h, k => by rw [show F = [] from h]; exact k
  | c :: cs, ds, F, G, ⟨G1, K, h1, h2, h3⟩, k => by
    subst h1
    exact ⟨G1, K ++ G, by simp, h2, h3.append k⟩
theorem Sep.split {w : World} : ∀ {cs ds F}, Sep (cs ++ ds) w F → ∃ G K, F = G ++ K ∧ Sep cs w G ∧ Sep ds w K
  | [], ds, F, h => ⟨[], F, rfl, rfl, h⟩
  | c :: cs, ds, F, ⟨G, K, h1, h2, h3⟩ => by
    obtain ⟨G', K', e1, e2, e3⟩ := Sep.split h3
    subst e1; subst h1
    exact ⟨G ++ G', K', by simp, ⟨G, G', rfl, h2, e2⟩, e3⟩
/-- one chunk, and the rest -/
theorem Sep.pick {w : World} {c : Ch} : ∀ {cs F} (i : Nat), Sep cs w F → cs[i]? = some c → ∃ G K, (G ++ K).Perm F ∧ c.holds w G ∧ Sep (cs.eraseIdx i) w K
  | [], _, i, _, hi => by simp at hi
  | d :: cs, F, 0, ⟨G, K, h1, h2, h3⟩, hi => by
    simp at hi; subst hi
    exact ⟨G, K, by rw [h1], h2, h3⟩
  | d :: cs, F, i + 1, ⟨G, K, h1, h2, h3⟩, hi => by
    obtain ⟨G', K', e1, e2, e3⟩ := Sep.pick i h3 (by simpa using hi)
    refine ⟨G', G ++ K', ?_, e2, ⟨G, K', rfl, h2, e3⟩⟩
    rw [h1]
    exact (List.perm_append_comm_assoc _ _ _).trans (e1.append_left G)

/-- Of what was there in w0 nothing has turned; the chunks hold, each in blocks of its own, all of them newer than w0. -/
def St (w0 w : World) (cs : List Ch) : Prop := Below w0.heap.size w0 w ∧ ∃ F, Sep cs w F ∧ F.Nodup ∧ ∀ b, b ∈ F → w0.heap.size ≤ b

section
variable {w0 w w' : World} {cs ds : List Ch}
theorem St.init (w : World) : St w w [] := ⟨Below.refl _ _, [], rfl, List.nodup_nil, by simp⟩
theorem St.size (h : St w0 w cs) : w0.heap.size ≤ w.heap.size := h.1.size
theorem St.front (h : St w0 w cs) {c : Ch} (i : Nat) (hi : cs[i]? = some c) : St w0 w (c :: cs.eraseIdx i) := by
  obtain ⟨hb, F, h1, h2, h3⟩ := h
  obtain ⟨G, K, e1, e2, e3⟩ := h1.pick i hi
  exact ⟨hb, G ++ K, ⟨G, K, rfl, e2, e3⟩, e1.nodup_iff.2 h2, fun b hb' => h3 b (e1.mem_iff.1 hb')⟩
theorem St.tail {c : Ch} (h : St w0 w (c :: cs)) : St w0 w cs := by
  obtain ⟨hb, F, ⟨G, K, rfl, e2, e3⟩, h2, h3⟩ := h
  exact ⟨hb, K, e3, (List.nodup_append.1 h2).2.1, fun b hb' => h3 b (List.mem_append_right _ hb')⟩
theorem St.swap (h : St w0 w (cs ++ ds)) : St w0 w (ds ++ cs) := by
  obtain ⟨hb, F, h1, h2, h3⟩ := h
  obtain ⟨G, K, rfl, e2, e3⟩ := h1.split
  exact ⟨hb, K ++ G, e3.append e2, (List.perm_append_comm.nodup_iff).2 h2, fun b hb' => h3 b (by simp at hb' ⊢; exact hb'.symm)⟩
theorem Sep.perm {w : World} {cs ds : List Ch} (h : cs.Perm ds) : ∀ {F}, Sep cs w F → ∃ G, G.Perm F ∧ Sep ds w G := by
  induction h with
  | nil => intro F h; exact ⟨F, .refl _, h⟩
  | cons c _ ih =>
    rintro F ⟨G, K, rfl, h2, h3⟩
    obtain ⟨K', e1, e2⟩ := ih h3
    exact ⟨G ++ K', e1.append_left G, G, K', rfl, h2, e2⟩
  | swap a b l =>
    rintro F ⟨G, K, rfl, h2, ⟨G', K', rfl, h4, h5⟩⟩
    exact ⟨G' ++ (G ++ K'), List.perm_append_comm_assoc _ _ _, G', G ++ K', rfl, h4, G, K', rfl, h2, h5⟩
  | trans _ _ ih1 ih2 =>
    intro F h
    obtain ⟨G, e1, e2⟩ := ih1 h
    obtain ⟨K, f1, f2⟩ := ih2 e2
    exact ⟨K, f1.trans e1, f2⟩
theorem St.perm (hp : cs.Perm ds) (h : St w0 w cs) : St w0 w ds := by
  obtain ⟨hb, F, h1, h2, h3⟩ := h
  obtain ⟨G, e1, e2⟩ := h1.perm hp
  exact ⟨hb, G, e2, e1.nodup_iff.2 h2, fun b hb' => h3 b (e1.mem_iff.1 hb')⟩
theorem St.left (h : St w0 w (cs ++ ds)) : St w0 w cs := by
  obtain ⟨hb, F, h1, h2, h3⟩ := h
  obtain ⟨G, K, rfl, e2, e3⟩ := h1.split
  exact ⟨hb, G, e2, (List.nodup_append.1 h2).1, fun b hb' => h3 b (List.mem_append_left _ hb')⟩
theorem filterMap_range {β : Type} (cs : List β) : (List.range cs.length).filterMap (cs[·]?) = cs := by
  induction cs with
  | nil => rfl
  | cons c cs ih =>
    rw [List.length_cons, List.range_succ_eq_map, List.filterMap_cons, List.filterMap_map]
    simpa [Function.comp_def] using ih
/-- Reorder and drop: the chunks at the places l. -/
theorem St.sel (h : St w0 w cs) (n : Nat) (l : List Nat) (hn : cs.length = n) (hl : (l ++ (List.range n).filter fun i => !l.contains i).Perm (List.range n)) : St w0 w (l.filterMap (cs[·]?)) := by
  subst hn
  have hp := (hl.filterMap (cs[·]?))
  rw [filterMap_range, List.filterMap_append] at hp
  exact (h.perm hp.symm).left
/-- The first chunk changes; whatever else there is stays. -/
theorem St.step {c c' : Ch} (h : St w0 w (c :: cs)) (ho : w'.os = w.os) (ht : w'.tape = w.tape) (hu : w'.output = w.output) (hz : w.heap.size ≤ w'.heap.size)
    (hs : ∀ F, c.holds w F → F.Nodup → (∀ b, b < w.heap.size → b ∉ F → w'.heap[b]? = w.heap[b]?) ∧ ∃ F', c'.holds w' F' ∧ F'.Nodup ∧ ∀ b, b ∈ F' → b ∈ F ∨ w.heap.size ≤ b) : St w0 w' (c' :: cs) := by
  obtain ⟨hb, F, ⟨G, K, rfl, e2, e3⟩, h2, h3⟩ := h
  obtain ⟨n1, n2, n3⟩ := List.nodup_append.1 h2
  obtain ⟨k1, G', k2, k3, k4⟩ := hs G e2 n1
  have hK : ∀ b, b ∈ K → w'.heap[b]? = w.heap[b]? := fun b hb' => k1 b (e3.live b hb') fun hg => n3 b hg b hb' rfl
  refine ⟨hb.trans ⟨ho, ht, hu, hz, fun b hb' => k1 b (Nat.lt_of_lt_of_le hb' hb.size) fun hg => ?_⟩, G' ++ K, ⟨G', K, rfl, k2, e3.stay hK⟩, List.nodup_append.2 ⟨k3, n2, ?_⟩, ?_⟩
  · have := h3 b (List.mem_append_left _ hg); omega
  · rintro b hb1 c hb2 rfl
    rcases k4 b hb1 with h | h
    · exact n3 b h b hb2 rfl
    · have := e3.live b hb2; omega
  · intro b hb'
    rcases List.mem_append.1 hb' with h | h
    · rcases k4 b h with h | h
      · exact h3 b (List.mem_append_left _ h)
      · have := hb.size; omega
    · exact h3 b (List.mem_append_right _ h)
/-- Behind a call: what the callee has left is there besides. -/
theorem St.call (h : St w0 w cs) (k : St w w' ds) : St w0 w' (ds ++ cs) := by
  obtain ⟨hb, F, h1, h2, h3⟩ := h
  obtain ⟨kb, G, k1, k2, k3⟩ := k
  refine ⟨hb.trans (kb.mono hb.size), G ++ F, k1.append (h1.stay fun b hb' => kb.block b (h1.live b hb')), List.nodup_append.2 ⟨k2, h2, ?_⟩, ?_⟩
  · rintro b hb1 c hb2 rfl
    have := k3 b hb1; have := h1.live b hb2; omega
  · intro b hb'
    rcases List.mem_append.1 hb' with h | h
    · have := k3 b h; have := hb.size; omega
    · exact h3 b h
theorem St.below (h : St w0 w cs) : Below w0.heap.size w0 w := h.1
theorem St.drop (h : St w0 w cs) : St w0 w [] := ⟨h.1, [], rfl, List.nodup_nil, by simp⟩
theorem St.drew (h : St w0 w cs) : St w0 w.drew cs := by
  obtain ⟨hb, F, h1, h2, h3⟩ := h
  exact ⟨hb.drew, F, h1.stay fun _ _ => rfl, h2, h3⟩
/-- An argument of the whole function, in the world at hand. -/
theorem St.arg {α : Type} {R : Rep α} {v : List Value} {a : α} (h : St w0 w cs) (hx : R.rd w0.heap.size w0 v a) : R.rd w.heap.size w v a :=
  R.rd_mono (R.rd_stay hx h.1.block) h.1.size
/-- What is owned may be read. -/
theorem St.rd {α : Type} {R : Rep α} {v : List Value} {a : α} (h : St w0 w cs) (i : Nat) (hi : cs[i]? = some (Ch.own R v a)) : R.rd w.heap.size w v a := by
  obtain ⟨hb, F, h1, h2, h3⟩ := h
  obtain ⟨G, K, e1, e2, e3⟩ := h1.pick i hi
  exact R.own_rd e2 fun b hb' => R.own_live e2 b hb'
theorem St.heap (h : St w0 w cs) {g : Nat} {l : List Value} {E : TypeId} (i : Nat) (hi : cs[i]? = some (Ch.blk g l E)) : w.heap[g]? = some (.cells l.toArray E (0, 0)) ∧ w0.heap.size ≤ g ∧ g < w.heap.size := by
  obtain ⟨hb, F, h1, h2, h3⟩ := h
  obtain ⟨G, K, e1, e2, e3⟩ := h1.pick i hi
  have hg : g ∈ F := e1.mem_iff.1 (by rw [e2.1]; simp)
  exact ⟨e2.2, h3 g hg, h1.live g hg⟩
theorem St.cell (h : St w0 w cs) {g : Nat} {l : List Value} {E : TypeId} (i : Nat) (hi : cs[i]? = some (Ch.blk g l E)) : ∀ j, w.cell? ⟨g, j, none⟩ = l[j]? := by
  intro j
  simp [World.cell?, (h.heap i hi).1]
theorem St.free (h : St w0 w cs) {g : Nat} {l : List Value} {E : TypeId} (i : Nat) (hi : cs[i]? = some (Ch.blk g l E)) : ∀ j, w.frozen? ⟨g, j, none⟩ = false := by
  intro j
  simp [World.frozen?, (h.heap i hi).1]
theorem St.alloc (h : St w0 w cs) (l : List Value) (E : TypeId) : St w0 (w.alloc (.cells l.toArray E)) (Ch.blk w.heap.size l E :: cs) := by
  have k : St w (w.alloc (.cells l.toArray E)) [Ch.blk w.heap.size l E] :=
    ⟨(Below.refl _ _).alloc (Nat.le_refl _) _, [w.heap.size], ⟨[w.heap.size], [], rfl, ⟨rfl, heap_alloc_new w _⟩, rfl⟩, by simp, by simp⟩
  exact h.call k
theorem St.set (h : St w0 w cs) {g : Nat} {l : List Value} {E : TypeId} (i : Nat) (hi : cs[i]? = some (Ch.blk g l E)) (j : Nat) (v : Value) : St w0 (w.setCell ⟨g, j, none⟩ v) (Ch.blk g (l.set j v) E :: cs.eraseIdx i) := by
  refine (h.front i hi).step (w' := w.setCell ⟨g, j, none⟩ v) rfl rfl rfl (by simp) ?_
  rintro F ⟨rfl, h2⟩ _
  refine ⟨fun b hb hn => Below.heap_setCell _ _ _ _ (by simpa using hn), [g], ⟨rfl, ?_⟩, by simp, by simp⟩
  simp [World.setCell, Array.getElem?_modify, h2]
end
end Go.Proofs.Ytokiommgielfjaa
