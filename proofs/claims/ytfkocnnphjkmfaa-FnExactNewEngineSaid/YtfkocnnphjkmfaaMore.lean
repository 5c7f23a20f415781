/- More laws of operations, and small lemmas for walks that a program prints. No program text is named here. -/
import Derived.Test.YtfkocnnphjkmfaaFlow
import Derived.Laws.StructEq
set_option linter.unusedVariables false
set_option linter.unusedSimpArgs false
set_option linter.unnecessarySimpa false
namespace Go.Proofs.Ytfkocnnphjkmfaa.D
open Go.RowKit

section
variable {P : Program} {I J : Hp} {w0 w w' : World} {cs C : List Ch} {n : Nat} {a : Act} {L L' : List (Nat × Value)} {Q : Exit → Act → World → Prop} {o : Oper} {ev : Operand → Value}
theorem nrm {K : Act → World → Prop} (h : K a w) : Exit.then K Q .normal a w := h
theorem nrmB {id : Nat} (h : Q .normal a w) : Exit.inBlock id Q .normal a w := h
theorem thenX {K : Act → World → Prop} {id : Nat} (h : Q (.exit id) a w) : Exit.then K Q (.exit id) a w := h
theorem thenR {K : Act → World → Prop} (h : Q .ret a w) : Exit.then K Q .ret a w := h
theorem blkR {id : Nat} (h : Q .ret a w) : Exit.inBlock id Q .ret a w := h
theorem ifT {α : Type} {b : Bool} {x y : α} (h : b = true) : (if b then x else y) = x := if_pos h
theorem ifF {α : Type} {b : Bool} {x y : α} (h : b = false) : (if b then x else y) = y := if_neg (by rw [h]; exact Bool.false_ne_true)
theorem ifTe {α : Type} {b : Bool} {x y z : α} (h : b = true) (e : (if b then x else y) = z) : x = z := by rwa [ifT h] at e
theorem ifFe {α : Type} {b : Bool} {x y z : α} (h : b = false) (e : (if b then x else y) = z) : y = z := by rwa [ifF h] at e
theorem two (b : Bool) : b = false ∨ b = true := by cases b <;> simp
theorem notT {b : Bool} (h : b = false) : (!b) = true := by rw [h]; rfl
theorem notF {b : Bool} (h : b = true) : (!b) = false := by rw [h]; rfl
theorem notT' {b : Bool} (h : (!b) = true) : b = false := by cases b <;> simp_all
theorem notF' {b : Bool} (h : (!b) = false) : b = true := by cases b <;> simp_all
theorem allN : ([] : List Value).all (·.oneCell') = true := rfl
theorem allC {c : Value} {l : List Value} (h : c.oneCell' = true) (k : l.all (·.oneCell') = true) : (c :: l).all (·.oneCell') = true := by simp [h, k]
theorem Hd.one {v : Value} {n : Nat} (h : Hd v n) : v.oneCell' = true := by obtain ⟨_, _, rfl, _⟩ := h; rfl
theorem Hd.cells {v : Value} {n : Nat} (h : Hd v n) : v.cells = [v].toArray := by obtain ⟨_, _, rfl, _⟩ := h; rfl
def lks (L : List (Nat × Value)) : List (Nat × Value) → Prop
  | [] => True
  | p :: r => L.lookup p.1 = some p.2 ∧ lks L r
theorem Agr.pick' (h : Agr n a L) (hs : lks L L') : Agr n a L' := by
  refine h.pick L' ?_
  clear h
  induction L' with
  | nil => simp
  | cons q r ih =>
    intro p hp
    rcases List.mem_cons.1 hp with rfl | hp
    · exact hs.1
    · exact ih hs.2 p hp
def args1 (xs : Array Value) : List (Nat × Value) → Prop
  | [] => True
  | p :: r => xs[p.1]? = some p.2 ∧ args1 xs r
theorem args_all {xs : Array Value} : ∀ {l : List (Nat × Value)}, args1 xs l → ∀ p ∈ l, xs[p.1]? = some p.2
  | [], _, p, hp => by cases hp
  | q :: r, h, p, hp => by
    rcases List.mem_cons.1 hp with rfl | hp
    · exact h.1
    · exact args_all h.2 p hp
/-- chunks in another order -/
theorem perm_sel {cs : List Ch} (l : List Nat) {m : Nat} (hm : cs.length = m) (h : l.isPerm (List.range m) = true) : cs.Perm (l.filterMap (cs[·]?)) := by
  subst hm
  have := (List.isPerm_iff.1 h).filterMap (cs[·]?)
  rw [filterMap_range] at this
  exact this.symm
theorem OpT.conv {rn rn' : List Ch} {fact fact' : Value → Prop} {gv gv' : Value → List Ch} (h : OpT P I w0 o ev rn fact gv) (h1 : rn = rn') (h2 : ∀ v, fact v → fact' v) (h3 : ∀ v, gv v = gv' v) : OpT P I w0 o ev rn' fact' gv' := by
  subst h1
  intro w C hs
  exact (h w C hs).imp fun v w hv => ⟨h2 v hv.1, by rw [← h3]; exact hv.2⟩
theorem Plan.goal_run {p : Plan} {i : Nat} (h : ∀ vs, (∀ j, j ∈ p.before i → p.fact j vs) → wants o vs = some true ∧ OpT P I w0 o (p.ev L i vs) (((p.op i).reads ++ (p.op i).needs).map (p.chunk · vs)) (fun v => p.fact i (upd vs i v)) (fun v => ((p.op i).reads ++ (p.op i).gives).map (p.chunk · (upd vs i v)))) : p.goal P I w0 L i o := by
  intro vs hf
  rw [(h vs hf).1]; exact (h vs hf).2
theorem Plan.goal_skip {p : Plan} {i : Nat} (h : ∀ vs, (∀ j, j ∈ p.before i → p.fact j vs) → wants o vs = some false) (h1 : ∀ vs, p.fact i (upd vs i undef)) (h2 : (p.op i).needs = []) (h3 : (p.op i).gives = []) : p.goal P I w0 L i o := by
  intro vs hf
  rw [h vs hf]; exact ⟨h1 vs, h2, h3⟩
theorem wants_none {vs : Nat → Value} (h : o.guard = none) : wants o vs = some true := by unfold wants; rw [h]
theorem wants_some {vs : Nat → Value} {g : Nat} {want b c : Bool} (h : o.guard = some (g, want)) (hv : vs g = .bool b) (hc : (b == want) = c) : wants o vs = some c := by unfold wants; rw [h]; simp only; rw [hv]; simp only [hc]

/-! ### Structs put together -/
def fillL (place : Nat → Option (Nat × Nat)) (cells : List Value) : List (Nat × List Value) → Option (List Value)
  | [] => some cells
  | (i, l) :: rest => match place i with
    | none => none
    | some (off, size) => if l.length = size ∧ off + size ≤ cells.length then fillL place (cells.take off ++ l ++ cells.drop (off + size)) rest else none
theorem fill_L {place : Nat → Option (Nat × Nat)} : ∀ {parts : List (Nat × Value)} {ls : List (Nat × List Value)} {cells r : List Value}, parts.map (fun p => (p.1, p.2.cells)) = ls.map (fun p => (p.1, p.2.toArray)) → fillL place cells ls = some r → Instr.fill place cells.toArray parts = some r.toArray
  | [], [], cells, r, _, h => by rw [fillL] at h; rw [Instr.fill, Option.some.inj h]
  | [], _ :: _, cells, r, he, h => by simp at he
  | _ :: _, [], cells, r, he, h => by simp at he
  | (i, u) :: parts, (j, l) :: ls, cells, r, he, h => by
    simp only [List.map_cons, List.cons.injEq, Prod.mk.injEq] at he
    obtain ⟨⟨rfl, hu⟩, he⟩ := he
    rw [fillL] at h
    rw [Instr.fill]
    cases hp : place i with
    | none => rw [hp] at h; cases h
    | some q =>
      obtain ⟨off, size⟩ := q
      rw [hp] at h
      simp only at h ⊢
      split at h
      · rename_i hc
        rw [hu]
        simp only [List.size_toArray]
        rw [if_neg (by simp; omega)]
        have hr := set_run l off cells.toArray (by simp; omega)
        have e : (l.toArray.zipIdx.foldl (fun cs (c, j) => cs.setIfInBounds (off + j) c) cells.toArray) = (cells.take off ++ l ++ cells.drop (off + size)).toArray := by
          rw [← hc.1]
          apply Array.ext'
          rw [hr]
        rw [e]
        exact fill_L he h
      · cases h
def TB (P : Program) (T : TypeId) (pl : List (Nat × Nat)) : Prop := ∃ fs, P.underlying T = some (.struct fs) ∧ fs.toList.mapM (fun f => (P.info? f.type).map fun i => (f.offset, i.size)) = some pl
def peq : List (Nat × Value) → List (Nat × List Value) → Prop
  | [], [] => True
  | (i, u) :: p, (j, l) :: q => i = j ∧ u.cells = l.toArray ∧ peq p q
  | _, _ => False
theorem peq_map : ∀ {p : List (Nat × Value)} {q : List (Nat × List Value)}, peq p q → p.map (fun p => (p.1, p.2.cells)) = q.map (fun p => (p.1, p.2.toArray))
  | [], [], _ => rfl
  | (i, u) :: p, (j, l) :: q, h => by
    obtain ⟨rfl, h2, h3⟩ := h
    rw [List.map_cons, List.map_cons, peq_map h3, h2]
  | [], _ :: _, h => h.elim
  | _ :: _, [], h => h.elim
theorem opT_build {T : TypeId} {z : Value} {m b : Nat} {parts : Array (Nat × Operand)} {zl r : List Value} (ls : List (Nat × List Value)) {pl : List (Nat × Nat)} (hT : TB P T pl) (hz : TZ P T z m b) (hzl : z.cells = zl.toArray) (ho : o.op = .build T parts)
    (hls : peq (parts.toList.map fun p => (p.1, ev p.2)) ls) (hr : fillL (pl[·]?) zl ls = some r) : OpT P I w0 o ev [] (· = .agg r.toArray) (fun _ => []) := by
  refine opT_val fun w => ?_
  obtain ⟨fs, h1, h2⟩ := hT
  obtain ⟨i, hi, hz1, -, -⟩ := info_parts hz
  have hf := fill_L (place := fun i => pl.toArray[i]?) (cells := zl) (r := r) (parts := (parts.map fun (i, x) => (i, ev x)).toList) (by rw [Array.toList_map]; exact peq_map hls) (by simpa using hr)
  have hb : P.built T (parts.map fun (i, x) => (i, ev x)).toList = some r.toArray := by
    unfold Program.built
    rw [hi, h1]
    simp only [hz1, h2]
    rw [hzl]; exact hf
  simp only [execOp, ho, Sem.run_bind, run_build w T _ _ hb]; rfl

/-! ### Loops and joins, in models -/
def bindL {R S T : Type} (x : Option (Out R S)) (kr : R → Option T) (k : S → Option T) : Option T :=
  match x with
  | some (.brk s) => k s
  | some (.ret r) => kr r
  | _ => none
theorem bindL_some {R S T : Type} {x : Option (Out R S)} {kr : R → Option T} {k : S → Option T} {t : T} (h : bindL x kr k = some t) : ∃ o, x = some o ∧ ((∃ s, o = .brk s ∧ k s = some t) ∨ ∃ r, o = .ret r ∧ kr r = some t) := by
  unfold bindL at h
  split at h
  · exact ⟨_, rfl, .inl ⟨_, rfl, h⟩⟩
  · exact ⟨_, rfl, .inr ⟨_, rfl, h⟩⟩
  · cases h
def bindJ {S T : Type} (x : Option (T ⊕ S)) (k : S → Option T) : Option T :=
  match x with
  | some (.inr s) => k s
  | some (.inl t) => some t
  | none => none
theorem bindJ_some {S T : Type} {x : Option (T ⊕ S)} {k : S → Option T} {t : T} (h : bindJ x k = some t) : ∃ o, x = some o ∧ ((∃ s, o = .inr s ∧ k s = some t) ∨ o = .inl t) := by
  unfold bindJ at h
  split at h
  · exact ⟨_, rfl, .inl ⟨_, rfl, h⟩⟩
  · exact ⟨_, rfl, .inr (by rw [Option.some.inj h])⟩
  · cases h
/-! ### Values taken apart -/
def vg : Value → List Nat → Value
  | v, [] => v
  | .tuple vs, i :: l => vg (vs.getD i undef) l
  | .agg cs, i :: l => vg (cs.getD i undef) l
  | _, _ :: _ => undef
theorem St.nil {α : Type} {R : Rep α} {E : TypeId} (h : St I w0 w cs) : St I w0 w (Ch.own (rSlice E R) [.slice none 0 0] ([] : List α) :: cs) :=
  h.free ⟨by simp, .inl ⟨rfl, rfl, rfl⟩⟩
theorem one_cell {α : Type} {R : Rep α} {c : List Value} {x : α} (h : R.rd I c x) (hs : R.size = 1) : ∃ v, c = [v] := List.length_eq_one_iff.1 ((R.rd_len h).trans hs)

theorem Fld.fro {α β : Type} {R : Rep α} {S : Rep β} {off : Nat} {f : α → β} (h : Fld R off S f) : Fld (rFro R) off S f := h
theorem rd_nil {α : Type} {R : Rep α} {E : TypeId} : (rSlice E R).rd I [.slice none 0 0] ([] : List α) := ⟨none, 0, rfl, by simp, .inl rfl⟩
def usOk (n : Nat) : List (Value × List Value) → Prop
  | [] => True
  | u :: r => (u.1.cells = u.2.toArray ∧ u.2.length = n) ∧ usOk n r
theorem us_all {n : Nat} : ∀ {us : List (Value × List Value)}, usOk n us → ∀ u ∈ us, u.1.cells = u.2.toArray ∧ u.2.length = n
  | [], _, u, hu => by cases hu
  | v :: r, h, u, hu => by
    rcases List.mem_cons.1 hu with rfl | hu
    · exact h.1
    · exact us_all h.2 u hu
def rdOk {α : Type} (S : Rep α) (I : Hp) : List (List Value × α) → Prop
  | [] => True
  | p :: r => S.rd I p.1 p.2 ∧ rdOk S I r
theorem rd_all {α : Type} {S : Rep α} : ∀ {l : List (List Value × α)}, rdOk S I l → ∀ p, p ∈ l → S.rd I p.1 p.2
  | [], _, u, hu => by cases hu
  | v :: r, h, u, hu => by
    rcases List.mem_cons.1 hu with rfl | hu
    · exact h.1
    · exact rd_all h.2 u hu
theorem OwnEls.stay' {α : Type} {R : Rep α} (hR : R.Sh) (hc : Cpy R R) : ∀ {xs : List α} {cur : List Value}, OwnEls R I w cur xs [] → OwnEls R I w' cur xs []
  | [], _, h => h
  | x :: xs, cur, ⟨d, rest, G, K, h1, h2, h3, h4, h5⟩ => by
    have hK : K = [] := by simp at h3; exact h3.2
    subst hK
    exact ⟨d, rest, [], [], h1, h2, rfl, hc (hR h4).2, h5.stay' hR hc⟩
/-! ### Elements written over -/
/-- putting other cells d, read as y, at offset off -/
def Upd {α β : Type} (R : Rep α) (off : Nat) (S : Rep β) (u : α → β → α) : Prop := ∀ I c x d y, R.rd I c x → S.rd I d y → R.rd I (spl c off d) (u x y)
theorem spl_eq : ∀ (d c : List Value) (off : Nat), off + d.length ≤ c.length → spl c off d = c.take off ++ d ++ c.drop (off + d.length)
  | [], c, off, h => by simp [spl]
  | v :: d, c, off, h => by
    rw [List.length_cons] at h
    rw [spl, spl_eq d _ _ (by rw [List.length_set]; omega)]
    have e1 : (c.set off v).take (off + 1) = c.take off ++ [v] := by
      rw [List.take_add_one, List.take_set_of_le (Nat.le_refl _), List.getElem?_set_self (by omega)]; rfl
    have e2 : (c.set off v).drop (off + 1 + d.length) = c.drop (off + 1 + d.length) := List.drop_set_of_lt (by omega)
    rw [e1, e2, List.length_cons, show off + (d.length + 1) = off + 1 + d.length from by omega]
    simp
theorem Upd.self {α : Type} {R : Rep α} : Upd R 0 R (fun _ y => y) := by
  intro I c x d y h k
  rw [spl_eq _ _ _ (by rw [R.rd_len h, R.rd_len k]; omega), R.rd_len k, ← R.rd_len h]
  simpa using k
theorem spl_left : ∀ (d c e : List Value) (off : Nat), off + d.length ≤ c.length → spl (c ++ e) off d = spl c off d ++ e
  | [], c, e, off, h => rfl
  | v :: d, c, e, off, h => by
    rw [List.length_cons] at h
    rw [spl, spl, List.set_append_left _ _ (by omega), spl_left d _ e _ (by rw [List.length_set]; omega)]
theorem spl_right : ∀ (d c e : List Value) (off : Nat), spl (c ++ e) (c.length + off) d = c ++ spl e off d
  | [], c, e, off => rfl
  | v :: d, c, e, off => by
    rw [spl, spl, List.set_append_right _ _ (by omega), Nat.add_sub_cancel_left, show c.length + off + 1 = c.length + (off + 1) from by omega, spl_right d]
theorem Upd.fst {α β γ : Type} {A : Rep α} {B : Rep β} {S : Rep γ} {off : Nat} {u : α → γ → α} (hs : off + S.size ≤ A.size) (h : Upd A off S u) : Upd (rProd A B) off S (fun x y => (u x.1 y, x.2)) := by
  rintro I c x d y ⟨c1, c2, rfl, h1, h2⟩ k
  rw [spl_left _ _ _ _ (by rw [A.rd_len h1, S.rd_len k]; exact hs)]
  exact ⟨_, c2, rfl, h I c1 x.1 d y h1 k, h2⟩
theorem Upd.snd {α β γ : Type} {A : Rep α} {B : Rep β} {S : Rep γ} {off : Nat} {u : β → γ → β} (h : Upd B off S u) : Upd (rProd A B) (A.size + off) S (fun x y => (x.1, u x.2 y)) := by
  rintro I c x d y ⟨c1, c2, rfl, h1, h2⟩ k
  rw [← A.rd_len h1, spl_right]
  exact ⟨c1, _, rfl, h1, h I c2 x.2 d y h2 k⟩
theorem OwnEls.set {α : Type} {R : Rep α} (hR : R.Sh) (hc : Cpy R R) {c : List Value} {y : α} (hy : R.rd I c y) : ∀ {xs : List α} {cur cur' : List Value} {k : Nat}, OwnEls R I w cur xs [] → k < xs.length → cur'.length = cur.length → (∀ j, j < R.size → cur'[k * R.size + j]? = c[j]?) → (∀ j, j < k * R.size ∨ k * R.size + R.size ≤ j → cur'[j]? = cur[j]?) → OwnEls R I w' cur' (xs.set k y) []
  | [], _, _, k, _, hk, _, _, _ => by simp at hk
  | x :: xs, cur, cur', 0, ⟨d, rest, G, K, h1, h2, h3, h4, h5⟩, hk, hl, h6, h7 => by
    have hK : K = [] := by simp at h3; exact h3.2
    subst hK; subst h1
    have hcl := R.rd_len hy
    refine ⟨c, cur'.drop R.size, [], [], ?_, hcl, rfl, hc hy, ?_⟩
    · apply List.ext_getElem?
      intro j
      by_cases hj : j < R.size
      · have := h6 j hj
        rw [Nat.zero_mul, Nat.zero_add] at this
        rw [this, List.getElem?_append_left (by omega)]
      · rw [List.getElem?_append_right (by omega), List.getElem?_drop]; congr 1; omega
    · have e : cur'.drop R.size = rest := by
        apply List.ext_getElem?
        intro j
        rw [List.getElem?_drop, h7 _ (.inr (by omega)), List.getElem?_append_right (by omega)]
        congr 1; omega
      rw [e]
      exact h5.stay' hR hc
  | x :: xs, cur, cur', k + 1, ⟨d, rest, G, K, h1, h2, h3, h4, h5⟩, hk, hl, h6, h7 => by
    have hK : K = [] := by simp at h3; exact h3.2
    have hG : G = [] := by simp at h3; exact h3.1
    subst hK; subst hG; subst h1
    have hm : (k + 1) * R.size = k * R.size + R.size := by rw [Nat.add_mul, Nat.one_mul]
    refine ⟨d, cur'.drop R.size, [], [], ?_, h2, rfl, hc (hR h4).2, ?_⟩
    · apply List.ext_getElem?
      intro j
      by_cases hj : j < R.size
      · rw [h7 j (.inl (by omega)), List.getElem?_append_left (by omega), List.getElem?_append_left (by omega)]
      · rw [List.getElem?_append_right (by omega), List.getElem?_drop]; congr 1; omega
    · refine OwnEls.set hR hc hy (cur := rest) h5 (by simpa using hk) ?_ (fun j hj => ?_) (fun j hj => ?_)
      · rw [List.length_drop, hl, List.length_append]; omega
      · rw [List.getElem?_drop, ← h6 j hj]; congr 1; omega
      · rw [List.getElem?_drop, h7 _ (by omega), List.getElem?_append_right (by omega)]; congr 1; omega
theorem spl_get {c d : List Value} {off j : Nat} (h : off + d.length ≤ c.length) : (spl c off d)[j]? = if off ≤ j ∧ j < off + d.length then d[j - off]? else c[j]? := by
  rw [spl_eq _ _ _ h]
  have h1 : (c.take off).length = off := by rw [List.length_take]; omega
  by_cases h2 : j < off
  · rw [if_neg (by omega), List.append_assoc, List.getElem?_append_left (by omega), List.getElem?_take, if_pos h2]
  · by_cases h3 : j < off + d.length
    · rw [if_pos (by omega), List.append_assoc, List.getElem?_append_right (by omega), h1, List.getElem?_append_left (by omega)]
    · rw [if_neg (by omega), List.getElem?_append_right (by rw [List.length_append]; omega), List.length_append, h1, List.getElem?_drop]; congr 1; omega
/-- a store into an element of an owned slice (of flat or frozen elements) -/
theorem opT_store_el {α β : Type} {E T : TypeId} {R : Rep α} {S : Rep β} {agg : Bool} {n k off : Nat} {f : α → β → α} {x y : Operand} {v u : Value} {xs : List α} {a : α} {b : β} {i : Int} {d : List Value} (hR : R.Sh) (hc : Cpy R R) (ha : getI xs i = some a) (hU : Upd R off S f) (hT : TI P T agg n) (ho : o.op = .store T x y) (hx : ev x = pt v (i.toNat * k + off)) (hy : ev y = u) (hu : u.cells = d.toArray) (h1 : d.all (·.oneCell') = true) (hd : d.length = n) (hk : R.size = k) (hS : off + n ≤ k) (hb : S.rd I d b) :
    OpT P I w0 o ev [Ch.own (rSlice E R) [v] xs] (fun _ => True) (fun _ => [Ch.own (rSlice E R) [v] (xs.set i.toNat (f a b))]) := by
  intro w C hs
  have hm := getI_at ha
  have hlt := (List.getElem?_eq_some_iff.1 hm).1
  obtain ⟨hb0, hi, F, ⟨G, K, rfl, ⟨hl, e2⟩, e3⟩, hnd, hI⟩ := hs
  rcases e2 with ⟨hv, rfl, rfl⟩ | ⟨g, cap, cur, K1, hv, k1, k2, k3, k4, rfl, k5⟩
  · simp at hlt
  obtain rfl : v = .slice (some ⟨g, 0, none⟩) xs.length cap := by simpa using hv
  have := k5.sh hR
  subst this
  obtain ⟨c, c1, c2, c3⟩ := k5.at Hp.le.rfl (by simp) i.toNat a hm
  have hfit : i.toNat * k + k ≤ cur.size := by
    rw [k4, hk]
    have : (i.toNat + 1) * k ≤ cap * k := Nat.mul_le_mul_right _ (by omega)
    rw [Nat.add_mul, Nat.one_mul] at this; exact this
  have hln : cur.toList.length = cur.size := Array.length_toList
  have hr := run_st (P := P) (w := w) hT (g := g) (o := 0 + (i.toNat * k + off)) hu hd (fun j hj => by
    simp only [World.cell?, k1, Option.isSome_none, Bool.false_eq_true, ite_false]
    rw [Array.getElem?_eq_getElem (by omega)]; rfl) (fun j => by simp [World.frozen?, k1]) (fun v hv => List.all_eq_true.1 h1 v hv)
  simp only [execOp, ho, hx, hy, pt, ptB, ptO, Sem.run_bind, hr, Result.andThen_ok]
  refine ⟨trivial, ?_⟩
  rw [Nat.zero_add]
  have hch : ∀ (d : List Value) (o : Nat) (w : World), (setsW w g o d).os = w.os ∧ (setsW w g o d).tape = w.tape ∧ (setsW w g o d).output = w.output ∧ (setsW w g o d).heap.size = w.heap.size ∧ ∀ b, b ≠ g → (setsW w g o d).heap[b]? = w.heap[b]? := by
    intro d
    induction d with
    | nil => intro o w; exact ⟨rfl, rfl, rfl, rfl, fun _ _ => rfl⟩
    | cons v d ih =>
      intro o w
      obtain ⟨i1, i2, i3, i4, i5⟩ := ih (o + 1) (w.setCell ⟨g, o, none⟩ v)
      exact ⟨i1, i2, i3, i4.trans (by simp [World.setCell]), fun b hb => (i5 b hb).trans (Below.heap_setCell _ _ _ _ hb)⟩
  have hrow : ∀ (d : List Value) (o : Nat) (w : World) (cur : Array Value), w.heap[g]? = some (.cells cur E (0, 0)) → (setsW w g o d).heap[g]? = some (.cells (spl cur.toList o d).toArray E (0, 0)) := by
    intro d
    induction d with
    | nil => intro o w cur h; simpa [setsW, spl] using h
    | cons v d ih =>
      intro o w cur h
      have := ih (o + 1) (w.setCell ⟨g, o, none⟩ v) (cur.setIfInBounds o v) (heap_setCell_at h)
      rw [Array.toList_setIfInBounds] at this
      exact this
  obtain ⟨q1, q2, q3, q4, q5⟩ := hch d (i.toNat * k + off) w
  have hgK : g ∉ K := by rw [List.cons_append] at hnd; simpa using (List.nodup_cons.1 hnd).1
  have hcl : c.length = k := by rw [c1, hk]
  have hrd : R.rd I (spl c off d) (f a b) := hU I c a d b c3 hb
  refine ⟨⟨q1.trans hb0.1, q2.trans hb0.2.1, q3.trans hb0.2.2.1, by rw [q4]; exact hb0.2.2.2⟩, fun b o hbo => ?_, [g] ++ K, ⟨[g], K, rfl, ⟨by rw [List.length_set]; exact hl, .inr ⟨g, cap, _, [], by rw [List.length_set], hrow d _ w cur k1, by rw [List.length_set]; exact k2, k3, by rw [List.size_toArray, spl_len]; rw [hln]; exact k4, rfl, ?_⟩⟩, e3.stay fun b hb => q5 b fun e => hgK (e ▸ hb)⟩, hnd, hI⟩
  · show (setsW w g (i.toNat * k + off) d).heap[b]? = some o
    rw [q5 b fun e => by rw [e, hI g (by simp)] at hbo; cases hbo]
    exact hi b o hbo
  · have hsp : ∀ j, (spl cur.toList (i.toNat * k + off) d)[j]? = if i.toNat * k + off ≤ j ∧ j < i.toNat * k + off + d.length then d[j - (i.toNat * k + off)]? else cur.toList[j]? := fun j => spl_get (by omega)
    refine OwnEls.set (w := w) hR hc hrd (cur := cur.toList) k5 hlt (by rw [spl_len]) (fun j hj => ?_) (fun j hj => ?_)
    · rw [hk] at hj ⊢
      rw [hsp, spl_get (by omega)]
      by_cases h : off ≤ j ∧ j < off + d.length
      · rw [if_pos h, if_pos (by omega)]; congr 1; omega
      · rw [if_neg h, if_neg (by omega)]
        have := c2 j (by omega)
        rw [hk] at this; exact this
    · rw [hk] at hj
      rw [hsp, if_neg (by omega)]
/-! ### make -/
def mkI {α : Type} (b : Nat) (n : Int) (z : α) : Option (List α) := if 0 ≤ n ∧ n.toNat * b ≤ 140737488355328 then some (List.replicate n.toNat z) else none
theorem opT_make {α : Type} {E T : TypeId} {R : Rep α} {zv : Value} {n b : Nat} {x y : Operand} {l : Int} {z : α} {xs : List α} (hc : Cpy R R) (hT : P.underlying T = some (.slice E)) (hE : TZ P E zv n b) (ho : o.op = .makeSlice T x y) (hR : R.size = n) (hn : 0 < n) (hb : 1 ≤ b) (hx : ev x = .int .i64 l) (hy : ev y = .int .i64 l) (hz : ∀ {I : Hp}, R.rd I zv.cells.toList z) (h : mkI b l z = some xs) : OpT P I w0 o ev [] (fun _ => True) (fun v => [Ch.own (rSlice E R) [v] xs]) := by
  intro w C hs
  unfold mkI at h
  split at h
  · rename_i hl
    obtain rfl := Option.some.inj h
    obtain ⟨i, hi, hz1, hsz, hby⟩ := info_parts hE
    have hzl : zv.cells.size = n := by have := R.rd_len (hz (I := I)); rw [Array.length_toList, hR] at this; exact this
    have hle : l.toNat ≤ 140737488355328 := Nat.le_trans (Nat.le_mul_of_pos_right _ hb) hl.2
    have hl' : (l.toNat : Int) = l := Int.toNat_of_nonneg hl.1
    have hr := run_make (P := P) w T E i zv hT hi hz1 .i64 .i64 l l hl.1 (Int.le_refl _) (by rw [hby, ← hl', ← Int.natCast_mul, Nat.mul_comm]; omega) (by omega)
    rw [hsz] at hr
    simp only [execOp, ho, hx, hy, Sem.run_bind, hr, Result.andThen_ok]
    refine ⟨trivial, ?_⟩
    have hs1 := hs.alloc (madeCells zv.cells (l.toNat * n)).toList E
    obtain ⟨hb0, hi0, F, ⟨G, K, rfl, ⟨rfl, hg⟩, hr2⟩, n1, n2⟩ := hs1
    refine ⟨hb0, hi0, [w.heap.size] ++ K, ⟨[w.heap.size], K, rfl, ⟨by rw [List.length_replicate]; unfold lim; omega, .inr ⟨w.heap.size, l.toNat, _, [], by rw [List.length_replicate], hg, by rw [List.length_replicate]; exact Nat.le_refl _, by unfold maxLen; omega, by rw [hR]; simp [madeCells], rfl, ?_⟩⟩, hr2⟩, n1, n2⟩
    have key : ∀ (W : World) (m : Nat), OwnEls R I W (madeCells zv.cells (m * n)).toList (List.replicate m z) [] := by
      intro W m
      induction m with
      | zero => exact rfl
      | succ m ih =>
        refine ⟨zv.cells.toList, (madeCells zv.cells (m * n)).toList, [], [], ?_, by rw [Array.length_toList, hzl, hR], rfl, hc hz, ih⟩
        apply List.ext_getElem?
        intro j
        by_cases hj : j < n
        · rw [List.getElem?_append_left (by rw [Array.length_toList, hzl]; exact hj)]
          have h1 : j < (m + 1) * n := by rw [Nat.add_mul, Nat.one_mul]; omega
          simp [madeCells, h1, hzl, Nat.mod_eq_of_lt hj, Array.getElem?_range]
          rw [getElem!_pos _ _ (by omega)]; simp [hzl, hj]
        · rw [List.getElem?_append_right (by rw [Array.length_toList, hzl]; omega), Array.length_toList, hzl]
          by_cases h1 : j < (m + 1) * n
          · have h2 : j - n < m * n := by rw [Nat.add_mul, Nat.one_mul] at h1; omega
            simp [madeCells, h1, h2, hzl, Array.getElem?_range]
            congr 1
            conv => lhs; rw [show j = (j - n) + n from by omega, Nat.add_mod_right]
          · have h2 : ¬ j - n < m * n := by rw [Nat.add_mul, Nat.one_mul] at h1; omega
            simp [madeCells, h1, h2]
    exact key _ l.toNat
  · cases h

theorem opT_app {α : Type} {E T : TypeId} {R : Rep α} {z : Value} {n b : Nat} {x y : Operand} {s u : Value} {xs ys zs : List α} (h : appI b xs ys = some zs) (hT : P.underlying T = some (.slice E)) (hE : TZ P E z n b) (hzs : z.cells.size = n) (hn : 0 < n) (hR : R.size = n) (hb1 : 1 ≤ b) (ho : o.op = .call { callee := .builtin .append, args := #[x, y], argTypes := #[T, T] }) (hx : ev x = s) (hy : ev y = u) :
    OpT P I w0 o ev [Ch.own (rSlice E R) [s] xs, Ch.own (rSlice E R) [u] ys] (fun _ => True) (fun v => [Ch.own (rSlice E R) [v] zs]) := by
  obtain ⟨rfl, hb⟩ := appI_some h
  exact opT_append hT hE hzs hn hR hb1 ho hx hy hb
theorem opT_app_fro {α : Type} {E T E' : TypeId} {R S : Rep α} {z : Value} {n b : Nat} {x y : Operand} {s u : Value} {xs ys zs : List α} (h : appI b xs ys = some zs) (hc : Cpy S R) (hSz : S.size = n) (hr : (rSlice E' S).rd I [u] ys) (hT : P.underlying T = some (.slice E)) (hE : TZ P E z n b) (hzs : z.cells.size = n) (hn : 0 < n) (hR : R.size = n) (hb1 : 1 ≤ b) (ho : o.op = .call { callee := .builtin .append, args := #[x, y], argTypes := #[T, T] }) (hx : ev x = s) (hy : ev y = u) :
    OpT P I w0 o ev [Ch.own (rSlice E R) [s] xs] (fun _ => True) (fun v => [Ch.own (rSlice E R) [v] zs]) := by
  obtain ⟨rfl, hb⟩ := appI_some h
  exact opT_append_fro hc hSz hr hT hE hzs hn hR hb1 ho hx hy hb
theorem opT_app_keep {α : Type} {E T : TypeId} {R : Rep α} {z : Value} {n b : Nat} {x y : Operand} {s u : Value} {xs ys zs : List α} (h : appI b xs ys = some zs) (hSh : R.Sh) (hc : Cpy R R) (hT : P.underlying T = some (.slice E)) (hE : TZ P E z n b) (hzs : z.cells.size = n) (hn : 0 < n) (hR : R.size = n) (hb1 : 1 ≤ b) (ho : o.op = .call { callee := .builtin .append, args := #[x, y], argTypes := #[T, T] }) (hx : ev x = s) (hy : ev y = u) :
    OpT P I w0 o ev [Ch.own (rSlice E R) [s] xs, Ch.own (rSlice E R) [u] ys] (fun _ => True) (fun v => [Ch.own (rSlice E R) [v] zs, Ch.own (rSlice E R) [u] ys]) := by
  obtain ⟨rfl, hb⟩ := appI_some h
  exact opT_append_keep hSh hc hT hE hzs hn hR hb1 ho hx hy hb
/-! ### Operands by their values -/
def evOk (ev ev' : Operand → Value) : List Operand → Prop
  | [] => True
  | x :: r => ev x = ev' x ∧ evOk ev ev' r
theorem OpT.evs {ev' : Operand → Value} {rn : List Ch} {fact : Value → Prop} {gv : Value → List Ch} (h : OpT P I w0 o ev' rn fact gv) (hn : noSelect o = true) (l : List Operand) (hl : o.op.operands.toList = l) (he : evOk ev ev' l) : OpT P I w0 o ev rn fact gv := by
  have hx : ∀ x ∈ o.op.operands, ev x = ev' x := by
    intro x hx
    have hx : x ∈ l := by rw [← hl]; simpa using hx
    clear hl h
    induction l with
    | nil => cases hx
    | cons y r ih =>
      rcases List.mem_cons.1 hx with rfl | hx
      · exact he.1
      · exact ih he.2 hx
  intro w C hs
  rw [execOp_same hn hx]
  exact h w C hs
theorem isPt_bk {v : Value} (h : IsPt v) : v = .pointer (some ⟨bk v, 0, none⟩) := by obtain ⟨g, rfl⟩ := h; rfl
theorem mb {p : Plan} {i j : Nat} (h : (p.before i).contains j = true) : j ∈ p.before i := List.contains_iff_mem.1 h
/-! ### Ways out -/
theorem joinRet {S T : Type} {k : S → Option T} {t t' : T} {o : T ⊕ S} (h : some (Sum.inl t') = some o) (hc : (∃ s, o = .inr s ∧ k s = some t) ∨ o = .inl t) : some t' = some t := by
  obtain rfl := Option.some.inj h
  rcases hc with ⟨s, h, _⟩ | h
  · cases h
  · rw [Sum.inl.inj h]
theorem loopRet {R S T : Type} {kr : R → Option T} {k : S → Option T} {t : T} {r : R} {o o' : Out R S} (h : some (Out.ret r) = some o') (hf : (∀ s', o' ≠ .nxt s') → o' = o) (hc : (∃ s, o = .brk s ∧ k s = some t) ∨ ∃ r, o = .ret r ∧ kr r = some t) : kr r = some t := by
  obtain rfl := Option.some.inj h
  obtain rfl := hf (by simp)
  rcases hc with ⟨s, h, _⟩ | ⟨r', h, h2⟩
  · cases h
  · obtain rfl := Out.ret.inj h; exact h2
theorem loopOut {R S T : Type} {kr : R → Option T} {k : S → Option T} {t : T} {s : S} {o : Out R S} (h : o = .brk s) (hc : (∃ s, o = .brk s ∧ k s = some t) ∨ ∃ r, o = .ret r ∧ kr r = some t) : k s = some t := by
  subst h
  rcases hc with ⟨s', h, h2⟩ | ⟨r', h, h2⟩
  · obtain rfl := Out.brk.inj h; exact h2
  · cases h
theorem joinOut {S T : Type} {k : S → Option T} {t : T} {s : S} {o : T ⊕ S} (h : o = .inr s) (hc : (∃ s, o = .inr s ∧ k s = some t) ∨ o = .inl t) : k s = some t := by
  subst h
  rcases hc with ⟨s', h, h2⟩ | h
  · obtain rfl := Sum.inr.inj h; exact h2
  · cases h
theorem loopBrk {R S : Type} {s : S} {o o' : Out R S} (h : some (Out.brk s) = some o') (hf : (∀ s', o' ≠ .nxt s') → o' = o) : o = .brk s := by
  obtain rfl := Option.some.inj h
  exact (hf (by simp)).symm
theorem wp_cut {x : Code} (M : Act → World → Prop) (h1 : x.wp P (Exit.then M Q) a w) (h2 : ∀ a w, M a w → Q .normal a w) : x.wp P Q a w :=
  wp_mono h1 fun e a w h => by cases e <;> first | exact h2 a w h | exact h

theorem beqT {b want : Bool} (h : b = want) : (b == want) = true := by rw [h]; cases want <;> rfl
theorem beqF {b want : Bool} (h : b = !want) : (b == want) = false := by rw [h]; cases want <;> rfl

theorem OpT.hdk {rn : List Ch} {fact : Value → Prop} {gv : Value → List Ch} {α : Type} {E : TypeId} {R : Rep α} {xs : List α} (u : Value → Value) (k : Nat) (hk : ∀ v, (gv v)[k]? = some (Ch.own (rSlice E R) [u v] xs)) (h : OpT P I w0 o ev rn fact gv) : OpT P I w0 o ev rn (fun v => fact v ∧ Hd (u v) xs.length) gv := by
  intro w C hs
  refine (h w C hs).imp fun v w hv => ⟨⟨hv.1, ?_⟩, hv.2⟩
  have hlt := (List.getElem?_eq_some_iff.1 (hk v)).1
  exact (hv.2.hd k (by rw [List.getElem?_append_left hlt]; exact hk v)).1
theorem OpT.comm {rn ls : List Ch} {fact : Value → Prop} {gv : Value → List Ch} (h : OpT P I w0 o ev rn fact (fun v => gv v ++ ls)) : OpT P I w0 o ev rn fact (fun v => ls ++ gv v) :=
  fun w C hs => (h w C hs).imp fun _ _ hv => ⟨hv.1, hv.2.perm (List.Perm.append_right _ List.perm_append_comm)⟩
theorem wants_und {vs : Nat → Value} {g : Nat} {want : Bool} (h : o.guard = some (g, want)) (hv : vs g = undef) : wants o vs = some false := by
  unfold wants; rw [h]; simp only; rw [hv]; rfl
theorem seq_skip_u {ops : Array Oper} {rest : List Oper} {g d : Nat} {want : Bool} (ha : Agr n a L) (hs : St I w0 w C) (hg : o.guard = some (g, want)) (hd : ((ops[g]?).bind (·.dst)) = some d) (hv : L.lookup d = some undef) (hn : dstOk n o.dst = true)
    (k : ∀ a, Agr n a (putL o.dst undef L) → wpList P ops Q rest a w) : wpList P ops Q (o :: rest) a w := by
  refine wpList_skip ?_ (k _ (ha.put undef hn))
  have h := ha.2.2 d _ hv
  unfold Region.wanted yielded
  rw [hg]; simp only
  rw [hd]; simp only [Option.bind_some]
  rw [Array.getD_eq_getD_getElem?] at h
  cases ht : a.tmps[d]? with
  | none => rfl
  | some u =>
    rw [ht] at h
    simp only [Option.getD_some] at h
    rw [h]; rfl
theorem opT_eqs {x y : Operand} {t u : TypeId} {a b : ByteArray} (ho : o.op = .binOp .eql t x y u) (hx : ev x = .string a) (hy : ev y = .string b) : OpT P I w0 o ev [] (· = .bool (a == b)) (fun _ => []) :=
  opT_val fun w => by rw [beq_toListBytes]; simp only [execOp, ho, hx, hy]; rfl
theorem opT_nes {x y : Operand} {t u : TypeId} {a b : ByteArray} (ho : o.op = .binOp .neq t x y u) (hx : ev x = .string a) (hy : ev y = .string b) : OpT P I w0 o ev [] (· = .bool (a != b)) (fun _ => []) :=
  opT_val fun w => by unfold bne; rw [beq_toListBytes]; simp only [execOp, ho, hx, hy]; rfl
/-- two values of a type that is compared part by part -/
def EqT (P : Program) (t : TypeId) (x y : Value) (b : Bool) (w : World) : Prop := (Op.equal t x y).run P w = .ok b w ∧ (eqGuard .eql t (.const x) (.const y) x y).run P w = .ok () w ∧ (eqGuard .neq t (.const x) (.const y) x y).run P w = .ok () w
theorem opT_eqv {x y : Operand} {t u : TypeId} {va vb : Array Value} {b : Bool} (h : ∀ w, EqT P t (.agg va) (.agg vb) b w) (ho : o.op = .binOp .eql t x y u) (hx : ev x = .agg va) (hy : ev y = .agg vb) {c : Bool} (hc : b = c) : OpT P I w0 o ev [] (· = .bool c) (fun _ => []) :=
  opT_val fun w => by
    subst hc
    obtain ⟨h1, h2, h3⟩ := h w
    have g2 : binOp .eql t (.agg va) (.agg vb) = (do pure (.bool (← Op.equal t (.agg va) (.agg vb)))) := rfl
    have g3 : (eqGuard .eql t x y (.agg va) (.agg vb)).run P w = .ok () w := h2
    simp only [execOp, ho, hx, hy, g2, Sem.run_bind, Sem.run_pure, g3, h1, Result.andThen_ok]
theorem opT_nev {x y : Operand} {t u : TypeId} {va vb : Array Value} {b : Bool} (h : ∀ w, EqT P t (.agg va) (.agg vb) b w) (ho : o.op = .binOp .neq t x y u) (hx : ev x = .agg va) (hy : ev y = .agg vb) {c : Bool} (hc : (!b) = c) : OpT P I w0 o ev [] (· = .bool c) (fun _ => []) :=
  opT_val fun w => by
    subst hc
    obtain ⟨h1, h2, h3⟩ := h w
    have g2 : binOp .neq t (.agg va) (.agg vb) = (do pure (.bool (!(← Op.equal t (.agg va) (.agg vb))))) := rfl
    have g3 : (eqGuard .neq t x y (.agg va) (.agg vb)).run P w = .ok () w := h3
    simp only [execOp, ho, hx, hy, g2, Sem.run_bind, Sem.run_pure, g3, h1, Result.andThen_ok]

theorem eqF_nil {d : Nat} {xs ys : Array Value} (w : World) : (Op.eqFields d xs ys []).run P w = .ok true w := rfl
theorem eqF_cons {d : Nat} {xs ys : Array Value} {f : Field} {fs : List Field} {va vb : Value} {r r2 : Bool} {w : World} (hn : (f.name != "_") = true) (ha : (part f.type xs f.offset).run P w = .ok va w) (hb : (part f.type ys f.offset).run P w = .ok vb w) (he : (Op.equalIn d f.type va vb).run P w = .ok r w) (h2 : (Op.eqFields d xs ys fs).run P w = .ok r2 w) : (Op.eqFields d xs ys (f :: fs)).run P w = .ok (r && r2) w := by
  rw [Op.eqFields, if_pos (by simpa using hn)]
  simp only [Sem.run_bind, ha, hb, he, Result.andThen_ok]
  cases r
  · rfl
  · simpa using h2
theorem part_1 {T : TypeId} {cs : Array Value} {off : Nat} {v : Value} {w : World} (hT : TI P T false 1) (h : cs[off]? = some v) : (part T cs off).run P w = .ok v w := by
  unfold part
  rw [Sem.run_bind, hT.run_agg]
  simp [h, Result.andThen]
theorem part_s {T : TypeId} {cs : Array Value} {off n : Nat} {v : Array Value} {w : World} (hT : TI P T true n) (h : cs.extract off (off + n) = v) : (part T cs off).run P w = .ok (.agg v) w := by
  unfold part
  rw [Sem.run_bind, hT.run_agg]
  simp only [Result.andThen_ok, if_true, Sem.run_bind, hT.run_size, h]
  rfl
theorem eqT_of {t : TypeId} {fs : Array Field} {xs ys : Array Value} {b : Bool} (w : World) (ht : P.underlying t = some (.struct fs)) (hp : P.stoodInHeld t = false) (hm : P.eqGuardType P.depth t = false) (h : (Op.eqFields 9999 xs ys fs.toList).run P w = .ok b w) : EqT P t (.agg xs) (.agg ys) b w := by
  have hf : P.fieldsOf t = fs := by unfold Program.fieldsOf; rw [ht]
  refine ⟨?_, run_eqGuard_agg w _ _ _ _ _ _ hm, run_eqGuard_agg w _ _ _ _ _ _ hm⟩
  unfold Op.equal Op.maxDepth
  rw [show (10000 : Nat) = 9999 + 1 from rfl, run_equalIn_agg w 9999 t xs ys (by rw [hf]; exact ht) hp, hf]; exact h
theorem eqIn_of {d : Nat} {t : TypeId} {fs : Array Field} {xs ys : Array Value} {b : Bool} {w : World} (ht : P.underlying t = some (.struct fs)) (hp : P.stoodInHeld t = false) (h : (Op.eqFields d xs ys fs.toList).run P w = .ok b w) : (Op.equalIn (d + 1) t (.agg xs) (.agg ys)).run P w = .ok b w := by
  have hf : P.fieldsOf t = fs := by unfold Program.fieldsOf; rw [ht]
  rw [run_equalIn_agg w d t xs ys (by rw [hf]; exact ht) hp, hf]; exact h
end
end Go.Proofs.Ytfkocnnphjkmfaa.D
