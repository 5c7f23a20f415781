/- A region that draws its order: one proof a operation serves every order. No program text is named here. -/
import Derived.Test.YtfkocnnphjkmfaaTok
set_option linter.unusedVariables false
set_option linter.unusedSimpArgs false
set_option linter.unnecessarySimpa false
namespace Go.Proofs.Ytfkocnnphjkmfaa.D
open Go.RowKit

structure OpRec where
  reads : List Nat
  needs : List Nat
  gives : List Nat
  deps : List Nat
  fact : List Value → Prop
  src : List (Nat × Option Nat)
structure ResRec where
  deps : List Nat
  ch : List Value → Ch
/-- what is said of a drawn region: of each operation, of each chunk; the chunks at the start; what comes before what -/
structure Plan where
  ops : List OpRec
  res : List ResRec
  base : List Nat
  pre : List (List Nat)
  fin : List (Nat × Option Nat)
  left : List Nat
def upd (vs : Nat → Value) (i : Nat) (v : Value) : Nat → Value := fun j => if j = i then v else vs j
theorem upd_self {vs : Nat → Value} {i : Nat} {v : Value} : upd vs i v i = v := by simp [upd]
theorem upd_ne {vs : Nat → Value} {i j : Nat} {v : Value} (h : j ≠ i) : upd vs i v j = vs j := by simp [upd, h]
namespace Plan
def op (p : Plan) (i : Nat) : OpRec := p.ops.getD i ⟨[], [], [], [], fun _ => True, []⟩
def chunk (p : Plan) (r : Nat) (vs : Nat → Value) : Ch :=
  match p.res[r]? with
  | some x => x.ch (x.deps.map vs)
  | none => Ch.fr (fun _ => none) []
def before (p : Plan) (i : Nat) : List Nat := p.pre.getD i []
def fact (p : Plan) (i : Nat) (vs : Nat → Value) : Prop := (p.op i).fact ((p.op i).deps.map vs)
def ev (p : Plan) (L : List (Nat × Value)) (i : Nat) (vs : Nat → Value) : Operand → Value
  | .tmp t => match (p.op i).src.lookup t with
    | some (some j) => vs j
    | _ => (L.lookup t).getD undef
  | x => evL L x
end Plan
def edgesOf (o : Oper) : List Nat := (o.after.toList.filter (Region.binds .any)).map (·.on)
def slotsOf (ops : Array Oper) (o : Oper) : List Nat := o.looksAt ops
def wants (o : Oper) (vs : Nat → Value) : Option Bool :=
  match o.guard with
  | none => some true
  | some (g, want) => match vs g with
    | .bool b => some (b == want)
    | _ => some false
/-- what is to be shown of operation i -/
def Plan.goal (p : Plan) (P : Program) (I : Hp) (w0 : World) (L : List (Nat × Value)) (i : Nat) (o : Oper) : Prop :=
  ∀ vs, (∀ j, j ∈ p.before i → p.fact j vs) →
    match wants o vs with
    | some true => OpT P I w0 o (p.ev L i vs) (((p.op i).reads ++ (p.op i).needs).map (p.chunk · vs)) (fun v => p.fact i (upd vs i v)) (fun v => ((p.op i).reads ++ (p.op i).gives).map (p.chunk · (upd vs i v)))
    | some false => p.fact i (upd vs i undef) ∧ (p.op i).needs = [] ∧ (p.op i).gives = []
    | none => False
def Plan.goals (p : Plan) (P : Program) (I : Hp) (w0 : World) (L : List (Nat × Value)) : Nat → List Oper → Prop
  | _, [] => True
  | i, o :: rest => p.goal P I w0 L i o ∧ p.goals P I w0 L (i + 1) rest
/-- the look over a plan -/
def Plan.ok (p : Plan) (n : Nat) (L : List (Nat × Value)) (ops : List Oper) : Bool :=
  let m := ops.length
  let all := List.range m
  let dst (j : Nat) := (ops[j]?).bind (·.dst)
  let e := p.ops
  p.ops.length == m && p.pre.length == m &&
  all.all fun i =>
    match ops[i]? with
    | none => false
    | some o =>
      let b := p.before i
      let r := p.op i
      noSelect o && dstOk n o.dst && (edgesOf o).all (fun j => j < i) &&
      -- what comes before
      b.all (fun j => j < i && ((edgesOf o).contains j || (edgesOf o).any fun k => k < i && (p.before k).contains j)) &&
      -- the slots
      ((slotsOf ops.toArray o).all fun t => match r.src.lookup t with
        | none => false
        | some none => (L.lookup t).isSome && all.all fun j => dst j != some t || j == i || (p.before j).contains i
        | some (some j) => dst j == some t && b.contains j && all.all fun k => dst k != some t || k == j || k == i || (p.before j).contains k || (p.before k).contains i) &&
      (match o.guard with
        | none => true
        | some (g, _) => match dst g with
          | none => false
          | some t => r.src.lookup t == some (some g)) &&
      -- the facts
      r.deps.all (fun j => j == i || b.contains j) &&
      -- the chunks
      (r.reads ++ r.needs).all (fun x => x < p.res.length && (p.base.contains x || b.any fun j => (p.op j).gives.contains x)) &&
      r.reads.all (fun x => all.all fun k => k == i || !(p.op k).needs.contains x || (p.before k).contains i) &&
      r.needs.all (fun x => all.all fun k => k == i || !(p.op k).needs.contains x) &&
      r.gives.all (fun x => x < p.res.length && !p.base.contains x && !(r.reads ++ r.needs).contains x && all.all (fun k => k == i || !(p.op k).gives.contains x) && (match p.res[x]? with | some q => q.deps.all (fun j => j == i || b.contains j) | none => false)) &&
      decide (r.reads ++ r.needs).Nodup && decide (r.reads ++ r.gives).Nodup
def Plan.okB (p : Plan) (L : List (Nat × Value)) (ops : List Oper) : Bool :=
  let m := ops.length
  let all := List.range m
  let dst (j : Nat) := (ops[j]?).bind (·.dst)
  decide p.base.Nodup && p.base.all (fun x => x < p.res.length && match p.res[x]? with | some q => q.deps == [] | none => false) &&
  decide p.left.Nodup && p.left.all (fun x => (p.base.contains x || all.any fun j => (p.op j).gives.contains x) && all.all fun j => !(p.op j).needs.contains x) &&
  (p.base ++ all.flatMap fun j => (p.op j).gives).all (fun x => p.left.contains x || all.any fun j => (p.op j).needs.contains x) &&
  p.fin.all fun (t, s) => match s with
    | none => (L.lookup t).isSome && all.all fun j => dst j != some t
    | some j => decide (j < m) && dst j == some t && all.all fun k => dst k != some t || k == j || (p.before j).contains k
/-- the slots behind the region -/
def Plan.out (p : Plan) (L : List (Nat × Value)) (vs : Nat → Value) : List (Nat × Value) :=
  p.fin.map fun (t, s) => (t, match s with | some j => vs j | none => (L.lookup t).getD undef)

/-- what holds when the operations S have been carried out -/
structure Inv (p : Plan) (C : List Ch) (I : Hp) (w0 : World) (n : Nat) (L : List (Nat × Value)) (ops : Array Oper) (S : Nat → Bool) (vs : Nat → Value) (a : Act) (w : World) : Prop where
  closed : ∀ i, S i = true → ∀ j, j ∈ p.before i → S j = true
  lt : ∀ i, S i = true → i < ops.size
  defers : a.defers = []
  size : a.tmps.size = n
  old : ∀ t v, L.lookup t = some v → (∀ j, S j = true → (ops[j]?).bind (·.dst) ≠ some t) → a.tmps.getD t undef = v
  new : ∀ j t, S j = true → (ops[j]?).bind (·.dst) = some t → (∀ k, S k = true → (ops[k]?).bind (·.dst) = some t → k = j ∨ k ∈ p.before j) → a.tmps.getD t undef = vs j
  facts : ∀ i, S i = true → p.fact i vs
  st : ∃ l : List Nat, l.Nodup ∧ (∀ x, x ∈ l ↔ (x ∈ p.base ∨ ∃ j, S j = true ∧ x ∈ (p.op j).gives) ∧ ¬ ∃ j, S j = true ∧ x ∈ (p.op j).needs) ∧ St I w0 w (l.map (p.chunk · vs) ++ C)

/-- the look, as said -/
structure Plan.Good (p : Plan) (n : Nat) (L : List (Nat × Value)) (ops : Array Oper) (i : Nat) (o : Oper) : Prop where
  sel : noSelect o = true
  dst : dstOk n o.dst = true
  edges : ∀ j, j ∈ edgesOf o → j < i
  bef : ∀ j, j ∈ p.before i → j < i ∧ (j ∈ edgesOf o ∨ ∃ k, k ∈ edgesOf o ∧ j ∈ p.before k)
  slots : ∀ t, t ∈ slotsOf ops o → ((p.op i).src.lookup t = some none ∧ (L.lookup t).isSome = true ∧ ∀ j, j < ops.size → (ops[j]?).bind (·.dst) = some t → j = i ∨ i ∈ p.before j) ∨
    ∃ j, (p.op i).src.lookup t = some (some j) ∧ (ops[j]?).bind (·.dst) = some t ∧ j ∈ p.before i ∧ ∀ k, k < ops.size → (ops[k]?).bind (·.dst) = some t → k = j ∨ k = i ∨ k ∈ p.before j ∨ i ∈ p.before k
  guard : ∀ g want, o.guard = some (g, want) → ∃ t, (ops[g]?).bind (·.dst) = some t ∧ (p.op i).src.lookup t = some (some g)
  deps : ∀ j, j ∈ (p.op i).deps → j = i ∨ j ∈ p.before i
  have_ : ∀ x, x ∈ (p.op i).reads ++ (p.op i).needs → x ∈ p.base ∨ ∃ j, j ∈ p.before i ∧ x ∈ (p.op j).gives
  keep : ∀ x, x ∈ (p.op i).reads → ∀ k, k < ops.size → x ∈ (p.op k).needs → k = i ∨ i ∈ p.before k
  once : ∀ x, x ∈ (p.op i).needs → ∀ k, k < ops.size → x ∈ (p.op k).needs → k = i
  give : ∀ x, x ∈ (p.op i).gives → x ∉ p.base ∧ x ∉ (p.op i).reads ++ (p.op i).needs ∧ (∀ k, k < ops.size → x ∈ (p.op k).gives → k = i) ∧ ∃ q, p.res[x]? = some q ∧ ∀ j, j ∈ q.deps → j = i ∨ j ∈ p.before i
  nd1 : ((p.op i).reads ++ (p.op i).needs).Nodup
  nd2 : ((p.op i).reads ++ (p.op i).gives).Nodup

theorem Plan.good_of_ok {p : Plan} {n : Nat} {L : List (Nat × Value)} {ops : List Oper} (h : p.ok n L ops = true) {i : Nat} {o : Oper} (hi : ops[i]? = some o) : p.Good n L ops.toArray i o := by
  have him : i < ops.length := (List.getElem?_eq_some_iff.1 hi).1
  unfold Plan.ok at h
  simp only [Bool.and_eq_true, List.all_eq_true] at h
  obtain ⟨-, h⟩ := h
  have h := h i (List.mem_range.2 him)
  rw [hi] at h
  simp only [Bool.and_eq_true, List.all_eq_true, decide_eq_true_eq, List.any_eq_true, Bool.or_eq_true, List.contains_iff_mem, Bool.not_eq_true', bne_iff_ne, beq_iff_eq] at h
  obtain ⟨⟨⟨⟨⟨⟨⟨⟨⟨⟨⟨⟨h1, h2⟩, h2'⟩, h3⟩, h4⟩, h5⟩, h6⟩, h7⟩, h8⟩, h9⟩, h10⟩, h11⟩, h12⟩ := h
  have hr : ∀ k, k < ops.toArray.size → k ∈ List.range ops.length := fun k hk => List.mem_range.2 (by simpa using hk)
  refine ⟨h1, h2, h2', fun j hj => ?_, fun t ht => ?_, fun g want hg => ?_, h6, fun x hx => (h7 x hx).2, fun x hx k hk hn => ?_, fun x hx k hk hn => ?_, fun x hx => ?_, h11, h12⟩
  · obtain ⟨e1, e2⟩ := h3 j hj
    refine ⟨e1, ?_⟩
    rcases e2 with e | ⟨k, hk, -, e⟩
    · exact .inl e
    · exact .inr ⟨k, hk, e⟩
  · have := h4 t ht
    split at this
    · cases this
    · rename_i he
      simp only [Bool.and_eq_true, List.all_eq_true, Bool.or_eq_true, bne_iff_ne, beq_iff_eq, List.contains_iff_mem] at this
      refine .inl ⟨he, this.1, fun j hj hd => ?_⟩
      rcases this.2 j (hr j hj) with (e | e) | e
      · exact absurd (by simpa using hd) e
      · exact .inl e
      · exact .inr e
    · rename_i j he
      simp only [Bool.and_eq_true, List.all_eq_true, Bool.or_eq_true, bne_iff_ne, beq_iff_eq, List.contains_iff_mem] at this
      refine .inr ⟨j, he, by simpa using this.1.1, this.1.2, fun k hk hd => ?_⟩
      rcases this.2 k (hr k hk) with (((e | e) | e) | e) | e
      · exact absurd (by simpa using hd) e
      · exact .inl e
      · exact .inr (.inl e)
      · exact .inr (.inr (.inl e))
      · exact .inr (.inr (.inr e))
  · rw [hg] at h5
    simp only at h5
    split at h5
    · cases h5
    · rename_i t ht
      exact ⟨t, by simpa using ht, by simpa using h5⟩
  · rcases h8 x hx k (hr k hk) with (e | e) | e
    · exact .inl e
    · rw [← Bool.not_eq_true, List.contains_iff_mem] at e; exact absurd hn e
    · exact .inr e
  · rcases h9 x hx k (hr k hk) with e | e
    · exact e
    · rw [← Bool.not_eq_true, List.contains_iff_mem] at e; exact absurd hn e
  · obtain ⟨⟨⟨⟨e1, e2⟩, e3⟩, e4⟩, e5⟩ := h10 x hx
    refine ⟨by rw [← Bool.not_eq_true, List.contains_iff_mem] at e2; exact e2, by rw [← Bool.not_eq_true, List.contains_iff_mem] at e3; exact e3, fun k hk hn => ?_, ?_⟩
    · rcases e4 k (hr k hk) with e | e
      · exact e
      · rw [← Bool.not_eq_true, List.contains_iff_mem] at e; exact absurd hn e
    · split at e5
      · rename_i q hq
        simp only [List.all_eq_true, Bool.or_eq_true, beq_iff_eq, List.contains_iff_mem] at e5
        exact ⟨q, hq, e5⟩
      · cases e5

section
variable {p : Plan} {C : List Ch} {P : Program} {I : Hp} {w0 : World} {n : Nat} {L : List (Nat × Value)} {ops : List Oper} {S : Nat → Bool} {vs : Nat → Value} {a : Act} {w : World} {i : Nat} {o : Oper}
theorem chunk_upd {x : Nat} {v : Value} (h : ∀ q, p.res[x]? = some q → i ∉ q.deps) : p.chunk x (upd vs i v) = p.chunk x vs := by
  unfold Plan.chunk
  cases hq : p.res[x]? with
  | none => rfl
  | some q =>
    simp only
    congr 1
    exact List.map_congr_left fun j hj => upd_ne fun e => h q hq (e ▸ hj)
/-- one operation more -/
theorem Inv.step (hok : p.ok n L ops = true) (hB : p.okB L ops = true) (hg : p.goal P I w0 L i o) (hi : ops[i]? = some o) (h : Inv p C I w0 n L ops.toArray S vs a w) (hn : S i = false) (hpre : ∀ j, j ∈ p.before i → S j = true) {K : Act → World → Prop} {Q : Exit → Act → World → Prop}
    (hK : ∀ vs a w, Inv p C I w0 n L ops.toArray (fun j => S j || j == i) vs a w → K a w) : wpOp P ops.toArray Q i K a w := by
  have G := Plan.good_of_ok hok hi
  have him : i < ops.toArray.size := by have := (List.getElem?_eq_some_iff.1 hi).1; simpa using this
  -- what the slots hold
  have hcl : ∀ j, S j = true → i ∉ p.before j := fun j hj hb => by rw [h.closed j hj i hb] at hn; cases hn
  have slot : ∀ t, t ∈ slotsOf ops.toArray o → a.tmps.getD t undef = p.ev L i vs (.tmp t) := by
    intro t ht
    rcases G.slots t ht with ⟨e1, e2, e3⟩ | ⟨j, e1, e2, e3, e4⟩
    · obtain ⟨v, hv⟩ := Option.isSome_iff_exists.1 e2
      simp only [Plan.ev, e1, hv, Option.getD_some]
      refine h.old t v hv fun j hj hd => ?_
      rcases e3 j (h.lt j hj) hd with rfl | e
      · rw [hn] at hj; cases hj
      · exact hcl j hj e
    · simp only [Plan.ev, e1]
      refine h.new j t (hpre j e3) e2 fun k hk hd => ?_
      rcases e4 k (h.lt k hk) hd with e | e | e | e
      · exact .inl e
      · subst e; rw [hn] at hk; cases hk
      · exact .inr e
      · exact absurd e (hcl k hk)
  have hev : ∀ x, x ∈ o.op.operands → a.eval x = p.ev L i vs x := by
    intro x hx
    cases x with
    | tmp t =>
      refine slot t ?_
      unfold slotsOf Oper.looksAt
      refine List.mem_append_left _ (List.mem_filterMap.2 ⟨.tmp t, by simpa using hx, rfl⟩)
    | _ => rfl
  have hfacts : ∀ j, j ∈ p.before i → p.fact j vs := fun j hj => h.facts j (hpre j hj)
  have goal := hg vs hfacts
  -- the rest, once the value is there
  have main : ∀ v w', p.fact i (upd vs i v) → (∃ l : List Nat, l.Nodup ∧ (∀ x, x ∈ l ↔ (x ∈ p.base ∨ ∃ j, (S j || j == i) = true ∧ x ∈ (p.op j).gives) ∧ ¬ ∃ j, (S j || j == i) = true ∧ x ∈ (p.op j).needs) ∧ St I w0 w' (l.map (p.chunk · (upd vs i v)) ++ C)) → K (a.put o.dst v) w' := by
    intro v w' hf hst
    refine hK (upd vs i v) _ _ ⟨?_, ?_, ?_, ?_, ?_, ?_, ?_, hst⟩
    · intro j hj k hk
      simp only [Bool.or_eq_true, beq_iff_eq] at hj ⊢
      rcases hj with hj | rfl
      · exact .inl (h.closed j hj k hk)
      · exact .inl (hpre k hk)
    · intro j hj
      simp only [Bool.or_eq_true, beq_iff_eq] at hj
      rcases hj with hj | rfl
      · exact h.lt j hj
      · exact him
    · cases hd : o.dst <;> simp [Act.put, h.defers]
    · cases hd : o.dst <;> simp [Act.put, h.size]
    · intro t u hu hj
      have hne : o.dst ≠ some t := by
        have := hj i (by simp)
        rwa [show (ops.toArray[i]?) = some o from by simpa using hi] at this
      have h0 := h.old t u hu fun j hS => hj j (by simp [hS])
      cases hd : o.dst with
      | none => exact h0
      | some d =>
        show (a.tmps.setIfInBounds d v).getD t undef = u
        rw [getD_set_ne (fun e => hne (by rw [hd, e]))]; exact h0
    · intro j t hj hd hk
      simp only [Bool.or_eq_true, beq_iff_eq] at hj
      by_cases hdt : o.dst = some t
      · have hji : j = i := by
          rcases hj with hj | rfl
          · rcases hk i (by simp) (by rw [show (ops.toArray[i]?) = some o from by simpa using hi]; exact hdt) with e | e
            · exact e.symm
            · exact absurd e (hcl j hj)
          · rfl
        subst hji
        have hlt := G.dst
        rw [hdt] at hlt
        have hlt : t < n := by simpa [dstOk] using hlt
        rw [hdt, upd_self]
        exact getD_set_self (by rw [h.size]; exact hlt)
      · have hji : j ≠ i := by
          rintro rfl
          rw [show (ops.toArray[j]?) = some o from by simpa using hi] at hd
          exact hdt hd
        have hjS : S j = true := by rcases hj with hj | e; exact hj; exact absurd e hji
        rw [upd_ne hji]
        have h0 := h.new j t hjS hd fun k hk' => hk k (by simp [hk'])
        cases hd : o.dst with
        | none => exact h0
        | some d =>
          show (a.tmps.setIfInBounds d v).getD t undef = _
          rw [getD_set_ne (fun e => hdt (by rw [hd, e]))]; exact h0
    · intro j hj
      simp only [Bool.or_eq_true, beq_iff_eq] at hj
      by_cases e : j = i
      · subst e; exact hf
      · have hjS : S j = true := by rcases hj with hj | e'; exact hj; exact absurd e' e
        have := h.facts j hjS
        unfold Plan.fact at this ⊢
        rwa [List.map_congr_left fun k hk => upd_ne (i := i) (v := v) fun e' => ?_]
        subst e'
        have hjm : j < ops.length := by simpa using h.lt j hjS
        rcases (Plan.good_of_ok hok (List.getElem?_eq_getElem hjm)).deps k hk with rfl | e'
        · exact e rfl
        · exact hcl j hjS e'
  obtain ⟨l, l1, l2, l3⟩ := h.st
  -- the chunks that are there do not hang on the new value
  have hstay : ∀ v x, x ∈ l → p.chunk x (upd vs i v) = p.chunk x vs := by
    intro v x hx
    refine chunk_upd fun q hq hd => ?_
    rcases ((l2 x).1 hx).1 with hb | ⟨j, hj, hxj⟩
    · unfold Plan.okB at hB
      simp only [Bool.and_eq_true, List.all_eq_true] at hB
      have := hB.1.1.1.1.2 x hb
      rw [hq] at this
      simp only [Bool.and_eq_true, beq_iff_eq] at this
      rw [this.2] at hd; cases hd
    · have hjm : j < ops.length := by simpa using h.lt j hj
      obtain ⟨-, -, -, q', hq', e⟩ := (Plan.good_of_ok hok (List.getElem?_eq_getElem hjm)).give x hxj
      rw [hq] at hq'; obtain rfl := Option.some.inj hq'
      rcases e i hd with rfl | e
      · rw [hn] at hj; cases hj
      · exact hcl j hj e
  unfold wpOp
  rw [show (ops.toArray[i]?) = some o from by simpa using hi]
  simp only
  -- what the guard says
  have hwant : Region.wanted o (yielded ops.toArray a.tmps) = true ↔ wants o vs = some true := by
    unfold Region.wanted wants
    cases hgd : o.guard with
    | none => simp
    | some q =>
      obtain ⟨g, want⟩ := q
      obtain ⟨t, e1, e2⟩ := G.guard g want hgd
      have ht : t ∈ slotsOf ops.toArray o := by
        unfold slotsOf Oper.looksAt
        refine List.mem_append_right _ ?_
        rw [hgd]
        simp only
        rw [e1]; simp
      have hv := slot t ht
      simp only [Plan.ev, e2] at hv
      have hy : yielded ops.toArray a.tmps g = match vs g with | .bool b => some b | _ => none := by
        unfold yielded
        rw [e1]
        simp only [Option.bind_some]
        rw [Array.getD_eq_getD_getElem?] at hv
        cases ht : a.tmps[t]? with
        | none =>
          rw [ht] at hv
          rw [← hv]; rfl
        | some u =>
          rw [ht] at hv
          simp only [Option.getD_some] at hv
          rw [hv]
          cases vs g <;> rfl
      simp only [hy]
      cases hvg : vs g <;> simp
  cases hw : wants o vs with
  | none => rw [hw] at goal; exact goal.elim
  | some b =>
    cases b with
    | false =>
      rw [hw] at goal
      simp only at goal
      rw [if_neg (by rw [hwant, hw]; simp)]
      refine main undef w goal.1 ⟨l, l1, fun x => ?_, ?_⟩
      · rw [l2]
        obtain ⟨-, g2, g3⟩ := goal
        constructor
        · rintro ⟨h1, h2⟩
          refine ⟨h1.imp id fun ⟨j, hj, hx⟩ => ⟨j, by simp [hj], hx⟩, fun ⟨j, hj, hx⟩ => ?_⟩
          simp only [Bool.or_eq_true, beq_iff_eq] at hj
          rcases hj with hj | rfl
          · exact h2 ⟨j, hj, hx⟩
          · rw [g2] at hx; cases hx
        · rintro ⟨h1, h2⟩
          refine ⟨?_, fun ⟨j, hj, hx⟩ => h2 ⟨j, by simp [hj], hx⟩⟩
          rcases h1 with h1 | ⟨j, hj, hx⟩
          · exact .inl h1
          · simp only [Bool.or_eq_true, beq_iff_eq] at hj
            rcases hj with hj | rfl
            · exact .inr ⟨j, hj, hx⟩
            · rw [g3] at hx; cases hx
      · rw [List.map_congr_left fun x hx => hstay undef x hx]; exact l3
    | true =>
      rw [hw] at goal
      simp only at goal
      rw [if_pos (by rw [hwant, hw])]
      refine .inl ?_
      -- what the operation takes is there
      have hin : ∀ x, x ∈ (p.op i).reads ++ (p.op i).needs → x ∈ l := by
        intro x hx
        rw [l2]
        refine ⟨(G.have_ x hx).imp id fun ⟨j, hj, e⟩ => ⟨j, hpre j hj, e⟩, fun ⟨k, hk, e⟩ => ?_⟩
        rcases List.mem_append.1 hx with hx | hx
        · rcases G.keep x hx k (h.lt k hk) e with rfl | e'
          · rw [hn] at hk; cases hk
          · exact hcl k hk e'
        · have := G.once x hx k (h.lt k hk) e
          subst this; rw [hn] at hk; cases hk
      let r := l.filter fun x => !((p.op i).reads ++ (p.op i).needs).contains x
      have hr : ∀ x, x ∈ r ↔ x ∈ l ∧ x ∉ (p.op i).reads ++ (p.op i).needs := by
        intro x
        simp [r, List.mem_filter]
      have hrn : r.Nodup := l1.filter _
      have hperm : l.Perm (((p.op i).reads ++ (p.op i).needs) ++ r) := by
        refine (List.perm_ext_iff_of_nodup l1 (List.nodup_append.2 ⟨G.nd1, hrn, fun x hx y hy e => ?_⟩)).2 fun x => ?_
        · subst e; exact ((hr x).1 hy).2 hx
        · rw [List.mem_append, hr]
          constructor
          · intro hx
            by_cases e : x ∈ (p.op i).reads ++ (p.op i).needs
            · exact .inl e
            · exact .inr ⟨hx, e⟩
          · rintro (e | e)
            · exact hin x e
            · exact e.1
      have hs := l3.perm ((hperm.map (p.chunk · vs)).append_right C)
      rw [List.map_append, List.append_assoc] at hs
      have hsame : execOp a.eval o = execOp (p.ev L i vs) o := execOp_same G.sel hev
      have hu := goal w _ hs
      rw [← hsame] at hu
      refine hu.wp fun v w' hv => main v w' hv.1 ⟨((p.op i).reads ++ (p.op i).gives) ++ r, ?_, fun x => ?_, ?_⟩
      · refine List.nodup_append.2 ⟨G.nd2, hrn, fun x hx y hy e => ?_⟩
        subst e
        rcases List.mem_append.1 hx with hx | hx
        · exact ((hr x).1 hy).2 (List.mem_append_left _ hx)
        · obtain ⟨g1, g2, g3, -⟩ := G.give x hx
          rcases ((l2 x).1 ((hr x).1 hy).1).1 with e | ⟨j, hj, e⟩
          · exact g1 e
          · have := g3 j (h.lt j hj) e
            subst this; rw [hn] at hj; cases hj
      · have hgx : x ∈ (p.op i).gives → x ∉ p.base ∧ (∀ k, S k = true → x ∉ (p.op k).needs) ∧ x ∉ (p.op i).needs := by
          intro hx
          obtain ⟨g1, g2, g3, -⟩ := G.give x hx
          refine ⟨g1, fun k hk e => ?_, fun e => g2 (List.mem_append_right _ e)⟩
          have hkm : k < ops.length := by simpa using h.lt k hk
          rcases (Plan.good_of_ok hok (List.getElem?_eq_getElem hkm)).have_ x (List.mem_append_right _ e) with e' | ⟨j, hj, e'⟩
          · exact g1 e'
          · have := g3 j (h.lt j (h.closed k hk j hj)) e'
            subst this
            exact hcl k hk hj
        rw [List.mem_append, hr]
        constructor
        · rintro (hx | ⟨hx, hx2⟩)
          · rcases List.mem_append.1 hx with hx | hx
            · obtain ⟨e1, e2⟩ := (l2 x).1 (hin x (List.mem_append_left _ hx))
              refine ⟨e1.imp id fun ⟨j, hj, e⟩ => ⟨j, by simp [hj], e⟩, fun ⟨j, hj, e⟩ => ?_⟩
              simp only [Bool.or_eq_true, beq_iff_eq] at hj
              rcases hj with hj | rfl
              · exact e2 ⟨j, hj, e⟩
              · exact (List.nodup_append.1 G.nd1).2.2 x hx x e rfl
            · obtain ⟨g1, g2, g3⟩ := hgx hx
              refine ⟨.inr ⟨i, by simp, hx⟩, fun ⟨j, hj, e⟩ => ?_⟩
              simp only [Bool.or_eq_true, beq_iff_eq] at hj
              rcases hj with hj | rfl
              · exact g2 j hj e
              · exact g3 e
          · obtain ⟨e1, e2⟩ := (l2 x).1 hx
            refine ⟨e1.imp id fun ⟨j, hj, e⟩ => ⟨j, by simp [hj], e⟩, fun ⟨j, hj, e⟩ => ?_⟩
            simp only [Bool.or_eq_true, beq_iff_eq] at hj
            rcases hj with hj | rfl
            · exact e2 ⟨j, hj, e⟩
            · exact hx2 (List.mem_append_right _ e)
        · rintro ⟨e1, e2⟩
          have e2' : ¬ ∃ j, S j = true ∧ x ∈ (p.op j).needs := fun ⟨j, hj, e⟩ => e2 ⟨j, by simp [hj], e⟩
          have e2i : x ∉ (p.op i).needs := fun e => e2 ⟨i, by simp, e⟩
          by_cases hxg : x ∈ (p.op i).gives
          · exact .inl (List.mem_append_right _ hxg)
          · have hxl : x ∈ l := by
              rw [l2]
              refine ⟨e1.imp id fun ⟨j, hj, e⟩ => ?_, e2'⟩
              simp only [Bool.or_eq_true, beq_iff_eq] at hj
              rcases hj with hj | rfl
              · exact ⟨j, hj, e⟩
              · exact absurd e hxg
            by_cases e : x ∈ (p.op i).reads ++ (p.op i).needs
            · rcases List.mem_append.1 e with e | e
              · exact .inl (List.mem_append_left _ e)
              · exact absurd e e2i
            · exact .inr ⟨hxl, e⟩
      · rw [List.map_append, List.append_assoc]
        have : r.map (p.chunk · (upd vs i v)) = r.map (p.chunk · vs) := List.map_congr_left fun x hx => hstay v x ((hr x).1 hx).1
        rw [this]
        exact hv.2

theorem Plan.goal_at {l : List Oper} : ∀ {k : Nat}, p.goals P I w0 L k l → ∀ {i : Nat} {o : Oper}, l[i]? = some o → p.goal P I w0 L (k + i) o := by
  induction l with
  | nil => intro k _ i o h; simp at h
  | cons x l ih =>
    intro k h i o hi
    cases i with
    | zero => simp at hi; subst hi; exact h.1
    | succ i => have := ih h.2 (i := i) (o := o) (by simpa using hi); rwa [show k + 1 + i = k + (i + 1) from by omega] at this
theorem mem_ready {ops : Array Oper} {listed : Array Bool} {i : Nat} : i ∈ Region.ready .any ops listed ↔ i < ops.size ∧ listed.getD i true = false ∧ ∀ o, ops[i]? = some o → ∀ j, j ∈ edgesOf o → listed.getD j false = true := by
  unfold Region.ready
  rw [List.mem_filter, List.mem_range]
  constructor
  · rintro ⟨h1, h2⟩
    simp only [Bool.and_eq_true, Bool.not_eq_true'] at h2
    refine ⟨h1, h2.1, fun o ho j hj => ?_⟩
    rw [ho] at h2
    simp only [Option.map_some, Option.getD_some, Array.all_eq_true'] at h2
    unfold edgesOf at hj
    obtain ⟨e, he, rfl⟩ := List.mem_map.1 hj
    obtain ⟨he1, he2⟩ := List.mem_filter.1 he
    have := h2.2 e (by simpa using he1)
    simp only [Bool.or_eq_true, Bool.not_eq_true'] at this
    rcases this with h | h
    · rw [he2] at h; cases h
    · exact h
  · rintro ⟨h1, h2, h3⟩
    refine ⟨h1, ?_⟩
    simp only [Bool.and_eq_true, Bool.not_eq_true']
    refine ⟨h2, ?_⟩
    have ho : ops[i]? = some ops[i] := Array.getElem?_eq_getElem h1
    rw [ho]
    simp only [Option.map_some, Option.getD_some, Array.all_eq_true', Bool.or_eq_true, Bool.not_eq_true']
    intro e he
    cases hb : Region.binds .any e with
    | false => exact .inl rfl
    | true =>
      refine .inr (h3 _ ho _ ?_)
      unfold edgesOf
      exact List.mem_map.2 ⟨e, List.mem_filter.2 ⟨by simpa using he, hb⟩, rfl⟩
/-- the count of what is left -/
def leftOf (m : Nat) (listed : Array Bool) : Nat := ((List.range m).filter fun i => !listed.getD i false).length
theorem tok_any (hok : p.ok n L ops = true) (hB : p.okB L ops = true) (hg : p.goals P I w0 L 0 ops) {Q : Exit → Act → World → Prop}
    (hQ : ∀ vs a w, Inv p C I w0 n L ops.toArray (fun j => decide (j < ops.length)) vs a w → Q .normal a w) : ∀ (fuel : Nat) (listed : Array Bool) (vs : Nat → Value) (a : Act) (w : World), listed.size = ops.length → leftOf ops.length listed ≤ fuel →
      Inv p C I w0 n L ops.toArray (fun j => listed.getD j false) vs a w → wpAny P .any ops.toArray Q fuel listed a w := by
  have done : ∀ (listed : Array Bool) (vs : Nat → Value) (a : Act) (w : World), (∀ i, i < ops.length → listed.getD i false = true) → Inv p C I w0 n L ops.toArray (fun j => listed.getD j false) vs a w → Q .normal a w := by
    intro listed vs a w hall h
    refine hQ vs a w ?_
    have e : (fun j => listed.getD j false) = fun j => decide (j < ops.length) := by
      funext j
      by_cases hj : j < ops.length
      · rw [hall j hj]; simp [hj]
      · cases hl : listed.getD j false with
        | false => simp [hj]
        | true => exact absurd (by simpa using h.lt j hl) hj
    rw [← e]; exact h
  have nil : ∀ (listed : Array Bool) (vs : Nat → Value) (a : Act) (w : World), listed.size = ops.length → Inv p C I w0 n L ops.toArray (fun j => listed.getD j false) vs a w → Region.ready .any ops.toArray listed = [] → Q .normal a w := by
    intro listed vs a w hsz h hr
    refine done listed vs a w (fun i => ?_) h
    induction i using Nat.strongRecOn with
    | _ i ih =>
      intro hi
      cases hl : listed.getD i false with
      | true => rfl
      | false =>
        have : i ∈ Region.ready .any ops.toArray listed := by
          refine mem_ready.2 ⟨by simpa using hi, ?_, fun o ho j hj => ?_⟩
          · rw [Array.getD_eq_getD_getElem?, Array.getElem?_eq_getElem (by omega)] at hl ⊢
            simpa using hl
          · have hj' := (Plan.good_of_ok hok (show ops[i]? = some o by simpa using ho)).edges j hj
            exact ih j hj' (by omega)
        rw [hr] at this; cases this
  intro fuel
  induction fuel with
  | zero =>
    intro listed vs a w hsz hf h
    have hall : ∀ i, i < ops.length → listed.getD i false = true := by
      intro i hi
      cases hl : listed.getD i false with
      | true => rfl
      | false =>
        have hz : (List.range ops.length).filter (fun i => !listed.getD i false) = [] := List.eq_nil_of_length_eq_zero (Nat.le_zero.1 hf)
        have : i ∈ (List.range ops.length).filter (fun i => !listed.getD i false) := List.mem_filter.2 ⟨List.mem_range.2 hi, by simp [hl]⟩
        rw [hz] at this; cases this
    refine ⟨?_, done listed vs a w hall h⟩
    cases hr : Region.ready .any ops.toArray listed with
    | nil => rfl
    | cons i l =>
      have : i ∈ Region.ready .any ops.toArray listed := by rw [hr]; simp
      obtain ⟨h1, h2, -⟩ := mem_ready.1 this
      have h1' : i < ops.length := by simpa using h1
      have h3 := hall i h1'
      rw [Array.getD_eq_getD_getElem?, Array.getElem?_eq_getElem (by omega)] at h2 h3
      simp at h2 h3
      rw [h2] at h3; cases h3
  | succ fuel ih =>
    intro listed vs a w hsz hf h
    refine ⟨nil listed vs a w hsz h, fun i hi => ?_⟩
    obtain ⟨h1, h2, h3⟩ := mem_ready.1 hi
    have h1' : i < ops.length := by simpa using h1
    have hio : ops[i]? = some ops[i] := List.getElem?_eq_getElem h1'
    have hn : listed.getD i false = false := by
      rw [Array.getD_eq_getD_getElem?, Array.getElem?_eq_getElem (by omega)] at h2 ⊢
      simpa using h2
    have hgi := Plan.goal_at hg hio
    rw [Nat.zero_add] at hgi
    refine h.step hok hB hgi hio hn (fun j hj => ?_) fun vs a w hI => ?_
    · rcases ((Plan.good_of_ok hok hio).bef j hj).2 with e | ⟨k, hk, e⟩
      · exact h3 _ (by simpa using hio) j e
      · exact h.closed k (h3 _ (by simpa using hio) k hk) j e
    · refine ih _ vs a w (by simpa using hsz) ?_ ?_
      · have hlt : leftOf ops.length (listed.setIfInBounds i true) < leftOf ops.length listed := by
          unfold leftOf
          have hsub : (List.range ops.length).filter (fun j => !(listed.setIfInBounds i true).getD j false) = ((List.range ops.length).filter (fun j => !listed.getD j false)).filter (fun j => j != i) := by
            rw [List.filter_filter]
            refine List.filter_congr fun j hj => ?_
            by_cases e : i = j
            · subst e
              rw [Array.getD_eq_getD_getElem?, Array.getElem?_setIfInBounds_self_of_lt (by omega)]; simp
            · rw [Array.getD_eq_getD_getElem?, Array.getElem?_setIfInBounds_ne e, ← Array.getD_eq_getD_getElem?]
              simp [show (j != i) = true from by simp; exact fun e' => e e'.symm]
          rw [hsub]
          refine List.length_filter_lt_length_iff_exists.2 ⟨i, List.mem_filter.2 ⟨List.mem_range.2 h1', by simp [hn]⟩, by simp⟩
        omega
      · have e : (fun j => (listed.setIfInBounds i true).getD j false) = fun j => (listed.getD j false || j == i) := by
          funext j
          by_cases e : i = j
          · subst e
            rw [Array.getD_eq_getD_getElem?, Array.getElem?_setIfInBounds_self_of_lt (by omega)]; simp
          · rw [Array.getD_eq_getD_getElem?, Array.getElem?_setIfInBounds_ne e, ← Array.getD_eq_getD_getElem?]
            simp [show (j == i) = false from by simp; exact fun e' => e e'.symm]
        rw [e]; exact hI
/-- A region that draws its order. -/
theorem wp_draw {id : Nat} {C0 : List Ch} {Q : Exit → Act → World → Prop} (p : Plan) (hm : P.follows .mixedOrders = true) (ha : Agr n a L) (hs : St I w0 w C0) (hp : C0.Perm (p.base.map (p.chunk · fun _ => undef) ++ C))
    (hok : p.ok n L ops = true) (hB : p.okB L ops = true) (hg : p.goals P I w0 L 0 ops)
    (k : ∀ vs a w, (∀ i, i < ops.length → p.fact i vs) → Agr n a (p.out L vs) → St I w0 w (p.left.map (p.chunk · vs) ++ C) → Q .normal a w) : (Code.region id ops.toArray true).wp P Q a w := by
  have hB' := hB
  unfold Plan.okB at hB'
  simp only [Bool.and_eq_true, List.all_eq_true, decide_eq_true_eq] at hB'
  obtain ⟨⟨⟨⟨⟨hb1, hb2⟩, hb3⟩, hb4⟩, hb5⟩, hb6⟩ := hB'
  refine wp_region_any hm (tok_any (C := C) hok hB hg (fun vs a w h => k vs a w (fun i hi => h.facts i (by simpa using hi)) ?_ ?_) _ _ (fun _ => undef) a _ (by simp) ?_ ?_)
  · refine ⟨h.defers, h.size, fun t v hv => ?_⟩
    have key : ∀ (M : List (Nat × Option Nat)), (∀ q ∈ M, q ∈ p.fin) → (M.map fun (t, s) => (t, match s with | some j => vs j | none => (L.lookup t).getD undef)).lookup t = some v → a.tmps.getD t undef = v := by
      intro M
      induction M with
      | nil => intro _ h; cases h
      | cons q M ih =>
        intro hM hv
        obtain ⟨t', s'⟩ := q
        rw [List.map_cons, List.lookup_cons] at hv
        by_cases e : t = t'
        · subst e
          simp only [BEq.rfl, Option.some.injEq] at hv
          have hf := hb6 (t, s') (hM _ (by simp))
          cases s' with
          | none =>
            simp only [Bool.and_eq_true, List.all_eq_true, bne_iff_ne] at hf hv
            obtain ⟨u, hu⟩ := Option.isSome_iff_exists.1 hf.1
            rw [hu] at hv
            simp at hv; subst hv
            refine h.old t u hu fun j hj hd => ?_
            have hj : j < ops.length := by simpa using hj
            exact hf.2 j (List.mem_range.2 hj) (by simpa using hd)
          | some j =>
            simp only [Bool.and_eq_true, List.all_eq_true, bne_iff_ne, beq_iff_eq, decide_eq_true_eq, Bool.or_eq_true, List.contains_iff_mem] at hf hv
            rw [← hv]
            refine h.new j t (by simpa using hf.1.1) (by simpa using hf.1.2) fun k hk hd => ?_
            have hk : k < ops.length := by simpa using hk
            rcases hf.2 k (List.mem_range.2 hk) with (e | e) | e
            · exact absurd (by simpa using hd) e
            · exact .inl e
            · exact .inr e
        · have : (t == t') = false := by simpa using e
          rw [this] at hv
          exact ih (fun q hq => hM q (by simp [hq])) hv
    exact key _ (fun _ h => h) hv
  · obtain ⟨l, l1, l2, l3⟩ := h.st
    refine l3.perm (List.Perm.append_right C (List.Perm.map _ ((List.perm_ext_iff_of_nodup l1 hb3).2 fun x => ?_)))
    rw [l2]
    constructor
    · rintro ⟨h1, h2⟩
      have := hb5 x (by
        rcases h1 with h1 | ⟨j, hj, hx⟩
        · exact List.mem_append_left _ h1
        · exact List.mem_append_right _ (List.mem_flatMap.2 ⟨j, List.mem_range.2 (by simpa using hj), hx⟩))
      simp only [Bool.or_eq_true, List.contains_iff_mem, List.any_eq_true] at this
      rcases this with h | ⟨j, hj, h⟩
      · exact h
      · exact absurd ⟨j, by simpa using List.mem_range.1 hj, h⟩ h2
    · intro hx
      have := hb4 x hx
      simp only [Bool.or_eq_true, List.contains_iff_mem, List.any_eq_true, List.all_eq_true, Bool.not_eq_true'] at this
      refine ⟨this.1.imp (fun h => h) fun ⟨j, hj, e⟩ => ⟨j, by simpa using List.mem_range.1 hj, e⟩, fun ⟨j, hj, e⟩ => ?_⟩
      have := this.2 j (List.mem_range.2 (by simpa using hj))
      rw [← Bool.not_eq_true, List.contains_iff_mem] at this
      exact this e
  · unfold leftOf
    refine Nat.le_trans (List.length_filter_le _ _) (by simp)
  · have hf : ∀ j, (Array.replicate ops.toArray.size false).getD j false = false := by
      intro j
      rw [Array.getD_eq_getD_getElem?, Array.getElem?_replicate]
      split <;> rfl
    refine ⟨fun i hi => ?_, fun i hi => ?_, ha.1, ha.2.1, fun t v hv _ => ha.2.2 t v hv, fun j t hj => ?_, fun i hi => ?_, p.base, hb1, fun x => ?_, ?_⟩
    · rw [hf] at hi; cases hi
    · rw [hf] at hi; cases hi
    · rw [hf] at hj; cases hj
    · rw [hf] at hi; cases hi
    · constructor
      · intro hx
        refine ⟨.inl hx, fun ⟨j, hj, _⟩ => ?_⟩
        rw [hf] at hj; cases hj
      · rintro ⟨h1 | ⟨j, hj, _⟩, _⟩
        · exact h1
        · rw [hf] at hj; cases hj
    · exact (hs.drawn (w' := { w with drawn := w.drawn + 1 }) rfl rfl rfl rfl).perm hp
end
end Go.Proofs.Ytfkocnnphjkmfaa.D
