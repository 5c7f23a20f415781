/- The flow of control: calls, contracts, conditions, loops, results; models of loops. No program text is named here. -/
import Derived.Test.YtfkocnnphjkmfaaMake
set_option linter.unusedVariables false
set_option linter.unusedSimpArgs false
set_option linter.unnecessarySimpa false
namespace Go.Proofs.Ytfkocnnphjkmfaa.D
open Go.RowKit

/-! ### Models -/
/-- how a round ends: on to the next one, out of the loop, out of the function -/
inductive Out (R S : Type) where
  | nxt (s : S)
  | brk (s : S)
  | ret (r : R)
def loopM {R S : Type} (f : S → Option (Out R S)) : Nat → S → Option (Out R S)
  | 0, _ => none
  | k + 1, s => match f s with
    | none => none
    | some (.nxt s') => loopM f k s'
    | some (.brk s') => some (.brk s')
    | some (.ret r) => some (.ret r)
def FUEL : Nat := 1180591620717411303424
def setI {α : Type} (xs : List α) (i : Int) (x : α) : Option (List α) := if 0 ≤ i ∧ i.toNat < xs.length then some (xs.set i.toNat x) else none
/-- append, as far as memory goes -/
def appI {α : Type} (b : Nat) (xs ys : List α) : Option (List α) := if (xs.length + ys.length) * b ≤ 140737488355328 then some (xs ++ ys) else none
def chk (p : Prop) [Decidable p] : Option Unit := if p then some () else none
theorem bind_some {α β : Type} {x : Option α} {f : α → Option β} {r : β} (h : (x.bind f) = some r) : ∃ a, x = some a ∧ f a = some r := Option.bind_eq_some_iff.1 h
theorem appI_some {α : Type} {b : Nat} {xs ys zs : List α} (h : appI b xs ys = some zs) : zs = xs ++ ys ∧ (xs.length + ys.length) * b ≤ 140737488355328 := by
  unfold appI at h
  split at h
  · exact ⟨(Option.some.inj h).symm, ‹_›⟩
  · cases h
theorem setI_some {α : Type} {xs ys : List α} {i : Int} {x : α} (h : setI xs i x = some ys) : ys = xs.set i.toNat x ∧ inI xs i := by
  unfold setI at h
  split at h
  · exact ⟨(Option.some.inj h).symm, ‹_›⟩
  · cases h
theorem chk_some {p : Prop} [Decidable p] {u : Unit} (h : chk p = some u) : p := by
  unfold chk at h
  split at h
  · assumption
  · cases h

section
variable {P : Program} {I J : Hp} {w0 w w' : World} {cs C : List Ch} {n : Nat} {a : Act} {L : List (Nat × Value)} {Q : Exit → Act → World → Prop}
/-! ### Contracts -/
def Con (P : Program) (k : FuncId) (args : Array Value) (I : Hp) (w0 : World) (rn : List Ch) (fact : Value → Prop) (gv : Value → List Ch) : Prop :=
  ∀ w C, St I w0 w (rn ++ C) → Calls P k args w fun e w' => ∃ v, e = .returned v ∧ fact v ∧ St I w0 w' (gv v ++ C)
theorem opT_call {o : Oper} {ev : Operand → Value} {k : FuncId} {f : Operand} {xs : Array Operand} {ts : Array TypeId} {first captured args : Array Value} {rn : List Ch} {fact : Value → Prop} {gv : Value → List Ch} (he : Enters P k) (ho : o.op = .call { callee := .value f, args := xs, argTypes := ts }) (hf : ev f = .func (.func k) first captured) (hl : first.toList ++ xs.toList.map ev ++ captured.toList = args.toList) (hc : Con P k args I w0 rn fact gv) : OpT P I w0 o ev rn fact gv := by
  intro w C hs
  have ha : (first ++ xs.map ev) ++ captured = args := by
    apply Array.ext'
    rw [← hl]; simp
  have hr : (execOp ev o).run P w = .ok (.enter k args) w := by
    simp only [execOp, ho, resolve, hf, Deferred.ofValue, Sem.run_bind, Sem.run_pure, Result.andThen_ok, invoke, ha]
    exact he args w
  rw [hr]
  exact hc w C hs
theorem Con.imp {k : FuncId} {args : Array Value} {rn : List Ch} {fact fact' : Value → Prop} {gv gv' : Value → List Ch} (h : Con P k args I w0 rn fact gv) (hf : ∀ v, fact v → fact' v) (hg : ∀ v, fact v → ∀ w C, St I w0 w (gv v ++ C) → St I w0 w (gv' v ++ C)) : Con P k args I w0 rn fact' gv' :=
  fun w C hs => (h w C hs).mono fun e w' ⟨v, h1, h2, h3⟩ => ⟨v, h1, hf v h2, hg v h2 _ _ h3⟩
/-- what the callee only reads, lent to it -/
theorem Con.lend {k : FuncId} {args : Array Value} {ls : List Ch} {fact : Value → Prop} {gv : Value → List Ch} (hd : ∀ v, Ch.deeps (gv v))
    (h : ∀ J, I.le J → (∀ {α : Type} (R : Rep α) (v : List Value) (a : α), Ch.own R v a ∈ ls → R.rd J v a) → Con P k args J w0 [] fact gv) : Con P k args I w0 ls fact (fun v => gv v ++ ls) := by
  intro w C hs
  obtain ⟨J, h1, h2, h3, h4, h5⟩ := hs.lend
  refine (h J h1 h2 w _ h4).mono ?_
  rintro e w' ⟨v, rfl, hf, hs'⟩
  refine ⟨v, rfl, hf, ?_⟩
  rw [List.append_assoc]
  exact h5 w' _ (hd v) hs'
/-- more of what is frozen does no harm -/
theorem Con.frame {k : FuncId} {args : Array Value} {rn : List Ch} {fact : Value → Prop} {gv : Value → List Ch} (ds : List Ch) (h : Con P k args I w0 rn fact gv) : Con P k args I w0 (rn ++ ds) fact (fun v => gv v ++ ds) :=
  fun w C hs => (h w (ds ++ C) (by rwa [List.append_assoc] at hs)).mono fun e w' ⟨v, h1, h2, h3⟩ => ⟨v, h1, h2, by rw [List.append_assoc]; exact h3⟩
theorem deeps_own {α : Type} {R : Rep α} {v : List Value} {x : α} (h : ∀ {I J : Hp} {w : World} {F : List Nat}, R.own J w v x F → R.own I w v x F) : (Ch.own R v x).deep := fun hh => h hh
def Rep.Dp {α : Type} (R : Rep α) : Prop := ∀ {I J : Hp} {w : World} {v : List Value} {x : α} {F : List Nat}, R.own J w v x F → R.own I w v x F
theorem dp_flat {α : Type} {enc : α → Value} {h1 : ∀ a, (enc a).oneCell' = true} : (rFlat α enc h1).Dp := fun h => h
theorem dp_int : rInt.Dp := dp_flat
theorem dp_bool : rBool.Dp := dp_flat
theorem dp_str : rStr.Dp := dp_flat
theorem dp_prod {α β : Type} {R : Rep α} {S : Rep β} (h : R.Dp) (k : S.Dp) : (rProd R S).Dp := by
  rintro I J w v x F ⟨c, d, G, K, h1, h2, h3, h4⟩
  exact ⟨c, d, G, K, h1, h2, h h3, k h4⟩
theorem dp_slice {α : Type} {E : TypeId} {R : Rep α} (h : R.Dp) : (rSlice E R).Dp := by
  intro I J w v x F hh
  have key : ∀ {xs : List α} {cur F}, OwnEls R J w cur xs F → OwnEls R I w cur xs F := by
    intro xs
    induction xs with
    | nil => intro cur F h; exact h
    | cons x xs ih =>
      rintro cur F ⟨c, rest, G, K, h1, h2, h3, h4, h5⟩
      exact ⟨c, rest, G, K, h1, h2, h3, h h4, ih h5⟩
  refine ⟨hh.1, hh.2.imp (fun h => h) ?_⟩
  rintro ⟨g, cap, cur, K, h1, h2, h3, h4, h5, h6, h7⟩
  exact ⟨g, cap, cur, K, h1, h2, h3, h4, h5, h6, key h7⟩
theorem dp_own {α : Type} {R : Rep α} (h : R.Dp) {v : List Value} {x : α} : (Ch.own R v x).deep := fun hh => h hh
theorem dp_blk {g : Nat} {l : List Value} {E : TypeId} : (Ch.blk g l E).deep := fun hh => hh

/-! ### Results -/
def resOf (P : Program) (a : Act) (w : World) : ResultVar → Value → Prop
  | .tmp t, v => a.tmps.getD t undef = v
  | .cell p T, v => ∃ A, a.tmps.getD p undef = .pointer (some A) ∧ (loadVar T A).run P w = .ok v w
theorem ret_1 {fn : Func} {R : Ending → World → Prop} {r : ResultVar} {v : Value} (ha : Agr n a L) (hr : fn.results = #[r]) (h : resOf P a w r v) (hR : R (.returned v) w) : bodyPost P fn R .ret a w := by
  refine ⟨ha.1, v, ?_, hR⟩
  cases r with
  | tmp t => simp only [resOf] at h; simp [results, hr, Sem.run_bind, ← h]
  | cell p T => obtain ⟨A, h1, h2⟩ := h; simp only [Array.getD_eq_getD_getElem?] at h1; simp [results, hr, Sem.run_bind, h1, asAddr, h2, Result.andThen]
theorem ret_2 {fn : Func} {R : Ending → World → Prop} {r s : ResultVar} {u v : Value} (ha : Agr n a L) (hr : fn.results = #[r, s]) (h : resOf P a w r u) (h' : resOf P a w s v) (hR : R (.returned (.tuple #[u, v])) w) : bodyPost P fn R .ret a w := by
  refine ⟨ha.1, .tuple #[u, v], ?_, hR⟩
  cases r <;> cases s <;> simp only [resOf] at h h' <;> (try obtain ⟨A, h1, h2⟩ := h) <;> (try obtain ⟨A', h1', h2'⟩ := h') <;> simp only [Array.getD_eq_getD_getElem?] at * <;> simp [results, hr, Sem.run_bind, Result.andThen, asAddr, *]
theorem res_tmp (ha : Agr n a L) {t : Nat} {v : Value} (h : L.lookup t = some v) : resOf P a w (.tmp t) v := ha.2.2 t v h
theorem res_cell (ha : Agr n a L) {t g : Nat} {T E : TypeId} {l : List Value} {m : Nat} {cs : List Ch} (h : L.lookup t = some (.pointer (some ⟨g, 0, none⟩))) (hs : St I w0 w cs) (i : Nat) (hi : cs[i]? = some (Ch.blk g l E)) (hT : TI P T true m) (hl : l.length = m) : resOf P a w (.cell t T) (.agg l.toArray) := by
  refine ⟨_, ha.2.2 t _ h, ?_⟩
  obtain ⟨⟨d, h1, h2⟩, h3⟩ := hT
  refine run_loadVar_mid w g 0 T l d (fun j v hv => ?_) h1 (by cases d <;> first | rfl | cases h2) (by rw [h3, hl])
  have hg := hs.heap i hi
  rw [Nat.zero_add]
  simp [World.cell?, hg, hv]

/-! ### Control -/
theorem con_of_wp {k : FuncId} {fn : Func} {c : Code} {args : Array Value} {rn : List Ch} {fact : Value → Prop} {gv : Value → List Ch} (L : List (Nat × Value)) (hf : P.funcs[k]? = some fn) (hb : fn.body = some c) (hn : fn.ntmps = n) (hm : args.size ≤ n) (hL : ∀ p ∈ L, args[p.1]? = some p.2)
    (h : ∀ F w a, Agr n a L → St I w0 w (rn ++ [F]) → c.wp P (bodyPost P fn fun e w' => ∃ v, e = .returned v ∧ fact v ∧ ∃ J, I.le J ∧ St J w0 w' (gv v ++ [F])) a w) (hd : ∀ v, Ch.deeps (gv v)) : Con P k args I w0 rn fact gv := by
  intro w C hs
  have hs' : St I w0 w (rn ++ [Ch.fr I C]) := by
    obtain ⟨hb, hi, F, h1, h2, h3⟩ := hs
    obtain ⟨G, K, rfl, e1, e2⟩ := h1.split
    exact ⟨hb, hi, G ++ K, e1.append ⟨K, [], by simp, e2, rfl⟩, h2, h3⟩
  have := h (Ch.fr I C) w { tmps := args ++ Array.replicate (fn.ntmps - args.size) undef, defers := [] } (Agr.start L (by omega) hL) hs'
  refine (calls_of_wp hf hb this).mono ?_
  rintro e w' ⟨v, rfl, hv, J, hJ, hs⟩
  exact ⟨v, rfl, hv, hs.fr_back hJ (hd v)⟩
theorem cnd_true {c : Operand} {x y : Code} {b : Bool} (ha : Agr n a L) (hk : knows L c = true) (hv : evL L c = .bool b) (hb : b = true) (h : x.wp P Q a w) : (Code.cond c x y).wp P Q a w :=
  wp_cond_true (by rw [ha.eval hk, hv, hb]) h
theorem cnd_false {c : Operand} {x y : Code} {b : Bool} (ha : Agr n a L) (hk : knows L c = true) (hv : evL L c = .bool b) (hb : b = false) (h : y.wp P Q a w) : (Code.cond c x y).wp P Q a w :=
  wp_cond_false (by rw [ha.eval hk, hv, hb]) h
theorem ex_in {id : Nat} (h : Q .normal a w) : Exit.inBlock id Q (.exit id) a w := by
  show if id = id then Q .normal a w else Q (.exit id) a w
  rw [if_pos rfl]; exact h
theorem ex_out {id id' : Nat} (hne : id' ≠ id) (h : Q (.exit id') a w) : Exit.inBlock id Q (.exit id') a w := by
  show if id' = id then Q .normal a w else Q (.exit id') a w
  rw [if_neg hne]; exact h
theorem wp_seq_cut {x y : Code} (M : Act → World → Prop) (h1 : x.wp P (Exit.then M Q) a w) (h2 : ∀ a w, M a w → y.wp P Q a w) : (Code.seq x y).wp P Q a w :=
  wp_seq (wp_mono h1 fun e a w h => by cases e <;> first | exact h2 a w h | exact h)
theorem wp_loopM {R S : Type} {c : Code} {f : S → Option (Out R S)} {k : Nat} {s : S} {o : Out R S} (Inv : S → Act → World → Prop) (h : loopM f k s = some o) (h0 : Inv s a w)
    (round : ∀ s o', f s = some o' → ((∀ s', o' ≠ .nxt s') → o' = o) → ∀ a w, Inv s a w → c.wp P (Exit.then (fun a w => ∃ s', o' = .nxt s' ∧ Inv s' a w) Q) a w) : (Code.loop c).wp P Q a w := by
  intro b it cs
  have key : ∀ k s a w, loopM f k s = some o → Inv s a w → ∃ e a' w', Q e a' w' ∧ Arrives P (lone (b.at a (.code c :: .inLoop c :: it)) cs w) b it cs e a' w' := by
    intro k
    induction k with
    | zero => intro s a w h; cases h
    | succ k ih =>
      intro s a w h hI
      rw [loopM] at h
      cases hf : f s with
      | none => rw [hf] at h; cases h
      | some o' =>
        rw [hf] at h
        obtain ⟨e, a₁, w₁, hq, harr⟩ := round s o' hf (fun hn => by
          cases o' with
          | nxt s' => exact absurd rfl (hn s')
          | brk s' => exact Option.some.inj h
          | ret r => exact Option.some.inj h) a w hI b (.inLoop c :: it) cs
        cases e with
        | normal =>
          obtain ⟨s', rfl, hI₁⟩ := hq
          obtain ⟨e₂, a₂, w₂, hq₂, harr₂⟩ := ih s' a₁ w₁ h hI₁
          exact ⟨e₂, a₂, w₂, hq₂, .of_steps (Steps.trans harr (.one step_inLoop)) harr₂⟩
        | exit id => exact ⟨_, a₁, w₁, hq, .pass (x := .inLoop c) rfl (fun _ _ => .inl (by simp)) harr⟩
        | goto l => exact ⟨_, a₁, w₁, hq, .pass (x := .inLoop c) rfl (fun _ _ => .inl (by simp)) harr⟩
        | ret => exact ⟨_, a₁, w₁, hq, .pass (x := .inLoop c) rfl (fun _ _ => .inl (by simp)) harr⟩
        | panic ch => exact ⟨_, a₁, w₁, hq, .pass (x := .inLoop c) rfl (fun _ _ => .inl (by simp)) harr⟩
        | outgrown => exact ⟨_, a₁, w₁, hq, .pass (x := .inLoop c) rfl (fun _ _ => .inl (by simp)) harr⟩
  obtain ⟨e, a', w', hq, harr⟩ := key k s a w h h0
  exact ⟨e, a', w', hq, .of_steps (.one step_loop) harr⟩
/-- guards in a region in the order of the text -/
theorem seq_skip {ops : Array Oper} {o : Oper} {rest : List Oper} {g d : Nat} {want b : Bool} (ha : Agr n a L) (hs : St I w0 w C) (hg : o.guard = some (g, want)) (hd : ((ops[g]?).bind (·.dst)) = some d) (hv : L.lookup d = some (.bool b)) (hb : b = !want) (hn : dstOk n o.dst = true)
    (k : ∀ a, Agr n a (putL o.dst undef L) → wpList P ops Q rest a w) : wpList P ops Q (o :: rest) a w := by
  refine wpList_skip ?_ (k _ (ha.put undef hn))
  have h := ha.2.2 d _ hv
  unfold Region.wanted yielded
  rw [hg]; simp only
  rw [hd]; simp only [Option.bind_some]
  rw [Array.getD_eq_getD_getElem?] at h
  cases ht : a.tmps[d]? with
  | none => rw [ht] at h; cases h
  | some u =>
    rw [ht] at h
    simp only [Option.getD_some] at h
    rw [h]; simp only [hb]
    cases want <;> rfl
theorem seq_op_g {ops : Array Oper} {o : Oper} {rest : List Oper} {g d : Nat} {want b : Bool} {C0 rn : List Ch} {fact : Value → Prop} {gv : Value → List Ch} (ha : Agr n a L) (hs : St I w0 w C0) (hg : o.guard = some (g, want)) (hd : ((ops[g]?).bind (·.dst)) = some d) (hv : L.lookup d = some (.bool b)) (hb : b = want) (hop : OpT P I w0 o (evL L) rn fact gv) (hp : C0.Perm (rn ++ C)) (hk : (knowsAll L o && dstOk n o.dst && noSelect o) = true)
    (k : ∀ v a w, fact v → Agr n a (putL o.dst v L) → St I w0 w (gv v ++ C) → wpList P ops Q rest a w) : wpList P ops Q (o :: rest) a w := by
  simp only [Bool.and_eq_true] at hk
  obtain ⟨⟨hk1, hk2⟩, hk3⟩ := hk
  have hw : Region.wanted o (yielded ops a.tmps) = true := by
    have h := ha.2.2 d _ hv
    unfold Region.wanted yielded
    rw [hg]; simp only
    rw [hd]; simp only [Option.bind_some]
    rw [Array.getD_eq_getD_getElem?] at h
    cases ht : a.tmps[d]? with
    | none => rw [ht] at h; cases h
    | some u =>
      rw [ht] at h
      simp only [Option.getD_some] at h
      rw [h]; simp [hb]
  refine BigFrame.wpList_want hw fun K hK => ?_
  have he : execOp a.eval o = execOp (evL L) o := execOp_same hk3 fun x hx => ha.eval ((List.all_eq_true.1 hk1) x (by simpa using hx))
  have h := hop w C (hs.perm hp)
  rw [← he] at h
  exact h.wp fun v w' hv => hK _ _ (k v _ w' hv.1 (ha.put v hk2) hv.2)
end
end Go.Proofs.Ytfkocnnphjkmfaa.D
