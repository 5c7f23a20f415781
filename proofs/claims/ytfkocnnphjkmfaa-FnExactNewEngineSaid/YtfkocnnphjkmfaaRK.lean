/- A region in the order of the text, run on states. No program text is named here. -/
import Derived.Test.YtfkocnnphjkmfaaRY
set_option linter.unusedVariables false
set_option linter.unusedSimpArgs false
set_option linter.unnecessarySimpa false
set_option linter.unusedSectionVars false
namespace Go.Proofs.Ytfkocnnphjkmfaa.R
open Go.RowKit
open Go.Proofs.Ytfkocnnphjkmfaa.D

structure Env where
  tt : TT
  ft : FT
  an : List (Nat × Ty)
  n : Nat
section
variable {Y : Type} (V : Env) (s : Sg) (k : Res → Option Y)
def sCall (dst : Option Nat) (c : Call) : Option Y := match c.callee, c.args.toList, c.argTypes.toList with
  | .builtin .len, [x], [T] => match opd s x with
    | some (.one (.own _)) => sLenO V.tt s k T x
    | _ => sLen V.tt s k T x
  | .builtin .append, [x, y], [T, U] => chkT (Nat.beq T U) (sApp V.tt V.an s k dst T x y)
  | .value (.func g), xs, _ => sCallF V.ft s k g xs
  | .value (.tmp t), xs, _ => sCallV V.ft s k t xs
  | _, _, _ => none
def step (o : Oper) : Option Y := match o.op with
  | .move x => sMove s k x
  | .assign x => sMove s k x
  | .pick c x y => sPick s k c x y
  | .unOp .not _ x => sNot s k x
  | .unOp .neg _ x => sNeg s k x
  | .binOp b t x y _ => sBin V.tt s k b t x y
  | .extract x i => sExtract s k x i
  | .indexAddr T x i => match opd s x with
    | some (.one (.own _)) => sIndexO V.tt s k T x i
    | _ => sIndexR V.tt s k T x i
  | .fieldAddr T x f => match opd s x with
    | some (.one (.fz _ _ _ _ _)) => sFieldZ V.tt s k T x f
    | _ => sField V.tt s k T x f
  | .load T x => match opd s x with
    | some (.elr _ _ _ _ _ _ _) => sLoadR V.tt s k T x
    | some (.elo _ _ _ _ _ _ _ _) => sLoadO V.tt s k T x
    | some (.one (.fz _ _ _ _ _)) => sLoadZ V.tt s k T x
    | some (.one (.fzf _ _ _ _ _)) => sLoadZ V.tt s k T x
    | _ => sLoadB V.tt s k T x
  | .store T x y => match opd s x with
    | some (.elo h _ _ _ _ _ _ _) => match holOf h s.chs with
      | some _ => sStoreG V.tt s k T x y
      | none => sStoreO V.tt s k T x y
    | _ => sStoreB V.tt s k T x y
  | .box T x => sBox s k T x
  | .alloc T => sAlloc V.tt s k T
  | .build T parts => sBuild V.tt s k T parts
  | .buildSlice T m parts => sLit V.tt V.an s k o.dst T m parts
  | .makeSlice T x y => sMake V.tt V.an s k o.dst T x y
  | .call c => sCall V s k o.dst c
  | .makeFunc f x y => sMakeF s k f x y
  | _ => none
end
section
variable {Y : Type} {V : Env} {s : Sg} {k : Res → Option Y} {P : Program} {w0 : World} {o : Oper} {res : Y}
theorem arr1 {α : Type} {a : Array α} {x : α} (h : a.toList = [x]) : a = #[x] := Array.ext' h
theorem arr2 {α : Type} {a : Array α} {x y : α} (h : a.toList = [x, y]) : a = #[x, y] := Array.ext' h
theorem sCall_ok (hT : TTok P V.tt) (hF : FTok P V.ft) {c : Call} (ho : o.op = .call c) (h : sCall V s k o.dst c = some res) : Oks P w0 s o k res := by
  obtain ⟨cal, args, tys⟩ := c
  unfold sCall at h
  split at h
  · rename_i x T h1 h2 h3
    obtain rfl : cal = .builtin .len := h1
    obtain rfl : args = #[x] := arr1 h2
    obtain rfl : tys = #[T] := arr1 h3
    split at h
    · exact sLenO_ok hT ho h
    · exact sLen_ok hT ho h
  · rename_i x y T U h1 h2 h3
    obtain ⟨hu, h9⟩ := chkT_ok h
    obtain rfl : T = U := Nat.eq_of_beq_eq_true hu
    obtain rfl : cal = .builtin .append := h1
    obtain rfl : args = #[x, y] := arr2 h2
    obtain rfl : tys = #[T, T] := arr2 h3
    exact sApp_ok hT ho h9
  · rename_i g h1
    obtain rfl : cal = .value (.func g) := h1
    exact sCallF_ok hF ho h
  · rename_i t h1
    obtain rfl : cal = .value (.tmp t) := h1
    exact sCallV_ok hF ho h
  · cases h
theorem step_ok (hT : TTok P V.tt) (hF : FTok P V.ft) (h : step V s k o = some res) : Oks P w0 s o k res := by
  unfold step at h
  split at h
  · exact sMove_ok (.inl ‹_›) h
  · exact sMove_ok (.inr ‹_›) h
  · exact sPick_ok ‹_› h
  · exact sNot_ok ‹_› h
  · exact sNeg_ok ‹_› h
  · exact sBin_ok hT ‹_› h
  · exact sExtract_ok ‹_› h
  · have ho := ‹o.op = _›
    split at h
    · exact sIndexO_ok hT ho h
    · exact sIndexR_ok hT ho h
  · have ho := ‹o.op = _›
    split at h
    · exact sFieldZ_ok hT ho h
    · exact sField_ok hT ho h
  · have ho := ‹o.op = _›
    split at h
    · exact sLoadR_ok hT ho h
    · exact sLoadO_ok hT ho h
    · exact sLoadZ_ok hT ho h
    · exact sLoadZ_ok hT ho h
    · exact sLoadB_ok hT ho h
  · have ho := ‹o.op = _›
    split at h
    · split at h
      · exact sStoreG_ok hT ho h
      · exact sStoreO_ok hT ho h
    · exact sStoreB_ok hT ho h
  · exact sBox_ok ‹_› h
  · exact sAlloc_ok hT ‹_› h
  · exact sBuild_ok hT ‹_› h
  · exact sLit_ok hT ‹_› h
  · exact sMake_ok hT ‹_› h
  · exact sCall_ok hT hF ‹_› h
  · exact sMakeF_ok ‹_› h
  · cases h
end

/-! ### What stays -/
structure Fr (s : Sg) (θ : Th) (s' : Sg) (θ' : Th) : Prop where
  le : s.nxt ≤ s'.nxt
  same : Same s.nxt θ θ'
  env : ∀ e ∈ s'.env, e.2.1 < s.nxt → e ∈ s.env
  chs : Newer s.nxt s.chs s'.chs
section
variable {s s1 s2 : Sg} {θ θ1 θ2 : Th}
theorem Fr.rfl : Fr s θ s θ := ⟨Nat.le_refl _, Same.rfl, fun e he _ => he, Newer.rfl⟩
theorem Fr.trans (h : Fr s θ s1 θ1) (k : Fr s1 θ1 s2 θ2) : Fr s θ s2 θ2 :=
  ⟨Nat.le_trans h.le k.le, h.same.trans k.same h.le, fun e he hv => h.env e (k.env e he (Nat.lt_of_lt_of_le hv h.le)) hv, fun e he h' ver c hs => by
    rcases k.chs e he h' ver c hs with h1 | ⟨e1, he1, hs1⟩
    · exact .inl (Nat.le_trans h.le h1)
    · exact h.chs e1 he1 h' ver c hs1⟩
theorem Fr.put {d : Option Nat} {v : AV} {chs : List Ent} (hs : Same s.nxt θ θ1) (hc : Newer s.nxt s.chs chs) : Fr s θ ⟨putE d s.nxt v s.env, chs, s.nxt + 1⟩ θ1 :=
  ⟨Nat.le_succ _, hs, fun e he hv => by
    rcases mem_putE he with h | h
    · rw [h.2] at hv; exact absurd hv (Nat.lt_irrefl _)
    · exact h, hc⟩
end
/-! ### Guards -/
inductive Gd
  | no | skip | bad
  | yes (t : Nat) (b neg want : Bool)
def guardOf (ops : List Oper) (s : Sg) (o : Oper) : Gd := match o.guard with
  | none => .no
  | some (g, want) => match ops[g]? with
    | some p => match p.dst with
      | some t => match look s.env t with
        | some (.one (.val (.bool b))) => .yes t b false want
        | some (.one (.nb b)) => .yes t b true want
        | some .und => .skip
        | _ => .bad
      | none => .bad
    | none => .bad
def setB (s : Sg) (t : Nat) (b : Bool) : Sg := ⟨(t, s.nxt, .one (.val (.bool b))) :: s.env, s.chs, s.nxt + 1⟩
/-- the heads of what an operand leads to -/
def avHdrs : AV → List Hdr
  | .one (.own h) => [h]
  | .agg xs => xs.flatMap fun x => match x with | .own h => [h] | _ => []
  | .elo h _ _ _ _ _ _ _ => [h]
  | _ => []
def prepL : List Hdr → Sg → Sg
  | [], s => s
  | h :: hs, s => prepL hs (settle 4 h s)
def hdrsOf (s : Sg) : List Operand → List Hdr
  | [] => []
  | x :: xs => (match opd s x with | some v => avHdrs v | none => []) ++ hdrsOf s xs
def prep (o : Oper) (s : Sg) : Sg := prepL (hdrsOf s o.op.operands.toList) s
section
variable {Y : Type} (V : Env) (all : List Oper) (k : Sg → Option Y)
def runOp (kont : Sg → Option Y) (o : Oper) (s : Sg) : Option Y := match guardOf all s o with
  | .bad => none
  | .no => chkT (okO V.n s o) (step V s (fun r => kont (after s o.dst r)) o)
  | .skip => chkT (dstOk V.n o.dst) (kont (skip s o.dst))
  | .yes t b neg want => if b then (match (!neg) == want with
      | true => chkT (okO V.n (setB s t (!neg)) o) (step V (setB s t (!neg)) (fun r => kont (after (setB s t (!neg)) o.dst r)) o)
      | false => chkT (dstOk V.n o.dst) (kont (skip (setB s t (!neg)) o.dst)))
    else (match neg == want with
      | true => chkT (okO V.n (setB s t neg) o) (step V (setB s t neg) (fun r => kont (after (setB s t neg) o.dst r)) o)
      | false => chkT (dstOk V.n o.dst) (kont (skip (setB s t neg) o.dst)))
def runSeq : List Oper → Sg → Option Y
  | [], s => k s
  | o :: os, s => runOp V all (runSeq os) o (prep o s)
end
section
variable {Y : Type} {V : Env} {P : Program} {I : Hp} {w0 w : World} {F : Ch} {J : Hp} {θ : Th} {s : Sg} {a : Act} {res : Y} {Q : Exit → Act → World → Prop}
theorem settle1_fr {h : Hdr} {s' : Sg} (hs : settle1 h s = some s') (hS : Sim P I w0 F V.n J θ s a w) : Fr s θ s' θ := by
  obtain ⟨r, hr, hs⟩ := bind_some hs
  obtain ⟨q, hq, hs⟩ := bind_some hs
  have hp := holOf_ok hr
  obtain ⟨l, ver, hl, hp2, hu⟩ := partOf_ok hq
  have hmem : ∀ e, e ∈ q.2.2 → e ∈ s.chs := fun e he => (hp.trans (hp2.cons _)).mem_iff.2 (by simp [he])
  cases hb : q.1 with
  | true =>
    rw [hb] at hs
    obtain rfl := Option.some.inj (show some _ = some s' from hs)
    refine ⟨Nat.le_succ _, Same.rfl, fun e he _ => he, fun e he h' ver' c hs' => ?_⟩
    rcases List.mem_cons.1 he with rfl | he
    · obtain ⟨rfl, hs'⟩ := hs'
      rcases hs' with ⟨rfl, rfl⟩ | hs'
      · exact .inr ⟨r.ent h, hp.mem_iff.2 (by simp), rfl, .inr ⟨rfl, rfl⟩⟩
      · exact hs'.elim
    · exact .inr ⟨e, hmem e he, hs'⟩
  | false =>
    rw [hb] at hs
    obtain rfl := Option.some.inj (show some _ = some s' from hs)
    refine ⟨Nat.le_succ _, Same.rfl, fun e he _ => he, fun e he h' ver' c hs' => ?_⟩
    rcases List.mem_cons.1 he with rfl | he
    · obtain ⟨rfl, hs'⟩ := hs'
      rcases hs' with ⟨rfl, rfl⟩ | hs'
      · exact .inl (Nat.le_refl _)
      · exact hs'.elim
    · exact .inr ⟨e, hmem e he, hs'⟩
theorem settle_fr : ∀ {m : Nat} {h : Hdr} {s : Sg}, Sim P I w0 F V.n J θ s a w → Fr s θ (settle m h s) θ
  | 0, _, _, hS => Fr.rfl
  | m + 1, h, s, hS => by
    unfold settle
    split
    · split
      · split
        · rename_i hs
          exact (settle_fr hS).trans (settle1_fr hs (settle_ok hS))
        · exact Fr.rfl
      · exact Fr.rfl
    · exact Fr.rfl
theorem prepL_ok : ∀ {hs : List Hdr} {s : Sg}, Sim P I w0 F V.n J θ s a w → Sim P I w0 F V.n J θ (prepL hs s) a w ∧ Fr s θ (prepL hs s) θ
  | [], s, hS => ⟨hS, Fr.rfl⟩
  | h :: hs, s, hS => by
    obtain ⟨k1, k2⟩ := prepL_ok (hs := hs) (settle_ok (m := 4) (h := h) hS)
    exact ⟨k1, (settle_fr hS).trans k2⟩
theorem setB_ok {t : Nat} {b : Bool} (hS : Sim P I w0 F V.n J θ s a w) (hv' : (envL θ s).lookup t = some (.bool b)) : Sim P I w0 F V.n J θ (setB s t b) a w ∧ Fr s θ (setB s t b) θ := by
  refine ⟨⟨hS.le, hS.agr.sub fun u v h => ?_, hS.st, fun e he => ?_, fun e he => ?_, nd_put (d := some t) (av := .one (.val (.bool b))) hS.fine.nd hS.fine.ver, fun e he => okE_same Same.rfl (Nat.le_succ _) Newer.rfl (hS.fine.chs e he) Hp.le.rfl⟩, Nat.le_succ _, Same.rfl, fun e he h => ?_, Newer.rfl⟩
  · have h : List.lookup u ((t, Value.bool b) :: envL θ s) = some v := h
    rw [List.lookup_cons] at h
    by_cases e : u = t
    · subst e
      simp at h
      rw [hv', h]
    · rw [show (u == t) = false from by simpa using e] at h
      exact h
  · rcases List.mem_cons.1 he with rfl | he
    · exact Eq.refl true
    · exact AV.ok_same Same.rfl (Nat.le_succ _) Newer.rfl (hS.fine.env e he) Hp.le.rfl
  · rcases List.mem_cons.1 he with rfl | he
    · exact Nat.lt_succ_self _
    · exact Nat.lt_succ_of_lt (hS.fine.ver e he)
  · rcases List.mem_cons.1 he with rfl | he
    · exact absurd h (Nat.lt_irrefl _)
    · exact he
theorem guard_ok {ops : Array Oper} {o : Oper} : match guardOf ops.toList s o with
    | .no => o.guard = none
    | .skip => ∃ g want d, o.guard = some (g, want) ∧ (ops[g]?).bind (·.dst) = some d ∧ (envL θ s).lookup d = some undef
    | .yes t b neg want => ∃ g, o.guard = some (g, want) ∧ (ops[g]?).bind (·.dst) = some t ∧ (envL θ s).lookup t = some (.bool (if neg then !b else b))
    | .bad => True := by
  unfold guardOf
  cases hg : o.guard with
  | none => exact rfl
  | some gw =>
    obtain ⟨g, want⟩ := gw
    simp only
    cases hp : ops.toList[g]? with
    | none => trivial
    | some p =>
      simp only
      cases hd : p.dst with
      | none => trivial
      | some t =>
        simp only
        have hd' : (ops[g]?).bind (·.dst) = some t := by
          rw [← Array.getElem?_toList, hp]; exact hd
        cases hl : look s.env t with
        | none => trivial
        | some v =>
          have hv' := look_envL (θ := θ) hl
          cases v with
          | one x =>
            cases x with
            | val u =>
              cases u with
              | bool b => exact ⟨g, rfl, hd', hv'⟩
              | _ => trivial
            | nb b => exact ⟨g, rfl, hd', hv'⟩
            | _ => trivial
          | und => exact ⟨g, want, t, rfl, hd', hv'⟩
          | _ => trivial
/-- the state behind an operation -/
theorem after_fr {o : Oper} {r : Res} (hG : Good P w0 s o r) (hS : Sim P I w0 F V.n J θ s a w) {θ' : Th} (hs : Same s.nxt θ θ') : Fr s θ (after s o.dst r) θ' :=
  Fr.put hs (Res.newer hG.perm (hG.says J θ hS.fine))
theorem runOp_ok (hT : TTok P V.tt) (hF : FTok P V.ft) {ops : Array Oper} {rest : List Oper} {o : Oper} {kont : Sg → Option Y} (h : runOp V ops.toList kont o s = some res) (hS : Sim P I w0 F V.n J θ s a w)
    (K : ∀ s' θ' a' w', kont s' = some res → Sim P I w0 F V.n J θ' s' a' w' → Fr s θ s' θ' → wpList P ops Q rest a' w') : wpList P ops Q (o :: rest) a w := by
  have hg := guard_ok (θ := θ) (s := s) (ops := ops) (o := o)
  have run : ∀ s1, Sim P I w0 F V.n J θ s1 a w → Fr s θ s1 θ → (∀ g want, o.guard = some (g, want) → ∃ d, (ops[g]?).bind (·.dst) = some d ∧ (envL θ s1).lookup d = some (.bool want)) → chkT (okO V.n s1 o) (step V s1 (fun r => kont (after s1 o.dst r)) o) = some res → wpList P ops Q (o :: rest) a w := by
    intro s1 hS1 hF1 hgd h
    obtain ⟨hk, h⟩ := chkT_ok h
    obtain ⟨r, hr, hG⟩ := step_ok hT hF h
    cases hgo : o.guard with
    | none => exact sim_op hG hS1 hgo hk fun θ' a' w' hs hS' => K _ θ' a' w' hr hS' (hF1.trans (after_fr hG hS1 hs))
    | some gw =>
      obtain ⟨g, want⟩ := gw
      obtain ⟨d, hd, hv'⟩ := hgd g want hgo
      exact sim_opg hG hS1 hgo hd hv' rfl hk fun θ' a' w' hs hS' => K _ θ' a' w' hr hS' (hF1.trans (after_fr hG hS1 hs))
  have skp : ∀ s1, Sim P I w0 F V.n J θ s1 a w → Fr s θ s1 θ → ∀ g want d b, o.guard = some (g, want) → (ops[g]?).bind (·.dst) = some d → (envL θ s1).lookup d = some (.bool b) → b = (!want) → chkT (dstOk V.n o.dst) (kont (skip s1 o.dst)) = some res → wpList P ops Q (o :: rest) a w := by
    intro s1 hS1 hF1 g want d b hgo hd hv' hb h
    obtain ⟨hk, h⟩ := chkT_ok h
    exact sim_skip hS1 hgo hd hv' hb hk fun a' hS' => K _ θ a' w h hS' (hF1.trans (Fr.put Same.rfl Newer.rfl))
  unfold runOp at h
  split at h
  · cases h
  · rename_i hgo
    rw [hgo] at hg
    exact run s hS Fr.rfl (fun g want e => by rw [show o.guard = none from hg] at e; cases e) h
  · rename_i hgo
    rw [hgo] at hg
    obtain ⟨g, want, d, h1, h2, h3⟩ := hg
    obtain ⟨hk, h⟩ := chkT_ok h
    exact sim_skip_u hS h1 h2 h3 hk fun a' hS' => K _ θ a' w h hS' (Fr.put Same.rfl Newer.rfl)
  · rename_i t b neg want hgo
    rw [hgo] at hg
    obtain ⟨g, h1, h2, h3⟩ := hg
    have both : ∀ c : Bool, (envL θ s).lookup t = some (.bool c) → (match c == want with
        | true => chkT (okO V.n (setB s t c) o) (step V (setB s t c) (fun r => kont (after (setB s t c) o.dst r)) o)
        | false => chkT (dstOk V.n o.dst) (kont (skip (setB s t c) o.dst))) = some res → wpList P ops Q (o :: rest) a w := by
      intro c hc h
      obtain ⟨q1, q2⟩ := setB_ok hS hc
      have hlk : (envL θ (setB s t c)).lookup t = some (.bool c) := by
        show List.lookup t ((t, Value.bool c) :: envL θ s) = _
        rw [List.lookup_cons_self]
      split at h
      · rename_i hcw
        have hcw : c = want := by simpa using hcw
        exact run _ q1 q2 (fun g' want' e => by
          rw [h1] at e
          obtain ⟨rfl, rfl⟩ : g = g' ∧ want = want' := by simpa using e
          exact ⟨t, h2, by rw [hlk, hcw]⟩) h
      · rename_i hcw
        have hcw : c ≠ want := by simpa using hcw
        exact skp _ q1 q2 g want t c h1 h2 hlk (by cases c <;> cases want <;> simp_all) h
    cases b with
    | true =>
      refine both (!neg) ?_ (show _ = some res from h)
      rw [h3]; cases neg <;> rfl
    | false =>
      refine both neg ?_ (show _ = some res from h)
      rw [h3]; cases neg <;> rfl
theorem runSeq_ok (hT : TTok P V.tt) (hF : FTok P V.ft) {ops : Array Oper} {k : Sg → Option Y} : ∀ {l : List Oper} {s : Sg} {θ : Th} {a : Act} {w : World}, runSeq V ops.toList k l s = some res → Sim P I w0 F V.n J θ s a w →
    (∀ s' θ' a' w', k s' = some res → Sim P I w0 F V.n J θ' s' a' w' → Fr s θ s' θ' → Q .normal a' w') → wpList P ops Q l a w
  | [], s, θ, a, w, h, hS, K => wpList_nil (K s θ a w h hS Fr.rfl)
  | o :: os, s, θ, a, w, h, hS, K => by
    obtain ⟨q1, q2⟩ := prepL_ok (hs := hdrsOf s o.op.operands.toList) hS
    exact runOp_ok hT hF (show runOp V ops.toList (runSeq V ops.toList k os) o (prep o s) = some res from h) q1 fun s' θ' a' w' hk hS' hFr =>
      runSeq_ok hT hF hk hS' fun s2 θ2 a2 w2 hk2 hS2 hFr2 => K s2 θ2 a2 w2 hk2 hS2 ((q2.trans hFr).trans hFr2)
end
end Go.Proofs.Ytfkocnnphjkmfaa.R
