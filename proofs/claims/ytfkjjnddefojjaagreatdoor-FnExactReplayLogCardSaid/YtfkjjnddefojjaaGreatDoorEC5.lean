/- FnExactReplayLog: for every input the law returns true and changes nothing that was there. Part 6 of 9. -/
import Derived.Test.YtfkjjnddefojjaaGreatDoorEC4
set_option linter.unusedVariables false
set_option linter.unusedSimpArgs false
set_option linter.unnecessarySimpa false
set_option linter.unusedSectionVars false
/- A region in the order of the text, run on states. No program text is named here. -/
set_option linter.unusedVariables false
set_option linter.unusedSimpArgs false
set_option linter.unnecessarySimpa false
set_option linter.unusedSectionVars false
namespace Go.Proofs.YtfkjjnddefojjaaGreatDoor.R
open Go.RowKit
open Go.Proofs.YtfkjjnddefojjaaGreatDoor.D

structure Env where
  tt : TT
  ft : FT
  an : List (Nat × Ty)
  n : Nat
  tr : Trs
section
variable {Y : Type} (V : Env) (s : Sg) (k : Res → Option Y)
def hasAnL (d : Nat) : List (Nat × Ty) → Bool
  | [] => false
  | (u, _) :: l => Nat.beq u d || hasAnL d l
def rawL (d : Nat) : List (Nat × Ty) → Bool
  | [] => false
  | (u, .raw) :: l => Nat.beq u d || rawL d l
  | _ :: l => rawL d l
def rawAn (d : Option Nat) (an : List (Nat × Ty)) : Bool := match d with
  | some d => rawL d an
  | none => false
def strL (d : Nat) : List (Nat × Ty) → Bool
  | [] => false
  | (u, .str) :: l => Nat.beq u d || strL d l
  | _ :: l => strL d l
def strAn (d : Option Nat) (an : List (Nat × Ty)) : Bool := match d with
  | some d => strL d an
  | none => false
def hasAn (d : Option Nat) (an : List (Nat × Ty)) : Bool := match d with
  | some d => hasAnL d an
  | none => false
def sCall (dst : Option Nat) (c : Call) : Option Y := match c.callee, c.args.toList, c.argTypes.toList with
  | .builtin .len, [x], [T] => match opd s x with
    | some (.one (.own _)) => sLenO V.tt s k T x
    | some (.vw _ _ _ _ _ _) => sLenV V.tt s k T x
    | some (.xv _ _ _ _ _ _ _) => sLenV V.tt s k T x
    | _ => sLen V.tt s k T x
  | .builtin .append, [x, y], [T, U] => match Nat.beq T U with
    | true => (match opd s x with
      | some (.vw _ _ _ _ _ _) => sAppV V.tt s k T x y
      | _ => (match opd s y with
        | some (.sub _ _ _ _ _ _) => sAppP V.tt s k T x y
        | some (.pre _ _ _ _ _ _) => sAppP V.tt s k T x y
        | _ => sApp V.tt V.an s k dst T x y))
    | false => sAppM V.tt s k T U x y
  | .builtin .clear, [x], [T] => sClearV V.tt s k T x
  | .builtin .copy, [x, y], [T, _] => match opd s x with
    | some (.vw _ _ _ _ _ _) => sCopyW V.tt s k T x y
    | some (.xv _ _ _ _ _ _ _) => sCopyW V.tt s k T x y
    | _ => sCopy V.tt s k T x y
  | .builtin .min, [x, y], [_, _] => sMin s k x y
  | .builtin .max, [x, y], [_, _] => sMax s k x y
  | .value (.func g), xs, _ => match (fs V.ft g).bind (·.cl) with
    | some q => match Nat.beq q.2 7, xs with
      | true, xs => sCallN V.ft s k g xs
      | false, [x] => (match Nat.beq q.2 9 with
        | true => sNew V.ft s k q.1 g x
        | false => chkT (!Nat.beq q.2 0 && !Nat.ble 1000 q.2) (sClone s k q.1 q.2 x))
      | false, [x, y] => (match Nat.ble 1000 q.2 with
        | true => sTog s k q.1 (q.2 - 1000) x y
        | false => chkT (Nat.beq q.2 0) (sOver s k x y))
      | _, _ => none
    | none => sCallF V.ft s k g xs
  | .value (.tmp t), xs, _ => match ptrClo V.ft s t xs.length with
    | some c => sCallB V.ft s k c xs
    | none => sCallV V.ft s k t xs
  | _, _, _ => none
def step (o : Oper) : Option Y := match o.op with
  | .move x => sMove s k x
  | .assign x => sMove s k x
  | .pick c x y => sPick s k c x y
  | .unOp .not _ x => sNot s k x
  | .unOp .neg _ x => sNeg s k x
  | .binOp b t x y _ => match opd s y with
   | some (.capv _ _) => sCmpC s k b x y
   | _ => match opd s x with
    | some (.one (.rd _ (.tree _ _ _) _)) => sEqP V.tt s k b t x y
    | some (.one (.ptr _ _)) => sEqP V.tt s k b t x y
    | some (.one (.rdn _ _ _ _)) => sEqN V.tt s k b t x y
    | some (.one (.own _)) => sEqN V.tt s k b t x y
    | some (.one (.val (.slice _ _ _))) => sEqN V.tt s k b t x y
    | some (.one (.val (.string _))) => sBinS V.tt s k b t x y
    | _ => sBin V.tt s k b t x y
  | .index T x i => sIdxS V.tt s k T x i
  | .extract x i => sExtract s k x i
  | .indexAddr T x i => match opd s x with
    | some (.one (.own h)) => (match holOf h s.chs with
      | some _ => sIndexH V.tt s k T x i
      | none => sIndexO V.tt s k T x i)
    | some (.vw _ _ _ _ _ _) => sIndexV V.tt s k T x i
    | some (.xv _ _ _ _ _ _ _) => sIndexV V.tt s k T x i
    | _ => sIndexR V.tt s k T x i
  | .fieldAddr T x f => match opd s x with
    | some (.one (.fz _ _ _ _ _)) => sFieldZ V.tt s k T x f
    | some (.one (.rd _ (.tree _ _ _) _)) => sFieldT V.tt s k T x f
    | _ => sField V.tt s k T x f
  | .load T x => match opd s x with
    | some (.elr _ _ _ _ _ _ _) => sLoadR V.tt s k T x
    | some (.elo _ _ _ _ _ _ _ _) => sLoadO V.tt s k T x
    | some (.one (.fz _ _ _ _ _)) => sLoadZ V.tt s k T x
    | some (.one (.fzf _ _ _ _ _)) => sLoadZ V.tt s k T x
    | _ => sLoadB V.tt s k T x
  | .store T x y => match opd s x with
    | some (.elo h _ _ _ _ _ _ _) => match holOf h s.chs with
      | some _ => sStoreG V.tt s k T x y
      | none => sStoreO V.tt s k T x y
    | _ => sStoreB V.tt s k T x y
  | .nilCheck x => sNilC s k x
  | .slice T x (some lo) (some hi) (some mx) => sSlice3 V.tt s k T x lo hi mx
  | .slice T x lo hi none => match opd s x with
    | some (.vw _ _ _ _ _ _) => sSliceA V.tt s k T x lo hi
    | some (.xv _ _ _ _ _ _ _) => sSliceA V.tt s k T x lo hi
    | some (.one (.own _)) => match rawAn o.dst V.an with
     | true => sSliceA V.tt s k T x lo hi
     | false => match strAn o.dst V.an with
      | true => (match lo, hi with
        | none, some hi => sSliceE V.tt s k T x hi
        | _, _ => none)
      | false => match lo with
      | some _ => match hasAn o.dst V.an with
        | true => sSliceD V.tt s k T x lo hi
        | false => sSliceV V.tt s k T x lo hi
      | none => match hasAn o.dst V.an with
        | true => sSliceW V.tt s k T x lo hi
        | false => sSliceO V.tt s k T x lo hi
    | some (.one (.val (.string _))) => sSliceS V.tt s k T x lo hi
    | _ => sSliceR V.tt s k T x lo hi
  | .box T x => sBox s k T x
  | .alloc T => sAlloc V.tt s k T
  | .build T parts => sBuild V.tt s k T parts
  | .buildSlice T m parts => sLit V.tt V.an s k o.dst T m parts
  | .makeSlice T x y => sMake V.tt V.an s k o.dst T x y
  | .call c => sCall V s k o.dst c
  | .makeFunc f x y => sMakeF s k f x y
  | .makeMap T none => sMkM V.tt s k T
  | .convert S D x => match opd s x with
    | some (.one (.val (.int _ _))) => sConv V.tt s k S D x
    | _ => sConvS V.tt s k S D x
  | .mapUpdate T m x y => sPutM V.tt s k T m x y
  | .insert T m x y => sPutM V.tt s k T m x y
  | .lookup T m x two => sLookM V.tt s k T m x two
  | _ => none
end
section
variable {Y : Type} {V : Env} {s : Sg} {k : Res → Option Y} {P : Program} {w0 : World} {o : Oper} {res : Y}
theorem arr1 {α : Type} {a : Array α} {x : α} (h : a.toList = [x]) : a = #[x] := Array.ext' h
theorem arr2 {α : Type} {a : Array α} {x y : α} (h : a.toList = [x, y]) : a = #[x, y] := Array.ext' h
theorem sCall_ok (hT : TTok P V.tt) (hF : FTok P V.ft) {c : Call} (ho : o.op = .call c) (h : sCall V s k o.dst c = some res) : Oks P w0 s o k res := by
  obtain ⟨cal, args, tys⟩ := c
  unfold sCall at h
  split at h
  · rename_i x T h1 h2 h3
    obtain rfl : cal = .builtin .len := h1
    obtain rfl : args = #[x] := arr1 h2
    obtain rfl : tys = #[T] := arr1 h3
    split at h
    · exact sLenO_ok hT ho h
    · exact sLenV_ok hT ho h
    · exact sLenV_ok hT ho h
    · exact sLen_ok hT ho h
  · rename_i x y T U h1 h2 h3
    obtain rfl : cal = .builtin .append := h1
    obtain rfl : args = #[x, y] := arr2 h2
    obtain rfl : tys = #[T, U] := arr2 h3
    split at h
    · rename_i hu
      obtain rfl : T = U := Nat.eq_of_beq_eq_true hu
      split at h
      · exact sAppV_ok hT ho h
      · split at h
        · exact sAppP_ok hT ho h
        · exact sAppP_ok hT ho h
        · exact sApp_ok hT ho h
    · exact sAppM_ok hT ho h
  · rename_i x T h1 h2 h3
    obtain rfl : cal = .builtin .clear := h1
    obtain rfl : args = #[x] := arr1 h2
    obtain rfl : tys = #[T] := arr1 h3
    exact sClearV_ok hT ho h
  · rename_i x y T U h1 h2 h3
    obtain rfl : cal = .builtin .copy := h1
    obtain rfl : args = #[x, y] := arr2 h2
    obtain rfl : tys = #[T, U] := arr2 h3
    split at h
    · exact sCopyW_ok hT ho h
    · exact sCopyW_ok hT ho h
    · exact sCopy_ok hT ho h
  · rename_i x y T U h1 h2 h3
    obtain rfl : cal = .builtin .min := h1
    obtain rfl : args = #[x, y] := arr2 h2
    obtain rfl : tys = #[T, U] := arr2 h3
    exact sMin_ok ho h
  · rename_i x y T U h1 h2 h3
    obtain rfl : cal = .builtin .max := h1
    obtain rfl : args = #[x, y] := arr2 h2
    obtain rfl : tys = #[T, U] := arr2 h3
    exact sMax_ok ho h
  · rename_i g h1
    obtain rfl : cal = .value (.func g) := h1
    split at h
    · rename_i q hq
      obtain ⟨f, hf, hq⟩ := bind_some hq
      split at h
      · rename_i hb
        exact sCallN_ok hF (fun f' hf' => by
          obtain rfl : f = f' := Option.some.inj (hf.symm.trans hf')
          exact ((hF.get hf).cl q hq).2.1 hb) ho h
      · rename_i x h7 hx
        obtain rfl : args = #[x] := arr1 hx
        split at h
        · rename_i h9
          exact sNew_ok hF (fun f' hf' => by
            obtain rfl : f = f' := Option.some.inj (hf.symm.trans hf')
            exact ((hF.get hf).cl q hq).2.2 h9) ho h
        · rename_i h9
          obtain ⟨hb, h8⟩ := chkT_ok h
          rw [Bool.and_eq_true] at hb
          exact sClone_ok (((hF.get hf).cl q hq).1.2.1 (by simpa using hb.1) h7 (by simpa using hb.2) h9) ho h8
      · rename_i x y h7 hx
        obtain rfl : args = #[x, y] := arr2 hx
        split at h
        · rename_i hb
          exact sTog_ok (((hF.get hf).cl q hq).1.2.2 hb) ho h
        · obtain ⟨hb, h9⟩ := chkT_ok h
          exact sOver_ok (((hF.get hf).cl q hq).1.1 hb) ho h9
      · cases h
    · exact sCallF_ok hF ho h
  · rename_i t h1
    obtain rfl : cal = .value (.tmp t) := h1
    split at h
    · exact sCallB_ok hF ‹_› ho h
    · exact sCallV_ok hF ho h
  · cases h
theorem step_ok (hT : TTok P V.tt) (hF : FTok P V.ft) (h : step V s k o = some res) : Oks P w0 s o k res := by
  unfold step at h
  split at h
  · exact sMove_ok (.inl ‹_›) h
  · exact sMove_ok (.inr ‹_›) h
  · exact sPick_ok ‹_› h
  · exact sNot_ok ‹_› h
  · exact sNeg_ok ‹_› h
  · have ho := ‹o.op = _›
    split at h
    · exact sCmpC_ok ho h
    · split at h
      · exact sEqP_ok hT ho h
      · exact sEqP_ok hT ho h
      · exact sEqN_ok hT ho h
      · exact sEqN_ok hT ho h
      · exact sEqN_ok hT ho h
      · exact sBinS_ok hT ho h
      · exact sBin_ok hT ho h
  · exact sIdxS_ok hT ‹_› h
  · exact sExtract_ok ‹_› h
  · have ho := ‹o.op = _›
    split at h
    · split at h
      · exact sIndexH_ok hT ho h
      · exact sIndexO_ok hT ho h
    · exact sIndexV_ok hT ho h
    · exact sIndexV_ok hT ho h
    · exact sIndexR_ok hT ho h
  · have ho := ‹o.op = _›
    split at h
    · exact sFieldZ_ok hT ho h
    · exact sFieldT_ok hT ho h
    · exact sField_ok hT ho h
  · have ho := ‹o.op = _›
    split at h
    · exact sLoadR_ok hT ho h
    · exact sLoadO_ok hT ho h
    · exact sLoadZ_ok hT ho h
    · exact sLoadZ_ok hT ho h
    · exact sLoadB_ok hT ho h
  · have ho := ‹o.op = _›
    split at h
    · split at h
      · exact sStoreG_ok hT ho h
      · exact sStoreO_ok hT ho h
    · exact sStoreB_ok hT ho h
  · exact sNilC_ok ‹_› h
  · exact sSlice3_ok hT ‹_› h
  · have ho := ‹o.op = _›
    split at h
    · exact sSliceA_ok hT ho h
    · exact sSliceA_ok hT ho h
    · split at h
      · exact sSliceA_ok hT ho h
      · split at h
        · split at h
          · exact sSliceE_ok hT ho h
          · cases h
        · split at h
          · split at h
            · exact sSliceD_ok hT ho h
            · exact sSliceV_ok hT ho h
          · split at h
            · exact sSliceW_ok hT ho h
            · exact sSliceO_ok hT ho h
    · exact sSliceS_ok hT ho h
    · exact sSliceR_ok hT ho h
  · exact sBox_ok ‹_› h
  · exact sAlloc_ok hT ‹_› h
  · exact sBuild_ok hT ‹_› h
  · exact sLit_ok hT ‹_› h
  · exact sMake_ok hT ‹_› h
  · exact sCall_ok hT hF ‹_› h
  · exact sMakeF_ok ‹_› h
  · exact sMkM_ok hT ‹_› h
  · have ho := ‹o.op = _›
    split at h
    · exact sConv_ok hT ho h
    · exact sConvS_ok hT ho h
  · exact sPutM_ok hT (.inl ‹_›) h
  · exact sPutM_ok hT (.inr ‹_›) h
  · exact sLookM_ok hT ‹_› h
  · cases h
end

/-! ### Guards -/
inductive Gd
  | no | skip | bad
  | yes (t : Nat) (b neg want : Bool)
def guardOf (ops : List Oper) (s : Sg) (o : Oper) : Gd := match o.guard with
  | none => .no
  | some (g, want) => match ops[g]? with
    | some p => match p.dst with
      | some t => match look s.env t with
        | some (.one (.val (.bool b))) => .yes t b false want
        | some (.one (.nb b)) => .yes t b true want
        | some .und => .skip
        | _ => .bad
      | none => .bad
    | none => .bad
def setB (s : Sg) (t : Nat) (b : Bool) : Sg := ⟨(t, s.nxt, .one (.val (.bool b))) :: s.env, s.chs, s.nxt + 1⟩
def avHdrs : AV → List Hdr
  | .one (.own h) => [h]
  | .agg xs => xs.flatMap fun x => match x with | .own h => [h] | _ => []
  | .elo h _ _ _ _ _ _ _ => [h]
  | _ => []
def prepL : List Hdr → Sg → Sg
  | [], s => s
  | h :: hs, s => prepL hs (settle 4 h s)
def hdrsOf (s : Sg) : List Operand → List Hdr
  | [] => []
  | x :: xs => (match opd s x with | some v => avHdrs v | none => []) ++ hdrsOf s xs
def keptO (o : Oper) : List Operand := match o.op with
  | .store _ _ y => [y]
  | .build _ parts => parts.toList.map (·.2)
  | .buildSlice _ _ parts => parts.toList.map (·.2)
  | .call c => c.args.toList
  | .box _ x => [x]
  | .binOp _ _ x _ _ => [x]
  | .nilCheck x => [x]
  | _ => []
def frzA (o : Bool) : AV → List (Bool × Hdr)
  | .one (.own h) => [(false, h)]
  | .one (.ptr h off) => if o && Nat.beq off 0 then [(true, h)] else []
  | .agg xs => xs.flatMap fun x => match x with | .own h => [(false, h)] | .ptr h off => if o && Nat.beq off 0 then [(true, h)] else [] | _ => []
  | _ => []
def frzH (s : Sg) (o : Bool) : List Operand → List (Bool × Hdr)
  | [] => []
  | x :: xs => (match opd s x with | some v => frzA o v | none => []) ++ frzH s o xs
def keeps (o : Oper) : Bool := match o.op with
  | .binOp _ _ _ _ _ => false
  | .nilCheck _ => false
  | _ => true
def cellHs : List LV → List (Bool × Hdr)
  | [] => []
  | .own h :: l => (false, h) :: cellHs l
  | _ :: l => cellHs l
def ldH (s : Sg) (o : Oper) : List (Bool × Hdr) := match o.op with
  | .load _ x => match opd s x with
    | some (.one (.ptr h _)) => match blkOf h s.chs with
      | some b => cellHs b.cells
      | none => []
    | _ => []
  | _ => []
def rowTr : Trs → Bool
  | [] => false
  | q :: l => Nat.beq q.2.1 0 || rowTr l
def ldF (tr : Trs) (s : Sg) (o : Oper) : List (Bool × Hdr) := match rowTr tr with
  | true => ldH s o
  | false => []
def noRows : Trs → Trs
  | [] => []
  | q :: l => match Nat.beq q.2.1 0 with
    | true => noRows l
    | false => q :: noRows l
def isSto (s : Sg) (o : Oper) : Bool := match o.op with
  | .store _ x _ => match opd s x with
    | some (.one (.ptr _ _)) => true
    | _ => false
  | .call c => match c.callee with
    | .value _ => false
    | _ => true
  | _ => false
def kptF (tr : Trs) (s : Sg) (o : Oper) : List (Bool × Hdr) := match rowTr tr && isSto s o with
  | true => []
  | false => frzH s (keeps o) (keptO o)
def prepF (tr : Trs) (o : Oper) (s : Sg) : Sg := match tr with
  | [] => s
  | _ => frzL tr (kptF tr s o) s
def prep (tr : Trs) (o : Oper) (s0 : Sg) : Sg := match openA s0 with
  | s => prepF tr o (prepB o (prepL (hdrsOf s o.op.operands.toList) s))
section
variable {Y : Type} (V : Env) (all : List Oper) (k : Sg → Option Y)
noncomputable def runOp (kont : Sg → Option Y) (o : Oper) (s : Sg) : Option Y := match guardOf all s o with
  | .bad => none
  | .no => chkT (okO V.n s o) (match capOp V.tt s o with
    | some q => capAll q.2.xs.length fun c => kont (after s o.dst (capRes q c))
    | none => step V s (fun r => kont (after s o.dst r)) o)
  | .skip => chkT (dstOk V.n o.dst) (kont (skip s o.dst))
  | .yes t b neg want => if b then (match (!neg) == want with
      | true => chkT (okO V.n (setB s t (!neg)) o) (step V (setB s t (!neg)) (fun r => kont (after (setB s t (!neg)) o.dst r)) o)
      | false => chkT (dstOk V.n o.dst) (kont (skip (setB s t (!neg)) o.dst)))
    else (match neg == want with
      | true => chkT (okO V.n (setB s t neg) o) (step V (setB s t neg) (fun r => kont (after (setB s t neg) o.dst r)) o)
      | false => chkT (dstOk V.n o.dst) (kont (skip (setB s t neg) o.dst)))
noncomputable def runSeq : List Oper → Sg → Option Y
  | [], s => k s
  | o :: os, s => runOp V all (runSeq os) o (prep V.tr o s)
end
section
variable {Y : Type} {V : Env} {P : Program} {I : Hp} {w0 w : World} {F : Ch} {J : Hp} {θ : Th} {s : Sg} {a : Act} {res : Y} {Q : Exit → Act → World → Prop}
theorem settle1_fr {h : Hdr} {s' : Sg} (hs : settle1 h s = some s') (hS : Sim P I w0 F V.n J θ s a w) : Fr s θ s' θ := by
  obtain ⟨r, hr, hs⟩ := bind_some hs
  obtain ⟨q, hq, hs⟩ := bind_some hs
  have hp := holOf_ok hr
  obtain ⟨l, ver, hl, hp2, hu⟩ := partOf_ok hq
  have hmem : ∀ e, e ∈ q.2.2 → e ∈ s.chs := fun e he => (hp.trans (hp2.cons _)).mem_iff.2 (by simp [he])
  cases hb : q.1 with
  | true =>
    rw [hb] at hs
    obtain rfl := Option.some.inj (show some _ = some s' from hs)
    refine ⟨Nat.le_succ _, Same.rfl, fun e he _ => he, fun e he h' ver' c hs' => ?_⟩
    rcases List.mem_cons.1 he with rfl | he
    · obtain ⟨rfl, hs'⟩ := hs'
      rcases hs' with ⟨rfl, rfl⟩ | hs'
      · exact .inr ⟨r.ent h, hp.mem_iff.2 (by simp), rfl, .inr ⟨rfl, rfl⟩⟩
      · exact hs'.elim
    · exact .inr ⟨e, hmem e he, hs'⟩
  | false =>
    rw [hb] at hs
    obtain rfl := Option.some.inj (show some _ = some s' from hs)
    refine ⟨Nat.le_succ _, Same.rfl, fun e he _ => he, fun e he h' ver' c hs' => ?_⟩
    rcases List.mem_cons.1 he with rfl | he
    · obtain ⟨rfl, hs'⟩ := hs'
      rcases hs' with ⟨rfl, rfl⟩ | hs'
      · exact .inl (Nat.le_refl _)
      · exact hs'.elim
    · exact .inr ⟨e, hmem e he, hs'⟩
theorem settle_fr : ∀ {m : Nat} {h : Hdr} {s : Sg}, Sim P I w0 F V.n J θ s a w → Fr s θ (settle m h s) θ
  | 0, _, _, hS => Fr.rfl
  | m + 1, h, s, hS => by
    unfold settle
    split
    · split
      · split
        · rename_i hs
          exact (settle_fr hS).trans (settle1_fr hs (settle_ok hS))
        · exact Fr.rfl
      · exact Fr.rfl
    · exact Fr.rfl
theorem prepL_ok : ∀ {hs : List Hdr} {s : Sg}, Sim P I w0 F V.n J θ s a w → Sim P I w0 F V.n J θ (prepL hs s) a w ∧ Fr s θ (prepL hs s) θ
  | [], s, hS => ⟨hS, Fr.rfl⟩
  | h :: hs, s, hS => by
    obtain ⟨k1, k2⟩ := prepL_ok (hs := hs) (settle_ok (m := 4) (h := h) hS)
    exact ⟨k1, (settle_fr hS).trans k2⟩
theorem setB_ok {t : Nat} {b : Bool} (hS : Sim P I w0 F V.n J θ s a w) (hv' : (envL θ s).lookup t = some (.bool b)) : Sim P I w0 F V.n J θ (setB s t b) a w ∧ Fr s θ (setB s t b) θ := by
  refine ⟨⟨hS.le, hS.agr.sub fun u v h => ?_, hS.st, fun e he => ?_, fun e he => ?_, nd_put (d := some t) (av := .one (.val (.bool b))) hS.fine.nd hS.fine.ver, fun e he => okE_same Same.rfl (Nat.le_succ _) Newer.rfl (hS.fine.chs e he) Hp.le.rfl, hS.fine.lay⟩, Nat.le_succ _, Same.rfl, fun e he h => ?_, Newer.rfl⟩
  · have h : List.lookup u ((t, Value.bool b) :: envL θ s) = some v := h
    rw [List.lookup_cons] at h
    by_cases e : u = t
    · subst e
      simp at h
      rw [hv', h]
    · rw [show (u == t) = false from by simpa using e] at h
      exact h
  · rcases List.mem_cons.1 he with rfl | he
    · exact Eq.refl true
    · exact AV.ok_same Same.rfl (Nat.le_succ _) Newer.rfl (hS.fine.env e he) Hp.le.rfl
  · rcases List.mem_cons.1 he with rfl | he
    · exact Nat.lt_succ_self _
    · exact Nat.lt_succ_of_lt (hS.fine.ver e he)
  · rcases List.mem_cons.1 he with rfl | he
    · exact absurd h (Nat.lt_irrefl _)
    · exact he
theorem guard_ok {ops : Array Oper} {o : Oper} : match guardOf ops.toList s o with
    | .no => o.guard = none
    | .skip => ∃ g want d, o.guard = some (g, want) ∧ (ops[g]?).bind (·.dst) = some d ∧ (envL θ s).lookup d = some undef
    | .yes t b neg want => ∃ g, o.guard = some (g, want) ∧ (ops[g]?).bind (·.dst) = some t ∧ (envL θ s).lookup t = some (.bool (if neg then !b else b))
    | .bad => True := by
  unfold guardOf
  cases hg : o.guard with
  | none => exact rfl
  | some gw =>
    obtain ⟨g, want⟩ := gw
    simp only
    cases hp : ops.toList[g]? with
    | none => trivial
    | some p =>
      simp only
      cases hd : p.dst with
      | none => trivial
      | some t =>
        simp only
        have hd' : (ops[g]?).bind (·.dst) = some t := by
          rw [← Array.getElem?_toList, hp]; exact hd
        cases hl : look s.env t with
        | none => trivial
        | some v =>
          have hv' := look_envL (θ := θ) hl
          cases v with
          | one x =>
            cases x with
            | val u =>
              cases u with
              | bool b => exact ⟨g, rfl, hd', hv'⟩
              | _ => trivial
            | nb b => exact ⟨g, rfl, hd', hv'⟩
            | _ => trivial
          | und => exact ⟨g, want, t, rfl, hd', hv'⟩
          | _ => trivial
theorem after_fr {o : Oper} {r : Res} (hG : GoodA P w0 J θ s o r) (hS : Sim P I w0 F V.n J θ s a w) {θ' : Th} (hs : Same s.nxt θ θ') : Fr s θ (after s o.dst r) θ' :=
  Fr.put hs (Res.newer hG.perm hG.says)
theorem runOp_ok (hT : TTok P V.tt) (hF : FTok P V.ft) {ops : Array Oper} {rest : List Oper} {o : Oper} {kont : Sg → Option Y} (h : runOp V ops.toList kont o s = some res) (hS : Sim P I w0 F V.n J θ s a w)
    (K : ∀ s' θ' a' w', kont s' = some res → Sim P I w0 F V.n J θ' s' a' w' → Fr s θ s' θ' → wpList P ops Q rest a' w') : wpList P ops Q (o :: rest) a w := by
  have hg := guard_ok (θ := θ) (s := s) (ops := ops) (o := o)
  have run : ∀ s1, Sim P I w0 F V.n J θ s1 a w → Fr s θ s1 θ → (∀ g want, o.guard = some (g, want) → ∃ d, (ops[g]?).bind (·.dst) = some d ∧ (envL θ s1).lookup d = some (.bool want)) → chkT (okO V.n s1 o) (step V s1 (fun r => kont (after s1 o.dst r)) o) = some res → wpList P ops Q (o :: rest) a w := by
    intro s1 hS1 hF1 hgd h
    obtain ⟨hk, h⟩ := chkT_ok h
    obtain ⟨r, hr, hG⟩ := step_ok hT hF h
    cases hgo : o.guard with
    | none => exact sim_op (hG.at hS1.fine) hS1 hgo hk fun θ' a' w' hs hS' => K _ θ' a' w' hr hS' (hF1.trans (after_fr (hG.at hS1.fine) hS1 hs))
    | some gw =>
      obtain ⟨g, want⟩ := gw
      obtain ⟨d, hd, hv'⟩ := hgd g want hgo
      exact sim_opg (hG.at hS1.fine) hS1 hgo hd hv' rfl hk fun θ' a' w' hs hS' => K _ θ' a' w' hr hS' (hF1.trans (after_fr (hG.at hS1.fine) hS1 hs))
  have skp : ∀ s1, Sim P I w0 F V.n J θ s1 a w → Fr s θ s1 θ → ∀ g want d b, o.guard = some (g, want) → (ops[g]?).bind (·.dst) = some d → (envL θ s1).lookup d = some (.bool b) → b = (!want) → chkT (dstOk V.n o.dst) (kont (skip s1 o.dst)) = some res → wpList P ops Q (o :: rest) a w := by
    intro s1 hS1 hF1 g want d b hgo hd hv' hb h
    obtain ⟨hk, h⟩ := chkT_ok h
    exact sim_skip hS1 hgo hd hv' hb hk fun a' hS' => K _ θ a' w h hS' (hF1.trans (Fr.put Same.rfl Newer.rfl))
  unfold runOp at h
  split at h
  · cases h
  · rename_i hgo
    rw [hgo] at hg
    obtain ⟨hk, h9⟩ := chkT_ok h
    clear h
    split at h9
    · rename_i q hq
      obtain ⟨q1, q2, hG⟩ := capOp_ok hT hq hS
      have := capAll_some h9 _ q1 q2
      exact sim_op hG hS (show o.guard = none from hg) hk fun θ' a' w' hs hS' => K _ θ' a' w' this hS' (Fr.rfl.trans (after_fr hG hS hs))
    · refine run s hS Fr.rfl (fun g want e => by rw [show o.guard = none from hg] at e; cases e) ?_
      rw [hk]; exact h9
  · rename_i hgo
    rw [hgo] at hg
    obtain ⟨g, want, d, h1, h2, h3⟩ := hg
    obtain ⟨hk, h⟩ := chkT_ok h
    exact sim_skip_u hS h1 h2 h3 hk fun a' hS' => K _ θ a' w h hS' (Fr.put Same.rfl Newer.rfl)
  · rename_i t b neg want hgo
    rw [hgo] at hg
    obtain ⟨g, h1, h2, h3⟩ := hg
    have both : ∀ c : Bool, (envL θ s).lookup t = some (.bool c) → (match c == want with
        | true => chkT (okO V.n (setB s t c) o) (step V (setB s t c) (fun r => kont (after (setB s t c) o.dst r)) o)
        | false => chkT (dstOk V.n o.dst) (kont (skip (setB s t c) o.dst))) = some res → wpList P ops Q (o :: rest) a w := by
      intro c hc h
      obtain ⟨q1, q2⟩ := setB_ok hS hc
      have hlk : (envL θ (setB s t c)).lookup t = some (.bool c) := by
        show List.lookup t ((t, Value.bool c) :: envL θ s) = _
        rw [List.lookup_cons_self]
      split at h
      · rename_i hcw
        have hcw : c = want := by simpa using hcw
        exact run _ q1 q2 (fun g' want' e => by
          rw [h1] at e
          obtain ⟨rfl, rfl⟩ : g = g' ∧ want = want' := by simpa using e
          exact ⟨t, h2, by rw [hlk, hcw]⟩) h
      · rename_i hcw
        have hcw : c ≠ want := by simpa using hcw
        exact skp _ q1 q2 g want t c h1 h2 hlk (by cases c <;> cases want <;> simp_all) h
    cases b with
    | true =>
      refine both (!neg) ?_ (show _ = some res from h)
      rw [h3]; cases neg <;> rfl
    | false =>
      refine both neg ?_ (show _ = some res from h)
      rw [h3]; cases neg <;> rfl
theorem prep_ok {tr : Trs} {o : Oper} (hS : Sim P I w0 F V.n J θ s a w) : ∃ J' θ', J.le J' ∧ Sim P I w0 F V.n J' θ' (prep tr o s) a w ∧ Fr s θ (prep tr o s) θ' := by
  obtain ⟨θ1, S1, F1⟩ := openA_ok hS
  obtain ⟨S2, F2⟩ := prepL_ok (hs := hdrsOf (openA s) o.op.operands.toList) S1
  obtain ⟨J2, hJ2, S3, F3⟩ := prepB_ok (o := o) S2
  show ∃ J' θ', J.le J' ∧ Sim P I w0 F V.n J' θ' (prepF tr o (prepB o (prepL (hdrsOf (openA s) o.op.operands.toList) (openA s)))) a w ∧ Fr s θ (prepF tr o (prepB o (prepL (hdrsOf (openA s) o.op.operands.toList) (openA s)))) θ'
  unfold prepF
  split
  · exact ⟨J2, θ1, hJ2, S3, (F1.trans F2).trans F3⟩
  · obtain ⟨J', θ', h1, h2, h3⟩ := frzL_ok S3
    exact ⟨J', θ', hJ2.trans h1, h2, ((F1.trans F2).trans F3).trans h3⟩
theorem runSeq_ok (hT : TTok P V.tt) (hF : FTok P V.ft) {ops : Array Oper} {k : Sg → Option Y} : ∀ {l : List Oper} {s : Sg} {J : Hp} {θ : Th} {a : Act} {w : World}, runSeq V ops.toList k l s = some res → Sim P I w0 F V.n J θ s a w →
    (∀ s' J' θ' a' w', k s' = some res → Sim P I w0 F V.n J' θ' s' a' w' → J.le J' → Fr s θ s' θ' → Q .normal a' w') → wpList P ops Q l a w
  | [], s, J, θ, a, w, h, hS, K => wpList_nil (K s J θ a w h hS Hp.le.rfl Fr.rfl)
  | o :: os, s, J, θ, a, w, h, hS, K => by
    obtain ⟨J1, θ1, q0, q1, q2⟩ := prep_ok (tr := V.tr) (o := o) hS
    exact runOp_ok hT hF (show runOp V ops.toList (runSeq V ops.toList k os) o (prep V.tr o s) = some res from h) q1 fun s' θ' a' w' hk hS' hFr =>
      runSeq_ok hT hF hk hS' fun s2 J2 θ2 a2 w2 hk2 hS2 hJ2 hFr2 => K s2 J2 θ2 a2 w2 hk2 hS2 (q0.trans hJ2) ((q2.trans hFr).trans hFr2)
end
end Go.Proofs.YtfkjjnddefojjaaGreatDoor.R
/- Cuts: what a loop or a join carries along. No program text is named here. -/
set_option linter.unusedVariables false
set_option linter.unusedSimpArgs false
set_option linter.unnecessarySimpa false
set_option linter.unusedSectionVars false
namespace Go.Proofs.YtfkjjnddefojjaaGreatDoor.R
open Go.RowKit
open Go.Proofs.YtfkjjnddefojjaaGreatDoor.D

/-! ### Kinds of places -/
inductive Knd
  | num (k : IntKind) | boo | str
  | rd (E : TypeId) (t : Ty)
  | own (E : TypeId) (t : Ty)
  | map (d : MD)
  | tre (T E : TypeId) (t : Ty)
  | bx (T : TypeId) (k : IntKind)
def Knd.den : Knd → Type
  | .num _ => Int
  | .boo => Bool
  | .str => ByteArray
  | .rd _ t => List t.den
  | .own _ t => List t.den
  | .map d => List (d.k.den × d.e.den)
  | .tre _ _ t => Tr t.den
  | .bx _ _ => Int
def mpCast {a b : MD} (h : a = b) (m : List (a.k.den × a.e.den)) : List (b.k.den × b.e.den) := h ▸ m
def takeMp (d : MD) (x : LV) (chs : List Ent) : Option (List (d.k.den × d.e.den) × List Ent) := match x with
  | .own h => (mpOf h chs).bind fun r => if h : MD.beq r.md d = true then some (mpCast (MD.beq_eq h) r.m, r.rest) else none
  | _ => none
theorem takeMp_ok {d : MD} {x : LV} {chs : List Ent} {q : List (d.k.den × d.e.den) × List Ent} (h : takeMp d x chs = some q) : ∃ hh ver, x = .own hh ∧ chs.Perm ((hh, ver, d.ck q.1) :: q.2) := by
  unfold takeMp at h
  split at h
  · rename_i hh
    obtain ⟨r, hr, h⟩ := bind_some h
    have hp := mpOf_ok hr
    obtain ⟨ver, md, m, rest⟩ := r
    split at h
    · rename_i he
      obtain rfl := MD.beq_eq he
      obtain rfl := Option.some.inj h
      exact ⟨hh, ver, rfl, hp⟩
    · cases h
  · cases h
def takeBx (T : TypeId) (k : IntKind) (x : LV) (chs : List Ent) : Option (Int × List Ent) := match x with
  | .ptr h off => chkT (Nat.beq off 0) ((blkOf h chs).bind fun b => chkT (Nat.beq b.T T) (match b.cells with
    | [c] => (lvInt k c).bind fun d => some (d, b.rest)
    | _ => none))
  | _ => none
theorem takeBx_ok {T : TypeId} {k : IntKind} {x : LV} {chs : List Ent} {q : Int × List Ent} (h : takeBx T k x chs = some q) : ∃ hh ver c, x = .ptr hh 0 ∧ lvInt k c = some q.1 ∧ chs.Perm ((hh, ver, .blk T [c]) :: q.2) := by
  cases x with
  | ptr hh off =>
    obtain ⟨h0, h⟩ := chkT_ok (show chkT (Nat.beq off 0) _ = some q from h)
    obtain rfl := Nat.eq_of_beq_eq_true h0
    obtain ⟨b, hb, h2⟩ := bind_some h
    obtain ⟨h1, h3⟩ := chkT_ok h2
    have hp := blkOf_ok hb
    clear h2 h hb
    obtain ⟨ver, T', cells, rest⟩ := b
    obtain rfl : T' = T := Nat.eq_of_beq_eq_true h1
    match cells, h3, hp with
    | [c], h, hp =>
      obtain ⟨d, hd, h4⟩ := bind_some (show (lvInt k c).bind _ = some q from h)
      obtain rfl := Option.some.inj h4
      exact ⟨hh, ver, c, rfl, hd, hp⟩
    | [], h, _ => cases h
    | _ :: _ :: _, h, _ => cases h
  | _ => cases h
def denK : List Knd → Type
  | [] => Unit
  | [k] => k.den
  | k :: l :: ks => k.den × denK (l :: ks)
def denN : List Knd → Type
  | [] => Unit
  | k :: ks => k.den × denN ks
def toN : (ks : List Knd) → denK ks → denN ks
  | [], _ => ()
  | [_], d => (d, ())
  | _ :: l :: ks, d => (d.1, toN (l :: ks) d.2)
def ofN : (ks : List Knd) → denN ks → denK ks
  | [], _ => ()
  | [_], d => d.1
  | _ :: l :: ks, d => (d.1, ofN (l :: ks) d.2)
theorem toN_ofN : ∀ (ks : List Knd) (d : denN ks), toN ks (ofN ks d) = d
  | [], _ => rfl
  | [_], _ => rfl
  | _ :: l :: ks, d => congrArg (Prod.mk d.1) (toN_ofN (l :: ks) d.2)
def getK (k : Knd) (x : LV) (chs : List Ent) : Option (k.den × List Ent) := match k with
  | .num k => (lvInt k x).bind fun d => some (d, chs)
  | .boo => (lvBool x).bind fun d => some (d, chs)
  | .str => (lvStr x).bind fun d => some (d, chs)
  | .rd E t => (lvSl E t x).bind fun d => some (d, chs)
  | .own E t => (takeSl E t x chs).bind fun q => some (q.1, q.2.2)
  | .map d => takeMp d x chs
  | .tre T E t => (lvTr T E t x).bind fun d => some (d, chs)
  | .bx T k => takeBx T k x chs
def putK (id : Nat) : (k : Knd) → k.den → LV
  | .num k, d => .val (.int k d)
  | .boo, d => .val (.bool d)
  | .str, d => .val (.string d)
  | .rd E t, d => .rd ⟨id, []⟩ (.sl E t) d
  | .own _ _, _ => .own ⟨id, []⟩
  | .map _, _ => .own ⟨id, []⟩
  | .tre T E t, d => .rd ⟨id, []⟩ (.tree T E t) d
  | .bx _ _, _ => .ptr ⟨id, []⟩ 0
def newK (id ver : Nat) : (k : Knd) → k.den → List Ent
  | .own E t, d => [(⟨id, []⟩, ver, .own (.sl E t) d)]
  | .map md, d => [(⟨id, []⟩, ver, md.ck d)]
  | .bx T k, d => [(⟨id, []⟩, ver, .blk T [.val (.int k d)])]
  | _, _ => []
def getKs : (ks : List Knd) → List LV → List Ent → Option (denN ks × List Ent)
  | [], [], chs => some ((), chs)
  | k :: ks, x :: xs, chs => (getK k x chs).bind fun q => (getKs ks xs q.2).bind fun r => some ((q.1, r.1), r.2)
  | _, _, _ => none
def putKs (id : Nat) : (ks : List Knd) → denN ks → List LV
  | [], _ => []
  | k :: ks, d => putK id k d.1 :: putKs (id + 1) ks d.2
def newKs (id ver : Nat) : (ks : List Knd) → denN ks → List Ent
  | [], _ => []
  | k :: ks, d => newK id ver k d.1 ++ newKs (id + 1) ver ks d.2
section
variable {P : Program} {w0 w : World} {J : Hp} {θ : Th} {n : Nat} {C : List Ch}
theorem St.bun {ls : List Ch} {α : Type} {R : Rep α} {cs : List Value} {x : α} (h : St J w0 w (ls ++ C)) (hb : Bun J ls R cs x) : St J w0 w (Ch.own R cs x :: C) := by
  obtain ⟨h1, h2, F, h3, h4, h5⟩ := h
  obtain ⟨G, K, rfl, e1, e2⟩ := h3.split
  exact ⟨h1, h2, G ++ K, ⟨G, K, rfl, hb w G e1, e2⟩, h4, h5⟩
theorem own_one' {α : Type} {R : Rep α} {u : Value} {x : α} (h : St J w0 w (Ch.own R [u] x :: C)) : u.oneCell' = true := by
  obtain ⟨h1, h2, F, ⟨G, K, rfl, k, e⟩, h4, h5⟩ := h
  exact R.own_one k u (by simp)
theorem getK_ok {k : Knd} {x : LV} {chs : List Ent} {q : k.den × List Ent} (h : getK k x chs = some q) (hx : x.ok P w0 J θ n) (hS : St J w0 w (chs.map (toCh P θ) ++ C)) {θ' : Th} {id ver m : Nat} (hid : θ' id = x.v θ) (hm : id < m) :
    (putK id k q.1).ok P w0 J θ' m ∧ (putK id k q.1).v θ' = x.v θ ∧ St J w0 w ((newK id ver k q.1).map (toCh P θ') ++ (q.2.map (toCh P θ) ++ C)) ∧ ∀ e ∈ q.2, e ∈ chs := by
  have hh : hv θ' ⟨id, []⟩ = x.v θ := hid
  cases k with
  | num k =>
    obtain ⟨d, hd, h⟩ := bind_some (show (lvInt k x).bind _ = some q from h)
    obtain rfl := Option.some.inj h
    exact ⟨Eq.refl true, (lvInt_ok hd θ).symm, hS, fun e he => he⟩
  | boo =>
    obtain ⟨d, hd, h⟩ := bind_some (show (lvBool x).bind _ = some q from h)
    obtain rfl := Option.some.inj h
    exact ⟨Eq.refl true, (lvBool_ok hd θ).symm, hS, fun e he => he⟩
  | str =>
    obtain ⟨d, hd, h⟩ := bind_some (show (lvStr x).bind _ = some q from h)
    obtain rfl := Option.some.inj h
    exact ⟨Eq.refl true, (lvStr_ok hd θ).symm, hS, fun e he => he⟩
  | rd E t =>
    obtain ⟨d, hd, h⟩ := bind_some (show (lvSl E t x).bind _ = some q from h)
    obtain rfl := Option.some.inj h
    refine ⟨⟨hm, ?_⟩, hh, hS, fun e he => he⟩
    rw [hh]; exact lvSl_ok hd hx
  | tre T E t =>
    obtain ⟨d, hd, h⟩ := bind_some (show (lvTr T E t x).bind _ = some q from h)
    obtain rfl := Option.some.inj h
    refine ⟨⟨hm, ?_⟩, hh, hS, fun e he => he⟩
    rw [hh]; exact lvTr_ok hd hx
  | own E t =>
    obtain ⟨r, hr, h⟩ := bind_some (show (takeSl E t x chs).bind _ = some q from h)
    obtain rfl := Option.some.inj h
    obtain ⟨p, hb⟩ := takeSl_ok hr P J θ
    have h1 : St J w0 w (Ch.own (Ty.sl E t).rep [x.v θ] r.1 :: (r.2.2.map (toCh P θ) ++ C)) := by
      refine St.bun ?_ hb
      have := hS.perm ((p.map (toCh P θ)).append_right C)
      rwa [List.map_append, List.append_assoc] at this
    refine ⟨⟨hm, by rw [hh]; exact own_one' h1⟩, hh, ?_, fun e he => p.mem_iff.2 (by simp [he])⟩
    show St J w0 w (Ch.own _ [hv θ' ⟨id, []⟩] _ :: _)
    rw [hh]; exact h1
  | map d =>
    obtain ⟨h0, ver0, rfl, p⟩ := takeMp_ok (show takeMp d x chs = some q from h)
    have h1 : St J w0 w (toCh P θ (h0, ver0, d.ck q.1) :: (q.2.map (toCh P θ) ++ C)) := by
      have := hS.perm ((p.map (toCh P θ)).append_right C)
      exact this
    have e0 : hv θ h0 = LV.v θ (.own h0) := rfl
    have h2 : St J w0 w (@Ch.mp P d.K d.E d.k.den d.e.den d.k.dec d.k.lit d.k.ok d.e.lit d.e.z (hv θ h0) (show List (d.k.den × d.e.den) from q.1) :: (q.2.map (toCh P θ) ++ C)) := h1
    refine ⟨⟨hm, by rw [hh]; exact hx.2⟩, hh, ?_, fun e he => p.mem_iff.2 (by simp [he])⟩
    show St J w0 w (@Ch.mp P d.K d.E d.k.den d.e.den d.k.dec d.k.lit d.k.ok d.e.lit d.e.z (hv θ' ⟨id, []⟩) (show List (d.k.den × d.e.den) from q.1) :: _)
    rw [hh]; exact h2
  | bx T k =>
    obtain ⟨h0, ver0, c, rfl, hc, p⟩ := takeBx_ok (show takeBx T k x chs = some q from h)
    have h1 : St J w0 w (Ch.blk (bk (hv θ h0)) [c.v θ] T :: (q.2.map (toCh P θ) ++ C)) := hS.perm ((p.map (toCh P θ)).append_right C)
    have e0 : bk (hv θ' ⟨id, []⟩) = bk (hv θ h0) := by rw [hh]; rfl
    refine ⟨hm, ?_, ?_, fun e he => p.mem_iff.2 (by simp [he])⟩
    · show Value.pointer (some ⟨bk (hv θ' ⟨id, []⟩), 0, none⟩) = _
      rw [e0]; rfl
    · show St J w0 w (Ch.blk (bk (hv θ' ⟨id, []⟩)) [.int k _] T :: _)
      rw [e0, ← lvInt_ok hc θ]; exact h1
theorem getKs_ok : ∀ {ks : List Knd} {xs : List LV} {chs : List Ent} {q : denN ks × List Ent} {id ver : Nat} {C : List Ch}, getKs ks xs chs = some q → (∀ x ∈ xs, x.ok P w0 J θ n) → St J w0 w (chs.map (toCh P θ) ++ C) → ∀ {θ' : Th} {m : Nat}, (∀ i x, xs[i]? = some x → θ' (id + i) = x.v θ) → id + ks.length ≤ m →
    (∀ x ∈ putKs id ks q.1, x.ok P w0 J θ' m) ∧ (putKs id ks q.1).map (·.v θ') = xs.map (·.v θ) ∧ St J w0 w ((newKs id ver ks q.1).map (toCh P θ') ++ (q.2.map (toCh P θ) ++ C)) ∧ ∀ e ∈ q.2, e ∈ chs
  | [], [], chs, q, id, ver, C, h, _, hS, θ', m, _, _ => by
    obtain rfl := Option.some.inj (show some _ = some q from h)
    exact ⟨fun x hx => (by cases hx), rfl, hS, fun e he => he⟩
  | k :: ks, x :: xs, chs, q, id, ver, C, h, hx, hS, θ', m, hid, hm => by
    obtain ⟨a, ha, h⟩ := bind_some (show (getK k x chs).bind _ = some q from h)
    obtain ⟨b, hb, h⟩ := bind_some h
    obtain rfl := Option.some.inj h
    have hm' : id < m := by rw [List.length_cons] at hm; omega
    obtain ⟨a1, a2, a3, a4⟩ := getK_ok (ver := ver) ha (hx x (by simp)) hS (θ' := θ') (id := id) (m := m) (hid 0 x rfl) hm'
    obtain ⟨b1, b2, b3, b4⟩ := getKs_ok (id := id + 1) (ver := ver) (C := (newK id ver k a.1).map (toCh P θ') ++ C) hb (fun y hy => hx y (by simp [hy])) (a3.perm (List.perm_append_comm_assoc _ _ _)) (θ' := θ') (m := m) (fun i y hy => by
      have := hid (i + 1) y hy
      rwa [show id + (i + 1) = id + 1 + i from by omega] at this) (by rw [List.length_cons] at hm; omega)
    refine ⟨fun y hy => ?_, ?_, ?_, fun e he => a4 e (b4 e he)⟩
    · rcases List.mem_cons.1 hy with rfl | hy
      · exact a1
      · exact b1 y hy
    · show LV.v θ' _ :: (putKs (id + 1) ks b.1).map _ = _
      rw [a2, b2]; rfl
    · show St J w0 w ((newK id ver k a.1 ++ newKs (id + 1) ver ks b.1).map _ ++ _)
      rw [List.map_append]
      refine b3.perm ?_
      have := List.perm_append_comm_assoc ((newKs (id + 1) ver ks b.1).map (toCh P θ') ++ b.2.map (toCh P θ)) ((newK id ver k a.1).map (toCh P θ')) C
      rw [List.append_assoc, List.append_assoc] at this
      rw [List.append_assoc]
      exact this
  | [], _ :: _, chs, q, id, ver, C, h, _, _, _, _, _, _ => by cases h
  | _ :: _, [], chs, q, id, ver, C, h, _, _, _, _, _, _ => by cases h
end

/-! ### Places of a state -/
inductive It
  | slot (t : Nat) (k : Knd)
  | box (t : Nat) (ks : List Knd)
  | row (t : Nat) (E : TypeId) (u : Ty)
  | agg (t : Nat) (ks : List Knd)
  | par (i : Nat) (p : List Nat) (E : TypeId) (u : Ty)
  | gone (t : Nat)
  | cur (t : Nat)
  | pbx (i : Nat) (ks : List Knd)
inductive RIt
  | slot (t : Nat) (k : Knd)
  | box (h : Hdr) (T : TypeId) (ks : List Knd)
  | row (h : Hdr) (E : TypeId) (u : Ty)
  | agg (t : Nat) (k : Knd) (ks : List Knd)
  | cur (h : Hdr) (T : TypeId) (g : Hdr) (E : TypeId) (xs : List Int)
def RIt.ks : RIt → List Knd
  | .slot _ k => [k]
  | .box _ _ ks => ks
  | .row _ E u => [.own E u]
  | .agg _ k ks => k :: ks
  | .cur _ _ _ _ _ => [.num .i64, .num .i64]
def ksOf : List RIt → List Knd
  | [] => []
  | r :: rs => r.ks ++ ksOf rs
def ptr0 : Option AV → Option Hdr
  | some (.one (.ptr h off)) => if Nat.beq off 0 then some h else none
  | _ => none
def own0 : Option AV → Option Hdr
  | some (.one (.own h)) => some h
  | _ => none
theorem own0_ok {v : Option AV} {h : Hdr} (k : own0 v = some h) : v = some (.one (.own h)) := by
  unfold own0 at k
  split at k
  · rw [Option.some.inj k]
  · cases k
def curAt (h : Hdr) (chs : List Ent) : Option (Hdr × TypeId × TypeId × List Int) := (pull h chs).bind fun r => match r.1.2.2 with
  | .blk T [.rd g (.sl E (.int .u8)) xs, _, _] => some (g, T, E, xs)
  | _ => none
theorem curAt_ok {h g : Hdr} {T E : TypeId} {xs : List Int} {chs : List Ent} (k : curAt h chs = some (g, T, E, xs)) : ∃ ver a b, (h, ver, Chk.blk T [.rd g (.sl E (.int .u8)) xs, a, b]) ∈ chs := by
  obtain ⟨r, hr, k2⟩ := bind_some k
  clear k
  obtain ⟨p, e⟩ := pull_ok hr
  obtain ⟨⟨h', ver, c⟩, rest⟩ := r
  obtain rfl : h' = h := e
  clear hr
  split at k2
  · rename_i T' g' E' xs' a b hc
    obtain rfl : c = _ := hc
    obtain ⟨rfl, rfl, rfl, rfl⟩ := Option.some.inj k2
    exact ⟨ver, a, b, p.mem_iff.2 (List.mem_cons_self ..)⟩
  · cases k2
def resolve (s : Sg) : It → Option RIt
  | .slot t k => some (.slot t k)
  | .box t ks => (ptr0 (look s.env t)).bind fun h => (blkOf h s.chs).bind fun b => some (.box h b.T ks)
  | .row t E u => (own0 (look s.env t)).bind fun h => some (.row h E u)
  | .agg t ks => match ks with
    | k :: ks => some (.agg t k ks)
    | [] => none
  | .par i p E u => chkT (Nat.blt i s.nxt) (some (.row ⟨i, p⟩ E u))
  | .gone _ => none
  | .pbx i ks => (blkOf ⟨i, []⟩ s.chs).bind fun b => some (.box ⟨i, []⟩ b.T ks)
  | .cur t => (ptr0 (look s.env t)).bind fun h => (curAt h s.chs).bind fun q => some (.cur h q.2.1 q.1 q.2.2.1 q.2.2.2)
def resolveL (s : Sg) : List It → Option (List RIt)
  | [] => some []
  | i :: is => (resolve s i).bind fun r => (resolveL s is).bind fun rs => some (r :: rs)
def oneOf : Option AV → Option LV
  | some (.one x) => some x
  | _ => none
theorem oneOf_ok {v : Option AV} {x : LV} (h : oneOf v = some x) : v = some (.one x) := by
  unfold oneOf at h
  split at h
  · rw [Option.some.inj h]
  · cases h
def aggOf : Option AV → Option (List LV)
  | some (.agg xs) => some xs
  | _ => none
theorem aggOf_ok {v : Option AV} {x : List LV} (h : aggOf v = some x) : v = some (.agg x) := by
  unfold aggOf at h
  split at h
  · rw [Option.some.inj h]
  · cases h
def getI1 (env : List (Nat × Nat × AV)) (chs : List Ent) : (r : RIt) → Option (denN r.ks × List Ent)
  | .slot t k => (oneOf (look env t)).bind fun x => getKs [k] [x] chs
  | .box h T ks => (blkOf h chs).bind fun b => chkT (Nat.beq b.T T) (getKs ks b.cells b.rest)
  | .row h E u => getKs [.own E u] [.own h] chs
  | .agg t k ks => (aggOf (look env t)).bind fun xs => getKs (k :: ks) xs chs
  | .cur h T g E _ => (pullCur h T E chs).bind fun q => chkT (Hdr.beq q.g g) (some ((q.d.2.1, q.d.2.2, ()), q.rest))
def appN : (ks ls : List Knd) → denN ks → denN ls → denN (ks ++ ls)
  | [], _, _, e => e
  | _ :: ks, ls, d, e => (d.1, appN ks ls d.2 e)
def fstN : (ks ls : List Knd) → denN (ks ++ ls) → denN ks
  | [], _, _ => ()
  | _ :: ks, ls, d => (d.1, fstN ks ls d.2)
def sndN : (ks ls : List Knd) → denN (ks ++ ls) → denN ls
  | [], _, d => d
  | _ :: ks, ls, d => sndN ks ls d.2
theorem fst_app : ∀ (ks ls : List Knd) (d : denN ks) (e : denN ls), fstN ks ls (appN ks ls d e) = d
  | [], _, _, _ => rfl
  | _ :: ks, ls, d, e => congrArg (Prod.mk d.1) (fst_app ks ls d.2 e)
theorem snd_app : ∀ (ks ls : List Knd) (d : denN ks) (e : denN ls), sndN ks ls (appN ks ls d e) = e
  | [], _, _, _ => rfl
  | _ :: ks, ls, d, e => snd_app ks ls d.2 e
def getIs (env : List (Nat × Nat × AV)) : (rs : List RIt) → List Ent → Option (denN (ksOf rs) × List Ent)
  | [], chs => some ((), chs)
  | r :: rs, chs => (getI1 env chs r).bind fun q => (getIs env rs q.2).bind fun p => some (appN r.ks (ksOf rs) q.1 p.1, p.2)
def newE (id : Nat) : (r : RIt) → denN r.ks → List (Nat × Nat × AV)
  | .slot t k, d => [(t, id, .one (putK id k d.1))]
  | .agg t k ks, d => [(t, id, .agg (putKs id (k :: ks) d))]
  | _, _ => []
def newC (id ver : Nat) : (r : RIt) → denN r.ks → List Ent
  | .slot _ k, d => newKs id ver [k] d
  | .agg _ k ks, d => newKs id ver (k :: ks) d
  | .box h T ks, d => (h, ver, .blk T (putKs id ks d)) :: newKs id ver ks d
  | .row h E u, d => [(h, ver, .own (.sl E u) d.1)]
  | .cur h T g E xs, d => [(h, ver, .blk T [.rd g (.sl E (.int .u8)) xs, .val (.int .i64 d.1), .val (.int .i64 d.2.1)])]
def newEs : (id : Nat) → (rs : List RIt) → denN (ksOf rs) → List (Nat × Nat × AV)
  | _, [], _ => []
  | id, r :: rs, d => newE id r (fstN r.ks (ksOf rs) d) ++ newEs (id + r.ks.length) rs (sndN r.ks (ksOf rs) d)
def newCs (ver : Nat) : (id : Nat) → (rs : List RIt) → denN (ksOf rs) → List Ent
  | _, [], _ => []
  | id, r :: rs, d => newC id ver r (fstN r.ks (ksOf rs) d) ++ newCs ver (id + r.ks.length) rs (sndN r.ks (ksOf rs) d)
structure Cut where
  nxt : Nat
  its : List RIt
  env : List (Nat × Nat × AV)
  chs : List Ent
def Cut.top (c : Cut) : Nat := c.nxt + (ksOf c.its).length
def Cut.at (c : Cut) (d : denN (ksOf c.its)) : Sg := ⟨newEs c.nxt c.its d ++ c.env, newCs c.top c.nxt c.its d ++ c.chs, c.top + 1⟩
def hasN (t : Nat) : List Nat → Bool
  | [] => false
  | u :: l => Nat.beq u t || hasN t l
def lookV (l : List (Nat × Nat × AV)) (t : Nat) : Option Nat := match l with
  | [] => none
  | (u, k, _) :: l => if Nat.beq u t then some k else lookV l t
def envStays (env : List (Nat × Nat × AV)) : List (Nat × Nat × AV) → Bool
  | [] => true
  | e :: l => (match lookV env e.1 with | some v => Nat.beq v e.2.1 | none => false) && envStays env l
def chsStay : List Ent → List Ent → Option (List Ent)
  | [], chs => some chs
  | e :: l, chs => (pull e.1 chs).bind fun r => chkT (Nat.beq r.1.2.1 e.2.1) (chsStay l r.2)
def distinctH : List Ent → Bool
  | [] => true
  | e :: l => noHdr e.1 l && distinctH l
def bxHdrs : Option AV → List Hdr
  | some (.one (.ptr h _)) => [h]
  | _ => []
def ritHdrs (s : Sg) : List RIt → List Hdr
  | [] => []
  | .slot t (.bx _ _) :: rs => bxHdrs (look s.env t) ++ ritHdrs s rs
  | .slot t _ :: rs => (match look s.env t with | some v => avHdrs v | none => []) ++ ritHdrs s rs
  | .box h _ _ :: rs => (match blkOf h s.chs with | some b => avHdrs (.agg b.cells) | none => []) ++ ritHdrs s rs
  | .row h _ _ :: rs => h :: ritHdrs s rs
  | .cur _ _ _ _ _ :: rs => ritHdrs s rs
  | .agg t _ _ :: rs => (match look s.env t with | some v => avHdrs v | none => []) ++ ritHdrs s rs
def rowHdrs : List Ent → List Hdr
  | [] => []
  | (h, _, .own _ _) :: l => h :: rowHdrs l
  | _ :: l => rowHdrs l
def Cut.of (c : Cut) (s0 : Sg) : Option (denN (ksOf c.its)) := match prepL (rowHdrs c.chs) (prepL (ritHdrs s0 c.its) s0) with
  | s => (getIs s.env c.its s.chs).bind fun q => (chsStay c.chs q.2).bind fun _ => chkT (envStays s.env c.env) (some q.1)
def RIt.hdrs : RIt → List Hdr
  | .slot _ _ => []
  | .box h _ _ => [h]
  | .row h _ _ => [h]
  | .agg _ _ _ => []
  | .cur h _ g _ _ => [h, g]
def hdrsR : List RIt → List Hdr
  | [] => []
  | r :: rs => r.hdrs ++ hdrsR rs
def firstE : List (Nat × Nat × AV) → List Nat → List (Nat × Nat × AV)
  | [], _ => []
  | e :: l, seen => match hasN e.1 seen with
    | true => firstE l seen
    | false => e :: firstE l (e.1 :: seen)
theorem firstE_sub : ∀ {l : List (Nat × Nat × AV)} {seen : List Nat}, (firstE l seen).Sublist l
  | [], _ => List.Sublist.refl _
  | e :: l, seen => by
    unfold firstE
    split
    · exact firstE_sub.cons _
    · exact firstE_sub.cons_cons _
def realI : List It → List It
  | [] => []
  | .gone _ :: is => realI is
  | i :: is => i :: realI is
def goneH (s : Sg) : List It → List Hdr
  | [] => []
  | .gone t :: is => (match look s.env t with
    | some (.one (.ptr h _)) => match blkOf h s.chs with | some b => avHdrs (.agg b.cells) | none => []
    | some v => avHdrs v
    | none => []) ++ goneH s is
  | _ :: is => goneH s is
def mkCut (ks : List Nat) (is : List It) (s : Sg) : Option Cut := (resolveL s (realI is)).bind fun rs => chkT (distinctH s.chs) (some ⟨s.nxt, rs, firstE (s.env.filter fun e => !hasN e.1 ks) [], s.chs.filter fun e => !hasH e.1 (goneH s is ++ (ritHdrs s rs ++ hdrsR rs))⟩)

/-! ### Cuts are so -/
theorem newK_ok {P : Program} {w0 : World} {J : Hp} {θ : Th} {m id ver : Nat} {chs : List Ent} {k : Knd} {d : k.den} (h1 : id < m) (h2 : ver < m) : ∀ e ∈ newK id ver k d, okE P w0 J θ m chs e := by
  cases k with
  | own E t => intro e he; obtain rfl := List.mem_singleton.1 he; exact ⟨h1, h2, trivial⟩
  | map md => intro e he; obtain rfl := List.mem_singleton.1 he; exact ⟨h1, h2, trivial⟩
  | bx T k => intro e he; obtain rfl := List.mem_singleton.1 he; exact ⟨h1, h2, fun x hx => by obtain rfl := List.mem_singleton.1 hx; exact Eq.refl true⟩
  | _ => intro e he; cases he
theorem newKs_ok {P : Program} {w0 : World} {J : Hp} {θ : Th} {m ver : Nat} {chs : List Ent} (h2 : ver < m) : ∀ {ks : List Knd} {id : Nat} {d : denN ks}, id + ks.length ≤ m → ∀ e ∈ newKs id ver ks d, okE P w0 J θ m chs e
  | [], _, _, _ => fun e he => by cases he
  | k :: ks, id, d, h1 => fun e he => by
    rw [List.length_cons] at h1
    rcases List.mem_append.1 he with he | he
    · exact newK_ok (by omega) h2 e he
    · exact newKs_ok h2 (by omega) e he
section
variable {P : Program} {w0 w : World} {J : Hp} {θ : Th} {n : Nat} {C : List Ch}
def RitOk (P : Program) (w0 : World) (J : Hp) (θ : Th) (n : Nat) : RIt → Prop
  | .cur _ _ g E xs => LV.ok P w0 J θ n (.rd g (.sl E (.int .u8)) xs)
  | _ => True
def CutI (P : Program) (w0 w : World) (J : Hp) (θ : Th) (env : List (Nat × Nat × AV)) (chs : List Ent) (hs : List Hdr) (len : Nat) (rest : List Ent) (E : Nat → List (Nat × Nat × AV)) (N : Nat → Nat → List Ent) : Prop :=
  ∃ vals : List Value, vals.length = len ∧ ∀ (θ' : Th) (id ver m : Nat), (∀ i v, vals[i]? = some v → θ' (id + i) = v) → id + len ≤ m → ver < m → (∀ h ∈ hs, hv θ' h = hv θ h ∧ h.id < m) → ∀ C, St J w0 w (chs.map (toCh P θ) ++ C) →
    (∀ e ∈ E id, (∀ chs', e.2.2.ok P w0 J θ' m chs') ∧ ∃ x, look env e.1 = some x ∧ e.2.2.v θ' = x.v θ) ∧ (∀ chs', ∀ e ∈ N id ver, okE P w0 J θ' m chs' e) ∧ St J w0 w ((N id ver).map (toCh P θ') ++ (rest.map (toCh P θ) ++ C))
theorem getI1_ok {env : List (Nat × Nat × AV)} {chs chs0 : List Ent} {r : RIt} {q : denN r.ks × List Ent} (h : getI1 env chs r = some q) (henv : ∀ e ∈ env, e.2.2.ok P w0 J θ n chs0) (hchs : ∀ e ∈ chs, okE P w0 J θ n chs0 e) {n1 : Nat} (hrit : RitOk P w0 J θ n1 r) :
    CutI P w0 w J θ env chs r.hdrs r.ks.length q.2 (fun id => newE id r q.1) (fun id ver => newC id ver r q.1) := by
  cases r with
  | slot t k =>
    obtain ⟨x, hx, h⟩ := bind_some (show (oneOf (look env t)).bind _ = some q from h)
    have hx := oneOf_ok hx
    · have hxo : x.ok P w0 J θ n := by
        obtain ⟨e, he, h1⟩ := look_mem hx
        have := henv e he
        rw [h1] at this
        exact this
      refine ⟨[x.v θ], rfl, fun θ' id ver m hid hm hv' hh C hS => ?_⟩
      obtain ⟨k1, k2, k3, k4⟩ := getKs_ok (ver := ver) (C := C) (id := id) (θ' := θ') (m := m) h (fun y hy => by obtain rfl := List.mem_singleton.1 hy; exact hxo) hS (fun i y hy => by
        cases i with
        | zero => simp at hy; rw [← hy]; exact hid 0 _ rfl
        | succ i => simp at hy) hm
      refine ⟨fun e he => ?_, fun chs' => newKs_ok hv' hm, k3⟩
      obtain rfl := List.mem_singleton.1 he
      exact ⟨fun chs' => k1 _ (by simp [putKs]), _, hx, (List.cons.inj (show _ :: _ = _ :: _ from k2)).1⟩
  | box hh T ks =>
    obtain ⟨b, hb, h⟩ := bind_some (show (blkOf hh chs).bind _ = some q from h)
    obtain ⟨hT, h⟩ := chkT_ok h
    have hT := Nat.eq_of_beq_eq_true hT
    have hp := blkOf_ok hb
    have hbk := hchs (b.ent hh) (hp.mem_iff.2 (by simp))
    have hlen : ∀ {ks : List Knd} {xs : List LV} {chs : List Ent} {q : denN ks × List Ent}, getKs ks xs chs = some q → xs.length = ks.length := by
      intro ks
      induction ks with
      | nil => intro xs chs q h; cases xs with
        | nil => rfl
        | cons _ _ => cases h
      | cons k ks ih => intro xs chs q h; cases xs with
        | nil => cases h
        | cons x xs =>
          obtain ⟨a, ha, h⟩ := bind_some (show (getK k x chs).bind _ = some q from h)
          obtain ⟨c, hc, h⟩ := bind_some h
          rw [List.length_cons, List.length_cons, ih hc]
    have hl := hlen h
    have hvl : (b.cells.map (·.v θ)).length = ks.length := by rw [List.length_map]; exact hl
    have hget : ∀ {θ' : Th} {id : Nat}, (∀ i v, (b.cells.map (·.v θ))[i]? = some v → θ' (id + i) = v) → ∀ i x, b.cells[i]? = some x → θ' (id + i) = x.v θ := fun hid i x hx => hid i _ (by rw [List.getElem?_map, hx]; rfl)
    refine ⟨b.cells.map (·.v θ), hvl, fun θ' id ver m hid hm hv' hh' C hS => ?_⟩
    · have hS' : St J w0 w (b.rest.map (toCh P θ) ++ (Ch.blk (bk (hv θ hh)) (b.cells.map (·.v θ)) b.T :: C)) := by
        refine (hS.perm ((hp.map (toCh P θ)).append_right C)).perm ?_
        exact (List.perm_middle (l₁ := b.rest.map (toCh P θ)) (l₂ := C)).symm
      obtain ⟨k1, k2, k3, k4⟩ := getKs_ok (ver := ver) (id := id) (θ' := θ') (m := m) h hbk.2.2 hS' (hget hid) hm
      obtain ⟨g1, g2⟩ := hh' hh (by simp [RIt.hdrs])
      refine ⟨fun e he => (by cases he), fun chs' e he => ?_, ?_⟩
      · rcases List.mem_cons.1 he with rfl | he
        · exact ⟨g2, hv', k1⟩
        · exact newKs_ok hv' hm e he
      · show St J w0 w (Ch.blk (bk (hv θ' hh)) ((putKs id ks q.1).map (·.v θ')) T :: ((newKs id ver ks q.1).map (toCh P θ') ++ (q.2.map (toCh P θ) ++ C)))
        rw [g1, k2, ← hT]
        refine k3.perm ?_
        rw [← List.append_assoc, ← List.append_assoc]
        exact List.perm_middle
  | agg t k ks =>
    obtain ⟨xs, hx, h⟩ := bind_some (show (aggOf (look env t)).bind _ = some q from h)
    have hx := aggOf_ok hx
    have hxo : ∀ x ∈ xs, x.ok P w0 J θ n := by
      obtain ⟨e, he, h1⟩ := look_mem hx
      have := henv e he
      rw [h1] at this
      exact this
    have hlen : ∀ {ks : List Knd} {xs : List LV} {chs : List Ent} {q : denN ks × List Ent}, getKs ks xs chs = some q → xs.length = ks.length := by
      intro ks
      induction ks with
      | nil => intro xs chs q h; cases xs with
        | nil => rfl
        | cons _ _ => cases h
      | cons k ks ih => intro xs chs q h; cases xs with
        | nil => cases h
        | cons x xs =>
          obtain ⟨a, ha, h⟩ := bind_some (show (getK k x chs).bind _ = some q from h)
          obtain ⟨c, hc, h⟩ := bind_some h
          rw [List.length_cons, List.length_cons, ih hc]
    refine ⟨xs.map (·.v θ), by rw [List.length_map]; exact hlen h, fun θ' id ver m hid hm hv' hh C hS => ?_⟩
    obtain ⟨k1, k2, k3, k4⟩ := getKs_ok (ver := ver) (C := C) (id := id) (θ' := θ') (m := m) h hxo hS (fun i y hy => hid i _ (by rw [List.getElem?_map, hy]; rfl)) hm
    refine ⟨fun e he => ?_, fun chs' => newKs_ok hv' hm, k3⟩
    obtain rfl := List.mem_singleton.1 he
    refine ⟨fun chs' => k1, _, hx, ?_⟩
    show Value.agg ((putKs id (k :: ks) q.1).map (·.v θ')).toArray = Value.agg (xs.map (·.v θ)).toArray
    rw [k2]
  | row hh E u =>
    have h : getKs [.own E u] [.own hh] chs = some q := h
    obtain ⟨a, ha, h⟩ := bind_some (show (getK (.own E u) (.own hh) chs).bind _ = some q from h)
    obtain ⟨c, hc, h⟩ := bind_some h
    obtain rfl := Option.some.inj (show some ((), a.2) = some c from hc)
    obtain rfl := Option.some.inj h
    obtain ⟨r, hr, ha⟩ := bind_some (show (takeSl E u (.own hh) chs).bind _ = some a from ha)
    obtain rfl := Option.some.inj ha
    obtain ⟨p, hb⟩ := takeSl_ok hr P J θ
    refine ⟨[hv θ hh], rfl, fun θ' id ver m hid hm hv' hh' C hS => ?_⟩
    have h1 : St J w0 w (Ch.own (Ty.sl E u).rep [hv θ hh] r.1 :: (r.2.2.map (toCh P θ) ++ C)) := by
      refine St.bun ?_ hb
      have := hS.perm ((p.map (toCh P θ)).append_right C)
      rwa [List.map_append, List.append_assoc] at this
    refine ⟨fun e he => (by cases he), fun chs' e he => ?_, ?_⟩
    · obtain rfl := List.mem_singleton.1 he
      exact ⟨(hh' hh (by simp [RIt.hdrs])).2, hv', trivial⟩
    · show St J w0 w (Ch.own _ [hv θ' hh] _ :: _)
      rw [(hh' hh (by simp [RIt.hdrs])).1]; exact h1
  | cur hh T g E xs =>
    obtain ⟨b, hb, h⟩ := bind_some (show (pullCur hh T E chs).bind _ = some q from h)
    obtain ⟨hg, h⟩ := chkT_ok h
    obtain rfl := Option.some.inj h
    have hg := Hdr.beq_eq hg
    obtain ⟨p, ver0, he⟩ := pullCur_ok hb
    refine ⟨[.int .i64 b.d.2.1, .int .i64 b.d.2.2], rfl, fun θ' id ver m hid hm hv' hh' C hS => ?_⟩
    obtain ⟨g1, g2⟩ := hh' hh (by simp [RIt.hdrs])
    obtain ⟨g3, g4⟩ := hh' g (by simp [RIt.hdrs])
    refine ⟨fun e he => (by cases he), fun chs' e he => ?_, ?_⟩
    · obtain rfl := List.mem_singleton.1 he
      refine ⟨g2, hv', fun z hz => ?_⟩
      rcases List.mem_cons.1 hz with rfl | hz
      · exact ⟨g4, by rw [g3]; exact hrit.2⟩
      · rcases List.mem_cons.1 hz with rfl | hz
        · exact Eq.refl true
        · obtain rfl := List.mem_singleton.1 hz
          exact Eq.refl true
    · show St J w0 w (Ch.blk (bk (hv θ' hh)) [hv θ' g, .int .i64 b.d.2.1, .int .i64 b.d.2.2] T :: (b.rest.map (toCh P θ) ++ C))
      have h1 := hS.perm ((p.map (toCh P θ)).append_right C)
      rw [List.map_cons, he] at h1
      rw [g1, g3, ← hg]
      exact h1
theorem getK_sub {k : Knd} {x : LV} {chs : List Ent} {q : k.den × List Ent} (h : getK k x chs = some q) : ∀ e ∈ q.2, e ∈ chs := by
  cases k with
  | num k => obtain ⟨d, hd, h⟩ := bind_some (show (lvInt k x).bind _ = some q from h); obtain rfl := Option.some.inj h; exact fun e he => he
  | boo => obtain ⟨d, hd, h⟩ := bind_some (show (lvBool x).bind _ = some q from h); obtain rfl := Option.some.inj h; exact fun e he => he
  | str => obtain ⟨d, hd, h⟩ := bind_some (show (lvStr x).bind _ = some q from h); obtain rfl := Option.some.inj h; exact fun e he => he
  | rd E t => obtain ⟨d, hd, h⟩ := bind_some (show (lvSl E t x).bind _ = some q from h); obtain rfl := Option.some.inj h; exact fun e he => he
  | own E t =>
    obtain ⟨r, hr, h⟩ := bind_some (show (takeSl E t x chs).bind _ = some q from h)
    obtain rfl := Option.some.inj h
    exact fun e he => (takeSl_perm hr).mem_iff.2 (by simp [he])
  | tre T E t => obtain ⟨d, hd, h⟩ := bind_some (show (lvTr T E t x).bind _ = some q from h); obtain rfl := Option.some.inj h; exact fun e he => he
  | map d =>
    obtain ⟨h0, ver0, -, p⟩ := takeMp_ok (show takeMp d x chs = some q from h)
    exact fun e he => p.mem_iff.2 (by simp [he])
  | bx T k =>
    obtain ⟨h0, ver0, c, -, -, p⟩ := takeBx_ok (show takeBx T k x chs = some q from h)
    exact fun e he => p.mem_iff.2 (by simp [he])
theorem getKs_sub : ∀ {ks : List Knd} {xs : List LV} {chs : List Ent} {q : denN ks × List Ent}, getKs ks xs chs = some q → ∀ e ∈ q.2, e ∈ chs
  | [], [], chs, q, h => by obtain rfl := Option.some.inj (show some _ = some q from h); exact fun e he => he
  | k :: ks, x :: xs, chs, q, h => by
    obtain ⟨a, ha, h⟩ := bind_some (show (getK k x chs).bind _ = some q from h)
    obtain ⟨b, hb, h⟩ := bind_some h
    obtain rfl := Option.some.inj h
    exact fun e he => getK_sub ha e (getKs_sub hb e he)
  | [], _ :: _, chs, q, h => by cases h
  | _ :: _, [], chs, q, h => by cases h
theorem getI1_sub {env : List (Nat × Nat × AV)} {chs : List Ent} {r : RIt} {q : denN r.ks × List Ent} (h : getI1 env chs r = some q) : ∀ e ∈ q.2, e ∈ chs := by
  cases r with
  | slot t k =>
    obtain ⟨x, hx, h⟩ := bind_some (show (oneOf (look env t)).bind _ = some q from h)
    exact getKs_sub h
  | box hh T ks =>
    obtain ⟨b, hb, h⟩ := bind_some (show (blkOf hh chs).bind _ = some q from h)
    obtain ⟨hT, h⟩ := chkT_ok h
    exact fun e he => (blkOf_ok hb).mem_iff.2 (List.mem_cons_of_mem _ (getKs_sub h e he))
  | row hh E u => exact getKs_sub (show getKs [.own E u] [.own hh] chs = some q from h)
  | cur hh T g E xs =>
    obtain ⟨b, hb, h⟩ := bind_some (show (pullCur hh T E chs).bind _ = some q from h)
    obtain ⟨hg, h⟩ := chkT_ok h
    obtain rfl := Option.some.inj h
    exact fun e he => (pullCur_ok hb).1.mem_iff.2 (List.mem_cons_of_mem _ he)
  | agg t k ks =>
    obtain ⟨x, hx, h⟩ := bind_some (show (aggOf (look env t)).bind _ = some q from h)
    exact getKs_sub h
theorem getIs_ok {env : List (Nat × Nat × AV)} {chs0 : List Ent} {n1 : Nat} (henv : ∀ e ∈ env, e.2.2.ok P w0 J θ n chs0) : ∀ {rs : List RIt} {chs : List Ent} {q : denN (ksOf rs) × List Ent}, getIs env rs chs = some q → (∀ e ∈ chs, okE P w0 J θ n chs0 e) → (∀ r ∈ rs, RitOk P w0 J θ n1 r) →
    (∀ e ∈ q.2, e ∈ chs) ∧ CutI P w0 w J θ env chs (hdrsR rs) (ksOf rs).length q.2 (fun id => newEs id rs q.1) (fun id ver => newCs ver id rs q.1)
  | [], chs, q, h, _, _ => by
    obtain rfl := Option.some.inj (show some _ = some q from h)
    exact ⟨fun e he => he, [], rfl, fun θ' id ver m _ _ _ _ C hS => ⟨fun e he => (by cases he), fun chs' e he => (by cases he), hS⟩⟩
  | r :: rs, chs, q, h, hchs, hrit => by
    obtain ⟨a, ha, h⟩ := bind_some (show (getI1 env chs r).bind _ = some q from h)
    obtain ⟨b, hb, h⟩ := bind_some h
    obtain rfl := Option.some.inj h
    have hsub := getI1_sub ha
    obtain ⟨v1, l1, k1⟩ := getI1_ok (w := w) ha henv hchs (hrit r (by simp))
    obtain ⟨s2, v2, l2, k2⟩ := getIs_ok henv hb (fun e he => hchs e (hsub e he)) fun x hx => hrit x (by simp [hx])
    refine ⟨fun e he => hsub e (s2 e he), v1 ++ v2, by rw [List.length_append, l1, l2]; exact (List.length_append ..).symm, fun θ' id ver m hid hm hv' hh C hS => ?_⟩
    have hm : id + (r.ks.length + (ksOf rs).length) ≤ m := by
      have : (ksOf (r :: rs)).length = r.ks.length + (ksOf rs).length := List.length_append ..
      rw [this] at hm; exact hm
    obtain ⟨a1, a2, a3⟩ := k1 θ' id ver m (fun i v hi => hid i v (by rw [List.getElem?_append_left (List.getElem?_eq_some_iff.1 hi).1]; exact hi)) (by omega) hv' (fun x hx => hh x (List.mem_append_left _ hx)) C hS
    obtain ⟨b1, b2, b3⟩ := k2 θ' (id + r.ks.length) ver m (fun i v hi => by
      have := hid (r.ks.length + i) v (by rw [List.getElem?_append_right (by omega), l1, Nat.add_sub_cancel_left]; exact hi)
      rwa [← Nat.add_assoc] at this) (by omega) hv' (fun x hx => hh x (List.mem_append_right _ hx)) ((newC id ver r a.1).map (toCh P θ') ++ C) (a3.perm (List.perm_append_comm_assoc _ _ _))
    have e1 : newEs id (r :: rs) (appN r.ks (ksOf rs) a.1 b.1) = newE id r a.1 ++ newEs (id + r.ks.length) rs b.1 := by
      show newE id r (fstN _ _ _) ++ newEs _ rs (sndN _ _ _) = _
      rw [fst_app, snd_app]
    have e2 : newCs ver id (r :: rs) (appN r.ks (ksOf rs) a.1 b.1) = newC id ver r a.1 ++ newCs ver (id + r.ks.length) rs b.1 := by
      show newC id ver r (fstN _ _ _) ++ newCs ver _ rs (sndN _ _ _) = _
      rw [fst_app, snd_app]
    show (∀ e ∈ newEs id (r :: rs) (appN r.ks (ksOf rs) a.1 b.1), _) ∧ (∀ chs', ∀ e ∈ newCs ver id (r :: rs) (appN r.ks (ksOf rs) a.1 b.1), _) ∧ St J w0 w ((newCs ver id (r :: rs) (appN r.ks (ksOf rs) a.1 b.1)).map _ ++ _)
    rw [e1, e2]
    refine ⟨fun e he => ?_, fun chs' e he => ?_, ?_⟩
    · rcases List.mem_append.1 he with he | he
      · exact a1 e he
      · exact b1 e he
    · rcases List.mem_append.1 he with he | he
      · exact a2 chs' e he
      · exact b2 chs' e he
    · rw [List.map_append]
      refine b3.perm ?_
      have := List.perm_append_comm_assoc ((newCs ver (id + r.ks.length) rs b.1).map (toCh P θ') ++ b.2.map (toCh P θ)) ((newC id ver r a.1).map (toCh P θ')) C
      rw [List.append_assoc, List.append_assoc] at this
      rw [List.append_assoc]
      exact this
end
end Go.Proofs.YtfkjjnddefojjaaGreatDoor.R
/- A state may be cut. No program text is named here. -/
set_option linter.unusedVariables false
set_option linter.unusedSimpArgs false
set_option linter.unnecessarySimpa false
set_option linter.unusedSectionVars false
namespace Go.Proofs.YtfkjjnddefojjaaGreatDoor.R
open Go.RowKit
open Go.Proofs.YtfkjjnddefojjaaGreatDoor.D

def NotHole : Chk → Prop
  | .hole _ _ _ _ _ _ _ _ _ _ => False
  | _ => True
theorem newK_ver {id ver : Nat} {k : Knd} {d : k.den} : ∀ e ∈ newK id ver k d, e.2.1 = ver ∧ NotHole e.2.2 := by
  cases k with
  | own E t => intro e he; obtain rfl := List.mem_singleton.1 he; exact ⟨rfl, trivial⟩
  | map md => intro e he; obtain rfl := List.mem_singleton.1 he; exact ⟨rfl, trivial⟩
  | bx T k => intro e he; obtain rfl := List.mem_singleton.1 he; exact ⟨rfl, trivial⟩
  | _ => intro e he; cases he
theorem newKs_ver {ver : Nat} : ∀ {ks : List Knd} {id : Nat} {d : denN ks}, ∀ e ∈ newKs id ver ks d, e.2.1 = ver ∧ NotHole e.2.2
  | [], _, _ => fun e he => by cases he
  | k :: ks, id, d => fun e he => by
    rcases List.mem_append.1 he with he | he
    · exact newK_ver e he
    · exact newKs_ver e he
theorem newCs_ver {ver : Nat} : ∀ {rs : List RIt} {id : Nat} {d : denN (ksOf rs)}, ∀ e ∈ newCs ver id rs d, e.2.1 = ver ∧ NotHole e.2.2
  | [], _, _ => fun e he => by cases he
  | r :: rs, id, d => fun e he => by
    rcases List.mem_append.1 he with he | he
    · cases r with
      | slot t k => exact newKs_ver e he
      | box h T ks =>
        rcases List.mem_cons.1 he with rfl | he
        · exact ⟨rfl, trivial⟩
        · exact newKs_ver e he
      | row h E u => obtain rfl := List.mem_singleton.1 he; exact ⟨rfl, trivial⟩
      | agg t k ks => exact newKs_ver e he
      | cur h T g E xs => obtain rfl := List.mem_singleton.1 he; exact ⟨rfl, trivial⟩
    · exact newCs_ver e he
theorem newEs_ver : ∀ {rs : List RIt} {id : Nat} {d : denN (ksOf rs)}, (∀ e ∈ newEs id rs d, id ≤ e.2.1 ∧ e.2.1 < id + (ksOf rs).length) ∧ (newEs id rs d).Pairwise fun a b => a.2.1 ≠ b.2.1
  | [], _, _ => ⟨fun e he => (by cases he), List.Pairwise.nil⟩
  | r :: rs, id, d => by
    have hl : (ksOf (r :: rs)).length = r.ks.length + (ksOf rs).length := List.length_append ..
    obtain ⟨k1, k2⟩ := newEs_ver (rs := rs) (id := id + r.ks.length) (d := sndN r.ks (ksOf rs) d)
    have hE : ∀ e ∈ newE id r (fstN r.ks (ksOf rs) d), e.2.1 = id ∧ 0 < r.ks.length := fun e he => by
      cases r with
      | slot t k => obtain rfl := List.mem_singleton.1 he; exact ⟨rfl, Nat.one_pos⟩
      | agg t k ks => obtain rfl := List.mem_singleton.1 he; exact ⟨rfl, Nat.succ_pos _⟩
      | box _ _ _ => cases he
      | row _ _ _ => cases he
      | cur _ _ _ _ _ => cases he
    have hP : (newE id r (fstN r.ks (ksOf rs) d)).Pairwise fun a b => a.2.1 ≠ b.2.1 := by
      cases r with
      | slot t k => exact List.pairwise_singleton _ _
      | agg t k ks => exact List.pairwise_singleton _ _
      | box _ _ _ => exact List.Pairwise.nil
      | row _ _ _ => exact List.Pairwise.nil
      | cur _ _ _ _ _ => exact List.Pairwise.nil
    refine ⟨fun e he => ?_, List.pairwise_append.2 ⟨hP, k2, fun a ha b hb => ?_⟩⟩
    · rw [hl]
      rcases List.mem_append.1 he with he | he
      · have := hE e he; omega
      · have := k1 e he; omega
    · have := hE a ha; have := k1 b hb; omega
theorem lookV_ok {t v : Nat} : ∀ {l : List (Nat × Nat × AV)}, lookV l t = some v → ∃ x, look l t = some x ∧ (t, v, x) ∈ l
  | (u, k, x) :: l, h => by
    unfold lookV at h
    split at h
    · rename_i hu
      have : u = t := Nat.eq_of_beq_eq_true hu
      subst this
      obtain rfl := Option.some.inj h
      refine ⟨x, ?_, by simp⟩
      unfold look
      rw [if_pos (Nat.beq_refl u)]
    · rename_i hu
      obtain ⟨y, h1, h2⟩ := lookV_ok h
      refine ⟨y, ?_, by simp [h2]⟩
      unfold look
      rw [if_neg hu]; exact h1
theorem envStays_ok {env : List (Nat × Nat × AV)} : ∀ {l : List (Nat × Nat × AV)}, envStays env l = true → ∀ e ∈ l, lookV env e.1 = some e.2.1
  | e :: l, h, x, hx => by
    have h : ((match lookV env e.1 with | some v => Nat.beq v e.2.1 | none => false) && envStays env l) = true := h
    rw [Bool.and_eq_true] at h
    rcases List.mem_cons.1 hx with rfl | hx
    · have h1 := h.1
      split at h1
      · rename_i v hv
        rw [hv, Nat.eq_of_beq_eq_true h1]
      · cases h1
    · exact envStays_ok h.2 x hx
theorem chsStay_ok : ∀ {l chs rest : List Ent}, chsStay l chs = some rest → (∀ e ∈ l, ∀ e' ∈ chs, e'.1 = e.1 → e'.2.1 = e.2.1 → e' = e) → chs.Perm (l ++ rest)
  | [], chs, rest, h, _ => by obtain rfl := Option.some.inj (show some _ = some rest from h); exact List.Perm.refl _
  | e :: l, chs, rest, h, k => by
    obtain ⟨r, hr, h⟩ := bind_some (show (pull e.1 chs).bind _ = some rest from h)
    obtain ⟨hv, h⟩ := chkT_ok h
    obtain ⟨p, he⟩ := pull_ok hr
    have hre : r.1 = e := k e (by simp) r.1 (p.mem_iff.2 (by simp)) he (Nat.eq_of_beq_eq_true hv)
    rw [hre] at p
    exact p.trans ((chsStay_ok h fun x hx x' hx' => k x (by simp [hx]) x' (p.mem_iff.2 (by simp [hx']))).cons e)
theorem distinctH_ok : ∀ {l : List Ent}, distinctH l = true → ∀ a ∈ l, ∀ b ∈ l, a.1 = b.1 → a = b
  | e :: l, h, a, ha, b, hb, hab => by
    have h : (noHdr e.1 l && distinctH l) = true := h
    rw [Bool.and_eq_true] at h
    rcases List.mem_cons.1 ha with h1 | h1
    · rcases List.mem_cons.1 hb with h2 | h2
      · rw [h1, h2]
      · rw [h1] at hab; exact absurd hab.symm (noHdr_ok h.1 h2)
    · rcases List.mem_cons.1 hb with h2 | h2
      · rw [h2] at hab; exact absurd hab (noHdr_ok h.1 h1)
      · exact distinctH_ok h.2 a h1 b h2 hab
theorem pair_uniq {l : List (Nat × Nat × AV)} (h : l.Pairwise fun a b => a.2.1 ≠ b.2.1) : ∀ a ∈ l, ∀ b ∈ l, a.2.1 = b.2.1 → a = b := by
  induction l with
  | nil => intro a ha; cases ha
  | cons e l ih =>
    intro a ha b hb hab
    obtain ⟨h1, h2⟩ := List.pairwise_cons.1 h
    rcases List.mem_cons.1 ha with k1 | k1
    · rcases List.mem_cons.1 hb with k2 | k2
      · rw [k1, k2]
      · rw [k1] at hab; exact absurd hab (h1 b k2)
    · rcases List.mem_cons.1 hb with k2 | k2
      · rw [k2] at hab; exact absurd hab.symm (h1 a k1)
      · exact ih h2 a k1 b k2 hab
structure CutOk (P : Program) (w0 : World) (c : Cut) (s : Sg) (J0 : Hp) (θ0 : Th) : Prop where
  nxt : c.nxt = s.nxt
  env : ∀ e ∈ c.env, e ∈ s.env
  nd : c.env.Pairwise fun a b => a.2.1 ≠ b.2.1
  chs : ∀ e ∈ c.chs, e ∈ s.chs
  dist : distinctH s.chs = true
  hdr : ∀ h ∈ hdrsR c.its, h.id < s.nxt
  fine : Fine P w0 J0 θ0 s
  rit : ∀ r ∈ c.its, RitOk P w0 J0 θ0 s.nxt r
section
variable {V : Env} {P : Program} {I : Hp} {w0 w : World} {F : Ch} {J J0 : Hp} {θ θ0 : Th} {s s' : Sg} {a : Act} {c : Cut}
theorem mkCut_ok {ks : List Nat} {is : List It} (h : mkCut ks is s = some c) (hf : Fine P w0 J θ s) : CutOk P w0 c s J θ := by
  obtain ⟨rs, hrs, h⟩ := bind_some h
  obtain ⟨hd, h⟩ := chkT_ok h
  obtain rfl := Option.some.inj h
  have hres : ∀ {is : List It} {rs : List RIt}, resolveL s is = some rs → ∀ h ∈ hdrsR rs, h.id < s.nxt := by
    intro is
    induction is with
    | nil => intro rs h x hx; obtain rfl := Option.some.inj (show some _ = some rs from h); cases hx
    | cons i is ih =>
      intro rs h x hx
      obtain ⟨r, hr, h⟩ := bind_some (show (resolve s i).bind _ = some rs from h)
      obtain ⟨rs', hrs', h⟩ := bind_some h
      obtain rfl := Option.some.inj h
      rcases List.mem_append.1 hx with hx | hx
      · cases i with
        | slot t k => obtain rfl := Option.some.inj (show some _ = some r from hr); cases hx
        | gone t => cases hr
        | cur t =>
          obtain ⟨h0, h1, hr⟩ := bind_some (show (ptr0 (look s.env t)).bind _ = some r from hr)
          obtain ⟨⟨g, T, E, xs⟩, hb, hr⟩ := bind_some hr
          obtain rfl := Option.some.inj hr
          obtain ⟨ver, a, b, hm⟩ := curAt_ok hb
          have hok := hf.chs _ hm
          rcases List.mem_cons.1 hx with rfl | hx
          · exact hok.1
          · obtain rfl := List.mem_singleton.1 hx
            exact (show LV.ok P w0 J θ s.nxt (.rd _ (.sl E (.int .u8)) xs) from hok.2.2 _ (by simp)).1
        | agg t ks =>
          cases ks with
          | nil => cases hr
          | cons k ks => obtain rfl := Option.some.inj (show some _ = some r from hr); cases hx
        | par i p E u =>
          obtain ⟨hi, hr⟩ := chkT_ok (show chkT (Nat.blt i s.nxt) _ = some r from hr)
          obtain rfl := Option.some.inj hr
          obtain rfl := List.mem_singleton.1 hx
          rw [Nat.blt_eq] at hi
          exact hi
        | box t ks =>
          obtain ⟨h0, h1, hr⟩ := bind_some (show (ptr0 (look s.env t)).bind _ = some r from hr)
          obtain ⟨b, hb, hr⟩ := bind_some hr
          obtain rfl := Option.some.inj hr
          obtain rfl := List.mem_singleton.1 hx
          exact (hf.chs _ ((blkOf_ok hb).mem_iff.2 (List.mem_cons_self ..))).1
        | pbx i ks =>
          obtain ⟨b, hb, hr⟩ := bind_some (show (blkOf ⟨i, []⟩ s.chs).bind _ = some r from hr)
          obtain rfl := Option.some.inj hr
          obtain rfl := List.mem_singleton.1 hx
          exact (hf.chs _ ((blkOf_ok hb).mem_iff.2 (List.mem_cons_self ..))).1
        | row t E u =>
          obtain ⟨h0, h1, hr⟩ := bind_some (show (own0 (look s.env t)).bind _ = some r from hr)
          obtain rfl := Option.some.inj hr
          obtain rfl := List.mem_singleton.1 hx
          obtain ⟨e, he, h2⟩ := look_mem (own0_ok h1)
          have := hf.env e he
          rw [h2] at this
          exact this.1
      · exact ih hrs' x hx
  have hrit : ∀ {is : List It} {rs : List RIt}, resolveL s is = some rs → ∀ r ∈ rs, RitOk P w0 J θ s.nxt r := by
    intro is
    induction is with
    | nil => intro rs h x hx; obtain rfl := Option.some.inj (show some _ = some rs from h); cases hx
    | cons i is ih =>
      intro rs h x hx
      obtain ⟨r, hr, h⟩ := bind_some (show (resolve s i).bind _ = some rs from h)
      obtain ⟨rs', hrs', h⟩ := bind_some h
      obtain rfl := Option.some.inj h
      rcases List.mem_cons.1 hx with rfl | hx
      · cases i with
        | slot t k => obtain rfl := Option.some.inj (show some _ = some x from hr); trivial
        | gone t => cases hr
        | agg t ks =>
          cases ks with
          | nil => cases hr
          | cons k ks => obtain rfl := Option.some.inj (show some _ = some x from hr); trivial
        | par i p E u =>
          obtain ⟨hi, hr⟩ := chkT_ok (show chkT (Nat.blt i s.nxt) _ = some x from hr)
          obtain rfl := Option.some.inj hr
          trivial
        | box t ks =>
          obtain ⟨h0, h1, hr⟩ := bind_some (show (ptr0 (look s.env t)).bind _ = some x from hr)
          obtain ⟨b, hb, hr⟩ := bind_some hr
          obtain rfl := Option.some.inj hr
          trivial
        | pbx i ks =>
          obtain ⟨b, hb, hr⟩ := bind_some (show (blkOf ⟨i, []⟩ s.chs).bind _ = some x from hr)
          obtain rfl := Option.some.inj hr
          trivial
        | row t E u =>
          obtain ⟨h0, h1, hr⟩ := bind_some (show (own0 (look s.env t)).bind _ = some x from hr)
          obtain rfl := Option.some.inj hr
          trivial
        | cur t =>
          obtain ⟨h0, h1, hr⟩ := bind_some (show (ptr0 (look s.env t)).bind _ = some x from hr)
          obtain ⟨⟨g, T, E, xs⟩, hb, hr⟩ := bind_some hr
          obtain rfl := Option.some.inj hr
          obtain ⟨ver, a, b, hm⟩ := curAt_ok hb
          exact (show LV.ok P w0 J θ s.nxt (.rd g (.sl E (.int .u8)) xs) from (hf.chs _ hm).2.2 _ (List.mem_cons_self ..))
      · exact ih hrs' x hx
  exact ⟨rfl, fun e he => (List.mem_filter.1 (firstE_sub.mem he)).1, (hf.nd.filter _).sublist firstE_sub, fun e he => (List.mem_filter.1 he).1, hd, hres hrs, hf, hrit hrs⟩
theorem cut_ok (hC : CutOk P w0 c s J0 θ0) (hS : Sim P I w0 F V.n J θ s' a w) (hFr : Fr s θ0 s' θ) (hJ : J0.le J) {d : denN (ksOf c.its)} (h : c.of s' = some d) : ∃ θ', Sim P I w0 F V.n J θ' (c.at d) a w ∧ Fr s θ0 (c.at d) θ' := by
  unfold Cut.of at h
  obtain ⟨S1, F1⟩ := prepL_ok (hs := ritHdrs s' c.its) hS
  obtain ⟨S2, F2⟩ := prepL_ok (hs := rowHdrs c.chs) S1
  generalize hs1 : prepL (rowHdrs c.chs) (prepL (ritHdrs s' c.its) s') = s1 at h S2 F2
  simp only at h
  obtain ⟨q, hq, h⟩ := bind_some h
  obtain ⟨rest2, hrest, h⟩ := bind_some h
  obtain ⟨henv, h⟩ := chkT_ok h
  obtain rfl := Option.some.inj h
  have hfr : Fr s θ0 s1 θ := (hFr.trans F1).trans F2
  have hsame : Same s.nxt θ0 θ := hfr.same
  obtain ⟨hsub, vals, hvl, hcut⟩ := getIs_ok (w := w) (n1 := s.nxt) S2.fine.env hq S2.fine.chs fun r hr => by
    have h1 := hC.rit r hr
    cases r with
    | cur h T g E xs => exact LV.ok_same hsame (Nat.le_refl _) (show LV.ok P w0 J0 θ0 s.nxt (.rd g (.sl E (.int .u8)) xs) from h1) hJ
    | _ => trivial
  let θ' : Th := fun i => if i < s.nxt then θ i else vals.getD (i - s.nxt) undef
  have hθ : Same s.nxt θ θ' := fun i hi => if_pos hi
  have hθ0 : Same s.nxt θ0 θ' := hsame.trans hθ (Nat.le_refl _)
  have htop : c.top = s.nxt + (ksOf c.its).length := by unfold Cut.top; rw [hC.nxt]
  obtain ⟨e1, e2, e3⟩ := hcut θ' s.nxt c.top (c.top + 1) (fun i v hi => by
    show (if s.nxt + i < s.nxt then _ else vals.getD (s.nxt + i - s.nxt) undef) = v
    rw [if_neg (by omega), Nat.add_sub_cancel_left, List.getD_eq_getElem?_getD, hi]; rfl) (by rw [htop]; exact Nat.le_succ _) (Nat.lt_succ_self _) (fun x hx => ⟨hv_same hθ (hC.hdr x hx), by have := hC.hdr x hx; rw [htop]; omega⟩) [F] S2.st
  have hstay : ∀ e ∈ c.chs, ∀ e' ∈ q.2, e'.1 = e.1 → e'.2.1 = e.2.1 → e' = e := fun e he e' he' h1 h2 => by
    have hes := hC.chs e he
    have hek := hC.fine.chs e hes
    rcases hfr.chs e' (hsub e' he') e'.1 e'.2.1 e'.2.2 ⟨rfl, .inl ⟨rfl, rfl⟩⟩ with h3 | ⟨e0, he0, h3⟩
    · have := hek.2.1; omega
    · have := distinctH_ok hC.dist e0 he0 e hes (h3.1.trans h1)
      subst this
      rcases h3.2 with ⟨h4, h5⟩ | h4
      · obtain ⟨x1, x2, x3⟩ := e'
        obtain ⟨y1, y2, y3⟩ := e0
        simp only at h1 h2 h5
        rw [h1, h2, h5]
      · obtain ⟨y1, y2, y3⟩ := e0
        cases y3 with
        | hole over t dd u y f i k off lv =>
          have h5 := h4.1
          have h6 := hek.2.2.2.1
          have h7 : over = e'.2.1 := h5
          have h8 : over < y2 := h6
          have h9 : e'.2.1 = y2 := h2
          omega
        | _ => exact h4.elim
  have hperm := chsStay_ok hrest hstay
  have hnew : Newer s.nxt s.chs (newCs c.top s.nxt c.its q.1 ++ c.chs) := fun e he h' ver x hs => by
    rcases List.mem_append.1 he with he | he
    · obtain ⟨k1, k2⟩ := newCs_ver e he
      rcases hs.2 with ⟨h1, h2⟩ | h1
      · left; rw [← h1, k1, htop]; omega
      · obtain ⟨y1, y2, y3⟩ := e
        cases y3 with
        | hole _ _ _ _ _ _ _ _ _ _ => exact k2.elim
        | _ => exact h1.elim
    · exact .inr ⟨e, hC.chs e he, hs⟩
  have hlook : ∀ e ∈ c.env, look s1.env e.1 = some e.2.2 := fun e he => by
    obtain ⟨x, h1, h2⟩ := lookV_ok (envStays_ok henv e he)
    have hes := hC.env e he
    have := pair_uniq hC.fine.nd _ (hfr.env _ h2 (hC.fine.ver e hes)) e hes rfl
    rw [h1, ← this]
  have hat : c.at q.1 = ⟨newEs s.nxt c.its q.1 ++ c.env, newCs c.top s.nxt c.its q.1 ++ c.chs, c.top + 1⟩ := by unfold Cut.at; rw [hC.nxt]
  obtain ⟨v1, v2⟩ := newEs_ver (rs := c.its) (id := s.nxt) (d := q.1)
  refine ⟨θ', ?_, by
    rw [hat]
    refine ⟨show s.nxt ≤ c.top + 1 by rw [htop]; omega, hθ0, fun e he hv0 => ?_, hnew⟩
    rcases List.mem_append.1 he with he | he
    · have := v1 e he; omega
    · exact hC.env e he⟩
  rw [hat]
  refine ⟨S2.le, S2.agr.pick _ fun p hp => ?_, ?_, fun e he => ?_, fun e he => ?_, List.pairwise_append.2 ⟨v2, hC.nd, fun x hx y hy hxy => ?_⟩, fun e he => ?_, S2.fine.lay⟩
  · obtain ⟨e, he, rfl⟩ := List.mem_map.1 hp
    rcases List.mem_append.1 he with he | he
    · obtain ⟨-, x, h1, h2⟩ := e1 e he
      show (envL θ s1).lookup e.1 = some (e.2.2.v θ')
      rw [h2]; exact look_envL h1
    · have hok := hC.fine.env e (hC.env e he)
      show (envL θ s1).lookup e.1 = some (e.2.2.v θ')
      rw [AV.v_same hθ0 hok, ← AV.v_same hsame hok]; exact look_envL (hlook e he)
  · have hch : c.chs.map (toCh P θ') = c.chs.map (toCh P θ) := List.map_congr_left fun e he => by
      have hok := hC.fine.chs e (hC.chs e he)
      rw [toCh_same hθ0 hok, toCh_same hsame hok]
    show St J w0 w ((newCs c.top s.nxt c.its q.1 ++ c.chs).map (toCh P θ') ++ [F])
    rw [List.map_append, hch]
    have h1 := e3.perm (List.Perm.append_left _ ((hperm.map (toCh P θ)).append_right [F]))
    rw [List.map_append] at h1
    refine St.left (ds := rest2.map (toCh P θ)) (h1.perm ?_)
    rw [List.append_assoc, List.append_assoc, List.append_assoc]
    exact (List.Perm.append_left _ (List.Perm.append_left _ List.perm_append_comm))
  · rcases List.mem_append.1 he with he | he
    · exact (e1 e he).1 _
    · exact AV.ok_same hθ0 (show s.nxt ≤ c.top + 1 by rw [htop]; omega) hnew (hC.fine.env e (hC.env e he)) hJ
  · rcases List.mem_append.1 he with he | he
    · have := v1 e he
      show e.2.1 < c.top + 1
      rw [htop]; omega
    · have := hC.fine.ver e (hC.env e he)
      show e.2.1 < c.top + 1
      rw [htop]; omega
  · have := v1 x hx
    have := hC.fine.ver y (hC.env y hy)
    omega
  · rcases List.mem_append.1 he with he | he
    · exact e2 _ e he
    · exact okE_same hθ0 (show s.nxt ≤ c.top + 1 by rw [htop]; omega) hnew (hC.fine.chs e (hC.chs e he)) hJ
end
end Go.Proofs.YtfkjjnddefojjaaGreatDoor.R
/- A region that draws its order: what is closed (numbers) apart from what is said. No program text is named here. -/
set_option linter.unusedVariables false
set_option linter.unusedSimpArgs false
set_option linter.unnecessarySimpa false
namespace Go.Proofs.YtfkjjnddefojjaaGreatDoor.R
open Go.RowKit
open Go.Proofs.YtfkjjnddefojjaaGreatDoor.D

def isIn (t : Nat) : List Nat → Bool
  | [] => false
  | u :: l => Nat.beq u t || isIn t l
theorem isIn_ok {t : Nat} : ∀ {l : List Nat}, isIn t l = true ↔ t ∈ l
  | [] => by simp [isIn]
  | u :: l => by
    unfold isIn
    rw [Bool.or_eq_true, isIn_ok (l := l), List.mem_cons]
    constructor
    · rintro (h | h)
      · exact .inl (Nat.eq_of_beq_eq_true h).symm
      · exact .inr h
    · rintro (h | h)
      · exact .inl (by rw [h]; exact Nat.beq_refl u)
      · exact .inr h
theorem isIn_no {t : Nat} {l : List Nat} : isIn t l = false ↔ t ∉ l := by
  rw [← isIn_ok (l := l)]; simp
def nodupN : List Nat → Bool
  | [] => true
  | u :: l => !isIn u l && nodupN l
theorem nodupN_ok : ∀ {l : List Nat}, nodupN l = true → l.Nodup
  | [], _ => List.nodup_nil
  | u :: l, h => by
    unfold nodupN at h
    rw [Bool.and_eq_true, Bool.not_eq_true', isIn_no] at h
    exact List.nodup_cons.2 ⟨h.1, nodupN_ok h.2⟩
structure OpK where
  reads : List Nat
  needs : List Nat
  gives : List Nat
  src : List (Nat × Option Nat)
structure Skel where
  ops : List OpK
  nres : Nat
  base : List Nat
  pre : List (List Nat)
  fin : List (Nat × Option Nat)
  left : List Nat
structure Sm where
  fact : Nat → (Nat → Value) → Prop
  chunk : Nat → (Nat → Value) → Ch
namespace Skel
def op (p : Skel) (i : Nat) : OpK := p.ops.getD i ⟨[], [], [], []⟩
def before (p : Skel) (i : Nat) : List Nat := p.pre.getD i []
def srcOf (t : Nat) : List (Nat × Option Nat) → Option (Option Nat)
  | [] => none
  | (u, x) :: l => if Nat.beq u t then some x else srcOf t l
def ev (p : Skel) (L : List (Nat × Value)) (i : Nat) (vs : Nat → Value) : Operand → Value
  | .tmp t => match srcOf t (p.op i).src with
    | some (some j) => vs j
    | _ => (L.lookup t).getD undef
  | x => evL L x
end Skel
structure Loc (p : Skel) (q : Sm) (m : Nat) : Prop where
  fact : ∀ i, i < m → ∀ vs vs', (∀ j, j = i ∨ j ∈ p.before i → vs' j = vs j) → q.fact i vs → q.fact i vs'
  chB : ∀ x, x ∈ p.base → ∀ vs vs', q.chunk x vs' = q.chunk x vs
  chG : ∀ i, i < m → ∀ x, x ∈ (p.op i).gives → ∀ vs vs', (∀ j, j = i ∨ j ∈ p.before i → vs' j = vs j) → q.chunk x vs' = q.chunk x vs
def Skel.goal (p : Skel) (q : Sm) (P : Program) (I : Hp) (w0 : World) (L : List (Nat × Value)) (i : Nat) (o : Oper) : Prop :=
  ∀ vs, (∀ j, j ∈ p.before i → q.fact j vs) →
    match wants o vs with
    | some true => OpT P I w0 o (p.ev L i vs) (((p.op i).reads ++ (p.op i).needs).map (q.chunk · vs)) (fun v => q.fact i (upd vs i v)) (fun v => ((p.op i).reads ++ (p.op i).gives).map (q.chunk · (upd vs i v)))
    | some false => q.fact i (upd vs i undef) ∧ (p.op i).needs = [] ∧ (p.op i).gives = []
    | none => False
def isDst (ops : List Oper) (j t : Nat) : Bool := match ops[j]? with
  | some o => match o.dst with
    | some u => Nat.beq u t
    | none => false
  | none => false
theorem isDst_ok {ops : List Oper} {j t : Nat} : isDst ops j t = true ↔ (ops.toArray[j]?).bind (·.dst) = some t := by
  unfold isDst
  rw [List.getElem?_toArray]
  cases ops[j]? with
  | none => simp
  | some o =>
    simp only [Option.bind_some]
    cases o.dst with
    | none => simp
    | some u => simp
def anyN (l : List Nat) (f : Nat → Bool) : Bool := match l with
  | [] => false
  | x :: l => f x || anyN l f
def allN (l : List Nat) (f : Nat → Bool) : Bool := match l with
  | [] => true
  | x :: l => f x && allN l f
theorem anyN_ok {f : Nat → Bool} : ∀ {l : List Nat}, anyN l f = true ↔ ∃ x, x ∈ l ∧ f x = true
  | [] => by simp [anyN]
  | x :: l => by unfold anyN; rw [Bool.or_eq_true, anyN_ok (l := l)]; simp
theorem allN_ok {f : Nat → Bool} : ∀ {l : List Nat}, allN l f = true ↔ ∀ x, x ∈ l → f x = true
  | [] => by simp [allN]
  | x :: l => by unfold allN; rw [Bool.and_eq_true, allN_ok (l := l)]; simp
def allO (l : List Oper) (k : Nat) (f : Nat → Oper → Bool) : Bool := match l with
  | [] => true
  | o :: l => f k o && allO l (k + 1) f
theorem allO_ok {f : Nat → Oper → Bool} : ∀ {l : List Oper} {k : Nat}, allO l k f = true → ∀ i o, l[i]? = some o → f (k + i) o = true
  | [], _, _, i, o, h => by simp at h
  | x :: l, k, h, i, o, hi => by
    unfold allO at h
    rw [Bool.and_eq_true] at h
    cases i with
    | zero => simp at hi; subst hi; exact h.1
    | succ i =>
      have := allO_ok h.2 i o (by simpa using hi)
      rwa [show k + 1 + i = k + (i + 1) from by omega] at this
def Skel.okOp (p : Skel) (n : Nat) (kn : Nat → Bool) (ops : List Oper) (all : List Nat) (i : Nat) (o : Oper) (b : List Nat) (r : OpK) : Bool :=
  noSelect o && (dstOk n o.dst && (allN (edgesOf o) (fun j => Nat.blt j i) &&
  -- what comes before
  (allN b (fun j => Nat.blt j i && (isIn j (edgesOf o) || anyN (edgesOf o) fun k => isIn j (p.before k))) &&
  -- the slots
  (allN (slotsOf ops.toArray o) (fun t => match srcOf t r.src with
    | none => false
    | some none => kn t && allN all fun j => !isDst ops j t || (Nat.beq j i || isIn i (p.before j))
    | some (some j) => isDst ops j t && (isIn j b && allN all fun k => !isDst ops k t || (Nat.beq k j || (Nat.beq k i || (isIn k (p.before j) || isIn i (p.before k)))))) &&
  ((match o.guard with
    | none => true
    | some (g, _) => match ops[g]? with
      | none => false
      | some og => match og.dst with
        | none => false
        | some t => match srcOf t r.src with
          | some (some j) => Nat.beq j g
          | _ => false) &&
  -- the chunks
  (allN (r.reads ++ r.needs) (fun x => Nat.blt x p.nres && (isIn x p.base || anyN b fun j => isIn x (p.op j).gives)) &&
  (allN r.reads (fun x => allN all fun k => Nat.beq k i || (!isIn x (p.op k).needs || isIn i (p.before k))) &&
  (allN r.needs (fun x => allN all fun k => Nat.beq k i || !isIn x (p.op k).needs) &&
  (allN r.gives (fun x => Nat.blt x p.nres && (!isIn x p.base && (!isIn x (r.reads ++ r.needs) && allN all (fun k => Nat.beq k i || !isIn x (p.op k).gives)))) &&
  (nodupN (r.reads ++ r.needs) && nodupN (r.reads ++ r.gives)))))))))))

def Skel.ok (p : Skel) (n : Nat) (kn : Nat → Bool) (ops : List Oper) : Bool :=
  allO ops 0 fun i o => p.okOp n kn ops (List.range ops.length) i o (p.before i) (p.op i)
def Skel.okB (p : Skel) (kn : Nat → Bool) (ops : List Oper) : Bool :=
  let all := List.range ops.length
  nodupN p.base && (nodupN p.left && (allN p.left (fun x => (isIn x p.base || anyN all fun j => isIn x (p.op j).gives) && allN all fun j => !isIn x (p.op j).needs) &&
  (allN (p.base ++ all.flatMap fun j => (p.op j).gives) (fun x => isIn x p.left || anyN all fun j => isIn x (p.op j).needs) &&
  p.fin.all fun (t, s) => match s with
    | none => kn t && allN all fun j => !isDst ops j t
    | some j => Nat.blt j ops.length && (isDst ops j t && allN all fun k => !isDst ops k t || (Nat.beq k j || isIn k (p.before j))))))
def Skel.out (p : Skel) (L : List (Nat × Value)) (vs : Nat → Value) : List (Nat × Value) :=
  p.fin.map fun (t, s) => (t, match s with | some j => vs j | none => (L.lookup t).getD undef)

structure Inv (p : Skel) (q : Sm) (C : List Ch) (I : Hp) (w0 : World) (n : Nat) (L : List (Nat × Value)) (ops : Array Oper) (S : Nat → Bool) (vs : Nat → Value) (a : Act) (w : World) : Prop where
  closed : ∀ i, S i = true → ∀ j, j ∈ p.before i → S j = true
  lt : ∀ i, S i = true → i < ops.size
  defers : a.defers = []
  size : a.tmps.size = n
  old : ∀ t v, L.lookup t = some v → (∀ j, S j = true → (ops[j]?).bind (·.dst) ≠ some t) → a.tmps.getD t undef = v
  new : ∀ j t, S j = true → (ops[j]?).bind (·.dst) = some t → (∀ k, S k = true → (ops[k]?).bind (·.dst) = some t → k = j ∨ k ∈ p.before j) → a.tmps.getD t undef = vs j
  facts : ∀ i, S i = true → q.fact i vs
  st : ∃ l : List Nat, l.Nodup ∧ (∀ x, x ∈ l ↔ (x ∈ p.base ∨ ∃ j, S j = true ∧ x ∈ (p.op j).gives) ∧ ¬ ∃ j, S j = true ∧ x ∈ (p.op j).needs) ∧ St I w0 w (l.map (q.chunk · vs) ++ C)

structure Skel.Good (p : Skel) (n : Nat) (L : List (Nat × Value)) (ops : Array Oper) (i : Nat) (o : Oper) : Prop where
  sel : noSelect o = true
  dst : dstOk n o.dst = true
  edges : ∀ j, j ∈ edgesOf o → j < i
  bef : ∀ j, j ∈ p.before i → j < i ∧ (j ∈ edgesOf o ∨ ∃ k, k ∈ edgesOf o ∧ j ∈ p.before k)
  slots : ∀ t, t ∈ slotsOf ops o → (Skel.srcOf t (p.op i).src = some none ∧ (L.lookup t).isSome = true ∧ ∀ j, j < ops.size → (ops[j]?).bind (·.dst) = some t → j = i ∨ i ∈ p.before j) ∨
    ∃ j, Skel.srcOf t (p.op i).src = some (some j) ∧ (ops[j]?).bind (·.dst) = some t ∧ j ∈ p.before i ∧ ∀ k, k < ops.size → (ops[k]?).bind (·.dst) = some t → k = j ∨ k = i ∨ k ∈ p.before j ∨ i ∈ p.before k
  guard : ∀ g want, o.guard = some (g, want) → ∃ t, (ops[g]?).bind (·.dst) = some t ∧ Skel.srcOf t (p.op i).src = some (some g)
  have_ : ∀ x, x ∈ (p.op i).reads ++ (p.op i).needs → x < p.nres ∧ (x ∈ p.base ∨ ∃ j, j ∈ p.before i ∧ x ∈ (p.op j).gives)
  keep : ∀ x, x ∈ (p.op i).reads → ∀ k, k < ops.size → x ∈ (p.op k).needs → k = i ∨ i ∈ p.before k
  once : ∀ x, x ∈ (p.op i).needs → ∀ k, k < ops.size → x ∈ (p.op k).needs → k = i
  give : ∀ x, x ∈ (p.op i).gives → x < p.nres ∧ x ∉ p.base ∧ x ∉ (p.op i).reads ++ (p.op i).needs ∧ ∀ k, k < ops.size → x ∈ (p.op k).gives → k = i
  nd1 : ((p.op i).reads ++ (p.op i).needs).Nodup
  nd2 : ((p.op i).reads ++ (p.op i).gives).Nodup

theorem nbeq {a b : Nat} : Nat.beq a b = true ↔ a = b := ⟨Nat.eq_of_beq_eq_true, fun h => by rw [h]; exact Nat.beq_refl b⟩
theorem nblt {a b : Nat} : Nat.blt a b = true ↔ a < b := by rw [Nat.blt_eq]
theorem Skel.good_of_ok {p : Skel} {n : Nat} {kn : Nat → Bool} {L : List (Nat × Value)} {ops : List Oper} (hkn : ∀ t, kn t = true → (L.lookup t).isSome = true) (h : p.ok n kn ops = true) {i : Nat} {o : Oper} (hi : ops[i]? = some o) : p.Good n L ops.toArray i o := by
  have him : i < ops.length := (List.getElem?_eq_some_iff.1 hi).1
  have h := allO_ok h i o hi
  rw [Nat.zero_add] at h
  unfold Skel.okOp at h
  simp only [Bool.and_eq_true, allN_ok, anyN_ok, isIn_ok, nblt, nbeq, Bool.or_eq_true, Bool.not_eq_true', isIn_no] at h
  obtain ⟨h1, h2, h2', h3, h4, h5, h7, h8, h9, h10, h11, h12⟩ := h
  have hr : ∀ k, k < ops.toArray.size → k ∈ List.range ops.length := fun k hk => List.mem_range.2 (by simpa using hk)
  refine ⟨h1, h2, h2', fun j hj => ?_, fun t ht => ?_, fun g want hg => ?_, fun x hx => h7 x hx, fun x hx k hk hn => ?_, fun x hx k hk hn => ?_, fun x hx => ?_, nodupN_ok h11, nodupN_ok h12⟩
  · obtain ⟨e1, e2⟩ := h3 j hj
    exact ⟨e1, e2⟩
  · have := h4 t ht

    split at this
    · cases this
    · rename_i he
      simp only [Bool.and_eq_true, allN_ok, Bool.or_eq_true, Bool.not_eq_true', nbeq, isIn_ok] at this
      refine .inl ⟨he, hkn t this.1, fun j hj hd => ?_⟩
      rcases this.2 j (hr j hj) with e | e
      · rw [isDst_ok.2 hd] at e; cases e
      · exact e
    · rename_i j he
      simp only [Bool.and_eq_true, allN_ok, Bool.or_eq_true, Bool.not_eq_true', nbeq, isIn_ok] at this
      refine .inr ⟨j, he, isDst_ok.1 this.1, this.2.1, fun k hk hd => ?_⟩
      rcases this.2.2 k (hr k hk) with e | e
      · rw [isDst_ok.2 hd] at e; cases e
      · exact e
  · rw [hg] at h5
    simp only at h5
    split at h5
    · cases h5
    · rename_i og hog
      split at h5
      · cases h5
      · rename_i t ht
        split at h5
        · rename_i j hj
          refine ⟨t, by rw [List.getElem?_toArray, hog]; exact ht, ?_⟩
          rw [← Nat.eq_of_beq_eq_true h5]; exact hj
        · cases h5
  · rcases h8 x hx k (hr k hk) with e | e | e
    · exact .inl e
    · exact absurd hn e
    · exact .inr e
  · rcases h9 x hx k (hr k hk) with e | e
    · exact e
    · exact absurd hn e
  · obtain ⟨e1, e2, e3, e4⟩ := h10 x hx
    refine ⟨e1, e2, e3, fun k hk hn => ?_⟩
    rcases e4 k (hr k hk) with e | e
    · exact e
    · exact absurd hn e

section
variable {p : Skel} {q : Sm} {kn : Nat → Bool} {C : List Ch} {P : Program} {I : Hp} {w0 : World} {n : Nat} {L : List (Nat × Value)} {ops : List Oper} {S : Nat → Bool} {vs : Nat → Value} {a : Act} {w : World} {i : Nat} {o : Oper}
theorem Inv.step (hkn : ∀ t, kn t = true → (L.lookup t).isSome = true) (hl : Loc p q ops.length) (hok : p.ok n kn ops = true) (hg : p.goal q P I w0 L i o) (hi : ops[i]? = some o) (h : Inv p q C I w0 n L ops.toArray S vs a w) (hn : S i = false) (hpre : ∀ j, j ∈ p.before i → S j = true) {K : Act → World → Prop} {Q : Exit → Act → World → Prop}
    (hK : ∀ vs a w, Inv p q C I w0 n L ops.toArray (fun j => S j || j == i) vs a w → K a w) : wpOp P ops.toArray Q i K a w := by
  have G := Skel.good_of_ok hkn hok hi
  have him : i < ops.toArray.size := by have := (List.getElem?_eq_some_iff.1 hi).1; simpa using this
  -- what the slots hold
  have hcl : ∀ j, S j = true → i ∉ p.before j := fun j hj hb => by rw [h.closed j hj i hb] at hn; cases hn
  have slot : ∀ t, t ∈ slotsOf ops.toArray o → a.tmps.getD t undef = p.ev L i vs (.tmp t) := by
    intro t ht
    rcases G.slots t ht with ⟨e1, e2, e3⟩ | ⟨j, e1, e2, e3, e4⟩
    · obtain ⟨v, hv⟩ := Option.isSome_iff_exists.1 e2
      simp only [Skel.ev, e1, hv, Option.getD_some]
      refine h.old t v hv fun j hj hd => ?_
      rcases e3 j (h.lt j hj) hd with rfl | e
      · rw [hn] at hj; cases hj
      · exact hcl j hj e
    · simp only [Skel.ev, e1]
      refine h.new j t (hpre j e3) e2 fun k hk hd => ?_
      rcases e4 k (h.lt k hk) hd with e | e | e | e
      · exact .inl e
      · subst e; rw [hn] at hk; cases hk
      · exact .inr e
      · exact absurd e (hcl k hk)
  have hev : ∀ x, x ∈ o.op.operands → a.eval x = p.ev L i vs x := by
    intro x hx
    cases x with
    | tmp t =>
      refine slot t ?_
      unfold slotsOf Oper.looksAt
      refine List.mem_append_left _ (List.mem_filterMap.2 ⟨.tmp t, by simpa using hx, rfl⟩)
    | _ => rfl
  have hfacts : ∀ j, j ∈ p.before i → q.fact j vs := fun j hj => h.facts j (hpre j hj)
  have goal := hg vs hfacts
  -- the rest, once the value is there
  have main : ∀ v w', q.fact i (upd vs i v) → (∃ l : List Nat, l.Nodup ∧ (∀ x, x ∈ l ↔ (x ∈ p.base ∨ ∃ j, (S j || j == i) = true ∧ x ∈ (p.op j).gives) ∧ ¬ ∃ j, (S j || j == i) = true ∧ x ∈ (p.op j).needs) ∧ St I w0 w' (l.map (q.chunk · (upd vs i v)) ++ C)) → K (a.put o.dst v) w' := by
    intro v w' hf hst
    refine hK (upd vs i v) _ _ ⟨?_, ?_, ?_, ?_, ?_, ?_, ?_, hst⟩
    · intro j hj k hk
      simp only [Bool.or_eq_true, beq_iff_eq] at hj ⊢
      rcases hj with hj | rfl
      · exact .inl (h.closed j hj k hk)
      · exact .inl (hpre k hk)
    · intro j hj
      simp only [Bool.or_eq_true, beq_iff_eq] at hj
      rcases hj with hj | rfl
      · exact h.lt j hj
      · exact him
    · cases hd : o.dst <;> simp [Act.put, h.defers]
    · cases hd : o.dst <;> simp [Act.put, h.size]
    · intro t u hu hj
      have hne : o.dst ≠ some t := by
        have := hj i (by simp)
        rwa [show (ops.toArray[i]?) = some o from by simpa using hi] at this
      have h0 := h.old t u hu fun j hS => hj j (by simp [hS])
      cases hd : o.dst with
      | none => exact h0
      | some d =>
        show (a.tmps.setIfInBounds d v).getD t undef = u
        rw [D.getD_set_ne (fun e => hne (by rw [hd, e]))]; exact h0
    · intro j t hj hd hk
      simp only [Bool.or_eq_true, beq_iff_eq] at hj
      by_cases hdt : o.dst = some t
      · have hji : j = i := by
          rcases hj with hj | rfl
          · rcases hk i (by simp) (by rw [show (ops.toArray[i]?) = some o from by simpa using hi]; exact hdt) with e | e
            · exact e.symm
            · exact absurd e (hcl j hj)
          · rfl
        subst hji
        have hlt := G.dst
        rw [hdt] at hlt
        have hlt : t < n := by simpa [dstOk] using hlt
        rw [hdt, upd_self]
        exact D.getD_set_self (by rw [h.size]; exact hlt)
      · have hji : j ≠ i := by
          rintro rfl
          rw [show (ops.toArray[j]?) = some o from by simpa using hi] at hd
          exact hdt hd
        have hjS : S j = true := by rcases hj with hj | e; exact hj; exact absurd e hji
        rw [upd_ne hji]
        have h0 := h.new j t hjS hd fun k hk' => hk k (by simp [hk'])
        cases hd : o.dst with
        | none => exact h0
        | some d =>
          show (a.tmps.setIfInBounds d v).getD t undef = _
          rw [D.getD_set_ne (fun e => hdt (by rw [hd, e]))]; exact h0
    · intro j hj
      simp only [Bool.or_eq_true, beq_iff_eq] at hj
      by_cases e : j = i
      · subst e; exact hf
      · have hjS : S j = true := by rcases hj with hj | e'; exact hj; exact absurd e' e
        refine hl.fact j (by simpa using h.lt j hjS) vs _ (fun k hk => upd_ne fun e' => ?_) (h.facts j hjS)
        subst e'
        rcases hk with e' | e'
        · exact e e'.symm
        · exact hcl j hjS e'
  obtain ⟨l, l1, l2, l3⟩ := h.st
  -- the chunks that are there do not hang on the new value
  have hstay : ∀ v x, x ∈ l → q.chunk x (upd vs i v) = q.chunk x vs := by
    intro v x hx
    rcases ((l2 x).1 hx).1 with hb | ⟨j, hj, hxj⟩
    · exact hl.chB x hb vs _
    · refine hl.chG j (by simpa using h.lt j hj) x hxj vs _ fun k hk => upd_ne fun e' => ?_
      subst e'
      rcases hk with e' | e'
      · subst e'; rw [hn] at hj; cases hj
      · exact hcl j hj e'
  unfold wpOp
  rw [show (ops.toArray[i]?) = some o from by simpa using hi]
  simp only
  -- what the guard says
  have hwant : Region.wanted o (yielded ops.toArray a.tmps) = true ↔ wants o vs = some true := by
    unfold Region.wanted wants
    cases hgd : o.guard with
    | none => simp
    | some q =>
      obtain ⟨g, want⟩ := q
      obtain ⟨t, e1, e2⟩ := G.guard g want hgd
      have ht : t ∈ slotsOf ops.toArray o := by
        unfold slotsOf Oper.looksAt
        refine List.mem_append_right _ ?_
        rw [hgd]
        simp only
        rw [e1]; simp
      have hv := slot t ht
      simp only [Skel.ev, e2] at hv
      have hy : yielded ops.toArray a.tmps g = match vs g with | .bool b => some b | _ => none := by
        unfold yielded
        rw [e1]
        simp only [Option.bind_some]
        rw [Array.getD_eq_getD_getElem?] at hv
        cases ht : a.tmps[t]? with
        | none =>
          rw [ht] at hv
          rw [← hv]; rfl
        | some u =>
          rw [ht] at hv
          simp only [Option.getD_some] at hv
          rw [hv]
          cases vs g <;> rfl
      simp only [hy]
      cases hvg : vs g <;> simp
  cases hw : wants o vs with
  | none => rw [hw] at goal; exact goal.elim
  | some b =>
    cases b with
    | false =>
      rw [hw] at goal
      simp only at goal
      rw [if_neg (by rw [hwant, hw]; simp)]
      refine main undef w goal.1 ⟨l, l1, fun x => ?_, ?_⟩
      · rw [l2]
        obtain ⟨-, g2, g3⟩ := goal
        constructor
        · rintro ⟨h1, h2⟩
          refine ⟨h1.imp id fun ⟨j, hj, hx⟩ => ⟨j, by simp [hj], hx⟩, fun ⟨j, hj, hx⟩ => ?_⟩
          simp only [Bool.or_eq_true, beq_iff_eq] at hj
          rcases hj with hj | rfl
          · exact h2 ⟨j, hj, hx⟩
          · rw [g2] at hx; cases hx
        · rintro ⟨h1, h2⟩
          refine ⟨?_, fun ⟨j, hj, hx⟩ => h2 ⟨j, by simp [hj], hx⟩⟩
          rcases h1 with h1 | ⟨j, hj, hx⟩
          · exact .inl h1
          · simp only [Bool.or_eq_true, beq_iff_eq] at hj
            rcases hj with hj | rfl
            · exact .inr ⟨j, hj, hx⟩
            · rw [g3] at hx; cases hx
      · rw [List.map_congr_left fun x hx => hstay undef x hx]; exact l3
    | true =>
      rw [hw] at goal
      simp only at goal
      rw [if_pos (by rw [hwant, hw])]
      refine .inl ?_
      -- what the operation takes is there
      have hin : ∀ x, x ∈ (p.op i).reads ++ (p.op i).needs → x ∈ l := by
        intro x hx
        rw [l2]
        refine ⟨(G.have_ x hx).2.imp id fun ⟨j, hj, e⟩ => ⟨j, hpre j hj, e⟩, fun ⟨k, hk, e⟩ => ?_⟩
        rcases List.mem_append.1 hx with hx | hx
        · rcases G.keep x hx k (h.lt k hk) e with rfl | e'
          · rw [hn] at hk; cases hk
          · exact hcl k hk e'
        · have := G.once x hx k (h.lt k hk) e
          subst this; rw [hn] at hk; cases hk
      let r := l.filter fun x => !((p.op i).reads ++ (p.op i).needs).contains x
      have hr : ∀ x, x ∈ r ↔ x ∈ l ∧ x ∉ (p.op i).reads ++ (p.op i).needs := by
        intro x
        simp [r, List.mem_filter]
      have hrn : r.Nodup := l1.filter _
      have hperm : l.Perm (((p.op i).reads ++ (p.op i).needs) ++ r) := by
        refine (List.perm_ext_iff_of_nodup l1 (List.nodup_append.2 ⟨G.nd1, hrn, fun x hx y hy e => ?_⟩)).2 fun x => ?_
        · subst e; exact ((hr x).1 hy).2 hx
        · rw [List.mem_append, hr]
          constructor
          · intro hx
            by_cases e : x ∈ (p.op i).reads ++ (p.op i).needs
            · exact .inl e
            · exact .inr ⟨hx, e⟩
          · rintro (e | e)
            · exact hin x e
            · exact e.1
      have hs := l3.perm ((hperm.map (q.chunk · vs)).append_right C)
      rw [List.map_append, List.append_assoc] at hs
      have hsame : execOp a.eval o = execOp (p.ev L i vs) o := execOp_same G.sel hev
      have hu := goal w _ hs
      rw [← hsame] at hu
      refine hu.wp fun v w' hv => main v w' hv.1 ⟨((p.op i).reads ++ (p.op i).gives) ++ r, ?_, fun x => ?_, ?_⟩
      · refine List.nodup_append.2 ⟨G.nd2, hrn, fun x hx y hy e => ?_⟩
        subst e
        rcases List.mem_append.1 hx with hx | hx
        · exact ((hr x).1 hy).2 (List.mem_append_left _ hx)
        · obtain ⟨-, g1, g2, g3⟩ := G.give x hx
          rcases ((l2 x).1 ((hr x).1 hy).1).1 with e | ⟨j, hj, e⟩
          · exact g1 e
          · have := g3 j (h.lt j hj) e
            subst this; rw [hn] at hj; cases hj
      · have hgx : x ∈ (p.op i).gives → x ∉ p.base ∧ (∀ k, S k = true → x ∉ (p.op k).needs) ∧ x ∉ (p.op i).needs := by
          intro hx
          obtain ⟨-, g1, g2, g3⟩ := G.give x hx
          refine ⟨g1, fun k hk e => ?_, fun e => g2 (List.mem_append_right _ e)⟩
          have hkm : k < ops.length := by simpa using h.lt k hk
          rcases ((Skel.good_of_ok (L := L) hkn hok (List.getElem?_eq_getElem hkm)).have_ x (List.mem_append_right _ e)).2 with e' | ⟨j, hj, e'⟩
          · exact g1 e'
          · have := g3 j (h.lt j (h.closed k hk j hj)) e'
            subst this
            exact hcl k hk hj
        rw [List.mem_append, hr]
        constructor
        · rintro (hx | ⟨hx, hx2⟩)
          · rcases List.mem_append.1 hx with hx | hx
            · obtain ⟨e1, e2⟩ := (l2 x).1 (hin x (List.mem_append_left _ hx))
              refine ⟨e1.imp id fun ⟨j, hj, e⟩ => ⟨j, by simp [hj], e⟩, fun ⟨j, hj, e⟩ => ?_⟩
              simp only [Bool.or_eq_true, beq_iff_eq] at hj
              rcases hj with hj | rfl
              · exact e2 ⟨j, hj, e⟩
              · exact (List.nodup_append.1 G.nd1).2.2 x hx x e rfl
            · obtain ⟨g1, g2, g3⟩ := hgx hx
              refine ⟨.inr ⟨i, by simp, hx⟩, fun ⟨j, hj, e⟩ => ?_⟩
              simp only [Bool.or_eq_true, beq_iff_eq] at hj
              rcases hj with hj | rfl
              · exact g2 j hj e
              · exact g3 e
          · obtain ⟨e1, e2⟩ := (l2 x).1 hx
            refine ⟨e1.imp id fun ⟨j, hj, e⟩ => ⟨j, by simp [hj], e⟩, fun ⟨j, hj, e⟩ => ?_⟩
            simp only [Bool.or_eq_true, beq_iff_eq] at hj
            rcases hj with hj | rfl
            · exact e2 ⟨j, hj, e⟩
            · exact hx2 (List.mem_append_right _ e)
        · rintro ⟨e1, e2⟩
          have e2' : ¬ ∃ j, S j = true ∧ x ∈ (p.op j).needs := fun ⟨j, hj, e⟩ => e2 ⟨j, by simp [hj], e⟩
          have e2i : x ∉ (p.op i).needs := fun e => e2 ⟨i, by simp, e⟩
          by_cases hxg : x ∈ (p.op i).gives
          · exact .inl (List.mem_append_right _ hxg)
          · have hxl : x ∈ l := by
              rw [l2]
              refine ⟨e1.imp id fun ⟨j, hj, e⟩ => ?_, e2'⟩
              simp only [Bool.or_eq_true, beq_iff_eq] at hj
              rcases hj with hj | rfl
              · exact ⟨j, hj, e⟩
              · exact absurd e hxg
            by_cases e : x ∈ (p.op i).reads ++ (p.op i).needs
            · rcases List.mem_append.1 e with e | e
              · exact .inl (List.mem_append_left _ e)
              · exact absurd e e2i
            · exact .inr ⟨hxl, e⟩
      · rw [List.map_append, List.append_assoc]
        have : r.map (q.chunk · (upd vs i v)) = r.map (q.chunk · vs) := List.map_congr_left fun x hx => hstay v x ((hr x).1 hx).1
        rw [this]
        exact hv.2

theorem tok_any (hkn : ∀ t, kn t = true → (L.lookup t).isSome = true) (hl : Loc p q ops.length) (hok : p.ok n kn ops = true) (hg : ∀ i o, ops[i]? = some o → p.goal q P I w0 L i o) {Q : Exit → Act → World → Prop}
    (hQ : ∀ vs a w, Inv p q C I w0 n L ops.toArray (fun j => decide (j < ops.length)) vs a w → Q .normal a w) : ∀ (fuel : Nat) (listed : Array Bool) (vs : Nat → Value) (a : Act) (w : World), listed.size = ops.length → D.leftOf ops.length listed ≤ fuel →
      Inv p q C I w0 n L ops.toArray (fun j => listed.getD j false) vs a w → wpAny P .any ops.toArray Q fuel listed a w := by
  have done : ∀ (listed : Array Bool) (vs : Nat → Value) (a : Act) (w : World), (∀ i, i < ops.length → listed.getD i false = true) → Inv p q C I w0 n L ops.toArray (fun j => listed.getD j false) vs a w → Q .normal a w := by
    intro listed vs a w hall h
    refine hQ vs a w ?_
    have e : (fun j => listed.getD j false) = fun j => decide (j < ops.length) := by
      funext j
      by_cases hj : j < ops.length
      · rw [hall j hj]; simp [hj]
      · cases hl : listed.getD j false with
        | false => simp [hj]
        | true => exact absurd (by simpa using h.lt j hl) hj
    rw [← e]; exact h
  have nil : ∀ (listed : Array Bool) (vs : Nat → Value) (a : Act) (w : World), listed.size = ops.length → Inv p q C I w0 n L ops.toArray (fun j => listed.getD j false) vs a w → Region.ready .any ops.toArray listed = [] → Q .normal a w := by
    intro listed vs a w hsz h hr
    refine done listed vs a w (fun i => ?_) h
    induction i using Nat.strongRecOn with
    | _ i ih =>
      intro hi
      cases hl : listed.getD i false with
      | true => rfl
      | false =>
        have : i ∈ Region.ready .any ops.toArray listed := by
          refine D.mem_ready.2 ⟨by simpa using hi, ?_, fun o ho j hj => ?_⟩
          · rw [Array.getD_eq_getD_getElem?, Array.getElem?_eq_getElem (by omega)] at hl ⊢
            simpa using hl
          · have hj' := (Skel.good_of_ok (L := L) hkn hok (show ops[i]? = some o by simpa using ho)).edges j hj
            exact ih j hj' (by omega)
        rw [hr] at this; cases this
  intro fuel
  induction fuel with
  | zero =>
    intro listed vs a w hsz hf h
    have hall : ∀ i, i < ops.length → listed.getD i false = true := by
      intro i hi
      cases hl : listed.getD i false with
      | true => rfl
      | false =>
        have hz : (List.range ops.length).filter (fun i => !listed.getD i false) = [] := List.eq_nil_of_length_eq_zero (Nat.le_zero.1 hf)
        have : i ∈ (List.range ops.length).filter (fun i => !listed.getD i false) := List.mem_filter.2 ⟨List.mem_range.2 hi, by simp [hl]⟩
        rw [hz] at this; cases this
    refine ⟨?_, done listed vs a w hall h⟩
    cases hr : Region.ready .any ops.toArray listed with
    | nil => rfl
    | cons i l =>
      have : i ∈ Region.ready .any ops.toArray listed := by rw [hr]; simp
      obtain ⟨h1, h2, -⟩ := D.mem_ready.1 this
      have h1' : i < ops.length := by simpa using h1
      have h3 := hall i h1'
      rw [Array.getD_eq_getD_getElem?, Array.getElem?_eq_getElem (by omega)] at h2 h3
      simp at h2 h3
      rw [h2] at h3; cases h3
  | succ fuel ih =>
    intro listed vs a w hsz hf h
    refine ⟨nil listed vs a w hsz h, fun i hi => ?_⟩
    obtain ⟨h1, h2, h3⟩ := D.mem_ready.1 hi
    have h1' : i < ops.length := by simpa using h1
    have hio : ops[i]? = some ops[i] := List.getElem?_eq_getElem h1'
    have hn : listed.getD i false = false := by
      rw [Array.getD_eq_getD_getElem?, Array.getElem?_eq_getElem (by omega)] at h2 ⊢
      simpa using h2
    have hgi := hg i _ hio
    refine h.step hkn hl hok hgi hio hn (fun j hj => ?_) fun vs a w hI => ?_
    · rcases ((Skel.good_of_ok (L := L) hkn hok hio).bef j hj).2 with e | ⟨k, hk, e⟩
      · exact h3 _ (by simpa using hio) j e
      · exact h.closed k (h3 _ (by simpa using hio) k hk) j e
    · refine ih _ vs a w (by simpa using hsz) ?_ ?_
      · have hlt : D.leftOf ops.length (listed.setIfInBounds i true) < D.leftOf ops.length listed := by
          unfold D.leftOf
          have hsub : (List.range ops.length).filter (fun j => !(listed.setIfInBounds i true).getD j false) = ((List.range ops.length).filter (fun j => !listed.getD j false)).filter (fun j => j != i) := by
            rw [List.filter_filter]
            refine List.filter_congr fun j hj => ?_
            by_cases e : i = j
            · subst e
              rw [Array.getD_eq_getD_getElem?, Array.getElem?_setIfInBounds_self_of_lt (by omega)]; simp
            · rw [Array.getD_eq_getD_getElem?, Array.getElem?_setIfInBounds_ne e, ← Array.getD_eq_getD_getElem?]
              simp [show (j != i) = true from by simp; exact fun e' => e e'.symm]
          rw [hsub]
          refine List.length_filter_lt_length_iff_exists.2 ⟨i, List.mem_filter.2 ⟨List.mem_range.2 h1', by simp [hn]⟩, by simp⟩
        omega
      · have e : (fun j => (listed.setIfInBounds i true).getD j false) = fun j => (listed.getD j false || j == i) := by
          funext j
          by_cases e : i = j
          · subst e
            rw [Array.getD_eq_getD_getElem?, Array.getElem?_setIfInBounds_self_of_lt (by omega)]; simp
          · rw [Array.getD_eq_getD_getElem?, Array.getElem?_setIfInBounds_ne e, ← Array.getD_eq_getD_getElem?]
            simp [show (j == i) = false from by simp; exact fun e' => e e'.symm]
        rw [e]; exact hI
theorem wp_drawn {id : Nat} {C0 : List Ch} {Q : Exit → Act → World → Prop} (p : Skel) (q : Sm) (hkn : ∀ t, kn t = true → (L.lookup t).isSome = true) (hl : Loc p q ops.length) (hm : P.follows .mixedOrders = true) (ha : Agr n a L) (hs : St I w0 w C0) (hp : C0.Perm (p.base.map (q.chunk · fun _ => undef) ++ C))
    (hok : p.ok n kn ops = true) (hB : p.okB kn ops = true) (hg : ∀ i o, ops[i]? = some o → p.goal q P I w0 L i o)
    (k : ∀ vs a w, (∀ i, i < ops.length → q.fact i vs) → Agr n a (p.out L vs) → St I w0 w (p.left.map (q.chunk · vs) ++ C) → Q .normal a w) : (Code.region id ops.toArray true).wp P Q a w := by
  unfold Skel.okB at hB
  simp only [Bool.and_eq_true, allN_ok, anyN_ok, isIn_ok, Bool.or_eq_true, Bool.not_eq_true', isIn_no, List.all_eq_true] at hB
  obtain ⟨hb1', hb3', hb4, hb5, hb6⟩ := hB
  have hb1 := nodupN_ok hb1'
  have hb3 := nodupN_ok hb3'
  refine wp_region_any hm (tok_any (C := C) hkn hl hok hg (fun vs a w h => k vs a w (fun i hi => h.facts i (by simpa using hi)) ?_ ?_) _ _ (fun _ => undef) a _ (by simp) ?_ ?_)
  · refine ⟨h.defers, h.size, fun t v hv => ?_⟩
    have key : ∀ (M : List (Nat × Option Nat)), (∀ q ∈ M, q ∈ p.fin) → (M.map fun (t, s) => (t, match s with | some j => vs j | none => (L.lookup t).getD undef)).lookup t = some v → a.tmps.getD t undef = v := by
      intro M
      induction M with
      | nil => intro _ h; cases h
      | cons q M ih =>
        intro hM hv
        obtain ⟨t', s'⟩ := q
        rw [List.map_cons, List.lookup_cons] at hv
        by_cases e : t = t'
        · subst e
          simp only [BEq.rfl, Option.some.injEq] at hv
          have hf := hb6 (t, s') (hM _ (by simp))
          cases s' with
          | none =>
            simp only [Bool.and_eq_true, allN_ok, Bool.not_eq_true'] at hf hv
            obtain ⟨u, hu⟩ := Option.isSome_iff_exists.1 (hkn _ hf.1)
            rw [hu] at hv
            simp at hv; subst hv
            refine h.old t u hu fun j hj hd => ?_
            have hj : j < ops.length := by simpa using hj
            have := hf.2 j (List.mem_range.2 hj)
            rw [isDst_ok.2 hd] at this; cases this
          | some j =>
            simp only [Bool.and_eq_true, allN_ok, nblt, nbeq, Bool.or_eq_true, Bool.not_eq_true', isIn_ok] at hf hv
            rw [← hv]
            refine h.new j t (by simpa using hf.1) (isDst_ok.1 hf.2.1) fun k hk hd => ?_
            have hk : k < ops.length := by simpa using hk
            rcases hf.2.2 k (List.mem_range.2 hk) with e | e
            · rw [isDst_ok.2 hd] at e; cases e
            · exact e
        · have : (t == t') = false := by simpa using e
          rw [this] at hv
          exact ih (fun q hq => hM q (by simp [hq])) hv
    exact key _ (fun _ h => h) hv
  · obtain ⟨l, l1, l2, l3⟩ := h.st
    refine l3.perm (List.Perm.append_right C (List.Perm.map _ ((List.perm_ext_iff_of_nodup l1 hb3).2 fun x => ?_)))
    rw [l2]
    constructor
    · rintro ⟨h1, h2⟩
      have := hb5 x (by
        rcases h1 with h1 | ⟨j, hj, hx⟩
        · exact List.mem_append_left _ h1
        · exact List.mem_append_right _ (List.mem_flatMap.2 ⟨j, List.mem_range.2 (by simpa using hj), hx⟩))
      rcases this with h | ⟨j, hj, h⟩
      · exact h
      · exact absurd ⟨j, by simpa using List.mem_range.1 hj, h⟩ h2
    · intro hx
      have := hb4 x hx
      refine ⟨this.1.imp (fun h => h) fun ⟨j, hj, e⟩ => ⟨j, by simpa using List.mem_range.1 hj, e⟩, fun ⟨j, hj, e⟩ => ?_⟩
      exact this.2 j (List.mem_range.2 (by simpa using hj)) e
  · unfold D.leftOf
    refine Nat.le_trans (List.length_filter_le _ _) (by simp)
  · have hf : ∀ j, (Array.replicate ops.toArray.size false).getD j false = false := by
      intro j
      rw [Array.getD_eq_getD_getElem?, Array.getElem?_replicate]
      split <;> rfl
    refine ⟨fun i hi => ?_, fun i hi => ?_, ha.1, ha.2.1, fun t v hv _ => ha.2.2 t v hv, fun j t hj => ?_, fun i hi => ?_, p.base, hb1, fun x => ?_, ?_⟩
    · rw [hf] at hi; cases hi
    · rw [hf] at hi; cases hi
    · rw [hf] at hj; cases hj
    · rw [hf] at hi; cases hi
    · constructor
      · intro hx
        refine ⟨.inl hx, fun ⟨j, hj, _⟩ => ?_⟩
        rw [hf] at hj; cases hj
      · rintro ⟨h1 | ⟨j, hj, _⟩, _⟩
        · exact h1
        · rw [hf] at hj; cases hj
    · exact (hs.drawn (w' := { w with drawn := w.drawn + 1 }) rfl rfl rfl rfl).perm hp
end
end Go.Proofs.YtfkjjnddefojjaaGreatDoor.R
/- A drawn region, run on states: every order serves. No program text is named here. -/
set_option linter.unusedVariables false
set_option linter.unusedSimpArgs false
set_option linter.unnecessarySimpa false
set_option linter.unusedSectionVars false
namespace Go.Proofs.YtfkjjnddefojjaaGreatDoor.R
open Go.RowKit
open Go.Proofs.YtfkjjnddefojjaaGreatDoor.D

/-! ### What a word hangs on -/
def LV.ids : LV → List Nat
  | .val _ => []
  | .nb _ => []
  | .rd h _ _ => [h.id]
  | .own h => [h.id]
  | .ptr h _ => [h.id]
  | .fn h _ _ _ => [h.id]
  | .fz h _ _ _ _ => [h.id]
  | .fzf h _ _ _ _ => [h.id]
  | .rdn h _ _ _ => [h.id]
def idsL : List LV → List Nat
  | [] => []
  | x :: l => x.ids ++ idsL l
def idsT : List (Bool × List LV) → List Nat
  | [] => []
  | y :: l => idsL y.2 ++ idsT l
def AV.ids : AV → List Nat
  | .one x => x.ids
  | .agg xs => idsL xs
  | .tup ys => idsT ys
  | .elr h _ _ _ _ _ _ => [h.id]
  | .elo h _ _ _ _ _ _ _ => [h.id]
  | .sub h _ _ _ _ _ => [h.id]
  | .pre h _ _ _ _ _ => [h.id]
  | .vw u h _ _ _ _ => [u.id, h.id]
  | .xv _ u h _ _ _ _ => [u.id, h.id]
  | .capv h _ => [h.id]
  | .any h => [h.id]
  | .und => []
def Chk.ids : Chk → List Nat
  | .own _ _ => []
  | .blk _ cs => idsL cs
  | .hole _ _ _ _ _ _ _ _ _ lv => lv.ids
  | .box _ _ _ => []
  | .map _ _ _ _ _ => []
  | .clo _ first capt => idsT first ++ idsL capt
def entIds (h : Hdr) (c : Chk) : List Nat := h.id :: c.ids
theorem idsL_mem {x : LV} {i : Nat} : ∀ {l : List LV}, x ∈ l → i ∈ x.ids → i ∈ idsL l
  | y :: l, h, hi => by
    rcases List.mem_cons.1 h with rfl | h
    · exact List.mem_append_left _ hi
    · exact List.mem_append_right _ (idsL_mem h hi)
theorem idsT_mem {y : Bool × List LV} {i : Nat} : ∀ {l : List (Bool × List LV)}, y ∈ l → i ∈ idsL y.2 → i ∈ idsT l
  | z :: l, h, hi => by
    rcases List.mem_cons.1 h with rfl | h
    · exact List.mem_append_left _ hi
    · exact List.mem_append_right _ (idsT_mem h hi)
section
variable {P : Program} {w0 : World} {J : Hp} {θ θ' : Th} {n m : Nat} {chs chs' : List Ent}
theorem hv_loc {h : Hdr} (k : θ' h.id = θ h.id) : hv θ' h = hv θ h := by unfold hv; rw [k]
theorem LV.v_loc {x : LV} (h : ∀ i ∈ x.ids, θ' i = θ i) : x.v θ' = x.v θ := by
  cases x with
  | val _ => rfl
  | nb _ => rfl
  | rd k t d => exact hv_loc (h _ (by simp [LV.ids]))
  | own k => exact hv_loc (h _ (by simp [LV.ids]))
  | ptr k off => show Value.pointer (some ⟨bk (hv θ' k), off, none⟩) = _; rw [hv_loc (h _ (by simp [LV.ids]))]; rfl
  | fn k ps rs e => exact hv_loc (h _ (by simp [LV.ids]))
  | fz k T t d off => show Value.pointer (some ⟨bk (hv θ' k), off, none⟩) = _; rw [hv_loc (h _ (by simp [LV.ids]))]; rfl
  | fzf k T ps rs e => show Value.pointer (some ⟨bk (hv θ' k), 0, none⟩) = _; rw [hv_loc (h _ (by simp [LV.ids]))]; rfl
  | rdn k b t d => exact hv_loc (h _ (by simp [LV.ids]))
theorem LV.ok_loc {x : LV} (h : ∀ i ∈ x.ids, θ' i = θ i) (k : x.ok P w0 J θ n) : x.ok P w0 J θ' n := by
  cases x with
  | val _ => exact k
  | nb _ => trivial
  | rd g t d => exact ⟨k.1, by rw [hv_loc (h _ (by simp [LV.ids]))]; exact k.2⟩
  | own g => exact ⟨k.1, by rw [hv_loc (h _ (by simp [LV.ids]))]; exact k.2⟩
  | ptr g off => exact k
  | fn g ps rs e => exact ⟨k.1, by rw [hv_loc (h _ (by simp [LV.ids]))]; exact k.2⟩
  | fz g T t d off => exact ⟨k.1, by rw [hv_loc (h _ (by simp [LV.ids]))]; exact k.2⟩
  | fzf g T ps rs e => exact ⟨k.1, by rw [hv_loc (h _ (by simp [LV.ids]))]; exact k.2⟩
  | rdn g b t d => exact ⟨k.1, by rw [hv_loc (h _ (by simp [LV.ids]))]; exact k.2⟩
theorem map_loc {xs : List LV} (h : ∀ i ∈ idsL xs, θ' i = θ i) : xs.map (·.v θ') = xs.map (·.v θ) := List.map_congr_left fun x hx => LV.v_loc fun i hi => h i (idsL_mem hx hi)
theorem partV_loc {y : Bool × List LV} (hy : ∀ i ∈ idsL y.2, θ' i = θ i) : partV θ' y = partV θ y := by
  unfold partV
  rw [map_loc hy]
  split
  · rfl
  · cases hl : y.2 with
    | nil => rfl
    | cons x l => exact LV.v_loc fun i hi => hy i (by rw [hl]; exact List.mem_append_left _ hi)
theorem AV.v_loc {x : AV} (h : ∀ i ∈ x.ids, θ' i = θ i) : x.v θ' = x.v θ := by
  cases x with
  | one x => exact LV.v_loc h
  | agg xs => show Value.agg _ = Value.agg _; rw [map_loc h]
  | tup ys =>
    show Value.tuple _ = Value.tuple _
    congr 2
    refine List.map_congr_left fun y hy => ?_
    exact partV_loc fun i hi => h i (idsT_mem hy hi)
  | elr k E t xs x i off => show pt (hv θ' k) _ = _; rw [hv_loc (h _ (by simp [AV.ids]))]; rfl
  | elo k ver E t xs x i off => show pt (hv θ' k) _ = _; rw [hv_loc (h _ (by simp [AV.ids]))]; rfl
  | sub k ver E t xs l => show subV (hv θ' k) _ _ _ = _; rw [hv_loc (h _ (by simp [AV.ids]))]; rfl
  | pre k ver E t xs l => show subV (hv θ' k) _ _ _ = _; rw [hv_loc (h _ (by simp [AV.ids]))]; rfl
  | vw u k kk N l m => exact hv_loc (h _ (by simp [AV.ids]))
  | xv top u k kk N l m => exact hv_loc (h _ (by simp [AV.ids]))
  | capv k c => rfl
  | any k => exact hv_loc (h _ (by simp [AV.ids]))
  | und => rfl
theorem AV.ok_loc {x : AV} (h : ∀ i ∈ x.ids, θ' i = θ i) (k : x.ok P w0 J θ n chs) : x.ok P w0 J θ' n chs := by
  cases x with
  | one x => exact LV.ok_loc h k
  | agg xs => exact fun x hx => LV.ok_loc (fun i hi => h i (idsL_mem hx hi)) (k x hx)
  | tup ys => exact fun y hy x hx => LV.ok_loc (fun i hi => h i (idsT_mem hy (idsL_mem hx hi))) (k y hy x hx)
  | elr g E t xs x i off => exact ⟨k.1, k.2.1, by rw [hv_loc (h _ (by simp [AV.ids]))]; exact k.2.2⟩
  | elo g ver E t xs x i off => exact k
  | sub g ver E t xs l => exact k
  | pre g ver E t xs l => exact k
  | vw u g kk N l m => exact ⟨k.1, k.2.1, by rw [hv_loc (h _ (by simp [AV.ids])), hv_loc (h _ (by simp [AV.ids]))]; exact k.2.2⟩
  | xv top u g kk N l m => exact ⟨k.1, k.2.1, by rw [hv_loc (h _ (by simp [AV.ids])), hv_loc (h _ (by simp [AV.ids]))]; exact k.2.2⟩
  | capv g c => exact ⟨k.1, by rw [hv_loc (h _ (by simp [AV.ids]))]; exact k.2⟩
  | any g => exact k
  | und => trivial
theorem toCh_loc {e : Ent} (h : ∀ i ∈ entIds e.1 e.2.2, θ' i = θ i) : toCh P θ' e = toCh P θ e := by
  obtain ⟨k, ver, c⟩ := e
  have hk : hv θ' k = hv θ k := hv_loc (h _ (by simp [entIds]))
  cases c with
  | own t d => show Ch.own _ [hv θ' k] d = _; rw [hk]; rfl
  | blk T cells => show Ch.blk (bk (hv θ' k)) (cells.map (·.v θ')) T = _; rw [hk, map_loc fun i hi => h i (List.mem_cons_of_mem _ hi)]; rfl
  | hole over t d u y f i kk off lv => show Ch.gap _ [hv θ' k] _ f (ptB (hv θ' k)) (ptO (hv θ' k) + (i.toNat * kk + off)) (lv.v θ') = _; rw [hk, LV.v_loc fun i hi => h i (List.mem_cons_of_mem _ hi)]; rfl
  | box T t d => show Ch.box (bk (hv θ' k)) T _ d = _; rw [hk]; rfl
  | map K E kk e m => show @Ch.mp P K E kk.den e.den kk.dec kk.lit kk.ok e.lit e.z (hv θ' k) m = _; rw [hk]; rfl
  | clo _ _ _ => rfl
theorem okE_loc {e : Ent} (h : ∀ i ∈ entIds e.1 e.2.2, θ' i = θ i) (k : okE P w0 J θ n chs e) : okE P w0 J θ' n chs e := by
  obtain ⟨g, ver, c⟩ := e
  cases c with
  | own t d => exact k
  | blk T cells => exact ⟨k.1, k.2.1, fun x hx => LV.ok_loc (fun i hi => h i (List.mem_cons_of_mem _ (idsL_mem hx hi))) (k.2.2 x hx)⟩
  | hole over t d u y f i kk off lv => exact ⟨k.1, k.2.1, LV.ok_loc (fun i hi => h i (List.mem_cons_of_mem _ hi)) k.2.2.1, k.2.2.2⟩
  | box T t d => exact k
  | map K E kk e m => exact k
  | clo f first capt =>
    obtain ⟨h1, h2, h3, h4, h5⟩ := k
    have hf : ∀ y ∈ first, ∀ i ∈ idsL y.2, θ' i = θ i := fun y hy i hi => h i (List.mem_cons_of_mem _ (List.mem_append_left _ (idsT_mem hy hi)))
    have hc : ∀ i ∈ idsL capt, θ' i = θ i := fun i hi => h i (List.mem_cons_of_mem _ (List.mem_append_right _ hi))
    refine ⟨h1, h2, fun y hy x hx => LV.ok_loc (fun i hi => hf y hy i (idsL_mem hx hi)) (h3 y hy x hx), fun x hx => LV.ok_loc (fun i hi => hc i (idsL_mem hx hi)) (h4 x hx), ?_⟩
    show hv θ' g = _
    rw [hv_loc (h _ (by simp [entIds])), map_loc hc, List.map_congr_left fun y hy => partV_loc (hf y hy)]
    exact h5
def AV.elos : AV → List (Hdr × Nat)
  | .elo h ver _ _ _ _ _ _ => [(h, ver)]
  | .sub h ver _ _ _ _ => [(h, ver)]
  | .pre h ver _ _ _ _ => [(h, ver)]
  | _ => []
def Chk.elos (ver : Nat) : Chk → List (Hdr × Nat)
  | .hole _ _ _ _ _ _ _ _ _ (.own l) => [(l, ver)]
  | _ => []
theorem LV.ok_le {x : LV} (hm : n ≤ m) (h : x.ok P w0 J θ n) : x.ok P w0 J θ m := LV.ok_same Same.rfl' hm h Hp.le.rfl
where Same.rfl' {n : Nat} {θ : Th} : Same n θ θ := fun i hi => Eq.refl _
theorem AV.ok_move {x : AV} (hn : n ≤ m) (hm : ∀ h ver c, (h, ver) ∈ x.elos → Mem chs n h ver c → ∀ e ∈ chs', ∀ c', Says e h ver c' → c' = c) (k : x.ok P w0 J θ n chs) : x.ok P w0 J θ m chs' := by
  cases x with
  | one x => exact LV.ok_le hn k
  | agg xs => exact fun x hx => LV.ok_le hn (k x hx)
  | tup ys => exact fun y hy x hx => LV.ok_le hn (k y hy x hx)
  | elr g E t xs x i off => exact ⟨Nat.lt_of_lt_of_le k.1 hn, k.2⟩
  | elo g ver E t xs x i off => exact ⟨Nat.lt_of_lt_of_le k.1 hn, k.2.1, Nat.lt_of_lt_of_le k.2.2.1 hn, hm _ _ _ (by simp [AV.elos]) k.2.2⟩
  | sub g ver E t xs l => exact ⟨Nat.lt_of_lt_of_le k.1 hn, k.2.1, Nat.lt_of_lt_of_le k.2.2.1 hn, hm _ _ _ (by simp [AV.elos]) k.2.2⟩
  | pre g ver E t xs l => exact ⟨Nat.lt_of_lt_of_le k.1 hn, k.2.1, Nat.lt_of_lt_of_le k.2.2.1 hn, hm _ _ _ (by simp [AV.elos]) k.2.2⟩
  | vw u g kk N l m => exact ⟨Nat.lt_of_lt_of_le k.1 hn, Nat.lt_of_lt_of_le k.2.1 hn, k.2.2⟩
  | xv top u g kk N l m => exact ⟨Nat.lt_of_lt_of_le k.1 hn, Nat.lt_of_lt_of_le k.2.1 hn, k.2.2⟩
  | capv g c => exact ⟨Nat.lt_of_lt_of_le k.1 hn, k.2⟩
  | any g => exact Nat.lt_of_lt_of_le k hn
  | und => trivial
theorem okE_move {e : Ent} (hn : n ≤ m) (hm : ∀ h ver c, (h, ver) ∈ e.2.2.elos e.2.1 → Mem chs n h ver c → ∀ e ∈ chs', ∀ c', Says e h ver c' → c' = c) (k : okE P w0 J θ n chs e) : okE P w0 J θ m chs' e := by
  obtain ⟨g, ver, c⟩ := e
  cases c with
  | own t d => exact ⟨Nat.lt_of_lt_of_le k.1 hn, Nat.lt_of_lt_of_le k.2.1 hn, trivial⟩
  | blk T cells => exact ⟨Nat.lt_of_lt_of_le k.1 hn, Nat.lt_of_lt_of_le k.2.1 hn, fun x hx => LV.ok_le hn (k.2.2 x hx)⟩
  | hole over t d u y f i kk off lv =>
    refine ⟨Nat.lt_of_lt_of_le k.1 hn, Nat.lt_of_lt_of_le k.2.1 hn, LV.ok_le hn k.2.2.1, k.2.2.2.1, k.2.2.2.2.1, fun l hl => ?_⟩
    have := k.2.2.2.2.2 l hl
    exact ⟨Nat.lt_of_lt_of_le this.1 hn, hm _ _ _ (by subst hl; simp [Chk.elos]) this⟩
  | box T t d => exact ⟨Nat.lt_of_lt_of_le k.1 hn, Nat.lt_of_lt_of_le k.2.1 hn, trivial⟩
  | map K E kk e m => exact ⟨Nat.lt_of_lt_of_le k.1 hn, Nat.lt_of_lt_of_le k.2.1 hn, trivial⟩
  | clo f first capt => exact ⟨Nat.lt_of_lt_of_le k.1 hn, Nat.lt_of_lt_of_le k.2.1 hn, fun y hy x hx => LV.ok_le hn (k.2.2.1 y hy x hx), fun x hx => LV.ok_le hn (k.2.2.2.1 x hx), k.2.2.2.2⟩
end

/-! ### What has been done -/
structure TR where
  i : Nat
  o : Oper
  b : List Nat
  s : Sg
  r : Res
  run : Bool
def givesOf (n0 : Nat) (x : TR) : List Ent := x.r.gives.map fun g => (g.1, n0 + x.i, g.2)
def envOf (n0 : Nat) (env : List (Nat × Nat × AV)) : List TR → List (Nat × Nat × AV)
  | [] => env
  | x :: l => putE x.o.dst (n0 + x.i) x.r.av (envOf n0 env l)
def tabOf (n0 : Nat) (chs : List Ent) : List TR → List Ent
  | [] => chs
  | x :: l => givesOf n0 x ++ tabOf n0 chs l
def sameKey (a b : Ent) : Bool := Nat.beq a.2.1 b.2.1 && Hdr.beq a.1 b.1
def usedBy (e : Ent) (l : List TR) : Bool := l.any fun x => x.r.ns.any fun e' => sameKey e' e
def inB (n0 : Nat) (b : List Nat) (v : Nat) : Bool := Nat.blt v n0 || isIn (v - n0) b
def subS (s0 : Sg) (l : List TR) (i : Nat) (b : List Nat) : Sg :=
  ⟨(envOf s0.nxt s0.env l).filter fun e => inB s0.nxt b e.2.1, (tabOf s0.nxt s0.chs l).filter fun e => inB s0.nxt b e.2.1 && !usedBy e l, s0.nxt + i⟩
def endS (s0 : Sg) (l : List TR) : Sg := subS s0 l l.length (List.range l.length)
def recAt (i : Nat) : List TR → Option TR
  | [] => none
  | x :: l => if Nat.beq x.i i then some x else recAt i l
def addN (t : Nat) (l : List Nat) : List Nat := if isIn t l then l else t :: l
def addAll : List Nat → List Nat → List Nat
  | [], acc => acc
  | t :: l, acc => addAll l (addN t acc)
def bOf (l : List TR) : List Nat → List Nat → List Nat
  | [], acc => acc
  | j :: js, acc => bOf l js (addAll (match recAt j l with | some y => y.b | none => []) (addN j acc))
def splitB {Y : Type} (g : Bool) (av : AV) (k : AV → Option Y) : Option Y := match g with
  | false => k av
  | true => match av with
    | .one (.val (.bool b)) => if b then k (.one (.val (.bool true))) else k (.one (.val (.bool false)))
    | .one (.nb b) => if b then k (.one (.val (.bool false))) else k (.one (.val (.bool true)))
    | _ => none
def isGuard (ops : List Oper) (i : Nat) : Bool := match ops with
  | [] => false
  | o :: ops => (match o.guard with | some (g, _) => Nat.beq g i | none => false) || isGuard ops i
section
variable {Y : Type} (V : Env) (ops : List Oper) (s0 : Sg) (k : List TR → Option Y)
def runD (o : Oper) (i : Nat) (l : List TR) (b : List Nat) (s : Sg) : Option Y :=
  chkT (okO V.n s o) (step V s (fun r => splitB (isGuard ops i) r.av fun av => k (⟨i, o, b, s, ⟨r.rs, r.ns, r.rest, r.gives, av⟩, true⟩ :: l)) o)
def skipD (o : Oper) (i : Nat) (l : List TR) (b : List Nat) (s : Sg) : Option Y :=
  k (⟨i, o, b, s, ⟨[], [], s.chs, [], .und⟩, false⟩ :: l)
def opD (o : Oper) (i : Nat) (l : List TR) (b : List Nat) (s : Sg) : Option Y := match o.guard with
  | none => runD V ops k o i l b s
  | some (g, want) => match recAt g l with
    | some y => match y.r.av with
      | .one (.val (.bool c)) => match c == want with
        | true => runD V ops k o i l b s
        | false => skipD k o i l b s
      | .und => skipD k o i l b s
      | _ => none
    | none => none
def goD : List Oper → Nat → List TR → Option Y
  | [], _, l => k l
  | o :: os, i, l => (fun b => opD V ops (goD os (i + 1)) o i l b (subS s0 l i b)) (bOf l (edgesOf o) [])
end
def GdOk (l : List TR) (x : TR) : Prop := match x.o.guard with
  | none => x.run = true
  | some (g, want) => ∃ y ∈ l, y.i = g ∧ ((∃ c : Bool, y.r.av = .one (.val (.bool c)) ∧ x.run = (c == want)) ∨ (y.r.av = .und ∧ x.run = false))
structure RecOk (P : Program) (w0 : World) (n : Nat) (s0 : Sg) (ops : List Oper) (l : List TR) (x : TR) : Prop where
  hi : x.i = l.length
  ho : ops[x.i]? = some x.o
  hb : x.b = bOf l (edgesOf x.o) []
  hs : x.s = subS s0 l x.i x.b
  good : x.run = true → Good P w0 x.s x.o x.r ∧ okO n x.s x.o = true
  skip : x.run = false → x.r = ⟨[], [], x.s.chs, [], .und⟩
  gd : GdOk l x
def AllOk (P : Program) (w0 : World) (n : Nat) (s0 : Sg) (ops : List Oper) : List TR → Prop
  | [] => True
  | x :: l => RecOk P w0 n s0 ops l x ∧ AllOk P w0 n s0 ops l
section
variable {Y : Type} {V : Env} {P : Program} {w0 : World} {ops : List Oper} {s0 : Sg} {k : List TR → Option Y} {res : Y}
theorem recAt_ok {i : Nat} {y : TR} : ∀ {l : List TR}, recAt i l = some y → y ∈ l ∧ y.i = i
  | x :: l, h => by
    unfold recAt at h
    split at h
    · rename_i hx
      obtain rfl := Option.some.inj h
      exact ⟨by simp, Nat.eq_of_beq_eq_true hx⟩
    · obtain ⟨h1, h2⟩ := recAt_ok h
      exact ⟨by simp [h1], h2⟩
theorem good_setav {s : Sg} {o : Oper} {r : Res} {av : AV} (h : Good P w0 s o r) (hv : ∀ θ, av.v θ = r.av.v θ) (hok : ∀ (J : Hp) (θ : Th) n chs, av.ok P w0 J θ n chs) : Good P w0 s o ⟨r.rs, r.ns, r.rest, r.gives, av⟩ :=
  ⟨h.perm, h.says, fun J θ hf => OpT.weak (h.op J θ hf) (fun v hv' => ⟨hok _ _ _ _, (hv _).trans hv'.2.1, hv'.2.2⟩) (fun v _ => rfl)⟩
theorem splitB_ok {g : Bool} {s : Sg} {o : Oper} {r : Res} {f : AV → Option Y} (h : splitB g r.av f = some res) (hG : Good P w0 s o r) : ∃ av, f av = some res ∧ Good P w0 s o ⟨r.rs, r.ns, r.rest, r.gives, av⟩ := by
  unfold splitB at h
  split at h
  · exact ⟨r.av, h, hG⟩
  · split at h
    · rename_i b hb
      cases b with
      | true => exact ⟨_, h, good_setav hG (fun θ => by rw [hb]) fun _ _ _ _ => Eq.refl true⟩
      | false => exact ⟨_, h, good_setav hG (fun θ => by rw [hb]) fun _ _ _ _ => Eq.refl true⟩
    · rename_i b hb
      cases b with
      | true => exact ⟨_, h, good_setav hG (fun θ => by rw [hb]; rfl) fun _ _ _ _ => Eq.refl true⟩
      | false => exact ⟨_, h, good_setav hG (fun θ => by rw [hb]; rfl) fun _ _ _ _ => Eq.refl true⟩
    · cases h
theorem goD_ok (hT : TTok P V.tt) (hF : FTok P V.ft) : ∀ {os : List Oper} {i : Nat} {l : List TR}, goD V ops s0 k os i l = some res → i = l.length → ops.drop i = os → AllOk P w0 V.n s0 ops l → ∃ l', k l' = some res ∧ AllOk P w0 V.n s0 ops l' ∧ l'.length = ops.length
  | [], i, l, h, hi, hd, ha => ⟨l, h, ha, by
    have h1 := List.drop_eq_nil_iff.1 hd
    have : ∀ {l : List TR}, AllOk P w0 V.n s0 ops l → l.length ≤ ops.length := by
      intro l
      induction l with
      | nil => intro _; exact Nat.zero_le _
      | cons x l ih =>
        rintro ⟨hx, hl⟩
        have := (List.getElem?_eq_some_iff.1 hx.ho).1
        rw [hx.hi] at this
        exact this
    have := this ha
    omega⟩
  | o :: os, i, l, h, hi, hd, ha => by
    have ho : ops[i]? = some o := by
      have := congrArg (·[0]?) hd
      simpa using this
    have hd' : ops.drop (i + 1) = os := by
      rw [← List.drop_drop, hd]; rfl
    have h : opD V ops (goD V ops s0 k os (i + 1)) o i l (bOf l (edgesOf o) []) (subS s0 l i (bOf l (edgesOf o) [])) = some res := h
    have run : (GdOk l ⟨i, o, bOf l (edgesOf o) [], subS s0 l i (bOf l (edgesOf o) []), ⟨[], [], [], [], .und⟩, true⟩) → runD V ops (goD V ops s0 k os (i + 1)) o i l (bOf l (edgesOf o) []) (subS s0 l i (bOf l (edgesOf o) [])) = some res → ∃ l', k l' = some res ∧ AllOk P w0 V.n s0 ops l' ∧ l'.length = ops.length := by
      intro hg h
      obtain ⟨hk, h⟩ := chkT_ok h
      obtain ⟨r, hr, hG⟩ := step_ok (w0 := w0) hT hF h
      obtain ⟨av, h, hG⟩ := splitB_ok hr hG
      exact goD_ok hT hF h (by rw [hi]; rfl) hd' ⟨⟨hi, ho, rfl, rfl, fun _ => ⟨hG, hk⟩, fun e => (by cases e), hg⟩, ha⟩
    have skp : (GdOk l ⟨i, o, bOf l (edgesOf o) [], subS s0 l i (bOf l (edgesOf o) []), ⟨[], [], [], [], .und⟩, false⟩) → skipD (goD V ops s0 k os (i + 1)) o i l (bOf l (edgesOf o) []) (subS s0 l i (bOf l (edgesOf o) [])) = some res → ∃ l', k l' = some res ∧ AllOk P w0 V.n s0 ops l' ∧ l'.length = ops.length := by
      intro hg h
      exact goD_ok hT hF h (by rw [hi]; rfl) hd' ⟨⟨hi, ho, rfl, rfl, fun e => (by cases e), fun _ => rfl, hg⟩, ha⟩
    unfold opD at h
    split at h
    · rename_i hg
      exact run (by unfold GdOk; simp only [hg]) h
    · rename_i g want hg
      split at h
      · rename_i y hy
        obtain ⟨hy1, hy2⟩ := recAt_ok hy
        split at h
        · rename_i c hc
          split at h
          · rename_i hcw
            exact run (by unfold GdOk; simp only [hg]; exact ⟨y, hy1, hy2, .inl ⟨c, hc, hcw.symm⟩⟩) h
          · rename_i hcw
            exact skp (by unfold GdOk; simp only [hg]; exact ⟨y, hy1, hy2, .inl ⟨c, hc, hcw.symm⟩⟩) h
        · rename_i hc
          exact skp (by unfold GdOk; simp only [hg]; exact ⟨y, hy1, hy2, .inr ⟨hc, trivial⟩⟩) h
        · cases h
      · cases h
end
end Go.Proofs.YtfkjjnddefojjaaGreatDoor.R
/- A drawn region, run on states: the plan, and that it serves. No program text is named here. -/
set_option linter.unusedVariables false
set_option linter.unusedSimpArgs false
set_option linter.unnecessarySimpa false
set_option linter.unusedSectionVars false
namespace Go.Proofs.YtfkjjnddefojjaaGreatDoor.R
open Go.RowKit
open Go.Proofs.YtfkjjnddefojjaaGreatDoor.D

def verOf (l : List (Nat × Nat × AV)) (t : Nat) : Option Nat := match l with
  | [] => none
  | (u, k, _) :: l => if Nat.beq u t then some k else verOf l t
def numOf (e : Ent) : List Ent → Nat
  | [] => 0
  | x :: l => if sameKey x e then 0 else numOf e l + 1
def opOf (n0 v : Nat) : Option Nat := if Nat.blt v n0 then none else some (v - n0)
def srcsOf (n0 : Nat) (env : List (Nat × Nat × AV)) : List Nat → List (Nat × Option Nat)
  | [] => []
  | t :: l => match verOf env t with
    | some v => (t, opOf n0 v) :: srcsOf n0 env l
    | none => srcsOf n0 env l
def opK (n0 : Nat) (T : List Ent) (ops : Array Oper) (x : TR) : OpK := ⟨x.r.rs.map (numOf · T), x.r.ns.map (numOf · T), (givesOf n0 x).map (numOf · T), srcsOf n0 x.s.env (slotsOf ops x.o)⟩
def finOf (n0 : Nat) : List (Nat × Nat × AV) → List Nat → List (Nat × Option Nat)
  | [], _ => []
  | e :: l, seen => match isIn e.1 seen with
    | true => finOf n0 l seen
    | false => (e.1, opOf n0 e.2.1) :: finOf n0 l (e.1 :: seen)
def skelOf (s0 : Sg) (ops : List Oper) (l : List TR) (T : List Ent) : Skel :=
  ⟨(l.map (opK s0.nxt T ops.toArray)).reverse, T.length, s0.chs.map (numOf · T), (l.map (·.b)).reverse, finOf s0.nxt (endS s0 l).env [], (endS s0 l).chs.map (numOf · T)⟩
def distinctK : List Ent → Bool
  | [] => true
  | e :: l => !(l.any fun x => sameKey x e) && distinctK l
def distinctB : List Ent → Bool
  | [] => true
  | e :: l => noHdr e.1 l && distinctB l
def saysK (h : Hdr) (ver : Nat) (e : Ent) : Bool := Hdr.beq e.1 h && (Nat.beq e.2.1 ver || match e.2.2 with
  | .hole over _ _ _ _ _ _ _ _ _ => Nat.beq over ver
  | _ => false)
def allowed (n0 : Nat) (x : TR) (v : Nat) : Bool := Nat.blt v n0 || (Nat.beq (v - n0) x.i || isIn (v - n0) x.b)
def elosOf (n0 : Nat) (x : TR) : List (Hdr × Nat) := x.r.av.elos ++ x.r.gives.flatMap fun g => g.2.elos (n0 + x.i)
def idsOf (x : TR) : List Nat := x.r.av.ids ++ x.r.gives.flatMap fun g => entIds g.1 g.2
def recChk (n0 : Nat) (x : TR) : Bool := allN (idsOf x) (allowed n0 x) && (elosOf n0 x).all fun q => (x.r.chs (n0 + x.i)).any (saysK q.1 q.2) || (Nat.beq q.2 (n0 + x.i) && !(x.r.gives.any fun g => Hdr.beq g.1 q.1))
def knS (s0 : Sg) (t : Nat) : Bool := (look s0.env t).isSome
def planOk (n : Nat) (s0 : Sg) (ops : List Oper) (l : List TR) (T : List Ent) : Bool := distinctB s0.chs && (distinctK T && (l.all (recChk s0.nxt) && ((skelOf s0 ops l T).ok n (knS s0) ops && (skelOf s0 ops l T).okB (knS s0) ops)))
section
variable {Y : Type} (V : Env)
def allHdrs (s0 : Sg) : List Oper → List Hdr
  | [] => []
  | o :: os => hdrsOf s0 o.op.operands.toList ++ allHdrs s0 os
def drawS0 (ops : List Oper) (k : Sg → Option Y) (s0 : Sg) : Option Y := goD V ops s0 (fun l => chkT (planOk V.n s0 ops l (tabOf s0.nxt s0.chs l)) (k (endS s0 l))) ops 0 []
def allFrz (tr : Trs) (s0 : Sg) : List Oper → List (Bool × Hdr)
  | [] => []
  | o :: os => ldF tr s0 o ++ (kptF tr s0 o ++ allFrz tr s0 os)
def prepFD (tr : Trs) (ops : List Oper) (s : Sg) : Sg := match tr with
  | [] => s
  | _ => frzL tr (allFrz tr s ops) s
def isIdx (o : Oper) : Bool := match o.op with
  | .indexAddr _ _ _ => true
  | _ => false
def isApp (o : Oper) : Bool := match o.op with
  | .buildSlice _ _ _ => true
  | _ => false
def bagH (s : Sg) : List Oper → List Hdr
  | [] => []
  | o :: os => match o.op with
    | .move x => match opd s x with
      | some (.one (.own h)) => h :: bagH s os
      | _ => bagH s os
    | _ => bagH s os
def frzBags : List Hdr → Sg → Sg
  | [], s => s
  | h :: hs, s => frzBags hs (frzBagS h s)
def prepBD (ops : List Oper) (s : Sg) : Sg := match ops.any isIdx && !ops.any isApp with
  | true => frzBags (bagH s ops) s
  | false => s
def prepD (tr : Trs) (ops : List Oper) (s0 : Sg) : Sg := match prepBD ops (openA s0) with
  | s => prepFD tr ops (prepL (allHdrs s ops) s)
def drawS (ops : List Oper) (k : Sg → Option Y) (s : Sg) : Option Y := drawS0 V ops k (prepD V.tr ops s)
end

/-! ### That it serves -/
theorem sameKey_ok {a b : Ent} : sameKey a b = true ↔ a.2.1 = b.2.1 ∧ a.1 = b.1 := by
  unfold sameKey
  rw [Bool.and_eq_true, nbeq]
  constructor
  · rintro ⟨h1, h2⟩; exact ⟨h1, Hdr.beq_eq h2⟩
  · rintro ⟨h1, h2⟩; exact ⟨h1, by rw [h2]; exact hdr_refl _⟩
theorem distinctK_ok {l : List Ent} : distinctK l = true → ∀ a ∈ l, ∀ b ∈ l, a.2.1 = b.2.1 → a.1 = b.1 → a = b := by
  induction l with
  | nil => intro _ a ha; cases ha
  | cons e l ih =>
    intro h a ha b hb
    unfold distinctK at h
    rw [Bool.and_eq_true, Bool.not_eq_true'] at h
    obtain ⟨h1, h2⟩ := h
    have key : ∀ x ∈ l, ¬ (x.2.1 = e.2.1 ∧ x.1 = e.1) := fun x hx hk => by
      have : (l.any fun x => sameKey x e) = true := List.any_eq_true.2 ⟨x, hx, sameKey_ok.2 hk⟩
      rw [h1] at this; cases this
    intro k1 k2
    rcases List.mem_cons.1 ha with ha' | ha'
    · rcases List.mem_cons.1 hb with hb' | hb'
      · rw [ha', hb']
      · rw [ha'] at k1 k2; exact absurd ⟨k1.symm, k2.symm⟩ (key b hb')
    · rcases List.mem_cons.1 hb with hb' | hb'
      · rw [hb'] at k1 k2; exact absurd ⟨k1, k2⟩ (key a ha')
      · exact ih h2 a ha' b hb' k1 k2
theorem distinctB_ok {l : List Ent} : distinctB l = true → ∀ a ∈ l, ∀ b ∈ l, a.1 = b.1 → a = b := by
  induction l with
  | nil => intro _ a ha; cases ha
  | cons e l ih =>
    intro h a ha b hb
    unfold distinctB at h
    rw [Bool.and_eq_true] at h
    obtain ⟨h1, h2⟩ := h
    intro k
    rcases List.mem_cons.1 ha with ha' | ha'
    · rcases List.mem_cons.1 hb with hb' | hb'
      · rw [ha', hb']
      · rw [ha'] at k; exact absurd k.symm (noHdr_ok h1 hb')
    · rcases List.mem_cons.1 hb with hb' | hb'
      · rw [hb'] at k; exact absurd k (noHdr_ok h1 ha')
      · exact ih h2 a ha' b hb' k
theorem numOf_ok {e : Ent} : ∀ {T : List Ent}, distinctK T = true → e ∈ T → T[numOf e T]? = some e
  | x :: T, hd, he => by
    unfold numOf
    split
    · rename_i hk
      obtain ⟨k1, k2⟩ := sameKey_ok.1 hk
      exact congrArg some (distinctK_ok hd x (by simp) e he k1 k2)
    · rename_i hk
      have hd' := hd
      unfold distinctK at hd'
      rw [Bool.and_eq_true] at hd'
      rcases List.mem_cons.1 he with rfl | he
      · exact absurd (sameKey_ok.2 ⟨rfl, rfl⟩) hk
      · exact numOf_ok hd'.2 he
theorem saysK_ok {h : Hdr} {ver : Nat} {e : Ent} (k : saysK h ver e = true) : ∃ c, Says e h ver c := by
  unfold saysK at k
  rw [Bool.and_eq_true, Bool.or_eq_true] at k
  obtain ⟨h1, h2⟩ := k
  have h1 := Hdr.beq_eq h1
  obtain ⟨g, v, c⟩ := e
  rcases h2 with h2 | h2
  · exact ⟨c, h1, .inl ⟨Nat.eq_of_beq_eq_true h2, rfl⟩⟩
  · cases c with
    | hole over t d u y f i kk off lv => exact ⟨.own t d, h1, .inr ⟨Nat.eq_of_beq_eq_true h2, rfl⟩⟩
    | _ => cases h2
section
variable {P : Program} {w0 : World} {n : Nat} {s0 : Sg} {ops : List Oper} {l : List TR}
theorem AllOk.lt : AllOk P w0 n s0 ops l → ∀ y ∈ l, y.i < l.length := by
  induction l with
  | nil => intro _ y hy; cases hy
  | cons w l ih =>
    rintro ⟨e1, e2⟩ y hy
    rcases List.mem_cons.1 hy with rfl | hy
    · rw [e1.hi, List.length_cons]; omega
    · have := ih e2 y hy
      rw [List.length_cons]; omega
theorem AllOk.uniq : AllOk P w0 n s0 ops l → ∀ x ∈ l, ∀ y ∈ l, x.i = y.i → x = y := by
  induction l with
  | nil => intro _ y hy; cases hy
  | cons w l ih =>
    rintro ⟨e1, e2⟩ x hx y hy h
    have hw := e1.hi
    rcases List.mem_cons.1 hx with hx | hx
    · rcases List.mem_cons.1 hy with hy | hy
      · rw [hx, hy]
      · have := e2.lt y hy
        rw [hx] at h; omega
    · rcases List.mem_cons.1 hy with hy | hy
      · have := e2.lt x hx
        rw [hy] at h; omega
      · exact ih e2 x hx y hy h
theorem AllOk.get {x : TR} : AllOk P w0 n s0 ops l → x ∈ l → ∃ l1, RecOk P w0 n s0 ops l1 x ∧ AllOk P w0 n s0 ops l1 ∧ (∀ y ∈ l1, y ∈ l) ∧ ∀ y ∈ l, y.i < x.i → y ∈ l1 := by
  induction l with
  | nil => intro _ hx; cases hx
  | cons z l ih =>
    rintro ⟨h1, h2⟩ hx
    rcases List.mem_cons.1 hx with hx | hx
    · subst hx
      exact ⟨l, h1, h2, fun y hy => by simp [hy], fun y hy hlt => by
        rcases List.mem_cons.1 hy with hy | hy
        · rw [hy] at hlt; exact absurd hlt (Nat.lt_irrefl _)
        · exact hy⟩
    · obtain ⟨l1, k1, k2, k3, k4⟩ := ih h2 hx
      refine ⟨l1, k1, k2, fun y hy => by simp [k3 y hy], fun y hy hlt => ?_⟩
      rcases List.mem_cons.1 hy with hy | hy
      · exfalso
        have h3 := h2.lt x hx
        have h4 := h1.hi
        rw [hy] at hlt
        omega
      · exact k4 y hy hlt
theorem AllOk.at {α : Type} (f : TR → α) : AllOk P w0 n s0 ops l → ∀ i, i < l.length → ∃ x ∈ l, x.i = i ∧ (l.map f).reverse[i]? = some (f x) := by
  induction l with
  | nil => intro _ i hi; cases hi
  | cons w l ih =>
    rintro ⟨e1, e2⟩ i hi
    rw [List.map_cons, List.reverse_cons]
    by_cases h : i < l.length
    · obtain ⟨x, hx, h1, h2⟩ := ih e2 i h
      exact ⟨x, by simp [hx], h1, by rw [List.getElem?_append_left (by simpa using h)]; exact h2⟩
    · have h3 : i = l.length := by rw [List.length_cons] at hi; omega
      subst h3
      refine ⟨w, by simp, e1.hi, ?_⟩
      rw [List.getElem?_append_right (by simp)]; simp
theorem AllOk.opAt (ha : AllOk P w0 n s0 ops l) {x : TR} (hx : x ∈ l) (T : List Ent) : (skelOf s0 ops l T).op x.i = opK s0.nxt T ops.toArray x ∧ (skelOf s0 ops l T).before x.i = x.b := by
  have hlt := ha.lt x hx
  obtain ⟨y, hy, h1, h2⟩ := ha.at (opK s0.nxt T ops.toArray) x.i hlt
  obtain ⟨z, hz, h3, h4⟩ := ha.at (·.b) x.i hlt
  obtain rfl := ha.uniq y hy x hx h1
  obtain rfl := ha.uniq z hz y hx h3
  constructor
  · show (l.map (opK s0.nxt T ops.toArray)).reverse.getD z.i _ = _
    rw [List.getD_eq_getElem?_getD, h2]; rfl
  · show (l.map (·.b)).reverse.getD z.i [] = _
    rw [List.getD_eq_getElem?_getD, h4]; rfl
theorem tab_mem {n0 : Nat} {chs : List Ent} {e : Ent} : ∀ {l : List TR}, e ∈ tabOf n0 chs l ↔ e ∈ chs ∨ ∃ x ∈ l, e ∈ givesOf n0 x
  | [] => by simp [tabOf]
  | y :: l => by
    unfold tabOf
    rw [List.mem_append, tab_mem (l := l)]
    constructor
    · rintro (h | h | ⟨x, hx, h⟩)
      · exact .inr ⟨y, by simp, h⟩
      · exact .inl h
      · exact .inr ⟨x, by simp [hx], h⟩
    · rintro (h | ⟨x, hx, h⟩)
      · exact .inr (.inl h)
      · rcases List.mem_cons.1 hx with rfl | hx
        · exact .inl h
        · exact .inr (.inr ⟨x, hx, h⟩)
theorem gives_ver {n0 : Nat} {x : TR} {e : Ent} (h : e ∈ givesOf n0 x) : e.2.1 = n0 + x.i ∧ (e.1, e.2.2) ∈ x.r.gives := by
  obtain ⟨g, hg, rfl⟩ := List.mem_map.1 h
  exact ⟨rfl, hg⟩
theorem env_mem {n0 : Nat} {env : List (Nat × Nat × AV)} {e : Nat × Nat × AV} : ∀ {l : List TR}, e ∈ envOf n0 env l → e ∈ env ∨ ∃ x ∈ l, x.o.dst = some e.1 ∧ e.2.1 = n0 + x.i ∧ e.2.2 = x.r.av
  | [], h => .inl h
  | y :: l, h => by
    unfold envOf putE at h
    split at h
    · rename_i d hd
      rcases List.mem_cons.1 h with rfl | h
      · exact .inr ⟨y, by simp, hd, rfl, rfl⟩
      · exact (env_mem h).imp id fun ⟨x, hx, k⟩ => ⟨x, by simp [hx], k⟩
    · exact (env_mem h).imp id fun ⟨x, hx, k⟩ => ⟨x, by simp [hx], k⟩
theorem inB_ok {n0 : Nat} {b : List Nat} {v : Nat} : inB n0 b v = true ↔ v < n0 ∨ v - n0 ∈ b := by unfold inB; rw [Bool.or_eq_true, nblt, isIn_ok]
theorem sub_chs {i : Nat} {b : List Nat} {e : Ent} (h : e ∈ (subS s0 l i b).chs) : e ∈ tabOf s0.nxt s0.chs l ∧ (e.2.1 < s0.nxt ∨ e.2.1 - s0.nxt ∈ b) := by
  obtain ⟨h1, h2⟩ := List.mem_filter.1 h
  rw [Bool.and_eq_true] at h2
  exact ⟨h1, inB_ok.1 h2.1⟩
theorem sub_env {i : Nat} {b : List Nat} {e : Nat × Nat × AV} (h : e ∈ (subS s0 l i b).env) : e ∈ envOf s0.nxt s0.env l ∧ (e.2.1 < s0.nxt ∨ e.2.1 - s0.nxt ∈ b) := by
  obtain ⟨h1, h2⟩ := List.mem_filter.1 h
  exact ⟨h1, inB_ok.1 h2⟩
def thOf (θ : Th) (n0 : Nat) (vs : Nat → Value) : Th := fun id => if id < n0 then θ id else vs (id - n0)
theorem thOf_same {θ : Th} {n0 : Nat} {vs : Nat → Value} : Same n0 θ (thOf θ n0 vs) := fun i hi => if_pos hi
theorem thOf_upd {θ : Th} {n0 i : Nat} {vs : Nat → Value} {v : Value} : thOf θ n0 (upd vs i v) = upd (thOf θ n0 vs) (n0 + i) v := by
  funext id
  show (if id < n0 then θ id else if id - n0 = i then v else vs (id - n0)) = if id = n0 + i then v else if id < n0 then θ id else vs (id - n0)
  by_cases h : id < n0
  · rw [if_pos h, if_neg (show ¬ id = n0 + i by omega), if_pos h]
  · rw [if_neg h]
    by_cases h2 : id = n0 + i
    · rw [if_pos h2, if_pos (show id - n0 = i by omega)]
    · rw [if_neg h2, if_neg h, if_neg (show ¬ id - n0 = i by omega)]
def RawF (P : Program) (w0 : World) (J : Hp) (θ : Th) (n0 : Nat) (x : TR) (v : Value) : Prop :=
  x.r.av.ok P w0 J θ (n0 + x.i + 1) (x.r.chs (n0 + x.i)) ∧ x.r.av.v θ = v ∧ ∀ g ∈ x.r.gives, okE P w0 J θ (n0 + x.i + 1) (x.r.chs (n0 + x.i)) (g.1, n0 + x.i, g.2)
end
section
variable {P : Program} {w0 : World} {n : Nat} {s0 : Sg} {ops : List Oper} {l : List TR} {J : Hp} {θ : Th} {vs : Nat → Value}
def Orig (s0 : Sg) (l : List TR) (h : Hdr) (ver : Nat) (c : Chk) : Prop := (∃ e0 ∈ s0.chs, Says e0 h ver c) ∨ ∃ x ∈ l, (h, ver, c) ∈ givesOf s0.nxt x
theorem says_lt {e : Ent} {h : Hdr} {ver : Nat} {c : Chk} {chs : List Ent} {m : Nat} (k : okE P w0 J θ m chs e) (hs : Says e h ver c) : ver < m := by
  obtain ⟨g, v, x⟩ := e
  obtain ⟨-, hs⟩ := hs
  rcases hs with ⟨h1, -⟩ | hs
  · rw [← h1]; exact k.2.1
  · cases x with
    | hole over t d u y f i kk off lv =>
      rw [← hs.1]
      exact Nat.lt_trans k.2.2.2.1 k.2.1
    | _ => exact hs.elim
theorem orig_fn (hB : distinctB s0.chs = true) (hK : distinctK (tabOf s0.nxt s0.chs l) = true) (hf : Fine P w0 J θ s0) {h : Hdr} {ver : Nat} {c c' : Chk} (h1 : Orig s0 l h ver c) (h2 : Orig s0 l h ver c') : c = c' := by
  have base : ∀ e1 ∈ s0.chs, ∀ e2 ∈ s0.chs, ∀ c c', Says e1 h ver c → Says e2 h ver c' → c = c' := by
    intro e1 he1 e2 he2 c c' k1 k2
    obtain rfl := distinctB_ok hB e1 he1 e2 he2 (k1.1.trans k2.1.symm)
    have hok := hf.chs e1 he1
    obtain ⟨g, v, x⟩ := e1
    rcases k1.2 with ⟨a1, a2⟩ | a
    · rcases k2.2 with ⟨b1, b2⟩ | b
      · rw [a2, b2]
      · cases x with
        | hole over t d u y f i kk off lv =>
          have := hok.2.2.2.1
          have e1 : v = ver := a1
          have e2 : over = ver := b.1
          exfalso
          have : over < v := this
          omega
        | _ => exact b.elim
    · rcases k2.2 with ⟨b1, b2⟩ | b
      · cases x with
        | hole over t d u y f i kk off lv =>
          have := hok.2.2.2.1
          have e1 : v = ver := b1
          have e2 : over = ver := a.1
          exfalso
          have : over < v := this
          omega
        | _ => exact a.elim
      · cases x with
        | hole over t d u y f i kk off lv => rw [a.2, b.2]
        | _ => exact a.elim
  rcases h1 with ⟨e1, he1, k1⟩ | ⟨x, hx, k1⟩
  · rcases h2 with ⟨e2, he2, k2⟩ | ⟨y, hy, k2⟩
    · exact base e1 he1 e2 he2 c c' k1 k2
    · have := says_lt (hf.chs e1 he1) k1
      have := (gives_ver k2).1
      exfalso; simp only at this; omega
  · rcases h2 with ⟨e2, he2, k2⟩ | ⟨y, hy, k2⟩
    · have := says_lt (hf.chs e2 he2) k2
      have := (gives_ver k1).1
      exfalso; simp only at this; omega
    · have := distinctK_ok hK _ (tab_mem.2 (.inr ⟨x, hx, k1⟩)) _ (tab_mem.2 (.inr ⟨y, hy, k2⟩)) rfl rfl
      exact congrArg (fun e => e.2.2) this
theorem fine_sub (hB : distinctB s0.chs = true) (hK : distinctK (tabOf s0.nxt s0.chs l) = true) (hf : Fine P w0 J θ s0) (ha : AllOk P w0 n s0 ops l) (hc : ∀ x ∈ l, recChk s0.nxt x = true)
    (L1 : List TR) (hL : ∀ y ∈ L1, y ∈ l) (b : List Nat) (i : Nat) (hbi : ∀ j ∈ b, j < i)
    (hfact : ∀ y ∈ l, y.i ∈ b → RawF P w0 J (thOf θ s0.nxt vs) s0.nxt y (vs y.i))
    (horig : ∀ y ∈ l, y.i ∈ b → ∀ e ∈ givesOf s0.nxt y, ∀ h ver c, Says e h ver c → Orig s0 l h ver c)
    (hback : ∀ y ∈ l, y.i ∈ b → ∀ e ∈ y.r.chs (s0.nxt + y.i), ∀ h ver c, Says e h ver c → Orig s0 l h ver c)
    (hnd : (envOf s0.nxt s0.env L1).Pairwise fun a b => a.2.1 ≠ b.2.1) : Fine P w0 J (thOf θ s0.nxt vs) (subS s0 L1 i b) := by
  have own : ∀ e ∈ (subS s0 L1 i b).chs, ∀ h ver c, Says e h ver c → Orig s0 l h ver c := by
    intro e he h ver c hs
    obtain ⟨h1, h2⟩ := sub_chs he
    rcases tab_mem.1 h1 with h1 | ⟨y, hy, h1⟩
    · exact .inl ⟨e, h1, hs⟩
    · have hv := (gives_ver h1).1
      rcases h2 with h2 | h2
      · omega
      · exact horig y (hL y hy) (by rw [hv, Nat.add_sub_cancel_left] at h2; exact h2) e h1 h ver c hs
  have mem0 : ∀ h ver c, Mem s0.chs s0.nxt h ver c → ∀ e ∈ (subS s0 L1 i b).chs, ∀ c', Says e h ver c' → c' = c := by
    intro h ver c hm e he c' hs
    rcases own e he h ver c' hs with ⟨e0, he0, k⟩ | ⟨y, hy, k⟩
    · exact hm.2 e0 he0 c' k
    · have := (gives_ver k).1
      have := hm.1
      exfalso; simp only at *; omega
  have memj : ∀ y ∈ l, y.i ∈ b → ∀ h ver, (h, ver) ∈ elosOf s0.nxt y → ∀ c, Mem (y.r.chs (s0.nxt + y.i)) (s0.nxt + y.i + 1) h ver c → ∀ e ∈ (subS s0 L1 i b).chs, ∀ c', Says e h ver c' → c' = c := by
    intro y hy hyb h ver hel c hm e he c' hs
    have hch := hc y hy
    unfold recChk at hch
    rw [Bool.and_eq_true] at hch
    have := (List.all_eq_true.1 hch.2) (h, ver) hel
    rcases Bool.or_eq_true_iff.1 this with this | this
    rotate_left
    · rw [Bool.and_eq_true, Bool.not_eq_true'] at this
      have hver : ver = s0.nxt + y.i := Nat.eq_of_beq_eq_true this.1
      rcases own e he h ver c' hs with ⟨e0, he0, k⟩ | ⟨z, hz, k⟩
      · have := says_lt (hf.chs e0 he0) k
        omega
      · obtain ⟨k1, k2⟩ := gives_ver k
        have k1 : ver = s0.nxt + z.i := k1
        obtain rfl := AllOk.uniq ha z hz y hy (by omega)
        have : (z.r.gives.any fun g => Hdr.beq g.1 h) = true := List.any_eq_true.2 ⟨_, k2, hdr_refl h⟩
        simp_all
    obtain ⟨e1, he1, hk⟩ := List.any_eq_true.1 this
    obtain ⟨c1, hs1⟩ := saysK_ok hk
    have hc1 := hm.2 e1 he1 c1 hs1
    subst hc1
    exact orig_fn hB hK hf (own e he h ver c' hs) (hback y hy hyb e1 he1 h ver c1 hs1)
  refine ⟨fun e he => ?_, fun e he => ?_, List.Pairwise.filter _ hnd, fun e he => ?_, hf.lay⟩
  · obtain ⟨h1, h2⟩ := sub_env he
    rcases env_mem h1 with h1 | ⟨y, hy, k1, k2, k3⟩
    · have := hf.env e h1
      refine AV.ok_move (n := s0.nxt) (Nat.le_add_right _ _) (fun h ver c _ hm => mem0 h ver c hm) ?_
      exact AV.ok_same thOf_same (Nat.le_refl _) Newer.rfl this Hp.le.rfl
    · rcases h2 with h2 | h2
      · omega
      · have hyb : y.i ∈ b := by rw [k2, Nat.add_sub_cancel_left] at h2; exact h2
        have hr := hfact y (hL y hy) hyb
        have := hbi _ hyb
        rw [k3]
        refine AV.ok_move (n := s0.nxt + y.i + 1) (by show s0.nxt + y.i + 1 ≤ s0.nxt + i; omega) (fun h ver c hel hm => memj y (hL y hy) hyb h ver (List.mem_append_left _ hel) c hm) hr.1
  · obtain ⟨h1, h2⟩ := sub_env he
    rcases env_mem h1 with h1 | ⟨y, hy, k1, k2, k3⟩
    · exact Nat.lt_of_lt_of_le (hf.ver e h1) (Nat.le_add_right _ _)
    · rcases h2 with h2 | h2
      · omega
      · have := hbi _ h2
        show e.2.1 < s0.nxt + i
        omega
  · obtain ⟨h1, h2⟩ := sub_chs he
    rcases tab_mem.1 h1 with h1 | ⟨y, hy, h1⟩
    · refine okE_move (n := s0.nxt) (Nat.le_add_right _ _) (fun h ver c _ hm => mem0 h ver c hm) ?_
      exact okE_same thOf_same (Nat.le_refl _) Newer.rfl (hf.chs e h1) Hp.le.rfl
    · obtain ⟨hv, hg⟩ := gives_ver h1
      rcases h2 with h2 | h2
      · omega
      · have hyb : y.i ∈ b := by rw [hv, Nat.add_sub_cancel_left] at h2; exact h2
        have hr := hfact y (hL y hy) hyb
        have := hbi _ hyb
        have hk := hr.2.2 _ hg
        have he2 : e = (e.1, s0.nxt + y.i, e.2.2) := by rw [← hv]
        rw [he2]
        refine okE_move (n := s0.nxt + y.i + 1) (by show s0.nxt + y.i + 1 ≤ s0.nxt + i; omega) (fun h ver c hel hm => ?_) hk
        exact memj y (hL y hy) hyb h ver (List.mem_append_right _ (List.mem_flatMap.2 ⟨_, hg, hel⟩)) c hm
end
end Go.Proofs.YtfkjjnddefojjaaGreatDoor.R
/- A drawn region, run on states: the words of the plan hold. No program text is named here. -/
set_option linter.unusedVariables false
set_option linter.unusedSimpArgs false
set_option linter.unnecessarySimpa false
set_option linter.unusedSectionVars false
namespace Go.Proofs.YtfkjjnddefojjaaGreatDoor.R
open Go.RowKit
open Go.Proofs.YtfkjjnddefojjaaGreatDoor.D

theorem addN_ok {t j : Nat} {l : List Nat} : j ∈ addN t l ↔ j = t ∨ j ∈ l := by
  unfold addN
  split
  · rename_i h
    have := isIn_ok.1 h
    constructor
    · exact fun h => .inr h
    · rintro (rfl | h)
      · exact this
      · exact h
  · exact List.mem_cons
theorem addAll_ok {j : Nat} : ∀ {l acc : List Nat}, j ∈ addAll l acc ↔ j ∈ l ∨ j ∈ acc
  | [], acc => by simp [addAll]
  | t :: l, acc => by
    unfold addAll
    rw [addAll_ok (l := l), addN_ok, List.mem_cons]
    constructor
    · rintro (h | h | h) <;> simp [h]
    · rintro ((h | h) | h) <;> simp [h]
def bAt (l : List TR) (k : Nat) : List Nat := match recAt k l with
  | some y => y.b
  | none => []
theorem bOf_ok {l : List TR} {j : Nat} : ∀ {js acc : List Nat}, j ∈ bOf l js acc ↔ j ∈ acc ∨ ∃ k ∈ js, j = k ∨ j ∈ bAt l k
  | [], acc => by simp [bOf]
  | k :: js, acc => by
    unfold bOf
    rw [bOf_ok (js := js), addAll_ok, addN_ok]
    show (j ∈ bAt l k ∨ j = k ∨ j ∈ acc) ∨ _ ↔ _
    constructor
    · rintro ((h | h | h) | ⟨k', hk, h⟩)
      · exact .inr ⟨k, by simp, .inr h⟩
      · exact .inr ⟨k, by simp, .inl h⟩
      · exact .inl h
      · exact .inr ⟨k', by simp [hk], h⟩
    · rintro (h | ⟨k', hk, h⟩)
      · exact .inl (.inr (.inr h))
      · rcases List.mem_cons.1 hk with hk | hk
        · subst hk
          rcases h with h | h
          · exact .inl (.inr (.inl h))
          · exact .inl (.inl h)
        · exact .inr ⟨k', hk, h⟩
theorem recAt_some {y : TR} : ∀ {l : List TR}, y ∈ l → ∃ z, recAt y.i l = some z
  | x :: l, h => by
    unfold recAt
    split
    · exact ⟨_, rfl⟩
    · rename_i hx
      rcases List.mem_cons.1 h with h | h
      · rw [h] at hx; exact absurd (Nat.beq_refl _) hx
      · exact recAt_some h
section
variable {P : Program} {w0 : World} {n : Nat} {s0 : Sg} {ops : List Oper} {l : List TR} {J : Hp} {θ : Th} {vs : Nat → Value}
theorem AllOk.closed (ha : AllOk P w0 n s0 ops l) (hlt : ∀ x ∈ l, ∀ j ∈ x.b, j < x.i) : ∀ x ∈ l, ∀ y ∈ l, y.i ∈ x.b → ∀ k ∈ y.b, k ∈ x.b := by
  have main : ∀ m, ∀ x ∈ l, x.i = m → ∀ y ∈ l, y.i ∈ x.b → ∀ k ∈ y.b, k ∈ x.b := by
    intro m
    induction m using Nat.strongRecOn with
    | _ m ih =>
      intro x hx hxm y hy hyb k hk
      obtain ⟨l1, h1, h2, h3, h4⟩ := ha.get hx
      have hyl := hlt x hx _ hyb
      have hy1 := h4 y hy hyl
      rw [h1.hb, bOf_ok] at hyb ⊢
      rcases hyb with hyb | ⟨q, hq, hyb | hyb⟩
      · cases hyb
      · refine .inr ⟨q, hq, .inr ?_⟩
        subst hyb
        obtain ⟨z, hz⟩ := recAt_some hy1
        unfold bAt
        rw [hz]
        obtain ⟨hz1, hz2⟩ := recAt_ok hz
        obtain rfl := ha.uniq z (h3 z hz1) y hy hz2
        exact hk
      · refine .inr ⟨q, hq, .inr ?_⟩
        unfold bAt at hyb ⊢
        split at hyb
        · rename_i z hz
          obtain ⟨hz1, hz2⟩ := recAt_ok hz
          have hzl := h2.lt z hz1
          rw [← h1.hi] at hzl
          exact ih z.i (by omega) z (h3 z hz1) rfl y hy hyb k hk
        · cases hyb
  exact fun x hx => main x.i x hx rfl
theorem env_nd (hf : Fine P w0 J θ s0) : AllOk P w0 n s0 ops l → (envOf s0.nxt s0.env l).Pairwise fun a b => a.2.1 ≠ b.2.1 := by
  induction l with
  | nil => intro _; exact hf.nd
  | cons x l ih =>
    rintro ⟨h1, h2⟩
    refine nd_go x.o.dst (ih h2) fun e he => ?_
    rcases env_mem he with h | ⟨y, hy, k1, k2, k3⟩
    · have := hf.ver e h; omega
    · have := h2.lt y hy
      have := h1.hi
      omega
where nd_go {env : List (Nat × Nat × AV)} {k : Nat} {av : AV} (d : Option Nat) (h : env.Pairwise fun a b => a.2.1 ≠ b.2.1) (hv : ∀ e ∈ env, e.2.1 < k) : (putE d k av env).Pairwise fun a b => a.2.1 ≠ b.2.1 := nd_put h hv
theorem words (hB : distinctB s0.chs = true) (hK : distinctK (tabOf s0.nxt s0.chs l) = true) (hf : Fine P w0 J θ s0) (ha : AllOk P w0 n s0 ops l) (hc : ∀ x ∈ l, recChk s0.nxt x = true) (hlt : ∀ x ∈ l, ∀ j ∈ x.b, j < x.i)
    (B : List Nat) (hcl : ∀ y ∈ l, y.i ∈ B → ∀ k ∈ y.b, k ∈ B) (hfact : ∀ y ∈ l, y.i ∈ B → RawF P w0 J (thOf θ s0.nxt vs) s0.nxt y (vs y.i)) :
    ∀ x ∈ l, (∀ k ∈ x.b, k ∈ B) → Fine P w0 J (thOf θ s0.nxt vs) x.s ∧ (∀ e ∈ givesOf s0.nxt x, ∀ h ver c, Says e h ver c → Orig s0 l h ver c) ∧ ∀ e ∈ x.r.chs (s0.nxt + x.i), ∀ h ver c, Says e h ver c → Orig s0 l h ver c := by
  have main : ∀ m, ∀ x ∈ l, x.i = m → (∀ k ∈ x.b, k ∈ B) → Fine P w0 J (thOf θ s0.nxt vs) x.s ∧ (∀ e ∈ givesOf s0.nxt x, ∀ h ver c, Says e h ver c → Orig s0 l h ver c) ∧ ∀ e ∈ x.r.chs (s0.nxt + x.i), ∀ h ver c, Says e h ver c → Orig s0 l h ver c := by
    intro m
    induction m using Nat.strongRecOn with
    | _ m ih =>
      intro x hx hxm hxB
      obtain ⟨l1, h1, h2, h3, h4⟩ := ha.get hx
      have IH : ∀ y ∈ l, y.i ∈ x.b → _ := fun y hy hyb => ih y.i (by have := hlt x hx _ hyb; omega) y hy rfl (hcl y hy (hxB _ hyb))
      have hF : Fine P w0 J (thOf θ s0.nxt vs) x.s := by
        rw [h1.hs]
        exact fine_sub hB hK hf ha hc l1 h3 x.b x.i (hlt x hx) (fun y hy hyb => hfact y hy (hxB _ hyb)) (fun y hy hyb => (IH y hy hyb).2.1) (fun y hy hyb => (IH y hy hyb).2.2) (env_nd hf h2)
      have hsub : ∀ e ∈ x.s.chs, ∀ h ver c, Says e h ver c → Orig s0 l h ver c := by
        intro e he h ver c hs
        rw [h1.hs] at he
        obtain ⟨k1, k2⟩ := sub_chs he
        rcases tab_mem.1 k1 with k1 | ⟨y, hy, k1⟩
        · exact .inl ⟨e, k1, hs⟩
        · have hv := (gives_ver k1).1
          rcases k2 with k2 | k2
          · omega
          · rw [hv, Nat.add_sub_cancel_left] at k2
            exact (IH y (h3 y hy) k2).2.1 e k1 h ver c hs
      have hgv : ∀ e ∈ givesOf s0.nxt x, ∀ h ver c, Says e h ver c → Orig s0 l h ver c := by
        intro e he h ver c hs
        cases hr : x.run with
        | true =>
          obtain ⟨g1, g2⟩ := h1.good hr
          obtain ⟨hv, hg⟩ := gives_ver he
          obtain ⟨k1, k2⟩ := hs
          rcases k2 with ⟨k2, k3⟩ | k2
          · refine .inr ⟨x, hx, ?_⟩
            have : e = (h, ver, c) := by rw [k3, ← k1, ← k2]
            rw [← this]; exact he
          · obtain ⟨e0, he0, k⟩ := g1.says J _ hF _ hg ver c k2
            simp only at k
            rw [k1] at k
            exact hsub e0 he0 h ver c k
        | false =>
          have := h1.skip hr
          unfold givesOf at he
          rw [this] at he
          cases he
      refine ⟨hF, hgv, fun e he h ver c hs => ?_⟩
      unfold Res.chs at he
      rcases List.mem_append.1 he with he | he
      · exact hgv e he h ver c hs
      · refine hsub e ?_ h ver c hs
        cases hr : x.run with
        | true =>
          obtain ⟨g1, g2⟩ := h1.good hr
          exact g1.perm.mem_iff.2 (by rcases List.mem_append.1 he with he | he <;> simp [he])
        | false =>
          rw [h1.skip hr] at he
          simpa using he
  exact fun x hx hxB => main x.i x hx rfl hxB
theorem verOf_look {t : Nat} {av : AV} : ∀ {env : List (Nat × Nat × AV)}, look env t = some av → ∃ v, verOf env t = some v ∧ (t, v, av) ∈ env
  | (u, k, x) :: l, h => by
    unfold look at h
    unfold verOf
    split at h
    · rename_i hu
      obtain rfl := Option.some.inj h
      rw [if_pos hu, Nat.eq_of_beq_eq_true hu]
      exact ⟨k, rfl, by simp⟩
    · rename_i hu
      rw [if_neg hu]
      obtain ⟨v, h1, h2⟩ := verOf_look h
      exact ⟨v, h1, by simp [h2]⟩
theorem look_base {t v : Nat} {av : AV} {f : Nat × Nat × AV → Bool} (hf : ∀ e ∈ s0.env, f e = true) : look ((envOf s0.nxt s0.env l).filter f) t = some av → verOf ((envOf s0.nxt s0.env l).filter f) t = some v → v < s0.nxt → look s0.env t = some av := by
  induction l with
  | nil =>
    intro h1 h2 h3
    rw [show (envOf s0.nxt s0.env []).filter f = s0.env from List.filter_eq_self.2 hf] at h1
    exact h1
  | cons x l ih =>
    intro h1 h2 h3
    unfold envOf putE at h1 h2
    split at h1
    · rename_i d hd
      rw [hd] at h2
      simp only at h2
      rw [List.filter_cons] at h1 h2
      split at h1
      · rename_i hk
        rw [if_pos hk] at h2
        unfold look at h1
        unfold verOf at h2
        split at h1
        · rename_i hu
          rw [if_pos hu] at h2
          have := Option.some.inj h2
          omega
        · rename_i hu
          rw [if_neg hu] at h2
          exact ih h1 h2 h3
      · rename_i hk
        rw [if_neg hk] at h2
        exact ih h1 h2 h3
    · rename_i hd
      rw [hd] at h2
      exact ih h1 h2 h3
theorem valAt (hf : Fine P w0 J θ s0) {b : List Nat} {i : Nat} {L1 : List TR} (hL : ∀ y ∈ L1, y ∈ l) (hfact : ∀ y ∈ l, y.i ∈ b → RawF P w0 J (thOf θ s0.nxt vs) s0.nxt y (vs y.i)) {t v : Nat} {av : AV}
    (h1 : look (subS s0 L1 i b).env t = some av) (h2 : verOf (subS s0 L1 i b).env t = some v) : (match opOf s0.nxt v with | some j => vs j | none => ((envL θ s0).lookup t).getD undef) = av.v (thOf θ s0.nxt vs) := by
  obtain ⟨v', h3, h4⟩ := verOf_look h1
  obtain rfl := Option.some.inj (h2.symm.trans h3)
  unfold opOf
  by_cases hv : v < s0.nxt
  · rw [if_pos (nblt.2 hv)]
    have hb := look_base (fun e he => inB_ok.2 (.inl (hf.ver e he))) h1 h2 hv
    obtain ⟨e, he, rfl⟩ := look_mem hb
    rw [AV.v_same (thOf_same (vs := vs)) (hf.env e he)]
    simp only
    rw [show (envL θ s0).lookup t = _ from look_envL hb]; rfl
  · rw [if_neg (fun h => hv (nblt.1 h))]
    obtain ⟨h5, h6⟩ := sub_env h4
    rcases env_mem h5 with h5 | ⟨y, hy, k1, k2, k3⟩
    · exact absurd (hf.ver _ h5) hv
    · rcases h6 with h6 | h6
      · exact absurd h6 hv
      · have k2 : v = s0.nxt + y.i := k2
        have k3 : av = y.r.av := k3
        have h6 : v - s0.nxt ∈ b := h6
        rw [k2, Nat.add_sub_cancel_left] at h6
        rw [k2, Nat.add_sub_cancel_left, k3]
        exact (hfact y (hL y hy) h6).2.1.symm
end
end Go.Proofs.YtfkjjnddefojjaaGreatDoor.R
/- A drawn region, run on states: every order comes to the same state. No program text is named here. -/
set_option linter.unusedVariables false
set_option linter.unusedSimpArgs false
set_option linter.unnecessarySimpa false
set_option linter.unusedSectionVars false
namespace Go.Proofs.YtfkjjnddefojjaaGreatDoor.R
open Go.RowKit
open Go.Proofs.YtfkjjnddefojjaaGreatDoor.D

def smOf (P : Program) (w0 : World) (J : Hp) (θ : Th) (n0 : Nat) (l : List TR) (T : List Ent) : Sm where
  fact i vs := ∀ x ∈ l, x.i = i → RawF P w0 J (thOf θ n0 vs) n0 x (vs i)
  chunk k vs := match T[k]? with
    | some e => toCh P (thOf θ n0 vs) e
    | none => Ch.fr (fun _ => none) []
theorem srcs_ok {n0 t v : Nat} {env : List (Nat × Nat × AV)} : ∀ {ts : List Nat}, t ∈ ts → verOf env t = some v → Skel.srcOf t (srcsOf n0 env ts) = some (opOf n0 v)
  | u :: ts, h, hv => by
    unfold srcsOf
    by_cases hu : u = t
    · subst hu
      rw [hv]
      simp only
      unfold Skel.srcOf
      rw [if_pos (Nat.beq_refl u)]
    · have ht : t ∈ ts := (List.mem_cons.1 h).resolve_left fun e => hu e.symm
      cases hw : verOf env u with
      | none => exact srcs_ok ht hv
      | some w =>
        simp only
        unfold Skel.srcOf
        rw [if_neg fun e => hu (Nat.eq_of_beq_eq_true e)]
        exact srcs_ok ht hv
theorem fin_ok {n0 t v : Nat} {f : Option Nat → Value} : ∀ {env : List (Nat × Nat × AV)} {seen : List Nat}, t ∉ seen → verOf env t = some v → ((finOf n0 env seen).map fun q => (q.1, f q.2)).lookup t = some (f (opOf n0 v))
  | (u, k, x) :: l, seen, hs, hv => by
    unfold finOf
    unfold verOf at hv
    split
    · rename_i hin
      have hin := isIn_ok.1 hin
      have hne : u ≠ t := fun e => hs (e ▸ hin)
      rw [if_neg fun e => hne (Nat.eq_of_beq_eq_true e)] at hv
      exact fin_ok hs hv
    · rename_i hin
      rw [List.map_cons, List.lookup_cons]
      by_cases hu : u = t
      · subst hu
        rw [if_pos (Nat.beq_refl u)] at hv
        obtain rfl := Option.some.inj hv
        simp
      · rw [if_neg fun e => hu (Nat.eq_of_beq_eq_true e)] at hv
        have : (t == u) = false := by simpa using fun e => hu e.symm
        rw [this]
        refine fin_ok (fun h => ?_) hv
        rcases List.mem_cons.1 h with h | h
        · exact hu h.symm
        · exact hs h
section
variable {V : Env} {P : Program} {I : Hp} {w0 w : World} {F : Ch} {J : Hp} {θ : Th} {s0 : Sg} {ops : List Oper} {l : List TR} {a : Act}
theorem idsOf_av {x : TR} {i : Nat} (h : i ∈ x.r.av.ids) : i ∈ idsOf x := List.mem_append_left _ h
theorem idsOf_gv {x : TR} {g : Hdr × Chk} {i : Nat} (hg : g ∈ x.r.gives) (h : i ∈ entIds g.1 g.2) : i ∈ idsOf x := List.mem_append_right _ (List.mem_flatMap.2 ⟨g, hg, h⟩)
theorem loc_ok (hf : Fine P w0 J θ s0) {n : Nat} (ha : AllOk P w0 n s0 ops l) (hlen : l.length = ops.length) (hK : distinctK (tabOf s0.nxt s0.chs l) = true) (hc : ∀ x ∈ l, recChk s0.nxt x = true) :
    Loc (skelOf s0 ops l (tabOf s0.nxt s0.chs l)) (smOf P w0 J θ s0.nxt l (tabOf s0.nxt s0.chs l)) ops.length := by
  have agree : ∀ x ∈ l, ∀ vs vs' : Nat → Value, (∀ j, j = x.i ∨ j ∈ x.b → vs' j = vs j) → ∀ i ∈ idsOf x, thOf θ s0.nxt vs' i = thOf θ s0.nxt vs i := by
    intro x hx vs vs' hv i hi
    have := hc x hx
    unfold recChk at this
    rw [Bool.and_eq_true, allN_ok] at this
    have h1 := this.1 i hi
    unfold allowed at h1
    rw [Bool.or_eq_true, Bool.or_eq_true, nblt, nbeq, isIn_ok] at h1
    unfold thOf
    by_cases hlt : i < s0.nxt
    · rw [if_pos hlt, if_pos hlt]
    · rw [if_neg hlt, if_neg hlt]
      exact hv _ (h1.resolve_left hlt)
  refine ⟨fun i hi vs vs' hv h x hx hxi => ?_, fun k hk vs vs' => ?_, fun i hi k hk vs vs' hv => ?_⟩
  · subst hxi
    rw [(ha.opAt hx _).2] at hv
    have ag := agree x hx vs vs' hv
    obtain ⟨h1, h2, h3⟩ := h x hx rfl
    refine ⟨AV.ok_loc (fun i hi => ag i (idsOf_av hi)) h1, ?_, fun g hg => okE_loc (fun i hi => ag i (idsOf_gv hg hi)) (h3 g hg)⟩
    rw [AV.v_loc fun i hi => ag i (idsOf_av hi), h2, hv _ (.inl rfl)]
  · obtain ⟨e, he, rfl⟩ := List.mem_map.1 hk
    have hT := numOf_ok hK (tab_mem.2 (.inl he))
    show (match _ with | some e => toCh P (thOf θ s0.nxt vs') e | none => _) = match _ with | some e => toCh P (thOf θ s0.nxt vs) e | none => _
    rw [hT]
    simp only
    rw [toCh_same thOf_same (hf.chs e he), toCh_same thOf_same (hf.chs e he)]
  · obtain ⟨x, hx, hxi, -⟩ := ha.at (fun x => x) i (by rw [hlen]; exact hi)
    subst hxi
    rw [(ha.opAt hx _).2] at hv
    rw [(ha.opAt hx _).1] at hk
    obtain ⟨e, he, rfl⟩ := List.mem_map.1 hk
    have hT := numOf_ok hK (tab_mem.2 (.inr ⟨x, hx, he⟩))
    show (match _ with | some e => toCh P (thOf θ s0.nxt vs') e | none => _) = match _ with | some e => toCh P (thOf θ s0.nxt vs) e | none => _
    rw [hT]
    simp only
    exact toCh_loc fun i hi => agree x hx vs vs' hv i (idsOf_gv (gives_ver he).2 hi)
theorem goal_ok (hf : Fine P w0 J θ s0) {n : Nat} (ha : AllOk P w0 n s0 ops l) (hlen : l.length = ops.length) (hB : distinctB s0.chs = true) (hK : distinctK (tabOf s0.nxt s0.chs l) = true) (hc : ∀ x ∈ l, recChk s0.nxt x = true)
    (hok : (skelOf s0 ops l (tabOf s0.nxt s0.chs l)).ok n (knS s0) ops = true) (hkn : ∀ t, knS s0 t = true → ((envL θ s0).lookup t).isSome = true) (hlt : ∀ x ∈ l, ∀ j ∈ x.b, j < x.i) :
    ∀ i o, ops[i]? = some o → (skelOf s0 ops l (tabOf s0.nxt s0.chs l)).goal (smOf P w0 J θ s0.nxt l (tabOf s0.nxt s0.chs l)) P J w0 (envL θ s0) i o := by
  intro i o ho vs hfacts
  obtain ⟨x, hx, hxi, -⟩ := ha.at (fun x => x) i (by rw [hlen]; exact (List.getElem?_eq_some_iff.1 ho).1)
  subst hxi
  obtain ⟨l1, h1, h2, h3, h4⟩ := ha.get hx
  obtain rfl : x.o = o := Option.some.inj (h1.ho.symm.trans ho)
  obtain ⟨e1, e2⟩ := ha.opAt hx (tabOf s0.nxt s0.chs l)
  have hG := Skel.good_of_ok hkn hok ho
  rw [e2] at hfacts
  have hfact : ∀ y ∈ l, y.i ∈ x.b → RawF P w0 J (thOf θ s0.nxt vs) s0.nxt y (vs y.i) := fun y hy hyb => hfacts y.i hyb y hy rfl
  have hFine := (words hB hK hf ha hc hlt x.b (fun y hy hyb k hk => ha.closed hlt x hx y hy hyb k hk) hfact x hx fun k hk => hk).1
  have hnx : x.s.nxt = s0.nxt + x.i := by rw [h1.hs]; rfl
  -- what the guard says
  have hw : wants x.o vs = some x.run := by
    have hgd := h1.gd
    unfold GdOk at hgd
    unfold wants
    cases hgo : x.o.guard with
    | none => rw [hgo] at hgd; simp only at hgd ⊢; rw [hgd]
    | some gw =>
      obtain ⟨g, want⟩ := gw
      rw [hgo] at hgd
      simp only at hgd ⊢
      obtain ⟨y, hy, hyg, hc'⟩ := hgd
      obtain ⟨t, k1, k2⟩ := hG.guard g want hgo
      have hgb : g ∈ x.b := by
        have ht : t ∈ slotsOf ops.toArray x.o := by
          unfold slotsOf Oper.looksAt
          refine List.mem_append_right _ ?_
          rw [hgo]
          simp only
          rw [k1]; simp
        rcases hG.slots t ht with ⟨q1, -, -⟩ | ⟨j, q1, -, q3, -⟩
        · rw [k2] at q1; cases q1
        · rw [k2] at q1
          obtain rfl : g = j := by simpa using q1
          rwa [e2] at q3
      subst hyg
      have hv := (hfact y (h3 y hy) hgb).2.1
      rcases hc' with ⟨c, hc', hr⟩ | ⟨hc', hr⟩
      · rw [hc'] at hv
        rw [← hv, hr]; rfl
      · rw [hc'] at hv
        rw [← hv, hr]; rfl
  rw [hw]
  have hthe : ∀ v, thOf θ s0.nxt (upd vs x.i v) = upd (thOf θ s0.nxt vs) (s0.nxt + x.i) v := fun v => thOf_upd
  have hch : ∀ vs' : Nat → Value, ∀ e ∈ tabOf s0.nxt s0.chs l, (smOf P w0 J θ s0.nxt l (tabOf s0.nxt s0.chs l)).chunk (numOf e (tabOf s0.nxt s0.chs l)) vs' = toCh P (thOf θ s0.nxt vs') e := by
    intro vs' e he
    show (match _ with | some e => toCh P (thOf θ s0.nxt vs') e | none => _) = _
    rw [numOf_ok hK he]
  cases hr : x.run with
  | false =>
    have hs := h1.skip hr
    refine ⟨fun y hy hyi => ?_, by rw [e1]; show (x.r.ns.map _) = []; rw [hs]; rfl, by rw [e1]; show (givesOf _ x).map _ = []; unfold givesOf; rw [hs]; rfl⟩
    obtain rfl := ha.uniq y hy x hx hyi
    refine ⟨?_, ?_, fun g hg => ?_⟩
    · rw [hs]; trivial
    · rw [hs, upd_self]; rfl
    · rw [hs] at hg; cases hg
  | true =>
    obtain ⟨hGd, hk⟩ := h1.good hr
    have base := hGd.op J _ hFine
    have hin : ∀ e, e ∈ x.r.rs ++ x.r.ns → e ∈ tabOf s0.nxt s0.chs l ∧ e ∈ x.s.chs := by
      intro e he
      have he2 : e ∈ x.s.chs := hGd.perm.mem_iff.2 (List.mem_append_left _ he)
      refine ⟨?_, he2⟩
      rw [h1.hs] at he2
      rcases tab_mem.1 (sub_chs he2).1 with h | ⟨y, hy, h⟩
      · exact tab_mem.2 (.inl h)
      · exact tab_mem.2 (.inr ⟨y, h3 y hy, h⟩)
    have hev : ∀ u ∈ x.o.op.operands, (skelOf s0 ops l (tabOf s0.nxt s0.chs l)).ev (envL θ s0) x.i vs u = evL (envL (thOf θ s0.nxt vs) x.s) u := by
      intro u hu
      cases u with
      | tmp t =>
        unfold okO at hk
        rw [Bool.and_eq_true, Bool.and_eq_true] at hk
        have hx1 := List.all_eq_true.1 hk.1.1 (.tmp t) (by simpa using hu)
        simp only [Bool.or_false] at hx1
        obtain ⟨av, hav⟩ := Option.isSome_iff_exists.1 hx1
        have hav : look x.s.env t = some av := hav
        rw [opd_ev (x := .tmp t) hav]
        obtain ⟨v, hv, hm⟩ := verOf_look hav
        have ht : t ∈ slotsOf ops.toArray x.o := by
          unfold slotsOf Oper.looksAt
          exact List.mem_append_left _ (List.mem_filterMap.2 ⟨.tmp t, by simpa using hu, rfl⟩)
        have hsrc : Skel.srcOf t ((skelOf s0 ops l (tabOf s0.nxt s0.chs l)).op x.i).src = some (opOf s0.nxt v) := by
          rw [e1]; exact srcs_ok ht hv
        have hval := valAt (L1 := l1) (b := x.b) (i := x.i) hf h3 hfact (t := t) (v := v) (av := av) (by rw [← h1.hs]; exact hav) (by rw [← h1.hs]; exact hv)
        rw [← hval]
        show (match Skel.srcOf t _ with | some (some j) => vs j | _ => _) = _
        rw [hsrc]
        cases opOf s0.nxt v <;> rfl
      | _ => rfl
    have hpre : ((((skelOf s0 ops l (tabOf s0.nxt s0.chs l)).op x.i).reads ++ ((skelOf s0 ops l (tabOf s0.nxt s0.chs l)).op x.i).needs).map ((smOf P w0 J θ s0.nxt l (tabOf s0.nxt s0.chs l)).chunk · vs)) = (x.r.rs ++ x.r.ns).map (toCh P (thOf θ s0.nxt vs)) := by
      rw [e1]
      show ((x.r.rs.map _) ++ (x.r.ns.map _)).map _ = _
      rw [← List.map_append, List.map_map]
      exact List.map_congr_left fun e he => hch vs e (hin e he).1
    intro wd C hs
    have hs' := hs
    rw [hpre] at hs'
    have hb := base wd C hs'
    have hsel : noSelect x.o = true := hG.sel
    rw [← execOp_same hsel hev] at hb
    refine hb.imp fun v w' hv => ⟨fun y hy hyi => ?_, ?_⟩
    · obtain rfl := ha.uniq y hy x hx hyi
      rw [hthe, upd_self]
      obtain ⟨q1, q2, q3⟩ := hv.1
      rw [hnx] at q1 q2 q3
      exact ⟨q1, q2, q3⟩
    · have hst := hv.2
      rw [hnx] at hst
      have hgv : ((((skelOf s0 ops l (tabOf s0.nxt s0.chs l)).op x.i).reads ++ ((skelOf s0 ops l (tabOf s0.nxt s0.chs l)).op x.i).gives).map ((smOf P w0 J θ s0.nxt l (tabOf s0.nxt s0.chs l)).chunk · (upd vs x.i v))) = x.r.rs.map (toCh P (thOf θ s0.nxt vs)) ++ x.r.gives.map fun g => toCh P (upd (thOf θ s0.nxt vs) (s0.nxt + x.i) v) (g.1, s0.nxt + x.i, g.2) := by
        rw [e1]
        show ((x.r.rs.map _) ++ ((givesOf s0.nxt x).map _)).map _ = _
        rw [List.map_append, List.map_map, List.map_map]
        congr 1
        · refine List.map_congr_left fun e he => ?_
          show (smOf P w0 J θ s0.nxt l (tabOf s0.nxt s0.chs l)).chunk (numOf e _) (upd vs x.i v) = _
          obtain ⟨m1, m2⟩ := hin e (List.mem_append_left _ he)
          rw [hch _ e m1, hthe]
          have := hFine.chs e m2
          rw [hnx] at this
          exact toCh_same Same.upd this
        · unfold givesOf
          rw [List.map_map]
          refine List.map_congr_left fun g hg => ?_
          show (smOf P w0 J θ s0.nxt l (tabOf s0.nxt s0.chs l)).chunk (numOf (g.1, s0.nxt + x.i, g.2) _) (upd vs x.i v) = _
          rw [hch _ _ (tab_mem.2 (.inr ⟨x, hx, List.mem_map.2 ⟨g, hg, rfl⟩⟩)), hthe]
      exact Eq.mp (congrArg (fun cs => St J w0 w' (cs ++ C)) hgv.symm) hst
theorem drawS0_ok {Y : Type} {id : Nat} {k : Sg → Option Y} {res : Y} {Q : Exit → Act → World → Prop} (hT : TTok P V.tt) (hF : FTok P V.ft) (hm : P.follows .mixedOrders = true) (h : drawS0 V ops k s0 = some res) (hS0 : Sim P I w0 F V.n J θ s0 a w)
    (K : ∀ s' θ' a' w', k s' = some res → Sim P I w0 F V.n J θ' s' a' w' → Fr s0 θ s' θ' → Q .normal a' w') : (Code.region id ops.toArray true).wp P Q a w := by
  unfold drawS0 at h
  obtain ⟨l, h, ha, hlen⟩ := goD_ok (w0 := w0) hT hF h rfl rfl trivial
  obtain ⟨hpl, h⟩ := chkT_ok h
  unfold planOk at hpl
  simp only [Bool.and_eq_true, List.all_eq_true] at hpl
  obtain ⟨hB, hK, hc, hok, hokB⟩ := hpl
  have hf := hS0.fine
  have hkn : ∀ t, knS s0 t = true → ((envL θ s0).lookup t).isSome = true := by
    intro t ht
    obtain ⟨av, hav⟩ := Option.isSome_iff_exists.1 ht
    rw [show (envL θ s0).lookup t = _ from look_envL hav]; rfl
  have hlt : ∀ x ∈ l, ∀ j ∈ x.b, j < x.i := by
    intro x hx j hj
    obtain ⟨l1, h1, -⟩ := ha.get hx
    have hG := Skel.good_of_ok hkn hok h1.ho
    have := hG.bef j (by rw [(ha.opAt hx _).2]; exact hj)
    exact this.1
  refine wp_drawn (C := [F]) (skelOf s0 ops l (tabOf s0.nxt s0.chs l)) (smOf P w0 J θ s0.nxt l (tabOf s0.nxt s0.chs l)) hkn (loc_ok hf ha hlen hK hc) hm hS0.agr hS0.st ?_ hok hokB (goal_ok hf ha hlen hB hK hc hok hkn hlt) ?_
  · refine (List.Perm.of_eq ?_)
    congr 1
    show _ = (s0.chs.map _).map _
    rw [List.map_map]
    refine List.map_congr_left fun e he => ?_
    show _ = match _ with | some e => toCh P (thOf θ s0.nxt fun _ => undef) e | none => _
    rw [numOf_ok hK (tab_mem.2 (.inl he))]
    exact (toCh_same thOf_same (hf.chs e he)).symm
  · intro vs a' w' hfacts hA hst
    have hfact : ∀ y ∈ l, RawF P w0 J (thOf θ s0.nxt vs) s0.nxt y (vs y.i) := fun y hy => hfacts y.i (by rw [← hlen]; exact ha.lt y hy) y hy rfl
    have hall := words hB hK hf ha hc hlt (List.range l.length) (fun y hy _ k hk => List.mem_range.2 (Nat.lt_trans (hlt y hy k hk) (ha.lt y hy))) (fun y hy _ => hfact y hy)
    have hall' : ∀ x ∈ l, _ := fun x hx => hall x hx fun k hk => List.mem_range.2 (Nat.lt_trans (hlt x hx k hk) (ha.lt x hx))
    have hFine : Fine P w0 J (thOf θ s0.nxt vs) (endS s0 l) := fine_sub hB hK hf ha hc l (fun y hy => hy) (List.range l.length) l.length (fun j hj => List.mem_range.1 hj) (fun y hy _ => hfact y hy) (fun y hy _ => (hall' y hy).2.1) (fun y hy _ => (hall' y hy).2.2) (env_nd hf ha)
    refine K (endS s0 l) (thOf θ s0.nxt vs) a' w' h ⟨hS0.le, hA.sub fun t v hv => ?_, ?_, hFine⟩ (Fr.rfl.trans ⟨Nat.le_add_right _ _, thOf_same, fun e he hv => ?_, fun e he h' ver c hs => ?_⟩)
    · -- the slots
      cases hl : look (endS s0 l).env t with
      | none =>
        exfalso
        have : ∀ {env : List (Nat × Nat × AV)} {θ : Th}, look env t = none → (env.map fun e => (e.1, e.2.2.v θ)).lookup t = none := by
          intro env θ
          induction env with
          | nil => intro _; rfl
          | cons e env ih =>
            intro hh
            unfold look at hh
            split at hh
            · cases hh
            · rename_i hu
              rw [List.map_cons, List.lookup_cons]
              have hne : (t == e.1) = false := by
                simp only [beq_eq_false_iff_ne]; intro e'; subst e'; exact hu (Nat.beq_refl _)
              rw [show (t == (e.1, AV.v θ e.2.2).1) = false from hne]
              exact ih hh
        rw [show (envL (thOf θ s0.nxt vs) (endS s0 l)).lookup t = none from this hl] at hv
        cases hv
      | some av =>
        have hv2 := look_envL (θ := thOf θ s0.nxt vs) hl
        obtain rfl := Option.some.inj (hv2.symm.trans hv)
        obtain ⟨ver, hver, -⟩ := verOf_look hl
        have hval := valAt (L1 := l) (b := List.range l.length) (i := l.length) hf (fun y hy => hy) (fun y hy _ => hfact y hy) (t := t) (v := ver) (av := av) hl hver
        have := fin_ok (n0 := s0.nxt) (seen := []) (f := fun s => match s with | some j => vs j | none => ((envL θ s0).lookup t).getD undef) (by simp) hver
        have key : ∀ M : List (Nat × Option Nat), (M.map fun q => (q.1, match q.2 with | some j => vs j | none => ((envL θ s0).lookup q.1).getD undef)).lookup t = (M.map fun q => (q.1, (fun s => match s with | some j => vs j | none => ((envL θ s0).lookup t).getD undef) q.2)).lookup t := by
          intro M
          induction M with
          | nil => rfl
          | cons q M ih =>
            rw [List.map_cons, List.map_cons, List.lookup_cons, List.lookup_cons]
            by_cases e : t = q.1
            · subst e; simp
            · rw [show (t == q.1) = false from by simpa using e]; exact ih
        exact (key _).trans (this.trans (congrArg some hval))
    · have e : ((endS s0 l).chs.map (numOf · (tabOf s0.nxt s0.chs l))).map ((smOf P w0 J θ s0.nxt l (tabOf s0.nxt s0.chs l)).chunk · vs) = (endS s0 l).chs.map (toCh P (thOf θ s0.nxt vs)) := by
        rw [List.map_map]
        refine List.map_congr_left fun e he => ?_
        show (match _ with | some e => toCh P (thOf θ s0.nxt vs) e | none => _) = _
        rw [numOf_ok hK (sub_chs he).1]
      rw [← e]; exact hst
    · obtain ⟨h5, h6⟩ := sub_env he
      rcases env_mem h5 with h5 | ⟨y, hy, k1, k2, k3⟩
      · exact h5
      · omega
    · obtain ⟨h5, h6⟩ := sub_chs he
      have horig : Orig s0 l h' ver c := by
        rcases tab_mem.1 h5 with h5 | ⟨y, hy, h5⟩
        · exact .inl ⟨e, h5, hs⟩
        · exact (hall' y hy).2.1 e h5 h' ver c hs
      rcases horig with ⟨e0, he0, hk⟩ | ⟨y, hy, hk⟩
      · exact .inr ⟨e0, he0, hk⟩
      · have := (gives_ver hk).1
        exact .inl (by simp only at this; omega)
theorem frzBags_ok {hs : List Hdr} : ∀ {s : Sg} {J : Hp}, Sim P I w0 F V.n J θ s a w → ∃ J', J.le J' ∧ Sim P I w0 F V.n J' θ (frzBags hs s) a w ∧ Fr s θ (frzBags hs s) θ := by
  induction hs with
  | nil => exact fun hS => ⟨_, Hp.le.rfl, hS, Fr.rfl⟩
  | cons h hs ih =>
    intro s J hS
    have h1 : ∃ J', J.le J' ∧ Sim P I w0 F V.n J' θ (frzBagS h s) a w ∧ Fr s θ (frzBagS h s) θ := by
      unfold frzBagS
      split
      · exact frzBag_ok ‹_› hS
      · exact ⟨J, Hp.le.rfl, hS, Fr.rfl⟩
    obtain ⟨J1, hJ1, S1, F1⟩ := h1
    obtain ⟨J2, hJ2, S2, F2⟩ := ih S1
    exact ⟨J2, hJ1.trans hJ2, S2, F1.trans F2⟩
theorem prepBD_ok {s : Sg} (hS : Sim P I w0 F V.n J θ s a w) : ∃ J', J.le J' ∧ Sim P I w0 F V.n J' θ (prepBD ops s) a w ∧ Fr s θ (prepBD ops s) θ := by
  unfold prepBD
  split
  · exact frzBags_ok hS
  · exact ⟨J, Hp.le.rfl, hS, Fr.rfl⟩
theorem prepD_ok {tr : Trs} {s : Sg} (hS : Sim P I w0 F V.n J θ s a w) : ∃ J' θ', J.le J' ∧ Sim P I w0 F V.n J' θ' (prepD tr ops s) a w ∧ Fr s θ (prepD tr ops s) θ' := by
  obtain ⟨θ1, S0, F0⟩ := openA_ok hS
  obtain ⟨J1, hJ1, S1, F1⟩ := prepBD_ok (ops := ops) S0
  obtain ⟨S2, F2⟩ := prepL_ok (hs := allHdrs (prepBD ops (openA s)) ops) S1
  have F2 := (F0.trans F1).trans F2
  show ∃ J' θ', J.le J' ∧ Sim P I w0 F V.n J' θ' (prepFD tr ops (prepL (allHdrs (prepBD ops (openA s)) ops) (prepBD ops (openA s)))) a w ∧ Fr s θ (prepFD tr ops (prepL (allHdrs (prepBD ops (openA s)) ops) (prepBD ops (openA s)))) θ'
  unfold prepFD
  split
  · exact ⟨J1, θ1, hJ1, S2, F2⟩
  · obtain ⟨J', θ', h1, h2, h3⟩ := frzL_ok S2
    exact ⟨J', θ', hJ1.trans h1, h2, F2.trans h3⟩
theorem drawS_ok {Y : Type} {id : Nat} {k : Sg → Option Y} {res : Y} {Q : Exit → Act → World → Prop} (hT : TTok P V.tt) (hF : FTok P V.ft) (hm : P.follows .mixedOrders = true) {s : Sg} (h : drawS V ops k s = some res) (hS : Sim P I w0 F V.n J θ s a w)
    (K : ∀ s' J' θ' a' w', k s' = some res → Sim P I w0 F V.n J' θ' s' a' w' → J.le J' → Fr s θ s' θ' → Q .normal a' w') : (Code.region id ops.toArray true).wp P Q a w := by
  obtain ⟨J1, θ1, hJ, S1, F1⟩ := prepD_ok (tr := V.tr) (ops := ops) hS
  exact drawS0_ok hT hF hm (show drawS0 V ops k (prepD V.tr ops s) = some res from h) S1 fun s' θ' a' w' hk hS' hFr => K s' J1 θ' a' w' hk hS' hJ (F1.trans hFr)
end
end Go.Proofs.YtfkjjnddefojjaaGreatDoor.R
