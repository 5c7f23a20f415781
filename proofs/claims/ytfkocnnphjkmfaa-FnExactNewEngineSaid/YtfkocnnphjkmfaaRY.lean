/- Calls: the steps; function values made; what is frozen, read. No program text is named here. -/
import Derived.Test.YtfkocnnphjkmfaaRX
set_option linter.unusedVariables false
set_option linter.unusedSimpArgs false
set_option linter.unnecessarySimpa false
set_option linter.unusedSectionVars false
namespace Go.Proofs.Ytfkocnnphjkmfaa.R
open Go.RowKit
open Go.Proofs.Ytfkocnnphjkmfaa.D

theorem deeps_append {l m : List Ch} (h : Ch.deeps l) (k : Ch.deeps m) : Ch.deeps (l ++ m) := by
  induction l with
  | nil => exact k
  | cons c l ih => exact ⟨h.1, ih h.2⟩
theorem resGo_deep {v : Value} : ∀ (ts : List Ty) (i : Nat) (d : denH ts), allDp ts = true → Ch.deeps (resGo i ts d v)
  | [], _, _, _ => trivial
  | t :: ts, i, d, h => by
    have h : (t.dp && allDp ts) = true := h
    rw [Bool.and_eq_true] at h
    exact ⟨dp_own (Ty.dp_ok h.1), resGo_deep ts (i + 1) d.2 h.2⟩
theorem resGv_deep {v : Value} (ts : List Ty) (d : denH ts) (h : allDp ts = true) : Ch.deeps (resGv ts d v) := by
  match ts, d, h with
  | [t], d, h =>
    have h : (t.dp && true) = true := h
    rw [Bool.and_true] at h
    exact ⟨dp_own (Ty.dp_ok h), trivial⟩
  | [], d, h => exact resGo_deep (v := v) [] 0 d h
  | _ :: _ :: _, d, h => exact resGo_deep (v := v) _ 0 d h
theorem dp_box {α : Type} {b : Nat} {T : TypeId} {R : Rep α} {d : α} (h : R.Dp) : (Ch.box b T R d).deep := by
  rintro I J w F ⟨cells, G, rfl, h1, h2⟩
  exact ⟨cells, G, rfl, h1, h h2⟩
theorem outCh_deep : ∀ (ps : List PM) (vs : List Value) (d : denH (outs ps)), outDp ps = true → Ch.deeps (outCh ps vs d)
  | [], vs, _, _ => by cases vs <;> trivial
  | .ow t :: ps, [], d, h => trivial
  | .ow t :: ps, v :: vs, d, h => by
    have h : (t.dp && outDp ps) = true := h
    rw [Bool.and_eq_true] at h
    exact ⟨dp_own (Ty.dp_ok h.1), outCh_deep ps vs d.2 h.2⟩
  | .ptr T t :: ps, [], d, h => trivial
  | .ptr T t :: ps, v :: vs, d, h => by
    have h : (t.dp && outDp ps) = true := h
    rw [Bool.and_eq_true] at h
    exact ⟨dp_box (Ty.dp_ok h.1), outCh_deep ps vs d.2 h.2⟩
  | .rd _ :: ps, [], d, h => trivial
  | .rd _ :: ps, v :: vs, d, h => outCh_deep ps vs d h
  | .fn _ _ :: ps, [], d, h => trivial
  | .fn _ _ :: ps, v :: vs, d, h => outCh_deep ps vs d h
  | .cap _ _ :: ps, [], d, h => trivial
  | .cap _ _ :: ps, v :: vs, d, h => outCh_deep ps vs d h
  | .capf _ _ _ :: ps, [], d, h => trivial
  | .capf _ _ _ :: ps, v :: vs, d, h => outCh_deep ps vs d h
theorem chsOwn_easy {id : Nat} {pth : Nat → List Nat} : ∀ (t : Ty) (d : t.den) (j : Nat), ∀ g ∈ chsOwn id pth t d j, Easy g.2
  | .prod a b, d, j => fun g hg => by
    rcases List.mem_append.1 hg with hg | hg
    · exact chsOwn_easy a d.1 j g hg
    · exact chsOwn_easy b d.2 _ g hg
  | .sl E t, d, j => fun g hg => by obtain rfl := List.mem_singleton.1 hg; trivial
  | .wr t, d, j => chsOwn_easy t d j
  | .int _, _, _ => fun g hg => by cases hg
  | .bool, _, _ => fun g hg => by cases hg
  | .str, _, _ => fun g hg => by cases hg
  | .fro _, _, _ => fun g hg => by cases hg
theorem tupChs_easy {id : Nat} : ∀ (i : Nat) (ts : List Ty) (d : denH ts), ∀ g ∈ tupChs id i ts d, Easy g.2
  | _, [], _ => fun g hg => by cases hg
  | i, t :: ts, d => fun g hg => by
    rcases List.mem_append.1 hg with hg | hg
    · exact chsOwn_easy t d.1 0 g hg
    · exact tupChs_easy (i + 1) ts d.2 g hg
theorem resChs_easy {id : Nat} (ts : List Ty) (d : denH ts) : ∀ g ∈ resChs id ts d, Easy g.2 := by
  match ts, d with
  | [t], d => exact chsOwn_easy t d.1 0
  | [], d => exact tupChs_easy (id := id) 0 [] d
  | _ :: _ :: _, d => exact tupChs_easy (id := id) 0 _ d
theorem easy_says {g : Hdr × Chk} {ver : Nat} {c : Chk} (h : Easy g.2) (k : SaysH g.2 ver c) : False := by
  obtain ⟨a, x⟩ := g
  cases x <;> first | exact h.elim | exact k.elim
theorem row_uniq {h : Hdr} {chs : List Ent} {q : Row} (hq : rowOf h chs = some q) {e : Ent} (he : e ∈ chs) (h1 : e.1 = h) : e = q.ent h := by
  obtain ⟨p, k⟩ := rowOf_ok hq
  rcases List.mem_cons.1 (p.mem_iff.1 he) with rfl | he
  · rfl
  · exact absurd h1 (k e he)
theorem blk_uniq {h : Hdr} {chs : List Ent} {q : Blk} (hq : blkU h chs = some q) {e : Ent} (he : e ∈ chs) (h1 : e.1 = h) : e = q.ent h := by
  obtain ⟨p, k⟩ := blkU_ok hq
  rcases List.mem_cons.1 ((blkOf_ok p).mem_iff.1 he) with rfl | he
  · rfl
  · exact absurd h1 (k e he)
theorem OpT.post {P : Program} {w0 : World} {o : Oper} {I : Hp} {ev : Operand → Value} {rn : List Ch} {fact fact' : Value → Prop} {gv gv' : Value → List Ch} (h : OpT P I w0 o ev rn fact gv) (hp : ∀ v w C, fact v → St I w0 w (gv v ++ C) → fact' v ∧ St I w0 w (gv' v ++ C)) : OpT P I w0 o ev rn fact' gv' :=
  fun w C hs => (h w C hs).imp fun v w hv => hp v w C hv.1 hv.2
theorem OpT.sepTo {P : Program} {w0 : World} {o : Oper} {I : Hp} {ev : Operand → Value} {l l' : List Ch} {fact : Value → Prop} {gv : Value → List Ch} (k : SepTo I l l') (h : OpT P I w0 o ev l' fact gv) : OpT P I w0 o ev l fact gv := fun w C hs => by
  obtain ⟨h1, h2, F, h3, h4, h5⟩ := hs
  obtain ⟨G, K, rfl, e1, e2⟩ := h3.split
  exact h w C ⟨h1, h2, G ++ K, (k w G e1).append e2, h4, h5⟩

/-! ### Calls -/
section
variable {Y : Type} (ft : FT) (s : Sg) (k : Res → Option Y)
def sCallF (g : FuncId) (xs : List Operand) : Option Y := (fs ft g).bind fun f => (argsOf ft s s.chs f.ps xs).bind fun a =>
  (pullAll (dedup a.lent []) a.rest).bind fun pl => chkT (allDp f.rs && outDp f.ps) ((appP f.ps f.m a.d).bind fun r =>
    k ⟨pl.1, a.own, pl.2, resChs s.nxt f.rs (hFst f.rs (outs f.ps) (toH _ r)) ++ backs s f.ps xs (hSnd f.rs (outs f.ps) (toH _ r)), resAv s.nxt f.rs (hFst f.rs (outs f.ps) (toH _ r))⟩)
def fnTy (n : Nat) : LV → Option (List Ty × List Ty)
  | .fn _ a b _ => some (a, b)
  | .own h => (cloOf h s.chs).bind fun q => (fs ft q.1).bind fun f => (rdTys ((f.ps.drop q.2.1.length).take n)).bind fun a => some (a, f.rs ++ outs f.ps)
  | _ => none
def argsR : (ts : List Ty) → List Operand → Option (denH ts × List Hdr)
  | [], [] => some ((), [])
  | t :: ts, x :: xs => (opd s x).bind fun v => (lendAv s.chs t v).bind fun a => (argsR ts xs).bind fun r => some ((a.1, r.1), a.2 ++ r.2)
  | _, _ => none
def sCallV (t : Nat) (xs : List Operand) : Option Y := (oneOf0 (look s.env t)).bind fun y => (fnTy ft s xs.length y).bind fun ab => (fnOf ft s.chs 4 ab.1 ab.2 y).bind fun q => (argsR s ab.1 xs).bind fun d =>
  (pullAll (dedup (q.lent ++ d.2) []) s.chs).bind fun pl => chkT (allDp ab.2) ((app ab.1 q.e d.1).bind fun r => k ⟨pl.1, [], pl.2, resChs s.nxt ab.2 (toH _ r), resAv s.nxt ab.2 (toH _ r)⟩)
where oneOf0 : Option AV → Option LV
  | some (.one x) => some x
  | _ => none
end
section
variable {Y : Type} {ft : FT} {s : Sg} {k : Res → Option Y} {P : Program} {w0 : World} {o : Oper} {res : Y}
theorem lent_of {J : Hp} {θ : Th} {hs : List Hdr} {l : List Ent} (e2 : l.map (·.1) = dedup hs []) (hsub : ∀ e ∈ l, e ∈ s.chs) (hr : ∀ {α : Type} (R : Rep α) (v : List Value) (a : α), Ch.own R v a ∈ l.map (toCh P θ) → R.rd J v a) (hb : ∀ g c E, Ch.blk g c E ∈ l.map (toCh P θ) → J g = some (.cells c.toArray E (0, 0))) : Lent J θ s.chs hs := fun h hh => by
  have hd : h ∈ l.map (·.1) := by
    rw [e2]
    rcases dedup_mem (acc := []) hh with h1 | h1
    · exact h1
    · cases h1
  obtain ⟨e, he, h1⟩ := List.mem_map.1 hd
  refine ⟨fun q hq => ?_, fun q hq => ?_⟩
  · have := row_uniq hq (hsub e he) h1
    subst this
    exact hr _ _ _ (List.mem_map.2 ⟨_, he, rfl⟩)
  · have := blk_uniq hq (hsub e he) h1
    subst this
    exact hb _ _ _ (List.mem_map.2 ⟨_, he, rfl⟩)
theorem pullBox_perm {h : Hdr} {T : TypeId} {t : Ty} {chs : List Ent} {q : t.den × List Ent × List Ent} (k : pullBox h T t chs = some q) : chs.Perm (q.2.1 ++ q.2.2) := by
  obtain ⟨r, hr, k⟩ := bind_some k
  obtain ⟨p, e⟩ := pull_ok hr
  obtain ⟨⟨h', ver, c⟩, rest⟩ := r
  cases c with
  | box T' t' d =>
    obtain ⟨hT, k⟩ := chkT_ok (show chkT (Nat.beq T' T) _ = some q from k)
    obtain ⟨d', hd, k⟩ := bind_some k
    obtain rfl := Option.some.inj k
    exact p
  | blk T' cells =>
    obtain ⟨hT, k⟩ := chkT_ok (show chkT (Nat.beq T' T) _ = some q from k)
    obtain ⟨q', hq, k⟩ := bind_some k
    obtain ⟨he, k⟩ := chkT_ok k
    obtain rfl := Option.some.inj k
    exact p.trans ((takeData_perm hq).cons _)
  | _ => cases k
theorem argsOf_perm : ∀ {ps : List PM} {xs : List Operand} {chs : List Ent} {r : Args ps}, argsOf ft s chs ps xs = some r → chs.Perm (r.own ++ r.rest)
  | [], [], chs, r, h => by obtain rfl := Option.some.inj (show some _ = some r from h); exact List.Perm.refl _
  | .rd t :: ps, x :: xs, chs, r, h => by
    obtain ⟨v, hv', h⟩ := bind_some (show (opd s x).bind _ = some r from h)
    obtain ⟨a, ha, h⟩ := bind_some h
    obtain ⟨q, hq, h⟩ := bind_some h
    obtain rfl := Option.some.inj h
    exact argsOf_perm (ps := ps) hq
  | .ow t :: ps, x :: xs, chs, r, h => by
    obtain ⟨v, hv', h⟩ := bind_some (show (opd s x).bind _ = some r from h)
    obtain ⟨hg, h⟩ := chkT_ok h
    obtain ⟨cs, hcs, h⟩ := bind_some h
    obtain ⟨q, hq, h⟩ := bind_some h
    obtain ⟨he, h⟩ := chkT_ok h
    obtain ⟨r', hr, h⟩ := bind_some h
    obtain rfl := Option.some.inj h
    show chs.Perm ((q.used ++ r'.own) ++ r'.rest)
    rw [List.append_assoc]
    exact (takeData_perm hq).trans ((argsOf_perm hr).append_left _)
  | .fn a b :: ps, x :: xs, chs, r, h => by
    unfold argsOf at h
    split at h
    · obtain ⟨q, hq, h⟩ := bind_some h
      obtain ⟨r', hr, h⟩ := bind_some h
      obtain rfl := Option.some.inj h
      exact argsOf_perm (ps := ps) hr
    · cases h
  | .ptr T t :: ps, x :: xs, chs, r, h => by
    unfold argsOf at h
    split at h
    · obtain ⟨ho, h⟩ := chkT_ok h
      obtain ⟨q, hq, h⟩ := bind_some h
      obtain ⟨r', hr, h⟩ := bind_some h
      obtain rfl := Option.some.inj h
      show chs.Perm ((q.2.1 ++ r'.own) ++ r'.rest)
      rw [List.append_assoc]
      exact (pullBox_perm hq).trans ((argsOf_perm hr).append_left _)
    · cases h
  | .cap _ _ :: _, _ :: _, _, _, h => by cases h
  | .capf _ _ _ :: _, _ :: _, _, _, h => by cases h
  | [], _ :: _, _, r, h => by cases h
  | .rd _ :: _, [], _, r, h => by cases h
  | .ow _ :: _, [], _, r, h => by cases h
  | .fn _ _ :: _, [], _, r, h => by cases h
  | .ptr _ _ :: _, [], _, r, h => by cases h
  | .cap _ _ :: _, [], _, _, h => by cases h
  | .capf _ _ _ :: _, [], _, _, h => by cases h
theorem backT_easy : ∀ {t : Ty} {d : t.den} {cs : List LV}, ∀ g ∈ backT t d cs, Easy g.2 := by
  intro t
  induction t with
  | prod a b iha ihb =>
    intro d cs g hg
    rcases List.mem_append.1 hg with hg | hg
    · exact iha g hg
    · exact ihb g hg
  | wr t ih => intro d cs g hg; exact ih g hg
  | sl E t ih =>
    intro d cs g hg
    cases cs with
    | nil => cases hg
    | cons x l =>
      cases x with
      | own h => obtain rfl := List.mem_singleton.1 hg; trivial
      | _ => cases hg
  | _ => intro d cs g hg; cases hg
theorem backs_easy : ∀ {ps : List PM} {xs : List Operand} {d : denH (outs ps)}, ∀ g ∈ backs s ps xs d, Easy g.2
  | [], xs, d => fun g hg => by cases xs <;> cases hg
  | .ow t :: ps, [], d => fun g hg => by cases hg
  | .ow t :: ps, x :: xs, d => fun g hg => by
    have hg : g ∈ ((opd s x).bind avCells |>.elim [] fun cs => backT t d.1 cs) ++ backs s ps xs d.2 := hg
    rcases List.mem_append.1 hg with hg | hg
    · cases hb : (opd s x).bind avCells with
      | none => rw [hb] at hg; cases hg
      | some cs => rw [hb] at hg; exact backT_easy g hg
    · exact backs_easy g hg
  | .ptr T t :: ps, [], d => fun g hg => by cases hg
  | .ptr T t :: ps, x :: xs, d => fun g hg => by
    have hg : g ∈ (match opd s x with | some (.one (.ptr h _)) => [(h, Chk.box T t d.1)] | _ => []) ++ backs s ps xs d.2 := hg
    rcases List.mem_append.1 hg with hg | hg
    · split at hg
      · obtain rfl := List.mem_singleton.1 hg; trivial
      · cases hg
    · exact backs_easy g hg
  | .rd _ :: ps, [], d => fun g hg => by cases hg
  | .rd _ :: ps, _ :: xs, d => backs_easy (ps := ps)
  | .fn _ _ :: ps, [], d => fun g hg => by cases hg
  | .fn _ _ :: ps, _ :: xs, d => backs_easy (ps := ps)
  | .cap _ _ :: ps, [], d => fun g hg => by cases hg
  | .cap _ _ :: ps, _ :: xs, d => backs_easy (ps := ps)
  | .capf _ _ _ :: ps, [], d => fun g hg => by cases hg
  | .capf _ _ _ :: ps, _ :: xs, d => backs_easy (ps := ps)
theorem perm_out {α : Type} (A L O C : List α) : (A ++ (L ++ (O ++ C))).Perm (O ++ (A ++ (L ++ C))) := by
  rw [← List.append_assoc A L (O ++ C), ← List.append_assoc A L C]
  exact List.perm_append_comm_assoc _ _ _
theorem perm_back {α : Type} (B A L C : List α) : (B ++ (A ++ (L ++ C))).Perm (L ++ (A ++ B) ++ C) := by
  have h : (B ++ (A ++ L)).Perm (L ++ (A ++ B)) := List.perm_append_comm.trans ((List.Perm.of_eq (List.append_assoc ..)).trans (List.perm_append_comm_assoc _ _ _))
  have := h.append_right C
  rwa [List.append_assoc, List.append_assoc] at this
theorem sCallF_ok (hF : FTok P ft) {g : FuncId} {xs : Array Operand} {ts : Array TypeId} (ho : o.op = .call { callee := .value (.func g), args := xs, argTypes := ts }) (h : sCallF ft s k g xs.toList = some res) : Oks P w0 s o k res := by
  obtain ⟨f, hf', h⟩ := bind_some h
  obtain ⟨a, ha, h⟩ := bind_some h
  obtain ⟨pl, hpl, h⟩ := bind_some h
  obtain ⟨hc, h⟩ := chkT_ok h
  obtain ⟨r, hr, h⟩ := bind_some h
  rw [Bool.and_eq_true] at hc
  obtain ⟨hc1, hc2⟩ := hc
  have hfo := hF.get hf'
  obtain ⟨p2, e2⟩ := pullAll_ok hpl
  have hpp : s.chs.Perm (a.own ++ a.rest) := argsOf_perm ha
  have hperm : s.chs.Perm (pl.1 ++ a.own ++ pl.2) := by
    refine hpp.trans ((p2.append_left a.own).trans ?_)
    rw [List.append_assoc]
    exact List.perm_append_comm_assoc _ _ _
  have hez : ∀ g ∈ resChs s.nxt f.rs (hFst f.rs (outs f.ps) (toH _ r)) ++ backs s f.ps xs.toList (hSnd f.rs (outs f.ps) (toH _ r)), Easy g.2 := fun g hg => by
    rcases List.mem_append.1 hg with hg | hg
    · exact resChs_easy _ _ g hg
    · exact backs_easy g hg
  refine ⟨_, h, hperm, fun J θ hf g hg ver c hs => (easy_says (hez g hg) hs).elim, fun J θ hf => ?_⟩
  have h1 : OpT P J w0 o (evL (envL θ s)) (pl.1.map (toCh P θ) ++ a.own.map (toCh P θ)) (resFa f.rs) (fun v => pl.1.map (toCh P θ) ++ (resGv f.rs (hFst f.rs (outs f.ps) (toH _ r)) v ++ outCh f.ps (xs.toList.map (evL (envL θ s))) (hSnd f.rs (outs f.ps) (toH _ r)))) := by
    refine OpT_lend (fun v => deeps_append (resGv_deep _ _ hc1) (outCh_deep _ _ _ hc2)) fun J' hJ hrd hbl => ?_
    obtain ⟨k1, k2, k3⟩ := argsOf_ok hF hf hJ ha (fun e he => he) (lent_of e2 (fun e he => hperm.mem_iff.2 (by simp [he])) hrd hbl)
    exact OpT.sepTo k3 (opT_call hfo.en ho rfl (by simp) (hfo.con w0 J' _ a.d r k1 hr))
  rw [List.map_append]
  refine OpT.post h1 fun v w C hv0 hst => ?_
  have hst1 : St J w0 w (resGv f.rs (hFst f.rs (outs f.ps) (toH _ r)) v ++ (pl.1.map (toCh P θ) ++ (outCh f.ps (xs.toList.map (evL (envL θ s))) (hSnd f.rs (outs f.ps) (toH _ r)) ++ C))) := by
    refine hst.perm ?_
    rw [List.append_assoc, List.append_assoc]
    exact List.perm_append_comm_assoc _ _ _
  obtain ⟨q1, q2, q3, q4⟩ := res_fine (P := P) (m := s.nxt) (θ := upd θ s.nxt v) (n := s.nxt + 1) (chs := Res.chs ⟨pl.1, a.own, pl.2, resChs s.nxt f.rs (hFst f.rs (outs f.ps) (toH _ r)) ++ backs s f.ps xs.toList (hSnd f.rs (outs f.ps) (toH _ r)), resAv s.nxt f.rs (hFst f.rs (outs f.ps) (toH _ r))⟩ s.nxt) (Nat.lt_succ_self _) (upd_self (vs := θ) (i := s.nxt) (v := v)) f.rs (hFst f.rs (outs f.ps) (toH _ r)) _ hc1 hv0 hst1
  have q5 : St J w0 w (outCh f.ps (xs.toList.map (evL (envL θ s))) (hSnd f.rs (outs f.ps) (toH _ r)) ++ (((resChs s.nxt f.rs (hFst f.rs (outs f.ps) (toH _ r))).map fun g => toCh P (upd θ s.nxt v) (g.1, s.nxt, g.2)) ++ (pl.1.map (toCh P θ) ++ C))) := q4.perm (perm_out _ _ _ _)
  obtain ⟨b1, b2⟩ := backs_ok (P := P) (θ := θ) (θ' := upd θ s.nxt v) (m := s.nxt) hf Same.upd (Nat.le_refl _) (hSnd f.rs (outs f.ps) (toH _ r)) ha q5
  refine ⟨⟨q1, q2, fun g hg => easy_ok (hez g hg) ?_ (Nat.lt_succ_self _)⟩, ?_⟩
  · rcases List.mem_append.1 hg with hg | hg
    · rw [q3 g hg]; exact Nat.lt_succ_self _
    · exact Nat.lt_succ_of_lt (b2 g hg).2
  · show St J w0 w (pl.1.map (toCh P θ) ++ ((resChs s.nxt f.rs (hFst f.rs (outs f.ps) (toH _ r)) ++ backs s f.ps xs.toList (hSnd f.rs (outs f.ps) (toH _ r))).map _) ++ C)
    rw [List.map_append]
    exact b1.perm (perm_back _ _ _ _)
theorem argsR_ok {J J' : Hp} {θ : Th} (hf : Fine P w0 J θ s) (hJ : J.le J') : ∀ {ts : List Ty} {xs : List Operand} {r : denH ts × List Hdr}, argsR s ts xs = some r → Lent J' θ s.chs r.2 → RArgs J' ts (xs.map (evL (envL θ s))) r.1
  | [], [], r, h, _ => by obtain rfl := Option.some.inj (show some _ = some r from h); exact Eq.refl _
  | t :: ts, x :: xs, r, h, hl => by
    obtain ⟨v, hv', h⟩ := bind_some (show (opd s x).bind _ = some r from h)
    obtain ⟨a, ha, h⟩ := bind_some h
    obtain ⟨q, hq, h⟩ := bind_some h
    obtain rfl := Option.some.inj h
    obtain ⟨cs, c1, c2⟩ := lendAv_ok ha (AV.ok_same Same.rfl (Nat.le_refl _) Newer.rfl (opd_ok hf hv') hJ) hl.l
    rw [← opd_ev (θ := θ) hv'] at c1
    exact ⟨_, cs, _, rfl, c1, c2, argsR_ok hf hJ hq hl.r⟩
  | [], _ :: _, r, h, _ => by cases h
  | _ :: _, [], r, h, _ => by cases h
theorem sCallV_ok (hF : FTok P ft) {t : Nat} {xs : Array Operand} {ts : Array TypeId} (ho : o.op = .call { callee := .value (.tmp t), args := xs, argTypes := ts }) (h : sCallV ft s k t xs.toList = some res) : Oks P w0 s o k res := by
  obtain ⟨y, hy, h⟩ := bind_some h
  obtain ⟨ab, hab, h⟩ := bind_some h
  obtain ⟨q, hq, h⟩ := bind_some h
  obtain ⟨d, hd, h⟩ := bind_some h
  obtain ⟨pl, hpl, h⟩ := bind_some h
  obtain ⟨hc1, h⟩ := chkT_ok h
  obtain ⟨r, hr, h⟩ := bind_some h
  have hy : look s.env t = some (.one y) := by
    unfold sCallV.oneOf0 at hy
    split at hy
    · rename_i x hx
      rw [hx, Option.some.inj hy]
    · cases hy
  obtain ⟨p2, e2⟩ := pullAll_ok hpl
  refine ⟨_, h, by simpa using p2, fun J θ hf g hg ver c hs => (easy_says (resChs_easy _ _ g hg) hs).elim, fun J θ hf => ?_⟩
  have hyo : y.ok P w0 J θ s.nxt := opd_ok (x := .tmp t) hf hy
  have h1 : OpT P J w0 o (evL (envL θ s)) (pl.1.map (toCh P θ) ++ []) (resFa ab.2) (fun v => pl.1.map (toCh P θ) ++ resGv ab.2 (toH _ r) v) := by
    refine OpT_lend (fun v => resGv_deep _ _ hc1) fun J' hJ hrd hbl => ?_
    have hl := lent_of (s := s) e2 (fun e he => p2.mem_iff.2 (by simp [he])) hrd hbl
    obtain ⟨kk, first, capt, h3, h4, h5⟩ := fnOf_ok hF hf.chs hq hyo J' hJ hl.l
    have hcon := h5 J' Hp.le.rfl _ d.1 (argsR_ok hf hJ hd hl.r) r hr
    have hev : evL (envL θ s) (.tmp t) = .func (.func kk) first capt := (opd_ev (x := .tmp t) hy).trans h3
    exact opT_call h4 ho hev (by simp) hcon
  rw [List.append_nil] at h1
  show OpT P J w0 o _ ((pl.1 ++ []).map (toCh P θ)) _ _
  rw [List.append_nil]
  refine OpT.post h1 fun v w C hv0 hst => ?_
  have hst1 : St J w0 w (resGv ab.2 (toH _ r) v ++ (pl.1.map (toCh P θ) ++ C)) := by
    refine hst.perm ?_
    rw [List.append_assoc]
    exact List.perm_append_comm_assoc _ _ _
  obtain ⟨q1, q2, q3, q4⟩ := res_fine (P := P) (m := s.nxt) (θ := upd θ s.nxt v) (n := s.nxt + 1) (chs := Res.chs ⟨pl.1, [], pl.2, resChs s.nxt ab.2 (toH _ r), resAv s.nxt ab.2 (toH _ r)⟩ s.nxt) (Nat.lt_succ_self _) (upd_self (vs := θ) (i := s.nxt) (v := v)) ab.2 (toH _ r) _ hc1 hv0 hst1
  refine ⟨⟨q1, q2, fun g hg => easy_ok (resChs_easy _ _ g hg) (by rw [q3 g hg]; exact Nat.lt_succ_self _) (Nat.lt_succ_self _)⟩, ?_⟩
  show St J w0 w (pl.1.map (toCh P θ) ++ ((resChs s.nxt ab.2 (toH _ r)).map _) ++ C)
  refine q4.perm ?_
  rw [List.append_assoc]
  exact List.perm_append_comm_assoc _ _ _
end

/-! ### Function values made; what is frozen, read -/
section
variable {Y : Type} (tt : TT) (s : Sg) (k : Res → Option Y)
def partOfAv : AV → Option (Bool × List LV)
  | .one x => some (false, [x])
  | .agg xs => some (true, xs)
  | _ => none
def partsAv (s : Sg) : List Operand → Option (List (Bool × List LV))
  | [] => some []
  | x :: xs => (opd s x).bind fun v => (partOfAv v).bind fun y => (partsAv s xs).bind fun ys => some (y :: ys)
def onesAv (s : Sg) : List Operand → Option (List LV)
  | [] => some []
  | x :: xs => match opd s x with
    | some (.one y) => (onesAv s xs).bind fun ys => some (y :: ys)
    | _ => none
def sMakeF (fn : Fn) (first captured : Array Operand) : Option Y := match fn with
  | .func g => (partsAv s first.toList).bind fun ys => (onesAv s captured.toList).bind fun xs => k ⟨[], [], s.chs, [(⟨s.nxt, []⟩, .clo g ys xs)], .one (.own ⟨s.nxt, []⟩)⟩
  | _ => none
def sLoadZ (T : TypeId) (x : Operand) : Option Y := (td tt T).bind fun d => match opd s x with
  | some (.one (.fz h T' t a off)) => (fldAt d.agg t off d.n).bind fun p => chkT (p.ty.isProd == d.agg) (k (.pure s (avRd s.nxt p.ty (p.get a))))
  | some (.one (.fzf h T' ps rs e)) => chkT (Nat.beq d.n 1 && !d.agg) (k (.pure s (.one (.fn ⟨s.nxt, []⟩ ps rs e))))
  | _ => none
def sFieldZ (T : TypeId) (x : Operand) (f : Nat) : Option Y := (td tt T).bind fun d => (d.fields[f]?).bind fun q => match opd s x with
  | some (.one (.fz h T' t a off)) => k (.pure s (.one (.fz h T' t a (off + q.1))))
  | _ => none
end
section
variable {Y : Type} {tt : TT} {s : Sg} {k : Res → Option Y} {P : Program} {w0 : World} {o : Oper} {res : Y} {x : Operand}
theorem partsAv_ok {J : Hp} {θ : Th} (hf : Fine P w0 J θ s) : ∀ {l : List Operand} {ys : List (Bool × List LV)}, partsAv s l = some ys → l.map (evL (envL θ s)) = ys.map (partV θ) ∧ ∀ y ∈ ys, ∀ x ∈ y.2, x.ok P w0 J θ s.nxt
  | [], ys, h => by obtain rfl := Option.some.inj (show some _ = some ys from h); exact ⟨rfl, fun y hy => by cases hy⟩
  | x :: l, ys, h => by
    obtain ⟨v, hv', h⟩ := bind_some (show (opd s x).bind _ = some ys from h)
    obtain ⟨y, hy, h⟩ := bind_some h
    obtain ⟨zs, hz, h⟩ := bind_some h
    obtain rfl := Option.some.inj h
    obtain ⟨k1, k2⟩ := partsAv_ok hf hz
    have hvo := opd_ok hf hv'
    have hev := opd_ev (θ := θ) hv'
    have key : v.v θ = partV θ y ∧ ∀ x ∈ y.2, x.ok P w0 J θ s.nxt := by
      cases v with
      | one z => obtain rfl := Option.some.inj (show some _ = some y from hy); exact ⟨rfl, fun x hx => by obtain rfl := List.mem_singleton.1 hx; exact hvo⟩
      | agg zs => obtain rfl := Option.some.inj (show some _ = some y from hy); exact ⟨rfl, hvo⟩
      | _ => cases hy
    refine ⟨by rw [List.map_cons, List.map_cons, k1, hev, key.1], fun z hz => ?_⟩
    rcases List.mem_cons.1 hz with rfl | hz
    · exact key.2
    · exact k2 z hz
theorem onesAv_ok {J : Hp} {θ : Th} (hf : Fine P w0 J θ s) : ∀ {l : List Operand} {ys : List LV}, onesAv s l = some ys → l.map (evL (envL θ s)) = ys.map (·.v θ) ∧ ∀ x ∈ ys, x.ok P w0 J θ s.nxt
  | [], ys, h => by obtain rfl := Option.some.inj (show some _ = some ys from h); exact ⟨rfl, fun y hy => by cases hy⟩
  | x :: l, ys, h => by
    unfold onesAv at h
    split at h
    · rename_i y hy
      obtain ⟨zs, hz, h⟩ := bind_some h
      obtain rfl := Option.some.inj h
      obtain ⟨k1, k2⟩ := onesAv_ok hf hz
      have hvo := opd_ok hf hy
      refine ⟨by rw [List.map_cons, List.map_cons, k1, opd_ev (θ := θ) hy]; rfl, fun z hz => ?_⟩
      rcases List.mem_cons.1 hz with rfl | hz
      · exact hvo
      · exact k2 z hz
    · cases h
theorem sMakeF_ok {fn : Fn} {first captured : Array Operand} (ho : o.op = .makeFunc fn first captured) (h : sMakeF s k fn first captured = some res) : Oks P w0 s o k res := by
  cases fn with
  | func g =>
    obtain ⟨ys, hys, h⟩ := bind_some (show (partsAv s first.toList).bind _ = some res from h)
    obtain ⟨xs, hxs, h⟩ := bind_some h
    refine ⟨_, h, List.Perm.refl _, says_plain rfl, fun J θ hf => ?_⟩
    obtain ⟨k1, k2⟩ := partsAv_ok hf hys
    obtain ⟨k3, k4⟩ := onesAv_ok hf hxs
    refine OpT.post (opT_make_func ho rfl) fun v w C hv0 hst => ?_
    rw [k1, k3] at hv0
    have hh : hv (upd θ s.nxt v) ⟨s.nxt, []⟩ = v := upd_self
    refine ⟨⟨⟨Nat.lt_succ_self _, by rw [hh, hv0]; rfl⟩, hh, fun g hg => ?_⟩, ?_⟩
    · obtain rfl := List.mem_singleton.1 hg
      refine ⟨Nat.lt_succ_self _, Nat.lt_succ_self _, fun y hy x hx => LV.ok_same Same.upd (Nat.le_succ _) (k2 y hy x hx) Hp.le.rfl, fun x hx => LV.ok_same Same.upd (Nat.le_succ _) (k4 x hx) Hp.le.rfl, ?_⟩
      rw [hh, map_v_same Same.upd k4, List.map_congr_left fun y hy => partV_same Same.upd (k2 y hy)]
      exact hv0
    · exact St.emp.2 hst
  | _ => cases h
theorem sLoadZ_ok (hT : TTok P tt) {T : TypeId} (ho : o.op = .load T x) (h : sLoadZ tt s k T x = some res) : Oks P w0 s o k res := by
  unfold sLoadZ at h
  obtain ⟨d, hd, h⟩ := bind_some h
  have hdk := hT.get hd
  split at h
  · rename_i hh T' t a off hx
    obtain ⟨p, hp, h⟩ := bind_some h
    obtain ⟨hg, h⟩ := chkT_ok h
    have hg : p.ty.isProd = d.agg := by simpa using hg
    have hp := fldAt_ok _ _ _ _ hp
    refine ⟨_, h, List.Perm.refl _, says_plain rfl, fun J θ hf => ?_⟩
    obtain ⟨h1, cells, h2, h3⟩ := opd_ok hf hx
    obtain ⟨c, e1, e2⟩ := hp.fld J cells a h3
    have hl : c.length = d.n := (p.ty.rep.rd_len e2).trans (p.ty.rep_size.trans hp.size)
    have e1' : (cells.drop off).take d.n = c := by rw [← hp.size, ← p.ty.rep_size]; exact e1
    refine OpT.weak (opT_load_fro h2 hdk.ti ho (opd_ev (θ := θ) hx) hdk.one e1' hl rfl) (fun v hv0 => ?_) (fun v hv0 => rfl)
    have hlds : Lds p.ty.isProd c v := by
      rw [hg]
      cases hb : d.agg with
      | true => rw [hb] at hv0; exact hv0
      | false =>
        rw [hb] at hv0
        have h1' : d.n = 1 := by
          have := hdk.one
          rw [hb] at this
          simpa using this
        obtain ⟨u, rfl⟩ := List.length_eq_one_iff.1 (hl.trans h1')
        rw [show v = u from hv0]; rfl
    have := avRd_fine (P := P) (w0 := w0) (J := J) (θ := upd θ s.nxt v) (id := s.nxt) (n := s.nxt + 1) (chs := (Res.pure s (avRd s.nxt p.ty (p.get a))).chs s.nxt) (Nat.lt_succ_self _) upd_self p.ty (p.get a) c e2 hlds
    exact ⟨this.1, this.2, fun g hg => by cases hg⟩
  · rename_i hh T' ps rs e hx
    obtain ⟨hn, h⟩ := chkT_ok h
    rw [Bool.and_eq_true] at hn
    have hn1 := Nat.eq_of_beq_eq_true hn.1
    have hn2 : d.agg = false := by simpa using hn.2
    refine ⟨_, h, List.Perm.refl _, says_plain rfl, fun J θ hf => ?_⟩
    obtain ⟨h1, u, h2, h3⟩ := opd_ok hf hx
    refine OpT.weak (opT_load_fro (d := [u]) (u := u) h2 hdk.ti ho (opd_ev (θ := θ) hx) hdk.one (by rw [hn1]; rfl) (by rw [hn1]; rfl) (by rw [hn2]; rfl)) (fun v hv0 => ?_) (fun v hv0 => rfl)
    subst hv0
    have hh : hv (upd θ s.nxt v) ⟨s.nxt, []⟩ = v := upd_self
    exact ⟨⟨Nat.lt_succ_self _, by rw [hh]; exact h3⟩, hh, fun g hg => by cases hg⟩
  · cases h
theorem sFieldZ_ok (hT : TTok P tt) {T : TypeId} {f : Nat} (ho : o.op = .fieldAddr T x f) (h : sFieldZ tt s k T x f = some res) : Oks P w0 s o k res := by
  unfold sFieldZ at h
  obtain ⟨d, hd, h⟩ := bind_some h
  obtain ⟨q, hq, h⟩ := bind_some h
  have hf := (hT.get hd).fld f q hq
  split at h
  · rename_i hh T' t a off hx
    exact ⟨_, h, good_val (fun J θ hF => opT_field_addr hf ho (opd_ev (θ := θ) hx)) fun J θ hF => (by have := opd_ok hF hx; exact this)⟩
  · cases h
end
end Go.Proofs.Ytfkocnnphjkmfaa.R
