/- Calls: arguments, what comes back; function values made; what is frozen, read; boxes opened. No program text is named here. -/
import Derived.Test.YtfkocnnphjkmfaaRJ
set_option linter.unusedVariables false
set_option linter.unusedSimpArgs false
set_option linter.unnecessarySimpa false
set_option linter.unusedSectionVars false
namespace Go.Proofs.Ytfkocnnphjkmfaa.R
open Go.RowKit
open Go.Proofs.Ytfkocnnphjkmfaa.D

def isAggA : AV → Bool
  | .agg _ => true
  | _ => false
theorem avCells_v {v : AV} {cs : List LV} (h : avCells v = some cs) {P : Program} {w0 : World} {J : Hp} {θ : Th} {n : Nat} {chs : List Ent} (hv' : v.ok P w0 J θ n chs) {b : Bool} (hb : isAggA v = b) : vcells b (v.v θ) = cs.map (·.v θ) ∧ isAggV (v.v θ) = b := by
  subst hb
  cases v with
  | agg xs =>
    obtain rfl := Option.some.inj (show some xs = some cs from h)
    exact ⟨rfl, rfl⟩
  | one x =>
    obtain rfl := Option.some.inj (show some [x] = some cs from h)
    refine ⟨rfl, ?_⟩
    have h1 : (x.v θ).oneCell' = true := LV.one (show LV.ok P w0 J θ n x from hv')
    show isAggV (x.v θ) = false
    generalize x.v θ = u at h1
    cases u <;> first | rfl | cases h1
  | _ => cases h
/-- what a pointer leads to, as owned data -/
def pullBox (h : Hdr) (T : TypeId) (t : Ty) (chs : List Ent) : Option (t.den × List Ent × List Ent) := (pull h chs).bind fun r => match r.1.2.2 with
  | .box T' t' d => chkT (Nat.beq T' T) ((castEq t' t d).bind fun d => some (d, [r.1], r.2))
  | .blk T' cells => chkT (Nat.beq T' T) ((takeData t cells r.2).bind fun q => chkT q.cells.isEmpty (some (q.d, r.1 :: q.used, q.rest)))
  | _ => none
theorem sep_box {I : Hp} {w : World} {F : List Nat} {ls : List Ch} {α : Type} {R : Rep α} {b : Nat} {T : TypeId} {cells : List Value} {d : α} (h : Sep I (Ch.blk b cells T :: ls) w F) (k : Bun I ls R cells d) : (Ch.box b T R d).holds I w F := by
  obtain ⟨G, K, rfl, ⟨rfl, h1⟩, h2⟩ := h
  exact ⟨cells, K, rfl, h1, k w K h2⟩
section
variable {P : Program} {w0 : World} {J J' : Hp} {θ θ' : Th} {n m : Nat} {chs chs0 : List Ent}
theorem pullBox_ok {h : Hdr} {T : TypeId} {t : Ty} {q : t.den × List Ent × List Ent} (k : pullBox h T t chs = some q) (hJ : J.le J') (hc : ∀ e ∈ chs, okE P w0 J θ n chs0 e) : chs.Perm (q.2.1 ++ q.2.2) ∧ ∀ w F, Sep J' (q.2.1.map (toCh P θ)) w F → (Ch.box (bk (hv θ h)) T t.rep q.1).holds J' w F := by
  obtain ⟨r, hr, k⟩ := bind_some k
  obtain ⟨p, e⟩ := pull_ok hr
  obtain ⟨⟨h', ver, c⟩, rest⟩ := r
  obtain rfl : h' = h := e
  cases c with
  | box T' t' d =>
    obtain ⟨hT, k⟩ := chkT_ok (show chkT (Nat.beq T' T) _ = some q from k)
    obtain ⟨d', hd, k⟩ := bind_some k
    obtain rfl := Option.some.inj k
    obtain rfl := Nat.eq_of_beq_eq_true hT
    obtain ⟨rfl, rfl⟩ := castEq_ok hd
    refine ⟨p, fun w F hs => ?_⟩
    obtain ⟨G, K, rfl, h1, rfl⟩ := hs
    rw [List.append_nil]; exact h1
  | blk T' cells =>
    obtain ⟨hT, k⟩ := chkT_ok (show chkT (Nat.beq T' T) _ = some q from k)
    obtain ⟨q', hq, k⟩ := bind_some k
    obtain ⟨he, k⟩ := chkT_ok k
    obtain rfl := Option.some.inj k
    obtain rfl := Nat.eq_of_beq_eq_true hT
    have hok := hc _ (p.mem_iff.2 (List.mem_cons_self ..))
    obtain ⟨p2, c1, e1, e2⟩ := takeData_ok (J := J') (P := P) (w0 := w0) (θ := θ) (n := n) hq fun x hx => LV.ok_same Same.rfl (Nat.le_refl _) (hok.2.2 x hx) hJ
    rw [List.isEmpty_iff.1 he, List.append_nil] at e1
    subst e1
    exact ⟨p.trans (p2.cons _), fun w F hs => sep_box hs e2⟩
  | _ => cases k
/-! ### Arguments -/
structure Args (ps : List PM) where
  d : denP ps
  lent : List Hdr
  own : List Ent
  rest : List Ent
def argsOf (ft : FT) (s : Sg) : (chs : List Ent) → (ps : List PM) → List Operand → Option (Args ps)
  | chs, [], [] => some ⟨(), [], [], chs⟩
  | chs, .rd t :: ps, x :: xs => (opd s x).bind fun v => (lendAv s.chs t v).bind fun a => (argsOf ft s chs ps xs).bind fun r => some ⟨(a.1, r.d), a.2 ++ r.lent, r.own, r.rest⟩
  | chs, .ow t :: ps, x :: xs => (opd s x).bind fun v => chkT (isAggA v == t.isProd) ((avCells v).bind fun cs => (takeData t cs chs).bind fun q => chkT q.cells.isEmpty ((argsOf ft s q.rest ps xs).bind fun r => some ⟨(q.d, r.d), r.lent, q.used ++ r.own, r.rest⟩))
  | chs, .fn a b :: ps, x :: xs => match opd s x with
    | some (.one y) => (fnOf ft s.chs 4 a b y).bind fun q => (argsOf ft s chs ps xs).bind fun r => some ⟨(q.e, r.d), q.lent ++ r.lent, r.own, r.rest⟩
    | _ => none
  | chs, .ptr T t :: ps, x :: xs => match opd s x with
    | some (.one (.ptr h off)) => chkT (Nat.beq off 0) ((pullBox h T t chs).bind fun q => (argsOf ft s q.2.2 ps xs).bind fun r => some ⟨(q.1, r.d), r.lent, q.2.1 ++ r.own, r.rest⟩)
    | _ => none
  | _, _, _ => none
theorem argsOf_ok {ft : FT} {s : Sg} (hF : FTok P ft) (hf : Fine P w0 J θ s) (hJ : J.le J') : ∀ {ps : List PM} {xs : List Operand} {chs : List Ent} {r : Args ps}, argsOf ft s chs ps xs = some r → (∀ e ∈ chs, e ∈ s.chs) → Lent J' θ s.chs r.lent →
    PArgs P w0 J' ps (xs.map (evL (envL θ s))) r.d ∧ chs.Perm (r.own ++ r.rest) ∧ SepTo J' (r.own.map (toCh P θ)) (owCh ps (xs.map (evL (envL θ s))) r.d)
  | [], [], chs, r, h, _, _ => by
    obtain rfl := Option.some.inj (show some _ = some r from h)
    exact ⟨Eq.refl _, List.Perm.refl _, sepTo_nil⟩
  | .rd t :: ps, x :: xs, chs, r, h, hc, hl => by
    obtain ⟨v, hv', h⟩ := bind_some (show (opd s x).bind _ = some r from h)
    obtain ⟨a, ha, h⟩ := bind_some h
    obtain ⟨q, hq, h⟩ := bind_some h
    obtain rfl := Option.some.inj h
    obtain ⟨k1, k2, k3⟩ := argsOf_ok hF hf hJ hq hc hl.r
    obtain ⟨cs, c1, c2⟩ := lendAv_ok ha (AV.ok_same Same.rfl (Nat.le_refl _) Newer.rfl (opd_ok hf hv') hJ) hl.l
    rw [← opd_ev (θ := θ) hv'] at c1
    exact ⟨⟨_, _, rfl, ⟨cs, c1, c2⟩, k1⟩, k2, k3⟩
  | .ow t :: ps, x :: xs, chs, r, h, hc, hl => by
    obtain ⟨v, hv', h⟩ := bind_some (show (opd s x).bind _ = some r from h)
    obtain ⟨hg, h⟩ := chkT_ok h
    have hg : isAggA v = t.isProd := by simpa using hg
    obtain ⟨cs, hcs, h⟩ := bind_some h
    obtain ⟨q, hq, h⟩ := bind_some h
    obtain ⟨he, h⟩ := chkT_ok h
    obtain ⟨r', hr, h⟩ := bind_some h
    obtain rfl := Option.some.inj h
    have hvo := opd_ok hf hv'
    obtain ⟨c1, c2⟩ := avCells_v hcs hvo hg
    have hok := (avCells_ok hcs (AV.ok_same Same.rfl (Nat.le_refl _) Newer.rfl hvo hJ)).1
    obtain ⟨p, cc, e1, e2⟩ := takeData_ok (J := J') (θ := θ) hq hok
    rw [List.isEmpty_iff.1 he, List.append_nil] at e1
    subst e1
    obtain ⟨k1, k2, k3⟩ := argsOf_ok hF hf hJ hr (fun e h => hc e (p.mem_iff.2 (by simp [h]))) hl
    have hev := opd_ev (θ := θ) hv'
    refine ⟨⟨_, _, rfl, by rw [hev]; exact c2, k1⟩, by rw [List.append_assoc]; exact p.trans (k2.append_left _), ?_⟩
    show SepTo J' ((q.used ++ r'.own).map _) (Ch.own t.rep (vcells t.isProd (evL (envL θ s) x)) q.d :: _)
    rw [List.map_append, hev, c1]
    exact sepTo_bun e2 k3
  | .fn a b :: ps, x :: xs, chs, r, h, hc, hl => by
    unfold argsOf at h
    split at h
    · rename_i y hx
      obtain ⟨q, hq, h⟩ := bind_some h
      obtain ⟨r', hr, h⟩ := bind_some h
      obtain rfl := Option.some.inj h
      obtain ⟨k1, k2, k3⟩ := argsOf_ok hF hf hJ hr hc hl.r
      have hev := opd_ev (θ := θ) hx
      exact ⟨⟨_, _, rfl, by rw [hev]; exact fnOf_ok hF hf.chs hq (opd_ok hf hx) J' hJ hl.l, k1⟩, k2, k3⟩
    · cases h
  | .ptr T t :: ps, x :: xs, chs, r, h, hc, hl => by
    unfold argsOf at h
    split at h
    · rename_i hh off hx
      obtain ⟨ho, h⟩ := chkT_ok h
      obtain ⟨q, hq, h⟩ := bind_some h
      obtain ⟨r', hr, h⟩ := bind_some h
      obtain rfl := Option.some.inj h
      obtain rfl := Nat.eq_of_beq_eq_true ho
      obtain ⟨p, hb⟩ := pullBox_ok (P := P) (w0 := w0) (J := J) (J' := J') (θ := θ) (n := s.nxt) (chs0 := s.chs) hq hJ fun e he => hf.chs e (hc e he)
      obtain ⟨k1, k2, k3⟩ := argsOf_ok hF hf hJ hr (fun e h => hc e (p.mem_iff.2 (by simp [h]))) hl
      have hev : evL (envL θ s) x = .pointer (some ⟨bk (hv θ hh), 0, none⟩) := opd_ev (θ := θ) hx
      refine ⟨⟨_, _, rfl, ⟨_, hev⟩, k1⟩, by rw [List.append_assoc]; exact p.trans (k2.append_left _), ?_⟩
      show SepTo J' ((q.2.1 ++ r'.own).map _) (Ch.box (bk (evL (envL θ s) x)) T t.rep q.1 :: _)
      rw [List.map_append, hev]
      intro w F hs
      obtain ⟨G, K, rfl, h1, h2⟩ := hs.split
      exact ⟨G, K, rfl, hb w G h1, k3 w K h2⟩
    · cases h
  | .cap _ _ :: _, _ :: _, _, _, h, _, _ => by cases h
  | .capf _ _ _ :: _, _ :: _, _, _, h, _, _ => by cases h
  | [], _ :: _, _, r, h, _, _ => by cases h
  | .rd _ :: _, [], _, r, h, _, _ => by cases h
  | .ow _ :: _, [], _, r, h, _, _ => by cases h
  | .fn _ _ :: _, [], _, r, h, _, _ => by cases h
  | .ptr _ _ :: _, [], _, r, h, _, _ => by cases h
  | .cap _ _ :: _, [], _, _, h, _, _ => by cases h
  | .capf _ _ _ :: _, [], _, _, h, _, _ => by cases h

/-! ### What comes back -/
def outDp : List PM → Bool
  | [] => true
  | .ow t :: ps => t.dp && outDp ps
  | .ptr _ t :: ps => t.dp && outDp ps
  | _ :: ps => outDp ps
def backT : (t : Ty) → t.den → List LV → List (Hdr × Chk)
  | .prod a b, d, cs => backT a d.1 (cs.take a.size) ++ backT b d.2 (cs.drop a.size)
  | .wr t, d, cs => backT t d cs
  | .sl E t, d, cs => match cs with
    | .own h :: _ => [(h, .own (.sl E t) d)]
    | _ => []
  | _, _, _ => []
def backs (s : Sg) : (ps : List PM) → List Operand → denH (outs ps) → List (Hdr × Chk)
  | .ow t :: ps, x :: xs, d => ((opd s x).bind avCells |>.elim [] fun cs => backT t d.1 cs) ++ backs s ps xs d.2
  | .ptr T t :: ps, x :: xs, d => (match opd s x with
    | some (.one (.ptr h _)) => [(h, .box T t d.1)]
    | _ => []) ++ backs s ps xs d.2
  | .rd _ :: ps, _ :: xs, d => backs s ps xs d
  | .fn _ _ :: ps, _ :: xs, d => backs s ps xs d
  | .cap _ _ :: ps, _ :: xs, d => backs s ps xs d
  | .capf _ _ _ :: ps, _ :: xs, d => backs s ps xs d
  | _, _, _ => []
/-- an entry of which nothing is said besides -/
def Easy : Chk → Prop
  | .own _ _ => True
  | .box _ _ _ => True
  | _ => False
theorem easy_ok {g : Hdr × Chk} {ver : Nat} (h : Easy g.2) (h1 : g.1.id < n) (h2 : ver < n) : okE P w0 J θ n chs (g.1, ver, g.2) := by
  obtain ⟨a, c⟩ := g
  cases c with
  | own _ _ => exact ⟨h1, h2, trivial⟩
  | box _ _ _ => exact ⟨h1, h2, trivial⟩
  | _ => exact h.elim
theorem backT_ok {w : World} : ∀ {t : Ty} {d : t.den} {cs : List LV} {C : List Ch}, St J w0 w (Ch.own t.rep (cs.map (·.v θ)) d :: C) → (∀ x ∈ cs, x.ok P w0 J θ' n) → (∀ x ∈ cs, x.v θ' = x.v θ) →
    St J w0 w ((backT t d cs).map (fun g => toCh P θ' (g.1, m, g.2)) ++ C) ∧ ∀ g ∈ backT t d cs, Easy g.2 ∧ g.1.id < n := by
  intro t
  induction t with
  | prod a b iha ihb =>
    intro d cs C h hc hv0
    obtain ⟨c1, c2, e, hl, h⟩ := own_prod h
    rw [a.rep_size] at hl
    have e1 : c1 = (cs.take a.size).map (·.v θ) := by
      rw [List.map_take, e, ← hl, List.take_left]
    have e2 : c2 = (cs.drop a.size).map (·.v θ) := by
      rw [List.map_drop, e, ← hl, List.drop_left]
    rw [e1, e2] at h
    obtain ⟨k1, k2⟩ := iha h (fun x hx => hc x (List.mem_of_mem_take hx)) fun x hx => hv0 x (List.mem_of_mem_take hx)
    obtain ⟨k3, k4⟩ := ihb (k1.perm List.perm_middle) (fun x hx => hc x (List.mem_of_mem_drop hx)) fun x hx => hv0 x (List.mem_of_mem_drop hx)
    refine ⟨?_, fun g hg => ?_⟩
    · show St J w0 w ((backT a d.1 _ ++ backT b d.2 _).map _ ++ C)
      rw [List.map_append]
      refine k3.perm ?_
      rw [List.append_assoc]
      exact List.perm_append_comm_assoc _ _ _
    · rcases List.mem_append.1 hg with hg | hg
      · exact k2 g hg
      · exact k4 g hg
  | wr t ih =>
    intro d cs C h hc hv0
    exact ih h hc hv0
  | sl E t ih =>
    intro d cs C h hc hv0
    cases cs with
    | nil => exact ⟨h.tail, fun g hg => by cases hg⟩
    | cons x l =>
      cases x with
      | own hh =>
        have hone : l = [] := by
          obtain ⟨h1, h2, F, ⟨G, K, rfl, k, e⟩, h4, h5⟩ := h
          have := (Ty.sl E t).rep.own_len k
          have h3 : ((LV.own hh :: l).map (·.v θ)).length = 1 := this
          simpa using h3
        subst hone
        refine ⟨?_, fun g hg => ?_⟩
        · have := hv0 (.own hh) (by simp)
          show St J w0 w (Ch.own _ [hv θ' hh] d :: C)
          rw [show hv θ' hh = hv θ hh from this]; exact h
        · obtain rfl := List.mem_singleton.1 hg
          exact ⟨trivial, (hc (.own hh) (by simp)).1⟩
      | _ => exact ⟨h.tail, fun g hg => by cases hg⟩
  | _ =>
    intro d cs C h hc hv0
    exact ⟨h.tail, fun g hg => by cases hg⟩
theorem backs_ok {w : World} {s : Sg} (hf : Fine P w0 J θ s) (hs : Same s.nxt θ θ') (hm : s.nxt ≤ m) : ∀ {ps : List PM} {xs : List Operand} {ft : FT} {chs : List Ent} {r : Args ps} (d : denH (outs ps)) {C : List Ch}, argsOf ft s chs ps xs = some r → St J w0 w (outCh ps (xs.map (evL (envL θ s))) d ++ C) →
    St J w0 w ((backs s ps xs d).map (fun g => toCh P θ' (g.1, m, g.2)) ++ C) ∧ ∀ g ∈ backs s ps xs d, Easy g.2 ∧ g.1.id < s.nxt
  | [], [], ft, chs, r, d, C, h, hst => ⟨hst, fun g hg => by cases hg⟩
  | .rd t :: ps, x :: xs, ft, chs, r, d, C, h, hst => by
    obtain ⟨v, hv', h⟩ := bind_some (show (opd s x).bind _ = some r from h)
    obtain ⟨a, ha, h⟩ := bind_some h
    obtain ⟨q, hq, h⟩ := bind_some h
    exact backs_ok hf hs hm (ps := ps) d hq hst
  | .ow t :: ps, x :: xs, ft, chs, r, d, C, h, hst => by
    obtain ⟨v, hv', h⟩ := bind_some (show (opd s x).bind _ = some r from h)
    obtain ⟨hg, h⟩ := chkT_ok h
    have hg : isAggA v = t.isProd := by simpa using hg
    obtain ⟨cs, hcs, h⟩ := bind_some h
    obtain ⟨q, hq, h⟩ := bind_some h
    obtain ⟨he, h⟩ := chkT_ok h
    obtain ⟨r', hr, h⟩ := bind_some h
    have hvo := opd_ok hf hv'
    obtain ⟨c1, c2⟩ := avCells_v hcs hvo hg
    have hok := (avCells_ok hcs hvo).1
    have hst : St J w0 w (Ch.own t.rep (vcells t.isProd (evL (envL θ s) x)) d.1 :: (outCh ps (xs.map (evL (envL θ s))) d.2 ++ C)) := hst
    rw [opd_ev (θ := θ) hv', c1] at hst
    obtain ⟨k1, k2⟩ := backT_ok (P := P) (θ' := θ') (n := s.nxt) (m := m) hst (fun x hx => LV.ok_same hs (Nat.le_refl _) (hok x hx) Hp.le.rfl) fun x hx => LV.v_same hs (hok x hx)
    obtain ⟨k3, k4⟩ := backs_ok hf hs hm (ps := ps) d.2 hr (k1.perm (List.perm_append_comm_assoc _ _ _))
    have hb : (opd s x).bind avCells = some cs := by rw [hv']; exact hcs
    have hbk : backs s (.ow t :: ps) (x :: xs) d = backT t d.1 cs ++ backs s ps xs d.2 := by
      show ((opd s x).bind avCells |>.elim [] fun cs => backT t d.1 cs) ++ _ = _
      rw [hb]; rfl
    rw [hbk]
    refine ⟨?_, fun g hg => ?_⟩
    · rw [List.map_append]
      refine k3.perm ?_
      rw [List.append_assoc]
      exact List.perm_append_comm_assoc _ _ _
    · rcases List.mem_append.1 hg with hg | hg
      · exact k2 g hg
      · exact k4 g hg
  | .fn a b :: ps, x :: xs, ft, chs, r, d, C, h, hst => by
    unfold argsOf at h
    split at h
    · obtain ⟨q, hq, h⟩ := bind_some h
      obtain ⟨r', hr, h⟩ := bind_some h
      exact backs_ok hf hs hm (ps := ps) d hr hst
    · cases h
  | .ptr T t :: ps, x :: xs, ft, chs, r, d, C, h, hst => by
    unfold argsOf at h
    split at h
    · rename_i hh off hx
      obtain ⟨ho, h⟩ := chkT_ok h
      obtain ⟨q, hq, h⟩ := bind_some h
      obtain ⟨r', hr, h⟩ := bind_some h
      obtain rfl := Nat.eq_of_beq_eq_true ho
      have hev : evL (envL θ s) x = .pointer (some ⟨bk (hv θ hh), 0, none⟩) := opd_ev (θ := θ) hx
      have hid : hh.id < s.nxt := opd_ok hf hx
      have hst : St J w0 w (Ch.box (bk (evL (envL θ s) x)) T t.rep d.1 :: (outCh ps (xs.map (evL (envL θ s))) d.2 ++ C)) := hst
      rw [hev] at hst
      obtain ⟨k3, k4⟩ := backs_ok hf hs hm (ps := ps) (C := Ch.box (bk (hv θ hh)) T t.rep d.1 :: C) d.2 hr (hst.perm List.perm_middle.symm)
      have hbk : backs s (.ptr T t :: ps) (x :: xs) d = [(hh, .box T t d.1)] ++ backs s ps xs d.2 := by
        show (match opd s x with | some (.one (.ptr h _)) => [(h, Chk.box T t d.1)] | _ => []) ++ _ = _
        rw [hx]
      rw [hbk]
      refine ⟨?_, fun g hg => ?_⟩
      · show St J w0 w (Ch.box (bk (hv θ' hh)) T t.rep d.1 :: ((backs s ps xs d.2).map _ ++ C))
        rw [hv_same hs hid]
        exact k3.perm List.perm_middle
      · rcases List.mem_append.1 hg with hg | hg
        · obtain rfl := List.mem_singleton.1 hg
          exact ⟨trivial, hid⟩
        · exact k4 g hg
    · cases h
  | .cap _ _ :: _, _ :: _, _, _, _, _, _, h, _ => by cases h
  | .capf _ _ _ :: _, _ :: _, _, _, _, _, _, h, _ => by cases h
  | [], _ :: _, _, _, _, _, _, h, _ => by cases h
  | .rd _ :: _, [], _, _, _, _, _, h, _ => by cases h
  | .ow _ :: _, [], _, _, _, _, _, h, _ => by cases h
  | .fn _ _ :: _, [], _, _, _, _, _, h, _ => by cases h
  | .ptr _ _ :: _, [], _, _, _, _, _, h, _ => by cases h
  | .cap _ _ :: _, [], _, _, _, _, _, h, _ => by cases h
  | .capf _ _ _ :: _, [], _, _, _, _, _, h, _ => by cases h
end
end Go.Proofs.Ytfkocnnphjkmfaa.R
