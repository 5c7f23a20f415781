/- A function's start and its results; what is known of it. No program text is named here. -/
import Derived.Test.YtfkocnnphjkmfaaRN
set_option linter.unusedVariables false
set_option linter.unusedSimpArgs false
set_option linter.unnecessarySimpa false
set_option linter.unusedSectionVars false
namespace Go.Proofs.Ytfkocnnphjkmfaa.R
open Go.RowKit
open Go.Proofs.Ytfkocnnphjkmfaa.D

/-! ### The start -/
def startA (i : Nat) : (p : PM) → p.den → AV
  | .rd t, d => avRd i t d
  | .ow t, d => oneAv (partAv i [] t d)
  | .fn a b, d => .one (.fn ⟨i, []⟩ a b d)
  | .cap T t, d => .one (.fz ⟨i, []⟩ T t d 0)
  | .capf T a b, d => .one (.fzf ⟨i, []⟩ T a b d)
  | .ptr _ _, _ => .one (.ptr ⟨i, []⟩ 0)
def startG (i : Nat) : (p : PM) → p.den → List (Hdr × Chk)
  | .ow t, d => partChs i [] t d
  | .ptr T t, d => [(⟨i, []⟩, .box T t d)]
  | _, _ => []
def startE : (i : Nat) → (ps : List PM) → denP ps → List (Nat × Nat × AV)
  | _, [], _ => []
  | i, p :: ps, d => (i, i, startA i p d.1) :: startE (i + 1) ps d.2
def startC : (i : Nat) → (ps : List PM) → denP ps → List Ent
  | _, [], _ => []
  | i, p :: ps, d => (startG i p d.1).map (fun g => (g.1, i, g.2)) ++ startC (i + 1) ps d.2
def startS (ps : List PM) (d : denP ps) : Sg := ⟨startE 0 ps d, startC 0 ps d, ps.length⟩
/-- the cells of what was handed over -/
def StF1 (P : Program) (w0 : World) (J : Hp) (θ : Th) (n i : Nat) : (p : PM) → Value → p.den → Prop
  | .ow t, v, d => (partAv i [] t d).2.map (·.v θ) = vcells t.isProd v ∧ ∀ x ∈ (partAv i [] t d).2, x.ok P w0 J θ n
  | .ptr _ _, v, _ => hv θ ⟨i, []⟩ = v ∧ i < n
  | _, _, _ => True
def StF (P : Program) (w0 : World) (J : Hp) (θ : Th) (n : Nat) : (i : Nat) → (ps : List PM) → List Value → denP ps → Prop
  | i, p :: ps, v :: vs, d => StF1 P w0 J θ n i p v d.1 ∧ StF P w0 J θ n (i + 1) ps vs d.2
  | _, _, _, _ => True
section
variable {P : Program} {w0 w : World} {J : Hp} {θ : Th} {n : Nat} {C : List Ch}
theorem partChs_easy {id : Nat} {pre : List Nat} {t : Ty} {d : t.den} : ∀ g ∈ partChs id pre t d, Easy g.2 := chsOwn_easy t d 0
/-- one parameter -/
theorem startA_ok {p : PM} {i : Nat} {v : Value} {d : p.den} {ps : List PM} {vs : List Value} {e : denP ps} (hi : i < n) (hθ : θ i = v) (h : PArg P w0 J p v d) (hS : St J w0 w (owCh (p :: ps) (v :: vs) (d, e) ++ C)) :
    (∀ chs, (startA i p d).ok P w0 J θ n chs) ∧ (startA i p d).v θ = v ∧ St J w0 w ((startG i p d).map (fun g => toCh P θ (g.1, i, g.2)) ++ (owCh ps vs e ++ C)) ∧ (∀ g ∈ startG i p d, Easy g.2 ∧ g.1.id = i) ∧ StF1 P w0 J θ n i p v d := by
  cases p with
  | rd t =>
    obtain ⟨cs, h1, h2⟩ := h
    have hav := fun chs => avRd_fine (P := P) (w0 := w0) (J := J) (chs := chs) hi hθ t d cs h2 h1
    exact ⟨fun chs => (hav chs).1, (hav []).2, hS, fun g hg => (by cases hg), trivial⟩
  | fn a b =>
    have hh : hv θ ⟨i, []⟩ = v := hθ
    exact ⟨fun chs => ⟨hi, by rw [hh]; exact h⟩, hh, hS, fun g hg => (by cases hg), trivial⟩
  | cap T t =>
    obtain ⟨b, rfl, cells, h1, h2⟩ := h
    have hh : hv θ ⟨i, []⟩ = .pointer (some ⟨b, 0, none⟩) := hθ
    refine ⟨fun chs => ⟨hi, cells, by rw [hh]; exact h1, h2⟩, ?_, hS, fun g hg => (by cases hg), trivial⟩
    show Value.pointer (some ⟨bk (hv θ ⟨i, []⟩), 0, none⟩) = _
    rw [hh]; rfl
  | capf T x y =>
    obtain ⟨b, rfl, u, h1, h2⟩ := h
    have hh : hv θ ⟨i, []⟩ = .pointer (some ⟨b, 0, none⟩) := hθ
    refine ⟨fun chs => ⟨hi, u, by rw [hh]; exact h1, h2⟩, ?_, hS, fun g hg => (by cases hg), trivial⟩
    show Value.pointer (some ⟨bk (hv θ ⟨i, []⟩), 0, none⟩) = _
    rw [hh]; rfl
  | ptr T t =>
    obtain ⟨b, rfl⟩ := h
    have hh : hv θ ⟨i, []⟩ = .pointer (some ⟨b, 0, none⟩) := hθ
    refine ⟨fun chs => hi, ?_, ?_, fun g hg => by obtain rfl := List.mem_singleton.1 hg; exact ⟨trivial, rfl⟩, hh, hi⟩
    · show Value.pointer (some ⟨bk (hv θ ⟨i, []⟩), 0, none⟩) = _
      rw [hh]; rfl
    · show St J w0 w (Ch.box (bk (hv θ ⟨i, []⟩)) T t.rep d :: _)
      rw [hh]; exact hS
  | ow t =>
    have hS : St J w0 w (Ch.own t.rep (vcells t.isProd v) d :: (owCh ps vs e ++ C)) := hS
    obtain ⟨k1, k2, k3, k4, k5⟩ := part_fine (P := P) (m := i) (pre := []) (id := i) (n := n) hi (show hv θ ⟨i, []⟩ = v from hθ) h hS
    have q := fun chs => oneAv_ok (P := P) (w0 := w0) (J := J) (θ := θ) (n := n) (chs := chs) (partAv i [] t d) (fun e => cellsOwn_one e) k1
    exact ⟨fun chs => (q chs).1, (q []).2.trans k3, k5, fun g hg => ⟨partChs_easy g hg, k4 g hg⟩, k2, k1⟩
theorem start_ok : ∀ {ps : List PM} {i : Nat} {vs : List Value} {d : denP ps} {C : List Ch}, PArgs P w0 J ps vs d → (∀ j v, vs[j]? = some v → θ (i + j) = v) → i + ps.length ≤ n → St J w0 w (owCh ps vs d ++ C) →
    (∀ e ∈ startE i ps d, (∀ chs, e.2.2.ok P w0 J θ n chs) ∧ i ≤ e.1 ∧ e.2.1 = e.1 ∧ e.1 < i + ps.length ∧ vs[e.1 - i]? = some (e.2.2.v θ)) ∧ ((startE i ps d).Pairwise fun a b => a.2.1 ≠ b.2.1) ∧ St J w0 w ((startC i ps d).map (toCh P θ) ++ C) ∧ (∀ e ∈ startC i ps d, ∀ chs, okE P w0 J θ n chs e) ∧ StF P w0 J θ n i ps vs d
  | [], i, vs, d, C, h, _, _, hS => by
    have h : vs = [] := h
    subst h
    exact ⟨fun e he => (by cases he), List.Pairwise.nil, hS, fun e he => (by cases he), trivial⟩
  | p :: ps, i, vs, d, C, h, hθ, hn, hS => by
    obtain ⟨v, r, rfl, h1, h3⟩ := h
    rw [List.length_cons] at hn
    obtain ⟨a1, a2, a3, a4, a5⟩ := startA_ok (n := n) (i := i) (θ := θ) (e := d.2) (show i < n by omega) (hθ 0 v rfl) h1 hS
    obtain ⟨k1, k2, k3, k4, k5⟩ := start_ok (i := i + 1) h3 (fun j u hj => by
      have := hθ (j + 1) u hj
      rwa [show i + (j + 1) = i + 1 + j from by omega] at this) (by omega) (a3.perm (List.perm_append_comm_assoc _ _ _))
    refine ⟨fun e he => ?_, List.pairwise_cons.2 ⟨fun e he hh => ?_, k2⟩, ?_, fun e he chs => ?_, a5, k5⟩
    · rcases List.mem_cons.1 he with rfl | he
      · exact ⟨a1, Nat.le_refl _, rfl, by rw [List.length_cons]; show i < _; omega, by show (v :: r)[i - i]? = _; rw [Nat.sub_self, a2]; rfl⟩
      · obtain ⟨q1, q2, q3, q4, q5⟩ := k1 e he
        refine ⟨q1, by omega, q3, by rw [List.length_cons]; omega, ?_⟩
        rw [show e.1 - i = (e.1 - (i + 1)) + 1 from by omega]; exact q5
    · have := k1 e he
      have hh : i = e.2.1 := hh
      omega
    · show St J w0 w (((startG i p d.1).map _ ++ startC (i + 1) ps d.2).map (toCh P θ) ++ C)
      rw [List.map_append, List.map_map]
      refine k3.perm ?_
      rw [List.append_assoc]
      exact List.perm_append_comm_assoc _ _ _
    · rcases List.mem_append.1 he with he | he
      · obtain ⟨g, hg, rfl⟩ := List.mem_map.1 he
        obtain ⟨g1, g2⟩ := a4 g hg
        exact easy_ok g1 (by omega) (by omega)
      · exact k4 e he chs
theorem pargs_len : ∀ {ps : List PM} {vs : List Value} {d : denP ps}, PArgs P w0 J ps vs d → vs.length = ps.length
  | [], vs, d, h => by
    have h : vs = [] := h
    subst h; rfl
  | p :: ps, vs, d, h => by
    obtain ⟨v, r, rfl, h1, h3⟩ := h
    simpa using pargs_len h3
end

/-! ### Results -/
def retAv (tt : TT) (s : Sg) : ResultVar → Option AV
  | .tmp t => look s.env t
  | .cell p T => (ptr0 (look s.env p)).bind fun h => (td tt T).bind fun d => (blkOf h s.chs).bind fun b => chkT (Nat.beq b.cells.length d.n) (avOf d.agg b.cells)
theorem ptr0_ok {v : Option AV} {h : Hdr} (k : ptr0 v = some h) : v = some (.one (.ptr h 0)) := by
  unfold ptr0 at k
  split at k
  · rename_i h' off
    split at k
    · rename_i ho
      rw [Nat.eq_of_beq_eq_true ho, Option.some.inj k]
    · cases k
  · cases k
section
variable {P : Program} {I : Hp} {w0 w : World} {F : Ch} {J : Hp} {θ : Th} {n : Nat} {s : Sg} {a : Act} {tt : TT}
theorem res_one (ha : Agr n a (envL θ s)) {t g : Nat} {T E : TypeId} {v : Value} {cs : List Ch} (h : (envL θ s).lookup t = some (.pointer (some ⟨g, 0, none⟩))) (hs : St J w0 w cs) (i : Nat) (hi : cs[i]? = some (Ch.blk g [v] E)) (hT : TI P T false 1) : resOf P a w (.cell t T) v := by
  refine ⟨_, ha.2.2 t _ h, ?_⟩
  have hg := hs.heap i hi
  have hc : w.cell? ⟨g, 0, none⟩ = some v := by simp [World.cell?, hg]
  simp [loadVar, Sem.run_bind, hT.run_agg, load, Sem.run, hc, Result.andThen]
theorem retAv_ok (hT : TTok P tt) (hS : Sim P I w0 F n J θ s a w) {r : ResultVar} {v : AV} (h : retAv tt s r = some v) : resOf P a w r (v.v θ) ∧ v.ok P w0 J θ s.nxt s.chs := by
  cases r with
  | tmp t => exact ⟨res_tmp hS.agr (look_envL h), opd_ok (x := .tmp t) hS.fine h⟩
  | cell p T =>
    obtain ⟨hh, h1, h⟩ := bind_some (show (ptr0 (look s.env p)).bind _ = some v from h)
    obtain ⟨d, hd, h⟩ := bind_some h
    obtain ⟨b, hb, h⟩ := bind_some h
    obtain ⟨hl, h⟩ := chkT_ok h
    have hl := Nat.eq_of_beq_eq_true hl
    have hp := blkOf_ok hb
    have hok := hS.fine.chs _ (hp.mem_iff.2 (List.mem_cons_self ..))
    obtain ⟨k1, k2⟩ := avOf_ok (chs := s.chs) h hok.2.2
    refine ⟨?_, k1⟩
    have hlk : (envL θ s).lookup p = some (.pointer (some ⟨bk (hv θ hh), 0, none⟩)) := look_envL (ptr0_ok h1)
    have hst := hS.st.perm ((hp.map (toCh P θ)).append_right [F])
    have hti := (hT.get hd).ti
    cases hagg : d.agg with
    | true =>
      rw [hagg] at k2 hti
      rw [← k2]
      exact res_cell hS.agr hlk hst 0 rfl hti (by rw [List.length_map]; exact hl)
    | false =>
      rw [hagg] at k2 hti h
      have h1' : d.n = 1 := by
        have := (hT.get hd).one
        rw [hagg] at this
        simpa using this
      obtain ⟨x, hx⟩ := List.length_eq_one_iff.1 (hl.trans h1')
      rw [h1'] at hti
      rw [hx] at k2
      rw [← k2]
      have hst2 : St J w0 w (Ch.blk (bk (hv θ hh)) [x.v θ] b.T :: (b.rest.map (toCh P θ) ++ [F])) := by
        have : (toCh P θ (b.ent hh)) = Ch.blk (bk (hv θ hh)) (b.cells.map (·.v θ)) b.T := rfl
        rw [hx] at this
        rw [← show toCh P θ (b.ent hh) = Ch.blk (bk (hv θ hh)) [x.v θ] b.T from this]
        exact hst
      exact res_one hS.agr hlk hst2 0 rfl hti
end

def takeRes : (ts : List Ty) → List AV → List Ent → Option (denH ts × List Ent × List Ent)
  | [], [], chs => some ((), [], chs)
  | t :: ts, v :: vs, chs => chkT (isAggA v == t.isProd) ((avCells v).bind fun cs => (takeData t cs chs).bind fun q => chkT q.cells.isEmpty ((takeRes ts vs q.rest).bind fun r => some ((q.d, r.1), q.used ++ r.2.1, r.2.2)))
  | _, _, _ => none
def resList : (ts : List Ty) → List Value → denH ts → List Ch
  | t :: ts, v :: vs, d => Ch.own t.rep (vcells t.isProd v) d.1 :: resList ts vs d.2
  | _, _, _ => []
theorem takeRes_ok {P : Program} {w0 : World} {J : Hp} {θ : Th} {n : Nat} {chs0 : List Ent} : ∀ {ts : List Ty} {vs : List AV} {chs : List Ent} {r : denH ts × List Ent × List Ent}, takeRes ts vs chs = some r → (∀ v ∈ vs, v.ok P w0 J θ n chs0) →
    chs.Perm (r.2.1 ++ r.2.2) ∧ vs.length = ts.length ∧ SepTo J (r.2.1.map (toCh P θ)) (resList ts (vs.map (·.v θ)) r.1) ∧ ∀ (i : Nat) t v, ts[i]? = some t → vs[i]? = some v → isAggV (v.v θ) = t.isProd
  | [], [], chs, r, h, _ => by
    obtain rfl := Option.some.inj (show some _ = some r from h)
    exact ⟨List.Perm.refl _, rfl, sepTo_nil, fun i t v ht => by simp at ht⟩
  | t :: ts, v :: vs, chs, r, h, hv' => by
    obtain ⟨ha, h⟩ := chkT_ok (show chkT (isAggA v == t.isProd) _ = some r from h)
    have ha : isAggA v = t.isProd := by simpa using ha
    obtain ⟨cs, hcs, h⟩ := bind_some h
    obtain ⟨q, hq, h⟩ := bind_some h
    obtain ⟨he, h⟩ := chkT_ok h
    obtain ⟨r', hr, h⟩ := bind_some h
    obtain rfl := Option.some.inj h
    obtain ⟨c1, c2⟩ := avCells_ok hcs (hv' v (by simp))
    obtain ⟨p, cc, e1, e2⟩ := takeData_ok (J := J) (θ := θ) hq c1
    rw [List.isEmpty_iff.1 he, List.append_nil] at e1
    subst e1
    obtain ⟨k1, k2, k3, k4⟩ := takeRes_ok hr fun x hx => hv' x (by simp [hx])
    have hcell : vcells t.isProd (v.v θ) = cs.map (·.v θ) ∧ isAggV (v.v θ) = t.isProd := by
      rw [← ha]
      cases v with
      | agg xs =>
        obtain rfl := Option.some.inj (show some xs = some cs from hcs)
        exact ⟨rfl, rfl⟩
      | one x =>
        obtain rfl := Option.some.inj (show some [x] = some cs from hcs)
        refine ⟨rfl, ?_⟩
        have h1 : (x.v θ).oneCell' = true := LV.one (show LV.ok P w0 J θ n x from hv' (.one x) (by simp))
        show isAggV (x.v θ) = false
        generalize x.v θ = u at h1
        cases u <;> first | rfl | cases h1
      | _ => cases hcs
    refine ⟨by rw [List.append_assoc]; exact p.trans (k1.append_left _), by rw [List.length_cons, List.length_cons, k2], ?_, fun i t' v' ht hv0 => ?_⟩
    · show SepTo J ((q.used ++ r'.2.1).map _) (Ch.own t.rep (vcells t.isProd (v.v θ)) q.d :: resList ts (vs.map _) r'.1)
      rw [List.map_append, hcell.1]
      exact sepTo_bun e2 k3
    · cases i with
      | zero =>
        obtain rfl : t = t' := by simpa using ht
        obtain rfl : v = v' := by simpa using hv0
        exact hcell.2
      | succ i => exact k4 i t' v' (by simpa using ht) (by simpa using hv0)
  | [], _ :: _, chs, r, h, _ => by cases h
  | _ :: _, [], chs, r, h, _ => by cases h

/-! ### The way out -/
def retV : List Value → Value
  | [v] => v
  | vs => .tuple vs.toArray
def AllRes (P : Program) (a : Act) (w : World) : List ResultVar → List Value → Prop
  | [], vs => vs = []
  | r :: rs, vs => ∃ v us, vs = v :: us ∧ resOf P a w r v ∧ AllRes P a w rs us
theorem run_mapM_res {P : Program} {a : Act} {w : World} {f : ResultVar → Sem Value} (hf : ∀ r v, resOf P a w r v → (f r).run P w = .ok v w) : ∀ {l : List ResultVar} {vs : List Value}, AllRes P a w l vs → (l.mapM f).run P w = .ok vs w
  | [], vs, h => by
    have h : vs = [] := h
    subst h
    rw [List.mapM_nil]; rfl
  | r :: l, vs, h => by
    obtain ⟨v, us, rfl, h1, h2⟩ := h
    rw [List.mapM_cons, Sem.run_bind, hf r v h1]
    simp only [Result.andThen_ok, Sem.run_bind, run_mapM_res hf h2]
    rfl
def resF (a : Act) (r : ResultVar) : Sem Value := match r with
  | .tmp t => pure (a.tmps.getD t undef)
  | .cell p t => do loadVar t (← asAddr (a.tmps.getD p undef))
theorem resF_ok {P : Program} {a : Act} {w : World} {r : ResultVar} {v : Value} (h : resOf P a w r v) : (resF a r).run P w = .ok v w := by
  cases r with
  | tmp t =>
    have h : a.tmps.getD t undef = v := h
    show (pure (a.tmps.getD t undef) : Sem Value).run P w = _
    rw [h]; rfl
  | cell p T =>
    obtain ⟨A, h1, h2⟩ := h
    show ((asAddr (a.tmps.getD p undef)) >>= fun x => loadVar T x).run P w = _
    rw [h1, Sem.run_bind]
    show Result.andThen (.ok A w) _ = _
    rw [Result.andThen_ok]; exact h2
theorem ret_n {P : Program} {n : Nat} {a : Act} {w : World} {L : List (Nat × Value)} {fn : Func} {R : Ending → World → Prop} {vs : List Value} (ha : Agr n a L) (h : AllRes P a w fn.results.toList vs) (hR : R (.returned (retV vs)) w) : bodyPost P fn R .ret a w := by
  refine ⟨ha.1, retV vs, ?_, hR⟩
  have hr : ((fn.results.mapM (resF a)) : Sem (Array Value)).run P w = .ok vs.toArray w := by
    rw [Array.mapM_eq_mapM_toList]
    have := run_mapM_res (f := resF a) (fun r v => resF_ok) h
    simp [this, Sem.run_map]
  show ((fn.results.mapM (resF a)) >>= fun vs => pure (if h : vs.size = 1 then vs[0] else .tuple vs) : Sem Value).run P w = _
  rw [Sem.run_bind, hr, Result.andThen_ok]
  match vs with
  | [] => rfl
  | [v] => rfl
  | _ :: _ :: _ => rfl

/-! ### What was handed over, given back -/
def takeOuts : (i : Nat) → (ps : List PM) → denP ps → List Ent → Option (denH (outs ps) × List Ent × List Ent)
  | _, [], _, chs => some ((), [], chs)
  | i, .ow t :: ps, d, chs => (takeData t (partAv i [] t d.1).2 chs).bind fun q => chkT q.cells.isEmpty ((takeOuts (i + 1) ps d.2 q.rest).bind fun r => some ((q.d, r.1), q.used ++ r.2.1, r.2.2))
  | i, .ptr T t :: ps, d, chs => (pullBox ⟨i, []⟩ T t chs).bind fun q => (takeOuts (i + 1) ps d.2 q.2.2).bind fun r => some ((q.1, r.1), q.2.1 ++ r.2.1, r.2.2)
  | i, .rd _ :: ps, d, chs => takeOuts (i + 1) ps d.2 chs
  | i, .fn _ _ :: ps, d, chs => takeOuts (i + 1) ps d.2 chs
  | i, .cap _ _ :: ps, d, chs => takeOuts (i + 1) ps d.2 chs
  | i, .capf _ _ _ :: ps, d, chs => takeOuts (i + 1) ps d.2 chs
theorem takeOuts_ok {P : Program} {w0 : World} {J J' : Hp} {θ θ' : Th} {n n' : Nat} {chs0 : List Ent} (hJ : J.le J') (hs : Same n θ θ') : ∀ {ps : List PM} {i : Nat} {d : denP ps} {chs : List Ent} {vs : List Value} {r : denH (outs ps) × List Ent × List Ent}, takeOuts i ps d chs = some r → vs.length = ps.length → StF P w0 J θ n i ps vs d → (∀ e ∈ chs, okE P w0 J' θ' n' chs0 e) →
    chs.Perm (r.2.1 ++ r.2.2) ∧ SepTo J' (r.2.1.map (toCh P θ')) (outCh ps vs r.1)
  | [], i, d, chs, vs, r, h, _, _, _ => by
    obtain rfl := Option.some.inj (show some _ = some r from h)
    exact ⟨List.Perm.refl _, sepTo_nil⟩
  | p :: ps, i, d, chs, [], r, h, hl, _, _ => by cases hl
  | .ow t :: ps, i, d, chs, v :: vs, r, h, hl, hF, hc => by
    obtain ⟨q, hq, h⟩ := bind_some (show (takeData t (partAv i [] t d.1).2 chs).bind _ = some r from h)
    obtain ⟨he, h⟩ := chkT_ok h
    obtain ⟨r', hr, h⟩ := bind_some h
    obtain rfl := Option.some.inj h
    obtain ⟨⟨k1, k2⟩, k3⟩ := hF
    obtain ⟨p, cc, e1, e2⟩ := takeData_ok (P := P) (w0 := w0) (J := J') (θ := θ') (n := n) hq fun x hx => LV.ok_same hs (Nat.le_refl _) (k2 x hx) hJ
    rw [List.isEmpty_iff.1 he, List.append_nil] at e1
    subst e1
    rw [map_v_same hs k2, k1] at e2
    obtain ⟨q1, q2⟩ := takeOuts_ok hJ hs hr (by simpa using hl) k3 fun e he => hc e (p.mem_iff.2 (by simp [he]))
    refine ⟨by rw [List.append_assoc]; exact p.trans (q1.append_left _), ?_⟩
    show SepTo J' ((q.used ++ r'.2.1).map _) (Ch.own t.rep (vcells t.isProd v) q.d :: outCh ps vs r'.1)
    rw [List.map_append]
    exact sepTo_bun e2 q2
  | .ptr T t :: ps, i, d, chs, v :: vs, r, h, hl, hF, hc => by
    obtain ⟨q, hq, h⟩ := bind_some (show (pullBox ⟨i, []⟩ T t chs).bind _ = some r from h)
    obtain ⟨r', hr, h⟩ := bind_some h
    obtain rfl := Option.some.inj h
    obtain ⟨⟨k1, k2⟩, k3⟩ := hF
    obtain ⟨p, hb⟩ := pullBox_ok (P := P) (w0 := w0) (J := J') (J' := J') (θ := θ') hq Hp.le.rfl hc
    obtain ⟨q1, q2⟩ := takeOuts_ok hJ hs hr (by simpa using hl) k3 fun e he => hc e (p.mem_iff.2 (by simp [he]))
    refine ⟨by rw [List.append_assoc]; exact p.trans (q1.append_left _), ?_⟩
    show SepTo J' ((q.2.1 ++ r'.2.1).map _) (Ch.box (bk v) T t.rep q.1 :: outCh ps vs r'.1)
    rw [List.map_append]
    have hh : hv θ' ⟨i, []⟩ = v := (hv_same hs (show (⟨i, []⟩ : Hdr).id < n from k2)).trans k1
    rw [hh] at hb
    intro w F hsp
    obtain ⟨G, K, rfl, h1, h2⟩ := hsp.split
    exact ⟨G, K, rfl, hb w G h1, q2 w K h2⟩
  | .rd t :: ps, i, d, chs, v :: vs, r, h, hl, hF, hc => takeOuts_ok (ps := ps) hJ hs (show takeOuts (i + 1) ps d.2 chs = some r from h) (by simpa using hl) hF.2 hc
  | .fn _ _ :: ps, i, d, chs, v :: vs, r, h, hl, hF, hc => takeOuts_ok (ps := ps) hJ hs (show takeOuts (i + 1) ps d.2 chs = some r from h) (by simpa using hl) hF.2 hc
  | .cap _ _ :: ps, i, d, chs, v :: vs, r, h, hl, hF, hc => takeOuts_ok (ps := ps) hJ hs (show takeOuts (i + 1) ps d.2 chs = some r from h) (by simpa using hl) hF.2 hc
  | .capf _ _ _ :: ps, i, d, chs, v :: vs, r, h, hl, hF, hc => takeOuts_ok (ps := ps) hJ hs (show takeOuts (i + 1) ps d.2 chs = some r from h) (by simpa using hl) hF.2 hc
def ofH : (ts : List Ty) → denH ts → dens ts
  | [], _ => ()
  | [_], d => d.1
  | _ :: u :: ts, d => (d.1, ofH (u :: ts) d.2)
theorem toH_ofH : ∀ (ts : List Ty) (d : denH ts), toH ts (ofH ts d) = d
  | [], _ => rfl
  | [_], _ => rfl
  | _ :: u :: ts, d => congrArg (Prod.mk d.1) (toH_ofH (u :: ts) d.2)
def happ : (ts us : List Ty) → denH ts → denH us → denH (ts ++ us)
  | [], _, _, e => e
  | _ :: ts, us, d, e => (d.1, happ ts us d.2 e)
theorem hFst_app : ∀ (ts us : List Ty) (d : denH ts) (e : denH us), hFst ts us (happ ts us d e) = d
  | [], _, _, _ => rfl
  | _ :: ts, us, d, e => congrArg (Prod.mk d.1) (hFst_app ts us d.2 e)
theorem hSnd_app : ∀ (ts us : List Ty) (d : denH ts) (e : denH us), hSnd ts us (happ ts us d e) = e
  | [], _, _, _ => rfl
  | _ :: ts, us, d, e => hSnd_app ts us d.2 e
def retAvs (tt : TT) (s : Sg) : List ResultVar → Option (List AV)
  | [] => some []
  | r :: rs => (retAv tt s r).bind fun v => (retAvs tt s rs).bind fun vs => some (v :: vs)
def retHdrs (s : Sg) : List AV → List Hdr
  | [] => []
  | v :: vs => avHdrs v ++ retHdrs s vs
def holeHdrs : List Ent → List Hdr
  | [] => []
  | e :: l => match e.2.2 with
    | .hole _ _ _ _ _ _ _ _ _ _ => e.1 :: holeHdrs l
    | _ => holeHdrs l
/-- what a function gives at a state -/
def rtOf (V : Env) (rvs : List ResultVar) (rs : List Ty) (ps : List PM) (d : denP ps) (s0 : Sg) : Option (dens (rs ++ outs ps)) := (retAvs V.tt s0 rvs).bind fun vs0 => match prepL (retHdrs s0 vs0 ++ holeHdrs s0.chs) s0 with
  | s => (retAvs V.tt s rvs).bind fun vs => (takeRes rs vs s.chs).bind fun r => (takeOuts 0 ps d r.2.2).bind fun o => some (ofH _ (happ rs (outs ps) r.1 o.1))
end Go.Proofs.Ytfkocnnphjkmfaa.R
