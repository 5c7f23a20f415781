/- A drawn region, run on states: every order comes to the same state. No program text is named here. -/
import Derived.Test.YtfkocnnphjkmfaaRT
set_option linter.unusedVariables false
set_option linter.unusedSimpArgs false
set_option linter.unnecessarySimpa false
set_option linter.unusedSectionVars false
namespace Go.Proofs.Ytfkocnnphjkmfaa.R
open Go.RowKit
open Go.Proofs.Ytfkocnnphjkmfaa.D

def smOf (P : Program) (w0 : World) (J : Hp) (θ : Th) (n0 : Nat) (l : List TR) (T : List Ent) : Sm where
  fact i vs := ∀ x ∈ l, x.i = i → RawF P w0 J (thOf θ n0 vs) n0 x (vs i)
  chunk k vs := match T[k]? with
    | some e => toCh P (thOf θ n0 vs) e
    | none => Ch.fr (fun _ => none) []
theorem srcs_ok {n0 t v : Nat} {env : List (Nat × Nat × AV)} : ∀ {ts : List Nat}, t ∈ ts → verOf env t = some v → Skel.srcOf t (srcsOf n0 env ts) = some (opOf n0 v)
  | u :: ts, h, hv => by
    unfold srcsOf
    by_cases hu : u = t
    · subst hu
      rw [hv]
      simp only
      unfold Skel.srcOf
      rw [if_pos (Nat.beq_refl u)]
    · have ht : t ∈ ts := (List.mem_cons.1 h).resolve_left fun e => hu e.symm
      cases hw : verOf env u with
      | none => exact srcs_ok ht hv
      | some w =>
        simp only
        unfold Skel.srcOf
        rw [if_neg fun e => hu (Nat.eq_of_beq_eq_true e)]
        exact srcs_ok ht hv
theorem fin_ok {n0 t v : Nat} {f : Option Nat → Value} : ∀ {env : List (Nat × Nat × AV)} {seen : List Nat}, t ∉ seen → verOf env t = some v → ((finOf n0 env seen).map fun q => (q.1, f q.2)).lookup t = some (f (opOf n0 v))
  | (u, k, x) :: l, seen, hs, hv => by
    unfold finOf
    unfold verOf at hv
    split
    · rename_i hin
      have hin := isIn_ok.1 hin
      have hne : u ≠ t := fun e => hs (e ▸ hin)
      rw [if_neg fun e => hne (Nat.eq_of_beq_eq_true e)] at hv
      exact fin_ok hs hv
    · rename_i hin
      rw [List.map_cons, List.lookup_cons]
      by_cases hu : u = t
      · subst hu
        rw [if_pos (Nat.beq_refl u)] at hv
        obtain rfl := Option.some.inj hv
        simp
      · rw [if_neg fun e => hu (Nat.eq_of_beq_eq_true e)] at hv
        have : (t == u) = false := by simpa using fun e => hu e.symm
        rw [this]
        refine fin_ok (fun h => ?_) hv
        rcases List.mem_cons.1 h with h | h
        · exact hu h.symm
        · exact hs h
section
variable {V : Env} {P : Program} {I : Hp} {w0 w : World} {F : Ch} {J : Hp} {θ : Th} {s0 : Sg} {ops : List Oper} {l : List TR} {a : Act}
theorem idsOf_av {x : TR} {i : Nat} (h : i ∈ x.r.av.ids) : i ∈ idsOf x := List.mem_append_left _ h
theorem idsOf_gv {x : TR} {g : Hdr × Chk} {i : Nat} (hg : g ∈ x.r.gives) (h : i ∈ entIds g.1 g.2) : i ∈ idsOf x := List.mem_append_right _ (List.mem_flatMap.2 ⟨g, hg, h⟩)
theorem loc_ok (hf : Fine P w0 J θ s0) {n : Nat} (ha : AllOk P w0 n s0 ops l) (hlen : l.length = ops.length) (hK : distinctK (tabOf s0.nxt s0.chs l) = true) (hc : ∀ x ∈ l, recChk s0.nxt x = true) :
    Loc (skelOf s0 ops l (tabOf s0.nxt s0.chs l)) (smOf P w0 J θ s0.nxt l (tabOf s0.nxt s0.chs l)) ops.length := by
  have agree : ∀ x ∈ l, ∀ vs vs' : Nat → Value, (∀ j, j = x.i ∨ j ∈ x.b → vs' j = vs j) → ∀ i ∈ idsOf x, thOf θ s0.nxt vs' i = thOf θ s0.nxt vs i := by
    intro x hx vs vs' hv i hi
    have := hc x hx
    unfold recChk at this
    rw [Bool.and_eq_true, allN_ok] at this
    have h1 := this.1 i hi
    unfold allowed at h1
    rw [Bool.or_eq_true, Bool.or_eq_true, nblt, nbeq, isIn_ok] at h1
    unfold thOf
    by_cases hlt : i < s0.nxt
    · rw [if_pos hlt, if_pos hlt]
    · rw [if_neg hlt, if_neg hlt]
      exact hv _ (h1.resolve_left hlt)
  refine ⟨fun i hi vs vs' hv h x hx hxi => ?_, fun k hk vs vs' => ?_, fun i hi k hk vs vs' hv => ?_⟩
  · subst hxi
    rw [(ha.opAt hx _).2] at hv
    have ag := agree x hx vs vs' hv
    obtain ⟨h1, h2, h3⟩ := h x hx rfl
    refine ⟨AV.ok_loc (fun i hi => ag i (idsOf_av hi)) h1, ?_, fun g hg => okE_loc (fun i hi => ag i (idsOf_gv hg hi)) (h3 g hg)⟩
    rw [AV.v_loc fun i hi => ag i (idsOf_av hi), h2, hv _ (.inl rfl)]
  · obtain ⟨e, he, rfl⟩ := List.mem_map.1 hk
    have hT := numOf_ok hK (tab_mem.2 (.inl he))
    show (match _ with | some e => toCh P (thOf θ s0.nxt vs') e | none => _) = match _ with | some e => toCh P (thOf θ s0.nxt vs) e | none => _
    rw [hT]
    simp only
    rw [toCh_same thOf_same (hf.chs e he), toCh_same thOf_same (hf.chs e he)]
  · obtain ⟨x, hx, hxi, -⟩ := ha.at (fun x => x) i (by rw [hlen]; exact hi)
    subst hxi
    rw [(ha.opAt hx _).2] at hv
    rw [(ha.opAt hx _).1] at hk
    obtain ⟨e, he, rfl⟩ := List.mem_map.1 hk
    have hT := numOf_ok hK (tab_mem.2 (.inr ⟨x, hx, he⟩))
    show (match _ with | some e => toCh P (thOf θ s0.nxt vs') e | none => _) = match _ with | some e => toCh P (thOf θ s0.nxt vs) e | none => _
    rw [hT]
    simp only
    exact toCh_loc fun i hi => agree x hx vs vs' hv i (idsOf_gv (gives_ver he).2 hi)
theorem goal_ok (hf : Fine P w0 J θ s0) {n : Nat} (ha : AllOk P w0 n s0 ops l) (hlen : l.length = ops.length) (hB : distinctB s0.chs = true) (hK : distinctK (tabOf s0.nxt s0.chs l) = true) (hc : ∀ x ∈ l, recChk s0.nxt x = true)
    (hok : (skelOf s0 ops l (tabOf s0.nxt s0.chs l)).ok n (knS s0) ops = true) (hkn : ∀ t, knS s0 t = true → ((envL θ s0).lookup t).isSome = true) (hlt : ∀ x ∈ l, ∀ j ∈ x.b, j < x.i) :
    ∀ i o, ops[i]? = some o → (skelOf s0 ops l (tabOf s0.nxt s0.chs l)).goal (smOf P w0 J θ s0.nxt l (tabOf s0.nxt s0.chs l)) P J w0 (envL θ s0) i o := by
  intro i o ho vs hfacts
  obtain ⟨x, hx, hxi, -⟩ := ha.at (fun x => x) i (by rw [hlen]; exact (List.getElem?_eq_some_iff.1 ho).1)
  subst hxi
  obtain ⟨l1, h1, h2, h3, h4⟩ := ha.get hx
  obtain rfl : x.o = o := Option.some.inj (h1.ho.symm.trans ho)
  obtain ⟨e1, e2⟩ := ha.opAt hx (tabOf s0.nxt s0.chs l)
  have hG := Skel.good_of_ok hkn hok ho
  rw [e2] at hfacts
  have hfact : ∀ y ∈ l, y.i ∈ x.b → RawF P w0 J (thOf θ s0.nxt vs) s0.nxt y (vs y.i) := fun y hy hyb => hfacts y.i hyb y hy rfl
  have hFine := (words hB hK hf ha hc hlt x.b (fun y hy hyb k hk => ha.closed hlt x hx y hy hyb k hk) hfact x hx fun k hk => hk).1
  have hnx : x.s.nxt = s0.nxt + x.i := by rw [h1.hs]; rfl
  -- what the guard says
  have hw : wants x.o vs = some x.run := by
    have hgd := h1.gd
    unfold GdOk at hgd
    unfold wants
    cases hgo : x.o.guard with
    | none => rw [hgo] at hgd; simp only at hgd ⊢; rw [hgd]
    | some gw =>
      obtain ⟨g, want⟩ := gw
      rw [hgo] at hgd
      simp only at hgd ⊢
      obtain ⟨y, hy, hyg, hc'⟩ := hgd
      obtain ⟨t, k1, k2⟩ := hG.guard g want hgo
      have hgb : g ∈ x.b := by
        have ht : t ∈ slotsOf ops.toArray x.o := by
          unfold slotsOf Oper.looksAt
          refine List.mem_append_right _ ?_
          rw [hgo]
          simp only
          rw [k1]; simp
        rcases hG.slots t ht with ⟨q1, -, -⟩ | ⟨j, q1, -, q3, -⟩
        · rw [k2] at q1; cases q1
        · rw [k2] at q1
          obtain rfl : g = j := by simpa using q1
          rwa [e2] at q3
      subst hyg
      have hv := (hfact y (h3 y hy) hgb).2.1
      rcases hc' with ⟨c, hc', hr⟩ | ⟨hc', hr⟩
      · rw [hc'] at hv
        rw [← hv, hr]; rfl
      · rw [hc'] at hv
        rw [← hv, hr]; rfl
  rw [hw]
  have hthe : ∀ v, thOf θ s0.nxt (upd vs x.i v) = upd (thOf θ s0.nxt vs) (s0.nxt + x.i) v := fun v => thOf_upd
  have hch : ∀ vs' : Nat → Value, ∀ e ∈ tabOf s0.nxt s0.chs l, (smOf P w0 J θ s0.nxt l (tabOf s0.nxt s0.chs l)).chunk (numOf e (tabOf s0.nxt s0.chs l)) vs' = toCh P (thOf θ s0.nxt vs') e := by
    intro vs' e he
    show (match _ with | some e => toCh P (thOf θ s0.nxt vs') e | none => _) = _
    rw [numOf_ok hK he]
  cases hr : x.run with
  | false =>
    have hs := h1.skip hr
    refine ⟨fun y hy hyi => ?_, by rw [e1]; show (x.r.ns.map _) = []; rw [hs]; rfl, by rw [e1]; show (givesOf _ x).map _ = []; unfold givesOf; rw [hs]; rfl⟩
    obtain rfl := ha.uniq y hy x hx hyi
    refine ⟨?_, ?_, fun g hg => ?_⟩
    · rw [hs]; trivial
    · rw [hs, upd_self]; rfl
    · rw [hs] at hg; cases hg
  | true =>
    obtain ⟨hGd, hk⟩ := h1.good hr
    have base := hGd.op J _ hFine
    have hin : ∀ e, e ∈ x.r.rs ++ x.r.ns → e ∈ tabOf s0.nxt s0.chs l ∧ e ∈ x.s.chs := by
      intro e he
      have he2 : e ∈ x.s.chs := hGd.perm.mem_iff.2 (List.mem_append_left _ he)
      refine ⟨?_, he2⟩
      rw [h1.hs] at he2
      rcases tab_mem.1 (sub_chs he2).1 with h | ⟨y, hy, h⟩
      · exact tab_mem.2 (.inl h)
      · exact tab_mem.2 (.inr ⟨y, h3 y hy, h⟩)
    have hev : ∀ u ∈ x.o.op.operands, (skelOf s0 ops l (tabOf s0.nxt s0.chs l)).ev (envL θ s0) x.i vs u = evL (envL (thOf θ s0.nxt vs) x.s) u := by
      intro u hu
      cases u with
      | tmp t =>
        unfold okO at hk
        rw [Bool.and_eq_true, Bool.and_eq_true] at hk
        have hx1 := List.all_eq_true.1 hk.1.1 (.tmp t) (by simpa using hu)
        simp only [Bool.or_false] at hx1
        obtain ⟨av, hav⟩ := Option.isSome_iff_exists.1 hx1
        have hav : look x.s.env t = some av := hav
        rw [opd_ev (x := .tmp t) hav]
        obtain ⟨v, hv, hm⟩ := verOf_look hav
        have ht : t ∈ slotsOf ops.toArray x.o := by
          unfold slotsOf Oper.looksAt
          exact List.mem_append_left _ (List.mem_filterMap.2 ⟨.tmp t, by simpa using hu, rfl⟩)
        have hsrc : Skel.srcOf t ((skelOf s0 ops l (tabOf s0.nxt s0.chs l)).op x.i).src = some (opOf s0.nxt v) := by
          rw [e1]; exact srcs_ok ht hv
        have hval := valAt (L1 := l1) (b := x.b) (i := x.i) hf h3 hfact (t := t) (v := v) (av := av) (by rw [← h1.hs]; exact hav) (by rw [← h1.hs]; exact hv)
        rw [← hval]
        show (match Skel.srcOf t _ with | some (some j) => vs j | _ => _) = _
        rw [hsrc]
        cases opOf s0.nxt v <;> rfl
      | _ => rfl
    have hpre : ((((skelOf s0 ops l (tabOf s0.nxt s0.chs l)).op x.i).reads ++ ((skelOf s0 ops l (tabOf s0.nxt s0.chs l)).op x.i).needs).map ((smOf P w0 J θ s0.nxt l (tabOf s0.nxt s0.chs l)).chunk · vs)) = (x.r.rs ++ x.r.ns).map (toCh P (thOf θ s0.nxt vs)) := by
      rw [e1]
      show ((x.r.rs.map _) ++ (x.r.ns.map _)).map _ = _
      rw [← List.map_append, List.map_map]
      exact List.map_congr_left fun e he => hch vs e (hin e he).1
    intro wd C hs
    have hs' := hs
    rw [hpre] at hs'
    have hb := base wd C hs'
    have hsel : noSelect x.o = true := hG.sel
    rw [← execOp_same hsel hev] at hb
    refine hb.imp fun v w' hv => ⟨fun y hy hyi => ?_, ?_⟩
    · obtain rfl := ha.uniq y hy x hx hyi
      rw [hthe, upd_self]
      obtain ⟨q1, q2, q3⟩ := hv.1
      rw [hnx] at q1 q2 q3
      exact ⟨q1, q2, q3⟩
    · have hst := hv.2
      rw [hnx] at hst
      have hgv : ((((skelOf s0 ops l (tabOf s0.nxt s0.chs l)).op x.i).reads ++ ((skelOf s0 ops l (tabOf s0.nxt s0.chs l)).op x.i).gives).map ((smOf P w0 J θ s0.nxt l (tabOf s0.nxt s0.chs l)).chunk · (upd vs x.i v))) = x.r.rs.map (toCh P (thOf θ s0.nxt vs)) ++ x.r.gives.map fun g => toCh P (upd (thOf θ s0.nxt vs) (s0.nxt + x.i) v) (g.1, s0.nxt + x.i, g.2) := by
        rw [e1]
        show ((x.r.rs.map _) ++ ((givesOf s0.nxt x).map _)).map _ = _
        rw [List.map_append, List.map_map, List.map_map]
        congr 1
        · refine List.map_congr_left fun e he => ?_
          show (smOf P w0 J θ s0.nxt l (tabOf s0.nxt s0.chs l)).chunk (numOf e _) (upd vs x.i v) = _
          obtain ⟨m1, m2⟩ := hin e (List.mem_append_left _ he)
          rw [hch _ e m1, hthe]
          have := hFine.chs e m2
          rw [hnx] at this
          exact toCh_same Same.upd this
        · unfold givesOf
          rw [List.map_map]
          refine List.map_congr_left fun g hg => ?_
          show (smOf P w0 J θ s0.nxt l (tabOf s0.nxt s0.chs l)).chunk (numOf (g.1, s0.nxt + x.i, g.2) _) (upd vs x.i v) = _
          rw [hch _ _ (tab_mem.2 (.inr ⟨x, hx, List.mem_map.2 ⟨g, hg, rfl⟩⟩)), hthe]
      exact Eq.mp (congrArg (fun cs => St J w0 w' (cs ++ C)) hgv.symm) hst
/-- A drawn region, run on a state. -/
theorem drawS_ok {Y : Type} {id : Nat} {k : Sg → Option Y} {res : Y} {Q : Exit → Act → World → Prop} (hT : TTok P V.tt) (hF : FTok P V.ft) (hm : P.follows .mixedOrders = true) {s : Sg} (h : drawS V ops k s = some res) (hS : Sim P I w0 F V.n J θ s a w)
    (K : ∀ s' θ' a' w', k s' = some res → Sim P I w0 F V.n J θ' s' a' w' → Fr s θ s' θ' → Q .normal a' w') : (Code.region id ops.toArray true).wp P Q a w := by
  unfold drawS at h
  obtain ⟨hS0, hFr0⟩ := prepL_ok (hs := allHdrs s ops) hS
  generalize prepL (allHdrs s ops) s = s0 at h hS0 hFr0
  simp only at h
  obtain ⟨l, h, ha, hlen⟩ := goD_ok (w0 := w0) hT hF h rfl rfl trivial
  obtain ⟨hpl, h⟩ := chkT_ok h
  unfold planOk at hpl
  simp only [Bool.and_eq_true, List.all_eq_true] at hpl
  obtain ⟨hB, hK, hc, hok, hokB⟩ := hpl
  have hf := hS0.fine
  have hkn : ∀ t, knS s0 t = true → ((envL θ s0).lookup t).isSome = true := by
    intro t ht
    obtain ⟨av, hav⟩ := Option.isSome_iff_exists.1 ht
    rw [show (envL θ s0).lookup t = _ from look_envL hav]; rfl
  have hlt : ∀ x ∈ l, ∀ j ∈ x.b, j < x.i := by
    intro x hx j hj
    obtain ⟨l1, h1, -⟩ := ha.get hx
    have hG := Skel.good_of_ok hkn hok h1.ho
    have := hG.bef j (by rw [(ha.opAt hx _).2]; exact hj)
    exact this.1
  refine wp_drawn (C := [F]) (skelOf s0 ops l (tabOf s0.nxt s0.chs l)) (smOf P w0 J θ s0.nxt l (tabOf s0.nxt s0.chs l)) hkn (loc_ok hf ha hlen hK hc) hm hS0.agr hS0.st ?_ hok hokB (goal_ok hf ha hlen hB hK hc hok hkn hlt) ?_
  · refine (List.Perm.of_eq ?_)
    congr 1
    show _ = (s0.chs.map _).map _
    rw [List.map_map]
    refine List.map_congr_left fun e he => ?_
    show _ = match _ with | some e => toCh P (thOf θ s0.nxt fun _ => undef) e | none => _
    rw [numOf_ok hK (tab_mem.2 (.inl he))]
    exact (toCh_same thOf_same (hf.chs e he)).symm
  · intro vs a' w' hfacts hA hst
    have hfact : ∀ y ∈ l, RawF P w0 J (thOf θ s0.nxt vs) s0.nxt y (vs y.i) := fun y hy => hfacts y.i (by rw [← hlen]; exact ha.lt y hy) y hy rfl
    have hall := words hB hK hf ha hc hlt (List.range l.length) (fun y hy _ k hk => List.mem_range.2 (Nat.lt_trans (hlt y hy k hk) (ha.lt y hy))) (fun y hy _ => hfact y hy)
    have hall' : ∀ x ∈ l, _ := fun x hx => hall x hx fun k hk => List.mem_range.2 (Nat.lt_trans (hlt x hx k hk) (ha.lt x hx))
    have hFine : Fine P w0 J (thOf θ s0.nxt vs) (endS s0 l) := fine_sub hB hK hf ha hc l (fun y hy => hy) (List.range l.length) l.length (fun j hj => List.mem_range.1 hj) (fun y hy _ => hfact y hy) (fun y hy _ => (hall' y hy).2.1) (fun y hy _ => (hall' y hy).2.2) (env_nd hf ha)
    refine K (endS s0 l) (thOf θ s0.nxt vs) a' w' h ⟨hS0.le, hA.sub fun t v hv => ?_, ?_, hFine⟩ (hFr0.trans ⟨Nat.le_add_right _ _, thOf_same, fun e he hv => ?_, fun e he h' ver c hs => ?_⟩)
    · -- the slots
      cases hl : look (endS s0 l).env t with
      | none =>
        exfalso
        have : ∀ {env : List (Nat × Nat × AV)} {θ : Th}, look env t = none → (env.map fun e => (e.1, e.2.2.v θ)).lookup t = none := by
          intro env θ
          induction env with
          | nil => intro _; rfl
          | cons e env ih =>
            intro hh
            unfold look at hh
            split at hh
            · cases hh
            · rename_i hu
              rw [List.map_cons, List.lookup_cons]
              have hne : (t == e.1) = false := by
                simp only [beq_eq_false_iff_ne]; intro e'; subst e'; exact hu (Nat.beq_refl _)
              rw [show (t == (e.1, AV.v θ e.2.2).1) = false from hne]
              exact ih hh
        rw [show (envL (thOf θ s0.nxt vs) (endS s0 l)).lookup t = none from this hl] at hv
        cases hv
      | some av =>
        have hv2 := look_envL (θ := thOf θ s0.nxt vs) hl
        obtain rfl := Option.some.inj (hv2.symm.trans hv)
        obtain ⟨ver, hver, -⟩ := verOf_look hl
        have hval := valAt (L1 := l) (b := List.range l.length) (i := l.length) hf (fun y hy => hy) (fun y hy _ => hfact y hy) (t := t) (v := ver) (av := av) hl hver
        have := fin_ok (n0 := s0.nxt) (seen := []) (f := fun s => match s with | some j => vs j | none => ((envL θ s0).lookup t).getD undef) (by simp) hver
        have key : ∀ M : List (Nat × Option Nat), (M.map fun q => (q.1, match q.2 with | some j => vs j | none => ((envL θ s0).lookup q.1).getD undef)).lookup t = (M.map fun q => (q.1, (fun s => match s with | some j => vs j | none => ((envL θ s0).lookup t).getD undef) q.2)).lookup t := by
          intro M
          induction M with
          | nil => rfl
          | cons q M ih =>
            rw [List.map_cons, List.map_cons, List.lookup_cons, List.lookup_cons]
            by_cases e : t = q.1
            · subst e; simp
            · rw [show (t == q.1) = false from by simpa using e]; exact ih
        exact (key _).trans (this.trans (congrArg some hval))
    · have e : ((endS s0 l).chs.map (numOf · (tabOf s0.nxt s0.chs l))).map ((smOf P w0 J θ s0.nxt l (tabOf s0.nxt s0.chs l)).chunk · vs) = (endS s0 l).chs.map (toCh P (thOf θ s0.nxt vs)) := by
        rw [List.map_map]
        refine List.map_congr_left fun e he => ?_
        show (match _ with | some e => toCh P (thOf θ s0.nxt vs) e | none => _) = _
        rw [numOf_ok hK (sub_chs he).1]
      rw [← e]; exact hst
    · obtain ⟨h5, h6⟩ := sub_env he
      rcases env_mem h5 with h5 | ⟨y, hy, k1, k2, k3⟩
      · exact h5
      · omega
    · obtain ⟨h5, h6⟩ := sub_chs he
      have horig : Orig s0 l h' ver c := by
        rcases tab_mem.1 h5 with h5 | ⟨y, hy, h5⟩
        · exact .inl ⟨e, h5, hs⟩
        · exact (hall' y hy).2.1 e h5 h' ver c hs
      rcases horig with ⟨e0, he0, hk⟩ | ⟨y, hy, hk⟩
      · exact .inr ⟨e0, he0, hk⟩
      · have := (gives_ver hk).1
        exact .inl (by simp only at this; omega)
end
end Go.Proofs.Ytfkocnnphjkmfaa.R
