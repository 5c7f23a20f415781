/- What a function's model says of the function. No program text is named here. -/
import Derived.Test.YtfkocnnphjkmfaaRO
set_option linter.unusedVariables false
set_option linter.unusedSimpArgs false
set_option linter.unnecessarySimpa false
set_option linter.unusedSectionVars false
namespace Go.Proofs.Ytfkocnnphjkmfaa.R
open Go.RowKit
open Go.Proofs.Ytfkocnnphjkmfaa.D

theorem resGo_list {vs : List Value} : ∀ {ts : List Ty} {i : Nat} {us : List Value} {d : denH ts}, us.length = ts.length → (∀ j v, us[j]? = some v → vs[i + j]? = some v) → resGo i ts d (.tuple vs.toArray) = resList ts us d
  | [], i, us, d, h, _ => by
    cases us with
    | nil => rfl
    | cons _ _ => cases h
  | t :: ts, i, [], d, h, _ => by cases h
  | t :: ts, i, u :: us, d, h, k => by
    have h0 : vg (.tuple vs.toArray) [i] = u := by
      show vs.toArray.getD i undef = u
      have := k 0 u rfl
      rw [Nat.add_zero] at this
      simp [Array.getD_eq_getD_getElem?, this]
    show Ch.own t.rep (vcells t.isProd (vg (.tuple vs.toArray) [i])) d.1 :: resGo (i + 1) ts d.2 _ = Ch.own t.rep (vcells t.isProd u) d.1 :: resList ts us d.2
    rw [h0, resGo_list (us := us) (by simpa using h) fun j v hj => by
      have := k (j + 1) v (by simpa using hj)
      rwa [show i + (j + 1) = i + 1 + j from by omega] at this]
theorem resGv_list {ts : List Ty} {vs : List Value} {d : denH ts} (h : vs.length = ts.length) : resGv ts d (retV vs) = resList ts vs d := by
  match ts, vs, d, h with
  | [], [], d, _ => rfl
  | [t], [v], d, _ => rfl
  | t :: u :: ts, v :: w :: vs, d, h =>
    show resGo 0 _ d (.tuple (v :: w :: vs).toArray) = _
    exact resGo_list h fun j x hj => by rw [Nat.zero_add]; exact hj
theorem resFa_ok {ts : List Ty} {vs : List Value} (h : vs.length = ts.length) (k : ∀ (i : Nat) t v, ts[i]? = some t → vs[i]? = some v → isAggV v = t.isProd) : resFa ts (retV vs) := by
  match ts, vs, h with
  | [], [], _ => exact ⟨#[], rfl, rfl, fun i t ht => by simp at ht⟩
  | [t], [v], _ => exact k 0 t v rfl rfl
  | t :: u :: ts, v :: w :: vs, h =>
    refine ⟨(v :: w :: vs).toArray, rfl, by simpa using h, fun i t' ht => ?_⟩
    have hlt : i < (v :: w :: vs).length := by rw [h]; exact (List.getElem?_eq_some_iff.1 ht).1
    have := k i t' ((v :: w :: vs)[i]) ht (List.getElem?_eq_getElem hlt)
    rw [← this, Array.getD_eq_getD_getElem?, List.getElem?_toArray, List.getElem?_eq_getElem hlt]; rfl

theorem retAvs_ok {P : Program} {I : Hp} {w0 w : World} {F : Ch} {J : Hp} {θ : Th} {n : Nat} {s : Sg} {a : Act} {tt : TT} (hT : TTok P tt) (hS : Sim P I w0 F n J θ s a w) : ∀ {rs : List ResultVar} {vs : List AV}, retAvs tt s rs = some vs → AllRes P a w rs (vs.map (·.v θ)) ∧ ∀ v ∈ vs, v.ok P w0 J θ s.nxt s.chs
  | [], vs, h => by
    obtain rfl := Option.some.inj (show some [] = some vs from h)
    exact ⟨rfl, fun v hv => by cases hv⟩
  | r :: rs, vs, h => by
    obtain ⟨v, hv', h⟩ := bind_some (show (retAv tt s r).bind _ = some vs from h)
    obtain ⟨us, hus, h⟩ := bind_some h
    obtain rfl := Option.some.inj h
    obtain ⟨k1, k2⟩ := retAv_ok hT hS hv'
    obtain ⟨q1, q2⟩ := retAvs_ok hT hS hus
    refine ⟨⟨_, _, rfl, k1, q1⟩, fun x hx => ?_⟩
    rcases List.mem_cons.1 hx with rfl | hx
    · exact k2
    · exact q2 x hx
theorem sepTo_app {J : Hp} {a b c d : List Ch} (h : SepTo J a b) (k : SepTo J c d) : SepTo J (a ++ c) (b ++ d) := fun w F hs => by
  obtain ⟨G, K, rfl, e1, e2⟩ := hs.split
  exact (h w G e1).append (k w K e2)
theorem St.sepTo {J : Hp} {w0 w : World} {a b C : List Ch} (h : St J w0 w (a ++ C)) (k : SepTo J a b) : St J w0 w (b ++ C) := by
  obtain ⟨h1, h2, F, h3, h4, h5⟩ := h
  obtain ⟨G, K, rfl, e1, e2⟩ := h3.split
  exact ⟨h1, h2, G ++ K, (k w G e1).append e2, h4, h5⟩
theorem fok {V : Env} {P : Program} (hT : TTok P V.tt) (hF : FTok P V.ft) (hmx : P.follows .mixedOrders = true) {k : FuncId} {fn : Func} {c : Code} {f : FS} (hf : P.funcs[k]? = some fn) (hb : fn.body = some c) (hn : fn.ntmps = V.n) (hen : Enters P k) (hm : f.ps.length ≤ V.n) (hdp : (allDp f.rs && outDp f.ps) = true) (ann : Ann)
    (hmod : ∀ d, appP f.ps f.m d = interp V (rtOf V fn.results.toList f.rs f.ps d) c ann (fun r => some r) (fun _ _ => none) (fun _ => none) (startS f.ps d)) : FOk P k f := by
  rw [Bool.and_eq_true] at hdp
  refine ⟨hen, fun w0 J vs d r ha hr => ?_⟩
  rw [hmod] at hr
  let θ : Th := fun i => vs.getD i undef
  have hθ : ∀ j v, vs[j]? = some v → θ (0 + j) = v := fun j v hj => by
    show vs.getD (0 + j) undef = v
    rw [Nat.zero_add, List.getD_eq_getElem?_getD, hj]; rfl
  have k0 := pargs_len ha
  have hzip : ∀ p ∈ (vs.zipIdx.map fun q => (q.2, q.1)), vs.toArray[p.1]? = some p.2 := fun p hp => by
    obtain ⟨q, hq, rfl⟩ := List.mem_map.1 hp
    obtain ⟨v, j⟩ := q
    have := (List.mk_mem_zipIdx_iff_getElem? (x := v) (i := j)).1 hq
    simpa using this
  refine con_of_wp (n := V.n) (vs.zipIdx.map fun q => (q.2, q.1)) hf hb hn (by rw [List.size_toArray, k0]; exact hm) hzip (fun F w a hA hst => ?_) (fun v => deeps_append (resGv_deep _ _ hdp.1) (outCh_deep _ _ _ hdp.2))
  · obtain ⟨k1, k2, k3, k4, k5⟩ := start_ok (n := f.ps.length) (C := [F]) ha hθ (by omega) hst
    have hfine : Fine P w0 J θ (startS f.ps d) := ⟨fun e he => (k1 e he).1 _, fun e he => by have := k1 e he; show e.2.1 < f.ps.length; omega, k2, fun e he => k4 e he _⟩
    have hA' : Agr V.n a (envL θ (startS f.ps d)) := hA.pick _ fun p hp => by
      obtain ⟨e, he, rfl⟩ := List.mem_map.1 hp
      have h5 := (k1 e he).2.2.2.2
      rw [Nat.sub_zero] at h5
      have key : ∀ (l : List Value) (k : Nat) (i : Nat) (v : Value), k ≤ i → l[i - k]? = some v → ((l.zipIdx k).map fun q => (q.2, q.1)).lookup i = some v := by
        intro l
        induction l with
        | nil => intro k i v _ h; simp at h
        | cons x l ih =>
          intro k i v hk h
          simp only [List.zipIdx_cons, List.map_cons, List.lookup_cons]
          by_cases e : i = k
          · subst e
            simp at h
            simp [h]
          · have : (i == k) = false := by simpa using e
            rw [this]
            refine ih (k + 1) i v (by omega) ?_
            rw [show i - k = (i - (k + 1)) + 1 from by omega] at h
            simpa using h
      exact key vs 0 e.1 _ (Nat.zero_le _) h5
    have hS : Sim P J w0 F V.n J θ (startS f.ps d) a w := ⟨Hp.le.rfl, hA', k3, hfine⟩
    refine (interp_both (I := J) (w0 := w0) (F := F) hT hF hmx c).1 ann hr hS (fun J' θ' s' a' w' hk => by cases hk) (fun i J' θ' s' a' w' hk => by cases hk) (fun r' J' θ' s' a' w' hrt hrr hS' hJ hFr => ?_)
    obtain rfl := Option.some.inj hrr
    obtain ⟨vs0, hv0, hrt⟩ := bind_some (show (retAvs V.tt s' fn.results.toList).bind _ = some r' from hrt)
    obtain ⟨S1, F1⟩ := prepL_ok (hs := retHdrs s' vs0 ++ holeHdrs s'.chs) hS'
    generalize prepL (retHdrs s' vs0 ++ holeHdrs s'.chs) s' = s1 at hrt S1 F1
    obtain ⟨us, hus, hrt⟩ := bind_some hrt
    obtain ⟨q, hq, hrt⟩ := bind_some hrt
    obtain ⟨o, ho, hrt⟩ := bind_some hrt
    obtain rfl := Option.some.inj hrt
    obtain ⟨r1, r2⟩ := retAvs_ok hT S1 hus
    obtain ⟨t1, t2, t3, t4⟩ := takeRes_ok (J := J') (θ := θ') hq r2
    have hsame := (hFr.trans F1).same
    obtain ⟨o1, o2⟩ := takeOuts_ok (P := P) (J := J) (J' := J') (θ := θ) (θ' := θ') (vs := vs) (n := f.ps.length) (n' := s1.nxt) (chs0 := s1.chs) hJ hsame ho k0 k5 fun e he => S1.fine.chs e (t1.mem_iff.2 (by simp [he]))
    have hl : (us.map (·.v θ')).length = f.rs.length := by rw [List.length_map]; exact t2
    refine ret_n S1.agr r1 ⟨_, rfl, resFa_ok hl fun i t v ht hv1 => ?_, J', hJ, ?_⟩
    · rw [List.getElem?_map] at hv1
      obtain ⟨x, hx, rfl⟩ := Option.map_eq_some_iff.1 hv1
      exact t4 i t x ht hx
    · rw [toH_ofH, hFst_app, hSnd_app, resGv_list hl]
      have hp := t1.trans (o1.append_left _)
      have h1 := S1.st.perm ((hp.map (toCh P θ')).append_right [F])
      have h2 : St J' w0 w' ((q.2.1.map (toCh P θ') ++ o.2.1.map (toCh P θ')) ++ (o.2.2.map (toCh P θ') ++ [F])) := by
        simpa [List.map_append, List.append_assoc] using h1
      have h3 := St.sepTo h2 (sepTo_app t3 o2)
      refine St.left (ds := o.2.2.map (toCh P θ')) (h3.perm ?_)
      simp only [List.append_assoc]
      exact List.Perm.append_left _ (List.Perm.append_left _ List.perm_append_comm)
end Go.Proofs.Ytfkocnnphjkmfaa.R
