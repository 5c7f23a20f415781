/- FnExactTractabilityClass: for every input the law returns true and changes nothing that was there. Part 6 of 8. -/
import Derived.Test.YtcmpdlhbliolaaaGreatTC4
set_option linter.unusedVariables false
set_option linter.unusedSimpArgs false
set_option linter.unnecessarySimpa false
set_option linter.unusedSectionVars false
/- What a function's model says of the function. No program text is named here. -/
set_option linter.unusedVariables false
set_option linter.unusedSimpArgs false
set_option linter.unnecessarySimpa false
set_option linter.unusedSectionVars false
namespace Go.Proofs.YtcmpdlhbliolaaaGreat.R
open Go.RowKit
open Go.Proofs.YtcmpdlhbliolaaaGreat.D

theorem resGo_list {vs : List Value} : ∀ {ts : List Ty} {i : Nat} {us : List Value} {d : denH ts}, us.length = ts.length → (∀ j v, us[j]? = some v → vs[i + j]? = some v) → resGo i ts d (.tuple vs.toArray) = resList ts us d
  | [], i, us, d, h, _ => by
    cases us with
    | nil => rfl
    | cons _ _ => cases h
  | t :: ts, i, [], d, h, _ => by cases h
  | t :: ts, i, u :: us, d, h, k => by
    have h0 : vg (.tuple vs.toArray) [i] = u := by
      show vs.toArray.getD i undef = u
      have := k 0 u rfl
      rw [Nat.add_zero] at this
      simp [Array.getD_eq_getD_getElem?, this]
    show Ch.own t.rep (vcells t.isProd (vg (.tuple vs.toArray) [i])) d.1 :: resGo (i + 1) ts d.2 _ = Ch.own t.rep (vcells t.isProd u) d.1 :: resList ts us d.2
    rw [h0, resGo_list (us := us) (by simpa using h) fun j v hj => by
      have := k (j + 1) v (by simpa using hj)
      rwa [show i + (j + 1) = i + 1 + j from by omega] at this]
theorem resGv_list {ts : List Ty} {vs : List Value} {d : denH ts} (h : vs.length = ts.length) : resGv ts d (retV vs) = resList ts vs d := by
  match ts, vs, d, h with
  | [], [], d, _ => rfl
  | [t], [v], d, _ => rfl
  | t :: u :: ts, v :: w :: vs, d, h =>
    show resGo 0 _ d (.tuple (v :: w :: vs).toArray) = _
    exact resGo_list h fun j x hj => by rw [Nat.zero_add]; exact hj
theorem resFa_ok {ts : List Ty} {vs : List Value} (h : vs.length = ts.length) (k : ∀ (i : Nat) t v, ts[i]? = some t → vs[i]? = some v → isAggV v = t.isProd) : resFa ts (retV vs) := by
  match ts, vs, h with
  | [], [], _ => exact ⟨#[], rfl, rfl, fun i t ht => by simp at ht⟩
  | [t], [v], _ => exact k 0 t v rfl rfl
  | t :: u :: ts, v :: w :: vs, h =>
    refine ⟨(v :: w :: vs).toArray, rfl, by simpa using h, fun i t' ht => ?_⟩
    have hlt : i < (v :: w :: vs).length := by rw [h]; exact (List.getElem?_eq_some_iff.1 ht).1
    have := k i t' ((v :: w :: vs)[i]) ht (List.getElem?_eq_getElem hlt)
    rw [← this, Array.getD_eq_getD_getElem?, List.getElem?_toArray, List.getElem?_eq_getElem hlt]; rfl

theorem retAvs_ok {P : Program} {I : Hp} {w0 w : World} {F : Ch} {J : Hp} {θ : Th} {n : Nat} {s : Sg} {a : Act} {tt : TT} (hT : TTok P tt) (hS : Sim P I w0 F n J θ s a w) : ∀ {rs : List ResultVar} {vs : List AV}, retAvs tt s rs = some vs → AllRes P a w rs (vs.map (·.v θ)) ∧ ∀ v ∈ vs, v.ok P w0 J θ s.nxt s.chs
  | [], vs, h => by
    obtain rfl := Option.some.inj (show some [] = some vs from h)
    exact ⟨rfl, fun v hv => by cases hv⟩
  | r :: rs, vs, h => by
    obtain ⟨v, hv', h⟩ := bind_some (show (retAv tt s r).bind _ = some vs from h)
    obtain ⟨us, hus, h⟩ := bind_some h
    obtain rfl := Option.some.inj h
    obtain ⟨k1, k2⟩ := retAv_ok hT hS hv'
    obtain ⟨q1, q2⟩ := retAvs_ok hT hS hus
    refine ⟨⟨_, _, rfl, k1, q1⟩, fun x hx => ?_⟩
    rcases List.mem_cons.1 hx with rfl | hx
    · exact k2
    · exact q2 x hx
theorem sepTo_app {J : Hp} {a b c d : List Ch} (h : SepTo J a b) (k : SepTo J c d) : SepTo J (a ++ c) (b ++ d) := fun w F hs => by
  obtain ⟨G, K, rfl, e1, e2⟩ := hs.split
  exact (h w G e1).append (k w K e2)
theorem St.sepTo {J : Hp} {w0 w : World} {a b C : List Ch} (h : St J w0 w (a ++ C)) (k : SepTo J a b) : St J w0 w (b ++ C) := by
  obtain ⟨h1, h2, F, h3, h4, h5⟩ := h
  obtain ⟨G, K, rfl, e1, e2⟩ := h3.split
  exact ⟨h1, h2, G ++ K, (k w G e1).append e2, h4, h5⟩
theorem con_of_wp' {P : Program} {n : Nat} {I : Hp} {w0 : World} {k : FuncId} {fn : Func} {c : Code} {args : Array Value} {rn : List Ch} {fact : Value → Prop} {gv : Value → List Ch} (L : List (Nat × Value)) (hf : P.funcs[k]? = some fn) (hb : fn.body = some c) (hn : fn.ntmps = n) (hm : args.size ≤ n) (hL : ∀ p ∈ L, args[p.1]? = some p.2)
    (h : ∀ F w a, Agr n a L → St I w0 w (rn ++ [F]) → c.wp P (bodyPost P fn fun e w' => ∃ v, e = .returned v ∧ fact v ∧ ∃ J, I.le J ∧ St J w0 w' (gv v ++ [F])) a w) (hd : ∀ v, Ch.back (gv v)) : Con P k args I w0 rn fact gv := by
  intro w C hs
  have hs' : St I w0 w (rn ++ [Ch.fr I C]) := by
    obtain ⟨hb, hi, F, h1, h2, h3⟩ := hs
    obtain ⟨G, K, rfl, e1, e2⟩ := h1.split
    exact ⟨hb, hi, G ++ K, e1.append ⟨K, [], by simp, e2, rfl⟩, h2, h3⟩
  have := h (Ch.fr I C) w { tmps := args ++ Array.replicate (fn.ntmps - args.size) undef, defers := [] } (Agr.start L (by omega) hL) hs'
  refine (calls_of_wp hf hb this).mono ?_
  rintro e w' ⟨v, rfl, hv, J, hJ, hs⟩
  exact ⟨v, rfl, hv, hs.back hJ (hd v)⟩
theorem prepR_ok {P : Program} {I : Hp} {w0 w : World} {F : Ch} {n : Nat} {J : Hp} {θ : Th} {s : Sg} {a : Act} {tr : Trs} {vs : List AV} (hS : Sim P I w0 F n J θ s a w) : ∃ J' θ', J.le J' ∧ Sim P I w0 F n J' θ' (prepR tr vs s) a w ∧ Fr s θ (prepR tr vs s) θ' := by
  have key : ∃ J' θ', J.le J' ∧ Sim P I w0 F n J' θ' (prepRF tr vs s) a w ∧ Fr s θ (prepRF tr vs s) θ' := by
    unfold prepRF
    split
    · exact ⟨J, θ, Hp.le.rfl, hS, Fr.rfl⟩
    · exact frzL_ok hS
  obtain ⟨J', θ', h1, h2, h3⟩ := key
  obtain ⟨S2, F2⟩ := prepL_ok (V := ⟨[], [], [], n, []⟩) (hs := retHdrs s vs ++ holeHdrs (prepRF tr vs s).chs) h2
  exact ⟨J', θ', h1, S2, h3.trans F2⟩
theorem ret_ok {V : Env} {P : Program} {w0 : World} {F : Ch} {J : Hp} {θ : Th} (hT : TTok P V.tt) {fn : Func} {rs : List Ty} {ps : List PM} {d : denP ps} {vs : List Value} {s0 : Sg} (k0 : vs.length = ps.length) (k5 : StF P w0 J θ ps.length 0 ps vs d) (hn0 : ps.length ≤ s0.nxt) : ∀ r J' θ' s' a' w', rtOf V fn.results.toList rs ps d s' = some r → Sim P J w0 F V.n J' θ' s' a' w' → J.le J' → Fr s0 θ s' θ' →
    bodyPost P fn (fun e w' => ∃ v, e = .returned v ∧ (resFa rs v ∧ (hasAnL 1000000 V.an = true → NilIff rs (hFst rs (outs ps) (toH _ r)) v)) ∧ ∃ J2, J.le J2 ∧ St J2 w0 w' ((resGv rs (hFst rs (outs ps) (toH _ r)) v ++ outCh ps vs (hSnd rs (outs ps) (toH _ r))) ++ [F])) .ret a' w' := by
  intro r J' θ' s' a' w' hrt hS' hJ hFr
  obtain ⟨vs00, hv00, hrt⟩ := bind_some (show (retAvs V.tt s' fn.results.toList).bind _ = some r from hrt)
  obtain ⟨s0', hrt, S0, N0⟩ := viewL_ok hrt (retAvs_ok hT hS' hv00).2 hS'
  obtain ⟨vs0, hv0, hrt⟩ := bind_some hrt
  obtain ⟨J1, θ1, hJ1, S1, F1⟩ := prepR_ok (tr := V.tr) (vs := vs0) S0
  generalize prepR V.tr vs0 s0' = s1 at hrt S1 F1
  have hle : s0.nxt ≤ s'.nxt := hFr.1
  have hsame : Same ps.length θ θ1 := fun i hi => (F1.same i (by omega)).trans (hFr.same i (by omega))
  replace hJ := hJ.trans hJ1
  clear hJ1 F1 hS' S0 hFr
  revert J1 θ1
  clear J' θ'
  intro J' θ' S1 hsame hJ
  obtain ⟨us, hus, hrt⟩ := bind_some hrt
  obtain ⟨q, hq, hrt⟩ := bind_some hrt
  obtain ⟨o, ho, hrt⟩ := bind_some hrt
  obtain ⟨u0, hnl, hrt⟩ := bind_some hrt
  obtain rfl := Option.some.inj hrt
  obtain ⟨r1, r2⟩ := retAvs_ok hT S1 hus
  obtain ⟨t1, t2, t3, t4⟩ := takeRes_ok (J := J') (θ := θ') hq r2
  obtain ⟨o1, o2⟩ := takeOuts_ok (P := P) (J := J) (J' := J') (θ := θ) (θ' := θ') (vs := vs) (n := ps.length) (n' := s1.nxt) (chs0 := s1.chs) hJ hsame ho k0 k5 fun e he => S1.fine.chs e (t1.mem_iff.2 (by simp [he]))
  have hl : (us.map (·.v θ')).length = rs.length := by rw [List.length_map]; exact t2
  refine ret_n S1.agr r1 ⟨_, rfl, ⟨resFa_ok hl fun i t v ht hv1 => ?_, fun han => ?_⟩, J', hJ, ?_⟩
  · rw [List.getElem?_map] at hv1
    obtain ⟨x, hx, rfl⟩ := Option.map_eq_some_iff.1 hv1
    exact t4 i t x ht hx
  · rw [toH_ofH, hFst_app]
    unfold nlChk at hnl
    rw [han] at hnl
    have hnl : 0 < nlN us rs q.1 := chk_some hnl
    rcases us with _ | ⟨x, us⟩
    · cases hnl
    · cases us with
      | nil => exact nlN_ok (θ := θ') hnl rfl
      | cons y us => unfold nlN at hnl; split at hnl <;> first | omega | simp_all
  · rw [toH_ofH, hFst_app, hSnd_app, resGv_list hl]
    have hp := t1.trans (o1.append_left _)
    have h1 := S1.st.perm ((hp.map (toCh P θ')).append_right [F])
    have h2 : St J' w0 w' ((q.2.1.map (toCh P θ') ++ o.2.1.map (toCh P θ')) ++ (o.2.2.map (toCh P θ') ++ [F])) := by
      simpa [List.map_append, List.append_assoc] using h1
    have h3 := St.sepTo h2 (sepTo_app t3 o2)
    refine St.left (ds := o.2.2.map (toCh P θ')) (h3.perm ?_)
    simp only [List.append_assoc]
    exact List.Perm.append_left _ (List.Perm.append_left _ List.perm_append_comm)
theorem fok_con {V : Env} {P : Program} (hT : TTok P V.tt) (hF : FTok P V.ft) (hmx : P.follows .mixedOrders = true) {k : FuncId} {fn : Func} {c : Code} {f : FS} (hf : P.funcs[k]? = some fn) (hb : fn.body = some c) (hn : fn.ntmps = V.n) (hen : Enters P k) (hm : f.ps.length ≤ V.n) (hdp : (backR f.rs && outDp f.ps) = true) (ann : Ann)
    (hmod : ∀ d, appP f.ps f.m d = interp V (rtOf V fn.results.toList f.rs f.ps d) c ann (fun r => some r) (fun _ _ => none) (rtOf V fn.results.toList f.rs f.ps d) (openA (startS f.ps d))) : ∀ w0 J vs (d : denP f.ps) r, Lay P J → PArgs P w0 J f.ps vs d → appP f.ps f.m d = some r → Con P k vs.toArray J w0 (owCh f.ps vs d) (fun v => resFa f.rs v ∧ (hasAnL 1000000 V.an = true → NilIff f.rs (hFst f.rs (outs f.ps) (toH _ r)) v)) (fun v => resGv f.rs (hFst f.rs (outs f.ps) (toH _ r)) v ++ outCh f.ps vs (hSnd f.rs (outs f.ps) (toH _ r))) := by
  rw [Bool.and_eq_true] at hdp
  intro w0 J vs d r hlay ha hr
  rw [hmod] at hr
  let θ : Th := fun i => vs.getD i undef
  have hθ : ∀ j v, vs[j]? = some v → θ (0 + j) = v := fun j v hj => by
    show vs.getD (0 + j) undef = v
    rw [Nat.zero_add, List.getD_eq_getElem?_getD, hj]; rfl
  have k0 := pargs_len ha
  have hzip : ∀ p ∈ (vs.zipIdx.map fun q => (q.2, q.1)), vs.toArray[p.1]? = some p.2 := fun p hp => by
    obtain ⟨q, hq, rfl⟩ := List.mem_map.1 hp
    obtain ⟨v, j⟩ := q
    have := (List.mk_mem_zipIdx_iff_getElem? (x := v) (i := j)).1 hq
    simpa using this
  refine con_of_wp' (n := V.n) (vs.zipIdx.map fun q => (q.2, q.1)) hf hb hn (by rw [List.size_toArray, k0]; exact hm) hzip (fun F w a hA hst => ?_) (fun v => resGv_back (outCh_deep _ _ _ hdp.2) _ _ hdp.1)
  · obtain ⟨k1, k2, k3, k4, k5⟩ := start_ok (n := f.ps.length) (C := [F]) ha hθ (by omega) hst
    have hfine : Fine P w0 J θ (startS f.ps d) := ⟨fun e he => (k1 e he).1 _, fun e he => by have := k1 e he; show e.2.1 < f.ps.length; omega, k2, fun e he => k4 e he _, hlay⟩
    have hA' : Agr V.n a (envL θ (startS f.ps d)) := hA.pick _ fun p hp => by
      obtain ⟨e, he, rfl⟩ := List.mem_map.1 hp
      have h5 := (k1 e he).2.2.2.2
      rw [Nat.sub_zero] at h5
      have key : ∀ (l : List Value) (k : Nat) (i : Nat) (v : Value), k ≤ i → l[i - k]? = some v → ((l.zipIdx k).map fun q => (q.2, q.1)).lookup i = some v := by
        intro l
        induction l with
        | nil => intro k i v _ h; simp at h
        | cons x l ih =>
          intro k i v hk h
          simp only [List.zipIdx_cons, List.map_cons, List.lookup_cons]
          by_cases e : i = k
          · subst e
            simp at h
            simp [h]
          · have : (i == k) = false := by simpa using e
            rw [this]
            refine ih (k + 1) i v (by omega) ?_
            rw [show i - k = (i - (k + 1)) + 1 from by omega] at h
            simpa using h
      exact key vs 0 e.1 _ (Nat.zero_le _) h5
    have hS : Sim P J w0 F V.n J θ (startS f.ps d) a w := ⟨Hp.le.rfl, hA', k3, hfine⟩
    have fin := ret_ok (rs := f.rs) (fn := fn) (F := F) hT k0 k5 (Nat.le_refl (startS f.ps d).nxt)
    obtain ⟨θ0, hS0, hFr0⟩ := openA_ok hS
    exact (interp_both (I := J) (w0 := w0) (F := F) hT hF hmx c).1 ann hr hS0 (fun J' θ' s' a' w' hk S' hJ hFr => fin r J' θ' s' a' w' hk S' hJ (hFr0.trans hFr)) (fun i J' θ' s' a' w' hk => by cases hk) (fun r' J' θ' s' a' w' hrt hrr hS' hJ hFr => by
      obtain rfl := Option.some.inj hrr
      exact fin _ J' θ' s' a' w' hrt hS' hJ (hFr0.trans hFr))
theorem fok {V : Env} {P : Program} (hT : TTok P V.tt) (hF : FTok P V.ft) (hmx : P.follows .mixedOrders = true) {k : FuncId} {fn : Func} {c : Code} {f : FS} (hf : P.funcs[k]? = some fn) (hb : fn.body = some c) (hn : fn.ntmps = V.n) (hen : Enters P k) (hcl : f.cl = none) (hm : f.ps.length ≤ V.n) (hdp : (backR f.rs && outDp f.ps) = true) (ann : Ann)
    (hmod : ∀ d, appP f.ps f.m d = interp V (rtOf V fn.results.toList f.rs f.ps d) c ann (fun r => some r) (fun _ _ => none) (rtOf V fn.results.toList f.rs f.ps d) (openA (startS f.ps d))) : FOk P k f :=
  ⟨fun q hq => by (rw [hcl] at hq; cases hq), fun _ => hen, fun w0 J vs d r hlay ha hr w C hs => (fok_con hT hF hmx hf hb hn hen hm hdp ann hmod w0 J vs d r hlay ha hr w C hs).mono fun e w' ⟨v, h1, h2, h3⟩ => ⟨v, h1, h2.1, h3⟩⟩
theorem clone_ok {V : Env} {P : Program} (hT : TTok P V.tt) (hF : FTok P V.ft) (hmx : P.follows .mixedOrders = true) {k : FuncId} {fn : Func} {c : Code} {E b : Nat} (hf : P.funcs[k]? = some fn) (hb : fn.body = some c) (hn : fn.ntmps = V.n) (hen : Enters P k) (hm : 1 ≤ V.n) (ann : Ann)
    (hmod : ∀ (E' : TypeId) (bn : Bool) (xs : List Raw), (match bn with | true => some ([] : List Raw) | false => (appI b [] xs).bind fun zs => some zs) = interp V (rtOf V fn.results.toList [.sl E .raw] [] ()) c ann (fun r => some r) (fun _ _ => none) (rtOf V fn.results.toList [.sl E .raw] [] ()) ⟨[(0, 0, .one (.rdn ⟨0, []⟩ bn (.sl E' .raw) xs))], [], 1⟩) : CloneOk P k E b := by
  refine ⟨hen, fun E' J w0 v xs zs hlay hrd happ => ?_⟩
  obtain ⟨bn, hbn⟩ : ∃ bn, isNilV v = bn := ⟨_, rfl⟩
  have hr : interp V (rtOf V fn.results.toList [.sl E .raw] [] ()) c ann (fun r => some r) (fun _ _ => none) (rtOf V fn.results.toList [.sl E .raw] [] ()) ⟨[(0, 0, .one (.rdn ⟨0, []⟩ bn (.sl E' .raw) xs))], [], 1⟩ = some zs := by
    rw [← hmod E' bn xs]
    cases bn with
    | false =>
      show (appI b [] xs).bind _ = _
      rw [happ]; rfl
    | true =>
      obtain ⟨h1, -⟩ := appI_nil happ
      obtain ⟨ao, cap, e, -, hx⟩ := hrd
      obtain rfl : v = .slice ao xs.length cap := by simpa using e
      rcases hx with rfl | ⟨b, off, ccs, t, fr, rfl, -⟩
      · rw [h1]; rfl
      · cases hbn
  let θ : Th := fun _ => v
  have key : Con P k #[v] J w0 [] (fun v => resFa [.sl E .raw] v ∧ (hasAnL 1000000 V.an = true → NilIff [.sl E .raw] (zs, ()) v)) (fun v => resGv [.sl E .raw] (zs, ()) v ++ []) := by
    refine con_of_wp' (n := V.n) [(0, v)] hf hb hn hm (fun p hp => by obtain rfl := List.mem_singleton.1 hp; rfl) (fun F w a hA hst => ?_) (fun u => resGv_back (D := []) trivial [.sl E .raw] (zs, ()) rfl)
    have hfine : Fine P w0 J θ ⟨[(0, 0, .one (.rdn ⟨0, []⟩ bn (.sl E' .raw) xs))], [], 1⟩ := ⟨fun e he => by obtain rfl := List.mem_singleton.1 he; exact ⟨Nat.one_pos, hrd, hbn⟩, fun e he => by obtain rfl := List.mem_singleton.1 he; exact Nat.one_pos, List.pairwise_singleton _ _, fun e he => (by cases he), hlay⟩
    have hS : Sim P J w0 F V.n J θ ⟨[(0, 0, .one (.rdn ⟨0, []⟩ bn (.sl E' .raw) xs))], [], 1⟩ a w := ⟨Hp.le.rfl, hA, hst, hfine⟩
    have fin := ret_ok (V := V) (θ := θ) (J := J) (w0 := w0) (rs := [.sl E .raw]) (ps := []) (d := ()) (vs := []) (s0 := ⟨[(0, 0, .one (.rdn ⟨0, []⟩ bn (.sl E' .raw) xs))], [], 1⟩) (fn := fn) (F := F) hT rfl trivial (Nat.zero_le _)
    exact (interp_both (I := J) (w0 := w0) (F := F) hT hF hmx c).1 ann hr hS (fun J' θ' s' a' w' hk S' hJ hFr => fin _ J' θ' s' a' w' hk S' hJ hFr) (fun i J' θ' s' a' w' hk => by cases hk) (fun r' J' θ' s' a' w' hrt hrr hS' hJ hFr => by
      obtain rfl := Option.some.inj hrr
      exact fin _ J' θ' s' a' w' hrt hS' hJ hFr)
  exact fun w C hs => (key w C hs).mono fun e w' ⟨v, h1, h2, h3⟩ => ⟨v, h1, trivial, h3⟩
/-! ### Elements of some cells, whatever lies in them -/
def rawsT : Nat → Ty
  | 0 => .raw
  | n + 1 => .prod .raw (rawsT n)
def cellsR : (n : Nat) → (rawsT n).den → List Value
  | 0, p => [p.1]
  | n + 1, p => p.1.1 :: cellsR n p.2
theorem raws_size : ∀ n, (rawsT n).rep.size = n + 1
  | 0 => rfl
  | n + 1 => by
    show 1 + (rawsT n).rep.size = _
    rw [raws_size n]; omega
theorem raws_own {I : Hp} {w : World} : ∀ (n : Nat) {cs : List Value} {p : (rawsT n).den} {F : List Nat}, (rawsT n).rep.own I w cs p F → F = [] ∧ cs = cellsR n p
  | 0, cs, p, F, h => by
    obtain ⟨h1, h2⟩ := h
    exact ⟨h1, h2⟩
  | n + 1, cs, p, F, ⟨c, d, G, K, h1, h2, h3, h4⟩ => by
    obtain ⟨rfl, h5⟩ := h3
    obtain ⟨rfl, h6⟩ := raws_own n h4
    have h5 : c = [p.1.1] := h5
    subst h1; subst h2; subst h5
    exact ⟨rfl, by rw [h6]; rfl⟩
theorem raws_ex : ∀ (n : Nat) (cs : List Value), cs.length = n + 1 → (∀ u ∈ cs, u.oneCell' = true) → ∃ p : (rawsT n).den, cellsR n p = cs
  | 0, cs, hl, h1 => by
    obtain ⟨u, rfl⟩ := List.length_eq_one_iff.1 hl
    exact ⟨⟨u, h1 u (by simp)⟩, rfl⟩
  | n + 1, u :: cs, hl, h1 => by
    obtain ⟨p, hp⟩ := raws_ex n cs (by simpa using hl) (fun v hv => h1 v (by simp [hv]))
    exact ⟨(⟨u, h1 u (by simp)⟩, p), by show u :: cellsR n p = _; rw [hp]⟩
theorem fok_none {P : Program} {k : FuncId} {f : FS} (h : Enters P k) (hc : f.cl = none) (hm : ∀ d, appP f.ps f.m d = none) : FOk P k f :=
  ⟨fun q hq => by (rw [hc] at hq; cases hq), fun _ => h, fun _ _ _ d r _ _ hr => by rw [hm d] at hr; cases hr⟩
theorem fok_clone {P : Program} {k : FuncId} {f : FS} {E b : Nat} (h : FOk P k ⟨f.ps, f.rs, f.m, none⟩) (hc : CloneOk P k E b) (hb : Nat.beq b 0 = false := by rfl) (h7 : Nat.beq b 7 = false := by rfl) (h8 : Nat.ble 1000 b = false := by rfl) : FOk P k ⟨f.ps, f.rs, f.m, some (E, b)⟩ :=
  ⟨fun q hq => by obtain rfl := Option.some.inj hq; exact ⟨⟨fun e => (by rw [hb] at e; cases e), fun _ _ _ => hc, fun e => (by rw [h8] at e; cases e)⟩, fun e => (by rw [h7] at e; cases e)⟩, fun _ => h.en rfl, h.con⟩
theorem fok_tog {P : Program} {k : FuncId} {f : FS} {E b : Nat} (h : FOk P k ⟨f.ps, f.rs, f.m, none⟩) (hc : TogOk P k E (b - 1000)) (h8 : Nat.ble 1000 b = true := by rfl) (h0 : Nat.beq b 0 = false := by rfl) (h7 : Nat.beq b 7 = false := by rfl) : FOk P k ⟨f.ps, f.rs, f.m, some (E, b)⟩ :=
  ⟨fun q hq => by obtain rfl := Option.some.inj hq; exact ⟨⟨fun e => (by rw [h0] at e; cases e), fun _ _ e => (by rw [h8] at e; cases e), fun _ => hc⟩, fun e => (by rw [h7] at e; cases e)⟩, fun _ => h.en rfl, h.con⟩
theorem tog_of {P : Program} {k : FuncId} {T f : Nat} (he : Enters P k) (h : ∀ (c d : List Value) (w : World), Calls P k #[.agg c.toArray, .agg d.toArray] w fun e w' => e = .returned (.func (.func f) #[] #[.pointer (some ⟨w.heap.size, 0, none⟩), .pointer (some ⟨w.heap.size + 1, 0, none⟩)]) ∧ w' = (w.alloc (.cells c.toArray T)).alloc (.cells d.toArray T)) : TogOk P k T f := by
  refine ⟨he, fun I w0 c d w C hs => (h c d w).mono ?_⟩
  rintro e w' ⟨rfl, rfl⟩
  refine ⟨_, rfl, ⟨_, _, rfl⟩, ?_⟩
  have h1 := (hs.alloc c T).alloc d T
  have hsz : (w.alloc (.cells c.toArray T)).heap.size = w.heap.size + 1 := by simp
  rw [hsz] at h1
  exact St.emp.2 (h1.perm (List.Perm.swap _ _ _))
end Go.Proofs.YtcmpdlhbliolaaaGreat.R
/- Functions over rows, whatever lies in their elements. No program text is named here. -/
set_option linter.unusedVariables false
set_option linter.unusedSimpArgs false
set_option linter.unnecessarySimpa false
set_option linter.unusedSectionVars false
namespace Go.Proofs.YtcmpdlhbliolaaaGreat.R
open Go.RowKit
open Go.Proofs.YtcmpdlhbliolaaaGreat.D

theorem els_raws {n : Nat} {α : Type} {R : Rep α} (hR : R.Sh) (h1 : R.size = n + 1) {I : Hp} {w : World} : ∀ {xs : List α} {cur : List Value} {K : List Nat}, OwnEls R I w cur xs K → ∃ ps : List (rawsT n).den, K = [] ∧ OwnEls (rawsT n).rep I w cur ps [] ∧ All2 (fun p x => R.rd I (cellsR n p) x) ps xs
  | [], cur, K, h => ⟨[], h, rfl, .nil⟩
  | x :: xs, cur, K, ⟨c, rest, G, K1, e1, e2, e3, e4, e5⟩ => by
    obtain ⟨rfl, hrd⟩ := hR e4
    obtain ⟨p, rfl⟩ := raws_ex n c (e2.trans h1) (R.rd_one hrd)
    obtain ⟨ps, rfl, k2, k3⟩ := els_raws hR h1 e5
    have hraw : ∀ (m : Nat) (q : (rawsT m).den), (rawsT m).rep.own I w (cellsR m q) q [] := by
      intro m
      induction m with
      | zero => intro q; exact ⟨rfl, rfl⟩
      | succ m ih => intro q; exact ⟨[q.1.1], cellsR m q.2, [], [], rfl, rfl, ⟨rfl, rfl⟩, ih q.2⟩
    exact ⟨p :: ps, e3, ⟨cellsR n p, rest, [], [], e1, by rw [e2, h1, raws_size], rfl, hraw n p, k2⟩, .cons hrd k3⟩
theorem row_raws {n : Nat} {α : Type} {E : TypeId} {R : Rep α} (hR : R.Sh) (h1 : R.size = n + 1) {I : Hp} {w0 w : World} {C : List Ch} {v : Value} {xs : List α} (h : St I w0 w (Ch.own (rSlice E R) [v] xs :: C)) : ∃ ps : List (rawsT n).den, All2 (fun p x => R.rd I (cellsR n p) x) ps xs ∧ St I w0 w (Ch.own (rSlice E (rawsT n).rep) [v] ps :: C) := by
  obtain ⟨a1, a2, F, ⟨G, K, rfl, ⟨hl, k⟩, e⟩, a4, a5⟩ := h
  rcases k with ⟨hv', rfl, rfl⟩ | ⟨g, ofs, cap, cur, K1, hv', k1, k2, k3, k4, rfl, k5⟩
  · exact ⟨[], .nil, a1, a2, [] ++ K, ⟨[], K, rfl, ⟨Nat.zero_le _, .inl ⟨hv', rfl, rfl⟩⟩, e⟩, a4, a5⟩
  · obtain ⟨ps, rfl, q1, q2⟩ := els_raws hR h1 k5
    have hlen := q2.length_eq
    exact ⟨ps, q2, a1, a2, [g] ++ K, ⟨[g], K, rfl, ⟨by rw [hlen]; exact hl, .inr ⟨g, ofs, cap, cur, [], by rw [hlen]; exact hv', k1, by rw [hlen]; exact k2, k3, by rw [h1] at k4; rw [raws_size]; exact k4, rfl, q1⟩⟩, e⟩, a4, a5⟩
theorem raws_elsC {n : Nat} {α : Type} {R : Rep α} (hC : Cpy R R) (h1 : R.size = n + 1) {I : Hp} {w : World} : ∀ {ps : List (rawsT n).den} {xs : List α} {cur : List Value} {F : List Nat}, OwnEls (rawsT n).rep I w cur ps F → All2 (fun p x => R.rd I (cellsR n p) x) ps xs → OwnEls R I w cur xs F
  | [], [], _, _, h, _ => h
  | p :: ps, x :: xs, cur, F, ⟨c, rest, G, K, e1, e2, e3, e4, e5⟩, hh => by
    cases hh with
    | cons hp hps =>
      obtain ⟨rfl, rfl⟩ := raws_own n e4
      exact ⟨cellsR n p, rest, [], K, e1, by rw [e2, raws_size]; exact h1.symm, e3, hC hp, raws_elsC hC h1 e5 hps⟩
  | [], _ :: _, _, _, _, hh => by cases hh
  | _ :: _, [], _, _, _, hh => by cases hh
theorem raws_rowC {n : Nat} {α : Type} {E : TypeId} {R : Rep α} (hC : Cpy R R) (h1 : R.size = n + 1) {I : Hp} {w0 w : World} {C : List Ch} {v : Value} {xs : List α} {ps : List (rawsT n).den} (hp : All2 (fun p x => R.rd I (cellsR n p) x) ps xs) (h : St I w0 w (Ch.own (rSlice E (rawsT n).rep) [v] ps :: C)) : St I w0 w (Ch.own (rSlice E R) [v] xs :: C) := by
  obtain ⟨a1, a2, F, ⟨G, K, rfl, ⟨hl, k⟩, e⟩, a4, a5⟩ := h
  have hlen := hp.length_eq
  rcases k with ⟨hv', rfl, rfl⟩ | ⟨g, ofs, cap, cur, K1, hv', k1, k2, k3, k4, rfl, k5⟩
  · cases hp
    exact ⟨a1, a2, [] ++ K, ⟨[], K, rfl, ⟨Nat.zero_le _, .inl ⟨hv', rfl, rfl⟩⟩, e⟩, a4, a5⟩
  · exact ⟨a1, a2, (g :: K1) ++ K, ⟨g :: K1, K, rfl, ⟨by rw [← hlen]; exact hl, .inr ⟨g, ofs, cap, cur, K1, by rw [← hlen]; exact hv', k1, by rw [← hlen]; exact k2, k3, by rw [raws_size] at k4; rw [h1]; exact k4, rfl, raws_elsC hC h1 k5 hp⟩⟩, e⟩, a4, a5⟩
theorem all2_take {α β : Type} {p : α → β → Prop} : ∀ {xs : List α} {ys : List β} (n : Nat), All2 p xs ys → All2 p (xs.take n) (ys.take n)
  | _, _, 0, _ => .nil
  | _, _, n + 1, .nil => .nil
  | _, _, n + 1, .cons h k => .cons h (all2_take n k)
theorem all2_app {α β : Type} {p : α → β → Prop} : ∀ {xs : List α} {ys : List β} {xs' : List α} {ys' : List β}, All2 p xs ys → All2 p xs' ys' → All2 p (xs ++ xs') (ys ++ ys')
  | _, _, _, _, .nil, h => h
  | _, _, _, _, .cons h k, h' => .cons h (all2_app k h')

/-! ### Delete -/
def delI {α : Type} (xs : List α) (i j : Int) : Option (List α) := (chk (0 ≤ i ∧ i ≤ j ∧ j ≤ (xs.length : Int))).bind fun _ => some (xs.take i.toNat ++ xs.drop j.toNat)
def delM {α : Type} (z : α) (p0s : List α) (p1i p2j : Int) : Option (List α) :=
  (chk (And (0 ≤ p1i) (And (p1i ≤ p2j) (And (p2j ≤ (p0s.length : Int)) ((0 + (p0s.length : Int)) ≤ (p0s.length : Int)))))).bind fun _ => if p1i == p2j then (some p0s) else ((chk (And ((0 : Int) ≤ 0) (And (0 ≤ p1i) ((0 + p1i) ≤ (p0s.length : Int))))).bind fun _ => (chk (And (0 ≤ p2j) (And (p2j ≤ ((p0s.length : Int) - 0)) ((0 + ((p0s.length : Int) - 0)) ≤ (p0s.length : Int))))).bind fun _ => (chk (And ((0 + 0 : Int) = 0) (And ((0 + p1i) ≤ (0 + p2j)) (And ((0 + p2j) ≤ (0 + ((p0s.length : Int) - 0))) ((0 + ((p0s.length : Int) - 0)) ≤ (p0s.length : Int)))))).bind fun _ => (chk (And (0 ≤ (((0 + p1i) + ((0 + ((p0s.length : Int) - 0)) - (0 + p2j))) - 0)) (And ((((0 + p1i) + ((0 + ((p0s.length : Int) - 0)) - (0 + p2j))) - 0) ≤ (p0s.length : Int)) ((0 + (p0s.length : Int)) ≤ ((slideM p0s ((0 + p1i).toNat) ((0 + p2j).toNat) ((0 + ((p0s.length : Int) - 0)).toNat)).length : Int))))).bind fun _ => (chk (And ((0 + (((0 + p1i) + ((0 + ((p0s.length : Int) - 0)) - (0 + p2j))) - 0)) ≤ (0 + (p0s.length : Int))) ((0 + (p0s.length : Int)) ≤ ((slideM p0s ((0 + p1i).toNat) ((0 + p2j).toNat) ((0 + ((p0s.length : Int) - 0)).toNat)).length : Int)))).bind fun _ => some (((zeroM (slideM p0s ((0 + p1i).toNat) ((0 + p2j).toNat) ((0 + ((p0s.length : Int) - 0)).toNat)) ((0 + (((0 + p1i) + ((0 + ((p0s.length : Int) - 0)) - (0 + p2j))) - 0)).toNat) ((0 + (p0s.length : Int)).toNat) z).take (((0 + p1i) + ((0 + ((p0s.length : Int) - 0)) - (0 + p2j))).toNat)).drop ((0 : Int).toNat)))
theorem chk_of {α : Type} {p : Prop} [Decidable p] {k : Unit → Option α} (h : p) : (chk p).bind k = k () := by
  unfold chk
  rw [if_pos h]; rfl
theorem delM_eq {α : Type} {z : α} {xs : List α} {i j : Int} (h1 : 0 ≤ i) (h2 : i ≤ j) (h3 : j ≤ (xs.length : Int)) : delM z xs i j = some (xs.take i.toNat ++ xs.drop j.toNat) := by
  have hsl : (slideM xs ((0 + i).toNat) ((0 + j).toNat) ((0 + ((xs.length : Int) - 0)).toNat)).length = xs.length := slideM_length (by omega) (by omega) (by omega)
  unfold delM
  rw [chk_of (by omega)]
  by_cases hij : i = j
  · subst hij
    rw [if_pos (by simp), List.take_append_drop]
  · rw [if_neg (by simpa using hij), chk_of (by omega), chk_of (by omega), chk_of (by omega), chk_of (by rw [hsl]; omega), chk_of (by rw [hsl]; omega)]
    have hzl : (zeroM (slideM xs ((0 + i).toNat) ((0 + j).toNat) ((0 + ((xs.length : Int) - 0)).toNat)) ((0 + (((0 + i) + ((0 + ((xs.length : Int) - 0)) - (0 + j))) - 0)).toNat) ((0 + (xs.length : Int)).toNat) z).length = xs.length := by
      rw [zeroM_length (by omega) (by rw [hsl]; omega), hsl]
    congr 1
    rw [show ((0 : Int).toNat) = 0 from rfl, List.drop_zero]
    apply List.ext_getElem?
    intro q
    have hi : (xs.take i.toNat).length = i.toNat := by rw [List.length_take]; omega
    rw [List.getElem?_take]
    by_cases c : q < ((0 + i) + ((0 + ((xs.length : Int) - 0)) - (0 + j))).toNat
    · rw [if_pos c, zeroM_get (by omega) (by rw [hsl]; omega), if_neg (by omega), slideM_get (by omega) (by omega) (by omega)]
      by_cases c1 : q < i.toNat
      · rw [if_neg (by omega), List.getElem?_append_left (by omega), List.getElem?_take, if_pos c1]
      · rw [if_pos (by omega), List.getElem?_append_right (by omega), hi, List.getElem?_drop]
        congr 1; omega
    · rw [if_neg c, List.getElem?_append_right (by omega), List.getElem?_drop, List.getElem?_eq_none (by omega)]
theorem fok_del {P : Program} {k : FuncId} {E n : Nat} {u : Ty} {z : (rawsT n).den} (hu : u.sh = true) (hs : u.size = n + 1) (h : FOk P k ⟨[.eat (.sl E (rawsT n)), .rd (.int .i64), .rd (.int .i64)], [.sl E (rawsT n)], delM z, none⟩) : FOk P k ⟨[.eat (.sl E u), .rd (.int .i64), .rd (.int .i64)], [.sl E u], delI, none⟩ := by
  refine ⟨fun q hq => (by cases hq), fun _ => h.en rfl, fun w0 J vs d r hlay ha happ => ?_⟩
  obtain ⟨v, vs1, rfl, hd, v2, vs2, rfl, hd2, v3, vs3, rfl, hd3, hnil⟩ := ha
  obtain rfl : vs3 = [] := hnil
  obtain ⟨xs0, i0, j0, un⟩ := d
  let xs : List u.den := xs0
  let i : Int := i0
  let j : Int := j0
  let zs : List u.den := r
  have happ : delI xs i j = some zs := happ
  obtain ⟨u1, hc, hz⟩ := Option.bind_eq_some_iff.1 happ
  obtain ⟨c1, c2, c3⟩ := chk_some hc
  have hz := Option.some.inj hz
  have hsz : u.rep.size = n + 1 := (Ty.rep_size u).trans hs
  intro w C hst
  have hst : St J w0 w (Ch.own (rSlice E u.rep) [v] xs :: C) := hst
  obtain ⟨ps, hp, hst2⟩ := row_raws (Ty.sh_ok hu) hsz hst
  have hlen := hp.length_eq
  have hm : delM z ps i j = some (ps.take i.toNat ++ ps.drop j.toNat) := delM_eq c1 c2 (by rw [hlen]; exact c3)
  have key := h.con w0 J [v, v2, v3] (ps, i, j, ()) (show dens ([Ty.sl E (rawsT n)] ++ []) from ps.take i.toNat ++ ps.drop j.toNat) hlay ⟨v, _, rfl, hd, v2, _, rfl, hd2, v3, _, rfl, hd3, rfl⟩ hm
  refine (key w C hst2).mono fun e w' ⟨r, a1, a2, a3⟩ => ⟨r, a1, a2, ?_⟩
  have a3 : St J w0 w' (Ch.own (rSlice E (rawsT n).rep) [r] (ps.take i.toNat ++ ps.drop j.toNat) :: C) := a3
  show St J w0 w' (Ch.own (rSlice E u.rep) [r] zs :: C)
  rw [← hz]
  exact raws_rowC (Ty.cpy hu) hsz (all2_app (all2_take _ hp) (forall2_drop _ hp)) a3

/-! ### Insert -/
end Go.Proofs.YtcmpdlhbliolaaaGreat.R
/- slices.Sort of ints (the shelf's contract, brought to rows). No program text is named here. -/
set_option linter.unusedVariables false
set_option linter.unusedSimpArgs false
set_option linter.unnecessarySimpa false
namespace Go.Proofs.YtcmpdlhbliolaaaGreat.R
open Go.RowKit Go.Shelf Go.Sort
open Go.Proofs.YtcmpdlhbliolaaaGreat.D
abbrev IT : Ty := .int .i64
def sortI (xs : List Int) : Option (List Int) := (chk (xs.length < 4611686018427387904)).bind fun _ => some (xs.mergeSort fun x y => decide (x ≤ y))
theorem St.grownI {I : Hp} {w0 w : World} {cs : List Ch} (h : St I w0 w cs) (os : Array Obj) : St I w0 (grow w os) cs := by
  refine St.step (w := w) (c := []) (c' := []) h rfl rfl rfl (by simp [grow]) ?_
  rintro F rfl - -
  exact ⟨fun b hb _ => heap_grow_old w os hb, [], rfl, List.nodup_nil, by simp⟩
theorem fok_sorti {P : Program} {ρ : Ren} (L : Lays.n189 P ρ) (en : Enters P (ρ.f 189)) (E : TypeId) :
    FOk P (ρ.f 189) ⟨[.ow (.sl E IT)], [], fun xs => sortI xs, none⟩ := by
  refine ⟨fun q hq => (by cases hq), fun _ => en, fun w0 J vs d r hlay ha happ => ?_⟩
  obtain ⟨v, vs1, rfl, hd, hnil⟩ := ha
  obtain rfl : vs1 = [] := hnil
  obtain ⟨xs0, un⟩ := d
  let xs : List Int := xs0
  let zs : List Int := r
  have happ : sortI xs = some zs := happ
  obtain ⟨u1, hc, hz⟩ := Option.bind_eq_some_iff.1 happ
  have hc := chk_some hc
  have hz := Option.some.inj hz
  intro w C hst
  have hst : St J w0 w (Ch.own (rSlice E IT.rep) [v] xs :: C) := hst
  clear happ
  rename_i happ0
  clear happ0 hd
  clear_value xs
  have hfin : ∀ {e : Ending} {w' : World}, (∃ W, e = .returned (.tuple #[]) ∧ w' = W ∧ St J w0 W (Ch.own (rSlice E IT.rep) [v] zs :: C)) → ∃ v' : Value, e = .returned v' ∧ (∃ vs : Array Value, v' = .tuple vs ∧ vs.size = 0 ∧ ∀ (i : Nat) (t : Ty), ([] : List Ty)[i]? = some t → isAggV (vs.getD i undef) = t.isProd) ∧ St J w0 w' (Ch.own (rSlice E IT.rep) [v] zs :: C) := by
    rintro e w' ⟨W, rfl, rfl, h⟩
    exact ⟨_, rfl, ⟨#[], rfl, rfl, fun i t h => (by simp at h)⟩, h⟩
  have hcase : (v = .slice none 0 0 ∧ xs = []) ∨ ∃ g' ofs n cap, v = .slice (some ⟨g', ofs, none⟩) n cap := by
    obtain ⟨hb, hi, F, ⟨G, K, rfl, ⟨hl, e2⟩, e3⟩, h4, h5⟩ := hst
    rcases e2 with ⟨hv, h1, _⟩ | ⟨g', ofs', cap', cur, K1, hv, _⟩
    · exact .inl ⟨List.cons.inj hv |>.1, h1⟩
    · exact .inr ⟨_, _, _, _, List.cons.inj hv |>.1⟩
  rcases hcase with ⟨rfl, hx⟩ | ⟨g', ofs, n, cap, rfl⟩
  · refine (Any.slices_Sort_int_none L none 0 w).mono fun e w' ⟨he, hw⟩ => hfin ⟨_, he, hw, ?_⟩
    rw [← hz, hx, List.mergeSort_nil]
    rw [hx] at hst
    exact hst
  · obtain ⟨hn, h1, h2, cur, hg, hroom, hat⟩ := row_at (R := IT.rep) (k := 1) (Ty.sh_ok (t := IT) rfl) rfl hst
    obtain rfl := hn
    have hH : Holds (Value.int .i64) w g' ofs xs.toArray := by
      intro j hj
      have hj : j < xs.length := by simpa using hj
      obtain ⟨c, e1, e2, e3⟩ := hat j _ (List.getElem?_eq_getElem hj)
      have hcj := e2 0 Nat.one_pos
      obtain rfl : c = [.int .i64 xs[j]] := e3
      rw [Nat.mul_one, Nat.add_zero, List.getElem?_drop] at hcj
      refine ⟨?_, ?_⟩
      · unfold World.cell?
        simp only [hg]
        rw [← Array.getElem?_toList, hcj, getElem!_pos xs.toArray _ (by simpa using hj)]
        simp
      · unfold World.frozen?
        simp only [hg]
        simp
    have hblk : g' < w.heap.size := by
      rcases Nat.lt_or_ge g' w.heap.size with c | c
      · exact c
      · rw [Array.getElem?_eq_none c] at hg; cases hg
    refine (Any.slices_Sort_int L g' ofs cap xs w hH hblk hc).mono ?_
    rintro e w' ⟨he, m, os, rfl⟩
    refine hfin ⟨_, he, rfl, ?_⟩
    have hlen : zs.length = xs.length := by rw [← hz]; exact List.length_mergeSort _
    rw [hz, Go.Lib.sorted_world (Value.int .i64) w g' ofs m xs.toArray zs os hH (by simpa using hlen)]
    refine St.grownI ?_ os
    have hst2 : St J w0 (w.drewN m) (Ch.own (rSlice E IT.rep) [.slice (some ⟨g', ofs, none⟩) xs.length cap] xs :: C) := hst.drawn rfl rfl rfl rfl
    have hcapz : zs.length ≤ cap := by rw [hlen]; exact h1
    have hlimz : zs.length ≤ lim := by
      have : lim = 2 ^ 63 - 1 := rfl
      have : maxLen = 2 ^ 63 - 1 := rfl
      omega
    have h3 := row_set (p := 0) (cnt := xs.length) (zs := zs) (news := zs.map (Value.int .i64)) (Ty.sh_ok (t := IT) rfl) (Ty.cpy (t := IT) rfl) (k := 1) rfl (by simp [hlen]) (by omega) hcapz hlimz (fun i z hi => .inl ⟨Nat.zero_le _, (by
      have := (List.getElem?_eq_some_iff.1 hi).1
      have : i < zs.length := this
      omega), [.int .i64 z], rfl, fun j hj => by
        obtain rfl : j = 0 := by omega
        rw [Nat.sub_zero, Nat.mul_one, Nat.add_zero, List.getElem?_map]
        have hi : zs[i]? = some z := hi
        rw [hi]; rfl, rfl⟩) hst2
    rw [Nat.zero_mul, Nat.add_zero, show @List.length IT.den zs = xs.length from hlen] at h3
    exact h3
end Go.Proofs.YtcmpdlhbliolaaaGreat.R
/- The shelf's slices.Sort of ints laid at this program. -/
namespace Go.Proofs.YtcmpdlhbliolaaaGreat.R
open Go.Shelf
def laysSort189_ren : Go.Shelf.Ren := ⟨fun | 189 => 203 | 125 => 279 | 257 => 278 | 128 => 331 | 129 => 332 | 294 => 322 | 295 => 323 | 296 => 324 | 297 => 325 | 298 => 326 | 299 => 327 | 216 => 328 | 300 => 329 | 301 => 330 | 328 => 354 | 329 => 355 | 330 => 356 | 331 => 357 | 332 => 358 | 215 => 359 | 343 => 367 | n => n, fun | 28 => 39 | 3 => 3 | 46 => 283 | 0 => 0 | 51 => 319 | 53 => 322 | 4 => 4 | 183 => 327 | 182 => 326 | 131 => 221 | 5 => 5 | 9 => 9 | 218 => 348 | 222 => 352 | 228 => 358 | 229 => 306 | n => n, fun | n => n⟩
theorem laysSort189 : Go.Proofs.Lays.n189 Tryz.prog laysSort189_ren := {
  mixed := by kernel_rfl
  f125 := Tryz.func279.trans (congrArg some (by kernel_rfl))
  f128 := Tryz.func331.trans (congrArg some (by kernel_rfl))
  f129 := Tryz.func332.trans (congrArg some (by kernel_rfl))
  f189 := Tryz.func203.trans (congrArg some (by kernel_rfl))
  f215 := Tryz.func359.trans (congrArg some (by kernel_rfl))
  f216 := Tryz.func328.trans (congrArg some (by kernel_rfl))
  f257 := Tryz.func278.trans (congrArg some (by kernel_rfl))
  f294 := Tryz.func322.trans (congrArg some (by kernel_rfl))
  f295 := Tryz.func323.trans (congrArg some (by kernel_rfl))
  f296 := Tryz.func324.trans (congrArg some (by kernel_rfl))
  f297 := Tryz.func325.trans (congrArg some (by kernel_rfl))
  f298 := Tryz.func326.trans (congrArg some (by kernel_rfl))
  f299 := Tryz.func327.trans (congrArg some (by kernel_rfl))
  f300 := Tryz.func329.trans (congrArg some (by kernel_rfl))
  f301 := Tryz.func330.trans (congrArg some (by kernel_rfl))
  f328 := Tryz.func354.trans (congrArg some (by kernel_rfl))
  f329 := Tryz.func355.trans (congrArg some (by kernel_rfl))
  f330 := Tryz.func356.trans (congrArg some (by kernel_rfl))
  f331 := Tryz.func357.trans (congrArg some (by kernel_rfl))
  f332 := Tryz.func358.trans (congrArg some (by kernel_rfl))
  f343 := Tryz.func367.trans (congrArg some (by kernel_rfl))
  t0 := Tryz.underlying0
  a0 := Tryz.isAgg0
  z0 := Tryz.sizeOf0
  v0 := Tryz.zeroValue0
  t3 := Tryz.underlying3
  a3 := Tryz.isAgg3
  z3 := Tryz.sizeOf3
  v3 := Tryz.zeroValue3
  t4 := Tryz.underlying4
  a4 := Tryz.isAgg4
  z4 := Tryz.sizeOf4
  v4 := Tryz.zeroValue4
  t5 := Tryz.underlying5
  a5 := Tryz.isAgg5
  z5 := Tryz.sizeOf5
  v5 := Tryz.zeroValue5
  t9 := Tryz.underlying9
  a9 := Tryz.isAgg9
  z9 := Tryz.sizeOf9
  v9 := Tryz.zeroValue9
  t28 := Tryz.underlying39
  a28 := Tryz.isAgg39
  z28 := Tryz.sizeOf39
  v28 := Tryz.zeroValue39
  t46 := Tryz.underlying283
  a46 := Tryz.isAgg283
  z46 := Tryz.sizeOf283
  v46 := Tryz.zeroValue283
  t51 := Tryz.underlying319
  a51 := Tryz.isAgg319
  z51 := Tryz.sizeOf319
  v51 := Tryz.zeroValue319
  t53 := Tryz.underlying322
  a53 := Tryz.isAgg322
  z53 := Tryz.sizeOf322
  v53 := Tryz.zeroValue322
  t131 := Tryz.underlying221
  a131 := Tryz.isAgg221
  z131 := Tryz.sizeOf221
  v131 := Tryz.zeroValue221
  t182 := Tryz.underlying326
  a182 := Tryz.isAgg326
  z182 := Tryz.sizeOf326
  v182 := Tryz.zeroValue326
  t183 := Tryz.underlying327
  a183 := Tryz.isAgg327
  z183 := Tryz.sizeOf327
  v183 := Tryz.zeroValue327
  t218 := Tryz.underlying348
  a218 := Tryz.isAgg348
  z218 := Tryz.sizeOf348
  v218 := Tryz.zeroValue348
  t222 := Tryz.underlying352
  a222 := Tryz.isAgg352
  z222 := Tryz.sizeOf352
  v222 := Tryz.zeroValue352
  t228 := Tryz.underlying358
  a228 := Tryz.isAgg358
  z228 := Tryz.sizeOf358
  v228 := Tryz.zeroValue358
  t229 := Tryz.underlying306
  a229 := Tryz.isAgg306
  z229 := Tryz.sizeOf306
  v229 := Tryz.zeroValue306 }
end Go.Proofs.YtcmpdlhbliolaaaGreat.R
/- Types: how the entries of a table are laid. No program text is named here. -/
set_option linter.unusedVariables false
set_option linter.unusedSimpArgs false
namespace Go.Proofs.YtcmpdlhbliolaaaGreat.R
open Go.RowKit
open Go.Proofs.YtcmpdlhbliolaaaGreat.D

def FldAll (P : Program) (T : TypeId) : Nat → List (Nat × Nat) → Prop
  | _, [] => True
  | i, q :: l => TF P T i q.1 q.2 ∧ FldAll P T (i + 1) l
theorem FldAll.get {P : Program} {T : TypeId} : ∀ {l : List (Nat × Nat)} {i : Nat}, FldAll P T i l → ∀ f q, l[f]? = some q → TF P T (i + f) q.1 q.2
  | [], _, _, f, q, h => by simp at h
  | x :: l, i, ⟨h1, h2⟩, f, q, h => by
    cases f with
    | zero => simp at h; subst h; exact h1
    | succ f =>
      have := FldAll.get h2 f q (by simpa using h)
      rwa [show i + 1 + f = i + (f + 1) from by omega] at this
section
variable {P : Program} {T : TypeId}
theorem td_flat {n b : Nat} {ty : Ty} {z : Value} {boo : Bool} {ik : Option (Option IntKind)} (h1 : TI P T false 1) (h2 : ty.size = 1) (h3 : TZ P T z 1 b) (h4 : z.cells = (zeroCells ty).toArray) (h5 : 1 ≤ b) (h6 : boo = true → P.underlying T = some .bool) (h7 : ∀ k, ik = some k → P.underlying T = some (ikD k)) : TDok P T ⟨false, 1, none, ty, [], some b, none, boo, none, none, ik, false, none⟩ :=
  ⟨h1, rfl, h2, fun E h => by simp at h, fun f q h => by simp at h, fun b' h => by obtain rfl := Option.some.inj h; exact ⟨z, h3, h4, h5⟩, fun pl h => by simp at h, h6, (fun ks h => by cases h), (fun m h => by cases h), h7, (fun h => by cases h), fun e h => by cases h⟩
theorem td_sl {E : TypeId} {t : Ty} (h1 : TI P T false 1) (h2 : P.underlying T = some (.slice E)) (h3 : TZ P T (.slice none 0 0) 1 24) : TDok P T ⟨false, 1, some E, .sl E t, [], some 24, none, false, none, none, none, false, none⟩ :=
  ⟨h1, rfl, rfl, fun E' h => by obtain rfl := Option.some.inj h; exact h2, fun f q h => by simp at h, fun b' h => by obtain rfl := Option.some.inj h; exact ⟨_, h3, rfl, by decide⟩, fun pl h => by simp at h, (fun h => by cases h), (fun ks h => by cases h), (fun m h => by cases h), (fun k h => by cases h), (fun h => by cases h), fun e h => by cases h⟩
theorem td_st {n b : Nat} {ty : Ty} {fs pl : List (Nat × Nat)} {z : Value} {eq : Option (List (Option IntKind))} (h1 : TI P T true n) (h2 : ty.size = n) (h3 : FldAll P T 0 fs) (h4 : TZ P T z n b) (h5 : z.cells = (zeroCells ty).toArray) (h6 : 1 ≤ b) (h7 : TB P T pl) (h8 : ∀ ks, eq = some ks → ∀ w, Curq ks fun xs ys r => EqT P T (.agg xs.toArray) (.agg ys.toArray) r w) : TDok P T ⟨true, n, none, ty, fs, some b, some pl, false, eq, none, none, false, none⟩ :=
  ⟨h1, rfl, h2, fun E h => by simp at h, fun f q h => by have := h3.get f q h; rwa [Nat.zero_add] at this, fun b' h => by obtain rfl := Option.some.inj h; exact ⟨z, h4, h5, h6⟩, fun pl' h => by obtain rfl := Option.some.inj h; exact h7, (fun h => by cases h), h8, (fun m h => by cases h), (fun k h => by cases h), (fun h => by cases h), fun e h => by cases h⟩
theorem td_fn {ty : Ty} {b : Nat} (h1 : TI P T false 1) (h2 : ty.size = 1) (h3 : TZ P T .nilFunc 1 b) : TDok P T ⟨false, 1, none, ty, [], none, none, false, none, none, none, true, none⟩ :=
  ⟨h1, rfl, h2, fun E h => by simp at h, fun f q h => by simp at h, (fun b' h => by cases h), (fun pl h => by cases h), (fun h => by cases h), (fun ks h => by cases h), (fun m' h => by cases h), (fun k h => by cases h), (fun _ => ⟨b, h3⟩), fun e h => by cases h⟩
theorem td_mp {m : MD} {ty : Ty} (h1 : TI P T false 1) (h2 : ty.size = 1) (h3 : MDok P T m) : TDok P T ⟨false, 1, none, ty, [], none, none, false, none, some m, none, false, none⟩ :=
  ⟨h1, rfl, h2, fun E h => by simp at h, fun f q h => by simp at h, (fun b' h => by cases h), (fun pl h => by cases h), (fun h => by cases h), (fun ks h => by cases h), (fun m' h => by obtain rfl := Option.some.inj h; exact h3), (fun k h => by cases h), (fun h => by cases h), fun e h => by cases h⟩
end
end Go.Proofs.YtcmpdlhbliolaaaGreat.R
/- Printed by lp.py: what the functions compute, as data. -/
set_option linter.unusedVariables false
set_option maxRecDepth 1000000
namespace Go.Proofs.YtcmpdlhbliolaaaGreat.D
open Go.RowKit
def m_w_szBoolS (p0a : List Bool) (p1left : Int) : Option Int :=
  if decide (IntKind.i64.wrap (p1left - (p0a.length : Int)) < 0) then (some (-1)) else (some (IntKind.i64.wrap (p1left - (p0a.length : Int))))
def m_w_szIntS (p0a : List Int) (p1left : Int) : Option Int :=
  if decide (IntKind.i64.wrap (p1left - (p0a.length : Int)) < 0) then (some (-1)) else (some (IntKind.i64.wrap (p1left - (p0a.length : Int))))
def m_w_szIntSS_l0 (p0a : List (List Int)) (s3 : Int × Int) : Option (Out Int (Int × Int)) :=
  if decide (s3.2 < (p0a.length : Int)) then ((getI p0a s3.2).bind fun x3 => (m_w_szIntS x3 s3.1).bind fun r6 => if decide (r6 < 0) then (some (.ret (-1))) else (some (.nxt (r6, IntKind.i64.wrap (s3.2 + 1))))) else (some (.brk (s3.1, s3.2)))
def m_w_szIntSS (p0a : List (List Int)) (p1left : Int) : Option Int :=
  if decide (IntKind.i64.wrap (p1left - (p0a.length : Int)) < 0) then (some (-1)) else (bindL (loopM (m_w_szIntSS_l0 p0a) FUEL (IntKind.i64.wrap (p1left - (p0a.length : Int)), 0)) (fun r => some r) (fun s4 => some s4.1))
def m_w_szAutomaton (p0a : Int × (List Bool) × (List (List Int))) (p1left : Int) : Option Int :=
  (m_w_szBoolS p0a.2.1 p1left).bind fun r1 => if decide (r1 < 0) then (some (-1)) else ((m_w_szIntSS p0a.2.2 r1).bind fun r2 => if decide (r2 < 0) then (some (-1)) else (some r2))
def m_s_l1In (p0x : Int) (p1low : Int) (p2high : Int) : Option Bool :=
  if decide (p0x ≥ p1low) then (some (decide (p0x ≤ p2high))) else (some false)
def m_s_l11Fits_l1 (p0a : Int × (List Bool) × (List (List Int))) (s11 : Int) (s15 : Int) : Option (Out Bool Int) :=
  if decide (s15 < 9) then ((getI p0a.2.2 s11).bind fun x20 => (getI x20 s15).bind fun x21 => (m_s_l1In x21 (-1) (IntKind.i64.wrap ((p0a.2.1.length : Int) - 1))).bind fun r22 => if r22 then (some (.nxt (IntKind.i64.wrap (s15 + 1)))) else (some (.ret false))) else (some (.brk s15))
def m_s_l11Fits_l0 (p0a : Int × (List Bool) × (List (List Int))) (s11 : Int) : Option (Out Bool Int) :=
  if decide (s11 < (p0a.2.1.length : Int)) then ((getI p0a.2.2 s11).bind fun x15 => if (x15.length : Int) != 9 then (some (.ret false)) else (bindL (loopM (m_s_l11Fits_l1 p0a s11) FUEL 0) (fun r => some (.ret r)) (fun s16 => some (.nxt (IntKind.i64.wrap (s11 + 1)))))) else (some (.brk s11))
def m_s_l11Fits (p0a : Int × (List Bool) × (List (List Int))) : Option Bool :=
  (m_s_l1In p0a.1 0 (IntKind.i64.wrap ((p0a.2.1.length : Int) - 1))).bind fun r1 => if r1 then (if (p0a.2.2.length : Int) != (p0a.2.1.length : Int) then (some false) else (bindL (loopM (m_s_l11Fits_l0 p0a) FUEL 0) (fun r => some r) (fun s12 => some true))) else (some false)
def m_s_IsValidAutomaton (p0a : Int × (List Bool) × (List (List Int))) : Option Bool :=
  if decide ((p0a.2.1.length : Int) ≤ 12) then ((m_s_l11Fits (p0a.1, p0a.2.1, p0a.2.2)).bind fun r1 => some r1) else (some false)
def m_s_l11Find_l0 (p0l : List Int) (p1x : Int) (s3 : Int) : Option (Out Int Int) :=
  if decide (s3 < (p0l.length : Int)) then ((getI p0l s3).bind fun x3 => if x3 == p1x then (some (.ret s3)) else (some (.nxt (IntKind.i64.wrap (s3 + 1))))) else (some (.brk s3))
def m_s_l11Find (p0l : List Int) (p1x : Int) : Option Int :=
  bindL (loopM (m_s_l11Find_l0 p0l p1x) FUEL 0) (fun r => some r) (fun s4 => some (-1))
def m_s_l11Nothing_l0 (s3 : (List Int) × Int) : Option (Out (Int × (List Bool) × (List (List Int))) ((List Int) × Int)) :=
  if decide (s3.2 < 9) then ((appI 8 s3.1 ([-1])).bind fun z3 => some (.nxt (z3, IntKind.i64.wrap (s3.2 + 1)))) else (some (.brk (s3.1, s3.2)))
def m_s_l11Nothing : Option (Int × (List Bool) × (List (List Int))) :=
  bindL (loopM (m_s_l11Nothing_l0) FUEL (([] : List Int), 0)) (fun r => some r) (fun s4 => some (0, [false], [s4.1]))
def m_s_l11Number_l1 (p0 : Int × (List Bool) × (List (List Int))) (p1 : List Int) (p2 : List Bool) (s17 : (List Int) × (List Int) × Int × Int × (List Bool) × (List (List Int))) (s23 : (List Int) × (List Int) × (List Int) × Int) : Option (Out (Int × (List Bool) × (List (List Int))) ((List Int) × (List Int) × (List Int) × Int)) :=
  if decide (s23.2.2.2 < 9) then ((getI s23.2.1 s17.2.2.1).bind fun x79 => (getI p0.2.2 x79).bind fun x80 => (getI x80 s23.2.2.2).bind fun x81 => Option.bind ((if decide (x81 ≥ 0) then ((getI p2 x81).bind fun x85 => if x85 then ((getI p1 x81).bind fun x86 => (m_s_l11Find s23.1 x86).bind fun r28 => if decide (r28 < 0) then ((getI p1 x81).bind fun x87 => (appI 8 s23.1 ([x87])).bind fun z47 => (appI 8 s23.2.1 ([x81])).bind fun z48 => some (z47, z48, (s23.1.length : Int))) else (some (s23.1, s23.2.1, r28))) else (some (s23.1, s23.2.1, -1))) else (some (s23.1, s23.2.1, -1)) : Option ((List Int) × (List Int) × Int))) (fun s25 => (appI 8 s23.2.2.1 ([s25.2.2])).bind fun z49 => some (.nxt (s25.1, s25.2.1, z49, IntKind.i64.wrap (s23.2.2.2 + 1))))) else (some (.brk (s23.1, s23.2.1, s23.2.2.1, s23.2.2.2)))
def m_s_l11Number_l0 (p0 : Int × (List Bool) × (List (List Int))) (p1 : List Int) (p2 : List Bool) (s17 : (List Int) × (List Int) × Int × Int × (List Bool) × (List (List Int))) : Option (Out (Int × (List Bool) × (List (List Int))) ((List Int) × (List Int) × Int × Int × (List Bool) × (List (List Int)))) :=
  if decide (s17.2.2.1 < (s17.1.length : Int)) then (bindL (loopM (m_s_l11Number_l1 p0 p1 p2 s17) FUEL (s17.1, s17.2.1, ([] : List Int), 0)) (fun r => some (.ret r)) (fun s24 => (getI s24.2.1 s17.2.2.1).bind fun x88 => (getI p0.2.1 x88).bind fun x89 => (appI 1 s17.2.2.2.2.1 ([x89])).bind fun z50 => (appI 24 s17.2.2.2.2.2 ([s24.2.2.1])).bind fun z51 => some (.nxt (s24.1, s24.2.1, IntKind.i64.wrap (s17.2.2.1 + 1), s17.2.2.2.1, z50, z51)))) else (some (.brk (s17.1, s17.2.1, s17.2.2.1, s17.2.2.2.1, s17.2.2.2.2.1, s17.2.2.2.2.2)))
def m_s_l11Number (p0 : Int × (List Bool) × (List (List Int))) (p1 : List Int) (p2 : List Bool) : Option (Int × (List Bool) × (List (List Int))) :=
  (getI p2 p0.1).bind fun x1 => if x1 then ((getI p1 p0.1).bind fun x2 => bindL (loopM (m_s_l11Number_l0 p0 p1 p2) FUEL ([x2], [p0.1], 0, 0, [], [])) (fun r => some r) (fun s18 => some (s18.2.2.2.1, s18.2.2.2.2.1, s18.2.2.2.2.2))) else ((m_s_l11Nothing ).bind fun r1 => some (r1.1, r1.2.1, r1.2.2))
def m_s_l11Live_l2 (p0a : Int × (List Bool) × (List (List Int))) (s71 : (List Bool) × Int) (s77 : (List Bool) × Int) : Option (Out (List Bool) ((List Bool) × Int)) :=
  if decide (s77.2 < 9) then (Option.bind (((getI p0a.2.2 s71.2).bind fun x319 => (getI x319 s77.2).bind fun x320 => if decide (x320 ≥ 0) then ((getI p0a.2.2 s71.2).bind fun x321 => (getI x321 s77.2).bind fun x322 => (getI s77.1 x322).bind fun x323 => if x323 then ((getI s77.1 s71.2).bind fun x324 => some (s77.1.set s71.2.toNat true)) else (some s77.1)) else (some s77.1) : Option (List Bool))) (fun s79 => some (.nxt (s79, IntKind.i64.wrap (s77.2 + 1))))) else (some (.brk (s77.1, s77.2)))
def m_s_l11Live_l1 (p0a : Int × (List Bool) × (List (List Int))) (s71 : (List Bool) × Int) : Option (Out (List Bool) ((List Bool) × Int)) :=
  if decide (s71.2 < (p0a.2.1.length : Int)) then (bindL (loopM (m_s_l11Live_l2 p0a s71) FUEL (s71.1, 0)) (fun r => some (.ret r)) (fun s78 => some (.nxt (s78.1, IntKind.i64.wrap (s71.2 + 1))))) else (some (.brk (s71.1, s71.2)))
def m_s_l11Live_l0 (p0a : Int × (List Bool) × (List (List Int))) (s53 : (List Bool) × Int) : Option (Out (List Bool) ((List Bool) × Int)) :=
  if decide (s53.2 < (p0a.2.1.length : Int)) then (bindL (loopM (m_s_l11Live_l1 p0a) FUEL (s53.1, 0)) (fun r => some (.ret r)) (fun s72 => some (.nxt (s72.1, IntKind.i64.wrap (s53.2 + 1))))) else (some (.brk (s53.1, s53.2)))
def m_s_l11Live (p0a : Int × (List Bool) × (List (List Int))) : Option (List Bool) :=
  (appI 1 ([] : List Bool) p0a.2.1).bind fun z1 => bindL (loopM (m_s_l11Live_l0 p0a) FUEL (z1, 0)) (fun r => some r) (fun s54 => some s54.1)
def m_s_l12Key_l0 (p0a : Int × (List Bool) × (List (List Int))) (p1classes : List Int) (p2s : Int) (s5 : (List Int) × Int) : Option (Out (List Int) ((List Int) × Int)) :=
  if decide (s5.2 < 9) then (Option.bind (((getI p0a.2.2 p2s).bind fun x17 => (getI x17 s5.2).bind fun x18 => if decide (x18 < 0) then ((appI 8 s5.1 ([-1])).bind fun z12 => some z12) else ((getI p1classes x18).bind fun x19 => (appI 8 s5.1 ([x19])).bind fun z11 => some z11) : Option (List Int))) (fun s7 => some (.nxt (s7, IntKind.i64.wrap (s5.2 + 1))))) else (some (.brk (s5.1, s5.2)))
def m_s_l12Key (p0a : Int × (List Bool) × (List (List Int))) (p1classes : List Int) (p2s : Int) : Option (List Int) :=
  (getI p1classes p2s).bind fun x1 => bindL (loopM (m_s_l12Key_l0 p0a p1classes p2s) FUEL ([x1], 0)) (fun r => some r) (fun s6 => some s6.1)
def m_s_l2Cmp_l0 (p0a : List Int) (p1b : List Int) (s3 : Int) : Option (Out Int Int) :=
  if decide (s3 < (p0a.length : Int)) then (if decide (s3 < (p1b.length : Int)) then ((getI p0a s3).bind fun x9 => (getI p1b s3).bind fun x10 => if decide (x9 < x10) then (some (.ret (-1))) else ((getI p0a s3).bind fun x11 => (getI p1b s3).bind fun x12 => if decide (x11 > x12) then (some (.ret 1)) else (some (.nxt (IntKind.i64.wrap (s3 + 1)))))) else (some (.brk s3))) else (some (.brk s3))
def m_s_l2Cmp (p0a : List Int) (p1b : List Int) : Option Int :=
  bindL (loopM (m_s_l2Cmp_l0 p0a p1b) FUEL 0) (fun r => some r) (fun s4 => if decide ((p0a.length : Int) < (p1b.length : Int)) then (some (-1)) else (if decide ((p0a.length : Int) > (p1b.length : Int)) then (some 1) else (some 0)))
def m_s_l12Classes_l0 (p0 : Int × (List Bool) × List (List Int)) (r0 : List Bool) (s2 : (List Int) × Int) : Option (Out (List Int) ((List Int) × Int)) :=
  if decide (s2.2 < (p0.2.1.length : Int)) then ((getI p0.2.1 s2.2).bind fun x3 => Option.bind ((if x3 then (some 1) else (some 0) : Option Int)) (fun s4 => (getI r0 s2.2).bind fun x5 => Option.bind ((if x5 then (some s4) else (some (-1)) : Option Int)) (fun s6 => (appI 8 s2.1 ([s6])).bind fun z7 => some (.nxt (z7, IntKind.i64.wrap (s2.2 + 1)))))) else (some (.brk (s2.1, s2.2)))
def m_s_l12Classes_l3 (s13 : (List (List Int)) × (List Int) × Int) (r16 : List Int) (s18 : Int × Int) : Option (Out (List Int) (Int × Int)) :=
  if decide (s18.2 < (s13.1.length : Int)) then (Option.bind (((getI s13.1 s18.2).bind fun x19 => (m_s_l2Cmp x19 r16).bind fun r20 => if r20 == 0 then (some s18.2) else (some s18.1) : Option Int)) (fun s21 => some (.nxt (s21, IntKind.i64.wrap (s18.2 + 1))))) else (some (.brk (s18.1, s18.2)))
def m_s_l12Classes_l2 (p0 : Int × (List Bool) × List (List Int)) (s11 : (List Int) × Int) (s13 : (List (List Int)) × (List Int) × Int) : Option (Out (List Int) ((List (List Int)) × (List Int) × Int)) :=
  if decide (s13.2.2 < (p0.2.1.length : Int)) then (Option.bind (((getI s11.1 s13.2.2).bind fun x14 => if decide (x14 < 0) then ((appI 8 s13.2.1 ([(-1)])).bind fun z15 => some (s13.1, z15)) else ((m_s_l12Key (p0.1, p0.2.1, p0.2.2) s11.1 s13.2.2).bind fun r16 => bindL (loopM (m_s_l12Classes_l3 s13 r16) FUEL ((-1), 0)) (fun r22 => none) (fun s23 => Option.bind ((if decide (s23.1 < 0) then ((appI 24 s13.1 ([r16])).bind fun z24 => some (z24, (s13.1.length : Int))) else (some (s13.1, s23.1)) : Option ((List (List Int)) × Int))) (fun s25 => (appI 8 s13.2.1 ([s25.2])).bind fun z26 => some (s25.1, z26)))) : Option ((List (List Int)) × List Int))) (fun s27 => some (.nxt (s27.1, s27.2, IntKind.i64.wrap (s13.2.2 + 1))))) else (some (.brk (s13.1, s13.2.1, s13.2.2)))
def m_s_l12Classes_l1 (p0 : Int × (List Bool) × List (List Int)) (s11 : (List Int) × Int) : Option (Out (List Int) ((List Int) × Int)) :=
  if decide (s11.2 ≤ (p0.2.1.length : Int)) then (bindL (loopM (m_s_l12Classes_l2 p0 s11) FUEL (([] : List (List Int)), ([] : List Int), 0)) (fun r28 => some (.ret r28)) (fun s29 => (m_s_l2Cmp s29.2.1 s11.1).bind fun r30 => if r30 == 0 then (some (.ret s11.1)) else (some (.nxt (s29.2.1, IntKind.i64.wrap (s11.2 + 1)))))) else (some (.brk (s11.1, s11.2)))
def m_s_l12Classes (p0 : Int × (List Bool) × List (List Int)) : Option (List Int) :=
  (m_s_l11Live (p0.1, p0.2.1, p0.2.2)).bind fun r0 => bindL (loopM (m_s_l12Classes_l0 p0 r0) FUEL (([] : List Int), 0)) (fun r8 => some r8) (fun s9 => bindL (loopM (m_s_l12Classes_l1 p0) FUEL (s9.1, 0)) (fun r31 => some r31) (fun s32 => some s32.1))
def m_s_l12Minimize (p0a : Int × (List Bool) × (List (List Int))) : Option (Int × (List Bool) × (List (List Int))) :=
  (m_s_l12Classes (p0a.1, p0a.2.1, p0a.2.2)).bind fun r1 => (m_s_l11Live (p0a.1, p0a.2.1, p0a.2.2)).bind fun r2 => (m_s_l11Number (p0a.1, p0a.2.1, p0a.2.2) r1 r2).bind fun r3 => some (r3.1, r3.2.1, r3.2.2)
def m_s_Minimize (p0a : Int × (List Bool) × (List (List Int))) : Option (Int × (List Bool) × (List (List Int))) :=
  (m_s_IsValidAutomaton (p0a.1, p0a.2.1, p0a.2.2)).bind fun r1 => if r1 then ((m_s_l12Minimize (p0a.1, p0a.2.1, p0a.2.2)).bind fun r2 => some (r2.1, r2.2.1, r2.2.2)) else (some (0, [], []))
def m_s_l22State (p0a : Int × (List Bool) × (List (List Int))) (p1s : Int) : Option Bool :=
  (m_s_IsValidAutomaton (p0a.1, p0a.2.1, p0a.2.2)).bind fun r1 => if r1 then ((m_s_l1In p1s 0 (IntKind.i64.wrap ((p0a.2.1.length : Int) - 1))).bind fun r2 => some r2) else (some false)
def m_s_l13Onward_l0 (p0 : Int × (List Bool) × (List (List Int))) (p1 : Int) (s5 : (List Bool) × Int) : Option (Out (List Bool) ((List Bool) × Int)) :=
  if decide (s5.2 < 9) then (Option.bind (((getI p0.2.2 p1).bind fun x27 => (getI x27 s5.2).bind fun x28 => if decide (x28 ≥ 0) then ((getI p0.2.2 p1).bind fun x29 => (getI x29 s5.2).bind fun x30 => (getI s5.1 x30).bind fun x31 => some (s5.1.set x30.toNat true)) else (some s5.1) : Option (List Bool))) (fun s7 => some (.nxt (s7, IntKind.i64.wrap (s5.2 + 1))))) else (some (.brk (s5.1, s5.2)))
def m_s_l13Onward_l3 (p0 : Int × (List Bool) × (List (List Int))) (s78 : (List Bool) × Int) (s84 : (List Bool) × Int) : Option (Out (List Bool) ((List Bool) × Int)) :=
  if decide (s84.2 < 9) then (Option.bind (((getI s84.1 s78.2).bind fun x350 => if x350 then ((getI p0.2.2 s78.2).bind fun x351 => (getI x351 s84.2).bind fun x352 => if decide (x352 ≥ 0) then ((getI p0.2.2 s78.2).bind fun x353 => (getI x353 s84.2).bind fun x354 => (getI s84.1 x354).bind fun x355 => some (s84.1.set x354.toNat true)) else (some s84.1)) else (some s84.1) : Option (List Bool))) (fun s86 => some (.nxt (s86, IntKind.i64.wrap (s84.2 + 1))))) else (some (.brk (s84.1, s84.2)))
def m_s_l13Onward_l2 (p0 : Int × (List Bool) × (List (List Int))) (s78 : (List Bool) × Int) : Option (Out (List Bool) ((List Bool) × Int)) :=
  if decide (s78.2 < (p0.2.1.length : Int)) then (bindL (loopM (m_s_l13Onward_l3 p0 s78) FUEL (s78.1, 0)) (fun r => some (.ret r)) (fun s85 => some (.nxt (s85.1, IntKind.i64.wrap (s78.2 + 1))))) else (some (.brk (s78.1, s78.2)))
def m_s_l13Onward_l1 (p0 : Int × (List Bool) × (List (List Int))) (s60 : (List Bool) × Int) : Option (Out (List Bool) ((List Bool) × Int)) :=
  if decide (s60.2 < (p0.2.1.length : Int)) then (bindL (loopM (m_s_l13Onward_l2 p0) FUEL (s60.1, 0)) (fun r => some (.ret r)) (fun s79 => some (.nxt (s79.1, IntKind.i64.wrap (s60.2 + 1))))) else (some (.brk (s60.1, s60.2)))
def m_s_l13Onward (p0 : Int × (List Bool) × (List (List Int))) (p1 : Int) : Option (List Bool) :=
  (mkI 1 (p0.2.1.length : Int) (false : Bool)).bind fun x1 => bindL (loopM (m_s_l13Onward_l0 p0 p1) FUEL (x1, 0)) (fun r => some r) (fun s6 => bindL (loopM (m_s_l13Onward_l1 p0) FUEL (s6.1, 0)) (fun r => some r) (fun s61 => some s61.1))
def m_s_HasLoop (p0a : Int × (List Bool) × (List (List Int))) (p1s : Int) : Option Bool :=
  (m_s_l22State (p0a.1, p0a.2.1, p0a.2.2) p1s).bind fun r1 => if r1 then ((m_s_l13Onward (p0a.1, p0a.2.1, p0a.2.2) p1s).bind fun r2 => (getI r2 p1s).bind fun x1 => some x1) else (some false)
def m_s_StateReaches (p0a : Int × (List Bool) × (List (List Int))) (p1s : Int) (p2t : Int) : Option Bool :=
  (m_s_l22State (p0a.1, p0a.2.1, p0a.2.2) p1s).bind fun r1 => if r1 then ((m_s_l22State (p0a.1, p0a.2.1, p0a.2.2) p2t).bind fun r2 => if r2 then (if p1s == p2t then (some true) else ((m_s_l13Onward (p0a.1, p0a.2.1, p0a.2.2) p1s).bind fun r3 => (getI r3 p2t).bind fun x1 => some x1)) else (some false)) else (some false)
def m_s_l4Set_l0 (p0m : Int) (s5 : (List Int) × Int) : Option (Out (List Int) ((List Int) × Int)) :=
  if decide (s5.2 < 30) then (Option.bind (((chk (0 ≤ s5.2)).bind fun _ => if (andI (shrI p0m s5.2) 1) == 1 then ((appI 8 s5.1 ([s5.2])).bind fun z6 => some z6) else (some s5.1) : Option (List Int))) (fun s7 => some (.nxt (s7, IntKind.i64.wrap (s5.2 + 1))))) else (some (.brk (s5.1, s5.2)))
def m_s_l4Set (p0m : Int) : Option (List Int) :=
  bindL (loopM (m_s_l4Set_l0 p0m) FUEL (([] : List Int), 0)) (fun r => some r) (fun s6 => some s6.1)
def m_s_l12Next (p0a : Int × (List Bool) × (List (List Int))) (p1s : Int) (p2k : Int) : Option Int :=
  if decide (p1s < 0) then (some (-1)) else ((getI p0a.2.2 p1s).bind fun x1 => (getI x1 p2k).bind fun x2 => some x2)
def m_s_l10Has_l0 (p0l : List (Int × Int × Bool × Int × Int)) (p1x : Int × Int × Bool × Int × Int) (s3 : Int) : Option (Out Bool Int) :=
  if decide (s3 < (p0l.length : Int)) then ((getI p0l s3).bind fun x7 => if x7.1 == p1x.1 then ((getI p0l s3).bind fun x8 => if x8.2.1 == p1x.2.1 then ((getI p0l s3).bind fun x9 => if x9.2.2.1 == p1x.2.2.1 then (some (.ret true)) else (some (.nxt (IntKind.i64.wrap (s3 + 1))))) else (some (.nxt (IntKind.i64.wrap (s3 + 1))))) else (some (.nxt (IntKind.i64.wrap (s3 + 1))))) else (some (.brk s3))
def m_s_l10Has (p0l : List (Int × Int × Bool × Int × Int)) (p1x : Int × Int × Bool × Int × Int) : Option Bool :=
  bindL (loopM (m_s_l10Has_l0 p0l p1x) FUEL 0) (fun r => some r) (fun s4 => some false)
def m_s_l22Images_l1 (p0 : Int × (List Bool) × (List (List Int))) (p2 : Int) (s29 : (List (Int × Int × Bool × Int × Int)) × Int × Int) (s39 : (List (Int × Int × Bool × Int × Int)) × Int × Int) : Option (Out (List Int) ((List (Int × Int × Bool × Int × Int)) × Int × Int)) :=
  if decide (s39.2.2 < 9) then (Option.bind (((getI s39.1 s29.2.2).bind fun x35 => (m_s_l12Next (p0.1, p0.2.1, p0.2.2) x35.1 s39.2.2).bind fun r52 => (getI s39.1 s29.2.2).bind fun x36 => (m_s_l12Next (p0.1, p0.2.1, p0.2.2) x36.2.1 s39.2.2).bind fun r53 => if decide (r53 < 0) then (some (s39.1, s39.2.1)) else (Option.bind ((if r53 == p2 then ((chk (0 ≤ IntKind.i64.wrap (r52 + 1))).bind fun _ => some (orI s39.2.1 (shlI 1 (IntKind.i64.wrap (r52 + 1))))) else (some s39.2.1) : Option Int)) (fun s43 => (m_s_l10Has s39.1 (r52, r53, true, 0, 0)).bind fun r54 => if r54 then (some (s39.1, s43)) else ((appI 40 s39.1 ([(r52, r53, true, 0, 0)])).bind fun z18 => some (z18, s43)))) : Option ((List (Int × Int × Bool × Int × Int)) × Int))) (fun s42 => some (.nxt (s42.1, s42.2, IntKind.i64.wrap (s39.2.2 + 1))))) else (some (.brk (s39.1, s39.2.1, s39.2.2)))
def m_s_l22Images_l0 (p0 : Int × (List Bool) × (List (List Int))) (p2 : Int) (s29 : (List (Int × Int × Bool × Int × Int)) × Int × Int) : Option (Out (List Int) ((List (Int × Int × Bool × Int × Int)) × Int × Int)) :=
  if decide (s29.2.2 < (s29.1.length : Int)) then (bindL (loopM (m_s_l22Images_l1 p0 p2 s29) FUEL (s29.1, s29.2.1, 0)) (fun r => some (.ret r)) (fun s40 => some (.nxt (s40.1, s40.2.1, IntKind.i64.wrap (s29.2.2 + 1))))) else (some (.brk (s29.1, s29.2.1, s29.2.2)))
def m_s_l22Images_l2 (s46 : (List Int) × Int) : Option (Out (List Int) ((List Int) × Int)) :=
  if decide (s46.2 < (s46.1.length : Int)) then ((getI s46.1 s46.2).bind fun x41 => (getI s46.1 s46.2).bind fun x42 => some (.nxt (s46.1.set s46.2.toNat (IntKind.i64.wrap (x41 - 1)), IntKind.i64.wrap (s46.2 + 1)))) else (some (.brk (s46.1, s46.2)))
def m_s_l22Images (p0 : Int × (List Bool) × (List (List Int))) (p1 : Int) (p2 : Int) : Option (List Int) :=
  bindL (loopM (m_s_l22Images_l0 p0 p2) FUEL ([(p1, p2, false, 0, 0)], 0, 0)) (fun r => some r) (fun s30 => (m_s_l4Set s30.2.1).bind fun r55 => bindL (loopM (m_s_l22Images_l2) FUEL (r55, 0)) (fun r => some r) (fun s47 => some s47.1))
def m_s_l22Pumped_l1 (r3 : List Int) (s15 : Int × Int) : Option (Out (List Int) (Int × Int)) :=
  if decide (s15.2 < (r3.length : Int)) then ((getI r3 s15.2).bind fun x9 => (chk (0 ≤ IntKind.i64.wrap (x9 + 1))).bind fun _ => some (.nxt (orI s15.1 (shlI 1 (IntKind.i64.wrap (x9 + 1))), IntKind.i64.wrap (s15.2 + 1)))) else (some (.brk (s15.1, s15.2)))
def m_s_l22Pumped_l0 (p0 : Int × (List Bool) × (List (List Int))) (p2 : Int) (p3 : Int) (s11 : (List Int) × Int) : Option (Out (List Int) ((List Int) × Int)) :=
  if decide (s11.2 < (p0.2.1.length : Int)) then (if decide (p3 > 0) then ((m_s_l22Images (p0.1, p0.2.1, p0.2.2) s11.2 p2).bind fun r3 => bindL (loopM (m_s_l22Pumped_l1 r3) FUEL (0, 0)) (fun r => some (.ret r)) (fun s16 => (appI 8 s11.1 ([s16.1])).bind fun z3 => some (.nxt (z3, IntKind.i64.wrap (s11.2 + 1))))) else (some (.brk (s11.1, s11.2)))) else (some (.brk (s11.1, s11.2)))
def m_s_l22Pumped_l3 (s12 : (List Int) × Int) (s33 : Int × Int) (s39 : Int × Int) : Option (Out (List Int) (Int × Int)) :=
  if decide (s39.2 < (s12.1.length : Int)) then (Option.bind (((chk (0 ≤ s39.2)).bind fun _ => if (andI (shrI s33.1 s39.2) 1) == 1 then ((getI s12.1 s39.2).bind fun x27 => some (orI s39.1 x27)) else (some s39.1) : Option Int)) (fun s41 => some (.nxt (s41, IntKind.i64.wrap (s39.2 + 1))))) else (some (.brk (s39.1, s39.2)))
def m_s_l22Pumped_l2 (p3 : Int) (s12 : (List Int) × Int) (s33 : Int × Int) : Option (Out (List Int) (Int × Int)) :=
  if decide (s33.2 < p3) then (bindL (loopM (m_s_l22Pumped_l3 s12 s33) FUEL (0, 0)) (fun r => some (.ret r)) (fun s40 => some (.nxt (s40.1, IntKind.i64.wrap (s33.2 + 1))))) else (some (.brk (s33.1, s33.2)))
def m_s_l22Pumped_l4 (s44 : (List Int) × Int) : Option (Out (List Int) ((List Int) × Int)) :=
  if decide (s44.2 < (s44.1.length : Int)) then ((getI s44.1 s44.2).bind fun x32 => (getI s44.1 s44.2).bind fun x33 => some (.nxt (s44.1.set s44.2.toNat (IntKind.i64.wrap (x32 - 1)), IntKind.i64.wrap (s44.2 + 1)))) else (some (.brk (s44.1, s44.2)))
def m_s_l22Pumped (p0 : Int × (List Bool) × (List (List Int))) (p1 : Int) (p2 : Int) (p3 : Int) : Option (List Int) :=
  bindL (loopM (m_s_l22Pumped_l0 p0 p2 p3) FUEL (([] : List Int), -1)) (fun r => some r) (fun s12 => (chk (0 ≤ IntKind.i64.wrap (p1 + 1))).bind fun _ => bindL (loopM (m_s_l22Pumped_l2 p3 s12) FUEL (shlI 1 (IntKind.i64.wrap (p1 + 1)), 0)) (fun r => some r) (fun s34 => (m_s_l4Set s34.1).bind fun r4 => bindL (loopM (m_s_l22Pumped_l4) FUEL (r4, 0)) (fun r => some r) (fun s45 => some s45.1)))
def m_s_l12Accept (p0a : Int × (List Bool) × (List (List Int))) (p1s : Int) : Option Bool :=
  if decide (p1s ≥ 0) then ((getI p0a.2.1 p1s).bind fun x1 => some x1) else (some false)
def m_s_l10Word_l0 (p0l : List (Int × Int × Bool × Int × Int)) (s3 : Int × (List Int)) : Option (Out (List Int) (Int × (List Int))) :=
  if decide (s3.1 > 0) then ((getI p0l s3.1).bind fun x5 => (appI 8 ([x5.2.2.2.2]) s3.2).bind fun z3 => (getI p0l s3.1).bind fun x6 => some (.nxt (x6.2.2.2.1, z3))) else (some (.brk (s3.1, s3.2)))
def m_s_l10Word (p0l : List (Int × Int × Bool × Int × Int)) (p1k : Int) : Option (List Int) :=
  bindL (loopM (m_s_l10Word_l0 p0l) FUEL (p1k, ([] : List Int))) (fun r => some r) (fun s4 => some s4.2)
def m_s_l12Differ_l1 (p0 : Int × (List Bool) × (List (List Int))) (p2 : Int × (List Bool) × (List (List Int))) (s19 : (List (Int × Int × Bool × Int × Int)) × Int) (s26 : (List (Int × Int × Bool × Int × Int)) × Int) : Option (Out ((List Int) × Bool) ((List (Int × Int × Bool × Int × Int)) × Int)) :=
  if decide (s26.2 < 9) then (Option.bind (((getI s26.1 s19.2).bind fun x41 => (m_s_l12Next (p0.1, p0.2.1, p0.2.2) x41.1 s26.2).bind fun r70 => (getI s26.1 s19.2).bind fun x42 => (m_s_l12Next (p2.1, p2.2.1, p2.2.2) x42.2.1 s26.2).bind fun r71 => (m_s_l10Has s26.1 (r70, r71, false, s19.2, s26.2)).bind fun r72 => if r72 then (some s26.1) else ((appI 40 s26.1 ([(r70, r71, false, s19.2, s26.2)])).bind fun z18 => some z18) : Option (List (Int × Int × Bool × Int × Int)))) (fun s28 => some (.nxt (s28, IntKind.i64.wrap (s26.2 + 1))))) else (some (.brk (s26.1, s26.2)))
def m_s_l12Differ_l0 (p0 : Int × (List Bool) × (List (List Int))) (p2 : Int × (List Bool) × (List (List Int))) (p4 : Bool) (s19 : (List (Int × Int × Bool × Int × Int)) × Int) : Option (Out ((List Int) × Bool) ((List (Int × Int × Bool × Int × Int)) × Int)) :=
  if decide (s19.2 < (s19.1.length : Int)) then ((getI s19.1 s19.2).bind fun x29 => (m_s_l12Accept (p0.1, p0.2.1, p0.2.2) x29.1).bind fun r49 => (getI s19.1 s19.2).bind fun x30 => (m_s_l12Accept (p2.1, p2.2.1, p2.2.2) x30.2.1).bind fun r50 => Option.bind (if r50 then (if r49 then (if r49 then (if r50 then some false else some (!p4)) else some false) else some true) else (if r49 then (if r50 then some false else some (!p4)) else some false) : Option Bool) (fun b57 => if b57 then ((m_s_l10Word s19.1 s19.2).bind fun r54 => some (.ret (r54, true))) else (bindL (loopM (m_s_l12Differ_l1 p0 p2 s19) FUEL (s19.1, 0)) (fun r => some (.ret r)) (fun s27 => some (.nxt (s27.1, IntKind.i64.wrap (s19.2 + 1))))))) else (some (.brk (s19.1, s19.2)))
def m_s_l12Differ (p0 : Int × (List Bool) × (List (List Int))) (p1 : Int) (p2 : Int × (List Bool) × (List (List Int))) (p3 : Int) (p4 : Bool) : Option ((List Int) × Bool) :=
  bindL (loopM (m_s_l12Differ_l0 p0 p2 p4) FUEL ([(p1, p3, false, 0, 0)], 0)) (fun r => some r) (fun s20 => some (([] : List Int), false))
def m_s_l22Bad_l0 (p0a : Int × (List Bool) × (List (List Int))) (p2q : Int) (r1 : List Int) (s3 : Int) : Option (Out Bool Int) :=
  if decide (s3 < (r1.length : Int)) then ((getI r1 s3).bind fun x3 => (m_s_l12Differ (p0a.1, p0a.2.1, p0a.2.2) x3 (p0a.1, p0a.2.1, p0a.2.2) p2q true).bind fun r4 => if r4.2 then (some (.ret true)) else (some (.nxt (IntKind.i64.wrap (s3 + 1))))) else (some (.brk s3))
def m_s_l22Bad (p0a : Int × (List Bool) × (List (List Int))) (p1p : Int) (p2q : Int) : Option Bool :=
  (m_s_l22Pumped (p0a.1, p0a.2.1, p0a.2.2) p1p p2q (p0a.2.1.length : Int)).bind fun r1 => bindL (loopM (m_s_l22Bad_l0 p0a p2q r1) FUEL 0) (fun r => some r) (fun s4 => some false)
def m_s_HardPair_l1 (r1 : Int × (List Bool) × (List (List Int))) (s11 : Int) (s15 : Int) : Option (Out (Int × Int × Bool) Int) :=
  if decide (s15 < (r1.2.1.length : Int)) then ((m_s_HasLoop (r1.1, r1.2.1, r1.2.2) s11).bind fun r34 => if r34 then ((m_s_HasLoop (r1.1, r1.2.1, r1.2.2) s15).bind fun r35 => if r35 then ((m_s_StateReaches (r1.1, r1.2.1, r1.2.2) s11 s15).bind fun r36 => if r36 then ((m_s_l22Bad (r1.1, r1.2.1, r1.2.2) s11 s15).bind fun r37 => if r37 then (some (.ret (s11, s15, true))) else (some (.nxt (IntKind.i64.wrap (s15 + 1))))) else (some (.nxt (IntKind.i64.wrap (s15 + 1))))) else (some (.nxt (IntKind.i64.wrap (s15 + 1))))) else (some (.nxt (IntKind.i64.wrap (s15 + 1))))) else (some (.brk s15))
def m_s_HardPair_l0 (r1 : Int × (List Bool) × (List (List Int))) (s11 : Int) : Option (Out (Int × Int × Bool) Int) :=
  if decide (s11 < (r1.2.1.length : Int)) then (bindL (loopM (m_s_HardPair_l1 r1 s11) FUEL 0) (fun r => some (.ret r)) (fun s16 => some (.nxt (IntKind.i64.wrap (s11 + 1))))) else (some (.brk s11))
def m_s_HardPair (p0a : Int × (List Bool) × (List (List Int))) : Option (Int × Int × Bool) :=
  (m_s_Minimize (p0a.1, p0a.2.1, p0a.2.2)).bind fun r1 => bindL (loopM (m_s_HardPair_l0 r1) FUEL 0) (fun r => some r) (fun s12 => some (0, 0, false))
def m_w_toBoolS_l0 (p0a : List Bool) (s3 : (List Bool) × Int) : Option (Out (List Bool) ((List Bool) × Int)) :=
  if decide (s3.2 < (p0a.length : Int)) then ((getI p0a s3.2).bind fun x6 => (getI s3.1 s3.2).bind fun x7 => some (.nxt (s3.1.set s3.2.toNat x6, IntKind.i64.wrap (s3.2 + 1)))) else (some (.brk (s3.1, s3.2)))
def m_w_toBoolS (p0a : List Bool) : Option (List Bool) :=
  (mkI 1 (p0a.length : Int) (false : Bool)).bind fun x1 => bindL (loopM (m_w_toBoolS_l0 p0a) FUEL (x1, 0)) (fun r => some r) (fun s4 => some s4.1)
def m_w_toIntS_l0 (p0a : List Int) (s3 : (List Int) × Int) : Option (Out (List Int) ((List Int) × Int)) :=
  if decide (s3.2 < (p0a.length : Int)) then ((getI p0a s3.2).bind fun x6 => (getI s3.1 s3.2).bind fun x7 => some (.nxt (s3.1.set s3.2.toNat x6, IntKind.i64.wrap (s3.2 + 1)))) else (some (.brk (s3.1, s3.2)))
def m_w_toIntS (p0a : List Int) : Option (List Int) :=
  (mkI 8 (p0a.length : Int) (0 : Int)).bind fun x1 => bindL (loopM (m_w_toIntS_l0 p0a) FUEL (x1, 0)) (fun r => some r) (fun s4 => some s4.1)
def m_w_toIntSS_l0 (p0a : List (List Int)) (s3 : (List (List Int)) × Int) : Option (Out (List (List Int)) ((List (List Int)) × Int)) :=
  if decide (s3.2 < (p0a.length : Int)) then ((getI p0a s3.2).bind fun x6 => (m_w_toIntS x6).bind fun r6 => (getI s3.1 s3.2).bind fun x7 => some (.nxt (s3.1.set s3.2.toNat r6, IntKind.i64.wrap (s3.2 + 1)))) else (some (.brk (s3.1, s3.2)))
def m_w_toIntSS (p0a : List (List Int)) : Option (List (List Int)) :=
  (mkI 24 (p0a.length : Int) ([] : List Int)).bind fun x1 => bindL (loopM (m_w_toIntSS_l0 p0a) FUEL (x1, 0)) (fun r => some r) (fun s4 => some s4.1)
def m_w_toAutomaton (p0a : Int × (List Bool) × (List (List Int))) : Option (Int × (List Bool) × (List (List Int))) :=
  (m_w_toBoolS p0a.2.1).bind fun r1 => (m_w_toIntSS p0a.2.2).bind fun r2 => some (p0a.1, r1, r2)
def m_i_within (p0n : Int) (p1a : Int) (p2b : Int) : Option Bool :=
  if decide (p0n ≥ p1a) then (some (decide (p0n ≤ p2b))) else (some false)
def m_i_IsValidAutomaton_l1 (p0a : Int × (List Bool) × (List (List Int))) (x9 : List Int) (s15 : Int) : Option (Out Bool Int) :=
  if decide (s15 < (x9.length : Int)) then ((getI x9 s15).bind fun x12 => (m_i_within x12 (-1) (IntKind.i64.wrap ((p0a.2.1.length : Int) - 1))).bind fun r14 => if r14 then (some (.nxt (IntKind.i64.wrap (s15 + 1)))) else (some (.ret false))) else (some (.brk s15))
def m_i_IsValidAutomaton_l0 (p0a : Int × (List Bool) × (List (List Int))) (s11 : Int) : Option (Out Bool Int) :=
  if decide (s11 < (p0a.2.2.length : Int)) then ((getI p0a.2.2 s11).bind fun x9 => bindL (loopM (m_i_IsValidAutomaton_l1 p0a x9) FUEL 0) (fun r => some (.ret r)) (fun s16 => if (x9.length : Int) != 9 then (some (.ret false)) else (some (.nxt (IntKind.i64.wrap (s11 + 1)))))) else (some (.brk s11))
def m_i_IsValidAutomaton (p0a : Int × (List Bool) × (List (List Int))) : Option Bool :=
  (m_i_within (p0a.2.1.length : Int) 1 12).bind fun r1 => if r1 then ((m_i_within p0a.1 0 (IntKind.i64.wrap ((p0a.2.1.length : Int) - 1))).bind fun r2 => if r2 then (if (p0a.2.2.length : Int) != (p0a.2.1.length : Int) then (some false) else (bindL (loopM (m_i_IsValidAutomaton_l0 p0a) FUEL 0) (fun r => some r) (fun s12 => some true))) else (some false)) else (some false)

def m_i_Automaton_live_l2 (s5 : Bool × Int × List Bool) (x6 : List Int) (s8 : Bool × Int × List Bool) : Option (Out (List Bool) (Bool × Int × List Bool)) :=
  if decide (s8.2.1 < (x6.length : Int)) then (Option.bind (((getI x6 s8.2.1).bind fun x9 => if decide (x9 ≥ 0) then ((getI s8.2.2 x9).bind fun x10 => if x10 then ((getI s8.2.2 s5.2.1).bind fun x11 => if x11 then (some (s8.1, s8.2.2)) else ((getI s8.2.2 s5.2.1).bind fun x12 => some (true, s8.2.2.set s5.2.1.toNat true))) else (some (s8.1, s8.2.2))) else (some (s8.1, s8.2.2)) : Option (Bool × List Bool))) (fun s13 => some (.nxt (s13.1, IntKind.i64.wrap (s8.2.1 + 1), s13.2)))) else (some (.brk (s8.1, s8.2.1, s8.2.2)))
def m_i_Automaton_live_l1 (p0a : Int × (List Bool) × List (List Int)) (s5 : Bool × Int × List Bool) : Option (Out (List Bool) (Bool × Int × List Bool)) :=
  if decide (s5.2.1 < (p0a.2.2.length : Int)) then ((getI p0a.2.2 s5.2.1).bind fun x6 => bindL (loopM (m_i_Automaton_live_l2 s5 x6) FUEL (s5.1, 0, s5.2.2)) (fun r14 => some (.ret r14)) (fun s15 => some (.nxt (s15.1, IntKind.i64.wrap (s5.2.1 + 1), s15.2.2)))) else (some (.brk (s5.1, s5.2.1, s5.2.2)))
def m_i_Automaton_live_l0 (p0a : Int × (List Bool) × List (List Int)) (s3 : Bool × List Bool) : Option (Out (List Bool) (Bool × List Bool)) :=
  if s3.1 then (bindL (loopM (m_i_Automaton_live_l1 p0a) FUEL (false, 0, s3.2)) (fun r16 => some (.ret r16)) (fun s17 => some (.nxt (s17.1, s17.2.2)))) else (some (.brk (s3.1, s3.2)))
def m_i_Automaton_live (p0a : Int × (List Bool) × List (List Int)) : Option (List Bool) :=
  (appI 1 ([] : List Bool) p0a.2.1).bind fun z0 => bindL (loopM (m_i_Automaton_live_l0 p0a) FUEL (true, z0)) (fun r18 => some r18) (fun s19 => some s19.2)
def m_g_slices_IndexFunc_S_S_int_S_int_l0 (p0s : List (List Int)) (p1f : (List Int) → Option Bool) (s3 : Int) : Option (Out Int Int) :=
  if decide (s3 < (p0s.length : Int)) then ((getI p0s s3).bind fun x3 => (p1f x3).bind fun r6 => if r6 then (some (.ret s3)) else (some (.nxt (IntKind.i64.wrap (s3 + 1))))) else (some (.brk s3))
def m_g_slices_IndexFunc_S_S_int_S_int (p0s : List (List Int)) (p1f : (List Int) → Option Bool) : Option Int :=
  bindL (loopM (m_g_slices_IndexFunc_S_S_int_S_int_l0 p0s p1f) FUEL 0) (fun r => some r) (fun s4 => some (-1))
def m_g_slices_Equal_S_int_int_l0 (p0s1 : List Int) (p1s2 : List Int) (s3 : Int) : Option (Out Bool Int) :=
  if decide (s3 < (p0s1.length : Int)) then ((getI p0s1 s3).bind fun x5 => (getI p1s2 s3).bind fun x6 => if x5 != x6 then (some (.ret false)) else (some (.nxt (IntKind.i64.wrap (s3 + 1))))) else (some (.brk s3))
def m_g_slices_Equal_S_int_int (p0s1 : List Int) (p1s2 : List Int) : Option Bool :=
  if (p0s1.length : Int) != (p1s2.length : Int) then (some false) else (bindL (loopM (m_g_slices_Equal_S_int_int_l0 p0s1 p1s2) FUEL 0) (fun r => some r) (fun s4 => some true))
def m_i_Automaton_refine_1 (p0x : List Int) (q0 : List Int) : Option Bool :=
  (m_g_slices_Equal_S_int_int p0x q0).bind fun r1 => some r1
def m_i_Automaton_refine_l1 (p1 : List Int) (x57 : List Int) (s52 : Int × (List Int)) : Option (Out ((List Int) × Int) (Int × (List Int))) :=
  if decide (s52.1 < (x57.length : Int)) then ((getI x57 s52.1).bind fun x64 => Option.bind ((if decide (x64 ≥ 0) then ((getI p1 x64).bind fun x66 => some x66) else (some x64) : Option Int)) (fun s54 => (appI 8 s52.2 ([s54])).bind fun z38 => some (.nxt (IntKind.i64.wrap (s52.1 + 1), z38)))) else (some (.brk (s52.1, s52.2)))
def m_i_Automaton_refine_l0 (p0 : Int × (List Bool) × (List (List Int))) (p1 : List Int) (s37 : (List (List Int)) × (List Int) × Int) : Option (Out ((List Int) × Int) ((List (List Int)) × (List Int) × Int)) :=
  if decide (s37.2.2 < (p1.length : Int)) then (Option.bind (((getI p1 s37.2.2).bind fun x56 => if decide (x56 < 0) then ((appI 8 s37.2.1 ([-1])).bind fun z42 => some (s37.1, z42)) else ((getI p0.2.2 s37.2.2).bind fun x57 => bindL (loopM (m_i_Automaton_refine_l1 p1 x57) FUEL (0, [x56])) (fun _ => none) (fun s53 => (m_g_slices_IndexFunc_S_S_int_S_int s37.1 (fun a0 => m_i_Automaton_refine_1 a0 s53.2)).bind fun r12 => Option.bind ((if decide (r12 < 0) then ((appI 24 s37.1 ([s53.2])).bind fun z40 => some (z40, (s37.1.length : Int))) else (some (s37.1, r12)) : Option ((List (List Int)) × Int))) (fun s55 => (appI 8 s37.2.1 ([s55.2])).bind fun z41 => some (s55.1, z41)))) : Option ((List (List Int)) × (List Int)))) (fun s47 => some (.nxt (s47.1, s47.2, IntKind.i64.wrap (s37.2.2 + 1))))) else (some (.brk (s37.1, s37.2.1, s37.2.2)))
def m_i_Automaton_refine (p0 : Int × (List Bool) × (List (List Int))) (p1 : List Int) : Option ((List Int) × Int) :=
  bindL (loopM (m_i_Automaton_refine_l0 p0 p1) FUEL (([] : List (List Int)), ([] : List Int), 0)) (fun r => some r) (fun s38 => some (s38.2.1, (s38.1.length : Int)))
def m_i_Automaton_classes_l0 (p0a : Int × (List Bool) × (List (List Int))) (r1 : List Bool) (s5 : (List Int) × Int) : Option (Out (List Int) ((List Int) × Int)) :=
  if decide (s5.2 < (r1.length : Int)) then (Option.bind (((getI r1 s5.2).bind fun x11 => if x11 then ((getI p0a.2.1 s5.2).bind fun x12 => if x12 then ((appI 8 s5.1 ([1])).bind fun z18 => some z18) else ((appI 8 s5.1 ([0])).bind fun z17 => some z17)) else ((appI 8 s5.1 ([-1])).bind fun z16 => some z16) : Option (List Int))) (fun s7 => some (.nxt (s7, IntKind.i64.wrap (s5.2 + 1))))) else (some (.brk (s5.1, s5.2)))
def m_i_Automaton_classes_l1 (p0a : Int × (List Bool) × (List (List Int))) (s10 : (List Int) × Int) : Option (Out (List Int) ((List Int) × Int)) :=
  (m_i_Automaton_refine (p0a.1, p0a.2.1, p0a.2.2) s10.1).bind fun r4 => if r4.2 == s10.2 then (some (.ret r4.1)) else (some (.nxt (r4.1, r4.2)))
def m_i_Automaton_classes (p0a : Int × (List Bool) × (List (List Int))) : Option (List Int) :=
  (m_i_Automaton_live (p0a.1, p0a.2.1, p0a.2.2)).bind fun r1 => bindL (loopM (m_i_Automaton_classes_l0 p0a r1) FUEL (([] : List Int), 0)) (fun r => some r) (fun s6 => bindL (loopM (m_i_Automaton_classes_l1 p0a) FUEL (s6.1, -1)) (fun r => some r) (fun s11 => none))
def m_g_math_bits_Mul32 (p0x : Int) (p1y : Int) : Option (Int × Int) :=
  some (IntKind.u32.wrap (shrI (IntKind.u64.wrap ((IntKind.u64.wrap p0x) * (IntKind.u64.wrap p1y))) 32), IntKind.u32.wrap (IntKind.u64.wrap ((IntKind.u64.wrap p0x) * (IntKind.u64.wrap p1y))))
def m_g_math_bits_Mul64 (p0x : Int) (p1y : Int) : Option (Int × Int) :=
  some (IntKind.u64.wrap ((IntKind.u64.wrap ((IntKind.u64.wrap ((shrI p0x 32) * (shrI p1y 32))) + (shrI (IntKind.u64.wrap ((IntKind.u64.wrap ((shrI p0x 32) * (andU p1y 4294967295))) + (shrI (IntKind.u64.wrap ((andU p0x 4294967295) * (andU p1y 4294967295))) 32))) 32))) + (shrI (IntKind.u64.wrap ((andU (IntKind.u64.wrap ((IntKind.u64.wrap ((shrI p0x 32) * (andU p1y 4294967295))) + (shrI (IntKind.u64.wrap ((andU p0x 4294967295) * (andU p1y 4294967295))) 32))) 4294967295) + (IntKind.u64.wrap ((andU p0x 4294967295) * (shrI p1y 32))))) 32)), IntKind.u64.wrap (p0x * p1y))
def m_g_math_bits_Mul (p0x : Int) (p1y : Int) : Option (Int × Int) :=
  (m_g_math_bits_Mul64 p0x p1y).bind fun r1 => some (r1.1, r1.2)
def m_g_slices_Repeat_S_int_int_l0 (s4 : Int × List Int) : Option (Out (List Int) (Int × List Int)) :=
  if decide (s4.1 < (s4.2.length : Int)) then ((chk (And (0 ≤ s4.1) (s4.1 ≤ (s4.2.length : Int)))).bind fun _ => (chk (And (0 ≤ s4.1) (s4.1 ≤ (s4.2.length : Int)))).bind fun _ => (chk (And (0 ≤ s4.1) (s4.1 ≤ (s4.2.length : Int)))).bind fun _ => (chk (And (0 ≤ s4.1) (s4.1 ≤ (s4.2.length : Int)))).bind fun _ => some (.nxt (IntKind.i64.wrap (s4.1 + ((Min.min ((s4.2.take s4.1.toNat).length) (s4.2.length - s4.1.toNat) : Nat) : Int)), cpyI s4.2 s4.1.toNat (s4.2.take s4.1.toNat)))) else (some (.brk (s4.1, s4.2)))
def m_g_slices_Repeat_S_int_int (p0x : List Int) (p1count : Int) : Option (List Int) :=
  if decide (p1count < 0) then (none) else ((m_g_math_bits_Mul (IntKind.u64.wrap (p0x.length : Int)) (IntKind.u64.wrap p1count)).bind fun r0 => if decide (r0.1 > 0) then (none) else (if decide (r0.2 > 9223372036854775807) then (none) else ((mkI 8 (IntKind.i64.wrap r0.2) 0).bind fun z1 => bindL (loopM (m_g_slices_Repeat_S_int_int_l0) FUEL (((Min.min p0x.length (z1.length - 0) : Nat) : Int), cpyI z1 0 p0x)) (fun r13 => some r13) (fun s14 => some s14.2))))
def m_i_nothing : Option (Int × (List Bool) × (List (List Int))) :=
  (m_g_slices_Repeat_S_int_int ([-1]) 9).bind fun r1 => some (0, [false], [r1])
def m_g_slices_Index_S_int_int_l0 (p0s : List Int) (p1v : Int) (s3 : Int) : Option (Out Int Int) :=
  if decide (s3 < (p0s.length : Int)) then ((getI p0s s3).bind fun x3 => if p1v == x3 then (some (.ret s3)) else (some (.nxt (IntKind.i64.wrap (s3 + 1))))) else (some (.brk s3))
def m_g_slices_Index_S_int_int (p0s : List Int) (p1v : Int) : Option Int :=
  bindL (loopM (m_g_slices_Index_S_int_int_l0 p0s p1v) FUEL 0) (fun r => some r) (fun s4 => some (-1))
def m_i_Automaton_minimize_1 (p0class : Int) (q0 : List Int) : Option Int :=
  (m_g_slices_Index_S_int_int q0 p0class).bind fun r1 => some r1
def m_i_numbered_int_l1 (p3 : Int → Int → Option (Int × Bool)) (s29 : (List Int) × (List (Int × Int)) × Int × Int × (List Bool) × (List (List Int))) (s39 : (List Int) × (List (Int × Int)) × (List Int) × Int) : Option (Out ((Int × (List Bool) × (List (List Int))) × Bool) ((List Int) × (List (Int × Int)) × (List Int) × Int)) :=
  if decide (s39.2.2.2 < 9) then (Option.bind (((getI s39.1 s29.2.2.1).bind fun x20 => (p3 x20 s39.2.2.2).bind fun r20 => if r20.2 then ((chk (iOk r20.1 = true)).bind fun _ => Option.bind ((if (lkM s39.2.1 r20.1).isSome then (some (s39.1, s39.2.1, (lkM s39.2.1 r20.1).getD 0)) else ((putM s39.2.1 iOk iOk r20.1 (s39.1.length : Int)).bind fun m37 => (appI 8 s39.1 ([r20.1])).bind fun z75 => some (z75, m37, (s39.1.length : Int))) : Option ((List Int) × (List (Int × Int)) × Int))) (fun s43 => (appI 8 s39.2.2.1 ([s43.2.2])).bind fun z76 => some (s43.1, s43.2.1, z76))) else ((appI 8 s39.2.2.1 ([-1])).bind fun z73 => some (s39.1, s39.2.1, z73)) : Option ((List Int) × (List (Int × Int)) × (List Int)))) (fun s42 => some (.nxt (s42.1, s42.2.1, s42.2.2, IntKind.i64.wrap (s39.2.2.2 + 1))))) else (some (.brk (s39.1, s39.2.1, s39.2.2.1, s39.2.2.2)))
def m_i_numbered_int_l0 (p1 : Int) (p2 : Int → Option Bool) (p3 : Int → Int → Option (Int × Bool)) (s29 : (List Int) × (List (Int × Int)) × Int × Int × (List Bool) × (List (List Int))) : Option (Out ((Int × (List Bool) × (List (List Int))) × Bool) ((List Int) × (List (Int × Int)) × Int × Int × (List Bool) × (List (List Int)))) :=
  if decide (s29.2.2.1 < (s29.1.length : Int)) then (bindL (loopM (m_i_numbered_int_l1 p3 s29) FUEL (s29.1, s29.2.1, ([] : List Int), 0)) (fun r => some (.ret r)) (fun s40 => if decide ((s40.1.length : Int) > p1) then (some (.ret ((0, [], []), false))) else ((getI s40.1 s29.2.2.1).bind fun x21 => (p2 x21).bind fun r21 => (appI 1 s29.2.2.2.2.1 ([r21])).bind fun z77 => (appI 24 s29.2.2.2.2.2 ([s40.2.2.1])).bind fun z78 => some (.nxt (s40.1, s40.2.1, IntKind.i64.wrap (s29.2.2.1 + 1), s29.2.2.2.1, z77, z78))))) else (some (.brk (s29.1, s29.2.1, s29.2.2.1, s29.2.2.2.1, s29.2.2.2.2.1, s29.2.2.2.2.2)))
def m_i_numbered_int (p0 : Int) (p1 : Int) (p2 : Int → Option Bool) (p3 : Int → Int → Option (Int × Bool)) : Option ((Int × (List Bool) × (List (List Int))) × Bool) :=
  (putM ([] : List (Int × Int)) iOk iOk p0 0).bind fun m1 => bindL (loopM (m_i_numbered_int_l0 p1 p2 p3) FUEL ([p0], m1, 0, 0, [], [])) (fun r => some r) (fun s30 => some ((s30.2.2.2.1, s30.2.2.2.2.1, s30.2.2.2.2.2), true))
def m_i_Automaton_minimize_2 (p0c : Int) (q0 : Int × (List Bool) × (List (List Int))) (q1 : Int → Option Int) : Option Bool :=
  (q1 p0c).bind fun r1 => (getI q0.2.1 r1).bind fun x1 => some x1
def m_i_isLetter (p0n : Int) : Option Bool :=
  (m_i_within p0n 0 8).bind fun r1 => some r1
def m_i_Automaton_move (p0a : Int × (List Bool) × (List (List Int))) (p1s : Int) (p2letter : Int) : Option Int :=
  if decide (p1s < 0) then (some (-1)) else ((m_i_isLetter p2letter).bind fun r1 => if r1 then ((getI p0a.2.2 p1s).bind fun x1 => (getI x1 p2letter).bind fun x2 => some x2) else (some (-1)))
def m_i_Automaton_minimize_3 (p0c : Int) (p1letter : Int) (q0 : Int × (List Bool) × (List (List Int))) (q1 : Int → Option Int) (q2 : List Int) : Option (Int × Bool) :=
  (q1 p0c).bind fun r1 => (m_i_Automaton_move (q0.1, q0.2.1, q0.2.2) r1 p1letter).bind fun r2 => if decide (r2 < 0) then (some (0, false)) else ((getI q2 r2).bind fun x1 => if decide (x1 < 0) then (some (0, false)) else ((getI q2 r2).bind fun x2 => some (x2, true)))
def m_i_Automaton_minimize (p0a : Int × (List Bool) × (List (List Int))) : Option (Int × (List Bool) × (List (List Int))) :=
  (m_i_Automaton_classes (p0a.1, p0a.2.1, p0a.2.2)).bind fun r1 => (getI r1 p0a.1).bind fun x1 => if decide (x1 < 0) then ((m_i_nothing ).bind fun r3 => some (r3.1, r3.2.1, r3.2.2)) else ((getI r1 p0a.1).bind fun x2 => (m_i_numbered_int x2 (r1.length : Int) (fun a0 => m_i_Automaton_minimize_2 a0 (p0a.1, p0a.2.1, p0a.2.2) (fun a0 => m_i_Automaton_minimize_1 a0 r1)) (fun a0 a1 => m_i_Automaton_minimize_3 a0 a1 (p0a.1, p0a.2.1, p0a.2.2) (fun a0 => m_i_Automaton_minimize_1 a0 r1) r1)).bind fun r2 => some (r2.1.1, r2.1.2.1, r2.1.2.2))
def m_g_slices_IndexFunc_S_int_int_l0 (p0s : List Int) (p1f : Int → Option Bool) (s3 : Int) : Option (Out Int Int) :=
  if decide (s3 < (p0s.length : Int)) then ((getI p0s s3).bind fun x3 => (p1f x3).bind fun r3 => if r3 then (some (.ret s3)) else (some (.nxt (IntKind.i64.wrap (s3 + 1))))) else (some (.brk s3))
def m_g_slices_IndexFunc_S_int_int (p0s : List Int) (p1f : Int → Option Bool) : Option Int :=
  bindL (loopM (m_g_slices_IndexFunc_S_int_int_l0 p0s p1f) FUEL 0) (fun r => some r) (fun s4 => some (-1))
def m_g_slices_ContainsFunc_S_int_int (p0s : List Int) (p1f : Int → Option Bool) : Option Bool :=
  (m_g_slices_IndexFunc_S_int_int p0s p1f).bind fun r1 => some (decide (r1 ≥ 0))
def m_i_statesOk_l0 (p0a : Int × (List Bool) × (List (List Int))) (p1list : List Int) (s3 : Int) : Option (Out Bool Int) :=
  if decide (s3 < (p1list.length : Int)) then ((getI p1list s3).bind fun x3 => (m_i_within x3 0 (IntKind.i64.wrap ((p0a.2.1.length : Int) - 1))).bind fun r3 => if r3 then (some (.nxt (IntKind.i64.wrap (s3 + 1)))) else (some (.ret false))) else (some (.brk s3))
def m_i_statesOk (p0a : Int × (List Bool) × (List (List Int))) (p1list : List Int) : Option Bool :=
  bindL (loopM (m_i_statesOk_l0 p0a p1list) FUEL 0) (fun r => some r) (fun s4 => (m_i_IsValidAutomaton (p0a.1, p0a.2.1, p0a.2.2)).bind fun r4 => some r4)
def m_i_Automaton_found_l1 (x8 : List Int) (s10 : (List Int) × Int × List Bool) : Option (Out (List Bool) ((List Int) × Int × List Bool)) :=
  if decide (s10.2.1 < (x8.length : Int)) then (Option.bind (((getI x8 s10.2.1).bind fun x11 => if decide (x11 ≥ 0) then ((getI s10.2.2 x11).bind fun x12 => if x12 then (some (s10.1, s10.2.2)) else ((getI s10.2.2 x11).bind fun x13 => (appI 8 s10.1 ([x11])).bind fun z14 => some (z14, s10.2.2.set x11.toNat true))) else (some (s10.1, s10.2.2)) : Option ((List Int) × List Bool))) (fun s15 => some (.nxt (s15.1, IntKind.i64.wrap (s10.2.1 + 1), s15.2)))) else (some (.brk (s10.1, s10.2.1, s10.2.2)))
def m_i_Automaton_found_l0 (p0a : Int × (List Bool) × List (List Int)) (s4 : (List Int) × List Bool) : Option (Out (List Bool) ((List Int) × List Bool)) :=
  if decide ((s4.1.length : Int) > 0) then ((getI s4.1 0).bind fun x7 => (getI p0a.2.2 x7).bind fun x8 => bindL (loopM (m_i_Automaton_found_l1 x8) FUEL (s4.1, 0, s4.2)) (fun r16 => some (.ret r16)) (fun s17 => (chk (And ((0 : Int) ≤ 1) (1 ≤ (s17.1.length : Int)))).bind fun _ => some (.nxt (s17.1.drop 1, s17.2.2)))) else (some (.brk (s4.1, s4.2)))
def m_i_Automaton_found (p0a : Int × (List Bool) × List (List Int)) : Option (List Bool) :=
  (mkI 1 (p0a.2.1.length : Int) false).bind fun z0 => (getI z0 p0a.1).bind fun x1 => bindL (loopM (m_i_Automaton_found_l0 p0a) FUEL ([p0a.1], z0.set p0a.1.toNat true)) (fun r19 => some r19) (fun s20 => some s20.2)
def m_i_StateReaches (p0a : Int × (List Bool) × (List (List Int))) (p1s : Int) (p2t : Int) : Option Bool :=
  (m_i_statesOk (p0a.1, p0a.2.1, p0a.2.2) ([p1s, p2t])).bind fun r1 => if r1 then ((m_i_Automaton_found (p1s, p0a.2.1, p0a.2.2)).bind fun r2 => (getI r2 p2t).bind fun x1 => some x1) else (some false)
def m_i_HasLoop_1 (p0t : Int) (q0 : Int × (List Bool) × (List (List Int))) (q1 : Int) : Option Bool :=
  if decide (p0t ≥ 0) then ((m_i_StateReaches (q0.1, q0.2.1, q0.2.2) p0t q1).bind fun r1 => some r1) else (some false)
def m_i_HasLoop (p0a : Int × (List Bool) × (List (List Int))) (p1s : Int) : Option Bool :=
  (m_i_statesOk (p0a.1, p0a.2.1, p0a.2.2) ([p1s])).bind fun r1 => if r1 then ((getI p0a.2.2 p1s).bind fun x1 => (m_g_slices_ContainsFunc_S_int_int x1 (fun a0 => m_i_HasLoop_1 a0 (p0a.1, p0a.2.1, p0a.2.2) p1s)).bind fun r3 => some r3) else (some false)
def m_i_copyInts (p0l : List Int) : Option (List Int) :=
  (appI 8 ([] : List Int) p0l).bind fun z1 => some z1
def m_g_slices_Sort_S_int_int (p0 : List Int) : Option (List Int) := R.sortI p0
def m_g_slices_Compact_S_int_int_l1 (p0s : List Int) (s1 : Int) (s8 : Int × Int × List Int) : Option (Out (List Int) (Int × Int × List Int)) :=
  if decide (s8.2.1 < ((0 + ((p0s.length : Int) - 0)) - (0 + s1))) then (Option.bind (((chk (And (0 ≤ s8.2.1) (s8.2.1 < ((0 + ((p0s.length : Int) - 0)) - (0 + s1))))).bind fun _ => (getI s8.2.2 ((0 + s1) + s8.2.1)).bind fun x14 => (chk (And (0 ≤ (IntKind.i64.wrap (s8.2.1 - 1))) ((IntKind.i64.wrap (s8.2.1 - 1)) < ((0 + ((p0s.length : Int) - 0)) - (0 + s1))))).bind fun _ => (getI s8.2.2 ((0 + s1) + (IntKind.i64.wrap (s8.2.1 - 1)))).bind fun x16 => if x14 != x16 then ((chk (And (0 ≤ s8.2.1) (s8.2.1 < ((0 + ((p0s.length : Int) - 0)) - (0 + s1))))).bind fun _ => (getI s8.2.2 ((0 + s1) + s8.2.1)).bind fun x18 => (getI s8.2.2 s8.1).bind fun x19 => some (IntKind.i64.wrap (s8.1 + 1), s8.2.2.set s8.1.toNat x18)) else (some (s8.1, s8.2.2)) : Option (Int × List Int))) (fun s20 => some (.nxt (s20.1, IntKind.i64.wrap (s8.2.1 + 1), s20.2)))) else (some (.brk (s8.1, s8.2.1, s8.2.2)))
def m_g_slices_Compact_S_int_int_l0 (p0s : List Int) (s1 : Int) : Option (Out (List Int) Int) :=
  if decide (s1 < (p0s.length : Int)) then ((getI p0s s1).bind fun x4 => (getI p0s (IntKind.i64.wrap (s1 - 1))).bind fun x5 => if x4 == x5 then ((chk (And (0 ≤ s1) (And (s1 ≤ ((p0s.length : Int) - 0)) ((0 + ((p0s.length : Int) - 0)) ≤ (p0s.length : Int))))).bind fun _ => bindL (loopM (m_g_slices_Compact_S_int_int_l1 p0s s1) FUEL (s1, 1, p0s)) (fun r21 => some (.ret r21)) (fun s22 => (chk (And (0 ≤ s22.1) (And (s22.1 ≤ ((s22.2.2.length : Int) - 0)) ((0 + ((s22.2.2.length : Int) - 0)) ≤ (s22.2.2.length : Int))))).bind fun _ => (chk (And ((0 + s22.1) ≤ (0 + ((s22.2.2.length : Int) - 0))) ((0 + ((s22.2.2.length : Int) - 0)) ≤ (s22.2.2.length : Int)))).bind fun _ => (chk (And ((0 : Int) ≤ 0) (And (0 ≤ s22.1) ((0 + s22.1) ≤ ((zeroM s22.2.2 ((0 + s22.1).toNat) ((0 + ((s22.2.2.length : Int) - 0)).toNat) 0).length : Int))))).bind fun _ => some (.ret (((zeroM s22.2.2 ((0 + s22.1).toNat) ((0 + ((s22.2.2.length : Int) - 0)).toNat) 0).take ((0 + s22.1).toNat)).drop 0)))) else (some (.nxt (IntKind.i64.wrap (s1 + 1))))) else (some (.brk s1))
def m_g_slices_Compact_S_int_int (p0s : List Int) : Option (List Int) :=
  if decide ((p0s.length : Int) < 2) then (some p0s) else (bindL (loopM (m_g_slices_Compact_S_int_int_l0 p0s) FUEL 1) (fun r26 => some r26) (fun s27 => some p0s))
def m_i_ascending (p0l : List Int) : Option (List Int) :=
  (m_i_copyInts p0l).bind fun r0 => (m_g_slices_Sort_S_int_int r0).bind fun r1 => (m_g_slices_Compact_S_int_int r1).bind fun r2 => some r2
def m_i_together_1 (p0s : Int × Int) (p1letter : Int) (q0 : Int × (List Bool) × (List (List Int))) (q1 : Int × (List Bool) × (List (List Int))) : Option (Int × Int) :=
  (m_i_Automaton_move (q0.1, q0.2.1, q0.2.2) p0s.1 p1letter).bind fun r1 => (m_i_Automaton_move (q1.1, q1.2.1, q1.2.2) p0s.2 p1letter).bind fun r2 => some (r1, r2)

def m_i_images_l1 (p0a : Int × (List Bool) × List (List Int)) (p2q : Int) (s4 : (List Int) × (List (Int × Int)) × Int × List ((Int × Int) × Bool)) : Option (Out (List Int) ((List Int) × (List (Int × Int)) × Int × List ((Int × Int) × Bool))) :=
  if decide (s4.2.2.1 < 9) then (Option.bind (((getI s4.2.1 0).bind fun x5 => (m_i_together_1 (x5.1, x5.2) s4.2.2.1 (p0a.1, p0a.2.1, p0a.2.2) (p0a.1, p0a.2.1, p0a.2.2)).bind fun r6 => if decide (r6.2 < 0) then (some (s4.1, s4.2.1, s4.2.2.2)) else ((chk ((iiOk (r6.1, r6.2)) = true)).bind fun _ => if Option.getD (lkM s4.2.2.2 (r6.1, r6.2)) false then (some (s4.1, s4.2.1, s4.2.2.2)) else ((putM s4.2.2.2 iiOk bOk (r6.1, r6.2) true).bind fun z8 => (appI 16 s4.2.1 ([(r6.1, r6.2)])).bind fun z9 => if r6.2 == p2q then ((appI 8 s4.1 ([r6.1])).bind fun z10 => some (z10, z9, z8)) else (some (s4.1, z9, z8)))) : Option ((List Int) × (List (Int × Int)) × List ((Int × Int) × Bool)))) (fun s11 => some (.nxt (s11.1, s11.2.1, IntKind.i64.wrap (s4.2.2.1 + 1), s11.2.2)))) else (some (.brk (s4.1, s4.2.1, s4.2.2.1, s4.2.2.2)))
def m_i_images_l0 (p0a : Int × (List Bool) × List (List Int)) (p2q : Int) (s2 : (List Int) × (List (Int × Int)) × List ((Int × Int) × Bool)) : Option (Out (List Int) ((List Int) × (List (Int × Int)) × List ((Int × Int) × Bool))) :=
  if decide ((s2.2.1.length : Int) > 0) then (bindL (loopM (m_i_images_l1 p0a p2q) FUEL (s2.1, s2.2.1, 0, s2.2.2)) (fun r12 => some (.ret r12)) (fun s13 => (chk (And ((0 : Int) ≤ 1) (1 ≤ (s13.2.1.length : Int)))).bind fun _ => some (.nxt (s13.1, s13.2.1.drop 1, s13.2.2.2)))) else (some (.brk (s2.1, s2.2.1, s2.2.2)))
def m_i_images (p0a : Int × (List Bool) × List (List Int)) (p1p : Int) (p2q : Int) : Option (List Int) :=
  bindL (loopM (m_i_images_l0 p0a p2q) FUEL (([] : List Int), [(p1p, p2q)], ([] : List ((Int × Int) × Bool)))) (fun r15 => some r15) (fun s16 => (m_i_ascending s16.1).bind fun r17 => some r17)
def m_i_PumpedStates_l1 (p0a : Int × (List Bool) × (List (List Int))) (p2q : Int) (s11 : Int × (List Int)) (s15 : (List Int) × Int) : Option (Out (List Int) ((List Int) × Int)) :=
  if decide (s15.2 < (s11.2.length : Int)) then ((getI s11.2 s15.2).bind fun x9 => (m_i_images (p0a.1, p0a.2.1, p0a.2.2) x9 p2q).bind fun r13 => (appI 8 s15.1 r13).bind fun z9 => some (.nxt (z9, IntKind.i64.wrap (s15.2 + 1)))) else (some (.brk (s15.1, s15.2)))
def m_i_PumpedStates_l0 (p0a : Int × (List Bool) × (List (List Int))) (p2q : Int) (s11 : Int × (List Int)) : Option (Out (List Int) (Int × (List Int))) :=
  if decide (s11.1 > 0) then (bindL (loopM (m_i_PumpedStates_l1 p0a p2q s11) FUEL (([] : List Int), 0)) (fun r => some (.ret r)) (fun s16 => (m_i_ascending s16.1).bind fun r14 => some (.nxt (IntKind.i64.wrap (s11.1 - 1), r14)))) else (some (.brk (s11.1, s11.2)))
def m_i_PumpedStates (p0a : Int × (List Bool) × (List (List Int))) (p1p : Int) (p2q : Int) (p3times : Int) : Option (List Int) :=
  (m_i_statesOk (p0a.1, p0a.2.1, p0a.2.2) ([p1p, p2q])).bind fun r1 => if r1 then ((m_i_within p3times 0 12).bind fun r2 => if r2 then (bindL (loopM (m_i_PumpedStates_l0 p0a p2q) FUEL (p3times, [p1p])) (fun r => some r) (fun s12 => some s12.2)) else (some ([]))) else (some ([]))
def m_i_leastWord_states_l1 (p1next : (Int × Int) → Int → Option (Int × Int)) (x4 : (Int × Int) × List Int) (s8 : (List ((Int × Int) × List Int)) × Int × List ((Int × Int) × Bool)) : Option (Out ((List Int) × Bool) ((List ((Int × Int) × List Int)) × Int × List ((Int × Int) × Bool))) :=
  if decide (s8.2.1 < 9) then (Option.bind (((p1next (x4.1.1, x4.1.2) s8.2.1).bind fun r9 => (chk ((iiOk (r9.1, r9.2)) = true)).bind fun _ => if Option.getD (lkM s8.2.2 (r9.1, r9.2)) false then (some (s8.1, s8.2.2)) else ((putM s8.2.2 iiOk bOk (r9.1, r9.2) true).bind fun z11 => (m_i_copyInts x4.2).bind fun r15 => (appI 8 r15 ([s8.2.1])).bind fun z16 => (appI 40 s8.1 ([((r9.1, r9.2), z16)])).bind fun z17 => some (z17, z11)) : Option ((List ((Int × Int) × List Int)) × List ((Int × Int) × Bool)))) (fun s18 => some (.nxt (s18.1, IntKind.i64.wrap (s8.2.1 + 1), s18.2)))) else (some (.brk (s8.1, s8.2.1, s8.2.2)))
def m_i_leastWord_states_l0 (p1next : (Int × Int) → Int → Option (Int × Int)) (p2test : (Int × Int) → Option Bool) (s3 : (List ((Int × Int) × List Int)) × List ((Int × Int) × Bool)) : Option (Out ((List Int) × Bool) ((List ((Int × Int) × List Int)) × List ((Int × Int) × Bool))) :=
  if decide ((s3.1.length : Int) > 0) then ((getI s3.1 0).bind fun x4 => (p2test (x4.1.1, x4.1.2)).bind fun r5 => if r5 then ((m_i_copyInts x4.2).bind fun r6 => some (.ret (r6, true))) else (bindL (loopM (m_i_leastWord_states_l1 p1next x4) FUEL (s3.1, 0, s3.2)) (fun r19 => some (.ret r19)) (fun s20 => (chk (And ((0 : Int) ≤ 1) (1 ≤ (s20.1.length : Int)))).bind fun _ => some (.nxt (s20.1.drop 1, s20.2.2))))) else (some (.brk (s3.1, s3.2)))
def m_i_leastWord_states (p0first : Int × Int) (p1next : (Int × Int) → Int → Option (Int × Int)) (p2test : (Int × Int) → Option Bool) : Option ((List Int) × Bool) :=
  (putM ([] : List ((Int × Int) × Bool)) iiOk bOk (p0first.1, p0first.2) true).bind fun z0 => bindL (loopM (m_i_leastWord_states_l0 p1next p2test) FUEL ([((p0first.1, p0first.2), ([] : List Int))], z0)) (fun r22 => some r22) (fun s23 => some (([] : List Int), false))
def m_i_Automaton_accepts (p0a : Int × (List Bool) × (List (List Int))) (p1s : Int) : Option Bool :=
  if decide (p1s ≥ 0) then ((getI p0a.2.1 p1s).bind fun x1 => some x1) else (some false)
def m_i_misses_1 (p0x : Int × Int) (q0 : Int × (List Bool) × (List (List Int))) : Option Bool :=
  (m_i_Automaton_accepts (q0.1, q0.2.1, q0.2.2) p0x.2).bind fun r1 => if r1 then ((m_i_Automaton_accepts (q0.1, q0.2.1, q0.2.2) p0x.1).bind fun r2 => some (!r2)) else (some false)
def m_i_misses (p0a : Int × (List Bool) × List (List Int)) (p1s : Int) (p2q : Int) : Option Bool :=
  (m_i_leastWord_states (p1s, p2q) (fun (u0 : Int × Int) (u1 : Int) => m_i_together_1 u0 u1 (p0a.1, p0a.2.1, p0a.2.2) (p0a.1, p0a.2.1, p0a.2.2)) (fun (u2 : Int × Int) => m_i_misses_1 u2 (p0a.1, p0a.2.1, p0a.2.2))).bind fun r3 => some r3.2
def m_i_HardPair_1 (p0s : Int) (q0 : Int × (List Bool) × (List (List Int))) (q1 : Int) : Option Bool :=
  (m_i_misses (q0.1, q0.2.1, q0.2.2) p0s q1).bind fun r1 => some r1
def m_i_HardPair_l1 (r1 : Int × (List Bool) × List (List Int)) (s3 : Int) (s5 : Int) : Option (Out (Int × Int × Bool) Int) :=
  if decide (s5 < (r1.2.1.length : Int)) then (bindJ (S := Unit) ((m_i_HasLoop (r1.1, r1.2.1, r1.2.2) s3).bind fun r6 => if r6 then ((m_i_HasLoop (r1.1, r1.2.1, r1.2.2) s5).bind fun r7 => if r7 then ((m_i_StateReaches (r1.1, r1.2.1, r1.2.2) s3 s5).bind fun r8 => if r8 then ((m_i_PumpedStates (r1.1, r1.2.1, r1.2.2) s3 s5 (r1.2.1.length : Int)).bind fun r9 => (m_g_slices_ContainsFunc_S_int_int r9 (fun (u10 : Int) => m_i_HardPair_1 u10 (r1.1, r1.2.1, r1.2.2) s5)).bind fun r11 => if r11 then (some (.inl (.ret (s3, s5, true)))) else (some (.inr ()))) else (some (.inr ()))) else (some (.inr ()))) else (some (.inr ()))) (fun s12 => some (.nxt (IntKind.i64.wrap (s5 + 1))))) else (some (.brk s5))
def m_i_HardPair_l0 (r1 : Int × (List Bool) × List (List Int)) (s3 : Int) : Option (Out (Int × Int × Bool) Int) :=
  if decide (s3 < (r1.2.1.length : Int)) then (bindL (loopM (m_i_HardPair_l1 r1 s3) FUEL 0) (fun r13 => some (.ret r13)) (fun s14 => some (.nxt (IntKind.i64.wrap (s3 + 1))))) else (some (.brk s3))
def m_i_HardPair (p0a : Int × (List Bool) × List (List Int)) : Option (Int × Int × Bool) :=
  (m_i_IsValidAutomaton (p0a.1, p0a.2.1, p0a.2.2)).bind fun r0 => if r0 then ((m_i_Automaton_minimize (p0a.1, p0a.2.1, p0a.2.2)).bind fun r1 => bindL (loopM (m_i_HardPair_l0 r1) FUEL 0) (fun r15 => some r15) (fun s16 => some (0, 0, false))) else (some (0, 0, false))
def m_w_eqBoolS_l0 (p0a : List Bool) (p1b : List Bool) (s3 : Int) : Option (Out Bool Int) :=
  if decide (s3 < (p0a.length : Int)) then ((getI p0a s3).bind fun x5 => (getI p1b s3).bind fun x6 => if x5 != x6 then (some (.ret false)) else (some (.nxt (IntKind.i64.wrap (s3 + 1))))) else (some (.brk s3))
def m_w_eqBoolS (p0a : List Bool) (p1b : List Bool) : Option Bool :=
  if (p0a.length : Int) != (p1b.length : Int) then (some false) else (bindL (loopM (m_w_eqBoolS_l0 p0a p1b) FUEL 0) (fun r => some r) (fun s4 => some true))
def m_w_eqIntS_l0 (p0a : List Int) (p1b : List Int) (s3 : Int) : Option (Out Bool Int) :=
  if decide (s3 < (p0a.length : Int)) then ((getI p0a s3).bind fun x5 => (getI p1b s3).bind fun x6 => if x5 != x6 then (some (.ret false)) else (some (.nxt (IntKind.i64.wrap (s3 + 1))))) else (some (.brk s3))
def m_w_eqIntS (p0a : List Int) (p1b : List Int) : Option Bool :=
  if (p0a.length : Int) != (p1b.length : Int) then (some false) else (bindL (loopM (m_w_eqIntS_l0 p0a p1b) FUEL 0) (fun r => some r) (fun s4 => some true))
def m_w_eqIntSS_l0 (p0a : List (List Int)) (p1b : List (List Int)) (s3 : Int) : Option (Out Bool Int) :=
  if decide (s3 < (p0a.length : Int)) then ((getI p0a s3).bind fun x5 => (getI p1b s3).bind fun x6 => (m_w_eqIntS x5 x6).bind fun r9 => if r9 then (some (.nxt (IntKind.i64.wrap (s3 + 1)))) else (some (.ret false))) else (some (.brk s3))
def m_w_eqIntSS (p0a : List (List Int)) (p1b : List (List Int)) : Option Bool :=
  if (p0a.length : Int) != (p1b.length : Int) then (some false) else (bindL (loopM (m_w_eqIntSS_l0 p0a p1b) FUEL 0) (fun r => some r) (fun s4 => some true))
def m_w_eqAutomaton (p0a : Int × (List Bool) × (List (List Int))) (p1b : Int × (List Bool) × (List (List Int))) : Option Bool :=
  if p0a.1 != p1b.1 then (some false) else ((m_w_eqBoolS p0a.2.1 p1b.2.1).bind fun r1 => if r1 then ((m_w_eqIntSS p0a.2.2 p1b.2.2).bind fun r2 => if r2 then (some true) else (some false)) else (some false))
def m_s_l11Reach_l2 (p0a : Int × (List Bool) × (List (List Int))) (s71 : (List Bool) × Int) (s77 : (List Bool) × Int) : Option (Out (List Bool) ((List Bool) × Int)) :=
  if decide (s77.2 < 9) then (Option.bind (((getI s77.1 s71.2).bind fun x321 => if x321 then ((getI p0a.2.2 s71.2).bind fun x322 => (getI x322 s77.2).bind fun x323 => if decide (x323 ≥ 0) then ((getI p0a.2.2 s71.2).bind fun x324 => (getI x324 s77.2).bind fun x325 => (getI s77.1 x325).bind fun x326 => some (s77.1.set x325.toNat true)) else (some s77.1)) else (some s77.1) : Option (List Bool))) (fun s79 => some (.nxt (s79, IntKind.i64.wrap (s77.2 + 1))))) else (some (.brk (s77.1, s77.2)))
def m_s_l11Reach_l1 (p0a : Int × (List Bool) × (List (List Int))) (s71 : (List Bool) × Int) : Option (Out (List Bool) ((List Bool) × Int)) :=
  if decide (s71.2 < (p0a.2.1.length : Int)) then (bindL (loopM (m_s_l11Reach_l2 p0a s71) FUEL (s71.1, 0)) (fun r => some (.ret r)) (fun s78 => some (.nxt (s78.1, IntKind.i64.wrap (s71.2 + 1))))) else (some (.brk (s71.1, s71.2)))
def m_s_l11Reach_l0 (p0a : Int × (List Bool) × (List (List Int))) (s53 : (List Bool) × Int) : Option (Out (List Bool) ((List Bool) × Int)) :=
  if decide (s53.2 < (p0a.2.1.length : Int)) then (bindL (loopM (m_s_l11Reach_l1 p0a) FUEL (s53.1, 0)) (fun r => some (.ret r)) (fun s72 => some (.nxt (s72.1, IntKind.i64.wrap (s53.2 + 1))))) else (some (.brk (s53.1, s53.2)))
def m_s_l11Reach (p0a : Int × (List Bool) × (List (List Int))) : Option (List Bool) :=
  (mkI 1 (p0a.2.1.length : Int) (false : Bool)).bind fun x1 => (getI x1 p0a.1).bind fun x2 => bindL (loopM (m_s_l11Reach_l0 p0a) FUEL (x1.set p0a.1.toNat true, 0)) (fun r => some r) (fun s54 => some s54.1)
def m_s_UsefulStates_l0 (p0a : Int × (List Bool) × (List (List Int))) (r2 : List Bool) (r3 : List Bool) (s5 : (List Int) × Int) : Option (Out (List Int) ((List Int) × Int)) :=
  if decide (s5.2 < (p0a.2.1.length : Int)) then (Option.bind (((getI r2 s5.2).bind fun x11 => if x11 then ((getI r3 s5.2).bind fun x12 => if x12 then ((appI 8 s5.1 ([s5.2])).bind fun z6 => some z6) else (some s5.1)) else (some s5.1) : Option (List Int))) (fun s7 => some (.nxt (s7, IntKind.i64.wrap (s5.2 + 1))))) else (some (.brk (s5.1, s5.2)))
def m_s_UsefulStates (p0a : Int × (List Bool) × (List (List Int))) : Option (List Int) :=
  (m_s_IsValidAutomaton (p0a.1, p0a.2.1, p0a.2.2)).bind fun r1 => if r1 then ((m_s_l11Reach (p0a.1, p0a.2.1, p0a.2.2)).bind fun r2 => (m_s_l11Live (p0a.1, p0a.2.1, p0a.2.2)).bind fun r3 => bindL (loopM (m_s_UsefulStates_l0 p0a r2 r3) FUEL (([] : List Int), 0)) (fun r => some r) (fun s6 => some s6.1)) else (some ([] : List Int))
def m_s_IsFiniteLanguage_l0 (p0a : Int × (List Bool) × (List (List Int))) (r2 : List Int) (s3 : Int) : Option (Out Bool Int) :=
  if decide (s3 < (r2.length : Int)) then ((getI r2 s3).bind fun x7 => (m_s_l13Onward (p0a.1, p0a.2.1, p0a.2.2) x7).bind fun r5 => (getI r2 s3).bind fun x8 => (getI r5 x8).bind fun x9 => if x9 then (some (.ret false)) else (some (.nxt (IntKind.i64.wrap (s3 + 1))))) else (some (.brk s3))
def m_s_IsFiniteLanguage (p0a : Int × (List Bool) × (List (List Int))) : Option Bool :=
  (m_s_IsValidAutomaton (p0a.1, p0a.2.1, p0a.2.2)).bind fun r1 => if r1 then ((m_s_UsefulStates (p0a.1, p0a.2.1, p0a.2.2)).bind fun r2 => bindL (loopM (m_s_IsFiniteLanguage_l0 p0a r2) FUEL 0) (fun r => some r) (fun s4 => some true)) else (some false)
def m_s_TractabilityClass (p0a : Int × (List Bool) × (List (List Int))) : Option Int :=
  (m_s_IsValidAutomaton (p0a.1, p0a.2.1, p0a.2.2)).bind fun r1 => if r1 then ((m_s_IsFiniteLanguage (p0a.1, p0a.2.1, p0a.2.2)).bind fun r2 => if r2 then (some 1) else ((m_s_HardPair (p0a.1, p0a.2.1, p0a.2.2)).bind fun r3 => if r3.2.2 then (some 3) else (some 2))) else (some 0)
def m_i_UsefulStates_l0 (r2 : List Bool) (r3 : List Bool) (s5 : (List Int) × Int) : Option (Out (List Int) ((List Int) × Int)) :=
  if decide (s5.2 < (r2.length : Int)) then (Option.bind (((getI r2 s5.2).bind fun x11 => if x11 then ((getI r3 s5.2).bind fun x12 => if x12 then ((appI 8 s5.1 ([s5.2])).bind fun z6 => some z6) else (some s5.1)) else (some s5.1) : Option (List Int))) (fun s7 => some (.nxt (s7, IntKind.i64.wrap (s5.2 + 1))))) else (some (.brk (s5.1, s5.2)))
def m_i_UsefulStates (p0a : Int × (List Bool) × (List (List Int))) : Option (List Int) :=
  (m_i_IsValidAutomaton (p0a.1, p0a.2.1, p0a.2.2)).bind fun r1 => if r1 then ((m_i_Automaton_live (p0a.1, p0a.2.1, p0a.2.2)).bind fun r2 => (m_i_Automaton_found (p0a.1, p0a.2.1, p0a.2.2)).bind fun r3 => bindL (loopM (m_i_UsefulStates_l0 r2 r3) FUEL (([] : List Int), 0)) (fun r => some r) (fun s6 => some s6.1)) else (some ([]))
def m_g_slices_Contains_S_int_int (p0s : List Int) (p1v : Int) : Option Bool :=
  (m_g_slices_Index_S_int_int p0s p1v).bind fun r1 => some (decide (r1 ≥ 0))
def m_i_IsFiniteLanguage_1_1 (p0t : Int) (q0 : List Int) : Option Bool :=
  (m_g_slices_Contains_S_int_int q0 p0t).bind fun r1 => some r1
def m_i_IsFiniteLanguage_1 (p0s : Int) (q0 : Int × (List Bool) × (List (List Int))) (q1 : List Int) : Option Bool :=
  (getI q0.2.2 p0s).bind fun x1 => (m_g_slices_ContainsFunc_S_int_int x1 (fun a0 => m_i_IsFiniteLanguage_1_1 a0 q1)).bind fun r2 => some (!r2)
def m_g_slices_Delete_S_int_int (p0 : List Int) (p1 p2 : Int) : Option (List Int) := R.delI p0 p1 p2
def m_i_IsFiniteLanguage_l0 (p0a : Int × (List Bool) × List (List Int)) (s4 : List Int) : Option (Out Bool (List Int)) :=
  if decide ((s4.length : Int) > 0) then ((m_g_slices_IndexFunc_S_int_int s4 (fun (u5 : Int) => m_i_IsFiniteLanguage_1 u5 (p0a.1, p0a.2.1, p0a.2.2) s4)).bind fun r6 => if decide (r6 < 0) then (some (.ret false)) else ((m_g_slices_Delete_S_int_int s4 r6 (IntKind.i64.wrap (r6 + 1))).bind fun r7 => some (.nxt r7))) else (some (.brk s4))
def m_i_IsFiniteLanguage (p0a : Int × (List Bool) × List (List Int)) : Option Bool :=
  (m_i_IsValidAutomaton (p0a.1, p0a.2.1, p0a.2.2)).bind fun r0 => if r0 then ((m_i_UsefulStates (p0a.1, p0a.2.1, p0a.2.2)).bind fun r1 => bindL (loopM (m_i_IsFiniteLanguage_l0 p0a) FUEL r1) (fun r8 => some r8) (fun s9 => some true)) else (some false)
def m_i_TractabilityClass (p0a : Int × (List Bool) × (List (List Int))) : Option Int :=
  (m_i_HardPair (p0a.1, p0a.2.1, p0a.2.2)).bind fun r1 => (m_i_IsValidAutomaton (p0a.1, p0a.2.1, p0a.2.2)).bind fun r2 => if r2 then ((m_i_IsFiniteLanguage (p0a.1, p0a.2.1, p0a.2.2)).bind fun r3 => if r3 then (some 1) else (if r1.2.2 then (some 3) else (some 2))) else (some 0)
def m_w_FnExactTractabilityClass (p0aA : Int × (List Bool) × (List (List Int))) : Option Bool :=
  (m_w_szAutomaton (p0aA.1, p0aA.2.1, p0aA.2.2) 1048576).bind fun r1 => if decide (r1 < 0) then (some true) else ((m_w_toAutomaton (p0aA.1, p0aA.2.1, p0aA.2.2)).bind fun r2 => (m_s_TractabilityClass (r2.1, r2.2.1, r2.2.2)).bind fun r3 => (m_w_toAutomaton (p0aA.1, p0aA.2.1, p0aA.2.2)).bind fun r4 => (m_i_TractabilityClass (r4.1, r4.2.1, r4.2.2)).bind fun r5 => if r5 != r3 then (some false) else ((m_w_toAutomaton (p0aA.1, p0aA.2.1, p0aA.2.2)).bind fun r6 => (m_w_eqAutomaton (r4.1, r4.2.1, r4.2.2) (r6.1, r6.2.1, r6.2.2)).bind fun r7 => if r7 then (some true) else (some false)))
end Go.Proofs.YtcmpdlhbliolaaaGreat.D
/- Printed by lp.py: what is known of the types and of the functions. -/
set_option linter.unusedVariables false
set_option maxRecDepth 1000000
namespace Go.Proofs.YtcmpdlhbliolaaaGreat.R
open Go.RowKit
open Go.Proofs.YtcmpdlhbliolaaaGreat.D
abbrev y3 : Ty := .int .i64
abbrev y154 : Ty := .prod y3 y3
abbrev y4 : Ty := .bool
abbrev y212 : Ty := .prod y3 (.prod y3 (.prod y4 (.prod y3 y3)))
abbrev y213 : Ty := .sl 212 y212
abbrev y22 : Ty := .sl 4 y4
abbrev y223 : Ty := .sl 154 y154
abbrev y39 : Ty := .sl 3 y3
abbrev y226 : Ty := .prod y154 y39
abbrev y227 : Ty := .sl 226 y226
abbrev y23 : Ty := .sl 39 y39
abbrev y25 : Ty := .prod y3 (.prod y22 y23)
abbrev y283 : Ty := .int .u64
abbrev y29 : Ty := .prod y3 (.prod y22 y23)
abbrev y319 : Ty := .int .u32
abbrev y322 : Ty := .int .u64
theorem laidOut : laidOutB Tryz.prog = true := by kernel_rfl
theorem kii154 : KII Tryz.prog 154 := ⟨_, _, Tryz.underlying154, by decide, rfl, rfl, Tryz.underlying3, Tryz.underlying3, by kernel_rfl, by kernel_rfl, by kernel_rfl, by kernel_rfl, Tryz.prog.types.size - 1, by kernel_rfl⟩
theorem mz3 (w : World) : (zeroValue 3).run Tryz.prog w = .ok (.int .i64 0) w := by kernel_rfl
theorem mz4 (w : World) : (zeroValue 4).run Tryz.prog w = .ok (.bool false) w := by kernel_rfl
theorem kk154 : KeyOk Tryz.prog 154 (fun x : Int × Int => Value.agg #[.int .i64 x.1, .int .i64 x.2]) iiLit iiOk := kk_ii kii154 (Go.deep_law_laid laidOut (m := 2) (by omega) (of_decide_eq_true (by kernel_rfl)) (by kernel_rfl) (by rw [Tryz.underlying154]))
theorem kk3 : KeyOk Tryz.prog 3 (fun n : Int => Value.int .i64 n) iLit iOk := kk_int Tryz.underlying3
theorem ek3 : EltOk Tryz.prog 3 (fun n : Int => Value.int .i64 n) iLit iOk 0 := ek_int Tryz.underlying3 mz3
theorem ek4 : EltOk Tryz.prog 4 (fun n : Bool => Value.bool n) bLit bOk false := ek_bool Tryz.underlying4 mz4
def tt : TT := [(3, ⟨false, 1, none, y3, [], some 8, none, false, none, none, some (some .i64), false, none⟩),
  (4, ⟨false, 1, none, y4, [], some 1, none, true, none, none, none, false, none⟩),
  (22, ⟨false, 1, some 4, y22, [], some 24, none, false, none, none, none, false, none⟩),
  (23, ⟨false, 1, some 39, y23, [], some 24, none, false, none, none, none, false, none⟩),
  (25, ⟨true, 3, none, y25, [(0, 0), (1, 0), (2, 0)], some 56, some [(0, 1), (1, 1), (2, 1)], false, none, none, none, false, none⟩),
  (29, ⟨true, 3, none, y29, [(0, 0), (1, 0), (2, 0)], some 56, some [(0, 1), (1, 1), (2, 1)], false, none, none, none, false, none⟩),
  (39, ⟨false, 1, some 3, y39, [], some 24, none, false, none, none, none, false, none⟩),
  (94, ⟨false, 1, none, .bool, [], none, none, false, none, none, none, true, none⟩),
  (144, ⟨false, 1, none, .bool, [], none, none, false, none, none, none, true, none⟩),
  (147, ⟨false, 1, none, .bool, [], none, none, false, none, none, none, true, none⟩),
  (154, ⟨true, 2, none, y154, [(0, 0), (1, 0)], some 16, some [(0, 1), (1, 1)], false, none, none, none, false, none⟩),
  (155, ⟨false, 1, none, .bool, [], none, none, false, none, none, none, true, none⟩),
  (157, ⟨false, 1, none, .bool, [], none, none, false, none, none, none, true, none⟩),
  (212, ⟨true, 5, none, y212, [(0, 0), (1, 0), (2, 0), (3, 0), (4, 0)], some 40, some [(0, 1), (1, 1), (2, 1), (3, 1), (4, 1)], false, none, none, none, false, none⟩),
  (213, ⟨false, 1, some 212, y213, [], some 24, none, false, none, none, none, false, none⟩),
  (220, ⟨false, 1, none, .bool, [], none, none, false, none, some ⟨3, 3, .int, .int⟩, none, false, none⟩),
  (222, ⟨false, 1, none, .bool, [], none, none, false, none, some ⟨154, 4, .ii, .bool⟩, none, false, none⟩),
  (223, ⟨false, 1, some 154, y223, [], some 24, none, false, none, none, none, false, none⟩),
  (226, ⟨true, 3, none, y226, [(0, 1), (2, 0)], some 40, some [(0, 2), (2, 1)], false, none, none, none, false, none⟩),
  (227, ⟨false, 1, some 226, y227, [], some 24, none, false, none, none, none, false, none⟩),
  (243, ⟨false, 1, none, .bool, [], none, none, false, none, none, none, true, none⟩),
  (283, ⟨false, 1, none, y283, [], some 8, none, false, none, none, some (some .u64), false, none⟩),
  (319, ⟨false, 1, none, y319, [], some 4, none, false, none, none, some (some .u32), false, none⟩),
  (322, ⟨false, 1, none, y322, [], some 8, none, false, none, none, some (some .u64), false, none⟩)]
theorem tt_ok : TTok Tryz.prog tt := ⟨td_flat (n := 1) (z := .int .i64 0) ⟨⟨_, Tryz.underlying3, rfl⟩, by kernel_rfl⟩ rfl (by unfold TZ; kernel_rfl) rfl (Nat.le_of_ble_eq_true rfl) (fun h => by cases h) (fun k h => by obtain rfl := Option.some.inj h; exact Tryz.underlying3),
  td_flat (n := 1) (z := .bool false) ⟨⟨_, Tryz.underlying4, rfl⟩, by kernel_rfl⟩ rfl (by unfold TZ; kernel_rfl) rfl (Nat.le_of_ble_eq_true rfl) (fun h => Tryz.underlying4) (fun k h => by cases h),
  td_sl ⟨⟨_, Tryz.underlying22, rfl⟩, by kernel_rfl⟩ Tryz.underlying22 (by unfold TZ; kernel_rfl),
  td_sl ⟨⟨_, Tryz.underlying23, rfl⟩, by kernel_rfl⟩ Tryz.underlying23 (by unfold TZ; kernel_rfl),
  td_st (z := .agg #[.int .i64 0, .slice none 0 0, .slice none 0 0]) ⟨⟨_, Tryz.underlying25, rfl⟩, by kernel_rfl⟩ rfl ⟨⟨_, _, Tryz.underlying25, rfl, rfl, by kernel_rfl⟩, ⟨_, _, Tryz.underlying25, rfl, rfl, by kernel_rfl⟩, ⟨_, _, Tryz.underlying25, rfl, rfl, by kernel_rfl⟩, trivial⟩ (by unfold TZ; kernel_rfl) rfl (Nat.le_of_ble_eq_true rfl) ⟨_, Tryz.underlying25, by kernel_rfl⟩ (fun ks h => by cases h),
  td_st (z := .agg #[.int .i64 0, .slice none 0 0, .slice none 0 0]) ⟨⟨_, Tryz.underlying29, rfl⟩, by kernel_rfl⟩ rfl ⟨⟨_, _, Tryz.underlying29, rfl, rfl, by kernel_rfl⟩, ⟨_, _, Tryz.underlying29, rfl, rfl, by kernel_rfl⟩, ⟨_, _, Tryz.underlying29, rfl, rfl, by kernel_rfl⟩, trivial⟩ (by unfold TZ; kernel_rfl) rfl (Nat.le_of_ble_eq_true rfl) ⟨_, Tryz.underlying29, by kernel_rfl⟩ (fun ks h => by cases h),
  td_sl ⟨⟨_, Tryz.underlying39, rfl⟩, by kernel_rfl⟩ Tryz.underlying39 (by unfold TZ; kernel_rfl),
  td_fn (ty := .bool) (b := 8) ⟨⟨_, Tryz.underlying94, rfl⟩, by kernel_rfl⟩ rfl (by unfold TZ; kernel_rfl),
  td_fn (ty := .bool) (b := 8) ⟨⟨_, Tryz.underlying144, rfl⟩, by kernel_rfl⟩ rfl (by unfold TZ; kernel_rfl),
  td_fn (ty := .bool) (b := 8) ⟨⟨_, Tryz.underlying147, rfl⟩, by kernel_rfl⟩ rfl (by unfold TZ; kernel_rfl),
  td_st (z := .agg #[.int .i64 0, .int .i64 0]) ⟨⟨_, Tryz.underlying154, rfl⟩, by kernel_rfl⟩ rfl ⟨⟨_, _, Tryz.underlying154, rfl, rfl, by kernel_rfl⟩, ⟨_, _, Tryz.underlying154, rfl, rfl, by kernel_rfl⟩, trivial⟩ (by unfold TZ; kernel_rfl) rfl (Nat.le_of_ble_eq_true rfl) ⟨_, Tryz.underlying154, by kernel_rfl⟩ (fun ks h => by cases h),
  td_fn (ty := .bool) (b := 8) ⟨⟨_, Tryz.underlying155, rfl⟩, by kernel_rfl⟩ rfl (by unfold TZ; kernel_rfl),
  td_fn (ty := .bool) (b := 8) ⟨⟨_, Tryz.underlying157, rfl⟩, by kernel_rfl⟩ rfl (by unfold TZ; kernel_rfl),
  td_st (z := .agg #[.int .i64 0, .int .i64 0, .bool false, .int .i64 0, .int .i64 0]) ⟨⟨_, Tryz.underlying212, rfl⟩, by kernel_rfl⟩ rfl ⟨⟨_, _, Tryz.underlying212, rfl, rfl, by kernel_rfl⟩, ⟨_, _, Tryz.underlying212, rfl, rfl, by kernel_rfl⟩, ⟨_, _, Tryz.underlying212, rfl, rfl, by kernel_rfl⟩, ⟨_, _, Tryz.underlying212, rfl, rfl, by kernel_rfl⟩, ⟨_, _, Tryz.underlying212, rfl, rfl, by kernel_rfl⟩, trivial⟩ (by unfold TZ; kernel_rfl) rfl (Nat.le_of_ble_eq_true rfl) ⟨_, Tryz.underlying212, by kernel_rfl⟩ (fun ks h => by cases h),
  td_sl ⟨⟨_, Tryz.underlying213, rfl⟩, by kernel_rfl⟩ Tryz.underlying213 (by unfold TZ; kernel_rfl),
  td_mp (m := ⟨3, 3, .int, .int⟩) (ty := .bool) ⟨⟨_, Tryz.underlying220, rfl⟩, by kernel_rfl⟩ rfl ⟨Tryz.underlying220, kk3, ek3⟩,
  td_mp (m := ⟨154, 4, .ii, .bool⟩) (ty := .bool) ⟨⟨_, Tryz.underlying222, rfl⟩, by kernel_rfl⟩ rfl ⟨Tryz.underlying222, kk154, ek4⟩,
  td_sl ⟨⟨_, Tryz.underlying223, rfl⟩, by kernel_rfl⟩ Tryz.underlying223 (by unfold TZ; kernel_rfl),
  td_st (z := .agg #[.int .i64 0, .int .i64 0, .slice none 0 0]) ⟨⟨_, Tryz.underlying226, rfl⟩, by kernel_rfl⟩ rfl ⟨⟨_, _, Tryz.underlying226, rfl, rfl, by kernel_rfl⟩, ⟨_, _, Tryz.underlying226, rfl, rfl, by kernel_rfl⟩, trivial⟩ (by unfold TZ; kernel_rfl) rfl (Nat.le_of_ble_eq_true rfl) ⟨_, Tryz.underlying226, by kernel_rfl⟩ (fun ks h => by cases h),
  td_sl ⟨⟨_, Tryz.underlying227, rfl⟩, by kernel_rfl⟩ Tryz.underlying227 (by unfold TZ; kernel_rfl),
  td_fn (ty := .bool) (b := 8) ⟨⟨_, Tryz.underlying243, rfl⟩, by kernel_rfl⟩ rfl (by unfold TZ; kernel_rfl),
  td_flat (n := 1) (z := .int .u64 0) ⟨⟨_, Tryz.underlying283, rfl⟩, by kernel_rfl⟩ rfl (by unfold TZ; kernel_rfl) rfl (Nat.le_of_ble_eq_true rfl) (fun h => by cases h) (fun k h => by obtain rfl := Option.some.inj h; exact Tryz.underlying283),
  td_flat (n := 1) (z := .int .u32 0) ⟨⟨_, Tryz.underlying319, rfl⟩, by kernel_rfl⟩ rfl (by unfold TZ; kernel_rfl) rfl (Nat.le_of_ble_eq_true rfl) (fun h => by cases h) (fun k h => by obtain rfl := Option.some.inj h; exact Tryz.underlying319),
  td_flat (n := 1) (z := .int .u64 0) ⟨⟨_, Tryz.underlying322, rfl⟩, by kernel_rfl⟩ rfl (by unfold TZ; kernel_rfl) rfl (Nat.le_of_ble_eq_true rfl) (fun h => by cases h) (fun k h => by obtain rfl := Option.some.inj h; exact Tryz.underlying322), trivial⟩
theorem mixed : Tryz.prog.follows .mixedOrders = true := by kernel_rfl
def F_w_szBoolS : FS := ⟨[.rd y22, .rd y3], [y3], m_w_szBoolS, none⟩
def F_w_szIntS : FS := ⟨[.rd y39, .rd y3], [y3], m_w_szIntS, none⟩
def F_w_szIntSS : FS := ⟨[.rd y23, .rd y3], [y3], m_w_szIntSS, none⟩
def F_w_szAutomaton : FS := ⟨[.rd y25, .rd y3], [y3], m_w_szAutomaton, none⟩
def F_s_l1In : FS := ⟨[.rd y3, .rd y3, .rd y3], [y4], m_s_l1In, none⟩
def F_s_l11Fits : FS := ⟨[.rd y29], [y4], m_s_l11Fits, none⟩
def F_s_IsValidAutomaton : FS := ⟨[.rd y29], [y4], m_s_IsValidAutomaton, none⟩
def F_s_l11Find : FS := ⟨[.rd y39, .rd y3], [y3], m_s_l11Find, none⟩
def F_s_l11Nothing : FS := ⟨[], [y29], m_s_l11Nothing, none⟩
def F_s_l11Number : FS := ⟨[.rd y29, .rd y39, .rd y22], [y29], m_s_l11Number, none⟩
def F_s_l11Live : FS := ⟨[.rd y29], [y22], m_s_l11Live, none⟩
def F_s_l12Key : FS := ⟨[.rd y29, .rd y39, .rd y3], [y39], m_s_l12Key, none⟩
def F_s_l2Cmp : FS := ⟨[.rd y39, .rd y39], [y3], m_s_l2Cmp, none⟩
def F_s_l12Classes : FS := ⟨[.rd y29], [y39], m_s_l12Classes, none⟩
def F_s_l12Minimize : FS := ⟨[.rd y29], [y29], m_s_l12Minimize, none⟩
def F_s_Minimize : FS := ⟨[.rd y29], [y29], m_s_Minimize, none⟩
def F_s_l22State : FS := ⟨[.rd y29, .rd y3], [y4], m_s_l22State, none⟩
def F_s_l13Onward : FS := ⟨[.rd y29, .rd y3], [y22], m_s_l13Onward, none⟩
def F_s_HasLoop : FS := ⟨[.rd y29, .rd y3], [y4], m_s_HasLoop, none⟩
def F_s_StateReaches : FS := ⟨[.rd y29, .rd y3, .rd y3], [y4], m_s_StateReaches, none⟩
def F_s_l4Set : FS := ⟨[.rd y3], [y39], m_s_l4Set, none⟩
def F_s_l12Next : FS := ⟨[.rd y29, .rd y3, .rd y3], [y3], m_s_l12Next, none⟩
def F_s_l10Has : FS := ⟨[.rd y213, .rd y212], [y4], m_s_l10Has, none⟩
def F_s_l22Images : FS := ⟨[.rd y29, .rd y3, .rd y3], [y39], m_s_l22Images, none⟩
def F_s_l22Pumped : FS := ⟨[.rd y29, .rd y3, .rd y3, .rd y3], [y39], m_s_l22Pumped, none⟩
def F_s_l12Accept : FS := ⟨[.rd y29, .rd y3], [y4], m_s_l12Accept, none⟩
def F_s_l10Word : FS := ⟨[.rd y213, .rd y3], [y39], m_s_l10Word, none⟩
def F_s_l12Differ : FS := ⟨[.rd y29, .rd y3, .rd y29, .rd y3, .rd y4], [y39, y4], m_s_l12Differ, none⟩
def F_s_l22Bad : FS := ⟨[.rd y29, .rd y3, .rd y3], [y4], m_s_l22Bad, none⟩
def F_s_HardPair : FS := ⟨[.rd y29], [y3, y3, y4], m_s_HardPair, none⟩
def F_w_toBoolS : FS := ⟨[.rd y22], [y22], m_w_toBoolS, none⟩
def F_w_toIntS : FS := ⟨[.rd y39], [y39], m_w_toIntS, none⟩
def F_w_toIntSS : FS := ⟨[.rd y23], [y23], m_w_toIntSS, none⟩
def F_w_toAutomaton : FS := ⟨[.rd y25], [y29], m_w_toAutomaton, none⟩
def F_i_within : FS := ⟨[.rd y3, .rd y3, .rd y3], [y4], m_i_within, none⟩
def F_i_IsValidAutomaton : FS := ⟨[.rd y29], [y4], m_i_IsValidAutomaton, none⟩
def F_g_slices_Clone_S_bool_bool : FS := ⟨[.rd y22], [y22], fun _ => none, some (4, 1)⟩
def F_i_Automaton_live : FS := ⟨[.rd y29], [y22], m_i_Automaton_live, none⟩
def F_g_slices_IndexFunc_S_S_int_S_int : FS := ⟨[.rd y23, .fn [y39] [y4]], [y3], m_g_slices_IndexFunc_S_S_int_S_int, none⟩
def F_g_slices_Equal_S_int_int : FS := ⟨[.rd y39, .rd y39], [y4], m_g_slices_Equal_S_int_int, none⟩
def F_i_Automaton_refine_1 : FS := ⟨[.rd y39, .cap 39 y39], [y4], m_i_Automaton_refine_1, none⟩
def F_i_Automaton_refine : FS := ⟨[.rd y29, .rd y39], [y39, y3], m_i_Automaton_refine, none⟩
def F_i_Automaton_classes : FS := ⟨[.rd y29], [y39], m_i_Automaton_classes, none⟩
def F_g_math_bits_Mul32 : FS := ⟨[.rd y319, .rd y319], [y319, y319], m_g_math_bits_Mul32, none⟩
def F_g_math_bits_Mul64 : FS := ⟨[.rd y322, .rd y322], [y322, y322], m_g_math_bits_Mul64, none⟩
def F_g_math_bits_Mul : FS := ⟨[.rd y283, .rd y283], [y283, y283], m_g_math_bits_Mul, none⟩
def F_g_slices_Repeat_S_int_int : FS := ⟨[.rd y39, .rd y3], [y39], m_g_slices_Repeat_S_int_int, none⟩
def F_i_nothing : FS := ⟨[], [y29], m_i_nothing, none⟩
def F_g_slices_Index_S_int_int : FS := ⟨[.rd y39, .rd y3], [y3], m_g_slices_Index_S_int_int, none⟩
def F_i_Automaton_minimize_1 : FS := ⟨[.rd y3, .cap 39 y39], [y3], m_i_Automaton_minimize_1, none⟩
def F_i_numbered_int : FS := ⟨[.rd y3, .rd y3, .fn [y3] [y4], .fn [y3, y3] [y3, y4]], [y29, y4], m_i_numbered_int, none⟩
def F_i_Automaton_minimize_2 : FS := ⟨[.rd y3, .cap 29 y29, .capf 144 [y3] [y3]], [y4], m_i_Automaton_minimize_2, none⟩
def F_i_isLetter : FS := ⟨[.rd y3], [y4], m_i_isLetter, none⟩
def F_i_Automaton_move : FS := ⟨[.rd y29, .rd y3, .rd y3], [y3], m_i_Automaton_move, none⟩
def F_i_Automaton_minimize_3 : FS := ⟨[.rd y3, .rd y3, .cap 29 y29, .capf 144 [y3] [y3], .cap 39 y39], [y3, y4], m_i_Automaton_minimize_3, none⟩
def F_i_Automaton_minimize : FS := ⟨[.rd y29], [y29], m_i_Automaton_minimize, none⟩
def F_g_slices_IndexFunc_S_int_int : FS := ⟨[.rd y39, .fn [y3] [y4]], [y3], m_g_slices_IndexFunc_S_int_int, none⟩
def F_g_slices_ContainsFunc_S_int_int : FS := ⟨[.rd y39, .fn [y3] [y4]], [y4], m_g_slices_ContainsFunc_S_int_int, none⟩
def F_i_statesOk : FS := ⟨[.rd y29, .rd y39], [y4], m_i_statesOk, none⟩
def F_i_Automaton_found : FS := ⟨[.rd y29], [y22], m_i_Automaton_found, none⟩
def F_i_StateReaches : FS := ⟨[.rd y29, .rd y3, .rd y3], [y4], m_i_StateReaches, none⟩
def F_i_HasLoop_1 : FS := ⟨[.rd y3, .cap 29 y29, .cap 3 y3], [y4], m_i_HasLoop_1, none⟩
def F_i_HasLoop : FS := ⟨[.rd y29, .rd y3], [y4], m_i_HasLoop, none⟩
def F_i_copyInts : FS := ⟨[.rd y39], [y39], m_i_copyInts, none⟩
def F_g_slices_Sort_S_int_int : FS := ⟨[.ow (.sl 3 y3)], [], m_g_slices_Sort_S_int_int, none⟩
def F_g_slices_Compact_S_int_int : FS := ⟨[.eat (.sl 3 y3)], [.sl 3 y3], m_g_slices_Compact_S_int_int, none⟩
def F_i_ascending : FS := ⟨[.rd y39], [y39], m_i_ascending, none⟩
def F_i_together_1 : FS := ⟨[.rd y154, .rd y3, .cap 29 y29, .cap 29 y29], [y154], m_i_together_1, none⟩
def F_i_together : FS := ⟨[.rd y29, .rd y29], [], fun _ _ => none, some (29, 1205)⟩
def F_i_images : FS := ⟨[.rd y29, .rd y3, .rd y3], [y39], m_i_images, none⟩
def F_i_PumpedStates : FS := ⟨[.rd y29, .rd y3, .rd y3, .rd y3], [y39], m_i_PumpedStates, none⟩
def F_i_leastWord_states : FS := ⟨[.rd y154, .fn [y154, y3] [y154], .fn [y154] [y4]], [y39, y4], m_i_leastWord_states, none⟩
def F_i_Automaton_accepts : FS := ⟨[.rd y29, .rd y3], [y4], m_i_Automaton_accepts, none⟩
def F_i_misses_1 : FS := ⟨[.rd y154, .cap 29 y29], [y4], m_i_misses_1, none⟩
def F_i_misses : FS := ⟨[.rd y29, .rd y3, .rd y3], [y4], m_i_misses, none⟩
def F_i_HardPair_1 : FS := ⟨[.rd y3, .cap 29 y29, .cap 3 y3], [y4], m_i_HardPair_1, none⟩
def F_i_HardPair : FS := ⟨[.rd y29], [y3, y3, y4], m_i_HardPair, none⟩
def F_w_eqBoolS : FS := ⟨[.rd y22, .rd y22], [y4], m_w_eqBoolS, none⟩
def F_w_eqIntS : FS := ⟨[.rd y39, .rd y39], [y4], m_w_eqIntS, none⟩
def F_w_eqIntSS : FS := ⟨[.rd y23, .rd y23], [y4], m_w_eqIntSS, none⟩
def F_w_eqAutomaton : FS := ⟨[.rd y29, .rd y29], [y4], m_w_eqAutomaton, none⟩
def F_s_l11Reach : FS := ⟨[.rd y29], [y22], m_s_l11Reach, none⟩
def F_s_UsefulStates : FS := ⟨[.rd y29], [y39], m_s_UsefulStates, none⟩
def F_s_IsFiniteLanguage : FS := ⟨[.rd y29], [y4], m_s_IsFiniteLanguage, none⟩
def F_s_TractabilityClass : FS := ⟨[.rd y29], [y3], m_s_TractabilityClass, none⟩
def F_i_UsefulStates : FS := ⟨[.rd y29], [y39], m_i_UsefulStates, none⟩
def F_g_slices_Contains_S_int_int : FS := ⟨[.rd y39, .rd y3], [y4], m_g_slices_Contains_S_int_int, none⟩
def F_i_IsFiniteLanguage_1_1 : FS := ⟨[.rd y3, .cap 39 y39], [y4], m_i_IsFiniteLanguage_1_1, none⟩
def F_i_IsFiniteLanguage_1 : FS := ⟨[.rd y3, .cap 29 y29, .cap 39 y39], [y4], m_i_IsFiniteLanguage_1, none⟩
def F_g_slices_Delete_S_int_int : FS := ⟨[.eat (.sl 3 y3), .rd y3, .rd y3], [.sl 3 y3], m_g_slices_Delete_S_int_int, none⟩
def F_i_IsFiniteLanguage : FS := ⟨[.rd y29], [y4], m_i_IsFiniteLanguage, none⟩
def F_i_TractabilityClass : FS := ⟨[.rd y29], [y3], m_i_TractabilityClass, none⟩
def F_w_FnExactTractabilityClass : FS := ⟨[.rd y25], [y4], m_w_FnExactTractabilityClass, none⟩
end Go.Proofs.YtcmpdlhbliolaaaGreat.R
/- Printed by lp.py: each function computes what its model says; the code is run, and the two are compared. -/
set_option linter.unusedVariables false
set_option maxRecDepth 1000000
namespace Go.Proofs.YtcmpdlhbliolaaaGreat.R
open Go.RowKit
open Go.Proofs.YtcmpdlhbliolaaaGreat.D
theorem k_w_szBoolS : FOk Tryz.prog 40 F_w_szBoolS := fok (V := ⟨tt, [], [], 12, []⟩) tt_ok trivial mixed Tryz.func40 rfl rfl (enters_of Tryz.func40 (by kernel_rfl) rfl) rfl (Nat.le_of_ble_eq_true rfl) rfl .no (fun d => by kernel_rfl)
theorem k_w_szIntS : FOk Tryz.prog 84 F_w_szIntS := fok (V := ⟨tt, [], [], 12, []⟩) tt_ok trivial mixed Tryz.func84 rfl rfl (enters_of Tryz.func84 (by kernel_rfl) rfl) rfl (Nat.le_of_ble_eq_true rfl) rfl .no (fun d => by kernel_rfl)
theorem k_w_szIntSS : FOk Tryz.prog 41 F_w_szIntSS := fok (V := ⟨tt, [(84, F_w_szIntS)], [], 27, []⟩) tt_ok ⟨k_w_szIntS, trivial⟩ mixed Tryz.func41 rfl rfl (enters_of Tryz.func41 (by kernel_rfl) rfl) rfl (Nat.le_of_ble_eq_true rfl) rfl (.two .no (.two .no (.two .no (.two (.two .no (.loop [.slot 1 (.num .i64), .slot 5 (.num .i64)] .no)) .no)))) (fun d => by kernel_rfl)
theorem k_w_szAutomaton : FOk Tryz.prog 8 F_w_szAutomaton := fok (V := ⟨tt, [(40, F_w_szBoolS), (41, F_w_szIntSS)], [], 18, []⟩) tt_ok ⟨k_w_szBoolS, k_w_szIntSS, trivial⟩ mixed Tryz.func8 rfl rfl (enters_of Tryz.func8 (by kernel_rfl) rfl) rfl (Nat.le_of_ble_eq_true rfl) rfl .no (fun d => by kernel_rfl)
theorem k_s_l1In : FOk Tryz.prog 75 F_s_l1In := fok (V := ⟨tt, [], [], 15, []⟩) tt_ok trivial mixed Tryz.func75 rfl rfl (enters_of Tryz.func75 (by kernel_rfl) rfl) rfl (Nat.le_of_ble_eq_true rfl) rfl .no (fun d => by kernel_rfl)
theorem k_s_l11Fits : FOk Tryz.prog 127 F_s_l11Fits := fok (V := ⟨tt, [(75, F_s_l1In)], [], 50, []⟩) tt_ok ⟨k_s_l1In, trivial⟩ mixed Tryz.func127 rfl rfl (enters_of Tryz.func127 (by kernel_rfl) rfl) rfl (Nat.le_of_ble_eq_true rfl) rfl (.two .no (.two .no (.two .no (.two (.two .no (.loop [.slot 4 (.num .i64)] (.two .no (.two (.two .no (.two .no (.loop [.slot 5 (.num .i64)] .no))) .no)))) .no)))) (fun d => by kernel_rfl)
theorem k_s_IsValidAutomaton : FOk Tryz.prog 58 F_s_IsValidAutomaton := fok (V := ⟨tt, [(127, F_s_l11Fits)], [], 11, []⟩) tt_ok ⟨k_s_l11Fits, trivial⟩ mixed Tryz.func58 rfl rfl (enters_of Tryz.func58 (by kernel_rfl) rfl) rfl (Nat.le_of_ble_eq_true rfl) rfl .no (fun d => by kernel_rfl)
theorem k_s_l11Find : FOk Tryz.prog 218 F_s_l11Find := fok (V := ⟨tt, [], [], 19, []⟩) tt_ok trivial mixed Tryz.func218 rfl rfl (enters_of Tryz.func218 (by kernel_rfl) rfl) rfl (Nat.le_of_ble_eq_true rfl) rfl (.two .no (.two (.two .no (.loop [.slot 5 (.num .i64)] .no)) .no)) (fun d => by kernel_rfl)
theorem k_s_l11Nothing : FOk Tryz.prog 270 F_s_l11Nothing := fok (V := ⟨tt, [], [], 15, []⟩) tt_ok trivial mixed Tryz.func270 rfl rfl (enters_of Tryz.func270 (by kernel_rfl) rfl) rfl (Nat.le_of_ble_eq_true rfl) rfl (.two .no (.two .no (.two (.two .no (.loop [.slot 1 (.own 3 y3), .slot 2 (.num .i64)] .no)) .no))) (fun d => by kernel_rfl)
theorem k_s_l11Number : FOk Tryz.prog 189 F_s_l11Number := fok (V := ⟨tt, [(218, F_s_l11Find), (270, F_s_l11Nothing)], [], 107, []⟩) tt_ok ⟨k_s_l11Find, k_s_l11Nothing, trivial⟩ mixed Tryz.func189 rfl rfl (enters_of Tryz.func189 (by kernel_rfl) rfl) rfl (Nat.le_of_ble_eq_true rfl) rfl (.two .no (.two .no (.two .no (.two .no (.two .no (.two (.two .no (.loop [.slot 8 (.own 3 y3), .slot 9 (.own 3 y3), .slot 10 (.num .i64), .box 7 [(.num .i64), (.own 4 y4), (.own 39 y39)]] (.two .no (.two (.two .no (.two (.two .no (.loop [.slot 8 (.own 3 y3), .slot 9 (.own 3 y3), .slot 11 (.own 3 y3), .slot 12 (.num .i64)] (.two .no (.two (.two .no (.two .no (.join [.slot 8 (.own 3 y3), .slot 9 (.own 3 y3), .slot 14 (.num .i64)] .no .no))) .no)))) .no)) .no)))) .no)))))) (fun d => by kernel_rfl)
theorem k_s_l11Live : FOk Tryz.prog 191 F_s_l11Live := fok (V := ⟨tt, [], [], 55, []⟩) tt_ok trivial mixed Tryz.func191 rfl rfl (enters_of Tryz.func191 (by kernel_rfl) rfl) rfl (Nat.le_of_ble_eq_true rfl) rfl (.two .no (.two .no (.two (.two .no (.loop [.row 3 4 y4, .slot 4 (.num .i64)] (.two .no (.two (.two .no (.loop [.row 3 4 y4, .slot 5 (.num .i64)] (.two .no (.two (.two .no (.loop [.row 3 4 y4, .slot 6 (.num .i64)] (.two .no (.join [.row 3 4 y4] .no .no)))) .no)))) .no)))) .no))) (fun d => by kernel_rfl)
theorem k_s_l12Key : FOk Tryz.prog 271 F_s_l12Key := fok (V := ⟨tt, [], [], 40, []⟩) tt_ok trivial mixed Tryz.func271 rfl rfl (enters_of Tryz.func271 (by kernel_rfl) rfl) rfl (Nat.le_of_ble_eq_true rfl) rfl (.two .no (.two .no (.two (.two .no (.loop [.slot 7 (.own 3 y3), .slot 8 (.num .i64)] (.two .no (.join [.slot 7 (.own 3 y3)] .no .no)))) .no))) (fun d => by kernel_rfl)
theorem k_s_l2Cmp : FOk Tryz.prog 272 F_s_l2Cmp := fok (V := ⟨tt, [], [], 46, []⟩) tt_ok trivial mixed Tryz.func272 rfl rfl (enters_of Tryz.func272 (by kernel_rfl) rfl) rfl (Nat.le_of_ble_eq_true rfl) rfl (.two .no (.two (.two .no (.loop [.slot 5 (.num .i64)] .no)) .no)) (fun d => by kernel_rfl)
theorem k_s_l12Classes : FOk Tryz.prog 190 F_s_l12Classes := fok (V := ⟨tt, [(191, F_s_l11Live), (271, F_s_l12Key), (272, F_s_l2Cmp)], [], 99, []⟩) tt_ok ⟨k_s_l11Live, k_s_l12Key, k_s_l2Cmp, trivial⟩ mixed Tryz.func190 rfl rfl (enters_of Tryz.func190 (by kernel_rfl) rfl) rfl (Nat.le_of_ble_eq_true rfl) rfl (.two .no (.two .no (.two .no (.two (.two .no (.loop [.slot 4 (.own 3 y3), .slot 5 (.num .i64)] (.two .no (.two (.two .no (.two (.two .no (.at [.slot 6 (.num .i64)] .no)) (.two (.two .no (.at [.slot 6 (.num .i64)] .no)) .no))) .no)))) (.two (.two .no (.loop [.slot 4 (.own 3 y3), .slot 7 (.num .i64)] (.two .no (.two (.two .no (.two .no (.two (.two .no (.loop [.slot 8 (.own 39 y39), .slot 9 (.own 3 y3), .slot 10 (.num .i64)] (.two .no (.two (.at [.slot 8 (.own 39 y39), .slot 9 (.own 3 y3)] (.two .no (.two .no (.two .no (.two (.two .no (.loop [.slot 12 (.num .i64), .slot 13 (.num .i64)] (.two .no (.two (.at [.slot 12 (.num .i64)] .no) .no)))) (.two (.two .no (.at [.slot 8 (.own 39 y39), .slot 12 (.num .i64), .gone 11] .no)) .no)))))) .no)))) .no))) .no)))) .no))))) (fun d => by kernel_rfl)
theorem k_s_l12Minimize : FOk Tryz.prog 104 F_s_l12Minimize := fok (V := ⟨tt, [(189, F_s_l11Number), (190, F_s_l12Classes), (191, F_s_l11Live)], [], 9, []⟩) tt_ok ⟨k_s_l11Number, k_s_l12Classes, k_s_l11Live, trivial⟩ mixed Tryz.func104 rfl rfl (enters_of Tryz.func104 (by kernel_rfl) rfl) rfl (Nat.le_of_ble_eq_true rfl) rfl .no (fun d => by kernel_rfl)
theorem k_s_Minimize : FOk Tryz.prog 42 F_s_Minimize := fok (V := ⟨tt, [(58, F_s_IsValidAutomaton), (104, F_s_l12Minimize)], [], 9, []⟩) tt_ok ⟨k_s_IsValidAutomaton, k_s_l12Minimize, trivial⟩ mixed Tryz.func42 rfl rfl (enters_of Tryz.func42 (by kernel_rfl) rfl) rfl (Nat.le_of_ble_eq_true rfl) rfl .no (fun d => by kernel_rfl)
theorem k_s_l22State : FOk Tryz.prog 105 F_s_l22State := fok (V := ⟨tt, [(58, F_s_IsValidAutomaton), (75, F_s_l1In)], [], 15, []⟩) tt_ok ⟨k_s_IsValidAutomaton, k_s_l1In, trivial⟩ mixed Tryz.func105 rfl rfl (enters_of Tryz.func105 (by kernel_rfl) rfl) rfl (Nat.le_of_ble_eq_true rfl) rfl .no (fun d => by kernel_rfl)
end Go.Proofs.YtcmpdlhbliolaaaGreat.R
/- Printed by lp.py: each function computes what its model says; the code is run, and the two are compared. -/
set_option linter.unusedVariables false
set_option maxRecDepth 1000000
namespace Go.Proofs.YtcmpdlhbliolaaaGreat.R
open Go.RowKit
open Go.Proofs.YtcmpdlhbliolaaaGreat.D
theorem k_s_l13Onward : FOk Tryz.prog 106 F_s_l13Onward := fok (V := ⟨tt, [], [], 81, []⟩) tt_ok trivial mixed Tryz.func106 rfl rfl (enters_of Tryz.func106 (by kernel_rfl) rfl) rfl (Nat.le_of_ble_eq_true rfl) rfl (.two .no (.two .no (.two (.two .no (.loop [.row 5 4 y4, .slot 6 (.num .i64)] (.two .no (.join [.row 5 4 y4] .no .no)))) (.two (.two .no (.loop [.row 5 4 y4, .slot 7 (.num .i64)] (.two .no (.two (.two .no (.loop [.row 5 4 y4, .slot 8 (.num .i64)] (.two .no (.two (.two .no (.loop [.row 5 4 y4, .slot 9 (.num .i64)] (.two .no (.join [.row 5 4 y4] .no .no)))) .no)))) .no)))) .no)))) (fun d => by kernel_rfl)
theorem k_s_HasLoop : FOk Tryz.prog 43 F_s_HasLoop := fok (V := ⟨tt, [(105, F_s_l22State), (106, F_s_l13Onward)], [], 16, []⟩) tt_ok ⟨k_s_l22State, k_s_l13Onward, trivial⟩ mixed Tryz.func43 rfl rfl (enters_of Tryz.func43 (by kernel_rfl) rfl) rfl (Nat.le_of_ble_eq_true rfl) rfl .no (fun d => by kernel_rfl)
theorem k_s_StateReaches : FOk Tryz.prog 44 F_s_StateReaches := fok (V := ⟨tt, [(105, F_s_l22State), (106, F_s_l13Onward)], [], 28, []⟩) tt_ok ⟨k_s_l22State, k_s_l13Onward, trivial⟩ mixed Tryz.func44 rfl rfl (enters_of Tryz.func44 (by kernel_rfl) rfl) rfl (Nat.le_of_ble_eq_true rfl) rfl .no (fun d => by kernel_rfl)
theorem k_s_l4Set : FOk Tryz.prog 193 F_s_l4Set := fok (V := ⟨tt, [], [], 20, []⟩) tt_ok trivial mixed Tryz.func193 rfl rfl (enters_of Tryz.func193 (by kernel_rfl) rfl) rfl (Nat.le_of_ble_eq_true rfl) rfl (.two .no (.two .no (.two (.two .no (.loop [.slot 3 (.own 3 y3), .slot 4 (.num .i64)] (.two .no (.join [.slot 3 (.own 3 y3)] .no .no)))) .no))) (fun d => by kernel_rfl)
theorem k_s_l12Next : FOk Tryz.prog 196 F_s_l12Next := fok (V := ⟨tt, [], [], 17, []⟩) tt_ok trivial mixed Tryz.func196 rfl rfl (enters_of Tryz.func196 (by kernel_rfl) rfl) rfl (Nat.le_of_ble_eq_true rfl) rfl .no (fun d => by kernel_rfl)
theorem k_s_l10Has : FOk Tryz.prog 197 F_s_l10Has := fok (V := ⟨tt, [], [], 40, []⟩) tt_ok trivial mixed Tryz.func197 rfl rfl (enters_of Tryz.func197 (by kernel_rfl) rfl) rfl (Nat.le_of_ble_eq_true rfl) rfl (.two .no (.two (.two .no (.loop [.slot 5 (.num .i64)] .no)) .no)) (fun d => by kernel_rfl)
theorem k_s_l22Images : FOk Tryz.prog 192 F_s_l22Images := fok (V := ⟨tt, [(193, F_s_l4Set), (196, F_s_l12Next), (197, F_s_l10Has)], [], 83, []⟩) tt_ok ⟨k_s_l4Set, k_s_l12Next, k_s_l10Has, trivial⟩ mixed Tryz.func192 rfl rfl (enters_of Tryz.func192 (by kernel_rfl) rfl) rfl (Nat.le_of_ble_eq_true rfl) rfl (.two .no (.two .no (.two .no (.two (.two .no (.loop [.slot 7 (.own 212 y212), .slot 8 (.num .i64), .slot 9 (.num .i64)] (.two .no (.two (.two .no (.loop [.slot 7 (.own 212 y212), .slot 8 (.num .i64), .slot 10 (.num .i64)] (.two .no (.join [.slot 7 (.own 212 y212), .slot 8 (.num .i64)] (.two .no (.two .no (.join [.slot 8 (.num .i64)] .no .no))) .no)))) .no)))) (.two .no (.two (.two .no (.loop [.row 12 3 y3, .slot 13 (.num .i64)] .no)) .no)))))) (fun d => by kernel_rfl)
theorem k_s_l22Pumped : FOk Tryz.prog 107 F_s_l22Pumped := fok (V := ⟨tt, [(192, F_s_l22Images), (193, F_s_l4Set)], [], 97, []⟩) tt_ok ⟨k_s_l22Images, k_s_l4Set, trivial⟩ mixed Tryz.func107 rfl rfl (enters_of Tryz.func107 (by kernel_rfl) rfl) rfl (Nat.le_of_ble_eq_true rfl) rfl (.two .no (.two .no (.two (.two .no (.loop [.slot 9 (.own 3 y3), .slot 10 (.num .i64)] (.two .no (.two (.two .no (.two .no (.two (.two .no (.loop [.slot 12 (.num .i64), .slot 13 (.num .i64)] .no)) .no))) .no)))) (.two .no (.two (.two .no (.loop [.slot 14 (.num .i64), .slot 15 (.num .i64)] (.two .no (.two (.two .no (.two (.two .no (.loop [.slot 16 (.num .i64), .slot 17 (.num .i64)] (.two .no (.join [.slot 16 (.num .i64)] .no .no)))) .no)) .no)))) (.two .no (.two (.two .no (.loop [.row 18 3 y3, .slot 19 (.num .i64)] .no)) .no))))))) (fun d => by kernel_rfl)
theorem k_s_l12Accept : FOk Tryz.prog 194 F_s_l12Accept := fok (V := ⟨tt, [], [], 14, []⟩) tt_ok trivial mixed Tryz.func194 rfl rfl (enters_of Tryz.func194 (by kernel_rfl) rfl) rfl (Nat.le_of_ble_eq_true rfl) rfl .no (fun d => by kernel_rfl)
theorem k_s_l10Word : FOk Tryz.prog 195 F_s_l10Word := fok (V := ⟨tt, [], [], 23, []⟩) tt_ok trivial mixed Tryz.func195 rfl rfl (enters_of Tryz.func195 (by kernel_rfl) rfl) rfl (Nat.le_of_ble_eq_true rfl) rfl (.two .no (.two .no (.two (.loop [.slot 1 (.num .i64), .slot 5 (.own 3 y3)] .no) .no))) (fun d => by kernel_rfl)
theorem k_s_l12Differ : FOk Tryz.prog 108 F_s_l12Differ := fok (V := ⟨tt, [(194, F_s_l12Accept), (195, F_s_l10Word), (196, F_s_l12Next), (197, F_s_l10Has)], [], 93, []⟩) tt_ok ⟨k_s_l12Accept, k_s_l10Word, k_s_l12Next, k_s_l10Has, trivial⟩ mixed Tryz.func108 rfl rfl (enters_of Tryz.func108 (by kernel_rfl) rfl) rfl (Nat.le_of_ble_eq_true rfl) rfl (.two .no (.two .no (.two (.two .no (.loop [.slot 12 (.own 212 y212), .slot 13 (.num .i64)] (.two .no (.two (.two .no (.two .no (.two (.two (.at [.slot 57 .boo] .no) .no) (.two .no (.loop [.slot 12 (.own 212 y212), .slot 16 (.num .i64)] (.two .no (.join [.slot 12 (.own 212 y212)] .no .no))))))) .no)))) .no))) (fun d => by kernel_rfl)
theorem k_s_l22Bad : FOk Tryz.prog 45 F_s_l22Bad := fok (V := ⟨tt, [(107, F_s_l22Pumped), (108, F_s_l12Differ)], [], 36, []⟩) tt_ok ⟨k_s_l22Pumped, k_s_l12Differ, trivial⟩ mixed Tryz.func45 rfl rfl (enters_of Tryz.func45 (by kernel_rfl) rfl) rfl (Nat.le_of_ble_eq_true rfl) rfl (.two .no (.two .no (.two (.two .no (.loop [.slot 8 (.num .i64)] .no)) .no))) (fun d => by kernel_rfl)
theorem k_s_HardPair : FOk Tryz.prog 9 F_s_HardPair := fok (V := ⟨tt, [(42, F_s_Minimize), (43, F_s_HasLoop), (44, F_s_StateReaches), (45, F_s_l22Bad)], [], 46, []⟩) tt_ok ⟨k_s_Minimize, k_s_HasLoop, k_s_StateReaches, k_s_l22Bad, trivial⟩ mixed Tryz.func9 rfl rfl (enters_of Tryz.func9 (by kernel_rfl) rfl) rfl (Nat.le_of_ble_eq_true rfl) rfl (.two .no (.two .no (.two (.two .no (.loop [.slot 6 (.num .i64)] (.two .no (.two (.two .no (.loop [.slot 7 (.num .i64)] .no)) .no)))) .no))) (fun d => by kernel_rfl)
theorem k_w_toBoolS : FOk Tryz.prog 46 F_w_toBoolS := fok (V := ⟨tt, [], [], 22, []⟩) tt_ok trivial mixed Tryz.func46 rfl rfl (enters_of Tryz.func46 (by kernel_rfl) rfl) rfl (Nat.le_of_ble_eq_true rfl) rfl (.two .no (.two .no (.two (.two .no (.loop [.row 3 4 y4, .slot 4 (.num .i64)] .no)) .no))) (fun d => by kernel_rfl)
theorem k_w_toIntS : FOk Tryz.prog 92 F_w_toIntS := fok (V := ⟨tt, [], [], 22, []⟩) tt_ok trivial mixed Tryz.func92 rfl rfl (enters_of Tryz.func92 (by kernel_rfl) rfl) rfl (Nat.le_of_ble_eq_true rfl) rfl (.two .no (.two .no (.two (.two .no (.loop [.row 3 3 y3, .slot 4 (.num .i64)] .no)) .no))) (fun d => by kernel_rfl)
theorem k_w_toIntSS : FOk Tryz.prog 47 F_w_toIntSS := fok (V := ⟨tt, [(92, F_w_toIntS)], [], 23, []⟩) tt_ok ⟨k_w_toIntS, trivial⟩ mixed Tryz.func47 rfl rfl (enters_of Tryz.func47 (by kernel_rfl) rfl) rfl (Nat.le_of_ble_eq_true rfl) rfl (.two .no (.two .no (.two (.two .no (.loop [.row 3 39 y39, .slot 4 (.num .i64)] .no)) .no))) (fun d => by kernel_rfl)
theorem k_w_toAutomaton : FOk Tryz.prog 10 F_w_toAutomaton := fok (V := ⟨tt, [(46, F_w_toBoolS), (47, F_w_toIntSS)], [], 16, []⟩) tt_ok ⟨k_w_toBoolS, k_w_toIntSS, trivial⟩ mixed Tryz.func10 rfl rfl (enters_of Tryz.func10 (by kernel_rfl) rfl) rfl (Nat.le_of_ble_eq_true rfl) rfl .no (fun d => by kernel_rfl)
end Go.Proofs.YtcmpdlhbliolaaaGreat.R
/- Printed by lp.py: each function computes what its model says; the code is run, and the two are compared. -/
set_option linter.unusedVariables false
set_option maxRecDepth 1000000
namespace Go.Proofs.YtcmpdlhbliolaaaGreat.R
open Go.RowKit
open Go.Proofs.YtcmpdlhbliolaaaGreat.D
theorem k_i_within : FOk Tryz.prog 80 F_i_within := fok (V := ⟨tt, [], [], 15, []⟩) tt_ok trivial mixed Tryz.func80 rfl rfl (enters_of Tryz.func80 (by kernel_rfl) rfl) rfl (Nat.le_of_ble_eq_true rfl) rfl .no (fun d => by kernel_rfl)
theorem k_i_IsValidAutomaton : FOk Tryz.prog 48 F_i_IsValidAutomaton := fok (V := ⟨tt, [(80, F_i_within)], [], 52, []⟩) tt_ok ⟨k_i_within, trivial⟩ mixed Tryz.func48 rfl rfl (enters_of Tryz.func48 (by kernel_rfl) rfl) rfl (Nat.le_of_ble_eq_true rfl) rfl (.two .no (.two .no (.two .no (.two (.two .no (.loop [.slot 32 (.num .i64)] (.two .no (.two .no (.two (.two .no (.two (.two .no (.loop [.slot 38 (.num .i64)] .no)) .no)) .no))))) .no)))) (fun d => by kernel_rfl)
theorem k_g_slices_Clone_S_bool_bool : FOk Tryz.prog 273 F_g_slices_Clone_S_bool_bool := fok_clone (f := F_g_slices_Clone_S_bool_bool) (fok_none (f := ⟨F_g_slices_Clone_S_bool_bool.ps, F_g_slices_Clone_S_bool_bool.rs, F_g_slices_Clone_S_bool_bool.m, none⟩) (enters_of Tryz.func273 (by kernel_rfl) rfl) rfl (fun d => rfl)) (clone_ok (V := ⟨tt, [], [(5, .raw)], 8, []⟩) tt_ok trivial mixed Tryz.func273 rfl rfl (enters_of Tryz.func273 (by kernel_rfl) rfl) (Nat.le_of_ble_eq_true rfl) .no (fun E bn xs => by cases bn <;> kernel_rfl))
theorem k_i_Automaton_live : FOk Tryz.prog 198 F_i_Automaton_live := fok (V := ⟨tt, [(273, F_g_slices_Clone_S_bool_bool)], [], 48, []⟩) tt_ok ⟨k_g_slices_Clone_S_bool_bool, trivial⟩ mixed Tryz.func198 rfl rfl (enters_of Tryz.func198 (by kernel_rfl) rfl) rfl (Nat.le_of_ble_eq_true rfl) rfl (.two .no (.two .no (.two (.two .no (.loop [.slot 4 .boo, .row 3 4 y4] (.two .no (.two .no (.two .no (.loop [.slot 4 .boo, .slot 16 (.num .i64), .row 3 4 y4] (.two .no (.two .no (.two (.two .no (.two .no (.loop [.slot 4 .boo, .slot 23 (.num .i64), .row 3 4 y4] (.two .no (.two .no (.two (.at [.slot 4 .boo, .row 3 4 y4] .no) .no)))))) .no))))))))) .no))) (fun d => by kernel_rfl)
theorem k_g_slices_IndexFunc_S_S_int_S_int : FOk Tryz.prog 274 F_g_slices_IndexFunc_S_S_int_S_int := fok (V := ⟨tt, [], [], 19, []⟩) tt_ok trivial mixed Tryz.func274 rfl rfl (enters_of Tryz.func274 (by kernel_rfl) rfl) rfl (Nat.le_of_ble_eq_true rfl) rfl (.two .no (.two (.two .no (.loop [.slot 8 (.num .i64)] .no)) .no)) (fun d => by kernel_rfl)
theorem k_g_slices_Equal_S_int_int : FOk Tryz.prog 276 F_g_slices_Equal_S_int_int := fok (V := ⟨tt, [], [], 26, []⟩) tt_ok trivial mixed Tryz.func276 rfl rfl (enters_of Tryz.func276 (by kernel_rfl) rfl) rfl (Nat.le_of_ble_eq_true rfl) rfl (.two .no (.two .no (.two (.two .no (.loop [.slot 13 (.num .i64)] .no)) .no))) (fun d => by kernel_rfl)
theorem k_i_Automaton_refine_1 : FOk Tryz.prog 275 F_i_Automaton_refine_1 := fok (V := ⟨tt, [(276, F_g_slices_Equal_S_int_int)], [], 7, []⟩) tt_ok ⟨k_g_slices_Equal_S_int_int, trivial⟩ mixed Tryz.func275 rfl rfl (enters_of Tryz.func275 (by kernel_rfl) rfl) rfl (Nat.le_of_ble_eq_true rfl) rfl .no (fun d => by kernel_rfl)
theorem k_i_Automaton_refine : FOk Tryz.prog 199 F_i_Automaton_refine := fok (V := ⟨tt, [(274, F_g_slices_IndexFunc_S_S_int_S_int), (275, F_i_Automaton_refine_1)], [], 70, []⟩) tt_ok ⟨k_g_slices_IndexFunc_S_S_int_S_int, k_i_Automaton_refine_1, trivial⟩ mixed Tryz.func199 rfl rfl (enters_of Tryz.func199 (by kernel_rfl) rfl) rfl (Nat.le_of_ble_eq_true rfl) rfl (.two .no (.two .no (.two .no (.two (.two .no (.loop [.slot 6 (.own 39 y39), .slot 7 (.own 3 y3), .slot 18 (.num .i64)] (.two .no (.two .no (.join [.slot 6 (.own 39 y39), .slot 7 (.own 3 y3)] (.two .no (.two .no (.two .no (.two (.two .no (.loop [.slot 36 (.num .i64), .box 10 [(.own 3 y3)]] (.two .no (.two .no (.two (.two .no (.join [.slot 12 (.num .i64)] .no .no)) .no))))) (.two .no (.join [.slot 6 (.own 39 y39), .slot 13 (.num .i64), .gone 10] .no .no)))))) .no))))) .no)))) (fun d => by kernel_rfl)
theorem k_i_Automaton_classes : FOk Tryz.prog 109 F_i_Automaton_classes := fok (V := ⟨tt, [(198, F_i_Automaton_live), (199, F_i_Automaton_refine)], [], 49, []⟩) tt_ok ⟨k_i_Automaton_live, k_i_Automaton_refine, trivial⟩ mixed Tryz.func109 rfl rfl (enters_of Tryz.func109 (by kernel_rfl) rfl) rfl (Nat.le_of_ble_eq_true rfl) rfl (.two .no (.two .no (.two (.two .no (.loop [.slot 3 (.own 3 y3), .slot 13 (.num .i64)] (.two .no (.two .no (.join [.slot 3 (.own 3 y3)] .no .no))))) (.two .no (.loop [.slot 3 (.own 3 y3), .slot 6 (.num .i64)] .no))))) (fun d => by kernel_rfl)
theorem k_g_math_bits_Mul32 : FOk Tryz.prog 320 F_g_math_bits_Mul32 := fok (V := ⟨tt, [], [], 17, []⟩) tt_ok trivial mixed Tryz.func320 rfl rfl (enters_of Tryz.func320 (by kernel_rfl) rfl) rfl (Nat.le_of_ble_eq_true rfl) rfl .no (fun d => by kernel_rfl)
theorem k_g_math_bits_Mul64 : FOk Tryz.prog 321 F_g_math_bits_Mul64 := fok (V := ⟨tt, [], [], 51, []⟩) tt_ok trivial mixed Tryz.func321 rfl rfl (enters_of Tryz.func321 (by kernel_rfl) rfl) rfl (Nat.le_of_ble_eq_true rfl) rfl .no (fun d => by kernel_rfl)
theorem k_g_math_bits_Mul : FOk Tryz.prog 277 F_g_math_bits_Mul := fok (V := ⟨tt, [(320, F_g_math_bits_Mul32), (321, F_g_math_bits_Mul64)], [], 30, []⟩) tt_ok ⟨k_g_math_bits_Mul32, k_g_math_bits_Mul64, trivial⟩ mixed Tryz.func277 rfl rfl (enters_of Tryz.func277 (by kernel_rfl) rfl) rfl (Nat.le_of_ble_eq_true rfl) rfl .no (fun d => by kernel_rfl)
theorem k_g_slices_Repeat_S_int_int : FOk Tryz.prog 200 F_g_slices_Repeat_S_int_int := fok (V := ⟨tt, [(277, F_g_math_bits_Mul)], [(44, .bool)], 48, []⟩) tt_ok ⟨k_g_math_bits_Mul, trivial⟩ mixed Tryz.func200 rfl rfl (enters_of Tryz.func200 (by kernel_rfl) rfl) rfl (Nat.le_of_ble_eq_true rfl) rfl (.two .no (.two .no (.two .no (.two .no (.two .no (.two .no (.two (.loop [.slot 8 (.num .i64), .row 7 3 (.int .i64)] .no) .no))))))) (fun d => by kernel_rfl)
theorem k_i_nothing : FOk Tryz.prog 110 F_i_nothing := fok (V := ⟨tt, [(200, F_g_slices_Repeat_S_int_int)], [], 6, []⟩) tt_ok ⟨k_g_slices_Repeat_S_int_int, trivial⟩ mixed Tryz.func110 rfl rfl (enters_of Tryz.func110 (by kernel_rfl) rfl) rfl (Nat.le_of_ble_eq_true rfl) rfl .no (fun d => by kernel_rfl)
theorem k_g_slices_Index_S_int_int : FOk Tryz.prog 112 F_g_slices_Index_S_int_int := fok (V := ⟨tt, [], [], 19, []⟩) tt_ok trivial mixed Tryz.func112 rfl rfl (enters_of Tryz.func112 (by kernel_rfl) rfl) rfl (Nat.le_of_ble_eq_true rfl) rfl (.two .no (.two (.two .no (.loop [.slot 8 (.num .i64)] .no)) .no)) (fun d => by kernel_rfl)
theorem k_i_Automaton_minimize_1 : FOk Tryz.prog 111 F_i_Automaton_minimize_1 := fok (V := ⟨tt, [(112, F_g_slices_Index_S_int_int)], [], 7, []⟩) tt_ok ⟨k_g_slices_Index_S_int_int, trivial⟩ mixed Tryz.func111 rfl rfl (enters_of Tryz.func111 (by kernel_rfl) rfl) rfl (Nat.le_of_ble_eq_true rfl) rfl .no (fun d => by kernel_rfl)
theorem k_i_numbered_int : FOk Tryz.prog 113 F_i_numbered_int := fok (V := ⟨tt, [], [], 96, []⟩) tt_ok trivial mixed Tryz.func113 rfl rfl (enters_of Tryz.func113 (by kernel_rfl) rfl) rfl (Nat.le_of_ble_eq_true rfl) rfl (.two .no (.two .no (.two .no (.two .no (.two (.two .no (.loop [.slot 10 (.own 3 y3), .slot 11 (.map ⟨3, 3, .int, .int⟩), .slot 13 (.num .i64), .box 12 [(.num .i64), (.own 4 y4), (.own 39 y39)]] (.two .no (.two (.two .no (.two (.two .no (.loop [.slot 10 (.own 3 y3), .slot 11 (.map ⟨3, 3, .int, .int⟩), .slot 14 (.own 3 y3), .slot 15 (.num .i64)] (.two .no (.join [.slot 10 (.own 3 y3), .slot 11 (.map ⟨3, 3, .int, .int⟩), .slot 14 (.own 3 y3)] (.two .no (.two .no (.two .no (.join [.slot 10 (.own 3 y3), .slot 11 (.map ⟨3, 3, .int, .int⟩), .slot 18 (.num .i64)] .no .no)))) .no)))) .no)) .no)))) .no))))) (fun d => by kernel_rfl)
end Go.Proofs.YtcmpdlhbliolaaaGreat.R
/- Printed by lp.py: each function computes what its model says; the code is run, and the two are compared. -/
set_option linter.unusedVariables false
set_option maxRecDepth 1000000
namespace Go.Proofs.YtcmpdlhbliolaaaGreat.R
open Go.RowKit
open Go.Proofs.YtcmpdlhbliolaaaGreat.D
theorem k_i_Automaton_minimize_2 : FOk Tryz.prog 114 F_i_Automaton_minimize_2 := fok (V := ⟨tt, [], [], 12, []⟩) tt_ok trivial mixed Tryz.func114 rfl rfl (enters_of Tryz.func114 (by kernel_rfl) rfl) rfl (Nat.le_of_ble_eq_true rfl) rfl .no (fun d => by kernel_rfl)
theorem k_i_isLetter : FOk Tryz.prog 201 F_i_isLetter := fok (V := ⟨tt, [(80, F_i_within)], [], 5, []⟩) tt_ok ⟨k_i_within, trivial⟩ mixed Tryz.func201 rfl rfl (enters_of Tryz.func201 (by kernel_rfl) rfl) rfl (Nat.le_of_ble_eq_true rfl) rfl .no (fun d => by kernel_rfl)
theorem k_i_Automaton_move : FOk Tryz.prog 116 F_i_Automaton_move := fok (V := ⟨tt, [(201, F_i_isLetter)], [], 22, []⟩) tt_ok ⟨k_i_isLetter, trivial⟩ mixed Tryz.func116 rfl rfl (enters_of Tryz.func116 (by kernel_rfl) rfl) rfl (Nat.le_of_ble_eq_true rfl) rfl .no (fun d => by kernel_rfl)
theorem k_i_Automaton_minimize_3 : FOk Tryz.prog 115 F_i_Automaton_minimize_3 := fok (V := ⟨tt, [(116, F_i_Automaton_move)], [], 29, []⟩) tt_ok ⟨k_i_Automaton_move, trivial⟩ mixed Tryz.func115 rfl rfl (enters_of Tryz.func115 (by kernel_rfl) rfl) rfl (Nat.le_of_ble_eq_true rfl) rfl .no (fun d => by kernel_rfl)
theorem k_i_Automaton_minimize : FOk Tryz.prog 49 F_i_Automaton_minimize := fok (V := ⟨tt, [(109, F_i_Automaton_classes), (110, F_i_nothing), (111, F_i_Automaton_minimize_1), (113, F_i_numbered_int), (114, F_i_Automaton_minimize_2), (115, F_i_Automaton_minimize_3)], [], 31, []⟩) tt_ok ⟨k_i_Automaton_classes, k_i_nothing, k_i_Automaton_minimize_1, k_i_numbered_int, k_i_Automaton_minimize_2, k_i_Automaton_minimize_3, trivial⟩ mixed Tryz.func49 rfl rfl (enters_of Tryz.func49 (by kernel_rfl) rfl) rfl (Nat.le_of_ble_eq_true rfl) rfl .no (fun d => by kernel_rfl)
theorem k_g_slices_IndexFunc_S_int_int : FOk Tryz.prog 120 F_g_slices_IndexFunc_S_int_int := fok (V := ⟨tt, [], [], 19, []⟩) tt_ok trivial mixed Tryz.func120 rfl rfl (enters_of Tryz.func120 (by kernel_rfl) rfl) rfl (Nat.le_of_ble_eq_true rfl) rfl (.two .no (.two (.two .no (.loop [.slot 8 (.num .i64)] .no)) .no)) (fun d => by kernel_rfl)
theorem k_g_slices_ContainsFunc_S_int_int : FOk Tryz.prog 52 F_g_slices_ContainsFunc_S_int_int := fok (V := ⟨tt, [(120, F_g_slices_IndexFunc_S_int_int)], [], 9, []⟩) tt_ok ⟨k_g_slices_IndexFunc_S_int_int, trivial⟩ mixed Tryz.func52 rfl rfl (enters_of Tryz.func52 (by kernel_rfl) rfl) rfl (Nat.le_of_ble_eq_true rfl) rfl .no (fun d => by kernel_rfl)
theorem k_i_statesOk : FOk Tryz.prog 117 F_i_statesOk := fok (V := ⟨tt, [(48, F_i_IsValidAutomaton), (80, F_i_within)], [], 23, []⟩) tt_ok ⟨k_i_IsValidAutomaton, k_i_within, trivial⟩ mixed Tryz.func117 rfl rfl (enters_of Tryz.func117 (by kernel_rfl) rfl) rfl (Nat.le_of_ble_eq_true rfl) rfl (.two .no (.two (.two .no (.loop [.slot 9 (.num .i64)] .no)) .no)) (fun d => by kernel_rfl)
theorem k_i_Automaton_found : FOk Tryz.prog 119 F_i_Automaton_found := fok (V := ⟨tt, [], [(22, .bool)], 53, []⟩) tt_ok trivial mixed Tryz.func119 rfl rfl (enters_of Tryz.func119 (by kernel_rfl) rfl) rfl (Nat.le_of_ble_eq_true rfl) rfl (.two .no (.two .no (.two .no (.two (.two .no (.loop [.slot 4 (.own 3 (.int .i64)), .row 3 4 y4] (.two .no (.two (.two .no (.loop [.slot 4 (.own 3 y3), .slot 31 (.num .i64), .row 3 4 y4] (.two .no (.two .no (.two (.at [.slot 4 (.own 3 y3), .row 3 4 y4] .no) .no))))) .no)))) .no)))) (fun d => by kernel_rfl)
theorem k_i_StateReaches : FOk Tryz.prog 51 F_i_StateReaches := fok (V := ⟨tt, [(117, F_i_statesOk), (119, F_i_Automaton_found)], [], 22, []⟩) tt_ok ⟨k_i_statesOk, k_i_Automaton_found, trivial⟩ mixed Tryz.func51 rfl rfl (enters_of Tryz.func51 (by kernel_rfl) rfl) rfl (Nat.le_of_ble_eq_true rfl) rfl .no (fun d => by kernel_rfl)
theorem k_i_HasLoop_1 : FOk Tryz.prog 118 F_i_HasLoop_1 := fok (V := ⟨tt, [(51, F_i_StateReaches)], [], 13, []⟩) tt_ok ⟨k_i_StateReaches, trivial⟩ mixed Tryz.func118 rfl rfl (enters_of Tryz.func118 (by kernel_rfl) rfl) rfl (Nat.le_of_ble_eq_true rfl) rfl .no (fun d => by kernel_rfl)
theorem k_i_HasLoop : FOk Tryz.prog 50 F_i_HasLoop := fok (V := ⟨tt, [(52, F_g_slices_ContainsFunc_S_int_int), (117, F_i_statesOk), (118, F_i_HasLoop_1)], [], 18, []⟩) tt_ok ⟨k_g_slices_ContainsFunc_S_int_int, k_i_statesOk, k_i_HasLoop_1, trivial⟩ mixed Tryz.func50 rfl rfl (enters_of Tryz.func50 (by kernel_rfl) rfl) rfl (Nat.le_of_ble_eq_true rfl) rfl .no (fun d => by kernel_rfl)
theorem k_i_copyInts : FOk Tryz.prog 202 F_i_copyInts := fok (V := ⟨tt, [], [], 6, []⟩) tt_ok trivial mixed Tryz.func202 rfl rfl (enters_of Tryz.func202 (by kernel_rfl) rfl) rfl (Nat.le_of_ble_eq_true rfl) rfl .no (fun d => by kernel_rfl)
theorem k_g_slices_Sort_S_int_int : FOk Tryz.prog 203 F_g_slices_Sort_S_int_int := fok_sorti laysSort189 (enters_of Tryz.func203 (by kernel_rfl) rfl) 3
theorem k_g_slices_Compact_S_int_int : FOk Tryz.prog 204 F_g_slices_Compact_S_int_int := fok (V := ⟨tt, [], [(28, .raw), (56, .raw), (59, .raw)], 61, []⟩) tt_ok trivial mixed Tryz.func204 rfl rfl (enters_of Tryz.func204 (by kernel_rfl) rfl) rfl (Nat.le_of_ble_eq_true rfl) rfl (.two .no (.two .no (.two (.two .no (.loop [.slot 3 (.num .i64)] (.two .no (.two (.two .no (.two (.two .no (.two (.two .no (.loop [.slot 3 (.num .i64), .slot 5 (.num .i64), .row 0 3 y3] (.two .no (.two (.at [.slot 3 (.num .i64), .row 0 3 y3] .no) .no)))) .no)) .no)) .no)))) .no))) (fun d => by kernel_rfl)
theorem k_i_ascending : FOk Tryz.prog 122 F_i_ascending := fok (V := ⟨tt, [(202, F_i_copyInts), (203, F_g_slices_Sort_S_int_int), (204, F_g_slices_Compact_S_int_int)], [], 10, []⟩) tt_ok ⟨k_i_copyInts, k_g_slices_Sort_S_int_int, k_g_slices_Compact_S_int_int, trivial⟩ mixed Tryz.func122 rfl rfl (enters_of Tryz.func122 (by kernel_rfl) rfl) rfl (Nat.le_of_ble_eq_true rfl) rfl .no (fun d => by kernel_rfl)
theorem k_i_together_1 : FOk Tryz.prog 205 F_i_together_1 := fok (V := ⟨tt, [(116, F_i_Automaton_move)], [], 18, []⟩) tt_ok ⟨k_i_Automaton_move, trivial⟩ mixed Tryz.func205 rfl rfl (enters_of Tryz.func205 (by kernel_rfl) rfl) rfl (Nat.le_of_ble_eq_true rfl) rfl .no (fun d => by kernel_rfl)
end Go.Proofs.YtcmpdlhbliolaaaGreat.R
/- Printed by lp.py: each function computes what its model says; the code is run, and the two are compared. -/
set_option linter.unusedVariables false
set_option maxRecDepth 1000000
namespace Go.Proofs.YtcmpdlhbliolaaaGreat.R
open Go.RowKit
open Go.Proofs.YtcmpdlhbliolaaaGreat.D
theorem wt_i_together (c d : List Value) (w : World) : Calls Tryz.prog 124 #[.agg c.toArray, .agg d.toArray] w fun e w' => e = .returned (.func (.func 205) #[] #[.pointer (some ⟨w.heap.size, 0, none⟩), .pointer (some ⟨w.heap.size + 1, 0, none⟩)]) ∧ w' = (w.alloc (.cells c.toArray 29)).alloc (.cells d.toArray 29) := by
  go_enter Tryz.func124, Tryz.ntmps124
  go_wp2
  go_ret
  exact ⟨rfl, rfl⟩
theorem k_i_together : FOk Tryz.prog 124 F_i_together := fok_tog (f := F_i_together) (fok_none (f := ⟨F_i_together.ps, F_i_together.rs, F_i_together.m, none⟩) (enters_of Tryz.func124 (by kernel_rfl) rfl) rfl (fun d => rfl)) (tog_of (enters_of Tryz.func124 (by kernel_rfl) rfl) wt_i_together)
theorem k_i_images : FOk Tryz.prog 121 F_i_images := fok (V := ⟨tt, [(122, F_i_ascending), (124, F_i_together), (205, F_i_together_1)], [(26, .bool)], 62, []⟩) tt_ok ⟨k_i_ascending, k_i_together, k_i_together_1, trivial⟩ mixed Tryz.func121 rfl rfl (enters_of Tryz.func121 (by kernel_rfl) rfl) rfl (Nat.le_of_ble_eq_true rfl) rfl (.two .no (.two .no (.two .no (.two .no (.two (.two .no (.loop [.slot 7 (.own 3 (.int .i64)), .slot 10 (.own 154 (.prod y3 y3)), .slot 9 (.map ⟨154, 4, .ii, .bool⟩)] (.two .no (.two (.two .no (.loop [.slot 7 (.own 3 (.int .i64)), .slot 10 (.own 154 y154), .slot 11 (.num .i64), .slot 9 (.map ⟨154, 4, .ii, .bool⟩)] (.two .no (.two (.at [.slot 7 (.own 3 (.int .i64)), .slot 10 (.own 154 y154), .slot 9 (.map ⟨154, 4, .ii, .bool⟩)] .no) .no)))) .no)))) .no))))) (fun d => by kernel_rfl)
theorem k_i_PumpedStates : FOk Tryz.prog 53 F_i_PumpedStates := fok (V := ⟨tt, [(80, F_i_within), (117, F_i_statesOk), (121, F_i_images), (122, F_i_ascending)], [], 47, []⟩) tt_ok ⟨k_i_within, k_i_statesOk, k_i_images, k_i_ascending, trivial⟩ mixed Tryz.func53 rfl rfl (enters_of Tryz.func53 (by kernel_rfl) rfl) rfl (Nat.le_of_ble_eq_true rfl) rfl (.two .no (.two .no (.two .no (.two (.loop [.slot 3 (.num .i64), .slot 9 (.own 3 y3)] (.two .no (.two (.two .no (.two (.two .no (.loop [.slot 10 (.own 3 y3), .slot 33 (.num .i64)] .no)) .no)) .no))) .no)))) (fun d => by kernel_rfl)
theorem k_i_leastWord_states : FOk Tryz.prog 123 F_i_leastWord_states := fok (V := ⟨tt, [(202, F_i_copyInts)], [(18, .bag y226), (23, .bool), (58, .bag y226)], 60, []⟩) tt_ok ⟨k_i_copyInts, trivial⟩ mixed Tryz.func123 rfl rfl (enters_of Tryz.func123 (by kernel_rfl) rfl) rfl (Nat.le_of_ble_eq_true rfl) rfl (.two .no (.two .no (.two (.two .no (.loop [.slot 9 (.own 226 (.bag y226)), .slot 8 (.map ⟨154, 4, .ii, .bool⟩)] (.two .no (.two (.two .no (.two .no (.two .no (.loop [.slot 9 (.own 226 (.bag y226)), .slot 11 (.num .i64), .slot 8 (.map ⟨154, 4, .ii, .bool⟩)] (.two .no (.two (.at [.slot 9 (.own 226 (.bag y226)), .slot 8 (.map ⟨154, 4, .ii, .bool⟩)] .no) .no)))))) .no)))) .no))) (fun d => by kernel_rfl)
theorem k_i_Automaton_accepts : FOk Tryz.prog 126 F_i_Automaton_accepts := fok (V := ⟨tt, [], [], 14, []⟩) tt_ok trivial mixed Tryz.func126 rfl rfl (enters_of Tryz.func126 (by kernel_rfl) rfl) rfl (Nat.le_of_ble_eq_true rfl) rfl .no (fun d => by kernel_rfl)
theorem k_i_misses_1 : FOk Tryz.prog 125 F_i_misses_1 := fok (V := ⟨tt, [(126, F_i_Automaton_accepts)], [], 15, []⟩) tt_ok ⟨k_i_Automaton_accepts, trivial⟩ mixed Tryz.func125 rfl rfl (enters_of Tryz.func125 (by kernel_rfl) rfl) rfl (Nat.le_of_ble_eq_true rfl) rfl .no (fun d => by kernel_rfl)
theorem k_i_misses : FOk Tryz.prog 55 F_i_misses := fok (V := ⟨tt, [(123, F_i_leastWord_states), (124, F_i_together), (125, F_i_misses_1), (205, F_i_together_1)], [], 21, []⟩) tt_ok ⟨k_i_leastWord_states, k_i_together, k_i_misses_1, k_i_together_1, trivial⟩ mixed Tryz.func55 rfl rfl (enters_of Tryz.func55 (by kernel_rfl) rfl) rfl (Nat.le_of_ble_eq_true rfl) rfl .no (fun d => by kernel_rfl)
theorem k_i_HardPair_1 : FOk Tryz.prog 54 F_i_HardPair_1 := fok (V := ⟨tt, [(55, F_i_misses)], [], 9, []⟩) tt_ok ⟨k_i_misses, trivial⟩ mixed Tryz.func54 rfl rfl (enters_of Tryz.func54 (by kernel_rfl) rfl) rfl (Nat.le_of_ble_eq_true rfl) rfl .no (fun d => by kernel_rfl)
theorem k_i_HardPair : FOk Tryz.prog 11 F_i_HardPair := fok (V := ⟨tt, [(48, F_i_IsValidAutomaton), (49, F_i_Automaton_minimize), (50, F_i_HasLoop), (51, F_i_StateReaches), (52, F_g_slices_ContainsFunc_S_int_int), (53, F_i_PumpedStates), (54, F_i_HardPair_1)], [], 54, []⟩) tt_ok ⟨k_i_IsValidAutomaton, k_i_Automaton_minimize, k_i_HasLoop, k_i_StateReaches, k_g_slices_ContainsFunc_S_int_int, k_i_PumpedStates, k_i_HardPair_1, trivial⟩ mixed Tryz.func11 rfl rfl (enters_of Tryz.func11 (by kernel_rfl) rfl) rfl (Nat.le_of_ble_eq_true rfl) rfl (.two .no (.two .no (.two .no (.two .no (.two (.two .no (.loop [.slot 7 (.num .i64)] (.two .no (.two (.two .no (.loop [.slot 8 (.bx 3 .i64)] (.two .no (.two (.atX [] .no) .no)))) .no)))) .no))))) (fun d => by kernel_rfl)
theorem k_w_eqBoolS : FOk Tryz.prog 56 F_w_eqBoolS := fok (V := ⟨tt, [], [], 26, []⟩) tt_ok trivial mixed Tryz.func56 rfl rfl (enters_of Tryz.func56 (by kernel_rfl) rfl) rfl (Nat.le_of_ble_eq_true rfl) rfl (.two .no (.two .no (.two (.two .no (.loop [.slot 5 (.num .i64)] .no)) .no))) (fun d => by kernel_rfl)
theorem k_w_eqIntS : FOk Tryz.prog 19 F_w_eqIntS := fok (V := ⟨tt, [], [], 26, []⟩) tt_ok trivial mixed Tryz.func19 rfl rfl (enters_of Tryz.func19 (by kernel_rfl) rfl) rfl (Nat.le_of_ble_eq_true rfl) rfl (.two .no (.two .no (.two (.two .no (.loop [.slot 5 (.num .i64)] .no)) .no))) (fun d => by kernel_rfl)
theorem k_w_eqIntSS : FOk Tryz.prog 57 F_w_eqIntSS := fok (V := ⟨tt, [(19, F_w_eqIntS)], [], 27, []⟩) tt_ok ⟨k_w_eqIntS, trivial⟩ mixed Tryz.func57 rfl rfl (enters_of Tryz.func57 (by kernel_rfl) rfl) rfl (Nat.le_of_ble_eq_true rfl) rfl (.two .no (.two .no (.two (.two .no (.loop [.slot 5 (.num .i64)] .no)) .no))) (fun d => by kernel_rfl)
theorem k_w_eqAutomaton : FOk Tryz.prog 12 F_w_eqAutomaton := fok (V := ⟨tt, [(56, F_w_eqBoolS), (57, F_w_eqIntSS)], [], 22, []⟩) tt_ok ⟨k_w_eqBoolS, k_w_eqIntSS, trivial⟩ mixed Tryz.func12 rfl rfl (enters_of Tryz.func12 (by kernel_rfl) rfl) rfl (Nat.le_of_ble_eq_true rfl) rfl .no (fun d => by kernel_rfl)
theorem k_s_l11Reach : FOk Tryz.prog 206 F_s_l11Reach := fok (V := ⟨tt, [], [], 59, []⟩) tt_ok trivial mixed Tryz.func206 rfl rfl (enters_of Tryz.func206 (by kernel_rfl) rfl) rfl (Nat.le_of_ble_eq_true rfl) rfl (.two .no (.two .no (.two .no (.two (.two .no (.loop [.row 3 4 y4, .slot 4 (.num .i64)] (.two .no (.two (.two .no (.loop [.row 3 4 y4, .slot 5 (.num .i64)] (.two .no (.two (.two .no (.loop [.row 3 4 y4, .slot 6 (.num .i64)] (.two .no (.join [.row 3 4 y4] .no .no)))) .no)))) .no)))) .no)))) (fun d => by kernel_rfl)
theorem k_s_UsefulStates : FOk Tryz.prog 128 F_s_UsefulStates := fok (V := ⟨tt, [(58, F_s_IsValidAutomaton), (191, F_s_l11Live), (206, F_s_l11Reach)], [], 38, []⟩) tt_ok ⟨k_s_IsValidAutomaton, k_s_l11Live, k_s_l11Reach, trivial⟩ mixed Tryz.func128 rfl rfl (enters_of Tryz.func128 (by kernel_rfl) rfl) rfl (Nat.le_of_ble_eq_true rfl) rfl (.two .no (.two .no (.two .no (.two .no (.two .no (.two (.two .no (.loop [.slot 3 (.own 3 y3), .slot 6 (.num .i64)] (.two .no (.join [.slot 3 (.own 3 y3)] .no .no)))) .no)))))) (fun d => by kernel_rfl)
theorem k_s_IsFiniteLanguage : FOk Tryz.prog 59 F_s_IsFiniteLanguage := fok (V := ⟨tt, [(58, F_s_IsValidAutomaton), (106, F_s_l13Onward), (128, F_s_UsefulStates)], [], 28, []⟩) tt_ok ⟨k_s_IsValidAutomaton, k_s_l13Onward, k_s_UsefulStates, trivial⟩ mixed Tryz.func59 rfl rfl (enters_of Tryz.func59 (by kernel_rfl) rfl) rfl (Nat.le_of_ble_eq_true rfl) rfl (.two .no (.two .no (.two .no (.two (.two .no (.loop [.slot 4 (.num .i64)] .no)) .no)))) (fun d => by kernel_rfl)
end Go.Proofs.YtcmpdlhbliolaaaGreat.R
/- Printed by lp.py: each function computes what its model says; the code is run, and the two are compared. -/
set_option linter.unusedVariables false
set_option maxRecDepth 1000000
namespace Go.Proofs.YtcmpdlhbliolaaaGreat.R
open Go.RowKit
open Go.Proofs.YtcmpdlhbliolaaaGreat.D
theorem k_s_TractabilityClass : FOk Tryz.prog 13 F_s_TractabilityClass := fok (V := ⟨tt, [(9, F_s_HardPair), (58, F_s_IsValidAutomaton), (59, F_s_IsFiniteLanguage)], [], 18, []⟩) tt_ok ⟨k_s_HardPair, k_s_IsValidAutomaton, k_s_IsFiniteLanguage, trivial⟩ mixed Tryz.func13 rfl rfl (enters_of Tryz.func13 (by kernel_rfl) rfl) rfl (Nat.le_of_ble_eq_true rfl) rfl .no (fun d => by kernel_rfl)
theorem k_i_UsefulStates : FOk Tryz.prog 129 F_i_UsefulStates := fok (V := ⟨tt, [(48, F_i_IsValidAutomaton), (119, F_i_Automaton_found), (198, F_i_Automaton_live)], [], 36, []⟩) tt_ok ⟨k_i_IsValidAutomaton, k_i_Automaton_found, k_i_Automaton_live, trivial⟩ mixed Tryz.func129 rfl rfl (enters_of Tryz.func129 (by kernel_rfl) rfl) rfl (Nat.le_of_ble_eq_true rfl) rfl (.two .no (.two .no (.two .no (.two .no (.two (.two .no (.loop [.slot 5 (.own 3 y3), .slot 17 (.num .i64)] (.two .no (.two .no (.join [.slot 5 (.own 3 y3)] .no .no))))) .no))))) (fun d => by kernel_rfl)
theorem k_g_slices_Contains_S_int_int : FOk Tryz.prog 132 F_g_slices_Contains_S_int_int := fok (V := ⟨tt, [(112, F_g_slices_Index_S_int_int)], [], 9, []⟩) tt_ok ⟨k_g_slices_Index_S_int_int, trivial⟩ mixed Tryz.func132 rfl rfl (enters_of Tryz.func132 (by kernel_rfl) rfl) rfl (Nat.le_of_ble_eq_true rfl) rfl .no (fun d => by kernel_rfl)
theorem k_i_IsFiniteLanguage_1_1 : FOk Tryz.prog 131 F_i_IsFiniteLanguage_1_1 := fok (V := ⟨tt, [(132, F_g_slices_Contains_S_int_int)], [], 7, []⟩) tt_ok ⟨k_g_slices_Contains_S_int_int, trivial⟩ mixed Tryz.func131 rfl rfl (enters_of Tryz.func131 (by kernel_rfl) rfl) rfl (Nat.le_of_ble_eq_true rfl) rfl .no (fun d => by kernel_rfl)
theorem k_i_IsFiniteLanguage_1 : FOk Tryz.prog 130 F_i_IsFiniteLanguage_1 := fok (V := ⟨tt, [(52, F_g_slices_ContainsFunc_S_int_int), (131, F_i_IsFiniteLanguage_1_1)], [], 13, []⟩) tt_ok ⟨k_g_slices_ContainsFunc_S_int_int, k_i_IsFiniteLanguage_1_1, trivial⟩ mixed Tryz.func130 rfl rfl (enters_of Tryz.func130 (by kernel_rfl) rfl) rfl (Nat.le_of_ble_eq_true rfl) rfl .no (fun d => by kernel_rfl)
theorem k_g_slices_Delete_S_int_int : FOk Tryz.prog 133 F_g_slices_Delete_S_int_int := fok_del (n := 0) (z := (⟨.int .i64 0, rfl⟩)) rfl rfl (fok (V := ⟨tt, [], [(13, .raw), (22, .raw), (25, .raw), (31, .raw)], 33, []⟩) tt_ok trivial mixed Tryz.func133 rfl rfl (enters_of Tryz.func133 (by kernel_rfl) rfl) rfl (Nat.le_of_ble_eq_true rfl) rfl .no (fun d => by kernel_rfl))
theorem k_i_IsFiniteLanguage : FOk Tryz.prog 60 F_i_IsFiniteLanguage := fok (V := ⟨tt, [(48, F_i_IsValidAutomaton), (120, F_g_slices_IndexFunc_S_int_int), (129, F_i_UsefulStates), (130, F_i_IsFiniteLanguage_1), (133, F_g_slices_Delete_S_int_int)], [], 23, []⟩) tt_ok ⟨k_i_IsValidAutomaton, k_g_slices_IndexFunc_S_int_int, k_i_UsefulStates, k_i_IsFiniteLanguage_1, k_g_slices_Delete_S_int_int, trivial⟩ mixed Tryz.func60 rfl rfl (enters_of Tryz.func60 (by kernel_rfl) rfl) rfl (Nat.le_of_ble_eq_true rfl) rfl (.two .no (.two .no (.two .no (.two (.loop [.box 3 [(.own 3 y3)]] .no) .no)))) (fun d => by kernel_rfl)
theorem k_i_TractabilityClass : FOk Tryz.prog 14 F_i_TractabilityClass := fok (V := ⟨tt, [(11, F_i_HardPair), (48, F_i_IsValidAutomaton), (60, F_i_IsFiniteLanguage)], [], 21, []⟩) tt_ok ⟨k_i_HardPair, k_i_IsValidAutomaton, k_i_IsFiniteLanguage, trivial⟩ mixed Tryz.func14 rfl rfl (enters_of Tryz.func14 (by kernel_rfl) rfl) rfl (Nat.le_of_ble_eq_true rfl) rfl .no (fun d => by kernel_rfl)
theorem k_w_FnExactTractabilityClass : FOk Tryz.prog 4 F_w_FnExactTractabilityClass := fok (V := ⟨tt, [(8, F_w_szAutomaton), (10, F_w_toAutomaton), (12, F_w_eqAutomaton), (13, F_s_TractabilityClass), (14, F_i_TractabilityClass)], [], 27, []⟩) tt_ok ⟨k_w_szAutomaton, k_w_toAutomaton, k_w_eqAutomaton, k_s_TractabilityClass, k_i_TractabilityClass, trivial⟩ mixed Tryz.func4 rfl rfl (enters_of Tryz.func4 (by kernel_rfl) rfl) rfl (Nat.le_of_ble_eq_true rfl) rfl .no (fun d => by kernel_rfl)
end Go.Proofs.YtcmpdlhbliolaaaGreat.R
namespace Go.Proofs.YtcmpdlhbliolaaaGreat.D
open Go.RowKit
end Go.Proofs.YtcmpdlhbliolaaaGreat.D
namespace Go.Proofs.YtcmpdlhbliolaaaGreat.D
open Go.RowKit
theorem c_w_FnExactTractabilityClass (x0 : Int × (List Bool) × (List (List Int))) (r : Bool) (hm : m_w_FnExactTractabilityClass x0 = some r) {I : Hp} {w0 : World} (v0_0 : Value) (v0_1 : Value) (r0_0 : (rSlice 4 rBool).rd I [v0_0] x0.2.1) (r0_1 : (rSlice 39 (rSlice 3 rInt)).rd I [v0_1] x0.2.2) (hL : Lay Tryz.prog I) : Con Tryz.prog 4 #[.agg #[.int .i64 x0.1, v0_0, v0_1]] I w0 [] (fun v => v = .bool r) (fun _ => []) := fun w C hs =>
  ((R.k_w_FnExactTractabilityClass).con w0 I [.agg #[.int .i64 x0.1, v0_0, v0_1]] (x0, ()) r hL ⟨_, _, rfl, ⟨[.int .i64 x0.1, v0_0, v0_1], rfl, ⟨_, _, rfl, rfl, ⟨_, _, rfl, r0_0, r0_1⟩⟩⟩, rfl⟩ hm w C hs).mono fun e w' ⟨v, he, _, hst⟩ => by
    obtain ⟨h1, h2⟩ := R.own_flat (h1 := fun _ => rfl) (show St I w0 w' (Ch.own R.Ty.bool.rep [v] r :: C) from hst)
    exact ⟨v, he, (List.cons.inj h1).1, h2⟩
end Go.Proofs.YtcmpdlhbliolaaaGreat.D
/- From the form's reading of an argument to a representation: every data type of the program is opened by these laws. No program text is named here. -/
set_option linter.unusedVariables false
set_option linter.unusedSimpArgs false
set_option linter.unnecessarySimpa false
namespace Go.Proofs.YtcmpdlhbliolaaaGreat.D
open Go.RowKit

def I64 (n : Int) : Prop := -9223372036854775808 ≤ n ∧ n ≤ 9223372036854775807
class Data (α : Type) where
  lim : α → Prop
  sm : α → Prop
instance : Data Int := ⟨I64, fun _ => True⟩
instance : Data Bool := ⟨fun _ => True, fun _ => True⟩
instance : Data ByteArray := ⟨fun s => s.size ≤ 9223372036854775807, fun s => s.size ≤ 1048576⟩
instance {α β : Type} [Data α] [Data β] : Data (α × β) := ⟨fun x => Data.lim x.1 ∧ Data.lim x.2, fun x => Data.sm x.1 ∧ Data.sm x.2⟩
instance {α : Type} [Data α] : Data (List α) := ⟨fun xs => xs.length ≤ 9223372036854775807 ∧ ∀ x, x ∈ xs → Data.lim x, fun xs => xs.length ≤ 1048576 ∧ ∀ x, x ∈ xs → Data.sm x⟩
structure Opens (P : Program) (t : TypeId) {α : Type} [Data α] (R : Rep α) : Prop where
  out : ∀ {H : Type} (enc : TypeId × Value → H) (w : World) (fuel : Nat) (cs : List Value) (x : DataW H × List MemPlace), DataW.trod enc P w 0 (fun _ => true) true fuel t cs = some x → ∃ a : α, R.rd (hp w) cs a ∧ Data.lim a

theorem opens_int {P : Program} {t : TypeId} (h : P.underlying t = some (.int .i64)) : Opens P t rInt := by
  constructor
  intro H enc w fuel cs x hx
  obtain ⟨n, rfl, -, hw⟩ := DataW.trod_int h hx
  refine ⟨n, rfl, show I64 n from ?_⟩
  simp [Lit.wf, IntKind.min, IntKind.max, IntKind.signed, IntKind.bits] at hw
  unfold I64
  omega
theorem opens_bool {P : Program} {t : TypeId} (h : P.underlying t = some .bool) : Opens P t rBool := by
  constructor
  intro H enc w fuel cs x hx
  obtain ⟨n, rfl, -⟩ := DataW.trod_bool h hx
  exact ⟨n, rfl, trivial⟩
theorem opens_slice {P : Program} {t e : TypeId} {α : Type} [Data α] {R : Rep α} {E : TypeId} (h : P.underlying t = some (.slice e)) (hc : P.cellsOf e = R.size) (h0 : 0 < R.size) (he : Opens P e R) : Opens P t (rSlice E R) := by
  constructor
  intro H enc w fuel cs x hx
  rcases Go.Deep.open_slice h hx with ⟨rfl, -⟩ | ⟨a, len, cap, m, n, D, Pl, rfl, -, hl, hm, hmm, -, hel⟩
  · exact ⟨[], ⟨none, 0, rfl, by simp, .inl rfl⟩, Nat.zero_le _, fun x hx => by cases hx⟩
  have hlm : m = cap := by simpa using hmm
  subst hlm
  rw [hc] at hel
  by_cases hz : len = 0
  · subst hz
    exact ⟨[], ⟨some a, m, rfl, by simp, .inl rfl⟩, Nat.zero_le _, fun x hx => by cases hx⟩
  · have hone : ∀ i, i < len → ∃ c : List Value, ∃ y : α, c.length = R.size ∧ (∀ j, j < R.size → w.cell? ((a.add (i * R.size)).add j) = c[j]?) ∧ R.rd (hp w) c y ∧ Data.lim y := by
      intro i hi
      obtain ⟨c, h1, h2⟩ := hel i (by omega)
      obtain ⟨-, h3, h4⟩ := World.cells?_some h1
      obtain ⟨y, hy⟩ := he.out enc w _ _ _ h2
      exact ⟨c, y, h3, h4, hy⟩
    obtain ⟨c0, y0, hc0, hr0, -⟩ := hone 0 (by omega)
    have h00 := hr0 0 h0
    have hsome : ∃ v, c0[0]? = some v := ⟨_, List.getElem?_eq_getElem (by omega)⟩
    obtain ⟨v, hv⟩ := hsome
    rw [hv] at h00
    have ha : (a.add (0 * R.size)).add 0 = a := by simp [Addr.add]
    rw [ha] at h00
    obtain ⟨b, off, spot⟩ := a
    have hb : ∃ ccs T fr, w.heap[b]? = some (.cells ccs T fr) ∧ spot = none := by
      simp only [World.cell?] at h00
      split at h00
      · rename_i ccs T fr heq
        cases spot with
        | none => exact ⟨ccs, T, fr, heq, rfl⟩
        | some s => simp at h00
      · simp at h00
    obtain ⟨ccs, T, fr, hh, rfl⟩ := hb
    have hadd : ∀ i j, (Addr.add ⟨b, off, none⟩ i).add j = ⟨b, off + i + j, none⟩ := by
      intro i j
      by_cases h1 : i = 0 <;> by_cases h2 : j = 0 <;> simp [Addr.add, h1, h2, Nat.add_assoc]
    haveI : Inhabited α := ⟨y0⟩
    obtain ⟨X, hX⟩ := Go.Deep.choose_lt (α := α) (n := len) (p := fun i y => ∃ c : List Value, c.length = R.size ∧ (∀ j, j < R.size → ccs.toList[off + i * R.size + j]? = c[j]?) ∧ R.rd (hp w) c y ∧ Data.lim y) (fun i hi => by
      obtain ⟨c, y, h1, h2, h3⟩ := hone i hi
      refine ⟨y, c, h1, fun j hj => ?_, h3⟩
      have := h2 j hj
      rw [hadd] at this
      simp only [World.cell?, hh] at this
      simpa using this)
    have hlen : ((List.range len).map X).length = len := by simp
    have hel2 : ∀ i y, ((List.range len).map X)[i]? = some y → i < len ∧ y = X i := fun i y hy => by
      have hi : i < len := by have := (List.getElem?_eq_some_iff.1 hy).1; omega
      exact ⟨hi, by simpa [hi] using hy.symm⟩
    refine ⟨(List.range len).map X, ⟨some ⟨b, off, none⟩, m, by rw [hlen], by rw [hlen]; unfold maxLen at hm; unfold lim; omega, .inr ⟨b, off, ccs, T, fr, rfl, hh, fun i y hy => ?_⟩⟩, by rw [hlen]; unfold maxLen at hm; omega, fun y hy => ?_⟩
    · obtain ⟨hi, rfl⟩ := hel2 i y hy
      obtain ⟨c, e1, e2, e3, -⟩ := hX i hi
      exact ⟨c, e1, e2, e3⟩
    · obtain ⟨i, hi, he⟩ := List.mem_iff_getElem?.1 hy |>.imp fun i hi => hel2 i y hi
      obtain ⟨-, -, -, -, e4⟩ := hX i hi
      rw [he]; exact e4

structure OpensFs (P : Program) (fs : List Field) (o : Nat) {α : Type} [Data α] (R : Rep α) : Prop where
  out : ∀ {H : Type} (enc : TypeId × Value → H) (w : World) (fuel : Nat) (cs : List Value) , cs.length = o + R.size →
    (∀ f ∈ fs, ∃ x, DataW.trod enc P w 0 (fun _ => true) true fuel f.type ((cs.drop f.offset).take (P.cellsOf f.type)) = some x) → ∃ a : α, R.rd (hp w) (cs.drop o) a ∧ Data.lim a
theorem opens_last {P : Program} {f : Field} {o : Nat} {α : Type} [Data α] {R : Rep α} (ho : f.offset = o) (hc : P.cellsOf f.type = R.size) (h : Opens P f.type R) : OpensFs P [f] o R := by
  constructor
  intro H enc w fuel cs hl hx
  obtain ⟨x, hx⟩ := hx f (by simp)
  rw [ho, hc, List.take_of_length_le (by rw [List.length_drop]; omega)] at hx
  exact h.out enc w _ _ _ hx
theorem opens_next {P : Program} {f : Field} {fs : List Field} {o : Nat} {α β : Type} [Data α] [Data β] {R : Rep α} {S : Rep β} (ho : f.offset = o) (hc : P.cellsOf f.type = R.size) (h : Opens P f.type R) (hs : OpensFs P fs (o + R.size) S) : OpensFs P (f :: fs) o (rProd R S) := by
  constructor
  intro H enc w fuel cs hl hx
  have hl' : cs.length = o + (R.size + S.size) := hl
  obtain ⟨b, hb, hlb⟩ := hs.out enc w fuel cs (by omega) (fun g hg => hx g (by simp [hg]))
  obtain ⟨x, hx⟩ := hx f (by simp)
  rw [ho, hc] at hx
  obtain ⟨a, ha, hla⟩ := h.out enc w _ _ _ hx
  refine ⟨(a, b), ⟨(cs.drop o).take R.size, cs.drop (o + R.size), ?_, ha, hb⟩, hla, hlb⟩
  rw [← List.drop_drop, List.take_append_drop]
theorem opens_struct {P : Program} {t : TypeId} {fs : Array Field} {α : Type} [Data α] {R : Rep α} (h : P.underlying t = some (.struct fs)) (hc : P.cellsOf t = R.size) (hf : OpensFs P fs.toList 0 R) : Opens P t R := by
  constructor
  intro H enc w fuel cs x hx
  obtain ⟨xs, n, -, -, hl, hn, hel⟩ := DataW.trod_struct h hx
  have := hf.out enc w n cs (by omega) (fun f hm => by
    obtain ⟨i, hi, rfl⟩ := List.getElem_of_mem hm
    have h1 : fs[i]? = some fs.toList[i] := by simp
    exact ⟨_, (hel i _ h1).trans (List.getElem?_eq_getElem (by simp at hi; omega))⟩)
  simpa using this
theorem St.below {w0 w : World} {cs : List Ch} (h : St (hp w0) w0 w cs) : Below w0.heap.size w0 w := by
  obtain ⟨⟨h1, h2, h3, h4⟩, h5, -⟩ := h
  refine ⟨h1, h2, h3, h4, fun b hb => ?_⟩
  have e : w0.heap[b]? = some w0.heap[b] := Array.getElem?_eq_getElem hb
  rw [e]; exact h5 b _ e
end Go.Proofs.YtcmpdlhbliolaaaGreat.D
/- Loops of models: what rows are looked through, copied, counted, compared. No program text is named here. -/
set_option linter.unusedVariables false
set_option linter.unusedSimpArgs false
set_option linter.unnecessarySimpa false
namespace Go.Proofs.YtcmpdlhbliolaaaGreat.D
open Go.RowKit

theorem wrapI {n : Int} (h1 : -9223372036854775808 ≤ n) (h2 : n ≤ 9223372036854775807) : IntKind.i64.wrap n = n := by
  simp only [IntKind.wrap, IntKind.bits, IntKind.signed, Bool.true_and]
  split <;> rename_i h <;> simp at h <;> omega
theorem wrap_succ {i : Nat} (h : i < 9223372036854775807) : IntKind.i64.wrap ((i : Int) + 1) = ((i + 1 : Nat) : Int) := by
  rw [wrapI (by omega) (by omega)]; rfl
theorem getI_nat {α : Type} {xs : List α} {i : Nat} (h : i < xs.length) : getI xs (i : Int) = some (xs[i]) := by
  unfold getI
  rw [if_pos (Int.natCast_nonneg _)]
  simp [h]
theorem lt_nat {i n : Nat} (h : i < n) : decide ((i : Int) < (n : Int)) = true := by simp [h]
theorem lt_self {n : Nat} : decide ((n : Int) < (n : Int)) = false := by simp
theorem fuelUp (k : Nat) (h : k ≤ 9223372036854775807) : k < FUEL := by unfold FUEL; omega
theorem mkI_ok {α : Type} {b n : Nat} {z : α} (h : n * b ≤ 140737488355328) : mkI b (n : Int) z = some (List.replicate n z) := by
  unfold mkI
  rw [if_pos ⟨Int.natCast_nonneg _, by simpa using h⟩]; simp
theorem loopM_nxt {R S : Type} {f : S → Option (Out R S)} (inv : Nat → S) (N : Nat) (h : ∀ i, i < N → f (inv i) = some (.nxt (inv (i + 1)))) : ∀ (m i k : Nat), i + m = N → loopM f (k + m) (inv i) = loopM f k (inv N)
  | 0, i, k, e => by rw [show i = N by omega]; rfl
  | m + 1, i, k, e => by
    rw [← Nat.add_assoc, loopM, h i (by omega)]
    exact loopM_nxt inv N h m (i + 1) k (by omega)
theorem loopM_all {R S : Type} {f : S → Option (Out R S)} (inv : Nat → S) (N : Nat) {s : S} (h : ∀ i, i < N → f (inv i) = some (.nxt (inv (i + 1)))) (he : f (inv N) = some (.brk s)) (hN : N < FUEL) : loopM f FUEL (inv 0) = some (.brk s) := by
  have e : FUEL = (FUEL - N - 1) + 1 + N := by omega
  rw [e, loopM_nxt inv N h N 0 _ (by omega), loopM, he]
theorem toL {R α : Type} {f : List α × Int → Option (Out R (List α × Int))} {z : α} (xs : List α) (hN : xs.length ≤ 9223372036854775807)
    (hstep : ∀ ys i (h : i < xs.length), ys.length = xs.length → f (ys, (i : Int)) = some (.nxt (ys.set i xs[i], ((i + 1 : Nat) : Int)))) (hend : ∀ ys, ys.length = xs.length → f (ys, (xs.length : Int)) = some (.brk (ys, (xs.length : Int)))) :
    loopM f FUEL (List.replicate xs.length z, 0) = some (.brk (xs, (xs.length : Int))) := by
  have h0 : (List.replicate xs.length z, (0 : Int)) = (fun i : Nat => (xs.take i ++ (List.replicate xs.length z).drop i, (i : Int))) 0 := by simp
  rw [h0]
  refine loopM_all (fun i : Nat => (xs.take i ++ (List.replicate xs.length z).drop i, (i : Int))) xs.length (fun i hi => ?_) ?_ (fuelUp _ hN)
  · have hl : (xs.take i ++ (List.replicate xs.length z).drop i).length = xs.length := by
      rw [List.length_append, List.length_take, List.length_drop, List.length_replicate]; omega
    rw [hstep _ i hi hl]
    congr 3
    have ht : (xs.take i).length = i := by rw [List.length_take]; omega
    rw [List.set_append_right _ _ (by omega), ht, Nat.sub_self, List.drop_eq_getElem_cons (by rw [List.length_replicate]; exact hi), List.set_cons_zero, List.take_succ_eq_append_getElem hi, List.append_assoc]
    rfl
  · have := hend xs rfl
    rw [List.take_of_length_le (Nat.le_refl _), List.drop_of_length_le (by rw [List.length_replicate]; exact Nat.le_refl _), List.append_nil]
    exact this
def SzOk {α : Type} [Data α] (m : α → Int → Option Int) : Prop := ∀ x l, Data.lim x → 0 ≤ l → l ≤ 1048576 → ∃ r, m x l = some r ∧ (r < 0 ∨ (0 ≤ r ∧ r ≤ l ∧ Data.sm x))
def ToOk {α : Type} [Data α] (m : α → Option α) : Prop := ∀ x, Data.sm x → m x = some x
def EqOk {α : Type} [Data α] [DecidableEq α] (m : α → α → Option Bool) : Prop := ∀ x y, Data.sm x → Data.sm y → m x y = some (decide (x = y))
theorem szGo {α : Type} [Data α] {f : Int × Int → Option (Out Int (Int × Int))} (xs : List α)
    (hstep : ∀ i (h : i < xs.length) l, 0 ≤ l → l ≤ 1048576 → ∃ r, f (l, (i : Int)) = some (if r < 0 then .ret (-1) else .nxt (r, ((i + 1 : Nat) : Int))) ∧ (r < 0 ∨ (0 ≤ r ∧ r ≤ l ∧ Data.sm xs[i])))
    (hend : ∀ l, f (l, (xs.length : Int)) = some (.brk (l, (xs.length : Int)))) : ∀ (m i k : Nat) (l : Int), i + m = xs.length → m < k → 0 ≤ l → l ≤ 1048576 →
      loopM f k (l, (i : Int)) = some (.ret (-1)) ∨ ∃ r, loopM f k (l, (i : Int)) = some (.brk (r, (xs.length : Int))) ∧ 0 ≤ r ∧ r ≤ l ∧ ∀ j (h : j < xs.length), i ≤ j → Data.sm xs[j]
  | 0, i, k, l, e, hk, h0, h1 => by
    obtain ⟨k, rfl⟩ : ∃ q, k = q + 1 := ⟨k - 1, by omega⟩
    obtain rfl : i = xs.length := by omega
    exact .inr ⟨l, by rw [loopM, hend], h0, Int.le_refl _, fun j hj hi => by omega⟩
  | m + 1, i, k, l, e, hk, h0, h1 => by
    obtain ⟨k, rfl⟩ : ∃ q, k = q + 1 := ⟨k - 1, by omega⟩
    obtain ⟨r, e1, e2⟩ := hstep i (by omega) l h0 h1
    rw [loopM, e1]
    rcases e2 with e2 | ⟨e2, e3, e4⟩
    · rw [if_pos e2]; exact .inl rfl
    · rw [if_neg (by omega)]
      rcases szGo xs hstep hend m (i + 1) k r (by omega) (by omega) e2 (by omega) with h | ⟨q, g1, g2, g3, g4⟩
      · exact .inl h
      · refine .inr ⟨q, g1, g2, by omega, fun j hj hi => ?_⟩
        by_cases hji : j = i
        · subst hji; exact e4
        · exact g4 j hj (by omega)
theorem szL {α : Type} [Data α] {f : Int × Int → Option (Out Int (Int × Int))} (xs : List α) {l : Int} (hN : xs.length ≤ 9223372036854775807)
    (hstep : ∀ i (h : i < xs.length) l, 0 ≤ l → l ≤ 1048576 → ∃ r, f (l, (i : Int)) = some (if r < 0 then .ret (-1) else .nxt (r, ((i + 1 : Nat) : Int))) ∧ (r < 0 ∨ (0 ≤ r ∧ r ≤ l ∧ Data.sm xs[i])))
    (hend : ∀ l, f (l, (xs.length : Int)) = some (.brk (l, (xs.length : Int)))) (h0 : 0 ≤ l) (h1 : l ≤ 1048576) :
    ∃ r, (if decide (IntKind.i64.wrap (l - (xs.length : Int)) < 0) then (some (-1)) else (bindL (loopM f FUEL (IntKind.i64.wrap (l - (xs.length : Int)), 0)) (fun r => some r) (fun s4 => some s4.1))) = some r ∧ (r < 0 ∨ (0 ≤ r ∧ r ≤ l ∧ Data.sm xs)) := by
  rw [wrapI (by omega) (by omega)]
  by_cases h : l - (xs.length : Int) < 0
  · exact ⟨-1, by rw [if_pos (decide_eq_true h)], .inl (by decide)⟩
  · rw [if_neg (by simpa using h)]
    rcases szGo xs hstep hend xs.length 0 FUEL (l - xs.length) (by omega) (fuelUp _ hN) (by omega) (by omega) with e | ⟨r, e, g1, g2, g3⟩
    · exact ⟨-1, by rw [show ((0 : Int)) = ((0 : Nat) : Int) from rfl, e]; rfl, .inl (by decide)⟩
    · refine ⟨r, by rw [show ((0 : Int)) = ((0 : Nat) : Int) from rfl, e]; rfl, .inr ⟨g1, by omega, by omega, fun x hx => ?_⟩⟩
      obtain ⟨j, hj, rfl⟩ := List.getElem_of_mem hx
      exact g3 j hj (Nat.zero_le _)
theorem szF {α : Type} [Data α] (xs : List α) {l : Int} (hN : xs.length ≤ 9223372036854775807) (hf : ∀ x : α, Data.sm x) (h0 : 0 ≤ l) (h1 : l ≤ 1048576) :
    ∃ r, (if decide (IntKind.i64.wrap (l - (xs.length : Int)) < 0) then (some (-1)) else (some (IntKind.i64.wrap (l - (xs.length : Int))))) = some r ∧ (r < 0 ∨ (0 ≤ r ∧ r ≤ l ∧ Data.sm xs)) := by
  rw [wrapI (by omega) (by omega)]
  by_cases h : l - (xs.length : Int) < 0
  · exact ⟨-1, by rw [if_pos (decide_eq_true h)], .inl (by decide)⟩
  · exact ⟨_, by rw [if_neg (by simpa using h)], .inr ⟨by omega, by omega, by omega, fun x _ => hf x⟩⟩
theorem eqGo {α : Type} [DecidableEq α] {f : Int → Option (Out Bool Int)} (xs ys : List α) (hl : xs.length = ys.length)
    (hstep : ∀ i (h : i < xs.length) (h' : i < ys.length), f (i : Int) = some (if xs[i] = ys[i] then .nxt ((i + 1 : Nat) : Int) else .ret false)) (hend : f (xs.length : Int) = some (.brk (xs.length : Int))) : ∀ (m i k : Nat), i + m = xs.length → m < k →
      loopM f k (i : Int) = some (if xs.drop i = ys.drop i then .brk (xs.length : Int) else .ret false)
  | 0, i, k, e, hk => by
    obtain ⟨k, rfl⟩ : ∃ q, k = q + 1 := ⟨k - 1, by omega⟩
    obtain rfl : i = xs.length := by omega
    rw [loopM, hend, List.drop_of_length_le (Nat.le_refl _), List.drop_of_length_le (by omega), if_pos rfl]
  | m + 1, i, k, e, hk => by
    obtain ⟨k, rfl⟩ : ∃ q, k = q + 1 := ⟨k - 1, by omega⟩
    have hi : i < xs.length := by omega
    have hi' : i < ys.length := by omega
    have d1 := List.drop_eq_getElem_cons hi
    have d2 := List.drop_eq_getElem_cons hi'
    rw [loopM, hstep i hi hi', d1, d2]
    by_cases h : xs[i] = ys[i]
    · rw [if_pos h]
      simp only
      rw [eqGo xs ys hl hstep hend m (i + 1) k (by omega) (by omega)]
      simp only [List.cons.injEq, h, true_and]
    · rw [if_neg h]
      simp only [List.cons.injEq, h, false_and, if_false]
theorem eqL {α : Type} [DecidableEq α] {f : Int → Option (Out Bool Int)} (xs ys : List α) (hN : xs.length ≤ 9223372036854775807)
    (hstep : ∀ i (h : i < xs.length) (h' : i < ys.length), f (i : Int) = some (if xs[i] = ys[i] then .nxt ((i + 1 : Nat) : Int) else .ret false)) (hend : f (xs.length : Int) = some (.brk (xs.length : Int))) :
    (if (xs.length : Int) != (ys.length : Int) then (some false) else (bindL (loopM f FUEL 0) (fun r => some r) (fun s4 => some true))) = some (decide (xs = ys)) := by
  by_cases hl : xs.length = ys.length
  · rw [if_neg (by rw [hl]; simp), show ((0 : Int)) = ((0 : Nat) : Int) from rfl, eqGo xs ys hl hstep hend xs.length 0 FUEL (by omega) (fuelUp _ hN)]
    by_cases h : xs = ys
    · subst h; simp [bindL]
    · simp [bindL, h]
  · have : xs ≠ ys := fun e => hl (by rw [e])
    rw [if_pos (by simp; omega)]; simp [this]
theorem iteOpt {α : Type} {c d : Prop} [Decidable c] [Decidable d] {a b : α} (h : c ↔ d) : (if c then some a else some b) = some (if d then a else b) := by
  by_cases k : c
  · rw [if_pos k, if_pos (h.1 k)]
  · rw [if_neg k, if_neg (fun e => k (h.2 e))]
theorem iteOptN {α : Type} {c d : Prop} [Decidable c] [Decidable d] {a b : α} (h : c ↔ ¬ d) : (if c then some b else some a) = some (if d then a else b) := by
  by_cases k : d
  · rw [if_neg (fun e => h.1 e k), if_pos k]
  · rw [if_pos (h.2 k), if_neg k]
theorem cmpGo {f : Int → Option (Out Int Int)} (xs ys : List Int)
    (hstep : ∀ i (h : i < xs.length) (h' : i < ys.length), f (i : Int) = some (if xs[i] < ys[i] then .ret (-1) else if xs[i] > ys[i] then .ret 1 else .nxt ((i + 1 : Nat) : Int))) (hend : ∀ i, xs.length ≤ i ∨ ys.length ≤ i → f (i : Int) = some (.brk (i : Int))) : ∀ (m i k : Nat), i + m = xs.length → m < k →
      (∃ r, loopM f k (i : Int) = some (.ret r) ∧ r ≠ 0 ∧ xs ≠ ys) ∨ ∃ s, loopM f k (i : Int) = some (.brk s) ∧ (xs.length = ys.length → xs.drop i = ys.drop i)
  | 0, i, k, e, hk => by
    obtain ⟨k, rfl⟩ : ∃ q, k = q + 1 := ⟨k - 1, by omega⟩
    exact .inr ⟨_, by rw [loopM, hend i (.inl (by omega))], fun h => by rw [List.drop_of_length_le (by omega), List.drop_of_length_le (by omega)]⟩
  | m + 1, i, k, e, hk => by
    obtain ⟨k, rfl⟩ : ∃ q, k = q + 1 := ⟨k - 1, by omega⟩
    have hi : i < xs.length := by omega
    by_cases hi' : i < ys.length
    · have hne : ∀ h : xs[i] ≠ ys[i], xs ≠ ys := fun h e => h (by subst e; rfl)
      rw [loopM, hstep i hi hi']
      by_cases h1 : xs[i] < ys[i]
      · rw [if_pos h1]; exact .inl ⟨-1, rfl, by decide, hne (by omega)⟩
      · rw [if_neg h1]
        by_cases h2 : xs[i] > ys[i]
        · rw [if_pos h2]; exact .inl ⟨1, rfl, by decide, hne (by omega)⟩
        · rw [if_neg h2]
          rcases cmpGo xs ys hstep hend m (i + 1) k (by omega) (by omega) with h | ⟨s, g1, g2⟩
          · exact .inl h
          · refine .inr ⟨s, g1, fun hl => ?_⟩
            have h3 : xs[i] = ys[i] := by omega
            rw [List.drop_eq_getElem_cons hi, List.drop_eq_getElem_cons hi', g2 hl, h3]
    · exact .inr ⟨_, by rw [loopM, hend i (.inr (by omega))], fun h => by omega⟩
instance : LawfulBEq ByteArray where
  eq_of_beq {a b} h := ByteArray.ext (eq_of_beq (show (a.data == b.data) = true from h))
  rfl {a} := beq_self_eq_true a.data
theorem peta {α β : Type} (p : α × β) : (p.1, p.2) = p := rfl
theorem sm_list {α : Type} [Data α] {xs : List α} (h : Data.sm xs) : xs.length ≤ 1048576 ∧ ∀ x, x ∈ xs → Data.sm x := h
theorem lim_list {α : Type} [Data α] {xs : List α} (h : Data.lim xs) : xs.length ≤ 9223372036854775807 ∧ ∀ x, x ∈ xs → Data.lim x := h
end Go.Proofs.YtcmpdlhbliolaaaGreat.D
/- Printed by genplain.py: what the helpers of the law FnExactHardPair+TractabilityClass compute. -/
set_option linter.unusedVariables false
set_option linter.unusedSimpArgs false
set_option linter.unnecessarySimpa false
set_option synthInstance.maxSize 20000
set_option synthInstance.maxHeartbeats 2000000
namespace Go.Proofs.YtcmpdlhbliolaaaGreat.D
open Go.RowKit
theorem z_szBoolS : SzOk m_w_szBoolS := fun xs l hl h0 h1 => szF xs (lim_list hl).1 (fun _ => trivial) h0 h1
theorem z_szIntS : SzOk m_w_szIntS := fun xs l hl h0 h1 => szF xs (lim_list hl).1 (fun _ => trivial) h0 h1
theorem z_szIntSS : SzOk m_w_szIntSS := fun xs l hl h0 h1 => szL (f := m_w_szIntSS_l0 xs) xs (lim_list hl).1 (fun i h l k0 k1 => by
  obtain ⟨r, e, hr⟩ := z_szIntS xs[i] l ((lim_list hl).2 _ (List.getElem_mem h)) k0 k1
  refine ⟨r, ?_, hr⟩
  simp only [m_w_szIntSS_l0, lt_nat h, if_true, getI_nat h, Option.bind_some, peta, e, wrap_succ (show i < 9223372036854775807 by have := (lim_list hl).1; omega)]
  exact iteOpt (by simp)) (fun l => by simp only [m_w_szIntSS_l0, lt_self]; rfl) h0 h1
theorem z_szAutomaton : SzOk m_w_szAutomaton := by
  intro x l hl h0 h1
  unfold m_w_szAutomaton
  try simp only [peta]
  obtain ⟨r1, e1, k1⟩ := z_szBoolS x.2.1 l hl.2.1 (by omega) (by omega)
  rw [e1]; simp only [Option.bind_some]
  rcases k1 with k1 | ⟨k1, j1, s1⟩
  · exact ⟨-1, by rw [if_pos (decide_eq_true k1)], .inl (by decide)⟩
  rw [if_neg (by simpa using k1)]
  obtain ⟨r2, e2, k2⟩ := z_szIntSS x.2.2 r1 hl.2.2 (by omega) (by omega)
  rw [e2]; simp only [Option.bind_some]
  rcases k2 with k2 | ⟨k2, j2, s2⟩
  · exact ⟨-1, by rw [if_pos (decide_eq_true k2)], .inl (by decide)⟩
  rw [if_neg (by simpa using k2)]
  exact ⟨_, rfl, .inr ⟨by omega, by omega, ⟨trivial, s1, s2⟩⟩⟩
theorem t_toBoolS : ToOk m_w_toBoolS := by
  intro xs hx
  have hn := (sm_list hx).1
  unfold m_w_toBoolS
  rw [mkI_ok (by omega)]; simp only [Option.bind_some]
  rw [toL (f := m_w_toBoolS_l0 xs) xs (by omega) (fun ys i h hy => by simp only [m_w_toBoolS_l0, lt_nat h, if_true, getI_nat h, getI_nat (show i < ys.length by omega), Option.bind_some, peta, wrap_succ (show i < 9223372036854775807 by omega), Int.toNat_natCast]) (fun ys hy => by simp only [m_w_toBoolS_l0, lt_self]; rfl)]
  rfl
theorem t_toIntS : ToOk m_w_toIntS := by
  intro xs hx
  have hn := (sm_list hx).1
  unfold m_w_toIntS
  rw [mkI_ok (by omega)]; simp only [Option.bind_some]
  rw [toL (f := m_w_toIntS_l0 xs) xs (by omega) (fun ys i h hy => by simp only [m_w_toIntS_l0, lt_nat h, if_true, getI_nat h, getI_nat (show i < ys.length by omega), Option.bind_some, peta, wrap_succ (show i < 9223372036854775807 by omega), Int.toNat_natCast]) (fun ys hy => by simp only [m_w_toIntS_l0, lt_self]; rfl)]
  rfl
theorem t_toIntSS : ToOk m_w_toIntSS := by
  intro xs hx
  have hn := (sm_list hx).1
  unfold m_w_toIntSS
  rw [mkI_ok (by omega)]; simp only [Option.bind_some]
  rw [toL (f := m_w_toIntSS_l0 xs) xs (by omega) (fun ys i h hy => by simp only [m_w_toIntSS_l0, lt_nat h, if_true, getI_nat h, getI_nat (show i < ys.length by omega), Option.bind_some, peta, t_toIntS xs[i] ((sm_list hx).2 _ (List.getElem_mem h)), wrap_succ (show i < 9223372036854775807 by omega), Int.toNat_natCast]) (fun ys hy => by simp only [m_w_toIntSS_l0, lt_self]; rfl)]
  rfl
theorem t_toAutomaton : ToOk m_w_toAutomaton := by
  intro x hx
  unfold m_w_toAutomaton
  simp only [peta, Option.bind_some, t_toBoolS x.2.1 hx.2.1, t_toIntSS x.2.2 hx.2.2]
theorem q_eqBoolS : EqOk m_w_eqBoolS := fun xs ys hx hy => eqL (f := m_w_eqBoolS_l0 xs ys) xs ys (by have := (sm_list hx).1; omega) (fun i h h' => by
  simp only [m_w_eqBoolS_l0, lt_nat h, if_true, getI_nat h, getI_nat h', Option.bind_some, peta, wrap_succ (show i < 9223372036854775807 by have := (sm_list hx).1; omega)]
  first | exact iteOpt (by simp) | exact iteOptN (by simp) | exact iteOpt (by simp [Prod.ext_iff])) (by simp only [m_w_eqBoolS_l0, lt_self]; rfl)
theorem q_eqIntS : EqOk m_w_eqIntS := fun xs ys hx hy => eqL (f := m_w_eqIntS_l0 xs ys) xs ys (by have := (sm_list hx).1; omega) (fun i h h' => by
  simp only [m_w_eqIntS_l0, lt_nat h, if_true, getI_nat h, getI_nat h', Option.bind_some, peta, wrap_succ (show i < 9223372036854775807 by have := (sm_list hx).1; omega)]
  first | exact iteOpt (by simp) | exact iteOptN (by simp) | exact iteOpt (by simp [Prod.ext_iff])) (by simp only [m_w_eqIntS_l0, lt_self]; rfl)
theorem q_eqIntSS : EqOk m_w_eqIntSS := fun xs ys hx hy => eqL (f := m_w_eqIntSS_l0 xs ys) xs ys (by have := (sm_list hx).1; omega) (fun i h h' => by
  simp only [m_w_eqIntSS_l0, lt_nat h, if_true, getI_nat h, getI_nat h', Option.bind_some, peta, q_eqIntS xs[i] ys[i] ((sm_list hx).2 _ (List.getElem_mem h)) ((sm_list hy).2 _ (List.getElem_mem h')), wrap_succ (show i < 9223372036854775807 by have := (sm_list hx).1; omega)]
  first | exact iteOpt (by simp) | exact iteOptN (by simp) | exact iteOpt (by simp [Prod.ext_iff])) (by simp only [m_w_eqIntSS_l0, lt_self]; rfl)
theorem q_eqAutomaton : EqOk m_w_eqAutomaton := by
  intro x y hx hy
  unfold m_w_eqAutomaton
  try simp only [peta, Option.bind_some, q_eqBoolS x.2.1 y.2.1 hx.2.1 hy.2.1, q_eqIntSS x.2.2 y.2.2 hx.2.2 hy.2.2]
  repeat' split
  all_goals simp_all [Prod.ext_iff]
end Go.Proofs.YtcmpdlhbliolaaaGreat.D
