/- FnExactFormatMessage: for every input the law returns true and changes nothing that was there. Part 6 of 6. -/
import Derived.Test.YtfojdaengibfgaaDoorFC4
set_option linter.unusedVariables false
set_option linter.unusedSimpArgs false
set_option linter.unnecessarySimpa false
set_option linter.unusedSectionVars false
/- What a function's model says of the function. No program text is named here. -/
set_option linter.unusedVariables false
set_option linter.unusedSimpArgs false
set_option linter.unnecessarySimpa false
set_option linter.unusedSectionVars false
namespace Go.Proofs.YtfojdaengibfgaaDoor.R
open Go.RowKit
open Go.Proofs.YtfojdaengibfgaaDoor.D

theorem resGo_list {vs : List Value} : ∀ {ts : List Ty} {i : Nat} {us : List Value} {d : denH ts}, us.length = ts.length → (∀ j v, us[j]? = some v → vs[i + j]? = some v) → resGo i ts d (.tuple vs.toArray) = resList ts us d
  | [], i, us, d, h, _ => by
    cases us with
    | nil => rfl
    | cons _ _ => cases h
  | t :: ts, i, [], d, h, _ => by cases h
  | t :: ts, i, u :: us, d, h, k => by
    have h0 : vg (.tuple vs.toArray) [i] = u := by
      show vs.toArray.getD i undef = u
      have := k 0 u rfl
      rw [Nat.add_zero] at this
      simp [Array.getD_eq_getD_getElem?, this]
    show Ch.own t.rep (vcells t.isProd (vg (.tuple vs.toArray) [i])) d.1 :: resGo (i + 1) ts d.2 _ = Ch.own t.rep (vcells t.isProd u) d.1 :: resList ts us d.2
    rw [h0, resGo_list (us := us) (by simpa using h) fun j v hj => by
      have := k (j + 1) v (by simpa using hj)
      rwa [show i + (j + 1) = i + 1 + j from by omega] at this]
theorem resGv_list {ts : List Ty} {vs : List Value} {d : denH ts} (h : vs.length = ts.length) : resGv ts d (retV vs) = resList ts vs d := by
  match ts, vs, d, h with
  | [], [], d, _ => rfl
  | [t], [v], d, _ => rfl
  | t :: u :: ts, v :: w :: vs, d, h =>
    show resGo 0 _ d (.tuple (v :: w :: vs).toArray) = _
    exact resGo_list h fun j x hj => by rw [Nat.zero_add]; exact hj
theorem resFa_ok {ts : List Ty} {vs : List Value} (h : vs.length = ts.length) (k : ∀ (i : Nat) t v, ts[i]? = some t → vs[i]? = some v → isAggV v = t.isProd) : resFa ts (retV vs) := by
  match ts, vs, h with
  | [], [], _ => exact ⟨#[], rfl, rfl, fun i t ht => by simp at ht⟩
  | [t], [v], _ => exact k 0 t v rfl rfl
  | t :: u :: ts, v :: w :: vs, h =>
    refine ⟨(v :: w :: vs).toArray, rfl, by simpa using h, fun i t' ht => ?_⟩
    have hlt : i < (v :: w :: vs).length := by rw [h]; exact (List.getElem?_eq_some_iff.1 ht).1
    have := k i t' ((v :: w :: vs)[i]) ht (List.getElem?_eq_getElem hlt)
    rw [← this, Array.getD_eq_getD_getElem?, List.getElem?_toArray, List.getElem?_eq_getElem hlt]; rfl

theorem retAvs_ok {P : Program} {I : Hp} {w0 w : World} {F : Ch} {J : Hp} {θ : Th} {n : Nat} {s : Sg} {a : Act} {tt : TT} (hT : TTok P tt) (hS : Sim P I w0 F n J θ s a w) : ∀ {rs : List ResultVar} {vs : List AV}, retAvs tt s rs = some vs → AllRes P a w rs (vs.map (·.v θ)) ∧ ∀ v ∈ vs, v.ok P w0 J θ s.nxt s.chs
  | [], vs, h => by
    obtain rfl := Option.some.inj (show some [] = some vs from h)
    exact ⟨rfl, fun v hv => by cases hv⟩
  | r :: rs, vs, h => by
    obtain ⟨v, hv', h⟩ := bind_some (show (retAv tt s r).bind _ = some vs from h)
    obtain ⟨us, hus, h⟩ := bind_some h
    obtain rfl := Option.some.inj h
    obtain ⟨k1, k2⟩ := retAv_ok hT hS hv'
    obtain ⟨q1, q2⟩ := retAvs_ok hT hS hus
    refine ⟨⟨_, _, rfl, k1, q1⟩, fun x hx => ?_⟩
    rcases List.mem_cons.1 hx with rfl | hx
    · exact k2
    · exact q2 x hx
theorem sepTo_app {J : Hp} {a b c d : List Ch} (h : SepTo J a b) (k : SepTo J c d) : SepTo J (a ++ c) (b ++ d) := fun w F hs => by
  obtain ⟨G, K, rfl, e1, e2⟩ := hs.split
  exact (h w G e1).append (k w K e2)
theorem St.sepTo {J : Hp} {w0 w : World} {a b C : List Ch} (h : St J w0 w (a ++ C)) (k : SepTo J a b) : St J w0 w (b ++ C) := by
  obtain ⟨h1, h2, F, h3, h4, h5⟩ := h
  obtain ⟨G, K, rfl, e1, e2⟩ := h3.split
  exact ⟨h1, h2, G ++ K, (k w G e1).append e2, h4, h5⟩
theorem con_of_wp' {P : Program} {n : Nat} {I : Hp} {w0 : World} {k : FuncId} {fn : Func} {c : Code} {args : Array Value} {rn : List Ch} {fact : Value → Prop} {gv : Value → List Ch} (L : List (Nat × Value)) (hf : P.funcs[k]? = some fn) (hb : fn.body = some c) (hn : fn.ntmps = n) (hm : args.size ≤ n) (hL : ∀ p ∈ L, args[p.1]? = some p.2)
    (h : ∀ F w a, Agr n a L → St I w0 w (rn ++ [F]) → c.wp P (bodyPost P fn fun e w' => ∃ v, e = .returned v ∧ fact v ∧ ∃ J, I.le J ∧ St J w0 w' (gv v ++ [F])) a w) (hd : ∀ v, Ch.back (gv v)) : Con P k args I w0 rn fact gv := by
  intro w C hs
  have hs' : St I w0 w (rn ++ [Ch.fr I C]) := by
    obtain ⟨hb, hi, F, h1, h2, h3⟩ := hs
    obtain ⟨G, K, rfl, e1, e2⟩ := h1.split
    exact ⟨hb, hi, G ++ K, e1.append ⟨K, [], by simp, e2, rfl⟩, h2, h3⟩
  have := h (Ch.fr I C) w { tmps := args ++ Array.replicate (fn.ntmps - args.size) undef, defers := [] } (Agr.start L (by omega) hL) hs'
  refine (calls_of_wp hf hb this).mono ?_
  rintro e w' ⟨v, rfl, hv, J, hJ, hs⟩
  exact ⟨v, rfl, hv, hs.back hJ (hd v)⟩
theorem prepR_ok {P : Program} {I : Hp} {w0 w : World} {F : Ch} {n : Nat} {J : Hp} {θ : Th} {s : Sg} {a : Act} {tr : Trs} {vs : List AV} (hS : Sim P I w0 F n J θ s a w) : ∃ J' θ', J.le J' ∧ Sim P I w0 F n J' θ' (prepR tr vs s) a w ∧ Fr s θ (prepR tr vs s) θ' := by
  have key : ∃ J' θ', J.le J' ∧ Sim P I w0 F n J' θ' (prepRF tr vs s) a w ∧ Fr s θ (prepRF tr vs s) θ' := by
    unfold prepRF
    split
    · exact ⟨J, θ, Hp.le.rfl, hS, Fr.rfl⟩
    · exact frzL_ok hS
  obtain ⟨J', θ', h1, h2, h3⟩ := key
  obtain ⟨S2, F2⟩ := prepL_ok (V := ⟨[], [], [], n, []⟩) (hs := retHdrs s vs ++ holeHdrs (prepRF tr vs s).chs) h2
  exact ⟨J', θ', h1, S2, h3.trans F2⟩
theorem ret_ok {V : Env} {P : Program} {w0 : World} {F : Ch} {J : Hp} {θ : Th} (hT : TTok P V.tt) {fn : Func} {rs : List Ty} {ps : List PM} {d : denP ps} {vs : List Value} {s0 : Sg} (k0 : vs.length = ps.length) (k5 : StF P w0 J θ ps.length 0 ps vs d) (hn0 : ps.length ≤ s0.nxt) : ∀ r J' θ' s' a' w', rtOf V fn.results.toList rs ps d s' = some r → Sim P J w0 F V.n J' θ' s' a' w' → J.le J' → Fr s0 θ s' θ' →
    bodyPost P fn (fun e w' => ∃ v, e = .returned v ∧ (resFa rs v ∧ (hasAnL 1000000 V.an = true → NilIff rs (hFst rs (outs ps) (toH _ r)) v)) ∧ ∃ J2, J.le J2 ∧ St J2 w0 w' ((resGv rs (hFst rs (outs ps) (toH _ r)) v ++ outCh ps vs (hSnd rs (outs ps) (toH _ r))) ++ [F])) .ret a' w' := by
  intro r J' θ' s' a' w' hrt hS' hJ hFr
  obtain ⟨vs00, hv00, hrt⟩ := bind_some (show (retAvs V.tt s' fn.results.toList).bind _ = some r from hrt)
  obtain ⟨s0', hrt, S0, N0⟩ := viewL_ok hrt (retAvs_ok hT hS' hv00).2 hS'
  obtain ⟨vs0, hv0, hrt⟩ := bind_some hrt
  obtain ⟨J1, θ1, hJ1, S1, F1⟩ := prepR_ok (tr := V.tr) (vs := vs0) S0
  generalize prepR V.tr vs0 s0' = s1 at hrt S1 F1
  have hle : s0.nxt ≤ s'.nxt := hFr.1
  have hsame : Same ps.length θ θ1 := fun i hi => (F1.same i (by omega)).trans (hFr.same i (by omega))
  replace hJ := hJ.trans hJ1
  clear hJ1 F1 hS' S0 hFr
  revert J1 θ1
  clear J' θ'
  intro J' θ' S1 hsame hJ
  obtain ⟨us, hus, hrt⟩ := bind_some hrt
  obtain ⟨q, hq, hrt⟩ := bind_some hrt
  obtain ⟨o, ho, hrt⟩ := bind_some hrt
  obtain ⟨u0, hnl, hrt⟩ := bind_some hrt
  obtain rfl := Option.some.inj hrt
  obtain ⟨r1, r2⟩ := retAvs_ok hT S1 hus
  obtain ⟨t1, t2, t3, t4⟩ := takeRes_ok (J := J') (θ := θ') hq r2
  obtain ⟨o1, o2⟩ := takeOuts_ok (P := P) (J := J) (J' := J') (θ := θ) (θ' := θ') (vs := vs) (n := ps.length) (n' := s1.nxt) (chs0 := s1.chs) hJ hsame ho k0 k5 fun e he => S1.fine.chs e (t1.mem_iff.2 (by simp [he]))
  have hl : (us.map (·.v θ')).length = rs.length := by rw [List.length_map]; exact t2
  refine ret_n S1.agr r1 ⟨_, rfl, ⟨resFa_ok hl fun i t v ht hv1 => ?_, fun han => ?_⟩, J', hJ, ?_⟩
  · rw [List.getElem?_map] at hv1
    obtain ⟨x, hx, rfl⟩ := Option.map_eq_some_iff.1 hv1
    exact t4 i t x ht hx
  · rw [toH_ofH, hFst_app]
    unfold nlChk at hnl
    rw [han] at hnl
    have hnl : 0 < nlN us rs q.1 := chk_some hnl
    rcases us with _ | ⟨x, us⟩
    · cases hnl
    · cases us with
      | nil => exact nlN_ok (θ := θ') hnl rfl
      | cons y us => unfold nlN at hnl; split at hnl <;> first | omega | simp_all
  · rw [toH_ofH, hFst_app, hSnd_app, resGv_list hl]
    have hp := t1.trans (o1.append_left _)
    have h1 := S1.st.perm ((hp.map (toCh P θ')).append_right [F])
    have h2 : St J' w0 w' ((q.2.1.map (toCh P θ') ++ o.2.1.map (toCh P θ')) ++ (o.2.2.map (toCh P θ') ++ [F])) := by
      simpa [List.map_append, List.append_assoc] using h1
    have h3 := St.sepTo h2 (sepTo_app t3 o2)
    refine St.left (ds := o.2.2.map (toCh P θ')) (h3.perm ?_)
    simp only [List.append_assoc]
    exact List.Perm.append_left _ (List.Perm.append_left _ List.perm_append_comm)
theorem fok_con {V : Env} {P : Program} (hT : TTok P V.tt) (hF : FTok P V.ft) (hmx : P.follows .mixedOrders = true) {k : FuncId} {fn : Func} {c : Code} {f : FS} (hf : P.funcs[k]? = some fn) (hb : fn.body = some c) (hn : fn.ntmps = V.n) (hen : Enters P k) (hm : f.ps.length ≤ V.n) (hdp : (backR f.rs && outDp f.ps) = true) (ann : Ann)
    (hmod : ∀ d, appP f.ps f.m d = interp V (rtOf V fn.results.toList f.rs f.ps d) c ann (fun r => some r) (fun _ _ => none) (rtOf V fn.results.toList f.rs f.ps d) (openA (startS f.ps d))) : ∀ w0 J vs (d : denP f.ps) r, Lay P J → PArgs P w0 J f.ps vs d → appP f.ps f.m d = some r → Con P k vs.toArray J w0 (owCh f.ps vs d) (fun v => resFa f.rs v ∧ (hasAnL 1000000 V.an = true → NilIff f.rs (hFst f.rs (outs f.ps) (toH _ r)) v)) (fun v => resGv f.rs (hFst f.rs (outs f.ps) (toH _ r)) v ++ outCh f.ps vs (hSnd f.rs (outs f.ps) (toH _ r))) := by
  rw [Bool.and_eq_true] at hdp
  intro w0 J vs d r hlay ha hr
  rw [hmod] at hr
  let θ : Th := fun i => vs.getD i undef
  have hθ : ∀ j v, vs[j]? = some v → θ (0 + j) = v := fun j v hj => by
    show vs.getD (0 + j) undef = v
    rw [Nat.zero_add, List.getD_eq_getElem?_getD, hj]; rfl
  have k0 := pargs_len ha
  have hzip : ∀ p ∈ (vs.zipIdx.map fun q => (q.2, q.1)), vs.toArray[p.1]? = some p.2 := fun p hp => by
    obtain ⟨q, hq, rfl⟩ := List.mem_map.1 hp
    obtain ⟨v, j⟩ := q
    have := (List.mk_mem_zipIdx_iff_getElem? (x := v) (i := j)).1 hq
    simpa using this
  refine con_of_wp' (n := V.n) (vs.zipIdx.map fun q => (q.2, q.1)) hf hb hn (by rw [List.size_toArray, k0]; exact hm) hzip (fun F w a hA hst => ?_) (fun v => resGv_back (outCh_deep _ _ _ hdp.2) _ _ hdp.1)
  · obtain ⟨k1, k2, k3, k4, k5⟩ := start_ok (n := f.ps.length) (C := [F]) ha hθ (by omega) hst
    have hfine : Fine P w0 J θ (startS f.ps d) := ⟨fun e he => (k1 e he).1 _, fun e he => by have := k1 e he; show e.2.1 < f.ps.length; omega, k2, fun e he => k4 e he _, hlay⟩
    have hA' : Agr V.n a (envL θ (startS f.ps d)) := hA.pick _ fun p hp => by
      obtain ⟨e, he, rfl⟩ := List.mem_map.1 hp
      have h5 := (k1 e he).2.2.2.2
      rw [Nat.sub_zero] at h5
      have key : ∀ (l : List Value) (k : Nat) (i : Nat) (v : Value), k ≤ i → l[i - k]? = some v → ((l.zipIdx k).map fun q => (q.2, q.1)).lookup i = some v := by
        intro l
        induction l with
        | nil => intro k i v _ h; simp at h
        | cons x l ih =>
          intro k i v hk h
          simp only [List.zipIdx_cons, List.map_cons, List.lookup_cons]
          by_cases e : i = k
          · subst e
            simp at h
            simp [h]
          · have : (i == k) = false := by simpa using e
            rw [this]
            refine ih (k + 1) i v (by omega) ?_
            rw [show i - k = (i - (k + 1)) + 1 from by omega] at h
            simpa using h
      exact key vs 0 e.1 _ (Nat.zero_le _) h5
    have hS : Sim P J w0 F V.n J θ (startS f.ps d) a w := ⟨Hp.le.rfl, hA', k3, hfine⟩
    have fin := ret_ok (rs := f.rs) (fn := fn) (F := F) hT k0 k5 (Nat.le_refl (startS f.ps d).nxt)
    obtain ⟨θ0, hS0, hFr0⟩ := openA_ok hS
    exact (interp_both (I := J) (w0 := w0) (F := F) hT hF hmx c).1 ann hr hS0 (fun J' θ' s' a' w' hk S' hJ hFr => fin r J' θ' s' a' w' hk S' hJ (hFr0.trans hFr)) (fun i J' θ' s' a' w' hk => by cases hk) (fun r' J' θ' s' a' w' hrt hrr hS' hJ hFr => by
      obtain rfl := Option.some.inj hrr
      exact fin _ J' θ' s' a' w' hrt hS' hJ (hFr0.trans hFr))
theorem fok {V : Env} {P : Program} (hT : TTok P V.tt) (hF : FTok P V.ft) (hmx : P.follows .mixedOrders = true) {k : FuncId} {fn : Func} {c : Code} {f : FS} (hf : P.funcs[k]? = some fn) (hb : fn.body = some c) (hn : fn.ntmps = V.n) (hen : Enters P k) (hcl : f.cl = none) (hm : f.ps.length ≤ V.n) (hdp : (backR f.rs && outDp f.ps) = true) (ann : Ann)
    (hmod : ∀ d, appP f.ps f.m d = interp V (rtOf V fn.results.toList f.rs f.ps d) c ann (fun r => some r) (fun _ _ => none) (rtOf V fn.results.toList f.rs f.ps d) (openA (startS f.ps d))) : FOk P k f :=
  ⟨fun q hq => by (rw [hcl] at hq; cases hq), fun _ => hen, fun w0 J vs d r hlay ha hr w C hs => (fok_con hT hF hmx hf hb hn hen hm hdp ann hmod w0 J vs d r hlay ha hr w C hs).mono fun e w' ⟨v, h1, h2, h3⟩ => ⟨v, h1, h2.1, h3⟩⟩
/-! ### Elements of some cells, whatever lies in them -/
end Go.Proofs.YtfojdaengibfgaaDoor.R
/- Functions over rows, whatever lies in their elements. No program text is named here. -/
set_option linter.unusedVariables false
set_option linter.unusedSimpArgs false
set_option linter.unnecessarySimpa false
set_option linter.unusedSectionVars false
namespace Go.Proofs.YtfojdaengibfgaaDoor.R
open Go.RowKit
open Go.Proofs.YtfojdaengibfgaaDoor.D

/-! ### Delete -/
/-! ### Insert -/
end Go.Proofs.YtfojdaengibfgaaDoor.R
/- strings.Join and strconv.Itoa (the shelf's contracts, brought to data). No program text is named here. -/
set_option linter.unusedVariables false
set_option linter.unusedSimpArgs false
set_option linter.unnecessarySimpa false
namespace Go.Proofs.YtfojdaengibfgaaDoor.R
open Go.RowKit Go.Shelf Go.Sort
open Go.Proofs.YtfojdaengibfgaaDoor.D
def joinS (xs : List ByteArray) (sep : ByteArray) : Option ByteArray := (chk (xs.length ≤ 140737488355328 ∧ (Lib.join (xs.map (·.data.toList)) sep.data.toList).length ≤ 140737488355328)).bind fun _ => some ⟨(Lib.join (xs.map (·.data.toList)) sep.data.toList).toArray⟩
def itoaS (n : Int) : Option ByteArray := (chk (-9223372036854775808 ≤ n ∧ n ≤ 9223372036854775807)).bind fun _ => some ⟨(Lib.itoa n).toArray⟩
section
variable {P : Program} {ρ : Ren}
theorem St.grownS {I : Hp} {w0 w : World} {cs : List Ch} (h : St I w0 w cs) (os : Array Obj) : St I w0 (grow w os) cs := by
  refine St.step (w := w) (c := []) (c' := []) h rfl rfl rfl (by simp [grow]) ?_
  rintro F rfl - -
  exact ⟨fun b hb _ => heap_grow_old w os hb, [], rfl, List.nodup_nil, by simp⟩
theorem St.belowS {I : Hp} {w0 w w' : World} {cs : List Ch} (h : St I w0 w cs) (hb : Below w.heap.size w w') : St I w0 w' cs := by
  refine St.step (w := w) (c := []) (c' := []) h hb.os hb.tape hb.output hb.size ?_
  rintro F rfl - -
  exact ⟨fun b hb' _ => hb.block b hb', [], rfl, List.nodup_nil, by simp⟩
theorem fok_itoa (L : LaysM.n171 P ρ) (en : Enters P (ρ.f 171)) : FOk P (ρ.f 171) ⟨[.rd (.int .i64)], [.str], fun n => itoaS n, none⟩ := by
  refine ⟨fun q hq => (by cases hq), fun _ => en, fun w0 J vs d r hlay ha happ => ?_⟩
  obtain ⟨v, vs1, rfl, ⟨c1, l1, r1⟩, hnil⟩ := ha
  obtain rfl : vs1 = [] := hnil
  obtain ⟨n0, un⟩ := d
  let n : Int := n0
  obtain rfl : c1 = [v] := l1
  obtain rfl : v = .int .i64 n := (List.cons.inj r1).1
  obtain ⟨u1, hc, hz⟩ := Option.bind_eq_some_iff.1 (show itoaS n = some r from happ)
  have hc := chk_some hc
  obtain rfl := Option.some.inj hz
  intro w C hst
  have hst : St J w0 w C := hst
  refine (Any.strconv_Itoa L n hc.1 hc.2 w (hlay w hst.2.1).tab).mono ?_
  rintro e w' ⟨rfl, k, os, rfl⟩
  have hw : St J w0 (w.drewN k) C := hst.drawn rfl rfl rfl rfl
  exact ⟨_, rfl, rfl, D.St.free (R := rStr) (c := [.string _]) (St.grownS hw os) ⟨rfl, rfl⟩⟩
theorem fok_join (L : Lays.n156 P ρ) (X : Builder.Extra P ρ) (E : TypeId) (en : Enters P (ρ.f 156)) : FOk P (ρ.f 156) ⟨[.rd (.sl E .str), .rd .str], [.str], fun xs s => joinS xs s, none⟩ := by
  refine ⟨fun q hq => (by cases hq), fun _ => en, fun w0 J vs d r hlay ha happ => ?_⟩
  obtain ⟨v, vs1, rfl, ⟨c1, l1, r1⟩, v2, vs2, rfl, ⟨c2, l2, r2⟩, hnil⟩ := ha
  obtain rfl : vs2 = [] := hnil
  obtain ⟨xs0, sep, un⟩ := d
  let xs : List ByteArray := xs0
  obtain rfl : c1 = [v] := l1
  obtain rfl : c2 = [v2] := l2
  obtain rfl : v2 = .string sep := (List.cons.inj r2).1
  obtain ⟨u1, hc, hz⟩ := Option.bind_eq_some_iff.1 (show joinS xs sep = some r from happ)
  have hc := chk_some hc
  obtain rfl := Option.some.inj hz
  obtain ⟨ao, cap, hv, ⟨hl, hcap⟩, hx⟩ : ((rSlice E rStr).rd J [v] xs) := r1
  obtain rfl := (List.cons.inj hv).1
  intro w C hst
  have hst : St J w0 w C := hst
  rcases hx with hx | ⟨b, off, ccs, t, fr, rfl, h2, h4⟩
  · have hx : xs = [] := hx
    rw [hx] at hc ⊢
    refine (Any.strings_Join_none L X ao cap sep w).mono ?_
    rintro e w' ⟨rfl, rfl⟩
    refine ⟨_, rfl, rfl, ?_⟩
    exact D.St.free (R := rStr) (c := [.string _]) hst ⟨rfl, rfl⟩
  · have hg := hst.2.1 _ _ h2
    have hblk : b < w.heap.size := (Array.getElem?_eq_some_iff.1 hg).1
    refine (Any.strings_Join L X b off cap xs sep w (fun j x hj => ?_) hblk hc.1 hcap hc.2).mono ?_
    · obtain ⟨c, e1, e2, e3⟩ := h4 j x hj
      obtain rfl : c = [.string x] := e3
      have := e2 0 Nat.one_pos
      have e : off + j * rStr.size + 0 = off + j := by show off + j * 1 + 0 = _; omega
      rw [e] at this
      unfold World.cell?
      have hg : w.heap[b]? = some (.cells ccs t fr) := hg
      simp only [hg]
      rw [← Array.getElem?_toList, this]
      rfl
    · rintro e w' ⟨rfl, hb⟩
      exact ⟨_, rfl, rfl, D.St.free (R := rStr) (c := [.string _]) (St.belowS hst hb) ⟨rfl, rfl⟩⟩
end
end Go.Proofs.YtfojdaengibfgaaDoor.R
/- The shelf's functions on strings laid at this program. -/
namespace Go.Proofs.YtfojdaengibfgaaDoor.R
open Go.Shelf
def laysJoin_ren : Go.Shelf.Ren := ⟨fun | 156 => 29 | 165 => 39 | 166 => 40 | 169 => 41 | 240 => 46 | 241 => 47 | 276 => 52 | 277 => 53 | n => n, fun | 31 => 54 | 9 => 9 | 3 => 3 | 4 => 4 | 0 => 0 | 20 => 20 | 72 => 63 | 76 => 67 | 70 => 61 | 37 => 45 | 75 => 66 | 127 => 74 | 164 => 81 | 5 => 5 | 80 => 69 | n => n, fun | n => n⟩
theorem laysJoin : Go.Proofs.Lays.n156 Tryd.prog laysJoin_ren := {
  mixed := by kernel_rfl
  f156 := Tryd.func29.trans (congrArg some (by kernel_rfl))
  f165 := Tryd.func39.trans (congrArg some (by kernel_rfl))
  f166 := Tryd.func40.trans (congrArg some (by kernel_rfl))
  f169 := Tryd.func41.trans (congrArg some (by kernel_rfl))
  f240 := Tryd.func46.trans (congrArg some (by kernel_rfl))
  f241 := Tryd.func47.trans (congrArg some (by kernel_rfl))
  f276 := Tryd.func52.trans (congrArg some (by kernel_rfl))
  f277 := Tryd.func53.trans (congrArg some (by kernel_rfl))
  t0 := Tryd.underlying0
  a0 := Tryd.isAgg0
  z0 := Tryd.sizeOf0
  v0 := Tryd.zeroValue0
  t3 := Tryd.underlying3
  a3 := Tryd.isAgg3
  z3 := Tryd.sizeOf3
  v3 := Tryd.zeroValue3
  t4 := Tryd.underlying4
  a4 := Tryd.isAgg4
  z4 := Tryd.sizeOf4
  v4 := Tryd.zeroValue4
  t9 := Tryd.underlying9
  a9 := Tryd.isAgg9
  z9 := Tryd.sizeOf9
  v9 := Tryd.zeroValue9
  t20 := Tryd.underlying20
  a20 := Tryd.isAgg20
  z20 := Tryd.sizeOf20
  v20 := Tryd.zeroValue20
  t31 := Tryd.underlying54
  a31 := Tryd.isAgg54
  z31 := Tryd.sizeOf54
  v31 := Tryd.zeroValue54
  t37 := Tryd.underlying45
  a37 := Tryd.isAgg45
  z37 := Tryd.sizeOf45
  v37 := Tryd.zeroValue45
  t70 := Tryd.underlying61
  a70 := Tryd.isAgg61
  z70 := Tryd.sizeOf61
  v70 := Tryd.zeroValue61
  t72 := Tryd.underlying63
  a72 := Tryd.isAgg63
  z72 := Tryd.sizeOf63
  v72 := Tryd.zeroValue63
  t75 := Tryd.underlying66
  a75 := Tryd.isAgg66
  z75 := Tryd.sizeOf66
  v75 := Tryd.zeroValue66
  t76 := Tryd.underlying67
  a76 := Tryd.isAgg67
  z76 := Tryd.sizeOf67
  v76 := Tryd.zeroValue67
  t127 := Tryd.underlying74
  a127 := Tryd.isAgg74
  z127 := Tryd.sizeOf74
  v127 := Tryd.zeroValue74
  t164 := Tryd.underlying81
  a164 := Tryd.isAgg81
  z164 := Tryd.sizeOf81
  v164 := Tryd.zeroValue81 }
def laysItoa_ren : Go.Shelf.Ren := ⟨fun | 171 => 22 | 243 => 30 | 246 => 42 | 283 => 48 | 284 => 49 | 285 => 50 | 286 => 51 | 129 => 55 | 317 => 54 | 318 => 56 | 319 => 57 | 320 => 58 | 337 => 59 | 338 => 60 | n => n, fun | 3 => 3 | 9 => 9 | 2 => 2 | 4 => 4 | 171 => 75 | 0 => 0 | 53 => 76 | 37 => 45 | 5 => 5 | 173 => 79 | 212 => 86 | 51 => 87 | 20 => 20 | 213 => 88 | 46 => 90 | 232 => 93 | 233 => 94 | n => n, fun | 17 => 0 | 18 => 2 | 19 => 3 | n => n⟩
theorem laysItoa : Go.Proofs.LaysM.n171 Tryd.prog laysItoa_ren := {
  mixed := by kernel_rfl
  f129 := Tryd.func55.trans (congrArg some (by kernel_rfl))
  f171 := Tryd.func22.trans (congrArg some (by kernel_rfl))
  f243 := Tryd.func30.trans (congrArg some (by kernel_rfl))
  f246 := Tryd.func42.trans (congrArg some (by kernel_rfl))
  f283 := Tryd.func48.trans (congrArg some (by kernel_rfl))
  f284 := Tryd.func49.trans (congrArg some (by kernel_rfl))
  f285 := Tryd.func50.trans (congrArg some (by kernel_rfl))
  f286 := Tryd.func51.trans (congrArg some (by kernel_rfl))
  f317 := Tryd.func54.trans (congrArg some (by kernel_rfl))
  f318 := Tryd.func56.trans (congrArg some (by kernel_rfl))
  f319 := Tryd.func57.trans (congrArg some (by kernel_rfl))
  f320 := Tryd.func58.trans (congrArg some (by kernel_rfl))
  f337 := Tryd.func59.trans (congrArg some (by kernel_rfl))
  f338 := Tryd.func60.trans (congrArg some (by kernel_rfl))
  t0 := Tryd.underlying0
  a0 := Tryd.isAgg0
  z0 := Tryd.sizeOf0
  v0 := Tryd.zeroValue0
  t2 := Tryd.underlying2
  a2 := Tryd.isAgg2
  z2 := Tryd.sizeOf2
  v2 := Tryd.zeroValue2
  t3 := Tryd.underlying3
  a3 := Tryd.isAgg3
  z3 := Tryd.sizeOf3
  v3 := Tryd.zeroValue3
  t4 := Tryd.underlying4
  a4 := Tryd.isAgg4
  z4 := Tryd.sizeOf4
  v4 := Tryd.zeroValue4
  t5 := Tryd.underlying5
  a5 := Tryd.isAgg5
  z5 := Tryd.sizeOf5
  v5 := Tryd.zeroValue5
  t9 := Tryd.underlying9
  a9 := Tryd.isAgg9
  z9 := Tryd.sizeOf9
  v9 := Tryd.zeroValue9
  t20 := Tryd.underlying20
  a20 := Tryd.isAgg20
  z20 := Tryd.sizeOf20
  v20 := Tryd.zeroValue20
  t37 := Tryd.underlying45
  a37 := Tryd.isAgg45
  z37 := Tryd.sizeOf45
  v37 := Tryd.zeroValue45
  t46 := Tryd.underlying90
  a46 := Tryd.isAgg90
  z46 := Tryd.sizeOf90
  v46 := Tryd.zeroValue90
  t51 := Tryd.underlying87
  a51 := Tryd.isAgg87
  z51 := Tryd.sizeOf87
  v51 := Tryd.zeroValue87
  t53 := Tryd.underlying76
  a53 := Tryd.isAgg76
  z53 := Tryd.sizeOf76
  v53 := Tryd.zeroValue76
  t171 := Tryd.underlying75
  a171 := Tryd.isAgg75
  z171 := Tryd.sizeOf75
  v171 := Tryd.zeroValue75
  t173 := Tryd.underlying79
  a173 := Tryd.isAgg79
  z173 := Tryd.sizeOf79
  v173 := Tryd.zeroValue79
  t212 := Tryd.underlying86
  a212 := Tryd.isAgg86
  z212 := Tryd.sizeOf86
  v212 := Tryd.zeroValue86
  t213 := Tryd.underlying88
  a213 := Tryd.isAgg88
  z213 := Tryd.sizeOf88
  t232 := Tryd.underlying93
  a232 := Tryd.isAgg93
  z232 := Tryd.sizeOf93
  v232 := Tryd.zeroValue93
  t233 := Tryd.underlying94
  a233 := Tryd.isAgg94
  z233 := Tryd.sizeOf94
  v233 := Tryd.zeroValue94
  g17 := by kernel_rfl
  g18 := by kernel_rfl
  g19 := by kernel_rfl
  i0 := by kernel_rfl
  i2 := by kernel_rfl
  i3 := by kernel_rfl
  i4 := by kernel_rfl
  i5 := by kernel_rfl
  i9 := by kernel_rfl
  i20 := by kernel_rfl
  i37 := by kernel_rfl
  i46 := by kernel_rfl
  i51 := by kernel_rfl
  i53 := by kernel_rfl
  i171 := by kernel_rfl
  i173 := by kernel_rfl
  i212 := by kernel_rfl
  i232 := by kernel_rfl
  i233 := by kernel_rfl
  m17 := by kernel_rfl
  m18 := by kernel_rfl
  m19 := by kernel_rfl }
theorem extraJoin : Go.Proofs.Builder.Extra Tryd.prog laysJoin_ren where
  sizeBuilder := by kernel_rfl
  liesBuilder := by kernel_rfl
  t5 := Tryd.underlying5
  a5 := Tryd.isAgg5
  z5 := Tryd.sizeOf5
  v5 := Tryd.zeroValue5
  infoByte := by kernel_rfl
  cellsByte := by kernel_rfl
  sizeByte := by kernel_rfl
  neB5 := by decide

end Go.Proofs.YtfojdaengibfgaaDoor.R
/- Types: how the entries of a table are laid. No program text is named here. -/
set_option linter.unusedVariables false
set_option linter.unusedSimpArgs false
namespace Go.Proofs.YtfojdaengibfgaaDoor.R
open Go.RowKit
open Go.Proofs.YtfojdaengibfgaaDoor.D

def FldAll (P : Program) (T : TypeId) : Nat → List (Nat × Nat) → Prop
  | _, [] => True
  | i, q :: l => TF P T i q.1 q.2 ∧ FldAll P T (i + 1) l
theorem FldAll.get {P : Program} {T : TypeId} : ∀ {l : List (Nat × Nat)} {i : Nat}, FldAll P T i l → ∀ f q, l[f]? = some q → TF P T (i + f) q.1 q.2
  | [], _, _, f, q, h => by simp at h
  | x :: l, i, ⟨h1, h2⟩, f, q, h => by
    cases f with
    | zero => simp at h; subst h; exact h1
    | succ f =>
      have := FldAll.get h2 f q (by simpa using h)
      rwa [show i + 1 + f = i + (f + 1) from by omega] at this
section
variable {P : Program} {T : TypeId}
theorem td_flat {n b : Nat} {ty : Ty} {z : Value} {boo : Bool} {ik : Option (Option IntKind)} (h1 : TI P T false 1) (h2 : ty.size = 1) (h3 : TZ P T z 1 b) (h4 : z.cells = (zeroCells ty).toArray) (h5 : 1 ≤ b) (h6 : boo = true → P.underlying T = some .bool) (h7 : ∀ k, ik = some k → P.underlying T = some (ikD k)) : TDok P T ⟨false, 1, none, ty, [], some b, none, boo, none, none, ik, false, none⟩ :=
  ⟨h1, rfl, h2, fun E h => by simp at h, fun f q h => by simp at h, fun b' h => by obtain rfl := Option.some.inj h; exact ⟨z, h3, h4, h5⟩, fun pl h => by simp at h, h6, (fun ks h => by cases h), (fun m h => by cases h), h7, (fun h => by cases h), fun e h => by cases h⟩
theorem td_sl {E : TypeId} {t : Ty} (h1 : TI P T false 1) (h2 : P.underlying T = some (.slice E)) (h3 : TZ P T (.slice none 0 0) 1 24) : TDok P T ⟨false, 1, some E, .sl E t, [], some 24, none, false, none, none, none, false, none⟩ :=
  ⟨h1, rfl, rfl, fun E' h => by obtain rfl := Option.some.inj h; exact h2, fun f q h => by simp at h, fun b' h => by obtain rfl := Option.some.inj h; exact ⟨_, h3, rfl, by decide⟩, fun pl h => by simp at h, (fun h => by cases h), (fun ks h => by cases h), (fun m h => by cases h), (fun k h => by cases h), (fun h => by cases h), fun e h => by cases h⟩
theorem td_st {n b : Nat} {ty : Ty} {fs pl : List (Nat × Nat)} {z : Value} {eq : Option (List (Option IntKind))} (h1 : TI P T true n) (h2 : ty.size = n) (h3 : FldAll P T 0 fs) (h4 : TZ P T z n b) (h5 : z.cells = (zeroCells ty).toArray) (h6 : 1 ≤ b) (h7 : TB P T pl) (h8 : ∀ ks, eq = some ks → ∀ w, Curq ks fun xs ys r => EqT P T (.agg xs.toArray) (.agg ys.toArray) r w) : TDok P T ⟨true, n, none, ty, fs, some b, some pl, false, eq, none, none, false, none⟩ :=
  ⟨h1, rfl, h2, fun E h => by simp at h, fun f q h => by have := h3.get f q h; rwa [Nat.zero_add] at this, fun b' h => by obtain rfl := Option.some.inj h; exact ⟨z, h4, h5, h6⟩, fun pl' h => by obtain rfl := Option.some.inj h; exact h7, (fun h => by cases h), h8, (fun m h => by cases h), (fun k h => by cases h), (fun h => by cases h), fun e h => by cases h⟩
theorem td_fn {ty : Ty} {b : Nat} (h1 : TI P T false 1) (h2 : ty.size = 1) (h3 : TZ P T .nilFunc 1 b) : TDok P T ⟨false, 1, none, ty, [], none, none, false, none, none, none, true, none⟩ :=
  ⟨h1, rfl, h2, fun E h => by simp at h, fun f q h => by simp at h, (fun b' h => by cases h), (fun pl h => by cases h), (fun h => by cases h), (fun ks h => by cases h), (fun m' h => by cases h), (fun k h => by cases h), (fun _ => ⟨b, h3⟩), fun e h => by cases h⟩
end
end Go.Proofs.YtfojdaengibfgaaDoor.R
/- Printed by lp.py: what the functions compute, as data. -/
set_option linter.unusedVariables false
set_option maxRecDepth 1000000
namespace Go.Proofs.YtfojdaengibfgaaDoor.D
open Go.RowKit
def m_w_szPairS (p0a : List (Int × Int)) (p1left : Int) : Option Int :=
  if decide (IntKind.i64.wrap (p1left - (p0a.length : Int)) < 0) then (some (-1)) else (some (IntKind.i64.wrap (p1left - (p0a.length : Int))))
def m_w_szDelta (p0a : (List (Int × Int)) × (List (Int × Int))) (p1left : Int) : Option Int :=
  (m_w_szPairS p0a.1 p1left).bind fun r1 => if decide (r1 < 0) then (some (-1)) else ((m_w_szPairS p0a.2 r1).bind fun r2 => if decide (r2 < 0) then (some (-1)) else (some r2))
def m_w_szMessage (p0a : Int × Bool × ((List (Int × Int)) × (List (Int × Int)))) (p1left : Int) : Option Int :=
  (m_w_szDelta (p0a.2.2.1, p0a.2.2.2) p1left).bind fun r1 => if decide (r1 < 0) then (some (-1)) else (some r1)
def m_s_l15Has_l0 (p0l : List (Int × Int)) (p1p : Int × Int) (s3 : Int) : Option (Out Bool Int) :=
  if decide (s3 < (p0l.length : Int)) then ((getI p0l s3).bind fun x3 => if ((x3.1 == p1p.1) && ((x3.2 == p1p.2) && true)) then (some (.ret true)) else (some (.nxt (IntKind.i64.wrap (s3 + 1))))) else (some (.brk s3))
def m_s_l15Has (p0l : List (Int × Int)) (p1p : Int × Int) : Option Bool :=
  bindL (loopM (m_s_l15Has_l0 p0l p1p) FUEL 0) (fun r => some r) (fun s4 => some false)
def m_s_l1In (p0x : Int) (p1low : Int) (p2high : Int) : Option Bool :=
  if decide (p0x ≥ p1low) then (some (decide (p0x ≤ p2high))) else (some false)
def m_s_l15Less (p0a : Int × Int) (p1b : Int × Int) : Option Bool :=
  if decide (p0a.1 < p1b.1) then (some true) else (if p0a.1 == p1b.1 then (some (decide (p0a.2 < p1b.2))) else (some false))
def m_s_ArePairs_l0 (p0l : List (Int × Int)) (s3 : Int) : Option (Out Bool Int) :=
  if decide (s3 < (p0l.length : Int)) then ((getI p0l s3).bind fun x9 => (m_s_l1In x9.1 0 4).bind fun r7 => if r7 then ((getI p0l s3).bind fun x10 => (m_s_l1In x10.2 0 4).bind fun r8 => if r8 then (if decide (s3 > 0) then ((getI p0l (IntKind.i64.wrap (s3 - 1))).bind fun x11 => (getI p0l s3).bind fun x12 => (m_s_l15Less (x11.1, x11.2) (x12.1, x12.2)).bind fun r9 => if r9 then (some (.nxt (IntKind.i64.wrap (s3 + 1)))) else (some (.ret false))) else (some (.nxt (IntKind.i64.wrap (s3 + 1))))) else (some (.ret false))) else (some (.ret false))) else (some (.brk s3))
def m_s_ArePairs (p0l : List (Int × Int)) : Option Bool :=
  bindL (loopM (m_s_ArePairs_l0 p0l) FUEL 0) (fun r => some r) (fun s4 => some true)
def m_s_IsDelta_l0 (p0d : (List (Int × Int)) × (List (Int × Int))) (s3 : Int) : Option (Out Bool Int) :=
  if decide (s3 < (p0d.1.length : Int)) then ((getI p0d.1 s3).bind fun x3 => (m_s_l15Has p0d.2 (x3.1, x3.2)).bind fun r3 => if r3 then (some (.ret false)) else (some (.nxt (IntKind.i64.wrap (s3 + 1))))) else (some (.brk s3))
def m_s_IsDelta (p0d : (List (Int × Int)) × (List (Int × Int))) : Option Bool :=
  bindL (loopM (m_s_IsDelta_l0 p0d) FUEL 0) (fun r => some r) (fun s4 => (m_s_ArePairs p0d.1).bind fun r4 => if r4 then ((m_s_ArePairs p0d.2).bind fun r5 => some r5) else (some false))
def m_s_FormatInt_l0 (s1 : Int × ByteArray) : Option (Out ByteArray (Int × ByteArray)) :=
  if s1.1 != 0 then (Option.bind ((if decide ((Int.tmod s1.1 10) < 0) then (some (IntKind.i64.wrap (-(Int.tmod s1.1 10)))) else (some (Int.tmod s1.1 10)) : Option Int)) (fun s2 => (catS (bytesS ([IntKind.u8.wrap (IntKind.i64.wrap (48 + s2))])) s1.2).bind fun z3 => some (.nxt (quoI s1.1 10, z3)))) else (some (.brk (s1.1, s1.2)))
def m_s_FormatInt (p0n : Int) : Option ByteArray :=
  if p0n == 0 then (some (⟨#[48]⟩)) else (bindL (loopM (m_s_FormatInt_l0) FUEL (p0n, (⟨#[]⟩ : ByteArray))) (fun r4 => some r4) (fun s5 => if decide (p0n < 0) then ((catS (⟨#[45]⟩) s5.2).bind fun z6 => some z6) else (some s5.2)))
def m_s_FormatPairs_l0 (p0l : List (Int × Int)) (s2 : ByteArray × Int) : Option (Out ByteArray (ByteArray × Int)) :=
  if decide (s2.2 < (p0l.length : Int)) then (Option.bind ((if decide (s2.2 > 0) then ((catS s2.1 (⟨#[32]⟩)).bind fun z3 => some z3) else (some s2.1) : Option ByteArray)) (fun s4 => (getI p0l s2.2).bind fun x11 => (m_s_FormatInt x11.1).bind fun r12 => (catS s4 r12).bind fun z13 => (getI p0l s2.2).bind fun x14 => (m_s_FormatInt x14.2).bind fun r15 => (catS z13 r15).bind fun z16 => some (.nxt (z16, IntKind.i64.wrap (s2.2 + 1))))) else (some (.brk (s2.1, s2.2)))
def m_s_FormatPairs (p0l : List (Int × Int)) : Option ByteArray :=
  (m_s_ArePairs p0l).bind fun r0 => if r0 then (if (p0l.length : Int) == 0 then (some (⟨#[110, 111, 110, 101]⟩)) else (bindL (loopM (m_s_FormatPairs_l0 p0l) FUEL ((⟨#[]⟩ : ByteArray), 0)) (fun r17 => some r17) (fun s18 => some s18.1))) else (some ((⟨#[]⟩ : ByteArray)))
def m_s_FormatDelta (p0d : (List (Int × Int)) × List (Int × Int)) : Option ByteArray :=
  (m_s_IsDelta (p0d.1, p0d.2)).bind fun r0 => if r0 then ((m_s_FormatPairs p0d.1).bind fun r6 => (catS (⟨#[43]⟩) r6).bind fun z7 => (catS z7 (⟨#[32, 45]⟩)).bind fun z8 => (m_s_FormatPairs p0d.2).bind fun r9 => (catS z8 r9).bind fun z10 => some z10) else (some ((⟨#[]⟩ : ByteArray)))
def m_s_FormatMessage (p0m : Int × Bool × (List (Int × Int)) × List (Int × Int)) : Option ByteArray :=
  (m_s_FormatDelta (p0m.2.2.1, p0m.2.2.2)).bind fun r0 => if r0 == ((⟨#[]⟩ : ByteArray)) then (some ((⟨#[]⟩ : ByteArray))) else (if p0m.2.1 then ((m_s_FormatInt p0m.1).bind fun r1 => (catS r1 (⟨#[32, 114, 101, 115, 101, 116, 32]⟩)).bind fun z2 => (catS z2 r0).bind fun z3 => some z3) else ((m_s_FormatInt p0m.1).bind fun r4 => (catS r4 (⟨#[32]⟩)).bind fun z5 => (catS z5 r0).bind fun z6 => some z6))
def m_w_toPair (p0a : Int × Int) : Option (Int × Int) :=
  some (p0a.1, p0a.2)
def m_w_toPairS_l0 (p0a : List (Int × Int)) (s3 : (List (Int × Int)) × Int) : Option (Out (List (Int × Int)) ((List (Int × Int)) × Int)) :=
  if decide (s3.2 < (p0a.length : Int)) then ((getI p0a s3.2).bind fun x6 => (m_w_toPair (x6.1, x6.2)).bind fun r3 => (getI s3.1 s3.2).bind fun x7 => some (.nxt (s3.1.set s3.2.toNat (r3.1, r3.2), IntKind.i64.wrap (s3.2 + 1)))) else (some (.brk (s3.1, s3.2)))
def m_w_toPairS (p0a : List (Int × Int)) : Option (List (Int × Int)) :=
  (mkI 16 (p0a.length : Int) ((0, 0) : Int × Int)).bind fun x1 => bindL (loopM (m_w_toPairS_l0 p0a) FUEL (x1, 0)) (fun r => some r) (fun s4 => some s4.1)
def m_w_toDelta (p0a : (List (Int × Int)) × (List (Int × Int))) : Option ((List (Int × Int)) × (List (Int × Int))) :=
  (m_w_toPairS p0a.1).bind fun r1 => (m_w_toPairS p0a.2).bind fun r2 => some (r1, r2)
def m_w_toMessage (p0a : Int × Bool × ((List (Int × Int)) × (List (Int × Int)))) : Option (Int × Bool × ((List (Int × Int)) × (List (Int × Int)))) :=
  (m_w_toDelta (p0a.2.2.1, p0a.2.2.2)).bind fun r1 => some (p0a.1, p0a.2.1, (r1.1, r1.2))
def m_i_within (p0n : Int) (p1a : Int) (p2b : Int) : Option Bool :=
  if decide (p0n ≥ p1a) then (some (decide (p0n ≤ p2b))) else (some false)
def m_i_compareInts (p0a : Int) (p1b : Int) : Option Int :=
  if decide (p0a < p1b) then (some (-1)) else (if decide (p0a > p1b) then (some 1) else (some 0))
def m_i_comparePairs (p0a : Int × Int) (p1b : Int × Int) : Option Int :=
  if p0a.1 != p1b.1 then ((m_i_compareInts p0a.1 p1b.1).bind fun r2 => some r2) else ((m_i_compareInts p0a.2 p1b.2).bind fun r1 => some r1)
def m_i_ArePairs_l0 (p0l : List (Int × Int)) (s3 : Int) : Option (Out Bool Int) :=
  if decide (s3 < (p0l.length : Int)) then ((getI p0l s3).bind fun x5 => (m_i_within x5.1 0 4).bind fun r7 => if r7 then ((m_i_within x5.2 0 4).bind fun r8 => if r8 then (if decide (s3 > 0) then ((getI p0l (IntKind.i64.wrap (s3 - 1))).bind fun x6 => (m_i_comparePairs (x6.1, x6.2) (x5.1, x5.2)).bind fun r9 => if decide (r9 ≥ 0) then (some (.ret false)) else (some (.nxt (IntKind.i64.wrap (s3 + 1))))) else (some (.nxt (IntKind.i64.wrap (s3 + 1))))) else (some (.ret false))) else (some (.ret false))) else (some (.brk s3))
def m_i_ArePairs (p0l : List (Int × Int)) : Option Bool :=
  bindL (loopM (m_i_ArePairs_l0 p0l) FUEL 0) (fun r => some r) (fun s4 => some true)
def m_g_slices_IndexFunc_S_Pair_Pair_l0 (p0s : List (Int × Int)) (p1f : (Int × Int) → Option Bool) (s3 : Int) : Option (Out Int Int) :=
  if decide (s3 < (p0s.length : Int)) then ((getI p0s s3).bind fun x3 => (p1f (x3.1, x3.2)).bind fun r3 => if r3 then (some (.ret s3)) else (some (.nxt (IntKind.i64.wrap (s3 + 1))))) else (some (.brk s3))
def m_g_slices_IndexFunc_S_Pair_Pair (p0s : List (Int × Int)) (p1f : (Int × Int) → Option Bool) : Option Int :=
  bindL (loopM (m_g_slices_IndexFunc_S_Pair_Pair_l0 p0s p1f) FUEL 0) (fun r => some r) (fun s4 => some (-1))
def m_g_slices_ContainsFunc_S_Pair_Pair (p0s : List (Int × Int)) (p1f : (Int × Int) → Option Bool) : Option Bool :=
  (m_g_slices_IndexFunc_S_Pair_Pair p0s p1f).bind fun r1 => some (decide (r1 ≥ 0))
def m_g_slices_Index_S_Pair_Pair_l0 (p0s : List (Int × Int)) (p1v : Int × Int) (s3 : Int) : Option (Out Int Int) :=
  if decide (s3 < (p0s.length : Int)) then ((getI p0s s3).bind fun x3 => if ((p1v.1 == x3.1) && ((p1v.2 == x3.2) && true)) then (some (.ret s3)) else (some (.nxt (IntKind.i64.wrap (s3 + 1))))) else (some (.brk s3))
def m_g_slices_Index_S_Pair_Pair (p0s : List (Int × Int)) (p1v : Int × Int) : Option Int :=
  bindL (loopM (m_g_slices_Index_S_Pair_Pair_l0 p0s p1v) FUEL 0) (fun r => some r) (fun s4 => some (-1))
def m_g_slices_Contains_S_Pair_Pair (p0s : List (Int × Int)) (p1v : Int × Int) : Option Bool :=
  (m_g_slices_Index_S_Pair_Pair p0s (p1v.1, p1v.2)).bind fun r1 => some (decide (r1 ≥ 0))
def m_i_commonPair_1 (p0p : Int × Int) (q0 : List (Int × Int)) : Option Bool :=
  (m_g_slices_Contains_S_Pair_Pair q0 (p0p.1, p0p.2)).bind fun r1 => some r1
def m_i_commonPair (p0a : List (Int × Int)) (p1b : List (Int × Int)) : Option Bool :=
  (m_g_slices_ContainsFunc_S_Pair_Pair p0a (fun a0 => m_i_commonPair_1 a0 p1b)).bind fun r1 => some r1
def m_i_IsDelta (p0d : (List (Int × Int)) × (List (Int × Int))) : Option Bool :=
  (m_i_ArePairs p0d.1).bind fun r1 => if r1 then ((m_i_ArePairs p0d.2).bind fun r2 => if r2 then ((m_i_commonPair p0d.1 p0d.2).bind fun r3 => some (!r3)) else (some false)) else (some false)
def m_g_strconv_Itoa (p0 : Int) : Option (ByteArray) := R.itoaS p0
def m_i_FormatInt (p0n : Int) : Option ByteArray :=
  (m_g_strconv_Itoa p0n).bind fun r0 => some r0
def m_g_strings_Join (p0 : List ByteArray) (p1 : ByteArray) : Option (ByteArray) := R.joinS p0 p1
def m_i_FormatPairs_l0 (p0l : List (Int × Int)) (s2 : (List ByteArray) × Int) : Option (Out ByteArray ((List ByteArray) × Int)) :=
  if decide (s2.2 < (p0l.length : Int)) then ((getI p0l s2.2).bind fun x3 => (m_i_FormatInt x3.1).bind fun r8 => (m_i_FormatInt x3.2).bind fun r9 => (catS r8 r9).bind fun z10 => (appI 16 s2.1 ([z10])).bind fun z11 => some (.nxt (z11, IntKind.i64.wrap (s2.2 + 1)))) else (some (.brk (s2.1, s2.2)))
def m_i_FormatPairs (p0l : List (Int × Int)) : Option ByteArray :=
  (m_i_ArePairs p0l).bind fun r0 => if r0 then (if (p0l.length : Int) == 0 then (some (⟨#[110, 111, 110, 101]⟩)) else (bindL (loopM (m_i_FormatPairs_l0 p0l) FUEL (([] : List ByteArray), 0)) (fun r12 => some r12) (fun s13 => (m_g_strings_Join s13.1 (⟨#[32]⟩)).bind fun r14 => some r14))) else (some ((⟨#[]⟩ : ByteArray)))
def m_i_FormatDelta (p0d : (List (Int × Int)) × List (Int × Int)) : Option ByteArray :=
  (m_i_IsDelta (p0d.1, p0d.2)).bind fun r0 => if r0 then ((m_i_FormatPairs p0d.1).bind fun r6 => (catS (⟨#[43]⟩) r6).bind fun z7 => (catS z7 (⟨#[32, 45]⟩)).bind fun z8 => (m_i_FormatPairs p0d.2).bind fun r9 => (catS z8 r9).bind fun z10 => some z10) else (some ((⟨#[]⟩ : ByteArray)))
def m_i_FormatMessage (p0m : Int × Bool × (List (Int × Int)) × List (Int × Int)) : Option ByteArray :=
  (m_i_FormatDelta (p0m.2.2.1, p0m.2.2.2)).bind fun r0 => if r0 == ((⟨#[]⟩ : ByteArray)) then (some ((⟨#[]⟩ : ByteArray))) else (if p0m.2.1 then ((m_i_FormatInt p0m.1).bind fun r1 => (catS r1 (⟨#[32, 114, 101, 115, 101, 116, 32]⟩)).bind fun z2 => (catS z2 r0).bind fun z3 => some z3) else ((m_i_FormatInt p0m.1).bind fun r4 => (catS r4 (⟨#[32]⟩)).bind fun z5 => (catS z5 r0).bind fun z6 => some z6))
def m_w_eqPair (p0a : Int × Int) (p1b : Int × Int) : Option Bool :=
  if p0a.1 != p1b.1 then (some false) else (if p0a.2 != p1b.2 then (some false) else (some true))
def m_w_eqPairS_l0 (p0a : List (Int × Int)) (p1b : List (Int × Int)) (s3 : Int) : Option (Out Bool Int) :=
  if decide (s3 < (p0a.length : Int)) then ((getI p0a s3).bind fun x5 => (getI p1b s3).bind fun x6 => (m_w_eqPair (x5.1, x5.2) (x6.1, x6.2)).bind fun r3 => if r3 then (some (.nxt (IntKind.i64.wrap (s3 + 1)))) else (some (.ret false))) else (some (.brk s3))
def m_w_eqPairS (p0a : List (Int × Int)) (p1b : List (Int × Int)) : Option Bool :=
  if (p0a.length : Int) != (p1b.length : Int) then (some false) else (bindL (loopM (m_w_eqPairS_l0 p0a p1b) FUEL 0) (fun r => some r) (fun s4 => some true))
def m_w_eqDelta (p0a : (List (Int × Int)) × (List (Int × Int))) (p1b : (List (Int × Int)) × (List (Int × Int))) : Option Bool :=
  (m_w_eqPairS p0a.1 p1b.1).bind fun r1 => if r1 then ((m_w_eqPairS p0a.2 p1b.2).bind fun r2 => if r2 then (some true) else (some false)) else (some false)
def m_w_eqMessage (p0a : Int × Bool × ((List (Int × Int)) × (List (Int × Int)))) (p1b : Int × Bool × ((List (Int × Int)) × (List (Int × Int)))) : Option Bool :=
  if p0a.1 != p1b.1 then (some false) else (if p0a.2.1 != p1b.2.1 then (some false) else ((m_w_eqDelta (p0a.2.2.1, p0a.2.2.2) (p1b.2.2.1, p1b.2.2.2)).bind fun r1 => if r1 then (some true) else (some false)))
def m_w_FnExactFormatMessage (p0aM : Int × Bool × ((List (Int × Int)) × (List (Int × Int)))) : Option Bool :=
  (m_w_szMessage (p0aM.1, p0aM.2.1, (p0aM.2.2.1, p0aM.2.2.2)) 1048576).bind fun r1 => if decide (r1 < 0) then (some true) else ((m_w_toMessage (p0aM.1, p0aM.2.1, (p0aM.2.2.1, p0aM.2.2.2))).bind fun r2 => (m_s_FormatMessage (r2.1, r2.2.1, (r2.2.2.1, r2.2.2.2))).bind fun r3 => (m_w_toMessage (p0aM.1, p0aM.2.1, (p0aM.2.2.1, p0aM.2.2.2))).bind fun r4 => (m_i_FormatMessage (r4.1, r4.2.1, (r4.2.2.1, r4.2.2.2))).bind fun r5 => if r5 != r3 then (some false) else ((m_w_toMessage (p0aM.1, p0aM.2.1, (p0aM.2.2.1, p0aM.2.2.2))).bind fun r6 => (m_w_eqMessage (r4.1, r4.2.1, (r4.2.2.1, r4.2.2.2)) (r6.1, r6.2.1, (r6.2.2.1, r6.2.2.2))).bind fun r7 => if r7 then (some true) else (some false)))
end Go.Proofs.YtfojdaengibfgaaDoor.D
/- Printed by lp.py: what is known of the types and of the functions. -/
set_option linter.unusedVariables false
set_option maxRecDepth 1000000
namespace Go.Proofs.YtfojdaengibfgaaDoor.R
open Go.RowKit
open Go.Proofs.YtfojdaengibfgaaDoor.D
abbrev y3 : Ty := .int .i64
abbrev y53 : Ty := .prod y3 y3
abbrev y22 : Ty := .sl 53 y53
abbrev y24 : Ty := .prod y22 y22
abbrev y4 : Ty := .bool
abbrev y26 : Ty := .prod y3 (.prod y4 y24)
abbrev y50 : Ty := .prod y3 y3
abbrev y29 : Ty := .sl 50 y50
abbrev y31 : Ty := .prod y29 y29
abbrev y33 : Ty := .prod y3 (.prod y4 y31)
abbrev y5 : Ty := .int .u8
abbrev y45 : Ty := .sl 5 y5
abbrev y9 : Ty := .str
abbrev y54 : Ty := .sl 9 y9
theorem ti3 : TI Tryd.prog 3 false 1 := ⟨⟨_, Tryd.underlying3, rfl⟩, by kernel_rfl⟩
theorem eqt50 (a0 : Int) (a1 : Int) (b0 : Int) (b1 : Int) (w : World) : EqT Tryd.prog 50 (.agg #[.int .i64 a0, .int .i64 a1]) (.agg #[.int .i64 b0, .int .i64 b1]) ((a0 == b0) && ((a1 == b1) && true)) w := eqT_of w Tryd.underlying50 (by kernel_rfl) (by kernel_rfl) (eqF_cons rfl (part_1 ti3 rfl) (part_1 ti3 rfl) (run_equalIn_int w 9998 3 _ _ _ _ Tryd.underlying3) (eqF_cons rfl (part_1 ti3 rfl) (part_1 ti3 rfl) (run_equalIn_int w 9998 3 _ _ _ _ Tryd.underlying3) (eqF_nil w)))
def tt : TT := [(3, ⟨false, 1, none, y3, [], some 8, none, false, none, none, some (some .i64), false, none⟩),
  (4, ⟨false, 1, none, y4, [], some 1, none, true, none, none, none, false, none⟩),
  (5, ⟨false, 1, none, y5, [], some 1, none, false, none, none, some (some .u8), false, none⟩),
  (9, ⟨false, 1, none, y9, [], some 16, none, false, none, none, some none, false, none⟩),
  (22, ⟨false, 1, some 53, y22, [], some 24, none, false, none, none, none, false, none⟩),
  (24, ⟨true, 2, none, y24, [(0, 0), (1, 0)], some 48, some [(0, 1), (1, 1)], false, none, none, none, false, none⟩),
  (26, ⟨true, 4, none, y26, [(0, 0), (1, 0), (2, 1)], some 64, some [(0, 1), (1, 1), (2, 2)], false, none, none, none, false, none⟩),
  (29, ⟨false, 1, some 50, y29, [], some 24, none, false, none, none, none, false, none⟩),
  (31, ⟨true, 2, none, y31, [(0, 0), (1, 0)], some 48, some [(0, 1), (1, 1)], false, none, none, none, false, none⟩),
  (33, ⟨true, 4, none, y33, [(0, 0), (1, 0), (2, 1)], some 64, some [(0, 1), (1, 1), (2, 2)], false, none, none, none, false, none⟩),
  (45, ⟨false, 1, some 5, y45, [], some 24, none, false, none, none, none, false, none⟩),
  (50, ⟨true, 2, none, y50, [(0, 0), (1, 0)], some 16, some [(0, 1), (1, 1)], false, some [some .i64, some .i64], none, none, false, none⟩),
  (53, ⟨true, 2, none, y53, [(0, 0), (1, 0)], some 16, some [(0, 1), (1, 1)], false, none, none, none, false, none⟩),
  (54, ⟨false, 1, some 9, y54, [], some 24, none, false, none, none, none, false, none⟩),
  (60, ⟨false, 1, none, .bool, [], none, none, false, none, none, none, true, none⟩)]
theorem tt_ok : TTok Tryd.prog tt := ⟨td_flat (n := 1) (z := .int .i64 0) ⟨⟨_, Tryd.underlying3, rfl⟩, by kernel_rfl⟩ rfl (by unfold TZ; kernel_rfl) rfl (Nat.le_of_ble_eq_true rfl) (fun h => by cases h) (fun k h => by obtain rfl := Option.some.inj h; exact Tryd.underlying3),
  td_flat (n := 1) (z := .bool false) ⟨⟨_, Tryd.underlying4, rfl⟩, by kernel_rfl⟩ rfl (by unfold TZ; kernel_rfl) rfl (Nat.le_of_ble_eq_true rfl) (fun h => Tryd.underlying4) (fun k h => by cases h),
  td_flat (n := 1) (z := .int .u8 0) ⟨⟨_, Tryd.underlying5, rfl⟩, by kernel_rfl⟩ rfl (by unfold TZ; kernel_rfl) rfl (Nat.le_of_ble_eq_true rfl) (fun h => by cases h) (fun k h => by obtain rfl := Option.some.inj h; exact Tryd.underlying5),
  td_flat (n := 1) (z := .string ⟨#[]⟩) ⟨⟨_, Tryd.underlying9, rfl⟩, by kernel_rfl⟩ rfl (by unfold TZ; kernel_rfl) rfl (Nat.le_of_ble_eq_true rfl) (fun h => by cases h) (fun k h => by obtain rfl := Option.some.inj h; exact Tryd.underlying9),
  td_sl ⟨⟨_, Tryd.underlying22, rfl⟩, by kernel_rfl⟩ Tryd.underlying22 (by unfold TZ; kernel_rfl),
  td_st (z := .agg #[.slice none 0 0, .slice none 0 0]) ⟨⟨_, Tryd.underlying24, rfl⟩, by kernel_rfl⟩ rfl ⟨⟨_, _, Tryd.underlying24, rfl, rfl, by kernel_rfl⟩, ⟨_, _, Tryd.underlying24, rfl, rfl, by kernel_rfl⟩, trivial⟩ (by unfold TZ; kernel_rfl) rfl (Nat.le_of_ble_eq_true rfl) ⟨_, Tryd.underlying24, by kernel_rfl⟩ (fun ks h => by cases h),
  td_st (z := .agg #[.int .i64 0, .bool false, .slice none 0 0, .slice none 0 0]) ⟨⟨_, Tryd.underlying26, rfl⟩, by kernel_rfl⟩ rfl ⟨⟨_, _, Tryd.underlying26, rfl, rfl, by kernel_rfl⟩, ⟨_, _, Tryd.underlying26, rfl, rfl, by kernel_rfl⟩, ⟨_, _, Tryd.underlying26, rfl, rfl, by kernel_rfl⟩, trivial⟩ (by unfold TZ; kernel_rfl) rfl (Nat.le_of_ble_eq_true rfl) ⟨_, Tryd.underlying26, by kernel_rfl⟩ (fun ks h => by cases h),
  td_sl ⟨⟨_, Tryd.underlying29, rfl⟩, by kernel_rfl⟩ Tryd.underlying29 (by unfold TZ; kernel_rfl),
  td_st (z := .agg #[.slice none 0 0, .slice none 0 0]) ⟨⟨_, Tryd.underlying31, rfl⟩, by kernel_rfl⟩ rfl ⟨⟨_, _, Tryd.underlying31, rfl, rfl, by kernel_rfl⟩, ⟨_, _, Tryd.underlying31, rfl, rfl, by kernel_rfl⟩, trivial⟩ (by unfold TZ; kernel_rfl) rfl (Nat.le_of_ble_eq_true rfl) ⟨_, Tryd.underlying31, by kernel_rfl⟩ (fun ks h => by cases h),
  td_st (z := .agg #[.int .i64 0, .bool false, .slice none 0 0, .slice none 0 0]) ⟨⟨_, Tryd.underlying33, rfl⟩, by kernel_rfl⟩ rfl ⟨⟨_, _, Tryd.underlying33, rfl, rfl, by kernel_rfl⟩, ⟨_, _, Tryd.underlying33, rfl, rfl, by kernel_rfl⟩, ⟨_, _, Tryd.underlying33, rfl, rfl, by kernel_rfl⟩, trivial⟩ (by unfold TZ; kernel_rfl) rfl (Nat.le_of_ble_eq_true rfl) ⟨_, Tryd.underlying33, by kernel_rfl⟩ (fun ks h => by cases h),
  td_sl ⟨⟨_, Tryd.underlying45, rfl⟩, by kernel_rfl⟩ Tryd.underlying45 (by unfold TZ; kernel_rfl),
  td_st (z := .agg #[.int .i64 0, .int .i64 0]) ⟨⟨_, Tryd.underlying50, rfl⟩, by kernel_rfl⟩ rfl ⟨⟨_, _, Tryd.underlying50, rfl, rfl, by kernel_rfl⟩, ⟨_, _, Tryd.underlying50, rfl, rfl, by kernel_rfl⟩, trivial⟩ (by unfold TZ; kernel_rfl) rfl (Nat.le_of_ble_eq_true rfl) ⟨_, Tryd.underlying50, by kernel_rfl⟩ (fun ks h => by obtain rfl := Option.some.inj h; exact fun w a0 b0 a1 b1 => eqt50 a0 a1 b0 b1 w),
  td_st (z := .agg #[.int .i64 0, .int .i64 0]) ⟨⟨_, Tryd.underlying53, rfl⟩, by kernel_rfl⟩ rfl ⟨⟨_, _, Tryd.underlying53, rfl, rfl, by kernel_rfl⟩, ⟨_, _, Tryd.underlying53, rfl, rfl, by kernel_rfl⟩, trivial⟩ (by unfold TZ; kernel_rfl) rfl (Nat.le_of_ble_eq_true rfl) ⟨_, Tryd.underlying53, by kernel_rfl⟩ (fun ks h => by cases h),
  td_sl ⟨⟨_, Tryd.underlying54, rfl⟩, by kernel_rfl⟩ Tryd.underlying54 (by unfold TZ; kernel_rfl),
  td_fn (ty := .bool) (b := 8) ⟨⟨_, Tryd.underlying60, rfl⟩, by kernel_rfl⟩ rfl (by unfold TZ; kernel_rfl), trivial⟩
theorem mixed : Tryd.prog.follows .mixedOrders = true := by kernel_rfl
def F_w_szPairS : FS := ⟨[.rd y22, .rd y3], [y3], m_w_szPairS, none⟩
def F_w_szDelta : FS := ⟨[.rd y24, .rd y3], [y3], m_w_szDelta, none⟩
def F_w_szMessage : FS := ⟨[.rd y26, .rd y3], [y3], m_w_szMessage, none⟩
def F_s_l15Has : FS := ⟨[.rd y29, .rd y50], [y4], m_s_l15Has, none⟩
def F_s_l1In : FS := ⟨[.rd y3, .rd y3, .rd y3], [y4], m_s_l1In, none⟩
def F_s_l15Less : FS := ⟨[.rd y50, .rd y50], [y4], m_s_l15Less, none⟩
def F_s_ArePairs : FS := ⟨[.rd y29], [y4], m_s_ArePairs, none⟩
def F_s_IsDelta : FS := ⟨[.rd y31], [y4], m_s_IsDelta, none⟩
def F_s_FormatInt : FS := ⟨[.rd y3], [y9], m_s_FormatInt, none⟩
def F_s_FormatPairs : FS := ⟨[.rd y29], [y9], m_s_FormatPairs, none⟩
def F_s_FormatDelta : FS := ⟨[.rd y31], [y9], m_s_FormatDelta, none⟩
def F_s_FormatMessage : FS := ⟨[.rd y33], [y9], m_s_FormatMessage, none⟩
def F_w_toPair : FS := ⟨[.rd y53], [y50], m_w_toPair, none⟩
def F_w_toPairS : FS := ⟨[.rd y22], [y29], m_w_toPairS, none⟩
def F_w_toDelta : FS := ⟨[.rd y24], [y31], m_w_toDelta, none⟩
def F_w_toMessage : FS := ⟨[.rd y26], [y33], m_w_toMessage, none⟩
def F_i_within : FS := ⟨[.rd y3, .rd y3, .rd y3], [y4], m_i_within, none⟩
def F_i_compareInts : FS := ⟨[.rd y3, .rd y3], [y3], m_i_compareInts, none⟩
def F_i_comparePairs : FS := ⟨[.rd y50, .rd y50], [y3], m_i_comparePairs, none⟩
def F_i_ArePairs : FS := ⟨[.rd y29], [y4], m_i_ArePairs, none⟩
def F_g_slices_IndexFunc_S_Pair_Pair : FS := ⟨[.rd y29, .fn [y50] [y4]], [y3], m_g_slices_IndexFunc_S_Pair_Pair, none⟩
def F_g_slices_ContainsFunc_S_Pair_Pair : FS := ⟨[.rd y29, .fn [y50] [y4]], [y4], m_g_slices_ContainsFunc_S_Pair_Pair, none⟩
def F_g_slices_Index_S_Pair_Pair : FS := ⟨[.rd y29, .rd y50], [y3], m_g_slices_Index_S_Pair_Pair, none⟩
def F_g_slices_Contains_S_Pair_Pair : FS := ⟨[.rd y29, .rd y50], [y4], m_g_slices_Contains_S_Pair_Pair, none⟩
def F_i_commonPair_1 : FS := ⟨[.rd y50, .cap 29 y29], [y4], m_i_commonPair_1, none⟩
def F_i_commonPair : FS := ⟨[.rd y29, .rd y29], [y4], m_i_commonPair, none⟩
def F_i_IsDelta : FS := ⟨[.rd y31], [y4], m_i_IsDelta, none⟩
def F_g_strconv_Itoa : FS := ⟨[.rd y3], [.str], m_g_strconv_Itoa, none⟩
def F_i_FormatInt : FS := ⟨[.rd y3], [y9], m_i_FormatInt, none⟩
def F_g_strings_Join : FS := ⟨[.rd y54, .rd y9], [.str], m_g_strings_Join, none⟩
def F_i_FormatPairs : FS := ⟨[.rd y29], [y9], m_i_FormatPairs, none⟩
def F_i_FormatDelta : FS := ⟨[.rd y31], [y9], m_i_FormatDelta, none⟩
def F_i_FormatMessage : FS := ⟨[.rd y33], [y9], m_i_FormatMessage, none⟩
def F_w_eqPair : FS := ⟨[.rd y50, .rd y50], [y4], m_w_eqPair, none⟩
def F_w_eqPairS : FS := ⟨[.rd y29, .rd y29], [y4], m_w_eqPairS, none⟩
def F_w_eqDelta : FS := ⟨[.rd y31, .rd y31], [y4], m_w_eqDelta, none⟩
def F_w_eqMessage : FS := ⟨[.rd y33, .rd y33], [y4], m_w_eqMessage, none⟩
def F_w_FnExactFormatMessage : FS := ⟨[.rd y26], [y4], m_w_FnExactFormatMessage, none⟩
end Go.Proofs.YtfojdaengibfgaaDoor.R
/- Printed by lp.py: each function computes what its model says; the code is run, and the two are compared. -/
set_option linter.unusedVariables false
set_option maxRecDepth 1000000
namespace Go.Proofs.YtfojdaengibfgaaDoor.R
open Go.RowKit
open Go.Proofs.YtfojdaengibfgaaDoor.D
theorem k_w_szPairS : FOk Tryd.prog 16 F_w_szPairS := fok (V := ⟨tt, [], [], 12, []⟩) tt_ok trivial mixed Tryd.func16 rfl rfl (enters_of Tryd.func16 (by kernel_rfl) rfl) rfl (Nat.le_of_ble_eq_true rfl) rfl .no (fun d => by kernel_rfl)
theorem k_w_szDelta : FOk Tryd.prog 9 F_w_szDelta := fok (V := ⟨tt, [(16, F_w_szPairS)], [], 18, []⟩) tt_ok ⟨k_w_szPairS, trivial⟩ mixed Tryd.func9 rfl rfl (enters_of Tryd.func9 (by kernel_rfl) rfl) rfl (Nat.le_of_ble_eq_true rfl) rfl .no (fun d => by kernel_rfl)
theorem k_w_szMessage : FOk Tryd.prog 4 F_w_szMessage := fok (V := ⟨tt, [(9, F_w_szDelta)], [], 12, []⟩) tt_ok ⟨k_w_szDelta, trivial⟩ mixed Tryd.func4 rfl rfl (enters_of Tryd.func4 (by kernel_rfl) rfl) rfl (Nat.le_of_ble_eq_true rfl) rfl .no (fun d => by kernel_rfl)
theorem k_s_l15Has : FOk Tryd.prog 24 F_s_l15Has := fok (V := ⟨tt, [], [], 18, []⟩) tt_ok trivial mixed Tryd.func24 rfl rfl (enters_of Tryd.func24 (by kernel_rfl) rfl) rfl (Nat.le_of_ble_eq_true rfl) rfl (.two .no (.two (.two .no (.loop [.slot 5 (.num .i64)] .no)) .no)) (fun d => by kernel_rfl)
theorem k_s_l1In : FOk Tryd.prog 32 F_s_l1In := fok (V := ⟨tt, [], [], 15, []⟩) tt_ok trivial mixed Tryd.func32 rfl rfl (enters_of Tryd.func32 (by kernel_rfl) rfl) rfl (Nat.le_of_ble_eq_true rfl) rfl .no (fun d => by kernel_rfl)
theorem k_s_l15Less : FOk Tryd.prog 33 F_s_l15Less := fok (V := ⟨tt, [], [], 24, []⟩) tt_ok trivial mixed Tryd.func33 rfl rfl (enters_of Tryd.func33 (by kernel_rfl) rfl) rfl (Nat.le_of_ble_eq_true rfl) rfl .no (fun d => by kernel_rfl)
theorem k_s_ArePairs : FOk Tryd.prog 25 F_s_ArePairs := fok (V := ⟨tt, [(32, F_s_l1In), (33, F_s_l15Less)], [], 43, []⟩) tt_ok ⟨k_s_l1In, k_s_l15Less, trivial⟩ mixed Tryd.func25 rfl rfl (enters_of Tryd.func25 (by kernel_rfl) rfl) rfl (Nat.le_of_ble_eq_true rfl) rfl (.two .no (.two (.two .no (.loop [.slot 3 (.num .i64)] .no)) .no)) (fun d => by kernel_rfl)
theorem k_s_IsDelta : FOk Tryd.prog 17 F_s_IsDelta := fok (V := ⟨tt, [(24, F_s_l15Has), (25, F_s_ArePairs)], [], 27, []⟩) tt_ok ⟨k_s_l15Has, k_s_ArePairs, trivial⟩ mixed Tryd.func17 rfl rfl (enters_of Tryd.func17 (by kernel_rfl) rfl) rfl (Nat.le_of_ble_eq_true rfl) rfl (.two .no (.two (.two .no (.loop [.slot 3 (.num .i64)] .no)) .no)) (fun d => by kernel_rfl)
theorem k_s_FormatInt : FOk Tryd.prog 11 F_s_FormatInt := fok (V := ⟨tt, [], [], 31, []⟩) tt_ok trivial mixed Tryd.func11 rfl rfl (enters_of Tryd.func11 (by kernel_rfl) rfl) rfl (Nat.le_of_ble_eq_true rfl) rfl (.two .no (.two .no (.two .no (.two .no (.two (.loop [.slot 0 (.num .i64), .slot 3 .str] (.two .no (.two .no (.two (.two .no (.at [.slot 5 (.num .i64)] .no)) .no)))) .no))))) (fun d => by kernel_rfl)
theorem k_s_FormatPairs : FOk Tryd.prog 18 F_s_FormatPairs := fok (V := ⟨tt, [(11, F_s_FormatInt), (25, F_s_ArePairs)], [], 37, []⟩) tt_ok ⟨k_s_FormatInt, k_s_ArePairs, trivial⟩ mixed Tryd.func18 rfl rfl (enters_of Tryd.func18 (by kernel_rfl) rfl) rfl (Nat.le_of_ble_eq_true rfl) rfl (.two .no (.two .no (.two .no (.two .no (.two (.two .no (.loop [.slot 3 .str, .slot 4 (.num .i64)] (.two .no (.two (.two (.two .no (.at [.slot 3 .str] .no)) .no) .no)))) .no))))) (fun d => by kernel_rfl)
theorem k_s_FormatDelta : FOk Tryd.prog 10 F_s_FormatDelta := fok (V := ⟨tt, [(17, F_s_IsDelta), (18, F_s_FormatPairs)], [], 15, []⟩) tt_ok ⟨k_s_IsDelta, k_s_FormatPairs, trivial⟩ mixed Tryd.func10 rfl rfl (enters_of Tryd.func10 (by kernel_rfl) rfl) rfl (Nat.le_of_ble_eq_true rfl) rfl .no (fun d => by kernel_rfl)
theorem k_s_FormatMessage : FOk Tryd.prog 5 F_s_FormatMessage := fok (V := ⟨tt, [(10, F_s_FormatDelta), (11, F_s_FormatInt)], [], 23, []⟩) tt_ok ⟨k_s_FormatDelta, k_s_FormatInt, trivial⟩ mixed Tryd.func5 rfl rfl (enters_of Tryd.func5 (by kernel_rfl) rfl) rfl (Nat.le_of_ble_eq_true rfl) rfl .no (fun d => by kernel_rfl)
theorem k_w_toPair : FOk Tryd.prog 26 F_w_toPair := fok (V := ⟨tt, [], [], 11, []⟩) tt_ok trivial mixed Tryd.func26 rfl rfl (enters_of Tryd.func26 (by kernel_rfl) rfl) rfl (Nat.le_of_ble_eq_true rfl) rfl .no (fun d => by kernel_rfl)
theorem k_w_toPairS : FOk Tryd.prog 19 F_w_toPairS := fok (V := ⟨tt, [(26, F_w_toPair)], [], 23, []⟩) tt_ok ⟨k_w_toPair, trivial⟩ mixed Tryd.func19 rfl rfl (enters_of Tryd.func19 (by kernel_rfl) rfl) rfl (Nat.le_of_ble_eq_true rfl) rfl (.two .no (.two .no (.two (.two .no (.loop [.row 3 50 y50, .slot 4 (.num .i64)] .no)) .no))) (fun d => by kernel_rfl)
theorem k_w_toDelta : FOk Tryd.prog 12 F_w_toDelta := fok (V := ⟨tt, [(19, F_w_toPairS)], [], 13, []⟩) tt_ok ⟨k_w_toPairS, trivial⟩ mixed Tryd.func12 rfl rfl (enters_of Tryd.func12 (by kernel_rfl) rfl) rfl (Nat.le_of_ble_eq_true rfl) rfl .no (fun d => by kernel_rfl)
theorem k_w_toMessage : FOk Tryd.prog 6 F_w_toMessage := fok (V := ⟨tt, [(12, F_w_toDelta)], [], 15, []⟩) tt_ok ⟨k_w_toDelta, trivial⟩ mixed Tryd.func6 rfl rfl (enters_of Tryd.func6 (by kernel_rfl) rfl) rfl (Nat.le_of_ble_eq_true rfl) rfl .no (fun d => by kernel_rfl)
theorem k_i_within : FOk Tryd.prog 34 F_i_within := fok (V := ⟨tt, [], [], 15, []⟩) tt_ok trivial mixed Tryd.func34 rfl rfl (enters_of Tryd.func34 (by kernel_rfl) rfl) rfl (Nat.le_of_ble_eq_true rfl) rfl .no (fun d => by kernel_rfl)
end Go.Proofs.YtfojdaengibfgaaDoor.R
/- Printed by lp.py: each function computes what its model says; the code is run, and the two are compared. -/
set_option linter.unusedVariables false
set_option maxRecDepth 1000000
namespace Go.Proofs.YtfojdaengibfgaaDoor.R
open Go.RowKit
open Go.Proofs.YtfojdaengibfgaaDoor.D
theorem k_i_compareInts : FOk Tryd.prog 43 F_i_compareInts := fok (V := ⟨tt, [], [], 13, []⟩) tt_ok trivial mixed Tryd.func43 rfl rfl (enters_of Tryd.func43 (by kernel_rfl) rfl) rfl (Nat.le_of_ble_eq_true rfl) rfl .no (fun d => by kernel_rfl)
theorem k_i_comparePairs : FOk Tryd.prog 35 F_i_comparePairs := fok (V := ⟨tt, [(43, F_i_compareInts)], [], 20, []⟩) tt_ok ⟨k_i_compareInts, trivial⟩ mixed Tryd.func35 rfl rfl (enters_of Tryd.func35 (by kernel_rfl) rfl) rfl (Nat.le_of_ble_eq_true rfl) rfl .no (fun d => by kernel_rfl)
theorem k_i_ArePairs : FOk Tryd.prog 27 F_i_ArePairs := fok (V := ⟨tt, [(34, F_i_within), (35, F_i_comparePairs)], [], 37, []⟩) tt_ok ⟨k_i_within, k_i_comparePairs, trivial⟩ mixed Tryd.func27 rfl rfl (enters_of Tryd.func27 (by kernel_rfl) rfl) rfl (Nat.le_of_ble_eq_true rfl) rfl (.two .no (.two (.two .no (.loop [.slot 7 (.num .i64)] .no)) .no)) (fun d => by kernel_rfl)
theorem k_g_slices_IndexFunc_S_Pair_Pair : FOk Tryd.prog 44 F_g_slices_IndexFunc_S_Pair_Pair := fok (V := ⟨tt, [], [], 19, []⟩) tt_ok trivial mixed Tryd.func44 rfl rfl (enters_of Tryd.func44 (by kernel_rfl) rfl) rfl (Nat.le_of_ble_eq_true rfl) rfl (.two .no (.two (.two .no (.loop [.slot 8 (.num .i64)] .no)) .no)) (fun d => by kernel_rfl)
theorem k_g_slices_ContainsFunc_S_Pair_Pair : FOk Tryd.prog 36 F_g_slices_ContainsFunc_S_Pair_Pair := fok (V := ⟨tt, [(44, F_g_slices_IndexFunc_S_Pair_Pair)], [], 9, []⟩) tt_ok ⟨k_g_slices_IndexFunc_S_Pair_Pair, trivial⟩ mixed Tryd.func36 rfl rfl (enters_of Tryd.func36 (by kernel_rfl) rfl) rfl (Nat.le_of_ble_eq_true rfl) rfl .no (fun d => by kernel_rfl)
theorem k_g_slices_Index_S_Pair_Pair : FOk Tryd.prog 45 F_g_slices_Index_S_Pair_Pair := fok (V := ⟨tt, [], [], 19, []⟩) tt_ok trivial mixed Tryd.func45 rfl rfl (enters_of Tryd.func45 (by kernel_rfl) rfl) rfl (Nat.le_of_ble_eq_true rfl) rfl (.two .no (.two (.two .no (.loop [.slot 8 (.num .i64)] .no)) .no)) (fun d => by kernel_rfl)
theorem k_g_slices_Contains_S_Pair_Pair : FOk Tryd.prog 38 F_g_slices_Contains_S_Pair_Pair := fok (V := ⟨tt, [(45, F_g_slices_Index_S_Pair_Pair)], [], 9, []⟩) tt_ok ⟨k_g_slices_Index_S_Pair_Pair, trivial⟩ mixed Tryd.func38 rfl rfl (enters_of Tryd.func38 (by kernel_rfl) rfl) rfl (Nat.le_of_ble_eq_true rfl) rfl .no (fun d => by kernel_rfl)
theorem k_i_commonPair_1 : FOk Tryd.prog 37 F_i_commonPair_1 := fok (V := ⟨tt, [(38, F_g_slices_Contains_S_Pair_Pair)], [], 7, []⟩) tt_ok ⟨k_g_slices_Contains_S_Pair_Pair, trivial⟩ mixed Tryd.func37 rfl rfl (enters_of Tryd.func37 (by kernel_rfl) rfl) rfl (Nat.le_of_ble_eq_true rfl) rfl .no (fun d => by kernel_rfl)
theorem k_i_commonPair : FOk Tryd.prog 28 F_i_commonPair := fok (V := ⟨tt, [(36, F_g_slices_ContainsFunc_S_Pair_Pair), (37, F_i_commonPair_1)], [], 8, []⟩) tt_ok ⟨k_g_slices_ContainsFunc_S_Pair_Pair, k_i_commonPair_1, trivial⟩ mixed Tryd.func28 rfl rfl (enters_of Tryd.func28 (by kernel_rfl) rfl) rfl (Nat.le_of_ble_eq_true rfl) rfl .no (fun d => by kernel_rfl)
theorem k_i_IsDelta : FOk Tryd.prog 20 F_i_IsDelta := fok (V := ⟨tt, [(27, F_i_ArePairs), (28, F_i_commonPair)], [], 19, []⟩) tt_ok ⟨k_i_ArePairs, k_i_commonPair, trivial⟩ mixed Tryd.func20 rfl rfl (enters_of Tryd.func20 (by kernel_rfl) rfl) rfl (Nat.le_of_ble_eq_true rfl) rfl .no (fun d => by kernel_rfl)
theorem k_g_strconv_Itoa : FOk Tryd.prog 22 F_g_strconv_Itoa := fok_itoa laysItoa (enters_of Tryd.func22 (by kernel_rfl) rfl)
theorem k_i_FormatInt : FOk Tryd.prog 14 F_i_FormatInt := fok (V := ⟨tt, [(22, F_g_strconv_Itoa)], [], 5, []⟩) tt_ok ⟨k_g_strconv_Itoa, trivial⟩ mixed Tryd.func14 rfl rfl (enters_of Tryd.func14 (by kernel_rfl) rfl) rfl (Nat.le_of_ble_eq_true rfl) rfl .no (fun d => by kernel_rfl)
theorem k_g_strings_Join : FOk Tryd.prog 29 F_g_strings_Join := fok_join laysJoin extraJoin 9 (enters_of Tryd.func29 (by kernel_rfl) rfl)
theorem k_i_FormatPairs : FOk Tryd.prog 21 F_i_FormatPairs := fok (V := ⟨tt, [(14, F_i_FormatInt), (27, F_i_ArePairs), (29, F_g_strings_Join)], [], 34, []⟩) tt_ok ⟨k_i_FormatInt, k_i_ArePairs, k_g_strings_Join, trivial⟩ mixed Tryd.func21 rfl rfl (enters_of Tryd.func21 (by kernel_rfl) rfl) rfl (Nat.le_of_ble_eq_true rfl) rfl (.two .no (.two .no (.two .no (.two (.two .no (.loop [.slot 3 (.own 9 y9), .slot 17 (.num .i64)] .no)) .no)))) (fun d => by kernel_rfl)
theorem k_i_FormatDelta : FOk Tryd.prog 13 F_i_FormatDelta := fok (V := ⟨tt, [(20, F_i_IsDelta), (21, F_i_FormatPairs)], [], 15, []⟩) tt_ok ⟨k_i_IsDelta, k_i_FormatPairs, trivial⟩ mixed Tryd.func13 rfl rfl (enters_of Tryd.func13 (by kernel_rfl) rfl) rfl (Nat.le_of_ble_eq_true rfl) rfl .no (fun d => by kernel_rfl)
theorem k_i_FormatMessage : FOk Tryd.prog 7 F_i_FormatMessage := fok (V := ⟨tt, [(13, F_i_FormatDelta), (14, F_i_FormatInt)], [], 25, []⟩) tt_ok ⟨k_i_FormatDelta, k_i_FormatInt, trivial⟩ mixed Tryd.func7 rfl rfl (enters_of Tryd.func7 (by kernel_rfl) rfl) rfl (Nat.le_of_ble_eq_true rfl) rfl .no (fun d => by kernel_rfl)
theorem k_w_eqPair : FOk Tryd.prog 31 F_w_eqPair := fok (V := ⟨tt, [], [], 15, []⟩) tt_ok trivial mixed Tryd.func31 rfl rfl (enters_of Tryd.func31 (by kernel_rfl) rfl) rfl (Nat.le_of_ble_eq_true rfl) rfl .no (fun d => by kernel_rfl)
end Go.Proofs.YtfojdaengibfgaaDoor.R
/- Printed by lp.py: each function computes what its model says; the code is run, and the two are compared. -/
set_option linter.unusedVariables false
set_option maxRecDepth 1000000
namespace Go.Proofs.YtfojdaengibfgaaDoor.R
open Go.RowKit
open Go.Proofs.YtfojdaengibfgaaDoor.D
theorem k_w_eqPairS : FOk Tryd.prog 23 F_w_eqPairS := fok (V := ⟨tt, [(31, F_w_eqPair)], [], 27, []⟩) tt_ok ⟨k_w_eqPair, trivial⟩ mixed Tryd.func23 rfl rfl (enters_of Tryd.func23 (by kernel_rfl) rfl) rfl (Nat.le_of_ble_eq_true rfl) rfl (.two .no (.two .no (.two (.two .no (.loop [.slot 5 (.num .i64)] .no)) .no))) (fun d => by kernel_rfl)
theorem k_w_eqDelta : FOk Tryd.prog 15 F_w_eqDelta := fok (V := ⟨tt, [(23, F_w_eqPairS)], [], 17, []⟩) tt_ok ⟨k_w_eqPairS, trivial⟩ mixed Tryd.func15 rfl rfl (enters_of Tryd.func15 (by kernel_rfl) rfl) rfl (Nat.le_of_ble_eq_true rfl) rfl .no (fun d => by kernel_rfl)
theorem k_w_eqMessage : FOk Tryd.prog 8 F_w_eqMessage := fok (V := ⟨tt, [(15, F_w_eqDelta)], [], 21, []⟩) tt_ok ⟨k_w_eqDelta, trivial⟩ mixed Tryd.func8 rfl rfl (enters_of Tryd.func8 (by kernel_rfl) rfl) rfl (Nat.le_of_ble_eq_true rfl) rfl .no (fun d => by kernel_rfl)
theorem k_w_FnExactFormatMessage : FOk Tryd.prog 3 F_w_FnExactFormatMessage := fok (V := ⟨tt, [(4, F_w_szMessage), (5, F_s_FormatMessage), (6, F_w_toMessage), (7, F_i_FormatMessage), (8, F_w_eqMessage)], [], 27, []⟩) tt_ok ⟨k_w_szMessage, k_s_FormatMessage, k_w_toMessage, k_i_FormatMessage, k_w_eqMessage, trivial⟩ mixed Tryd.func3 rfl rfl (enters_of Tryd.func3 (by kernel_rfl) rfl) rfl (Nat.le_of_ble_eq_true rfl) rfl .no (fun d => by kernel_rfl)
end Go.Proofs.YtfojdaengibfgaaDoor.R
namespace Go.Proofs.YtfojdaengibfgaaDoor.D
open Go.RowKit
theorem c_w_FnExactFormatMessage (x0 : Int × Bool × ((List (Int × Int)) × (List (Int × Int)))) (r : Bool) (hm : m_w_FnExactFormatMessage x0 = some r) {I : Hp} {w0 : World} (v0_0 : Value) (v0_1 : Value) (r0_0 : (rSlice 53 (rProd rInt rInt)).rd I [v0_0] x0.2.2.1) (r0_1 : (rSlice 53 (rProd rInt rInt)).rd I [v0_1] x0.2.2.2) (hL : Lay Tryd.prog I) : Con Tryd.prog 3 #[.agg #[.int .i64 x0.1, .bool x0.2.1, v0_0, v0_1]] I w0 [] (fun v => v = .bool r) (fun _ => []) := fun w C hs =>
  ((R.k_w_FnExactFormatMessage).con w0 I [.agg #[.int .i64 x0.1, .bool x0.2.1, v0_0, v0_1]] (x0, ()) r hL ⟨_, _, rfl, ⟨[.int .i64 x0.1, .bool x0.2.1, v0_0, v0_1], rfl, ⟨_, _, rfl, rfl, ⟨_, _, rfl, rfl, ⟨_, _, rfl, r0_0, r0_1⟩⟩⟩⟩, rfl⟩ hm w C hs).mono fun e w' ⟨v, he, _, hst⟩ => by
    obtain ⟨h1, h2⟩ := R.own_flat (h1 := fun _ => rfl) (show St I w0 w' (Ch.own R.Ty.bool.rep [v] r :: C) from hst)
    exact ⟨v, he, (List.cons.inj h1).1, h2⟩
end Go.Proofs.YtfojdaengibfgaaDoor.D
/- From the form's reading of an argument to a representation: every data type of the program is opened by these laws. No program text is named here. -/
set_option linter.unusedVariables false
set_option linter.unusedSimpArgs false
set_option linter.unnecessarySimpa false
namespace Go.Proofs.YtfojdaengibfgaaDoor.D
open Go.RowKit

def I64 (n : Int) : Prop := -9223372036854775808 ≤ n ∧ n ≤ 9223372036854775807
class Data (α : Type) where
  lim : α → Prop
  sm : α → Prop
instance : Data Int := ⟨I64, fun _ => True⟩
instance : Data Bool := ⟨fun _ => True, fun _ => True⟩
instance : Data ByteArray := ⟨fun s => s.size ≤ 9223372036854775807, fun s => s.size ≤ 1048576⟩
instance {α β : Type} [Data α] [Data β] : Data (α × β) := ⟨fun x => Data.lim x.1 ∧ Data.lim x.2, fun x => Data.sm x.1 ∧ Data.sm x.2⟩
instance {α : Type} [Data α] : Data (List α) := ⟨fun xs => xs.length ≤ 9223372036854775807 ∧ ∀ x, x ∈ xs → Data.lim x, fun xs => xs.length ≤ 1048576 ∧ ∀ x, x ∈ xs → Data.sm x⟩
structure Opens (P : Program) (t : TypeId) {α : Type} [Data α] (R : Rep α) : Prop where
  out : ∀ {H : Type} (enc : TypeId × Value → H) (w : World) (fuel : Nat) (cs : List Value) (x : DataW H × List MemPlace), DataW.trod enc P w 0 (fun _ => true) true fuel t cs = some x → ∃ a : α, R.rd (hp w) cs a ∧ Data.lim a

theorem opens_int {P : Program} {t : TypeId} (h : P.underlying t = some (.int .i64)) : Opens P t rInt := by
  constructor
  intro H enc w fuel cs x hx
  obtain ⟨n, rfl, -, hw⟩ := DataW.trod_int h hx
  refine ⟨n, rfl, show I64 n from ?_⟩
  simp [Lit.wf, IntKind.min, IntKind.max, IntKind.signed, IntKind.bits] at hw
  unfold I64
  omega
theorem opens_bool {P : Program} {t : TypeId} (h : P.underlying t = some .bool) : Opens P t rBool := by
  constructor
  intro H enc w fuel cs x hx
  obtain ⟨n, rfl, -⟩ := DataW.trod_bool h hx
  exact ⟨n, rfl, trivial⟩
theorem opens_slice {P : Program} {t e : TypeId} {α : Type} [Data α] {R : Rep α} {E : TypeId} (h : P.underlying t = some (.slice e)) (hc : P.cellsOf e = R.size) (h0 : 0 < R.size) (he : Opens P e R) : Opens P t (rSlice E R) := by
  constructor
  intro H enc w fuel cs x hx
  rcases Go.Deep.open_slice h hx with ⟨rfl, -⟩ | ⟨a, len, cap, m, n, D, Pl, rfl, -, hl, hm, hmm, -, hel⟩
  · exact ⟨[], ⟨none, 0, rfl, by simp, .inl rfl⟩, Nat.zero_le _, fun x hx => by cases hx⟩
  have hlm : m = cap := by simpa using hmm
  subst hlm
  rw [hc] at hel
  by_cases hz : len = 0
  · subst hz
    exact ⟨[], ⟨some a, m, rfl, by simp, .inl rfl⟩, Nat.zero_le _, fun x hx => by cases hx⟩
  · have hone : ∀ i, i < len → ∃ c : List Value, ∃ y : α, c.length = R.size ∧ (∀ j, j < R.size → w.cell? ((a.add (i * R.size)).add j) = c[j]?) ∧ R.rd (hp w) c y ∧ Data.lim y := by
      intro i hi
      obtain ⟨c, h1, h2⟩ := hel i (by omega)
      obtain ⟨-, h3, h4⟩ := World.cells?_some h1
      obtain ⟨y, hy⟩ := he.out enc w _ _ _ h2
      exact ⟨c, y, h3, h4, hy⟩
    obtain ⟨c0, y0, hc0, hr0, -⟩ := hone 0 (by omega)
    have h00 := hr0 0 h0
    have hsome : ∃ v, c0[0]? = some v := ⟨_, List.getElem?_eq_getElem (by omega)⟩
    obtain ⟨v, hv⟩ := hsome
    rw [hv] at h00
    have ha : (a.add (0 * R.size)).add 0 = a := by simp [Addr.add]
    rw [ha] at h00
    obtain ⟨b, off, spot⟩ := a
    have hb : ∃ ccs T fr, w.heap[b]? = some (.cells ccs T fr) ∧ spot = none := by
      simp only [World.cell?] at h00
      split at h00
      · rename_i ccs T fr heq
        cases spot with
        | none => exact ⟨ccs, T, fr, heq, rfl⟩
        | some s => simp at h00
      · simp at h00
    obtain ⟨ccs, T, fr, hh, rfl⟩ := hb
    have hadd : ∀ i j, (Addr.add ⟨b, off, none⟩ i).add j = ⟨b, off + i + j, none⟩ := by
      intro i j
      by_cases h1 : i = 0 <;> by_cases h2 : j = 0 <;> simp [Addr.add, h1, h2, Nat.add_assoc]
    haveI : Inhabited α := ⟨y0⟩
    obtain ⟨X, hX⟩ := Go.Deep.choose_lt (α := α) (n := len) (p := fun i y => ∃ c : List Value, c.length = R.size ∧ (∀ j, j < R.size → ccs.toList[off + i * R.size + j]? = c[j]?) ∧ R.rd (hp w) c y ∧ Data.lim y) (fun i hi => by
      obtain ⟨c, y, h1, h2, h3⟩ := hone i hi
      refine ⟨y, c, h1, fun j hj => ?_, h3⟩
      have := h2 j hj
      rw [hadd] at this
      simp only [World.cell?, hh] at this
      simpa using this)
    have hlen : ((List.range len).map X).length = len := by simp
    have hel2 : ∀ i y, ((List.range len).map X)[i]? = some y → i < len ∧ y = X i := fun i y hy => by
      have hi : i < len := by have := (List.getElem?_eq_some_iff.1 hy).1; omega
      exact ⟨hi, by simpa [hi] using hy.symm⟩
    refine ⟨(List.range len).map X, ⟨some ⟨b, off, none⟩, m, by rw [hlen], by rw [hlen]; unfold maxLen at hm; unfold lim; omega, .inr ⟨b, off, ccs, T, fr, rfl, hh, fun i y hy => ?_⟩⟩, by rw [hlen]; unfold maxLen at hm; omega, fun y hy => ?_⟩
    · obtain ⟨hi, rfl⟩ := hel2 i y hy
      obtain ⟨c, e1, e2, e3, -⟩ := hX i hi
      exact ⟨c, e1, e2, e3⟩
    · obtain ⟨i, hi, he⟩ := List.mem_iff_getElem?.1 hy |>.imp fun i hi => hel2 i y hi
      obtain ⟨-, -, -, -, e4⟩ := hX i hi
      rw [he]; exact e4

structure OpensFs (P : Program) (fs : List Field) (o : Nat) {α : Type} [Data α] (R : Rep α) : Prop where
  out : ∀ {H : Type} (enc : TypeId × Value → H) (w : World) (fuel : Nat) (cs : List Value) , cs.length = o + R.size →
    (∀ f ∈ fs, ∃ x, DataW.trod enc P w 0 (fun _ => true) true fuel f.type ((cs.drop f.offset).take (P.cellsOf f.type)) = some x) → ∃ a : α, R.rd (hp w) (cs.drop o) a ∧ Data.lim a
theorem opens_last {P : Program} {f : Field} {o : Nat} {α : Type} [Data α] {R : Rep α} (ho : f.offset = o) (hc : P.cellsOf f.type = R.size) (h : Opens P f.type R) : OpensFs P [f] o R := by
  constructor
  intro H enc w fuel cs hl hx
  obtain ⟨x, hx⟩ := hx f (by simp)
  rw [ho, hc, List.take_of_length_le (by rw [List.length_drop]; omega)] at hx
  exact h.out enc w _ _ _ hx
theorem opens_next {P : Program} {f : Field} {fs : List Field} {o : Nat} {α β : Type} [Data α] [Data β] {R : Rep α} {S : Rep β} (ho : f.offset = o) (hc : P.cellsOf f.type = R.size) (h : Opens P f.type R) (hs : OpensFs P fs (o + R.size) S) : OpensFs P (f :: fs) o (rProd R S) := by
  constructor
  intro H enc w fuel cs hl hx
  have hl' : cs.length = o + (R.size + S.size) := hl
  obtain ⟨b, hb, hlb⟩ := hs.out enc w fuel cs (by omega) (fun g hg => hx g (by simp [hg]))
  obtain ⟨x, hx⟩ := hx f (by simp)
  rw [ho, hc] at hx
  obtain ⟨a, ha, hla⟩ := h.out enc w _ _ _ hx
  refine ⟨(a, b), ⟨(cs.drop o).take R.size, cs.drop (o + R.size), ?_, ha, hb⟩, hla, hlb⟩
  rw [← List.drop_drop, List.take_append_drop]
theorem opens_struct {P : Program} {t : TypeId} {fs : Array Field} {α : Type} [Data α] {R : Rep α} (h : P.underlying t = some (.struct fs)) (hc : P.cellsOf t = R.size) (hf : OpensFs P fs.toList 0 R) : Opens P t R := by
  constructor
  intro H enc w fuel cs x hx
  obtain ⟨xs, n, -, -, hl, hn, hel⟩ := DataW.trod_struct h hx
  have := hf.out enc w n cs (by omega) (fun f hm => by
    obtain ⟨i, hi, rfl⟩ := List.getElem_of_mem hm
    have h1 : fs[i]? = some fs.toList[i] := by simp
    exact ⟨_, (hel i _ h1).trans (List.getElem?_eq_getElem (by simp at hi; omega))⟩)
  simpa using this
theorem St.below {w0 w : World} {cs : List Ch} (h : St (hp w0) w0 w cs) : Below w0.heap.size w0 w := by
  obtain ⟨⟨h1, h2, h3, h4⟩, h5, -⟩ := h
  refine ⟨h1, h2, h3, h4, fun b hb => ?_⟩
  have e : w0.heap[b]? = some w0.heap[b] := Array.getElem?_eq_getElem hb
  rw [e]; exact h5 b _ e
end Go.Proofs.YtfojdaengibfgaaDoor.D
/- Loops of models: what rows are looked through, copied, counted, compared. No program text is named here. -/
set_option linter.unusedVariables false
set_option linter.unusedSimpArgs false
set_option linter.unnecessarySimpa false
namespace Go.Proofs.YtfojdaengibfgaaDoor.D
open Go.RowKit

theorem wrapI {n : Int} (h1 : -9223372036854775808 ≤ n) (h2 : n ≤ 9223372036854775807) : IntKind.i64.wrap n = n := by
  simp only [IntKind.wrap, IntKind.bits, IntKind.signed, Bool.true_and]
  split <;> rename_i h <;> simp at h <;> omega
theorem wrap_succ {i : Nat} (h : i < 9223372036854775807) : IntKind.i64.wrap ((i : Int) + 1) = ((i + 1 : Nat) : Int) := by
  rw [wrapI (by omega) (by omega)]; rfl
theorem getI_nat {α : Type} {xs : List α} {i : Nat} (h : i < xs.length) : getI xs (i : Int) = some (xs[i]) := by
  unfold getI
  rw [if_pos (Int.natCast_nonneg _)]
  simp [h]
theorem lt_nat {i n : Nat} (h : i < n) : decide ((i : Int) < (n : Int)) = true := by simp [h]
theorem lt_self {n : Nat} : decide ((n : Int) < (n : Int)) = false := by simp
theorem fuelUp (k : Nat) (h : k ≤ 9223372036854775807) : k < FUEL := by unfold FUEL; omega
theorem mkI_ok {α : Type} {b n : Nat} {z : α} (h : n * b ≤ 140737488355328) : mkI b (n : Int) z = some (List.replicate n z) := by
  unfold mkI
  rw [if_pos ⟨Int.natCast_nonneg _, by simpa using h⟩]; simp
theorem loopM_nxt {R S : Type} {f : S → Option (Out R S)} (inv : Nat → S) (N : Nat) (h : ∀ i, i < N → f (inv i) = some (.nxt (inv (i + 1)))) : ∀ (m i k : Nat), i + m = N → loopM f (k + m) (inv i) = loopM f k (inv N)
  | 0, i, k, e => by rw [show i = N by omega]; rfl
  | m + 1, i, k, e => by
    rw [← Nat.add_assoc, loopM, h i (by omega)]
    exact loopM_nxt inv N h m (i + 1) k (by omega)
theorem loopM_all {R S : Type} {f : S → Option (Out R S)} (inv : Nat → S) (N : Nat) {s : S} (h : ∀ i, i < N → f (inv i) = some (.nxt (inv (i + 1)))) (he : f (inv N) = some (.brk s)) (hN : N < FUEL) : loopM f FUEL (inv 0) = some (.brk s) := by
  have e : FUEL = (FUEL - N - 1) + 1 + N := by omega
  rw [e, loopM_nxt inv N h N 0 _ (by omega), loopM, he]
theorem toL {R α : Type} {f : List α × Int → Option (Out R (List α × Int))} {z : α} (xs : List α) (hN : xs.length ≤ 9223372036854775807)
    (hstep : ∀ ys i (h : i < xs.length), ys.length = xs.length → f (ys, (i : Int)) = some (.nxt (ys.set i xs[i], ((i + 1 : Nat) : Int)))) (hend : ∀ ys, ys.length = xs.length → f (ys, (xs.length : Int)) = some (.brk (ys, (xs.length : Int)))) :
    loopM f FUEL (List.replicate xs.length z, 0) = some (.brk (xs, (xs.length : Int))) := by
  have h0 : (List.replicate xs.length z, (0 : Int)) = (fun i : Nat => (xs.take i ++ (List.replicate xs.length z).drop i, (i : Int))) 0 := by simp
  rw [h0]
  refine loopM_all (fun i : Nat => (xs.take i ++ (List.replicate xs.length z).drop i, (i : Int))) xs.length (fun i hi => ?_) ?_ (fuelUp _ hN)
  · have hl : (xs.take i ++ (List.replicate xs.length z).drop i).length = xs.length := by
      rw [List.length_append, List.length_take, List.length_drop, List.length_replicate]; omega
    rw [hstep _ i hi hl]
    congr 3
    have ht : (xs.take i).length = i := by rw [List.length_take]; omega
    rw [List.set_append_right _ _ (by omega), ht, Nat.sub_self, List.drop_eq_getElem_cons (by rw [List.length_replicate]; exact hi), List.set_cons_zero, List.take_succ_eq_append_getElem hi, List.append_assoc]
    rfl
  · have := hend xs rfl
    rw [List.take_of_length_le (Nat.le_refl _), List.drop_of_length_le (by rw [List.length_replicate]; exact Nat.le_refl _), List.append_nil]
    exact this
def ToOk {α : Type} [Data α] (m : α → Option α) : Prop := ∀ x, Data.sm x → m x = some x
def EqOk {α : Type} [Data α] [DecidableEq α] (m : α → α → Option Bool) : Prop := ∀ x y, Data.sm x → Data.sm y → m x y = some (decide (x = y))
theorem eqGo {α : Type} [DecidableEq α] {f : Int → Option (Out Bool Int)} (xs ys : List α) (hl : xs.length = ys.length)
    (hstep : ∀ i (h : i < xs.length) (h' : i < ys.length), f (i : Int) = some (if xs[i] = ys[i] then .nxt ((i + 1 : Nat) : Int) else .ret false)) (hend : f (xs.length : Int) = some (.brk (xs.length : Int))) : ∀ (m i k : Nat), i + m = xs.length → m < k →
      loopM f k (i : Int) = some (if xs.drop i = ys.drop i then .brk (xs.length : Int) else .ret false)
  | 0, i, k, e, hk => by
    obtain ⟨k, rfl⟩ : ∃ q, k = q + 1 := ⟨k - 1, by omega⟩
    obtain rfl : i = xs.length := by omega
    rw [loopM, hend, List.drop_of_length_le (Nat.le_refl _), List.drop_of_length_le (by omega), if_pos rfl]
  | m + 1, i, k, e, hk => by
    obtain ⟨k, rfl⟩ : ∃ q, k = q + 1 := ⟨k - 1, by omega⟩
    have hi : i < xs.length := by omega
    have hi' : i < ys.length := by omega
    have d1 := List.drop_eq_getElem_cons hi
    have d2 := List.drop_eq_getElem_cons hi'
    rw [loopM, hstep i hi hi', d1, d2]
    by_cases h : xs[i] = ys[i]
    · rw [if_pos h]
      simp only
      rw [eqGo xs ys hl hstep hend m (i + 1) k (by omega) (by omega)]
      simp only [List.cons.injEq, h, true_and]
    · rw [if_neg h]
      simp only [List.cons.injEq, h, false_and, if_false]
theorem eqL {α : Type} [DecidableEq α] {f : Int → Option (Out Bool Int)} (xs ys : List α) (hN : xs.length ≤ 9223372036854775807)
    (hstep : ∀ i (h : i < xs.length) (h' : i < ys.length), f (i : Int) = some (if xs[i] = ys[i] then .nxt ((i + 1 : Nat) : Int) else .ret false)) (hend : f (xs.length : Int) = some (.brk (xs.length : Int))) :
    (if (xs.length : Int) != (ys.length : Int) then (some false) else (bindL (loopM f FUEL 0) (fun r => some r) (fun s4 => some true))) = some (decide (xs = ys)) := by
  by_cases hl : xs.length = ys.length
  · rw [if_neg (by rw [hl]; simp), show ((0 : Int)) = ((0 : Nat) : Int) from rfl, eqGo xs ys hl hstep hend xs.length 0 FUEL (by omega) (fuelUp _ hN)]
    by_cases h : xs = ys
    · subst h; simp [bindL]
    · simp [bindL, h]
  · have : xs ≠ ys := fun e => hl (by rw [e])
    rw [if_pos (by simp; omega)]; simp [this]
theorem iteOpt {α : Type} {c d : Prop} [Decidable c] [Decidable d] {a b : α} (h : c ↔ d) : (if c then some a else some b) = some (if d then a else b) := by
  by_cases k : c
  · rw [if_pos k, if_pos (h.1 k)]
  · rw [if_neg k, if_neg (fun e => k (h.2 e))]
theorem iteOptN {α : Type} {c d : Prop} [Decidable c] [Decidable d] {a b : α} (h : c ↔ ¬ d) : (if c then some b else some a) = some (if d then a else b) := by
  by_cases k : d
  · rw [if_neg (fun e => h.1 e k), if_pos k]
  · rw [if_pos (h.2 k), if_neg k]
instance : LawfulBEq ByteArray where
  eq_of_beq {a b} h := ByteArray.ext (eq_of_beq (show (a.data == b.data) = true from h))
  rfl {a} := beq_self_eq_true a.data
theorem peta {α β : Type} (p : α × β) : (p.1, p.2) = p := rfl
theorem sm_list {α : Type} [Data α] {xs : List α} (h : Data.sm xs) : xs.length ≤ 1048576 ∧ ∀ x, x ∈ xs → Data.sm x := h
theorem lim_list {α : Type} [Data α] {xs : List α} (h : Data.lim xs) : xs.length ≤ 9223372036854775807 ∧ ∀ x, x ∈ xs → Data.lim x := h
end Go.Proofs.YtfojdaengibfgaaDoor.D
/- Printed by genplain.py: what the helpers of the law FnExactFormatMessage compute. -/
set_option linter.unusedVariables false
set_option linter.unusedSimpArgs false
set_option linter.unnecessarySimpa false
set_option synthInstance.maxSize 20000
set_option synthInstance.maxHeartbeats 2000000
namespace Go.Proofs.YtfojdaengibfgaaDoor.D
open Go.RowKit
theorem t_toPair : ToOk m_w_toPair := by
  intro x hx
  unfold m_w_toPair
  simp only [peta, Option.bind_some]
theorem t_toPairS : ToOk m_w_toPairS := by
  intro xs hx
  have hn := (sm_list hx).1
  unfold m_w_toPairS
  rw [mkI_ok (by omega)]; simp only [Option.bind_some]
  rw [toL (f := m_w_toPairS_l0 xs) xs (by omega) (fun ys i h hy => by simp only [m_w_toPairS_l0, lt_nat h, if_true, getI_nat h, getI_nat (show i < ys.length by omega), Option.bind_some, peta, t_toPair xs[i] ((sm_list hx).2 _ (List.getElem_mem h)), wrap_succ (show i < 9223372036854775807 by omega), Int.toNat_natCast]) (fun ys hy => by simp only [m_w_toPairS_l0, lt_self]; rfl)]
  rfl
theorem t_toDelta : ToOk m_w_toDelta := by
  intro x hx
  unfold m_w_toDelta
  simp only [peta, Option.bind_some, t_toPairS x.1 hx.1, t_toPairS x.2 hx.2]
theorem t_toMessage : ToOk m_w_toMessage := by
  intro x hx
  unfold m_w_toMessage
  simp only [peta, Option.bind_some, t_toDelta x.2.2 hx.2.2]
theorem q_eqPair : EqOk m_w_eqPair := by
  intro x y hx hy
  unfold m_w_eqPair
  try simp only [peta, Option.bind_some]
  repeat' split
  all_goals simp_all [Prod.ext_iff]
theorem q_eqPairS : EqOk m_w_eqPairS := fun xs ys hx hy => eqL (f := m_w_eqPairS_l0 xs ys) xs ys (by have := (sm_list hx).1; omega) (fun i h h' => by
  simp only [m_w_eqPairS_l0, lt_nat h, if_true, getI_nat h, getI_nat h', Option.bind_some, peta, q_eqPair xs[i] ys[i] ((sm_list hx).2 _ (List.getElem_mem h)) ((sm_list hy).2 _ (List.getElem_mem h')), wrap_succ (show i < 9223372036854775807 by have := (sm_list hx).1; omega)]
  first | exact iteOpt (by simp) | exact iteOptN (by simp) | exact iteOpt (by simp [Prod.ext_iff])) (by simp only [m_w_eqPairS_l0, lt_self]; rfl)
theorem q_eqDelta : EqOk m_w_eqDelta := by
  intro x y hx hy
  unfold m_w_eqDelta
  try simp only [peta, Option.bind_some, q_eqPairS x.1 y.1 hx.1 hy.1, q_eqPairS x.2 y.2 hx.2 hy.2]
  repeat' split
  all_goals simp_all [Prod.ext_iff]
theorem q_eqMessage : EqOk m_w_eqMessage := by
  intro x y hx hy
  unfold m_w_eqMessage
  try simp only [peta, Option.bind_some, q_eqDelta x.2.2 y.2.2 hx.2.2 hy.2.2]
  repeat' split
  all_goals simp_all [Prod.ext_iff]
end Go.Proofs.YtfojdaengibfgaaDoor.D
/- Loops as steps on invariants; numbering in the order of discovery. No program text is named here. -/
set_option linter.unusedVariables false
set_option linter.unusedSimpArgs false
set_option linter.unnecessarySimpa false
namespace Go.Proofs.YtfojdaengibfgaaDoor.D
open Go.RowKit

/-! ### Loops -/
theorem loopM_go {R S : Type} {f : S → Option (Out R S)} (Inv : Nat → S → Prop) (Q : Out R S → Prop) (N : Nat)
    (h : ∀ i s, i ≤ N → Inv i s → (i < N ∧ ∃ s', f s = some (.nxt s') ∧ Inv (i + 1) s') ∨ ∃ o, f s = some o ∧ (∀ s', o ≠ .nxt s') ∧ Q o) {s : S} (h0 : Inv 0 s) (hN : N < FUEL) : ∃ o, loopM f FUEL s = some o ∧ Q o := by
  have key : ∀ (k i : Nat) (s : S), i ≤ N → N < i + k → Inv i s → ∃ o, loopM f k s = some o ∧ Q o := by
    intro k
    induction k with
    | zero => intro i s h1 h2; omega
    | succ k ih =>
      intro i s h1 h2 hI
      rcases h i s h1 hI with ⟨hi, s', e, hI'⟩ | ⟨o, e, hn, hq⟩
      · obtain ⟨o, e', hq⟩ := ih (i + 1) s' (by omega) (by omega) hI'
        exact ⟨o, by rw [loopM, e]; exact e', hq⟩
      · refine ⟨o, ?_, hq⟩
        rw [loopM, e]
        cases o with
        | nxt s' => exact absurd rfl (hn s')
        | brk s' => rfl
        | ret r => rfl
  exact key FUEL 0 s (by omega) (by omega) h0
theorem loopM_at {R S : Type} {f : S → Option (Out R S)} (st : Nat → S) (N : Nat) (h : ∀ i, i < N → f (st i) = some (.nxt (st (i + 1)))) (he : f (st N) = some (.brk (st N))) (hN : N < FUEL) : loopM f FUEL (st 0) = some (.brk (st N)) := loopM_all st N h he hN
theorem appI_ok {α : Type} {b : Nat} {xs ys : List α} (h : (xs.length + ys.length) * b ≤ 140737488355328) : appI b xs ys = some (xs ++ ys) := by unfold appI; rw [if_pos h]
theorem bindL_ret {R S T : Type} {x : Option (Out R S)} {r : R} {kr : R → Option T} {k : S → Option T} (h : x = some (.ret r)) : bindL x kr k = kr r := by rw [h]; rfl
theorem bindL_brk {R S T : Type} {x : Option (Out R S)} {s : S} {kr : R → Option T} {k : S → Option T} (h : x = some (.brk s)) : bindL x kr k = k s := by rw [h]; rfl

/-! ### Places of lists -/
section
variable {α : Type} [Inhabited α] {xs ys : List α}
end

/-! ### Numbering in the order of discovery -/
section
variable {κ : Type} [DecidableEq κ]
variable {nx : κ → List (Option κ)} {first : κ}
end
end Go.Proofs.YtfojdaengibfgaaDoor.D
/- Lists of pairs in strict order: one for each set; insertion, sorting, leaving out what is alike. No program in sight. -/
set_option linter.unusedVariables false
set_option linter.unusedSimpArgs false
set_option linter.unnecessarySimpa false
namespace Go.Proofs.YtfojdaengibfgaaDoor.D
abbrev Pr := Int × Int
def ltP (a b : Pr) : Prop := a.1 < b.1 ∨ a.1 = b.1 ∧ a.2 < b.2
instance (a b : Pr) : Decidable (ltP a b) := inferInstanceAs (Decidable (_ ∨ _))
end Go.Proofs.YtfojdaengibfgaaDoor.D
/- Sets of pairs: what both programs reckon. -/
set_option linter.unusedVariables false
set_option linter.unusedSimpArgs false
set_option linter.unnecessarySimpa false
set_option linter.unusedSectionVars false
namespace Go.Proofs.YtfojdaengibfgaaDoor.D
open Go.RowKit

theorem find_go {α R : Type} {f : Int → Option (Out R Int)} (l : List α) (b : α → Bool) (r : Nat → R) (hN : l.length ≤ 9223372036854775807) (h : ∀ i (hi : i < l.length), f (i : Int) = some (if b l[i] then .ret (r i) else .nxt ((i + 1 : Nat) : Int))) (he : f (l.length : Int) = some (.brk (l.length : Int))) :
    (∃ (i : Nat) (hi : i < l.length), b l[i] = true ∧ (∀ j (hj : j < i), b (l[j]'(by omega)) = false) ∧ loopM f FUEL 0 = some (.ret (r i))) ∨ ((∀ x, x ∈ l → b x = false) ∧ loopM f FUEL 0 = some (.brk (l.length : Int))) := by
  obtain ⟨o, e, hQ⟩ := loopM_go (f := f) (fun i s => s = (i : Int) ∧ ∀ j (hj : j < l.length), j < i → b l[j] = false) (fun o => (∃ (i : Nat) (hi : i < l.length), b l[i] = true ∧ (∀ j (hj : j < i), b (l[j]'(by omega)) = false) ∧ o = .ret (r i)) ∨ ((∀ x, x ∈ l → b x = false) ∧ o = .brk (l.length : Int))) l.length (fun i s hi hI => by
    obtain ⟨rfl, hI⟩ := hI
    by_cases h1 : i < l.length
    · cases hb : b l[i] with
      | true => exact .inr ⟨_, by rw [h i h1, hb, if_pos rfl], fun s' hh => by simp at hh, .inl ⟨i, h1, hb, fun j hj => hI j (by omega) hj, by simp⟩⟩
      | false => exact .inl ⟨h1, _, by rw [h i h1, hb, if_neg (by simp)], rfl, fun j hj hji => by
          by_cases c : j = i
          · subst c; exact hb
          · exact hI j hj (by omega)⟩
    · obtain rfl : i = l.length := by omega
      exact .inr ⟨_, he, fun s' hh => by simp at hh, .inr ⟨fun x hx => by
        obtain ⟨j, hj, rfl⟩ := List.getElem_of_mem hx
        exact hI j hj hj, rfl⟩⟩) (s := 0) ⟨rfl, fun j hj h0 => by omega⟩ (fuelUp _ hN)
  rcases hQ with ⟨i, hi, h1, h2, rfl⟩ | ⟨h1, rfl⟩
  · exact .inl ⟨i, hi, h1, h2, e⟩
  · exact .inr ⟨h1, e⟩
section
variable {l m : List Pr} {p : Pr}
theorem eqB2 {a b : Pr} : ((a.1 == b.1) && ((a.2 == b.2) && true)) = decide (a = b) := by
  rw [Bool.eq_iff_iff]; simp [Prod.ext_iff]
theorem has_s (hl : l.length ≤ 1073741824) : m_s_l15Has l p = some (decide (p ∈ l)) := by
  unfold m_s_l15Has
  rcases find_go (f := m_s_l15Has_l0 l p) l (fun x => decide (x = p)) (fun _ => true) (by omega) (fun i hi => by
      unfold m_s_l15Has_l0
      rw [lt_nat hi, if_pos rfl, getI_nat hi]
      simp only [Option.bind_some, eqB2, wrap_succ (show i < 9223372036854775807 by omega)]
      split <;> rfl) (by
      unfold m_s_l15Has_l0
      rw [lt_self]; rfl) with ⟨i, hi, h1, -, e⟩ | ⟨h1, e⟩
  · rw [bindL_ret e, decide_eq_true (by rw [← of_decide_eq_true h1]; exact List.getElem_mem hi)]
  · rw [bindL_brk e, decide_eq_false fun hm => by have := h1 p hm; simp at this]
theorem idx_i (hl : l.length ≤ 1073741824) : ∃ r : Int, m_g_slices_Index_S_Pair_Pair l p = some r ∧ (0 ≤ r ↔ p ∈ l) := by
  unfold m_g_slices_Index_S_Pair_Pair
  rcases find_go (f := m_g_slices_Index_S_Pair_Pair_l0 l p) l (fun x => decide (p = x)) (fun i => (i : Int)) (by omega) (fun i hi => by
      unfold m_g_slices_Index_S_Pair_Pair_l0
      rw [lt_nat hi, if_pos rfl, getI_nat hi]
      simp only [Option.bind_some, eqB2, wrap_succ (show i < 9223372036854775807 by omega)]
      split <;> rfl) (by
      unfold m_g_slices_Index_S_Pair_Pair_l0
      rw [lt_self]; rfl) with ⟨i, hi, h1, -, e⟩ | ⟨h1, e⟩
  · exact ⟨_, bindL_ret e, by
      have : p ∈ l := by rw [of_decide_eq_true h1]; exact List.getElem_mem hi
      simp [this]⟩
  · exact ⟨_, bindL_brk e, by
      have : p ∉ l := fun hm => by have := h1 p hm; simp at this
      simp [this]⟩
theorem has_i (hl : l.length ≤ 1073741824) : m_g_slices_Contains_S_Pair_Pair l p = some (decide (p ∈ l)) := by
  unfold m_g_slices_Contains_S_Pair_Pair
  obtain ⟨r, e, h⟩ := idx_i (l := l) (p := p) hl
  rw [peta, e, Option.bind_some]
  congr 1
  rw [Bool.eq_iff_iff, decide_eq_true_iff, decide_eq_true_iff]
  exact h
theorem idxf_i {d : Pr → Bool} {f : Pr → Option Bool} (hf : ∀ x, f x = some (d x)) (hl : l.length ≤ 1073741824) :
    (∃ (i : Nat) (hi : i < l.length), d l[i] = true ∧ (∀ j (hj : j < i), d (l[j]'(by omega)) = false) ∧ m_g_slices_IndexFunc_S_Pair_Pair l f = some (i : Int)) ∨ ((∀ x, x ∈ l → d x = false) ∧ m_g_slices_IndexFunc_S_Pair_Pair l f = some (-1)) := by
  unfold m_g_slices_IndexFunc_S_Pair_Pair
  rcases find_go (f := m_g_slices_IndexFunc_S_Pair_Pair_l0 l f) l d (fun i => (i : Int)) (by omega) (fun i hi => by
      unfold m_g_slices_IndexFunc_S_Pair_Pair_l0
      rw [lt_nat hi, if_pos rfl, getI_nat hi]
      simp only [Option.bind_some, peta, hf, wrap_succ (show i < 9223372036854775807 by omega)]
      split <;> rfl) (by
      unfold m_g_slices_IndexFunc_S_Pair_Pair_l0
      rw [lt_self]; rfl) with ⟨i, hi, h1, h2, e⟩ | ⟨h1, e⟩
  · exact .inl ⟨i, hi, h1, h2, bindL_ret e⟩
  · exact .inr ⟨h1, bindL_brk e⟩
theorem common_i (hl : l.length ≤ 1073741824) (hm : m.length ≤ 1073741824) : m_i_commonPair l m = some (decide (∃ x, x ∈ l ∧ x ∈ m)) := by
  unfold m_i_commonPair m_g_slices_ContainsFunc_S_Pair_Pair
  rcases idxf_i (l := l) (d := fun x => decide (x ∈ m)) (f := fun a0 => m_i_commonPair_1 a0 m) (fun x => by unfold m_i_commonPair_1; rw [peta, has_i hm]; rfl) hl with ⟨i, hi, h1, -, e⟩ | ⟨h1, e⟩
  · rw [e]
    simp only [Option.bind_some]
    congr 1
    rw [Bool.eq_iff_iff, decide_eq_true_iff, decide_eq_true_iff]
    exact ⟨fun _ => ⟨_, List.getElem_mem hi, of_decide_eq_true h1⟩, fun _ => by omega⟩
  · rw [e]
    simp only [Option.bind_some]
    congr 1
    rw [Bool.eq_iff_iff, decide_eq_true_iff, decide_eq_true_iff]
    exact ⟨fun h => by omega, fun ⟨x, h2, h3⟩ => by have := h1 x h2; simp [h3] at this⟩
theorem less_s (a b : Pr) : m_s_l15Less a b = some (decide (ltP a b)) := by
  unfold m_s_l15Less ltP
  by_cases h : a.1 < b.1
  · simp [h]
  · by_cases k : a.1 = b.1 <;> simp [h, k]
theorem cmp_i (a b : Pr) : ∃ r : Int, m_i_comparePairs a b = some r ∧ (0 ≤ r ↔ ¬ ltP a b) := by
  unfold m_i_comparePairs m_i_compareInts ltP
  by_cases k : a.1 = b.1
  · by_cases h : a.2 < b.2
    · exact ⟨-1, by simp [k, h], by simp [k, h]⟩
    · by_cases h2 : b.2 < a.2
      · exact ⟨1, by simp [k, h, h2], by simp [k, h]⟩
      · exact ⟨0, by simp [k, h, h2], by simp [k, h]⟩
  · by_cases h : a.1 < b.1
    · exact ⟨-1, by simp [k, h], by simp [k, h]⟩
    · have h2 : b.1 < a.1 := by omega
      exact ⟨1, by simp [k, h, h2], by simp [k, h]⟩
theorem are_same : m_s_ArePairs l = m_i_ArePairs l := by
  unfold m_s_ArePairs m_i_ArePairs
  have e : m_s_ArePairs_l0 l = m_i_ArePairs_l0 l := by
    funext s
    unfold m_s_ArePairs_l0 m_i_ArePairs_l0
    have hw : m_s_l1In = m_i_within := rfl
    rw [hw]
    cases hg : getI l s with
    | none => rfl
    | some x =>
      have hk : ∀ y : Pr, ((m_s_l15Less (y.1, y.2) (x.1, x.2)).bind fun r9 => if r9 = true then some (Out.nxt (R := Bool) (IntKind.i64.wrap (s + 1))) else some (Out.ret false)) = ((m_i_comparePairs (y.1, y.2) (x.1, x.2)).bind fun r9 => if decide (r9 ≥ 0) = true then some (Out.ret false) else some (Out.nxt (IntKind.i64.wrap (s + 1)))) := fun y => by
        rw [less_s]
        obtain ⟨r, e, h⟩ := cmp_i (y.1, y.2) (x.1, x.2)
        rw [e]
        simp only [Option.bind_some, peta] at h ⊢
        by_cases c : ltP y x
        · rw [if_pos (decide_eq_true c), if_neg (by simpa using fun q => (h.1 q) c)]
        · rw [if_neg (by simpa using c), if_pos (by simpa using h.2 c)]
      simp only [Option.bind_some, hk]
  rw [e]
end
end Go.Proofs.YtfojdaengibfgaaDoor.D
/- ArePairs always answers. -/
set_option linter.unusedVariables false
set_option linter.unusedSimpArgs false
set_option linter.unnecessarySimpa false
set_option linter.unusedSectionVars false
namespace Go.Proofs.YtfojdaengibfgaaDoor.D
open Go.RowKit

theorem are_tot (l : List Pr) (hl : l.length ≤ 1073741824) : ∃ b, m_i_ArePairs l = some b := by
  unfold m_i_ArePairs
  obtain ⟨o, e, hQ⟩ := loopM_go (f := m_i_ArePairs_l0 l) (fun i s => s = (i : Int)) (fun o => o = .ret false ∨ ∃ s, o = .brk s) l.length (fun i s hi hI => by
    subst hI
    unfold m_i_ArePairs_l0 m_i_within
    by_cases h1 : i < l.length
    · rw [lt_nat h1, if_pos rfl, getI_nat h1, wrap_succ (by omega)]
      have fin : ∀ c : Prop, [Decidable c] → (i < l.length ∧ ∃ s', (if c then some (.ret false) else some (.nxt ((i + 1 : Nat) : Int)) : Option (Out Bool Int)) = some (.nxt s') ∧ s' = ((i + 1 : Nat) : Int)) ∨ ∃ o, (if c then some (.ret false) else some (.nxt ((i + 1 : Nat) : Int)) : Option (Out Bool Int)) = some o ∧ (∀ s', o ≠ .nxt s') ∧ (o = .ret false ∨ ∃ s, o = .brk s) := by
        intro c _
        split
        · exact .inr ⟨_, rfl, fun s' h => by simp at h, .inl rfl⟩
        · exact .inl ⟨h1, _, rfl, rfl⟩
      have bad : (i < l.length ∧ ∃ s', (some (.ret false) : Option (Out Bool Int)) = some (.nxt s') ∧ s' = ((i + 1 : Nat) : Int)) ∨ ∃ o, (some (.ret false) : Option (Out Bool Int)) = some o ∧ (∀ s', o ≠ .nxt s') ∧ (o = .ret false ∨ ∃ s, o = .brk s) := .inr ⟨_, rfl, fun s' h => by simp at h, .inl rfl⟩
      have good : (i < l.length ∧ ∃ s', (some (.nxt ((i + 1 : Nat) : Int)) : Option (Out Bool Int)) = some (.nxt s') ∧ s' = ((i + 1 : Nat) : Int)) ∨ ∃ o, (some (.nxt ((i + 1 : Nat) : Int)) : Option (Out Bool Int)) = some o ∧ (∀ s', o ≠ .nxt s') ∧ (o = .ret false ∨ ∃ s, o = .brk s) := .inl ⟨h1, _, rfl, rfl⟩
      by_cases c1 : l[i].1 ≥ 0
      · by_cases c2 : l[i].1 ≤ 4
        · by_cases c3 : l[i].2 ≥ 0
          · by_cases c4 : l[i].2 ≤ 4
            · by_cases c5 : (i : Int) > 0
              · have hp : IntKind.i64.wrap ((i : Int) - 1) = ((i - 1 : Nat) : Int) := by rw [wrapI (by omega) (by omega)]; omega
                obtain ⟨r, er, -⟩ := cmp_i l[i - 1] l[i]
                simp only [Option.bind_some, c1, c2, c3, c4, c5, decide_true, if_true, hp, getI_nat (show i - 1 < l.length by omega), peta, er]
                exact fin _
              · simp only [Option.bind_some, c1, c2, c3, c4, c5, decide_true, if_true, decide_false, Bool.false_eq_true, if_false]
                exact good
            · simp only [Option.bind_some, c1, c2, c3, c4, decide_true, if_true, decide_false, Bool.false_eq_true, if_false]
              exact bad
          · simp only [Option.bind_some, c1, c2, c3, decide_true, if_true, decide_false, Bool.false_eq_true, if_false]
            exact bad
        · simp only [Option.bind_some, c1, c2, decide_true, if_true, decide_false, Bool.false_eq_true, if_false]
          exact bad
      · simp only [Option.bind_some, c1, decide_false, Bool.false_eq_true, if_false]
        exact bad
    · obtain rfl : i = l.length := by omega
      rw [lt_self]
      exact .inr ⟨_, rfl, fun s' h => by simp at h, .inr ⟨_, rfl⟩⟩) (s := 0) rfl (fuelUp _ (by omega))
  rcases hQ with rfl | ⟨s, rfl⟩
  · exact ⟨_, bindL_ret e⟩
  · exact ⟨_, bindL_brk e⟩
end Go.Proofs.YtfojdaengibfgaaDoor.D
/- IsDelta: both programs answer alike; sizes of messages. -/
set_option linter.unusedVariables false
set_option linter.unusedSimpArgs false
set_option linter.unnecessarySimpa false
set_option linter.unusedSectionVars false
set_option synthInstance.maxSize 20000
set_option synthInstance.maxHeartbeats 2000000
namespace Go.Proofs.YtfojdaengibfgaaDoor.D
open Go.RowKit

abbrev PsT : Type := List (Int × Int)
theorem sm_prs {l : PsT} (h : l.length ≤ 1048576) : Data.sm l := ⟨h, fun _ _ => ⟨trivial, trivial⟩⟩
abbrev MsT : Type := Int × Bool × (PsT × PsT)
theorem isDelta_both {d : PsT × PsT} (h1 : d.1.length ≤ 1048576) (h2 : d.2.length ≤ 1048576) : ∃ b, m_s_IsDelta d = some b ∧ m_i_IsDelta d = some b := by
  obtain ⟨b1, e1⟩ := are_tot d.1 (by omega)
  obtain ⟨b2, e2⟩ := are_tot d.2 (by omega)
  unfold m_s_IsDelta m_i_IsDelta
  rw [are_same, are_same, e1, e2, common_i (by omega) (by omega)]
  rcases find_go (f := m_s_IsDelta_l0 d) d.1 (fun x => decide (x ∈ d.2)) (fun _ => false) (by omega) (fun i hi => by
      unfold m_s_IsDelta_l0
      rw [lt_nat hi, if_pos rfl, getI_nat hi]
      simp only [Option.bind_some, peta]
      rw [has_s (by omega)]
      simp only [Option.bind_some, wrap_succ (show i < 9223372036854775807 by omega)]
      split <;> rfl) (by
      unfold m_s_IsDelta_l0
      rw [lt_self]; rfl) with ⟨i, hi, k1, -, e⟩ | ⟨k1, e⟩
  · rw [bindL_ret e]
    have hc : decide (∃ x, x ∈ d.1 ∧ x ∈ d.2) = true := decide_eq_true ⟨_, List.getElem_mem hi, of_decide_eq_true k1⟩
    rw [hc]
    refine ⟨false, rfl, ?_⟩
    cases b1 <;> cases b2 <;> rfl
  · rw [bindL_brk e]
    have hc : decide (∃ x, x ∈ d.1 ∧ x ∈ d.2) = false := decide_eq_false fun ⟨x, h3, h4⟩ => by have := k1 x h3; simp [h4] at this
    rw [hc]
    cases b1 <;> cases b2 <;> exact ⟨_, rfl, rfl⟩
theorem sz_prs {x : PsT} {l : Int} (hx : Data.lim x) (h0 : 0 ≤ l) (h1 : l ≤ 1048576) : m_w_szPairS x l = some (if l < (x.length : Int) then -1 else l - (x.length : Int)) := by
  have := (lim_list hx).1
  unfold m_w_szPairS
  rw [wrapI (by omega) (by omega)]
  by_cases h : l < (x.length : Int)
  · rw [if_pos (decide_eq_true (by omega)), if_pos h]
  · rw [if_neg (by simp; omega), if_neg h]
theorem sz_msg {x : MsT} {l : Int} (hx : Data.lim x) (h0 : 0 ≤ l) (h1 : l ≤ 1048576) : ∃ r, m_w_szMessage x l = some r ∧ (r < 0 ∨ (0 ≤ r ∧ (x.2.2.1.length : Int) + (x.2.2.2.length : Int) ≤ l)) := by
  obtain ⟨-, -, hx1, hx2⟩ := hx
  unfold m_w_szMessage m_w_szDelta
  simp only [peta]
  rw [sz_prs hx1 h0 h1]
  simp only [Option.bind_some]
  by_cases h : l < (x.2.2.1.length : Int)
  · rw [if_pos h]; exact ⟨-1, rfl, .inl (by decide)⟩
  · rw [if_neg h, if_neg (by simp; omega), sz_prs hx2 (by omega) (by omega)]
    simp only [Option.bind_some]
    by_cases k : l - (x.2.2.1.length : Int) < (x.2.2.2.length : Int)
    · rw [if_pos k]; exact ⟨-1, rfl, .inl (by decide)⟩
    · rw [if_neg k, if_neg (by simp; omega)]
      simp only [Option.bind_some]
      rw [if_neg (by simp; omega)]
      exact ⟨_, rfl, .inr ⟨by omega, by omega⟩⟩
end Go.Proofs.YtfojdaengibfgaaDoor.D
/- Numerals, lists of pairs and messages as text: both programs write the same. -/
set_option linter.unusedVariables false
set_option linter.unusedSimpArgs false
set_option linter.unnecessarySimpa false
set_option linter.unusedSectionVars false
set_option synthInstance.maxSize 20000
set_option synthInstance.maxHeartbeats 2000000
namespace Go.Proofs.YtfojdaengibfgaaDoor.D
open Go.RowKit

def mkB (l : List UInt8) : ByteArray := ⟨l.toArray⟩
theorem mkB_app (a b : List UInt8) : mkB a ++ mkB b = mkB (a ++ b) := ByteArray.ext (by simp [mkB])
theorem mkB_size (a : List UInt8) : (mkB a).size = a.length := by simp [mkB, ByteArray.size]
theorem mkB_list (a : List UInt8) : (mkB a).data.toList = a := by simp [mkB]
theorem catM (a b : List UInt8) (h : a.length + b.length ≤ 9223372036854775807) : catS (mkB a) (mkB b) = some (mkB (a ++ b)) := by
  unfold catS chk
  rw [mkB_size, mkB_size, if_pos h, Option.bind_some, mkB_app]
theorem digW : ∀ d : Fin 10, IntKind.u8.wrap (IntKind.i64.wrap (48 + (d.val : Int))) = 48 + (d.val : Int) := by decide
theorem digB {d : Nat} (h : d < 10) : bytesS [IntKind.u8.wrap (IntKind.i64.wrap (48 + (d : Int)))] = mkB [UInt8.ofNat (48 + d)] := by
  rw [digW ⟨d, h⟩]
  show ByteArray.empty.push (UInt8.ofNat (48 + (d : Int)).toNat) = _
  rw [show (48 + (d : Int)).toNat = 48 + d by omega]; rfl
theorem digA (m : Int) : (if decide ((Int.tmod m 10) < 0) then (some (IntKind.i64.wrap (-(Int.tmod m 10)))) else (some (Int.tmod m 10)) : Option Int) = some ((m.natAbs % 10 : Nat) : Int) := by
  by_cases h : m < 0
  · obtain ⟨k, rfl⟩ : ∃ k : Nat, m = -(k : Int) := ⟨m.natAbs, by omega⟩
    have e : Int.tmod (-(k : Int)) 10 = -((k % 10 : Nat) : Int) := by rw [Int.neg_tmod]; rfl
    rw [e, Int.natAbs_neg, Int.natAbs_natCast]
    by_cases h0 : k % 10 = 0
    · rw [h0]; rfl
    · rw [if_pos (decide_eq_true (by omega)), Int.neg_neg, wrapI (by omega) (by omega)]
  · obtain ⟨k, rfl⟩ : ∃ k : Nat, m = (k : Int) := ⟨m.natAbs, by omega⟩
    have e : Int.tmod (k : Int) 10 = ((k % 10 : Nat) : Int) := rfl
    rw [e, if_neg (by simp; omega), Int.natAbs_natCast]
theorem quoA {m : Int} (h : I64 m) : quoI m 10 = m.tdiv 10 ∧ (m.tdiv 10).natAbs = m.natAbs / 10 := by
  have k : (m.tdiv 10).natAbs = m.natAbs / 10 := Int.natAbs_tdiv m 10
  unfold I64 at h
  refine ⟨?_, k⟩
  unfold quoI
  exact wrapI (by omega) (by omega)
theorem fmtStep {m : Int} {out : List UInt8} (h0 : m ≠ 0) (h : I64 m) (hl : out.length ≤ 1000) : m_s_FormatInt_l0 (m, mkB out) = some (.nxt (m.tdiv 10, mkB (UInt8.ofNat (48 + m.natAbs % 10) :: out))) := by
  unfold m_s_FormatInt_l0
  simp only []
  rw [if_pos (by simpa using h0), digA, Option.bind_some, digB (Nat.mod_lt _ (by omega)), catM _ _ (by simp; omega), Option.bind_some, (quoA h).1]; rfl
theorem nD_pos (u : Nat) : 1 ≤ Lib.nDigits u := by
  by_cases h : u < 10
  · rw [Lib.nDigits_small h]; omega
  · rw [Lib.nDigits_big h]; omega
theorem fmtLoop : ∀ (k : Nat) (m : Int) (out : List UInt8), m ≠ 0 → I64 m → Lib.nDigits m.natAbs ≤ k → out.length + Lib.nDigits m.natAbs ≤ 100 → loopM m_s_FormatInt_l0 (k + 1) (m, mkB out) = some (.brk (0, mkB (Lib.decDigits m.natAbs ++ out)))
  | 0, m, out, _, _, h, _ => by have := nD_pos m.natAbs; omega
  | k + 1, m, out, h0, hm, h, hl => by
    rw [loopM, fmtStep h0 hm (by omega)]
    show loopM m_s_FormatInt_l0 (k + 1) (m.tdiv 10, _) = _
    have hq := (quoA hm).2
    by_cases h1 : m.natAbs < 10
    · have hz : m.tdiv 10 = 0 := by
        have : (m.tdiv 10).natAbs = 0 := by rw [hq]; omega
        omega
      rw [hz, loopM]
      have : m_s_FormatInt_l0 (0, mkB (UInt8.ofNat (48 + m.natAbs % 10) :: out)) = some (.brk (0, mkB (UInt8.ofNat (48 + m.natAbs % 10) :: out))) := rfl
      rw [this, Lib.decDigits_one h1, Nat.mod_eq_of_lt h1]; rfl
    · have hz : m.tdiv 10 ≠ 0 := by
        intro e
        rw [e] at hq
        have : m.natAbs / 10 = 0 := by simpa using hq.symm
        omega
      have hn := Lib.nDigits_big h1
      have hi : I64 (m.tdiv 10) := by unfold I64 at hm ⊢; omega
      rw [fmtLoop k _ _ hz hi (by rw [hq]; omega) (by rw [hq, List.length_cons]; omega), hq]
      have : Lib.decDigits m.natAbs = Lib.decDigits (m.natAbs / 10) ++ [UInt8.ofNat (48 + m.natAbs % 10)] := by rw [Lib.decDigits, dif_neg h1]
      rw [this, List.append_assoc]; rfl
theorem it_len {n : Int} (h : I64 n) : (Lib.itoa n).length ≤ 21 := Lib.itoa_length_le n h.1 h.2
theorem nD_le {n : Int} (h : I64 n) : Lib.nDigits n.natAbs ≤ 21 := by
  have := it_len h
  unfold Lib.itoa at this
  split at this
  · rw [List.length_cons, Lib.decDigits_length] at this; omega
  · rw [Lib.decDigits_length] at this
    rw [show n.natAbs = n.toNat by omega]; exact this
theorem fmtInt_s {n : Int} (h : I64 n) : m_s_FormatInt n = some (mkB (Lib.itoa n)) := by
  unfold m_s_FormatInt
  by_cases h0 : n = 0
  · subst h0
    rw [if_pos (by rfl : ((0 : Int) == 0) = true)]
    have : Lib.itoa 0 = [48] := by unfold Lib.itoa; rw [if_neg (by decide)]; exact Lib.decDigits_one (by decide)
    rw [this]; rfl
  rw [if_neg (by simpa using h0)]
  have hn := nD_le h
  have hf := fuelUp 100 (by omega)
  obtain ⟨k, hk⟩ : ∃ k, FUEL = k + 1 := ⟨FUEL - 1, by omega⟩
  have hL : loopM m_s_FormatInt_l0 FUEL (n, (⟨#[]⟩ : ByteArray)) = some (.brk (0, mkB (Lib.decDigits n.natAbs ++ []))) := by
    rw [hk]; exact fmtLoop k n [] h0 h (by omega) (by simp; omega)
  rw [bindL_brk hL, List.append_nil]
  have hd : (Lib.decDigits n.natAbs).length ≤ 21 := by rw [Lib.decDigits_length]; exact hn
  unfold Lib.itoa
  by_cases h1 : n < 0
  · rw [if_pos (decide_eq_true h1), if_pos h1]
    show (catS (mkB [45]) _).bind _ = _
    rw [catM _ _ (by simp; omega)]; rfl
  · rw [if_neg (by simpa using h1), if_neg h1, show n.natAbs = n.toNat by omega]
theorem fmtInt_i {n : Int} (h : I64 n) : m_i_FormatInt n = some (mkB (Lib.itoa n)) := by
  unfold m_i_FormatInt m_g_strconv_Itoa R.itoaS chk
  rw [if_pos (show -9223372036854775808 ≤ n ∧ n ≤ 9223372036854775807 from h)]; rfl
theorem join_snoc (xs : List (List UInt8)) (y sep : List UInt8) : Lib.join (xs ++ [y]) sep = if xs = [] then y else Lib.join xs sep ++ sep ++ y := by
  cases xs with
  | nil => rw [if_pos rfl]; exact Lib.join_one _ _
  | cons x r =>
    rw [if_neg (by simp), List.cons_append, Lib.join_cons, Lib.join_cons]
    simp [Lib.joinTail, List.append_assoc]
def ptx (p : Pr) : List UInt8 := Lib.itoa p.1 ++ Lib.itoa p.2
def ltx (l : List Pr) : List UInt8 := Lib.join (l.map ptx) [32]
def Pok (l : List Pr) : Prop := ∀ p, p ∈ l → I64 p.1 ∧ I64 p.2
theorem ptx_len {p : Pr} (h : I64 p.1 ∧ I64 p.2) : (ptx p).length ≤ 42 := by
  have h1 := it_len h.1
  have h2 := it_len h.2
  unfold ptx; rw [List.length_append]; omega
theorem tl_len : ∀ (r : List Pr), Pok r → (Lib.joinTail [32] (r.map ptx)).length ≤ 43 * r.length
  | [], _ => by simp [Lib.joinTail]
  | p :: r, h => by
    have h1 := tl_len r fun q hq => h q (List.mem_cons_of_mem _ hq)
    have h2 := ptx_len (h p (by simp))
    have e : Lib.joinTail [32] ((p :: r).map ptx) = ([32] ++ ptx p) ++ Lib.joinTail [32] (r.map ptx) := by simp [Lib.joinTail]
    rw [e, List.length_append, List.length_append, List.length_cons]
    simp only [List.length_cons, List.length_nil]; omega
theorem ltx_len {l : List Pr} (h : Pok l) : (ltx l).length ≤ 43 * l.length := by
  cases l with
  | nil => simp [ltx, Lib.join_nil]
  | cons p r =>
    have h1 := tl_len r fun q hq => h q (List.mem_cons_of_mem _ hq)
    have h2 := ptx_len (h p (by simp))
    unfold ltx
    rw [List.map_cons, Lib.join_cons, List.length_append, List.length_cons]; omega
theorem Pok.take {l : List Pr} (h : Pok l) (i : Nat) : Pok (l.take i) := fun p hp => h p (List.mem_of_mem_take hp)
theorem ltx_snoc {l : List Pr} {i : Nat} (hi : i < l.length) : ltx (l.take (i + 1)) = if i = 0 then ptx l[i] else ltx (l.take i) ++ [32] ++ ptx l[i] := by
  unfold ltx
  rw [List.take_succ_eq_append_getElem hi, List.map_append, List.map_cons, List.map_nil, join_snoc]
  by_cases h : i = 0
  · subst h; rw [if_pos (by simp), if_pos rfl]
  · rw [if_neg (by
      intro e
      have := congrArg List.length e
      rw [List.length_map, List.length_take, List.length_nil] at this
      omega), if_neg h]
theorem pairs_s {l : List Pr} (hp : Pok l) (hl : l.length ≤ 1048576) : loopM (m_s_FormatPairs_l0 l) FUEL ((⟨#[]⟩ : ByteArray), 0) = some (.brk (mkB (ltx l), (l.length : Int))) := by
  have := loopM_at (f := m_s_FormatPairs_l0 l) (fun i => (mkB (ltx (l.take i)), (i : Int))) l.length (fun i hi => by
    unfold m_s_FormatPairs_l0
    simp only []
    have hx := hp l[i] (List.getElem_mem hi)
    have hn := ltx_len (hp.take i)
    rw [List.length_take] at hn
    have n1 := it_len hx.1
    have n2 := it_len hx.2
    rw [lt_nat hi, if_pos rfl, getI_nat hi, ltx_snoc hi]
    by_cases h0 : i = 0
    · subst h0
      rw [if_pos rfl, if_neg (by simp)]
      simp only [Option.bind_some]
      rw [fmtInt_s hx.1, fmtInt_s hx.2, Option.bind_some]
      rw [show ltx (l.take 0) = [] from rfl, catM _ _ (by simp; omega), Option.bind_some, Option.bind_some, List.nil_append, catM _ _ (by omega), Option.bind_some, wrap_succ (by omega)]
      rfl
    · rw [if_neg h0, if_pos (decide_eq_true (by omega))]
      have e : catS (mkB (ltx (l.take i))) (⟨#[32]⟩) = some (mkB (ltx (l.take i) ++ [32])) := catM _ [32] (by simp; omega)
      rw [e]
      simp only [Option.bind_some]
      rw [fmtInt_s hx.1, fmtInt_s hx.2]
      simp only [Option.bind_some]
      rw [catM _ _ (by simp; omega)]
      simp only [Option.bind_some]
      rw [catM _ _ (by simp; omega)]
      simp only [Option.bind_some]
      rw [wrap_succ (by omega)]
      unfold ptx
      simp only [List.append_assoc]) (by
    unfold m_s_FormatPairs_l0
    rw [lt_self]; rfl) (fuelUp _ (by omega))
  rw [List.take_length] at this
  exact this
theorem pairs_i {l : List Pr} (hp : Pok l) (hl : l.length ≤ 1048576) : loopM (m_i_FormatPairs_l0 l) FUEL (([] : List ByteArray), 0) = some (.brk (l.map (fun p => mkB (ptx p)), (l.length : Int))) := by
  have := loopM_at (f := m_i_FormatPairs_l0 l) (fun i => ((l.take i).map (fun p => mkB (ptx p)), (i : Int))) l.length (fun i hi => by
    unfold m_i_FormatPairs_l0
    simp only []
    have hx := hp l[i] (List.getElem_mem hi)
    have n1 := it_len hx.1
    have n2 := it_len hx.2
    rw [lt_nat hi, if_pos rfl, getI_nat hi]
    simp only [Option.bind_some]
    rw [fmtInt_i hx.1, fmtInt_i hx.2]
    simp only [Option.bind_some]
    rw [catM _ _ (by omega)]
    simp only [Option.bind_some]
    rw [appI_ok (by rw [List.length_map, List.length_take]; simp only [List.length_cons, List.length_nil]; omega)]
    simp only [Option.bind_some]
    rw [wrap_succ (by omega), List.take_succ_eq_append_getElem hi, List.map_append]
    rfl) (by
    unfold m_i_FormatPairs_l0
    rw [lt_self]; rfl) (fuelUp _ (by omega))
  rw [List.take_length] at this
  exact this
theorem pairs_both {l : List Pr} (hp : Pok l) (hl : l.length ≤ 1048576) : ∃ t : List UInt8, m_s_FormatPairs l = some (mkB t) ∧ m_i_FormatPairs l = some (mkB t) ∧ t.length ≤ 100000000 := by
  unfold m_s_FormatPairs m_i_FormatPairs
  obtain ⟨b, eb⟩ := are_tot l (by omega)
  rw [are_same, eb]
  simp only [Option.bind_some]
  cases b
  · exact ⟨[], rfl, rfl, by simp⟩
  · rw [if_pos rfl, if_pos rfl]
    by_cases h0 : ((l.length : Int) == 0) = true
    · rw [if_pos h0, if_pos h0]; exact ⟨[110, 111, 110, 101], rfl, rfl, by simp⟩
    · rw [if_neg h0, if_neg h0, bindL_brk (pairs_s hp hl), bindL_brk (pairs_i hp hl)]
      have hn := ltx_len hp
      refine ⟨ltx l, rfl, ?_, by omega⟩
      show (m_g_strings_Join (l.map fun p => mkB (ptx p)) (mkB [32])).bind _ = _
      unfold m_g_strings_Join R.joinS chk
      have e : (l.map fun p => mkB (ptx p)).map (·.data.toList) = l.map ptx := by
        rw [List.map_map]
        exact List.map_congr_left fun p _ => mkB_list _
      rw [e, mkB_list, List.length_map, if_pos ⟨by omega, by show (ltx l).length ≤ _; omega⟩]; rfl
theorem delta_both {d : PsT × PsT} (p1 : Pok d.1) (p2 : Pok d.2) (h1 : d.1.length ≤ 1048576) (h2 : d.2.length ≤ 1048576) : ∃ t : List UInt8, m_s_FormatDelta d = some (mkB t) ∧ m_i_FormatDelta d = some (mkB t) ∧ t.length ≤ 300000000 := by
  unfold m_s_FormatDelta m_i_FormatDelta
  simp only [peta]
  obtain ⟨b, e1, e2⟩ := isDelta_both h1 h2
  rw [e1, e2]
  simp only [Option.bind_some]
  cases b
  · exact ⟨[], rfl, rfl, by simp⟩
  · obtain ⟨t1, a1, b1, c1⟩ := pairs_both p1 h1
    obtain ⟨t2, a2, b2, c2⟩ := pairs_both p2 h2
    have k1 : catS (⟨#[43]⟩) (mkB t1) = some (mkB ([43] ++ t1)) := catM [43] _ (by simp; omega)
    have k2 : catS (mkB ([43] ++ t1)) (⟨#[32, 45]⟩) = some (mkB ([43] ++ t1 ++ [32, 45])) := catM _ [32, 45] (by simp; omega)
    have k3 : catS (mkB ([43] ++ t1 ++ [32, 45])) (mkB t2) = some (mkB ([43] ++ t1 ++ [32, 45] ++ t2)) := catM _ _ (by simp; omega)
    simp only [if_true, a1, a2, b1, b2, Option.bind_some, k1, k2, k3]
    exact ⟨_, rfl, rfl, by simp; omega⟩
theorem fmt_both {m : MsT} (hm : Data.lim m) (h1 : m.2.2.1.length ≤ 1048576) (h2 : m.2.2.2.length ≤ 1048576) : ∃ t : ByteArray, m_s_FormatMessage m = some t ∧ m_i_FormatMessage m = some t := by
  obtain ⟨hv, -, hd1, hd2⟩ := hm
  have hv : I64 m.1 := hv
  obtain ⟨t, e1, e2, hl⟩ := delta_both (d := m.2.2) (fun p hp => hd1.2 p hp) (fun p hp => hd2.2 p hp) h1 h2
  unfold m_s_FormatMessage m_i_FormatMessage
  simp only [peta]
  rw [e1, e2, fmtInt_s hv, fmtInt_i hv]
  simp only [Option.bind_some]
  have n1 := it_len hv
  have k1 : catS (mkB (Lib.itoa m.1)) (⟨#[32, 114, 101, 115, 101, 116, 32]⟩) = some (mkB (Lib.itoa m.1 ++ [32, 114, 101, 115, 101, 116, 32])) := catM _ [32, 114, 101, 115, 101, 116, 32] (by simp; omega)
  have k2 : catS (mkB (Lib.itoa m.1)) (⟨#[32]⟩) = some (mkB (Lib.itoa m.1 ++ [32])) := catM _ [32] (by simp; omega)
  have k3 : catS (mkB (Lib.itoa m.1 ++ [32, 114, 101, 115, 101, 116, 32])) (mkB t) = some (mkB (Lib.itoa m.1 ++ [32, 114, 101, 115, 101, 116, 32] ++ t)) := catM _ _ (by simp; omega)
  have k4 : catS (mkB (Lib.itoa m.1 ++ [32])) (mkB t) = some (mkB (Lib.itoa m.1 ++ [32] ++ t)) := catM _ _ (by simp; omega)
  rw [k1, k2]
  simp only [Option.bind_some]
  rw [k3, k4]
  simp only [Option.bind_some]
  split
  · exact ⟨_, rfl, rfl⟩
  · split
    · exact ⟨_, rfl, rfl⟩
    · exact ⟨_, rfl, rfl⟩
end Go.Proofs.YtfojdaengibfgaaDoor.D
/- The plain law of FormatMessage. -/
set_option linter.unusedVariables false
set_option linter.unusedSimpArgs false
set_option linter.unnecessarySimpa false
set_option linter.unusedSectionVars false
set_option synthInstance.maxSize 20000
set_option synthInstance.maxHeartbeats 2000000
namespace Go.Proofs.YtfojdaengibfgaaDoor.D
open Go.RowKit

theorem lawFormatMessage (m : MsT) (hm : Data.lim m) : m_w_FnExactFormatMessage m = some true := by
  unfold m_w_FnExactFormatMessage
  simp only [peta]
  obtain ⟨r, e2, k2⟩ := sz_msg (x := m) (l := 1048576) hm (by omega) (by omega)
  rw [e2]; simp only [Option.bind_some]
  rcases k2 with k2 | ⟨k2, j2⟩
  · rw [if_pos (decide_eq_true k2)]
  rw [if_neg (by simpa using k2)]
  have sm : Data.sm m := ⟨trivial, trivial, sm_prs (by omega), sm_prs (by omega)⟩
  obtain ⟨t, es, ei⟩ := fmt_both hm (by omega) (by omega)
  simp only [t_toMessage m sm, Option.bind_some, peta, es, ei, q_eqMessage m m sm sm, decide_true, if_true, bne_self_eq_false, Bool.false_eq_true, if_false]
end Go.Proofs.YtfojdaengibfgaaDoor.D
/- From 'the call returns true and changes nothing that was there' to the row's own post, whatever the arguments' types. -/
set_option linter.unusedVariables false
set_option linter.unusedSimpArgs false
namespace Go.Proofs.YtfojdaengibfgaaDoor
open Go.ChangeShapes Go.WideShapes Go.ChangeAt Go.RowKit
theorem own : ownKnob Tryd.prog.godebug = none := by kernel_rfl
theorem laidOut : laidOutB Tryd.prog = true := by kernel_rfl
theorem below_trodAll {H : Type} {enc : TypeId × Value → H} {P : Program} (hl : laidOutB P = true) {W W' : World} (hb : Below W.heap.size W W') :
    ∀ {ts : List TypeId} {vs : List Value} {ds : List (DataW H)} {ps : List MemPlace}, (∀ t ∈ ts, P.readableRec t = true ∧ t < P.types.size) →
      DataW.TrodAll enc P W 0 (fun _ => true) true ts vs ds ps → (∀ x ∈ ps, x.block < W.heap.size) → DataW.TrodAll enc P W' 0 (fun b => decide (b < W.heap.size)) true ts vs ds ps
  | [], [], [], ps, _, h, _ => h
  | t :: ts, v :: vs, d :: ds, ps, hr, ⟨p, q, h1, h2, h3⟩, hlt => by
    subst h3
    exact ⟨p, q, Below.trod hl (hr t (by simp)).1 (hr t (by simp)).2 h1 hb fun x hx => hlt x (by simp [hx]), below_trodAll hl hb (fun t ht => hr t (by simp [ht])) h2 fun x hx => hlt x (by simp [hx]), rfl⟩
  | [], _ :: _, _, _, _, h, _ => h.elim
  | [], [], _ :: _, _, _, h, _ => h.elim
  | _ :: _, [], _, _, _, h, _ => h.elim
  | _ :: _, _ :: _, [], _, _, h, _ => h.elim
theorem law_post {H : Type} {enc : TypeId × Value → H} {f : Func} {s : ChangeSpec} {W W' : World} {args : Array Value} {ds : List (DataW H)} {before : List MemPlace} (tb : TypeId)
    (hb : Tryd.prog.underlying tb = some .bool) (hr : f.resultTypes = #[tb]) (hp : (f.params.toList.all fun t => Tryd.prog.readableRec t && decide (t < Tryd.prog.types.size)) = true) (hv : s.vars = [])
    (hW : DataW.Whole enc Tryd.prog f.params.toList s.vars false W args.toList ds [] before) (hres : (s.fn H (ds ++ [])).results = [.lit (.bool true)]) (hargs : (s.fn H (ds ++ [])).args = ds) (hvars : (s.fn H (ds ++ [])).vars = [])
    (hbel : Below W.heap.size W W') : s.post enc Tryd.prog f false true false false W args (.bool true) W' := by
  obtain ⟨p, q, h1, h2, h3, h4, h5⟩ := hW
  have hW' : DataW.Whole enc Tryd.prog f.params.toList s.vars false W args.toList ds [] before := ⟨p, q, h1, h2, h3, h4, h5⟩
  have hq : q = [] := by rw [hv] at h2; exact h2
  subst hq
  simp only [List.append_nil] at h3
  subst h3
  refine ⟨ds, [], before, [], before, [], hW', ?_, ?_, ?_, hbel.frame _, fun h => by cases h⟩
  · rw [hres, hr]
    exact trodAll_mk1 (shut_bool hb true)
  · rw [hargs]
    exact below_trodAll laidOut hbel (fun t ht => by have := List.all_eq_true.1 hp t ht; simpa using this) h1 fun x hx => by simpa using hW'.lt x hx
  · rw [hvars, hv]; rfl
end Go.Proofs.YtfojdaengibfgaaDoor
/- FnExactFormatMessage: for every input the law returns true and changes nothing that was there. (Printed by genrow.py over the walk and the plain law.) -/
set_option linter.unusedVariables false
set_option linter.unusedSimpArgs false
set_option linter.unnecessarySimpa false
set_option maxRecDepth 100000
namespace Go.Proofs.YtfojdaengibfgaaDoor
open Go.ChangeShapes Go.WideShapes Go.ChangeAt Go.RowKit
namespace D
theorem op3 : Opens Tryd.prog 3 rInt := opens_int Tryd.underlying3
theorem op4 : Opens Tryd.prog 4 rBool := opens_bool Tryd.underlying4
theorem op53 : Opens Tryd.prog 53 (rProd rInt rInt) := by
  refine opens_struct Tryd.underlying53 (by kernel_rfl) ?_
  refine opens_next (R := rInt) (S := rInt) rfl (by kernel_rfl) op3 ?_
  exact opens_last rfl (by kernel_rfl) op3
theorem op22 : Opens Tryd.prog 22 (rSlice 53 (rProd rInt rInt)) := opens_slice Tryd.underlying22 (by kernel_rfl) (by decide) op53
theorem op24 : Opens Tryd.prog 24 (rProd (rSlice 53 (rProd rInt rInt)) (rSlice 53 (rProd rInt rInt))) := by
  refine opens_struct Tryd.underlying24 (by kernel_rfl) ?_
  refine opens_next (R := rSlice 53 (rProd rInt rInt)) (S := rSlice 53 (rProd rInt rInt)) rfl (by kernel_rfl) op22 ?_
  exact opens_last rfl (by kernel_rfl) op22
theorem op26 : Opens Tryd.prog 26 (rProd rInt (rProd rBool (rProd (rSlice 53 (rProd rInt rInt)) (rSlice 53 (rProd rInt rInt))))) := by
  refine opens_struct Tryd.underlying26 (by kernel_rfl) ?_
  refine opens_next (R := rInt) (S := rProd (rBool) (rProd (rSlice 53 (rProd rInt rInt)) (rSlice 53 (rProd rInt rInt)))) rfl (by kernel_rfl) op3 ?_
  refine opens_next (R := rBool) (S := rProd (rSlice 53 (rProd rInt rInt)) (rSlice 53 (rProd rInt rInt))) rfl (by kernel_rfl) op4 ?_
  exact opens_last rfl (by kernel_rfl) op24
theorem rdL26 {W : World} {base : Nat} {z : Value} {H : Type} {enc : TypeId × Value → H} {d : DataW H} {p : List MemPlace} (hv : Value.okWide Tryd.prog W .any base 26 z) (h : DataW.Trod enc Tryd.prog W 0 (fun _ => true) true 26 z d p) :
    ∃ (x : Int × Bool × ((List (Int × Int)) × (List (Int × Int)))) (v0 : Value) (v1 : Value), z = .agg #[.int .i64 x.1, .bool x.2.1, v0, v1] ∧ Data.lim x ∧ (rSlice 53 (rProd rInt rInt)).rd (hp W) [v0] x.2.2.1 ∧ (rSlice 53 (rProd rInt rInt)).rd (hp W) [v1] x.2.2.2 := by
  obtain ⟨fuel, hf⟩ := h
  obtain ⟨⟨cs⟩, rfl, -⟩ := okWide_struct Tryd.underlying26 hv
  obtain ⟨x, hx, hl⟩ := op26.out enc W _ _ _ hf
  have hx : (rProd rInt (rProd rBool (rProd (rSlice 53 (rProd rInt rInt)) (rSlice 53 (rProd rInt rInt))))).rd (hp W) cs x := hx
  obtain ⟨_, _, rfl, rfl, ⟨_, _, rfl, rfl, ⟨_, _, rfl, r0, r1⟩⟩⟩ := hx
  obtain ⟨v0, rfl⟩ := one_cell r0 rfl
  obtain ⟨v1, rfl⟩ := one_cell r1 rfl
  exact ⟨x, v0, v1, rfl, hl, r0, r1⟩
end D
open D (Data)
theorem layFormatMessage {W : World} (h : laidMetH Tryd.prog Rows.fnExactFormatMessageRow.laid W) : D.LayW Tryd.prog W := by
  rw [MakeChecks.laidMetH_plain _ _ _ (by kernel_rfl)] at h
  obtain ⟨ps, ⟨_, _, _, _, _, _, _, _, _, _, ⟨_, _, _, _, _, _, _, _, _, _, ⟨g, t, cs, fuel, p, q, hg, ht, hv, hd, _, _⟩, _⟩, _⟩, _, _⟩ := h
  obtain rfl := Option.some.inj ((show Tryd.prog.globalNamed "internal/strconv.uint64pow10" = some 0 by kernel_rfl).symm.trans hg)
  obtain rfl := Option.some.inj ((show (Tryd.prog.globals[0]?).map (·.type) = some 86 by kernel_rfl).symm.trans ht)
  refine ⟨?_⟩
  unfold Lib.TabIs
  rw [hv, ← Lib.cells_of_tab (k := .u64) (zs := Lib.pow10Tab) Tryd.underlying86 Tryd.underlying76 (by kernel_rfl) (by kernel_rfl) hd]
theorem doorFormatMessage (os : Os) (args : Array Value) : laidMetH Tryd.prog Rows.fnExactFormatMessageRow.laid ((World.doorLaid Tryd.prog 400 os).forCall (fun _ _ => 0) ⟨#[], args, []⟩).memory :=
  laidMetH_of_parts3 (fuel := 8) (laidMet_of_run' 8 (by kernel_rfl) (by kernel_rfl)) (by kernel_rfl) (by kernel_rfl)
theorem rowLFormatMessage (W : World) (hL : laidMetH Tryd.prog Rows.fnExactFormatMessageRow.laid W) (args : Array Value) (H : Type) (enc : TypeId × Value → H) (base : Nat) (ds gs : List (DataW H)) (before : List MemPlace)
    (hval : ∀ (j : Nat) t v, Tryd.f3.params[j]? = some t → args[j]? = some v → Value.okWide Tryd.prog W .any base t v)
    (hW : DataW.Whole enc Tryd.prog Tryd.f3.params.toList Rows.fnExactFormatMessageSpec.vars false W args.toList ds gs before) :
    Calls Tryd.prog 3 args W fun e W' => ∃ v, e = .returned v ∧ Rows.fnExactFormatMessageSpec.post enc Tryd.prog Tryd.f3 false true false false W args v W' := by
  have hW' := hW
  obtain ⟨p, q, hA, hV, rfl, hfz, hnd⟩ := hW
  rw [Tryd.params3] at hA hval
  obtain ⟨z0, vs0, d0, ds0, p0, q0, hargs, rfl, rfl, h0, r0⟩ := trodAll_cons hA
  obtain ⟨rfl, rfl, rfl⟩ := trodAll_nil r0
  obtain rfl : args = #[z0] := by cases args; simp_all
  obtain ⟨rfl, rfl⟩ := trodVars_none hV
  obtain ⟨x0, v0_0, v0_1, rfl, l0, r0_0, r0_1⟩ := D.rdL26 (hval 0 _ _ rfl rfl) h0
  have hc := D.c_w_FnExactFormatMessage x0 true (D.lawFormatMessage x0 l0) (I := D.hp W) (w0 := W) v0_0 v0_1 r0_0 r0_1 (D.Lay.of (layFormatMessage hL)) W [] (D.St.init W)
  refine hc.mono fun e W' ⟨v, he, hv, hs⟩ => ?_
  subst he; subst hv
  exact ⟨_, rfl, law_post (f := Tryd.f3) (s := Rows.fnExactFormatMessageSpec) 4 Tryd.underlying4 rfl (by kernel_rfl) rfl hW' rfl rfl rfl (D.St.below hs)⟩
set_option maxRecDepth 100000 in
theorem liftedLFormatMessage (os : Os) (started : os.Started) (H : Type) (enc : TypeId × Value → H) :
    ReturnsInHanded {} Tryd.checked os 3 .any (fun w args => (Rows.fnExactFormatMessageSpec.pre enc Tryd.prog Tryd.f3 [] false w args ∧ laidMetH Tryd.prog Rows.fnExactFormatMessageRow.laid w) ∧ sizedMet enc Tryd.prog Tryd.f3 (OpenSpec.ofChange Rows.fnExactFormatMessageSpec) false w args) (Rows.fnExactFormatMessageSpec.post enc Tryd.prog Tryd.f3 false true false false) := by
  refine returnsInHanded_of_change_and (C := Tryd.checked) (X := fun w _ => laidMetH Tryd.prog Rows.fnExactFormatMessageRow.laid w) (fun _ _ _ hh h => h.of_heap hh) own started (by kernel_rfl) Tryd.func3
    (ChangeSpec.witness_shaped (enc := enc) (C := Tryd.checked) (os := os) (X := fun w _ => laidMetH Tryd.prog Rows.fnExactFormatMessageRow.laid w) false (World.doorLaid Tryd.prog 400 os) #[.agg #[.int .i64 0, .bool false, .slice none 0 0, .slice none 0 0]] 8 rfl (World.shaped_of_RefB (by kernel_rfl) (by kernel_rfl)) (by kernel_rfl) (by kernel_rfl) (by kernel_rfl) (doorFormatMessage os _)) ?_
  intro W base args ds gs before hval hW _ _ hL _
  exact rowLFormatMessage W hL args H enc base ds gs before hval hW
set_option maxHeartbeats 4000000 in
theorem closedLFormatMessage : joinedFacts Tryd.pinned.checked.prog 3 Tryd.f3 Rows.fnExactFormatMessageSpec Rows.fnExactFormatMessageRow = true := by
  unfold joinedFacts
  repeat' (with_reducible refine Bool.and_eq_true_iff.2 ⟨?_, ?_⟩)
  all_goals as_aux_lemma => kernel_rfl
theorem holdsLFormatMessage : Rows.FnExactFormatMessageSaid :=
  OpenClaim.holds_of_wide 3 Tryd.f3 rfl rfl rfl rfl rfl rfl rfl ⟨rfl, rfl, rfl, rfl, rfl⟩ rfl rfl rfl rfl rfl (by kernel_rfl) Tryd.func3 closedLFormatMessage
    (of_decide_eq_true (by kernel_rfl)) (by unfold Func.isWrapper; first | (rw [if_pos (by decide +kernel)]; kernel_rfl) | (rw [if_neg (by decide +kernel)]; exact ⟨rfl, rfl⟩))
    (fun os started H enc _ => liftedLFormatMessage os started H enc)
theorem cardLFormatMessage : Rows.FnExactFormatMessageCardSaid :=
  Claim7.holds_tied_plain_at .later [] [.data, .data, .data] true (true, "faff5b842122b879e91fcb3c717d2f3ffd25c822b3e83b998dfec8559489a3e4") false
    holdsLFormatMessage (fun _ h => by cases h) (by kernel_rfl) (fun _ h => by cases h) fnExactFormatMessage_row_tie rfl ⟨rfl, rfl⟩ (by kernel_rfl) rfl
    (fun f fn hf hfn => by
      obtain rfl : f = 3 := Option.some.inj ((show Tryd.prog.funcNamed "loop.example/g01922/laws.FnExactFormatMessage" = some 3 by kernel_rfl).symm.trans hf) |>.symm
      obtain rfl : fn = Tryd.f3 := (Option.some.inj (Tryd.func3.symm.trans hfn)).symm
      exact ⟨by kernel_rfl, fun j t ht => by
        rw [Tryd.params3] at ht
        have hm : t ∈ [26] := by simpa using Array.mem_of_getElem? ht
        have hall : ([26].all fun u => !Tryd.prog.wantsStandIn u) = true := by kernel_rfl
        exact (show Tryd.prog.wantsStandIn t = false by simpa using List.all_eq_true.1 hall t hm)⟩)
    (by kernel_rfl)
end Go.Proofs.YtfojdaengibfgaaDoor
