/- FnExactEngineUnregister: for every input the law returns true and changes nothing that was there. Part 6 of 9. -/
import Derived.Test.YtilionjghdjbdaaGreatDoorEC4
set_option linter.unusedVariables false
set_option linter.unusedSimpArgs false
set_option linter.unnecessarySimpa false
set_option linter.unusedSectionVars false
set_option maxRecDepth 1000000
namespace Go.Proofs.YtilionjghdjbdaaGreatDoor
namespace R
open Go.RowKit
open D
theorem CA {vs:List Value} : ∀ {ts:List Ty} {i:Nat} {us:List Value} {d:jc ts},us.length=ts.length->(∀j v,us[j]? =some v->vs[i+j]? =some v)->vp i ts d (.tuple vs.toArray)=wY ts us d
 | [],i,us,d,h,_=>by
  cases us with
  | nil=>rfl
  | cons _ _=>cases h
 | t::ts,i,[],d,h,_=>by cases h
 | t::ts,i,u::us,d,h,k=>by
  have h0:vg (.tuple vs.toArray) [i] =u:=by
   show vs.toArray.getD i undef=u
   have:=k 0 u rfl
   rw[Nat.add_zero] at this
   simp[Array.getD_eq_getD_getElem?,this]
  show Ch.own t.rep (jd t.isProd (vg (.tuple vs.toArray) [i])) d.1::vp (i+1) ts d.2 _=Ch.own t.rep (jd t.isProd u) d.1::wY ts us d.2
  rw[h0,CA (us:=us) (by simpa using h) fun j v hj=>by
   have:=k (j+1) v (by simpa using hj)
   rwa [show i+(j+1)=i+1+j from by omega] at this]
theorem K9 {ts:List Ty} {vs:List Value} {d:jc ts} (h:vs.length=ts.length):resGv ts d (Yi vs)=wY ts vs d:=by
 match ts,vs,d,h with
 | [],[],d,_=>rfl
 | [t],[v],d,_=>rfl
 | t::u::ts,v::w::vs,d,h =>
  show vp 0 _ d (.tuple (v::w::vs).toArray)=_
  exact CA h fun j x hj=>by rw[Nat.zero_add];exact hj
theorem Ru {ts:List Ty} {vs:List Value} (h:vs.length=ts.length) (k: ∀(i:Nat) t v,ts[i]? =some t->vs[i]? =some v->pf v=t.isProd):resFa ts (Yi vs):=by
 match ts,vs,h with
 | [],[],_=>exact ⟨#[],rfl,rfl,fun i t ht=>by simp at ht⟩
 | [t],[v],_=>exact k 0 t v rfl rfl
 | t::u::ts,v::w::vs,h =>
  refine ⟨(v::w::vs).toArray,rfl,by simpa using h,fun i t' ht=>?_⟩
  have hlt:i<(v::w::vs).length:=by rw[h];exact (List.getElem?_eq_some_iff.1 ht).1
  have:=k i t' ((v::w::vs)[i]) ht (List.getElem?_eq_getElem hlt)
  rw[<-this,Array.getD_eq_getD_getElem?,List.getElem?_toArray,List.getElem?_eq_getElem hlt];rfl
theorem Al {P:Program} {I:Hp} {w0 w:World} {F:Ch} {J:Hp} {θ:Th} {n:Nat} {s:Sg} {a:Act} {tt:TT} (hT:TTok P tt) (hS:Sim P I w0 F n J θ s a w): ∀ {rs:List ResultVar} {vs:List AV},Cz tt s rs=some vs->JO P a w rs (vs.map (·.v θ))/\ ∀v∈vs,v.ok P w0 J θ s.nxt s.chs
 | [],vs,h=>by
  obtain rfl:=ae (show some [] =some vs from h)
  exact ⟨rfl,fun v hv=>by cases hv⟩
 | r::rs,vs,h=>by
  obtain ⟨v,hv',h⟩:=bind_some (show (Vz tt s r).bind _=some vs from h)
  obtain ⟨us,hus,h⟩:=bind_some h
  obtain rfl:=ae h
  obtain ⟨k1,k2⟩:=Rs hT hS hv'
  obtain ⟨q1,q2⟩:=Al hT hS hus
  refine ⟨⟨_,_,rfl,k1,q1⟩,fun x hx=>?_⟩
  rcases aE hx with rfl | hx
  ·exact k2
  ·exact q2 x hx
theorem N5 {J:Hp} {a b c d:List Ch} (h:p7 J a b) (k:p7 J c d):p7 J (a++c) (b++d):=fun w F hs=>by
 obtain ⟨G,K,rfl,e1,e2⟩:=hs.split
 exact (h w G e1).append (k w K e2)
theorem St.sepTo {J:Hp} {w0 w:World} {a b C:List Ch} (h:St J w0 w (a++C)) (k:p7 J a b):St J w0 w (b++C):=by
 obtain ⟨h1,h2,F,h3,h4,h5⟩:=h
 obtain ⟨G,K,rfl,e1,e2⟩:=h3.split
 exact ⟨h1,h2,G++K,(k w G e1).append e2,h4,h5⟩
theorem wZ {P:Program} {n:Nat} {I:Hp} {w0:World} {k:FuncId} {fn:Func} {c:Code} {args:Array Value} {rn:List Ch} {fact:Value->Prop} {gv:Value->List Ch} (L:List (Nat×Value)) (hf:P.funcs[k]? =some fn) (hb:fn.body=some c) (hn:fn.ntmps=n) (hm:args.size<=n) (hL: ∀p∈L,args[p.1]? =some p.2)
  (h: ∀F w a,Agr n a L->St I w0 w (rn++ [F])->c.wp P (bodyPost P fn fun e w'=> ∃v,e= .returned v/\fact v/\ ∃J,I.le J/\St J w0 w' (gv v++ [F])) a w) (hd: ∀v,Ch.back (gv v)):Con P k args I w0 rn fact gv:=by
 intro w C hs
 have hs':St I w0 w (rn++ [Ch.fr I C]):=by
  obtain ⟨hb,hi,F,h1,h2,h3⟩:=hs
  obtain ⟨G,K,rfl,e1,e2⟩:=h1.split
  exact ⟨hb,hi,G++K,e1.append ⟨K,[],by simp,e2,rfl⟩,h2,h3⟩
 have:=h (Ch.fr I C) w { tmps:=args++Array.replicate (fn.ntmps - args.size) undef,defers:=[] } (Agr.start L (by omega) hL) hs'
 refine (calls_of_wp hf hb this).mono ?_
 rintro e w' ⟨v,rfl,hv,J,hJ,hs⟩
 exact ⟨v,rfl,hv,hs.back hJ (hd v)⟩
theorem Rv {P:Program} {I:Hp} {w0 w:World} {F:Ch} {n:Nat} {J:Hp} {θ:Th} {s:Sg} {a:Act} {tr:Trs} {vs:List AV} (hS:Sim P I w0 F n J θ s a w): ∃J' θ',J.le J'/\Sim P I w0 F n J' θ' (Rt tr vs s) a w/\Fr s θ (Rt tr vs s) θ':=by
 have key: ∃J' θ',J.le J'/\Sim P I w0 F n J' θ' (Gc tr vs s) a w/\Fr s θ (Gc tr vs s) θ':=by
  unfold Gc
  split
  ·exact ⟨J,θ,Hp.le.rfl,hS,Fr.rfl⟩
  ·exact uv hS
 obtain ⟨J',θ',h1,h2,h3⟩:=key
 obtain ⟨S2,F2⟩:=sP (V:=⟨[],[],[],n,[]⟩) (hs:=H0 s vs++zf (Gc tr vs s).chs) h2
 exact ⟨J',θ',h1,S2,h3.trans F2⟩
theorem N6 {V:Env} {P:Program} {w0:World} {F:Ch} {J:Hp} {θ:Th} (hT:TTok P V.tt) {fn:Func} {rs:List Ty} {ps:List PM} {d:denP ps} {vs:List Value} {s0:Sg} (k0:vs.length=ps.length) (k5:StF P w0 J θ ps.length 0 ps vs d) (hn0:ps.length<=s0.nxt): ∀r J' θ' s' a' w',H1 V fn.results.toList rs ps d s'=some r->Sim P J w0 F V.n J' θ' s' a' w'->J.le J'->Fr s0 θ s' θ'->
  bodyPost P fn (fun e w'=> ∃v,e= .returned v/\(resFa rs v/\(zY 1000000 V.an=true->vv rs (hFst rs (outs ps) (toH _ r)) v))/\ ∃J2,J.le J2/\St J2 w0 w' ((resGv rs (hFst rs (outs ps) (toH _ r)) v++outCh ps vs (hSnd rs (outs ps) (toH _ r)))++ [F])) .ret a' w':=by
 intro r J' θ' s' a' w' hrt hS' hJ hFr
 obtain ⟨vs00,hv00,hrt⟩:=bind_some (show (Cz V.tt s' fn.results.toList).bind _=some r from hrt)
 obtain ⟨s0',hrt,S0,N0⟩:=Jv hrt (Al hT hS' hv00).2 hS'
 obtain ⟨vs0,hv0,hrt⟩:=bind_some hrt
 obtain ⟨J1,θ1,hJ1,S1,F1⟩:=Rv (tr:=V.tr) (vs:=vs0) S0
 generalize Rt V.tr vs0 s0'=s1 at hrt S1 F1
 have hle:s0.nxt<=s'.nxt:=hFr.1
 have hsame:Same ps.length θ θ1:=fun i hi=>(F1.same i (by omega)).trans (hFr.same i (by omega))
 replace hJ:=hJ.trans hJ1
 clear hJ1 F1 hS' S0 hFr
 revert J1 θ1
 clear J' θ'
 intro J' θ' S1 hsame hJ
 obtain ⟨us,hus,hrt⟩:=bind_some hrt
 obtain ⟨q,hq,hrt⟩:=bind_some hrt
 obtain ⟨o,ho,hrt⟩:=bind_some hrt
 obtain ⟨u0,hnl,hrt⟩:=bind_some hrt
 obtain rfl:=ae hrt
 obtain ⟨r1,r2⟩:=Al hT S1 hus
 obtain ⟨t1,t2,t3,t4⟩:=Cy (J:=J') (θ:=θ') hq r2
 obtain ⟨o1,o2⟩:=ga (P:=P) (J:=J) (J':=J') (θ:=θ) (θ':=θ') (vs:=vs) (n:=ps.length) (n':=s1.nxt) (chs0:=s1.chs) hJ hsame ho k0 k5 fun e he=>S1.fine.chs e (t1.mem_iff.2 (by simp[he]))
 have hl:(us.map (·.v θ')).length=rs.length:=by rw[List.length_map];exact t2
 refine YS S1.agr r1 ⟨_,rfl,⟨Ru hl fun i t v ht hv1=>?_,fun han=>?_⟩,J',hJ,?_⟩
 ·rw[List.getElem?_map] at hv1
  obtain ⟨x,hx,rfl⟩:=Option.map_eq_some_iff.1 hv1
  exact t4 i t x ht hx
 ·rw[HZ,DM]
  unfold Xq at hnl
  rw[han] at hnl
  have hnl:0<nlN us rs q.1:=bI hnl
  rcases us with _ | ⟨x,us⟩
  ·cases hnl
  ·cases us with
   | nil=>exact Xr (θ:=θ') hnl rfl
   | cons y us=>unfold nlN at hnl;split at hnl <;> first | omega | simp_all
 ·rw[HZ,DM,JP,K9 hl]
  have hp:=t1.trans (o1.append_left _)
  have h1:=S1.st.perm ((hp.map (toCh P θ')).append_right [F])
  have h2:St J' w0 w' ((q.2.1.map (toCh P θ')++o.2.1.map (toCh P θ'))++(o.2.2.map (toCh P θ')++ [F])):=by
   simpa [aO,ai] using h1
  have h3:=St.sepTo h2 (N5 t3 o2)
  refine St.left (ds:=o.2.2.map (toCh P θ')) (h3.perm ?_)
  simp only[ai]
  exact List.Perm.append_left _ (List.Perm.append_left _ List.perm_append_comm)
theorem VE {V:Env} {P:Program} (hT:TTok P V.tt) (hF:FTok P V.ft) (hmx:P.follows .mixedOrders=true) {k:FuncId} {fn:Func} {c:Code} {f:FS} (hf:P.funcs[k]? =some fn) (hb:fn.body=some c) (hn:fn.ntmps=V.n) (hen:Enters P k) (hm:f.ps.length<=V.n) (hdp:(Du f.rs&&zP f.ps)=true) (ann:Ann)
  (hmod: ∀d,appP f.ps f.m d=jf V (H1 V fn.results.toList f.rs f.ps d) c ann (fun r=>some r) (fun _ _=>none) (H1 V fn.results.toList f.rs f.ps d) (rk (Ak f.ps d))): ∀w0 J vs (d:denP f.ps) r,Lay P J->PArgs P w0 J f.ps vs d->appP f.ps f.m d=some r->Con P k vs.toArray J w0 (owCh f.ps vs d) (fun v=>resFa f.rs v/\(zY 1000000 V.an=true->vv f.rs (hFst f.rs (outs f.ps) (toH _ r)) v)) (fun v=>resGv f.rs (hFst f.rs (outs f.ps) (toH _ r)) v++outCh f.ps vs (hSnd f.rs (outs f.ps) (toH _ r))):=by
 rw[aj] at hdp
 intro w0 J vs d r hlay ha hr
 rw[hmod] at hr
 let θ:Th:=fun i=>vs.getD i undef
 have hθ: ∀j v,vs[j]? =some v->θ (0+j)=v:=fun j v hj=>by
  show vs.getD (0+j) undef=v
  rw[Nat.zero_add,List.getD_eq_getElem?_getD,hj];rfl
 have k0:=F9 ha
 have hzip: ∀p∈(vs.zipIdx.map fun q=>(q.2,q.1)),vs.toArray[p.1]? =some p.2:=fun p hp=>by
  obtain ⟨q,hq,rfl⟩:=List.mem_map.1 hp
  obtain ⟨v,j⟩:=q
  have:=(List.mk_mem_zipIdx_iff_getElem? (x:=v) (i:=j)).1 hq
  simpa using this
 refine wZ (n:=V.n) (vs.zipIdx.map fun q=>(q.2,q.1)) hf hb hn (by rw[List.size_toArray,k0];exact hm) hzip (fun F w a hA hst=>?_) (fun v=>sN (fE _ _ _ hdp.2) _ _ hdp.1)
 ·obtain ⟨k1,k2,k3,k4,k5⟩:=JN (n:=f.ps.length) (C:=[F]) ha hθ (by omega) hst
  have hfine:Fine P w0 J θ (Ak f.ps d):=⟨fun e he=>(k1 e he).1 _,fun e he=>by have:=k1 e he;show e.2.1<f.ps.length;omega,k2,fun e he=>k4 e he _,hlay⟩
  have hA':Agr V.n a (envL θ (Ak f.ps d)):=hA.pick _ fun p hp=>by
   obtain ⟨e,he,rfl⟩:=List.mem_map.1 hp
   have h5:=(k1 e he).2.2.2.2
   rw[Nat.sub_zero] at h5
   have key: ∀(l:List Value) (k:Nat) (i:Nat) (v:Value),k<=i->l[i - k]? =some v->((l.zipIdx k).map fun q=>(q.2,q.1)).lookup i=some v:=by
    intro l
    induction l with
    | nil=>intro k i v _ h;simp at h
    | cons x l ih =>
     intro k i v hk h
     simp only[List.zipIdx_cons,List.map_cons,List.lookup_cons]
     by_cases e:i=k
     ·subst e
      simp at h
      simp[h]
     ·have:(i==k)=false:=by simpa using e
      rw[this]
      refine ih (k+1) i v (by omega) ?_
      rw[show i - k=(i - (k+1))+1 from by omega] at h
      simpa using h
   exact key vs 0 e.1 _ (Nat.zero_le _) h5
  have hS:Sim P J w0 F V.n J θ (Ak f.ps d) a w:=⟨Hp.le.rfl,hA',k3,hfine⟩
  have fin:=N6 (rs:=f.rs) (fn:=fn) (F:=F) hT k0 k5 (aB (Ak f.ps d).nxt)
  obtain ⟨θ0,hS0,hFr0⟩:=y6 hS
  exact (uz (I:=J) (w0:=w0) (F:=F) hT hF hmx c).1 ann hr hS0 (fun J' θ' s' a' w' hk S' hJ hFr=>fin r J' θ' s' a' w' hk S' hJ (hFr0.trans hFr)) (fun i J' θ' s' a' w' hk=>by cases hk) (fun r' J' θ' s' a' w' hrt hrr hS' hJ hFr=>by
   obtain rfl:=ae hrr
   exact fin _ J' θ' s' a' w' hrt hS' hJ (hFr0.trans hFr))
theorem fok {V:Env} {P:Program} (hT:TTok P V.tt) (hF:FTok P V.ft) (hmx:P.follows .mixedOrders=true) {k:FuncId} {fn:Func} {c:Code} {f:FS} (hf:P.funcs[k]? =some fn) (hb:fn.body=some c) (hn:fn.ntmps=V.n) (hen:Enters P k) (hcl:f.cl=none) (hm:f.ps.length<=V.n) (hdp:(Du f.rs&&zP f.ps)=true) (ann:Ann)
  (hmod: ∀d,appP f.ps f.m d=jf V (H1 V fn.results.toList f.rs f.ps d) c ann (fun r=>some r) (fun _ _=>none) (H1 V fn.results.toList f.rs f.ps d) (rk (Ak f.ps d))):FOk P k f:=
 ⟨fun q hq=>by (rw[hcl] at hq;cases hq),fun _=>hen,fun w0 J vs d r hlay ha hr w C hs=>(VE hT hF hmx hf hb hn hen hm hdp ann hmod w0 J vs d r hlay ha hr w C hs).mono fun e w' ⟨v,h1,h2,h3⟩=>⟨v,h1,h2.1,h3⟩⟩
theorem JQ {V:Env} {P:Program} (hT:TTok P V.tt) (hF:FTok P V.ft) (hmx:P.follows .mixedOrders=true) {k:FuncId} {fn:Func} {c:Code} {E b:Nat} (hf:P.funcs[k]? =some fn) (hb:fn.body=some c) (hn:fn.ntmps=V.n) (hen:Enters P k) (hm:1<=V.n) (ann:Ann)
  (hmod: ∀(E':TypeId) (bn:Bool) (xs:List Raw),(match bn with | true=>some ([] :List Raw) | false=>(cr b [] xs).bind fun zs=>some zs)=jf V (H1 V fn.results.toList [.sl E .raw] [] ()) c ann (fun r=>some r) (fun _ _=>none) (H1 V fn.results.toList [.sl E .raw] [] ()) ⟨[(0,0,.one (.rdn ⟨0,[]⟩ bn (.sl E' .raw) xs))],[],1⟩):wO P k E b:=by
 refine ⟨hen,fun E' J w0 v xs zs hlay hrd qL=>?_⟩
 obtain ⟨bn,hbn⟩: ∃bn,zy v=bn:=⟨_,rfl⟩
 have hr:jf V (H1 V fn.results.toList [.sl E .raw] [] ()) c ann (fun r=>some r) (fun _ _=>none) (H1 V fn.results.toList [.sl E .raw] [] ()) ⟨[(0,0,.one (.rdn ⟨0,[]⟩ bn (.sl E' .raw) xs))],[],1⟩=some zs:=by
  rw[<-hmod E' bn xs]
  cases bn with
  | false =>
   show (cr b [] xs).bind _=_
   rw[qL];rfl
  | true =>
   obtain ⟨h1,-⟩:=vD qL
   obtain ⟨ao,cap,e,-,hx⟩:=hrd
   obtain rfl:v= .slice ao xs.length cap:=by simpa using e
   rcases hx with rfl | ⟨b,off,ccs,t,fr,rfl,-⟩
   ·rw[h1];rfl
   ·cases hbn
 let θ:Th:=fun _=>v
 have key:Con P k #[v] J w0 [] (fun v=>resFa [.sl E .raw] v/\(zY 1000000 V.an=true->vv [.sl E .raw] (zs,()) v)) (fun v=>resGv [.sl E .raw] (zs,()) v++ []):=by
  refine wZ (n:=V.n) [(0,v)] hf hb hn hm (fun p hp=>by obtain rfl:=az hp;rfl) (fun F w a hA hst=>?_) (fun u=>sN (D:=[]) trivial [.sl E .raw] (zs,()) rfl)
  have hfine:Fine P w0 J θ ⟨[(0,0,.one (.rdn ⟨0,[]⟩ bn (.sl E' .raw) xs))],[],1⟩:=⟨fun e he=>by obtain rfl:=az he;exact ⟨Nat.one_pos,hrd,hbn⟩,fun e he=>by obtain rfl:=az he;exact Nat.one_pos,List.pairwise_singleton _ _,fun e he=>(by cases he),hlay⟩
  have hS:Sim P J w0 F V.n J θ ⟨[(0,0,.one (.rdn ⟨0,[]⟩ bn (.sl E' .raw) xs))],[],1⟩ a w:=⟨Hp.le.rfl,hA,hst,hfine⟩
  have fin:=N6 (V:=V) (θ:=θ) (J:=J) (w0:=w0) (rs:=[.sl E .raw]) (ps:=[]) (d:=()) (vs:=[]) (s0:=⟨[(0,0,.one (.rdn ⟨0,[]⟩ bn (.sl E' .raw) xs))],[],1⟩) (fn:=fn) (F:=F) hT rfl trivial (Nat.zero_le _)
  exact (uz (I:=J) (w0:=w0) (F:=F) hT hF hmx c).1 ann hr hS (fun J' θ' s' a' w' hk S' hJ hFr=>fin _ J' θ' s' a' w' hk S' hJ hFr) (fun i J' θ' s' a' w' hk=>by cases hk) (fun r' J' θ' s' a' w' hrt hrr hS' hJ hFr=>by
   obtain rfl:=ae hrr
   exact fin _ J' θ' s' a' w' hrt hS' hJ hFr)
 exact fun w C hs=>(key w C hs).mono fun e w' ⟨v,h1,h2,h3⟩=>⟨v,h1,trivial,h3⟩
theorem N7 {V:Env} {P:Program} (hT:TTok P V.tt) (hF:FTok P V.ft) (hmx:P.follows .mixedOrders=true) {k:FuncId} {fn:Func} {c:Code} {E E' b:Nat} {t:Ty} (hf:P.funcs[k]? =some fn) (hb:fn.body=some c) (hn:fn.ntmps=V.n) (hen:Enters P k) (hm:1<=V.n) (ann:Ann) (hbk:Du [.sl E t] =true)
  (hmod: ∀(bn:Bool) (xs:List t.den),((match bn with | true=>some ([] :List t.den) | false=>(cr b [] xs).bind fun zs=>some zs):Option (List t.den))=jf V (H1 V fn.results.toList [.sl E t] [] ()) c ann (fun r=>some r) (fun _ _=>none) (H1 V fn.results.toList [.sl E t] [] ()) ⟨[(0,0,.one (.rdn ⟨0,[]⟩ bn (.sl E' t) xs))],[],1⟩):FOk P k ⟨[.rd (.sl E' t)],[.sl E t],fun xs=>cr b [] xs,none⟩:=by
 refine ⟨fun q hq=>(by cases hq),fun _=>hen,fun w0 J vs d r hlay ha qL=>?_⟩
 obtain ⟨v,vs',rfl,hd,hnil⟩:=ha
 obtain rfl:vs'= []:=hnil
 obtain ⟨xs,u⟩:=d
 obtain ⟨cs,hcs,hrd⟩:=hd
 obtain rfl:cs= [v]:=hcs
 let zs:List t.den:=r
 have qL:cr b [] xs=some zs:=qL
 have hrd:(ah E' t.rep).rd J [v] xs:=hrd
 obtain ⟨bn,hbn⟩: ∃bn,zy v=bn:=⟨_,rfl⟩
 have hr:jf V (H1 V fn.results.toList [.sl E t] [] ()) c ann (fun r=>some r) (fun _ _=>none) (H1 V fn.results.toList [.sl E t] [] ()) ⟨[(0,0,.one (.rdn ⟨0,[]⟩ bn (.sl E' t) xs))],[],1⟩=some zs:=by
  rw[<-hmod bn xs]
  cases bn with
  | false =>
   show (cr b [] xs).bind _=_
   rw[qL];rfl
  | true =>
   obtain ⟨h1,-⟩:=vD qL
   obtain ⟨ao,cap,e,-,hx⟩:=hrd
   obtain rfl:v= .slice ao xs.length cap:=by simpa using e
   rcases hx with rfl | ⟨b,off,ccs,t,fr,rfl,-⟩
   ·rw[h1]
   ·cases hbn
 let θ:Th:=fun _=>v
 have key:Con P k #[v] J w0 [] (fun v=>resFa [.sl E t] v/\(zY 1000000 V.an=true->vv [.sl E t] (zs,()) v)) (fun v=>resGv [.sl E t] (zs,()) v++ []):=by
  refine wZ (n:=V.n) [(0,v)] hf hb hn hm (fun p hp=>by obtain rfl:=az hp;rfl) (fun F w a hA hst=>?_) (fun u=>sN (D:=[]) trivial [.sl E t] (zs,()) hbk)
  have hfine:Fine P w0 J θ ⟨[(0,0,.one (.rdn ⟨0,[]⟩ bn (.sl E' t) xs))],[],1⟩:=⟨fun e he=>by obtain rfl:=az he;exact ⟨Nat.one_pos,hrd,hbn⟩,fun e he=>by obtain rfl:=az he;exact Nat.one_pos,List.pairwise_singleton _ _,fun e he=>(by cases he),hlay⟩
  have hS:Sim P J w0 F V.n J θ ⟨[(0,0,.one (.rdn ⟨0,[]⟩ bn (.sl E' t) xs))],[],1⟩ a w:=⟨Hp.le.rfl,hA,hst,hfine⟩
  have fin:=N6 (V:=V) (θ:=θ) (J:=J) (w0:=w0) (rs:=[.sl E t]) (ps:=[]) (d:=()) (vs:=[]) (s0:=⟨[(0,0,.one (.rdn ⟨0,[]⟩ bn (.sl E' t) xs))],[],1⟩) (fn:=fn) (F:=F) hT rfl trivial (Nat.zero_le _)
  exact (uz (I:=J) (w0:=w0) (F:=F) hT hF hmx c).1 ann hr hS (fun J' θ' s' a' w' hk S' hJ hFr=>fin _ J' θ' s' a' w' hk S' hJ hFr) (fun i J' θ' s' a' w' hk=>by cases hk) (fun r' J' θ' s' a' w' hrt hrr hS' hJ hFr=>by
   obtain rfl:=ae hrr
   exact fin _ J' θ' s' a' w' hrt hS' hJ hFr)
 exact fun w C hs=>(key w C hs).mono fun e w' ⟨v,h1,h2,h3⟩=>⟨v,h1,h2.1,h3⟩
def gV:Nat->Ty
 | 0=>.raw
 | n+1=>.prod .raw (gV n)
def ja:(n:Nat)->(gV n).den->List Value
 | 0,p=>[p.1]
 | n+1,p=>p.1.1::ja n p.2
theorem ku: ∀n,(gV n).rep.size=n+1
 | 0=>rfl
 | n+1=>by
  show 1+(gV n).rep.size=_
  rw[ku n];omega
theorem H2 {I:Hp} : ∀(n:Nat) {cs:List Value} {p:(gV n).den},(gV n).rep.rd I cs p↔cs=ja n p
 | 0,cs,p=>Iff.rfl
 | n+1,cs,p=>by
  constructor
  ·rintro ⟨c,d,rfl,h1,h2⟩
   obtain rfl:c= [p.1.1]:=h1
   rw[(H2 n).1 h2];rfl
  ·rintro rfl
   exact ⟨[p.1.1],ja n p.2,rfl,rfl,(H2 n).2 rfl⟩
theorem DN {I:Hp} {w:World} : ∀(n:Nat) {cs:List Value} {p:(gV n).den} {F:List Nat},(gV n).rep.own I w cs p F->F= [] /\cs=ja n p
 | 0,cs,p,F,h=>by
  obtain ⟨h1,h2⟩:=h
  exact ⟨h1,h2⟩
 | n+1,cs,p,F,⟨c,d,G,K,h1,h2,h3,h4⟩=>by
  obtain ⟨rfl,h5⟩:=h3
  obtain ⟨rfl,h6⟩:=DN n h4
  have h5:c= [p.1.1]:=h5
  subst h1;subst h2;subst h5
  exact ⟨rfl,by rw[h6];rfl⟩
theorem H3: ∀(n:Nat) (cs:List Value),cs.length=n+1->(∀u∈cs,u.oneCell'=true)-> ∃p:(gV n).den,ja n p=cs
 | 0,cs,hl,h1=>by
  obtain ⟨u,rfl⟩:=List.length_eq_one_iff.1 hl
  exact ⟨⟨u,h1 u (by simp)⟩,rfl⟩
 | n+1,u::cs,hl,h1=>by
  obtain ⟨p,hp⟩:=H3 n cs (by simpa using hl) (fun v hv=>h1 v (by simp[hv]))
  exact ⟨(⟨u,h1 u (by simp)⟩,p),by show u::ja n p=_;rw[hp]⟩
theorem VF {n:Nat} {E:TypeId} {α:Type} {R:Rep α} (h1:R.size=n+1) {I:Hp} {v:Value} {xs:List α} (h:(ah E R).rd I [v] xs): ∃ps:List (gV n).den,All2 (fun p x=>R.rd I (ja n p) x) ps xs/\(ah E (gV n).rep).rd I [v] ps:=by
 obtain ⟨ao,cap,e,hl,h⟩:=h
 obtain rfl:v= .slice ao xs.length cap:=by simpa using e
 rcases h with rfl | ⟨b,off,ccs,t,fr,rfl,h2,h3⟩
 ·exact ⟨[],.nil,ao,cap,rfl,hl,.inl rfl⟩
 ·have key: ∀(xs:List α) (k0:Nat),(∀i x,xs[i]? =some x-> ∃c:List Value,c.length=R.size/\(∀j,j<R.size->ccs.toList[off+(k0+i)*R.size+j]? =c[j]?)/\R.rd I c x)-> ∃ps:List (gV n).den,All2 (fun p x=>R.rd I (ja n p) x) ps xs/\ ∀i p,ps[i]? =some p->(ja n p).length=R.size/\ ∀j,j<R.size->ccs.toList[off+(k0+i)*R.size+j]? =(ja n p)[j]? :=by
   intro xs
   induction xs with
   | nil=>intro k0 _;exact ⟨[],.nil,fun i p hp=>by simp at hp⟩
   | cons x xs ih =>
    intro k0 h
    obtain ⟨c,e1,e2,e3⟩:=h 0 x rfl
    obtain ⟨p,rfl⟩:=H3 n c (e1.trans h1) (R.rd_one e3)
    obtain ⟨ps,q1,q2⟩:=ih (k0+1) fun i y hy=>by
     have:=h (i+1) y (by simpa using hy)
     rwa [show k0+(i+1)=k0+1+i from by omega] at this
    refine ⟨p::ps,.cons e3 q1,fun i u hu=>?_⟩
    cases i with
    | zero =>
     obtain rfl:p=u:=by simpa using hu
     exact ⟨e1,e2⟩
    | succ i =>
     have:=q2 i u (by simpa using hu)
     rwa [show k0+1+i=k0+(i+1) from by omega] at this
  obtain ⟨ps,q1,q2⟩:=key xs 0 (fun i x hx=>by rw[Nat.zero_add];exact h3 i x hx)
  have hlen:=q1.length_eq
  refine ⟨ps,q1,_,cap,by rw[hlen],by rw[hlen];exact hl,.inr ⟨b,off,ccs,t,fr,rfl,h2,fun i p hp=>?_⟩⟩
  obtain ⟨k1,k2⟩:=q2 i p hp
  rw[Nat.zero_add] at k2
  refine ⟨ja n p,by rw[k1,h1,ku],fun j hj=>?_,(H2 n).2 rfl⟩
  rw[ku] at hj⊢
  rw[<-h1]
  exact k2 j (by rw[h1];exact hj)
theorem JR {n:Nat} {α:Type} {R:Rep α} (h1:R.size=n+1) {I:Hp} {w:World} : ∀ {ps:List (gV n).den} {xs:List α} {cur:List Value} {F:List Nat},OwnEls (gV n).rep I w cur ps F->All2 (fun p x=>R.rd I (ja n p) x) ps xs->OwnEls (wH R) I w cur xs F
 | [],[],_,_,h,_=>h
 | p::ps,x::xs,cur,F,⟨c,rest,G,K,e1,e2,e3,e4,e5⟩,hh=>by
  cases hh with
  | cons hp hps =>
   obtain ⟨rfl,rfl⟩:=DN n e4
   exact ⟨ja n p,rest,[],K,e1,by rw[e2,ku];exact h1.symm,e3,⟨rfl,hp⟩,JR h1 e5 hps⟩
 | [],_::_,_,_,_,hh=>by cases hh
 | _::_,[],_,_,_,hh=>by cases hh
theorem Rw {n:Nat} {α:Type} {E:TypeId} {R:Rep α} (h1:R.size=n+1) {I:Hp} {w0 w:World} {C:List Ch} {v:Value} {xs:List α} {ps:List (gV n).den} (hp:All2 (fun p x=>R.rd I (ja n p) x) ps xs) (h:St I w0 w (Ch.own (ah E (gV n).rep) [v] ps::C)):St I w0 w (Ch.own (ah E (wH R)) [v] xs::C):=by
 obtain ⟨a1,a2,F,⟨G,K,rfl,⟨hl,k⟩,e⟩,a4,a5⟩:=h
 have hlen:=hp.length_eq
 rcases k with ⟨hv',rfl,rfl⟩ | ⟨g,ofs,cap,cur,K1,hv',k1,k2,k3,k4,rfl,k5⟩
 ·cases hp
  exact ⟨a1,a2,[] ++K,⟨[],K,rfl,⟨Nat.zero_le _,.inl ⟨hv',rfl,rfl⟩⟩,e⟩,a4,a5⟩
 ·exact ⟨a1,a2,(g::K1)++K,⟨g::K1,K,rfl,⟨by rw[<-hlen];exact hl,.inr ⟨g,ofs,cap,cur,K1,by rw[<-hlen];exact hv',k1,by rw[<-hlen];exact k2,k3,by rw[ku] at k4;show ofs+cap*R.size<=_;rw[h1];exact k4,rfl,JR h1 k5 hp⟩⟩,e⟩,a4,a5⟩
theorem Rx {P:Program} {k:FuncId} {E E' b n:Nat} {t:Ty} (hs:t.size=n+1) (h:FOk P k ⟨[.rd (.sl E' (gV n))],[.sl E (gV n)],fun xs=>cr b [] xs,none⟩):FOk P k ⟨[.rd (.sl E' t)],[.sl E (.fro t)],fun xs=>cr b [] xs,none⟩:=by
 refine ⟨fun q hq=>(by cases hq),fun _=>h.en rfl,fun w0 J vs d r hlay ha qL=>?_⟩
 obtain ⟨v,vs',rfl,hd,hnil⟩:=ha
 obtain rfl:vs'= []:=hnil
 obtain ⟨xs,u⟩:=d
 obtain ⟨cs,hcs,hrd⟩:=hd
 obtain rfl:cs= [v]:=hcs
 let zs:List t.den:=r
 have qL:cr b [] xs=some zs:=qL
 have hrd:(ah E' t.rep).rd J [v] xs:=hrd
 have hsz:t.rep.size=n+1:=(Ty.rep_size t).trans hs
 obtain ⟨ps,hp,hps⟩:=VF hsz hrd
 obtain ⟨h1,h2⟩:=vD qL
 have hz:cr b [] ps=some ps:=h2 ps hp.length_eq
 have key:=h.con w0 J [v] (ps,()) (show dens ([Ty.sl E (gV n)] ++ []) from ps) hlay ⟨v,[],rfl,⟨[v],rfl,hps⟩,rfl⟩ hz
 exact fun w C hs=>(key w C hs).mono fun e w' ⟨v,a1,a2,a3⟩=>⟨v,a1,a2,by
  have a3:St J w0 w' (Ch.own (ah E (gV n).rep) [v] ps::C):=a3
  have a4:=Rw hsz hp a3
  show St J w0 w' (Ch.own (ah E (wH t.rep)) [v] zs::C)
  rw[h1];exact a4⟩
theorem ky {P:Program} {k:FuncId} {f:FS} (h:Enters P k) (hc:f.cl=none) (hm: ∀d,appP f.ps f.m d=none):FOk P k f:=
 ⟨fun q hq=>by (rw[hc] at hq;cases hq),fun _=>h,fun _ _ _ d r _ _ hr=>by rw[hm d] at hr;cases hr⟩
theorem Ge {P:Program} {k:FuncId} {f:FS} {E b:Nat} (h:FOk P k ⟨f.ps,f.rs,f.m,none⟩) (hc:wO P k E b) (hb:Nat.beq b 0=false:=by rfl) (h7:Nat.beq b 7=false:=by rfl) (h8:Nat.ble 1000 b=false:=by rfl):FOk P k ⟨f.ps,f.rs,f.m,some (E,b)⟩:=
 ⟨fun q hq=>by obtain rfl:=ae hq;exact ⟨⟨fun e=>(by rw[hb] at e;cases e),fun _ _ _=>hc,fun e=>(by rw[h8] at e;cases e)⟩,fun e=>(by rw[h7] at e;cases e)⟩,fun _=>h.en rfl,h.con⟩
end R
namespace R
open Go.RowKit
open D
theorem JS {n:Nat} {α:Type} {R:Rep α} (hR:R.Sh) (h1:R.size=n+1) {I:Hp} {w:World} : ∀ {xs:List α} {cur:List Value} {K:List Nat},OwnEls R I w cur xs K-> ∃ps:List (gV n).den,K= [] /\OwnEls (gV n).rep I w cur ps [] /\All2 (fun p x=>R.rd I (ja n p) x) ps xs
 | [],cur,K,h=>⟨[],h,rfl,.nil⟩
 | x::xs,cur,K,⟨c,rest,G,K1,e1,e2,e3,e4,e5⟩=>by
  obtain ⟨rfl,hrd⟩:=hR e4
  obtain ⟨p,rfl⟩:=H3 n c (e2.trans h1) (R.rd_one hrd)
  obtain ⟨ps,rfl,k2,k3⟩:=JS hR h1 e5
  have hraw: ∀(m:Nat) (q:(gV m).den),(gV m).rep.own I w (ja m q) q []:=by
   intro m
   induction m with
   | zero=>intro q;exact ⟨rfl,rfl⟩
   | succ m ih=>intro q;exact ⟨[q.1.1],ja m q.2,[],[],rfl,rfl,⟨rfl,rfl⟩,ih q.2⟩
  exact ⟨p::ps,e3,⟨ja n p,rest,[],[],e1,by rw[e2,h1,ku],rfl,hraw n p,k2⟩,.cons hrd k3⟩
theorem Ry {n:Nat} {α:Type} {E:TypeId} {R:Rep α} (hR:R.Sh) (h1:R.size=n+1) {I:Hp} {w0 w:World} {C:List Ch} {v:Value} {xs:List α} (h:St I w0 w (Ch.own (ah E R) [v] xs::C)): ∃ps:List (gV n).den,All2 (fun p x=>R.rd I (ja n p) x) ps xs/\St I w0 w (Ch.own (ah E (gV n).rep) [v] ps::C):=by
 obtain ⟨a1,a2,F,⟨G,K,rfl,⟨hl,k⟩,e⟩,a4,a5⟩:=h
 rcases k with ⟨hv',rfl,rfl⟩ | ⟨g,ofs,cap,cur,K1,hv',k1,k2,k3,k4,rfl,k5⟩
 ·exact ⟨[],.nil,a1,a2,[] ++K,⟨[],K,rfl,⟨Nat.zero_le _,.inl ⟨hv',rfl,rfl⟩⟩,e⟩,a4,a5⟩
 ·obtain ⟨ps,rfl,q1,q2⟩:=JS hR h1 k5
  have hlen:=q2.length_eq
  exact ⟨ps,q2,a1,a2,[g] ++K,⟨[g],K,rfl,⟨by rw[hlen];exact hl,.inr ⟨g,ofs,cap,cur,[],by rw[hlen];exact hv',k1,by rw[hlen];exact k2,k3,by rw[h1] at k4;rw[ku];exact k4,rfl,q1⟩⟩,e⟩,a4,a5⟩
theorem Gf {n:Nat} {α:Type} {R:Rep α} (hC:Cpy R R) (h1:R.size=n+1) {I:Hp} {w:World} : ∀ {ps:List (gV n).den} {xs:List α} {cur:List Value} {F:List Nat},OwnEls (gV n).rep I w cur ps F->All2 (fun p x=>R.rd I (ja n p) x) ps xs->OwnEls R I w cur xs F
 | [],[],_,_,h,_=>h
 | p::ps,x::xs,cur,F,⟨c,rest,G,K,e1,e2,e3,e4,e5⟩,hh=>by
  cases hh with
  | cons hp hps =>
   obtain ⟨rfl,rfl⟩:=DN n e4
   exact ⟨ja n p,rest,[],K,e1,by rw[e2,ku];exact h1.symm,e3,hC hp,Gf hC h1 e5 hps⟩
 | [],_::_,_,_,_,hh=>by cases hh
 | _::_,[],_,_,_,hh=>by cases hh
theorem N8 {n:Nat} {α:Type} {E:TypeId} {R:Rep α} (hC:Cpy R R) (h1:R.size=n+1) {I:Hp} {w0 w:World} {C:List Ch} {v:Value} {xs:List α} {ps:List (gV n).den} (hp:All2 (fun p x=>R.rd I (ja n p) x) ps xs) (h:St I w0 w (Ch.own (ah E (gV n).rep) [v] ps::C)):St I w0 w (Ch.own (ah E R) [v] xs::C):=by
 obtain ⟨a1,a2,F,⟨G,K,rfl,⟨hl,k⟩,e⟩,a4,a5⟩:=h
 have hlen:=hp.length_eq
 rcases k with ⟨hv',rfl,rfl⟩ | ⟨g,ofs,cap,cur,K1,hv',k1,k2,k3,k4,rfl,k5⟩
 ·cases hp
  exact ⟨a1,a2,[] ++K,⟨[],K,rfl,⟨Nat.zero_le _,.inl ⟨hv',rfl,rfl⟩⟩,e⟩,a4,a5⟩
 ·exact ⟨a1,a2,(g::K1)++K,⟨g::K1,K,rfl,⟨by rw[<-hlen];exact hl,.inr ⟨g,ofs,cap,cur,K1,by rw[<-hlen];exact hv',k1,by rw[<-hlen];exact k2,k3,by rw[ku] at k4;rw[h1];exact k4,rfl,Gf hC h1 k5 hp⟩⟩,e⟩,a4,a5⟩
theorem Gg {α β:Type} {p:α->β->Prop} : ∀ {xs:List α} {ys:List β} (n:Nat),All2 p xs ys->All2 p (xs.take n) (ys.take n)
 | _,_,0,_=>.nil
 | _,_,n+1,.nil=>.nil
 | _,_,n+1,.cons h k=>.cons h (Gg n k)
theorem JT {α β:Type} {p:α->β->Prop} : ∀ {xs:List α} {ys:List β} {xs':List α} {ys':List β},All2 p xs ys->All2 p xs' ys'->All2 p (xs++xs') (ys++ys')
 | _,_,_,_,.nil,h=>h
 | _,_,_,_,.cons h k,h'=>.cons h (JT k h')
def Yk {α:Type} (xs:List α) (i j:Int):Option (List α):=(chk (0<=i/\i<=j/\j<=(xs.length:Int))).bind fun _=>some (xs.take i.toNat++xs.drop j.toNat)
def Yl {α:Type} (z:α) (p0s:List α) (p1i p2j:Int):Option (List α):=
 (chk (And (0<=p1i) (And (p1i<=p2j) (And (p2j<=(p0s.length:Int)) ((0+(p0s.length:Int))<=(p0s.length:Int)))))).bind fun _=>if p1i==p2j then (some p0s) else ((chk (And ((0:Int)<=0) (And (0<=p1i) ((0+p1i)<=(p0s.length:Int))))).bind fun _=>(chk (And (0<=p2j) (And (p2j<=((p0s.length:Int) - 0)) ((0+((p0s.length:Int) - 0))<=(p0s.length:Int))))).bind fun _=>(chk (And ((0+0:Int)=0) (And ((0+p1i)<=(0+p2j)) (And ((0+p2j)<=(0+((p0s.length:Int) - 0))) ((0+((p0s.length:Int) - 0))<=(p0s.length:Int)))))).bind fun _=>(chk (And (0<=(((0+p1i)+((0+((p0s.length:Int) - 0)) - (0+p2j))) - 0)) (And ((((0+p1i)+((0+((p0s.length:Int) - 0)) - (0+p2j))) - 0)<=(p0s.length:Int)) ((0+(p0s.length:Int))<=((oC p0s ((0+p1i).toNat) ((0+p2j).toNat) ((0+((p0s.length:Int) - 0)).toNat)).length:Int))))).bind fun _=>(chk (And ((0+(((0+p1i)+((0+((p0s.length:Int) - 0)) - (0+p2j))) - 0))<=(0+(p0s.length:Int))) ((0+(p0s.length:Int))<=((oC p0s ((0+p1i).toNat) ((0+p2j).toNat) ((0+((p0s.length:Int) - 0)).toNat)).length:Int)))).bind fun _=>some (((rl (oC p0s ((0+p1i).toNat) ((0+p2j).toNat) ((0+((p0s.length:Int) - 0)).toNat)) ((0+(((0+p1i)+((0+((p0s.length:Int) - 0)) - (0+p2j))) - 0)).toNat) ((0+(p0s.length:Int)).toNat) z).take (((0+p1i)+((0+((p0s.length:Int) - 0)) - (0+p2j))).toNat)).drop ((0:Int).toNat)))
theorem chk_of {α:Type} {p:Prop} [Decidable p] {k:Unit->Option α} (h:p):(chk p).bind k=k ():=by
 unfold chk
 rw[if_pos h];rfl
theorem VG {α:Type} {z:α} {xs:List α} {i j:Int} (h1:0<=i) (h2:i<=j) (h3:j<=(xs.length:Int)):Yl z xs i j=some (xs.take i.toNat++xs.drop j.toNat):=by
 have hsl:(oC xs ((0+i).toNat) ((0+j).toNat) ((0+((xs.length:Int) - 0)).toNat)).length=xs.length:=vE (by omega) (by omega) (by omega)
 unfold Yl
 rw[chk_of (by omega)]
 by_cases hij:i=j
 ·subst hij
  rw[if_pos (by simp),List.take_append_drop]
 ·rw[if_neg (by simpa using hij),chk_of (by omega),chk_of (by omega),chk_of (by omega),chk_of (by rw[hsl];omega),chk_of (by rw[hsl];omega)]
  have hzl:(rl (oC xs ((0+i).toNat) ((0+j).toNat) ((0+((xs.length:Int) - 0)).toNat)) ((0+(((0+i)+((0+((xs.length:Int) - 0)) - (0+j))) - 0)).toNat) ((0+(xs.length:Int)).toNat) z).length=xs.length:=by
   rw[rK (by omega) (by rw[hsl];omega),hsl]
  congr 1
  rw[show ((0:Int).toNat)=0 from rfl,List.drop_zero]
  apply List.ext_getElem?
  intro q
  have hi:(xs.take i.toNat).length=i.toNat:=by rw[ay];omega
  rw[List.getElem?_take]
  by_cases c:q<((0+i)+((0+((xs.length:Int) - 0)) - (0+j))).toNat
  ·rw[if_pos c,Fz (by omega) (by rw[hsl];omega),if_neg (by omega),Cp (by omega) (by omega) (by omega)]
   by_cases c1:q<i.toNat
   ·rw[if_neg (by omega),List.getElem?_append_left (by omega),List.getElem?_take,if_pos c1]
   ·rw[if_pos (by omega),List.getElem?_append_right (by omega),hi,List.getElem?_drop]
    congr 1;omega
  ·rw[if_neg c,List.getElem?_append_right (by omega),List.getElem?_drop,List.getElem?_eq_none (by omega)]
theorem VH {P:Program} {k:FuncId} {E n:Nat} {u:Ty} {z:(gV n).den} (hu:u.sh=true) (hs:u.size=n+1) (h:FOk P k ⟨[.eat (.sl E (gV n)),.rd (.int .i64),.rd (.int .i64)],[.sl E (gV n)],Yl z,none⟩):FOk P k ⟨[.eat (.sl E u),.rd (.int .i64),.rd (.int .i64)],[.sl E u],Yk,none⟩:=by
 refine ⟨fun q hq=>(by cases hq),fun _=>h.en rfl,fun w0 J vs d r hlay ha qL=>?_⟩
 obtain ⟨v,vs1,rfl,hd,v2,vs2,rfl,hd2,v3,vs3,rfl,hd3,hnil⟩:=ha
 obtain rfl:vs3= []:=hnil
 obtain ⟨xs0,i0,j0,un⟩:=d
 let xs:List u.den:=xs0
 let i:Int:=i0
 let j:Int:=j0
 let zs:List u.den:=r
 have qL:Yk xs i j=some zs:=qL
 obtain ⟨u1,hc,hz⟩:=Option.bind_eq_some_iff.1 qL
 obtain ⟨c1,c2,c3⟩:=bI hc
 have hz:=ae hz
 have hsz:u.rep.size=n+1:=(Ty.rep_size u).trans hs
 intro w C hst
 have hst:St J w0 w (Ch.own (ah E u.rep) [v] xs::C):=hst
 obtain ⟨ps,hp,hst2⟩:=Ry (Ty.sh_ok hu) hsz hst
 have hlen:=hp.length_eq
 have hm:Yl z ps i j=some (ps.take i.toNat++ps.drop j.toNat):=VG c1 c2 (by rw[hlen];exact c3)
 have key:=h.con w0 J [v,v2,v3] (ps,i,j,()) (show dens ([Ty.sl E (gV n)] ++ []) from ps.take i.toNat++ps.drop j.toNat) hlay ⟨v,_,rfl,hd,v2,_,rfl,hd2,v3,_,rfl,hd3,rfl⟩ hm
 refine (key w C hst2).mono fun e w' ⟨r,a1,a2,a3⟩=>⟨r,a1,a2,?_⟩
 have a3:St J w0 w' (Ch.own (ah E (gV n).rep) [r] (ps.take i.toNat++ps.drop j.toNat)::C):=a3
 show St J w0 w' (Ch.own (ah E u.rep) [r] zs::C)
 rw[<-hz]
 exact N8 (Ty.cpy hu) hsz (JT (Gg _ hp) (rG _ hp)) a3
end R
namespace R
open Go.RowKit Go.Shelf Go.Sort
open D
def Rz (xs:List ByteArray) (sep:ByteArray):Option ByteArray:=(chk (xs.length<=140737488355328/\(Lib.join (xs.map (·.data.toList)) sep.data.toList).length<=140737488355328)).bind fun _=>some ⟨(Lib.join (xs.map (·.data.toList)) sep.data.toList).toArray⟩
def RA (n:Int):Option ByteArray:=(chk (-9223372036854775808<=n/\n<=9223372036854775807)).bind fun _=>some ⟨(Lib.itoa n).toArray⟩
section
variable {P:Program} {ρ:Ren}
theorem St.grownS {I:Hp} {w0 w:World} {cs:List Ch} (h:St I w0 w cs) (os:Array Obj):St I w0 (grow w os) cs:=by
 refine St.step (w:=w) (c:=[]) (c':=[]) h rfl rfl rfl (by simp[grow]) ?_
 rintro F rfl - -
 exact ⟨fun b hb _=>heap_grow_old w os hb,[],rfl,List.nodup_nil,by simp⟩
theorem St.belowS {I:Hp} {w0 w w':World} {cs:List Ch} (h:St I w0 w cs) (hb:Below w.heap.size w w'):St I w0 w' cs:=by
 refine St.step (w:=w) (c:=[]) (c':=[]) h hb.os hb.tape hb.output hb.size ?_
 rintro F rfl - -
 exact ⟨fun b hb' _=>hb.block b hb',[],rfl,List.nodup_nil,by simp⟩
theorem RB (L:LaysM.n171 P ρ) (en:Enters P (ρ.f 171)):FOk P (ρ.f 171) ⟨[.rd (.int .i64)],[.str],fun n=>RA n,none⟩:=by
 refine ⟨fun q hq=>(by cases hq),fun _=>en,fun w0 J vs d r hlay ha qL=>?_⟩
 obtain ⟨v,vs1,rfl,⟨c1,l1,r1⟩,hnil⟩:=ha
 obtain rfl:vs1= []:=hnil
 obtain ⟨n0,un⟩:=d
 let n:Int:=n0
 obtain rfl:c1= [v]:=l1
 obtain rfl:v= .int .i64 n:=(List.cons.inj r1).1
 obtain ⟨u1,hc,hz⟩:=Option.bind_eq_some_iff.1 (show RA n=some r from qL)
 have hc:=bI hc
 obtain rfl:=ae hz
 intro w C hst
 have hst:St J w0 w C:=hst
 refine (Any.strconv_Itoa L n hc.1 hc.2 w (hlay w hst.2.1).tab).mono ?_
 rintro e w' ⟨rfl,k,os,rfl⟩
 have hw:St J w0 (w.drewN k) C:=hst.drawn rfl rfl rfl rfl
 exact ⟨_,rfl,rfl,D.St.free (R:=C4) (c:=[.string _]) (St.grownS hw os) ⟨rfl,rfl⟩⟩
theorem RC (L:Lays.n156 P ρ) (X:Builder.Extra P ρ) (E:TypeId) (en:Enters P (ρ.f 156)):FOk P (ρ.f 156) ⟨[.rd (.sl E .str),.rd .str],[.str],fun xs s=>Rz xs s,none⟩:=by
 refine ⟨fun q hq=>(by cases hq),fun _=>en,fun w0 J vs d r hlay ha qL=>?_⟩
 obtain ⟨v,vs1,rfl,⟨c1,l1,r1⟩,v2,vs2,rfl,⟨c2,l2,r2⟩,hnil⟩:=ha
 obtain rfl:vs2= []:=hnil
 obtain ⟨xs0,sep,un⟩:=d
 let xs:List ByteArray:=xs0
 obtain rfl:c1= [v]:=l1
 obtain rfl:c2= [v2]:=l2
 obtain rfl:v2= .string sep:=(List.cons.inj r2).1
 obtain ⟨u1,hc,hz⟩:=Option.bind_eq_some_iff.1 (show Rz xs sep=some r from qL)
 have hc:=bI hc
 obtain rfl:=ae hz
 obtain ⟨ao,cap,hv,⟨hl,hcap⟩,hx⟩:((ah E C4).rd J [v] xs):=r1
 obtain rfl:=(List.cons.inj hv).1
 intro w C hst
 have hst:St J w0 w C:=hst
 rcases hx with hx | ⟨b,off,ccs,t,fr,rfl,h2,h4⟩
 ·have hx:xs= []:=hx
  rw[hx] at hc⊢
  refine (Any.strings_Join_none L X ao cap sep w).mono ?_
  rintro e w' ⟨rfl,rfl⟩
  refine ⟨_,rfl,rfl,?_⟩
  exact D.St.free (R:=C4) (c:=[.string _]) hst ⟨rfl,rfl⟩
 ·have hg:=hst.2.1 _ _ h2
  have hblk:b<w.heap.size:=(Array.getElem?_eq_some_iff.1 hg).1
  refine (Any.strings_Join L X b off cap xs sep w (fun j x hj=>?_) hblk hc.1 hcap hc.2).mono ?_
  ·obtain ⟨c,e1,e2,e3⟩:=h4 j x hj
   obtain rfl:c= [.string x]:=e3
   have:=e2 0 Nat.one_pos
   have e:off+j*C4.size+0=off+j:=by show off+j*1+0=_;omega
   rw[e] at this
   unfold World.cell?
   have hg:w.heap[b]? =some (.cells ccs t fr):=hg
   simp only[hg]
   rw[<-Array.getElem?_toList,this]
   rfl
  ·rintro e w' ⟨rfl,hb⟩
   exact ⟨_,rfl,rfl,D.St.free (R:=C4) (c:=[.string _]) (St.belowS hst hb) ⟨rfl,rfl⟩⟩
end
end R
namespace D
open Go.RowKit Go.Shelf
theorem VI {I:Hp} {w0 w:World} {cs:List Ch} {α:Type} {E:TypeId} {enc:α->Value} {h1: ∀a,(enc a).oneCell'=true} {b:Nat} {xs:List α} (hl:xs.length<=lim) (h:St I w0 w (Ch.blk b (xs.map enc) E::cs)):St I w0 w (Ch.own (ah E (k7 α enc h1)) [.slice (some ⟨b,0,none⟩) xs.length xs.length] xs::cs):=by
 obtain ⟨hb,hi,F,⟨G,K,rfl,⟨rfl,hg⟩,e⟩,h4,h5⟩:=h
 refine ⟨hb,hi,[b] ++K,⟨[b],K,rfl,⟨hl,.inr ⟨b,0,xs.length,_,[],rfl,hg,aB _,hl,?_,rfl,?_⟩⟩,e⟩,h4,h5⟩
 ·show 0+xs.length*1<=_
  simp
 ·refine jN.2 ⟨rfl,[],?_⟩
  simp
end D
namespace R
open Go.RowKit Go.Shelf Go.Sort
open D
def JU (s sep:ByteArray):Option (List ByteArray):=(chk (s.size<4294967281/\1<=sep.size)).bind fun _=>some (Lib.splitB sep 0 (Lib.countB s sep) s)
def Xs (s sep:ByteArray):Option (ByteArray×ByteArray×Bool):=(chk (s.size<4294967281)).bind fun _=>some (⟨(Lib.cut s.data.toList sep.data.toList).1.toArray⟩,⟨(Lib.cut s.data.toList sep.data.toList).2.1.toArray⟩,(Lib.cut s.data.toList sep.data.toList).2.2)
def w4 (s:ByteArray) (c:Int):Option Int:=some (Lib.indexByte s.data.toList c.toNat.toUInt8)
def rO (s:ByteArray):Option (Int×Bool):=
 if 10<s.size then some (0,false) else
 match Lib.atoi s.data.toList with
 | none=>some (0,false)
 | some n=>if (⟨(Lib.itoa n).toArray⟩:ByteArray)=s/\ -999999999<=n/\n<=999999999 then some (n,true) else some (0,false)
section
variable {P:Program} {ρ:Ren}
theorem N9 (L:Lays.n146 P ρ) (hi9:(P.info? (ρ.t 9)).map (fun i=>(i.zero,i.size,i.bytes))=some (some (.string ByteArray.empty),1,16)) (m1:P.globalNamed "internal/bytealg.MaxLen" =some (ρ.g 1)) (en:Enters P (ρ.f 146)):FOk P (ρ.f 146) ⟨[.rd .str,.rd .str],[.sl (ρ.t 9) .str],fun s sep=>JU s sep,none⟩:=by
 refine ⟨fun q hq=>(by cases hq),fun _=>en,fun w0 J vs d r hlay ha qL=>?_⟩
 obtain ⟨v,vs1,rfl,⟨c1,l1,r1⟩,v2,vs2,rfl,⟨c2,l2,r2⟩,hnil⟩:=ha
 obtain rfl:vs2= []:=hnil
 obtain ⟨s0,sep0,un⟩:=d
 let s:ByteArray:=s0
 let sep:ByteArray:=sep0
 obtain rfl:c1= [v]:=l1
 obtain rfl:c2= [v2]:=l2
 obtain rfl:v= .string s:=(List.cons.inj r1).1
 obtain rfl:v2= .string sep:=(List.cons.inj r2).1
 obtain ⟨u1,hc,hz⟩:=Option.bind_eq_some_iff.1 (show JU s sep=some r from qL)
 have hc:=bI hc
 obtain rfl:=ae hz
 intro w C hst
 have hst:St J w0 w C:=hst
 obtain ⟨g,m,hg,hm⟩:=(hlay w hst.2.1).len
 obtain rfl:=ae (m1.symm.trans hg)
 refine (Any.strings_Split L hi9 s sep m w hc.1 hm hc.2).mono ?_
 rintro e w' ⟨rfl,rfl⟩
 refine ⟨_,rfl,rfl,?_⟩
 have hlen:(Lib.splitB sep 0 (Lib.countB s sep) s).length=Lib.countB s sep+1:=Lib.splitB_all sep hc.2 0 _ s rfl
 have hle:=Lib.countB_le sep hc.2 s.size s (aB _)
 have h3:=D.VI (E:=ρ.t 9) (enc:=Value.string) (h1:=fun _=>rfl) (b:=w.heap.size) (xs:=Lib.splitB sep 0 (Lib.countB s sep) s) (by rw[hlen];have:lim=9223372036854775807:=rfl;omega) (hst.alloc _ _)
 rw[hlen] at h3
 exact h3
theorem VJ (L:Lays.n145 P ρ) (m1:P.globalNamed "internal/bytealg.MaxLen" =some (ρ.g 1)) (en:Enters P (ρ.f 145)):FOk P (ρ.f 145) ⟨[.rd .str,.rd .str],[.str,.str,.bool],fun s sep=>Xs s sep,none⟩:=by
 refine ⟨fun q hq=>(by cases hq),fun _=>en,fun w0 J vs d r hlay ha qL=>?_⟩
 obtain ⟨v,vs1,rfl,⟨c1,l1,r1⟩,v2,vs2,rfl,⟨c2,l2,r2⟩,hnil⟩:=ha
 obtain rfl:vs2= []:=hnil
 obtain ⟨s0,sep0,un⟩:=d
 let s:ByteArray:=s0
 let sep:ByteArray:=sep0
 obtain rfl:c1= [v]:=l1
 obtain rfl:c2= [v2]:=l2
 obtain rfl:v= .string s:=(List.cons.inj r1).1
 obtain rfl:v2= .string sep:=(List.cons.inj r2).1
 obtain ⟨u1,hc,hz⟩:=Option.bind_eq_some_iff.1 (show Xs s sep=some r from qL)
 have hc:=bI hc
 obtain rfl:=ae hz
 intro w C hst
 have hst:St J w0 w C:=hst
 obtain ⟨g,m,hg,hm⟩:=(hlay w hst.2.1).len
 obtain rfl:=ae (m1.symm.trans hg)
 refine (Any.strings_Cut L s sep m w hc hm).mono ?_
 rintro e w' ⟨rfl,n,rfl⟩
 refine ⟨_,rfl,⟨_,rfl,rfl,fun i t ht=>?_⟩,?_⟩
 ·rcases i with _ | _ | _ | i
  all_goals first | (obtain rfl:=ae ht;rfl) | cases ht
 ·have hw:St J w0 (w.drewN n) C:=hst.drawn rfl rfl rfl rfl
  exact D.St.free (R:=C4) (c:=[.string _]) (D.St.free (R:=C4) (c:=[.string _]) (D.St.free (R:=ou) (c:=[.bool _]) hw ⟨rfl,rfl⟩) ⟨rfl,rfl⟩) ⟨rfl,rfl⟩
theorem DO (L:Lays.n137 P ρ) (en:Enters P (ρ.f 137)):FOk P (ρ.f 137) ⟨[.rd .str,.rd (.int .u8)],[.int .i64],fun s c=>w4 s c,none⟩:=by
 refine ⟨fun q hq=>(by cases hq),fun _=>en,fun w0 J vs d r hlay ha qL=>?_⟩
 obtain ⟨v,vs1,rfl,⟨c1,l1,r1⟩,v2,vs2,rfl,⟨c2,l2,r2⟩,hnil⟩:=ha
 obtain rfl:vs2= []:=hnil
 obtain ⟨s0,c0,un⟩:=d
 let s:ByteArray:=s0
 let c:Int:=c0
 obtain rfl:c1= [v]:=l1
 obtain rfl:c2= [v2]:=l2
 obtain rfl:v= .string s:=(List.cons.inj r1).1
 obtain rfl:v2= .int .u8 c:=(List.cons.inj r2).1
 obtain rfl:=ae (show w4 s c=some r from qL)
 intro w C hst
 have hst:St J w0 w C:=hst
 refine (Any.strings_IndexByte L s c w).mono ?_
 rintro e w' ⟨rfl,rfl⟩
 exact ⟨_,rfl,rfl,D.St.free (R:=bd) (c:=[.int .i64 _]) hst ⟨rfl,rfl⟩⟩
theorem VK {α:Type} {E:TypeId} {R:Rep α} {I:Hp} {w0 w:World} {v:List Value} {xs:List α} {C:List Ch} (h:St I w0 w (Ch.own (ah E R) v xs::C)):St I w0 w (Ch.own (ah E (LQ R)) v xs::C):=by
 obtain ⟨hb,hi,F,⟨G,K,rfl,⟨hl,e2⟩,e3⟩,h4,h5⟩:=h
 rcases e2 with ⟨rfl,rfl,rfl⟩ | ⟨g,ofs,cap,cur,K1,hv,k1,k2,k3,k4,k6,k5⟩
 ·exact ⟨hb,hi,_,⟨_,K,rfl,⟨hl,.inl ⟨rfl,rfl,rfl⟩⟩,e3⟩,h4,h5⟩
 ·exact ⟨hb,hi,_,⟨_,K,rfl,⟨hl,.inr ⟨g,ofs,cap,cur,K1,hv,k1,k2,k3,k4,k6,OwnEls.turn (R:=R) (S:=LQ R) rfl (fun c x G hx=>Mg hx) k5⟩⟩,e3⟩,h4,h5⟩
theorem JV {P:Program} {k:FuncId} {ps:List PM} {A B t:Ty} {E:TypeId} {m:curP ps (Option (dens ([A,.sl E t,B] ++outs ps)))} (h:FOk P k ⟨ps,[A,.sl E t,B],m,none⟩):FOk P k ⟨ps,[A,.sl E (.bag t),B],m,none⟩:=by
 refine ⟨fun q hq=>(by cases hq),fun hq=>h.en hq,fun w0 J vs d r hlay ha qL=>?_⟩
 refine (h.con w0 J vs d r hlay ha qL).imp (fun v hv=>?_) (fun v _ w C hs=>?_)
 ·obtain ⟨us,rfl,h1,h2⟩:=hv
  refine ⟨us,rfl,h1,fun i u hu=>?_⟩
  rcases i with _ | _ | _ | i
  ·obtain rfl:=ae hu;exact h2 0 _ rfl
  ·obtain rfl:=ae hu;exact h2 1 (.sl E t) rfl
  ·obtain rfl:=ae hu;exact h2 2 _ rfl
  ·cases hu
 ·exact ((VK (hs.perm (List.Perm.swap ..))).perm (List.Perm.swap ..))
theorem Oa {k:FuncId} {m:ByteArray->Option (Int×Bool)} (en:Enters P k) (h: ∀s r w,m s=some r->LayW P w->Calls P k #[.string s] w fun e w'=>e= .returned (.tuple #[.int .i64 r.1,.bool r.2])/\Below w.heap.size w w'):FOk P k ⟨[.rd .str],[.int .i64,.bool],fun s=>m s,none⟩:=by
 refine ⟨fun q hq=>(by cases hq),fun _=>en,fun w0 J vs d r hlay ha qL=>?_⟩
 obtain ⟨v,vs1,rfl,⟨c1,l1,r1⟩,hnil⟩:=ha
 obtain rfl:vs1= []:=hnil
 obtain ⟨s0,un⟩:=d
 let s:ByteArray:=s0
 obtain rfl:c1= [v]:=l1
 obtain rfl:v= .string s:=(List.cons.inj r1).1
 intro w C hst
 have hst:St J w0 w C:=hst
 refine (h s r w qL (hlay w hst.2.1)).mono ?_
 rintro e w' ⟨rfl,hb⟩
 refine ⟨_,rfl,⟨_,rfl,rfl,fun i t ht=>?_⟩,?_⟩
 ·rcases i with _ | _ | i
  all_goals first | (obtain rfl:=ae ht;rfl) | cases ht
 ·exact D.St.free (R:=bd) (c:=[.int .i64 _]) (D.St.free (R:=ou) (c:=[.bool _]) (St.belowS hst hb) ⟨rfl,rfl⟩) ⟨rfl,rfl⟩
end
end R
namespace R
open Go.Shelf
def xQ:Go.Shelf.Ren:=⟨fun | 156=>194 | 165=>234 | 166=>235 | 169=>236 | 240=>272 | 241=>273 | 276=>312 | 277=>313 | n=>n,fun | 31=>205 | 9=>9 | 3=>3 | 4=>4 | 0=>0 | 20=>20 | 72=>252 | 76=>244 | 70=>250 | 37=>222 | 75=>243 | 127=>286 | 164=>317 | 5=>5 | 80=>254 | n=>n,fun | n=>n⟩
theorem RD:Go.Proofs.Lays.n156 Tryz.prog xQ:= {
 mixed:=by kernel_rfl
 f156:=Tryz.func194.trans (congrArg some (by kernel_rfl))
 f165:=Tryz.func234.trans (congrArg some (by kernel_rfl))
 f166:=Tryz.func235.trans (congrArg some (by kernel_rfl))
 f169:=Tryz.func236.trans (congrArg some (by kernel_rfl))
 f240:=Tryz.func272.trans (congrArg some (by kernel_rfl))
 f241:=Tryz.func273.trans (congrArg some (by kernel_rfl))
 f276:=Tryz.func312.trans (congrArg some (by kernel_rfl))
 f277:=Tryz.func313.trans (congrArg some (by kernel_rfl))
 t0:=Tryz.underlying0
 a0:=Tryz.isAgg0
 z0:=Tryz.sizeOf0
 v0:=Tryz.zeroValue0
 t3:=Tryz.underlying3
 a3:=Tryz.isAgg3
 z3:=Tryz.sizeOf3
 v3:=Tryz.zeroValue3
 t4:=Tryz.underlying4
 a4:=Tryz.isAgg4
 z4:=Tryz.sizeOf4
 v4:=Tryz.zeroValue4
 t9:=Tryz.underlying9
 a9:=Tryz.isAgg9
 z9:=Tryz.sizeOf9
 v9:=Tryz.zeroValue9
 t20:=Tryz.underlying20
 a20:=Tryz.isAgg20
 z20:=Tryz.sizeOf20
 v20:=Tryz.zeroValue20
 t31:=Tryz.underlying205
 a31:=Tryz.isAgg205
 z31:=Tryz.sizeOf205
 v31:=Tryz.zeroValue205
 t37:=Tryz.underlying222
 a37:=Tryz.isAgg222
 z37:=Tryz.sizeOf222
 v37:=Tryz.zeroValue222
 t70:=Tryz.underlying250
 a70:=Tryz.isAgg250
 z70:=Tryz.sizeOf250
 v70:=Tryz.zeroValue250
 t72:=Tryz.underlying252
 a72:=Tryz.isAgg252
 z72:=Tryz.sizeOf252
 v72:=Tryz.zeroValue252
 t75:=Tryz.underlying243
 a75:=Tryz.isAgg243
 z75:=Tryz.sizeOf243
 v75:=Tryz.zeroValue243
 t76:=Tryz.underlying244
 a76:=Tryz.isAgg244
 z76:=Tryz.sizeOf244
 v76:=Tryz.zeroValue244
 t127:=Tryz.underlying286
 a127:=Tryz.isAgg286
 z127:=Tryz.sizeOf286
 v127:=Tryz.zeroValue286
 t164:=Tryz.underlying317
 a164:=Tryz.isAgg317
 z164:=Tryz.sizeOf317
 v164:=Tryz.zeroValue317 }
def Gh:Go.Shelf.Ren:=⟨fun | 171=>195 | 243=>237 | 246=>274 | 283=>314 | 284=>315 | 285=>316 | 286=>317 | 129=>338 | 317=>337 | 318=>339 | 319=>340 | 320=>341 | 337=>352 | 338=>353 | n=>n,fun | 3=>3 | 9=>9 | 2=>2 | 4=>4 | 171=>320 | 0=>0 | 53=>321 | 37=>222 | 5=>5 | 173=>324 | 212=>343 | 51=>344 | 20=>20 | 213=>345 | 46=>295 | 232=>369 | 233=>370 | n=>n,fun | 17=>3 | 18=>6 | 19=>7 | n=>n⟩
theorem JW:Go.Proofs.LaysM.n171 Tryz.prog Gh:= {
 mixed:=by kernel_rfl
 f129:=Tryz.func338.trans (congrArg some (by kernel_rfl))
 f171:=Tryz.func195.trans (congrArg some (by kernel_rfl))
 f243:=Tryz.func237.trans (congrArg some (by kernel_rfl))
 f246:=Tryz.func274.trans (congrArg some (by kernel_rfl))
 f283:=Tryz.func314.trans (congrArg some (by kernel_rfl))
 f284:=Tryz.func315.trans (congrArg some (by kernel_rfl))
 f285:=Tryz.func316.trans (congrArg some (by kernel_rfl))
 f286:=Tryz.func317.trans (congrArg some (by kernel_rfl))
 f317:=Tryz.func337.trans (congrArg some (by kernel_rfl))
 f318:=Tryz.func339.trans (congrArg some (by kernel_rfl))
 f319:=Tryz.func340.trans (congrArg some (by kernel_rfl))
 f320:=Tryz.func341.trans (congrArg some (by kernel_rfl))
 f337:=Tryz.func352.trans (congrArg some (by kernel_rfl))
 f338:=Tryz.func353.trans (congrArg some (by kernel_rfl))
 t0:=Tryz.underlying0
 a0:=Tryz.isAgg0
 z0:=Tryz.sizeOf0
 v0:=Tryz.zeroValue0
 t2:=Tryz.underlying2
 a2:=Tryz.isAgg2
 z2:=Tryz.sizeOf2
 v2:=Tryz.zeroValue2
 t3:=Tryz.underlying3
 a3:=Tryz.isAgg3
 z3:=Tryz.sizeOf3
 v3:=Tryz.zeroValue3
 t4:=Tryz.underlying4
 a4:=Tryz.isAgg4
 z4:=Tryz.sizeOf4
 v4:=Tryz.zeroValue4
 t5:=Tryz.underlying5
 a5:=Tryz.isAgg5
 z5:=Tryz.sizeOf5
 v5:=Tryz.zeroValue5
 t9:=Tryz.underlying9
 a9:=Tryz.isAgg9
 z9:=Tryz.sizeOf9
 v9:=Tryz.zeroValue9
 t20:=Tryz.underlying20
 a20:=Tryz.isAgg20
 z20:=Tryz.sizeOf20
 v20:=Tryz.zeroValue20
 t37:=Tryz.underlying222
 a37:=Tryz.isAgg222
 z37:=Tryz.sizeOf222
 v37:=Tryz.zeroValue222
 t46:=Tryz.underlying295
 a46:=Tryz.isAgg295
 z46:=Tryz.sizeOf295
 v46:=Tryz.zeroValue295
 t51:=Tryz.underlying344
 a51:=Tryz.isAgg344
 z51:=Tryz.sizeOf344
 v51:=Tryz.zeroValue344
 t53:=Tryz.underlying321
 a53:=Tryz.isAgg321
 z53:=Tryz.sizeOf321
 v53:=Tryz.zeroValue321
 t171:=Tryz.underlying320
 a171:=Tryz.isAgg320
 z171:=Tryz.sizeOf320
 v171:=Tryz.zeroValue320
 t173:=Tryz.underlying324
 a173:=Tryz.isAgg324
 z173:=Tryz.sizeOf324
 v173:=Tryz.zeroValue324
 t212:=Tryz.underlying343
 a212:=Tryz.isAgg343
 z212:=Tryz.sizeOf343
 v212:=Tryz.zeroValue343
 t213:=Tryz.underlying345
 a213:=Tryz.isAgg345
 z213:=Tryz.sizeOf345
 t232:=Tryz.underlying369
 a232:=Tryz.isAgg369
 z232:=Tryz.sizeOf369
 v232:=Tryz.zeroValue369
 t233:=Tryz.underlying370
 a233:=Tryz.isAgg370
 z233:=Tryz.sizeOf370
 v233:=Tryz.zeroValue370
 g17:=by kernel_rfl
 g18:=by kernel_rfl
 g19:=by kernel_rfl
 i0:=by kernel_rfl
 i2:=by kernel_rfl
 i3:=by kernel_rfl
 i4:=by kernel_rfl
 i5:=by kernel_rfl
 i9:=by kernel_rfl
 i20:=by kernel_rfl
 i37:=by kernel_rfl
 i46:=by kernel_rfl
 i51:=by kernel_rfl
 i53:=by kernel_rfl
 i171:=by kernel_rfl
 i173:=by kernel_rfl
 i212:=by kernel_rfl
 i232:=by kernel_rfl
 i233:=by kernel_rfl
 m17:=by kernel_rfl
 m18:=by kernel_rfl
 m19:=by kernel_rfl }
def DP:Go.Shelf.Ren:=⟨fun | 146=>171 | 221=>225 | 268=>265 | 138=>266 | 143=>267 | 195=>302 | 197=>303 | 218=>304 | 219=>305 | 260=>330 | 217=>170 | 225=>331 | 224=>332 | 267=>333 | 266=>224 | 314=>349 | n=>n,fun | 9=>9 | 31=>205 | 3=>3 | 4=>4 | 0=>0 | 105=>309 | 21=>21 | 5=>5 | 46=>295 | 119=>354 | 139=>357 | 138=>356 | 146=>358 | 51=>344 | n=>n,fun | 1=>0 | 3=>4 | 4=>5 | n=>n⟩
theorem Ob:Go.Proofs.Lays.n146 Tryz.prog DP:= {
 mixed:=by kernel_rfl
 f138:=Tryz.func266.trans (congrArg some (by kernel_rfl))
 f143:=Tryz.func267.trans (congrArg some (by kernel_rfl))
 f146:=Tryz.func171.trans (congrArg some (by kernel_rfl))
 f195:=Tryz.func302.trans (congrArg some (by kernel_rfl))
 f197:=Tryz.func303.trans (congrArg some (by kernel_rfl))
 f217:=Tryz.func170.trans (congrArg some (by kernel_rfl))
 f218:=Tryz.func304.trans (congrArg some (by kernel_rfl))
 f219:=Tryz.func305.trans (congrArg some (by kernel_rfl))
 f221:=Tryz.func225.trans (congrArg some (by kernel_rfl))
 f224:=Tryz.func332.trans (congrArg some (by kernel_rfl))
 f225:=Tryz.func331.trans (congrArg some (by kernel_rfl))
 f260:=Tryz.func330.trans (congrArg some (by kernel_rfl))
 f266:=Tryz.func224.trans (congrArg some (by kernel_rfl))
 f267:=Tryz.func333.trans (congrArg some (by kernel_rfl))
 f268:=Tryz.func265.trans (congrArg some (by kernel_rfl))
 f314:=Tryz.func349.trans (congrArg some (by kernel_rfl))
 t0:=Tryz.underlying0
 a0:=Tryz.isAgg0
 z0:=Tryz.sizeOf0
 v0:=Tryz.zeroValue0
 t3:=Tryz.underlying3
 a3:=Tryz.isAgg3
 z3:=Tryz.sizeOf3
 v3:=Tryz.zeroValue3
 t4:=Tryz.underlying4
 a4:=Tryz.isAgg4
 z4:=Tryz.sizeOf4
 v4:=Tryz.zeroValue4
 t5:=Tryz.underlying5
 a5:=Tryz.isAgg5
 z5:=Tryz.sizeOf5
 v5:=Tryz.zeroValue5
 t9:=Tryz.underlying9
 a9:=Tryz.isAgg9
 z9:=Tryz.sizeOf9
 v9:=Tryz.zeroValue9
 t21:=Tryz.underlying21
 a21:=Tryz.isAgg21
 z21:=Tryz.sizeOf21
 v21:=Tryz.zeroValue21
 t31:=Tryz.underlying205
 a31:=Tryz.isAgg205
 z31:=Tryz.sizeOf205
 v31:=Tryz.zeroValue205
 t46:=Tryz.underlying295
 a46:=Tryz.isAgg295
 z46:=Tryz.sizeOf295
 v46:=Tryz.zeroValue295
 t51:=Tryz.underlying344
 a51:=Tryz.isAgg344
 z51:=Tryz.sizeOf344
 v51:=Tryz.zeroValue344
 t105:=Tryz.underlying309
 a105:=Tryz.isAgg309
 z105:=Tryz.sizeOf309
 v105:=Tryz.zeroValue309
 t119:=Tryz.underlying354
 a119:=Tryz.isAgg354
 z119:=Tryz.sizeOf354
 t138:=Tryz.underlying356
 a138:=Tryz.isAgg356
 z138:=Tryz.sizeOf356
 v138:=Tryz.zeroValue356
 t139:=Tryz.underlying357
 a139:=Tryz.isAgg357
 z139:=Tryz.sizeOf357
 v139:=Tryz.zeroValue357
 t146:=Tryz.underlying358
 a146:=Tryz.isAgg358
 z146:=Tryz.sizeOf358
 v146:=Tryz.zeroValue358
 g1:=by kernel_rfl
 g3:=by kernel_rfl
 g4:=by kernel_rfl }
def H4:Go.Shelf.Ren:=⟨fun | 145=>270 | 220=>311 | 219=>305 | 217=>170 | 225=>331 | 224=>332 | 267=>333 | 266=>224 | 314=>349 | n=>n,fun | 9=>9 | 4=>4 | 59=>284 | 3=>3 | 5=>5 | 46=>295 | 146=>358 | 51=>344 | n=>n,fun | 1=>0 | n=>n⟩
theorem VL:Go.Proofs.Lays.n145 Tryz.prog H4:= {
 mixed:=by kernel_rfl
 f145:=Tryz.func270.trans (congrArg some (by kernel_rfl))
 f217:=Tryz.func170.trans (congrArg some (by kernel_rfl))
 f219:=Tryz.func305.trans (congrArg some (by kernel_rfl))
 f220:=Tryz.func311.trans (congrArg some (by kernel_rfl))
 f224:=Tryz.func332.trans (congrArg some (by kernel_rfl))
 f225:=Tryz.func331.trans (congrArg some (by kernel_rfl))
 f266:=Tryz.func224.trans (congrArg some (by kernel_rfl))
 f267:=Tryz.func333.trans (congrArg some (by kernel_rfl))
 f314:=Tryz.func349.trans (congrArg some (by kernel_rfl))
 t3:=Tryz.underlying3
 a3:=Tryz.isAgg3
 z3:=Tryz.sizeOf3
 v3:=Tryz.zeroValue3
 t4:=Tryz.underlying4
 a4:=Tryz.isAgg4
 z4:=Tryz.sizeOf4
 v4:=Tryz.zeroValue4
 t5:=Tryz.underlying5
 a5:=Tryz.isAgg5
 z5:=Tryz.sizeOf5
 v5:=Tryz.zeroValue5
 t9:=Tryz.underlying9
 a9:=Tryz.isAgg9
 z9:=Tryz.sizeOf9
 v9:=Tryz.zeroValue9
 t46:=Tryz.underlying295
 a46:=Tryz.isAgg295
 z46:=Tryz.sizeOf295
 v46:=Tryz.zeroValue295
 t51:=Tryz.underlying344
 a51:=Tryz.isAgg344
 z51:=Tryz.sizeOf344
 v51:=Tryz.zeroValue344
 t59:=Tryz.underlying284
 a59:=Tryz.isAgg284
 z59:=Tryz.sizeOf284
 v59:=Tryz.zeroValue284
 t146:=Tryz.underlying358
 a146:=Tryz.isAgg358
 z146:=Tryz.sizeOf358
 v146:=Tryz.zeroValue358
 g1:=by kernel_rfl }
def w5:Go.Shelf.Ren:=⟨fun | 137=>112 | 217=>170 | 266=>224 | n=>n,fun | 9=>9 | 5=>5 | 3=>3 | n=>n,fun | n=>n⟩
theorem DQ:Go.Proofs.Lays.n137 Tryz.prog w5:= {
 mixed:=by kernel_rfl
 f137:=Tryz.func112.trans (congrArg some (by kernel_rfl))
 f217:=Tryz.func170.trans (congrArg some (by kernel_rfl))
 f266:=Tryz.func224.trans (congrArg some (by kernel_rfl))
 t3:=Tryz.underlying3
 a3:=Tryz.isAgg3
 z3:=Tryz.sizeOf3
 v3:=Tryz.zeroValue3
 t5:=Tryz.underlying5
 a5:=Tryz.isAgg5
 z5:=Tryz.sizeOf5
 v5:=Tryz.zeroValue5
 t9:=Tryz.underlying9
 a9:=Tryz.isAgg9
 z9:=Tryz.sizeOf9
 v9:=Tryz.zeroValue9 }
def Gi:Go.Shelf.Ren:=⟨fun | 172=>226 | 244=>268 | 245=>269 | 247=>306 | 279=>307 | 280=>308 | 281=>309 | 282=>310 | 287=>334 | 316=>335 | 171=>195 | 205=>336 | 321=>350 | 322=>351 | 243=>237 | 246=>274 | 283=>314 | 284=>315 | 285=>316 | 286=>317 | 129=>338 | 317=>337 | 318=>339 | 319=>340 | 320=>341 | 337=>352 | 338=>353 | n=>n,fun | 9=>9 | 3=>3 | 75=>243 | 76=>244 | 4=>4 | 5=>5 | 167=>311 | 37=>222 | 0=>0 | 85=>312 | 2=>2 | 168=>314 | 53=>321 | 175=>336 | 46=>295 | 210=>340 | 127=>286 | 145=>364 | 143=>362 | 21=>21 | 171=>320 | 173=>324 | 212=>343 | 51=>344 | 20=>20 | 213=>345 | 232=>369 | 233=>370 | 80=>254 | n=>n,fun | 15=>1 | 16=>2 | 17=>3 | 18=>6 | 19=>7 | n=>n⟩
theorem JX:Go.Proofs.LaysC.n172 Tryz.prog Gi:= {
 mixed:=by kernel_rfl
 f129:=Tryz.func338.trans (congrArg some (by kernel_rfl))
 f171:=Tryz.func195.trans (congrArg some (by kernel_rfl))
 f172:=Tryz.func226.trans (congrArg some (by kernel_rfl))
 f205:=Tryz.func336.trans (congrArg some (by kernel_rfl))
 f243:=Tryz.func237.trans (congrArg some (by kernel_rfl))
 f244:=Tryz.func268.trans (congrArg some (by kernel_rfl))
 f245:=Tryz.func269.trans (congrArg some (by kernel_rfl))
 f246:=Tryz.func274.trans (congrArg some (by kernel_rfl))
 f247:=Tryz.func306.trans (congrArg some (by kernel_rfl))
 f279:=Tryz.func307.trans (congrArg some (by kernel_rfl))
 f280:=Tryz.func308.trans (congrArg some (by kernel_rfl))
 f281:=Tryz.func309.trans (congrArg some (by kernel_rfl))
 f282:=Tryz.func310.trans (congrArg some (by kernel_rfl))
 f283:=Tryz.func314.trans (congrArg some (by kernel_rfl))
 f284:=Tryz.func315.trans (congrArg some (by kernel_rfl))
 f285:=Tryz.func316.trans (congrArg some (by kernel_rfl))
 f286:=Tryz.func317.trans (congrArg some (by kernel_rfl))
 f287:=Tryz.func334.trans (congrArg some (by kernel_rfl))
 f316:=Tryz.func335.trans (congrArg some (by kernel_rfl))
 f317:=Tryz.func337.trans (congrArg some (by kernel_rfl))
 f318:=Tryz.func339.trans (congrArg some (by kernel_rfl))
 f319:=Tryz.func340.trans (congrArg some (by kernel_rfl))
 f320:=Tryz.func341.trans (congrArg some (by kernel_rfl))
 f321:=Tryz.func350.trans (congrArg some (by kernel_rfl))
 f322:=Tryz.func351.trans (congrArg some (by kernel_rfl))
 f337:=Tryz.func352.trans (congrArg some (by kernel_rfl))
 f338:=Tryz.func353.trans (congrArg some (by kernel_rfl))
 t0:=Tryz.underlying0
 a0:=Tryz.isAgg0
 z0:=Tryz.sizeOf0
 v0:=Tryz.zeroValue0
 t2:=Tryz.underlying2
 a2:=Tryz.isAgg2
 z2:=Tryz.sizeOf2
 v2:=Tryz.zeroValue2
 t3:=Tryz.underlying3
 a3:=Tryz.isAgg3
 z3:=Tryz.sizeOf3
 v3:=Tryz.zeroValue3
 t4:=Tryz.underlying4
 a4:=Tryz.isAgg4
 z4:=Tryz.sizeOf4
 v4:=Tryz.zeroValue4
 t5:=Tryz.underlying5
 a5:=Tryz.isAgg5
 z5:=Tryz.sizeOf5
 v5:=Tryz.zeroValue5
 t9:=Tryz.underlying9
 a9:=Tryz.isAgg9
 z9:=Tryz.sizeOf9
 v9:=Tryz.zeroValue9
 t20:=Tryz.underlying20
 a20:=Tryz.isAgg20
 z20:=Tryz.sizeOf20
 v20:=Tryz.zeroValue20
 t21:=Tryz.underlying21
 a21:=Tryz.isAgg21
 z21:=Tryz.sizeOf21
 v21:=Tryz.zeroValue21
 t37:=Tryz.underlying222
 a37:=Tryz.isAgg222
 z37:=Tryz.sizeOf222
 v37:=Tryz.zeroValue222
 t46:=Tryz.underlying295
 a46:=Tryz.isAgg295
 z46:=Tryz.sizeOf295
 v46:=Tryz.zeroValue295
 t51:=Tryz.underlying344
 a51:=Tryz.isAgg344
 z51:=Tryz.sizeOf344
 v51:=Tryz.zeroValue344
 t53:=Tryz.underlying321
 a53:=Tryz.isAgg321
 z53:=Tryz.sizeOf321
 v53:=Tryz.zeroValue321
 t75:=Tryz.underlying243
 a75:=Tryz.isAgg243
 z75:=Tryz.sizeOf243
 v75:=Tryz.zeroValue243
 t76:=Tryz.underlying244
 a76:=Tryz.isAgg244
 z76:=Tryz.sizeOf244
 v76:=Tryz.zeroValue244
 t85:=Tryz.underlying312
 a85:=Tryz.isAgg312
 z85:=Tryz.sizeOf312
 v85:=Tryz.zeroValue312
 t127:=Tryz.underlying286
 a127:=Tryz.isAgg286
 z127:=Tryz.sizeOf286
 v127:=Tryz.zeroValue286
 t143:=Tryz.underlying362
 a143:=Tryz.isAgg362
 z143:=Tryz.sizeOf362
 v143:=Tryz.zeroValue362
 t145:=Tryz.underlying364
 a145:=Tryz.isAgg364
 z145:=Tryz.sizeOf364
 v145:=Tryz.zeroValue364
 t167:=Tryz.underlying311
 a167:=Tryz.isAgg311
 z167:=Tryz.sizeOf311
 v167:=Tryz.zeroValue311
 t168:=Tryz.underlying314
 a168:=Tryz.isAgg314
 z168:=Tryz.sizeOf314
 v168:=Tryz.zeroValue314
 t171:=Tryz.underlying320
 a171:=Tryz.isAgg320
 z171:=Tryz.sizeOf320
 v171:=Tryz.zeroValue320
 t173:=Tryz.underlying324
 a173:=Tryz.isAgg324
 z173:=Tryz.sizeOf324
 v173:=Tryz.zeroValue324
 t175:=Tryz.underlying336
 a175:=Tryz.isAgg336
 z175:=Tryz.sizeOf336
 v175:=Tryz.zeroValue336
 t210:=Tryz.underlying340
 a210:=Tryz.isAgg340
 z210:=Tryz.sizeOf340
 v210:=Tryz.zeroValue340
 t212:=Tryz.underlying343
 a212:=Tryz.isAgg343
 z212:=Tryz.sizeOf343
 v212:=Tryz.zeroValue343
 t213:=Tryz.underlying345
 a213:=Tryz.isAgg345
 z213:=Tryz.sizeOf345
 t232:=Tryz.underlying369
 a232:=Tryz.isAgg369
 z232:=Tryz.sizeOf369
 v232:=Tryz.zeroValue369
 t233:=Tryz.underlying370
 a233:=Tryz.isAgg370
 z233:=Tryz.sizeOf370
 v233:=Tryz.zeroValue370
 g15:=by kernel_rfl
 g16:=by kernel_rfl
 g17:=by kernel_rfl
 g18:=by kernel_rfl
 g19:=by kernel_rfl
 t80:=Tryz.underlying254
 a80:=Tryz.isAgg254
 z80:=Tryz.sizeOf254
 v80:=Tryz.zeroValue254
 i0:=by kernel_rfl
 i2:=by kernel_rfl
 i3:=by kernel_rfl
 i4:=by kernel_rfl
 i5:=by kernel_rfl
 i9:=by kernel_rfl
 i20:=by kernel_rfl
 i21:=by kernel_rfl
 i37:=by kernel_rfl
 i46:=by kernel_rfl
 i51:=by kernel_rfl
 i53:=by kernel_rfl
 i75:=by kernel_rfl
 i76:=by kernel_rfl
 i80:=by kernel_rfl
 i85:=by kernel_rfl
 i127:=by kernel_rfl
 i143:=by kernel_rfl
 i145:=by kernel_rfl
 i167:=by kernel_rfl
 i168:=by kernel_rfl
 i171:=by kernel_rfl
 i173:=by kernel_rfl
 i175:=by kernel_rfl
 i210:=by kernel_rfl
 i212:=by kernel_rfl
 i232:=by kernel_rfl
 i233:=by kernel_rfl
 m15:=by kernel_rfl
 m16:=by kernel_rfl
 m17:=by kernel_rfl
 m18:=by kernel_rfl
 m19:=by kernel_rfl
 c0:=by kernel_rfl
 c2:=by kernel_rfl
 c3:=by kernel_rfl
 c4:=by kernel_rfl
 c5:=by kernel_rfl
 c9:=by kernel_rfl
 c20:=by kernel_rfl
 c21:=by kernel_rfl
 c37:=by kernel_rfl
 c46:=by kernel_rfl
 c51:=by kernel_rfl
 c53:=by kernel_rfl
 c75:=by kernel_rfl
 c76:=by kernel_rfl
 c80:=by kernel_rfl
 c85:=by kernel_rfl
 c127:=by kernel_rfl
 c143:=by kernel_rfl
 c145:=by kernel_rfl
 c167:=by kernel_rfl
 c168:=by kernel_rfl
 c171:=by kernel_rfl
 c173:=by kernel_rfl
 c175:=by kernel_rfl
 c210:=by kernel_rfl
 c212:=by kernel_rfl
 c213:=by kernel_rfl
 c232:=by kernel_rfl
 c233:=by kernel_rfl }
theorem Oc:Go.Proofs.Builder.Extra Tryz.prog xQ where
 sizeBuilder:=by kernel_rfl
 liesBuilder:=by kernel_rfl
 t5:=Tryz.underlying5
 a5:=Tryz.isAgg5
 z5:=Tryz.sizeOf5
 v5:=Tryz.zeroValue5
 infoByte:=by kernel_rfl
 cellsByte:=by kernel_rfl
 sizeByte:=by kernel_rfl
 neB5:=by decide
end R
namespace R
open Go.RowKit
open D
def FldAll (P:Program) (T:TypeId):Nat->List (Nat×Nat)->Prop
 | _,[] =>True
 | i,q::l=>TF P T i q.1 q.2/\FldAll P T (i+1) l
theorem FldAll.get {P:Program} {T:TypeId} : ∀ {l:List (Nat×Nat)} {i:Nat},FldAll P T i l-> ∀f q,l[f]? =some q->TF P T (i+f) q.1 q.2
 | [],_,_,f,q,h=>by simp at h
 | x::l,i,⟨h1,h2⟩,f,q,h=>by
  cases f with
  | zero=>simp at h;subst h;exact h1
  | succ f =>
   have:=FldAll.get h2 f q (by simpa using h)
   rwa [show i+1+f=i+(f+1) from by omega] at this
section
variable {P:Program} {T:TypeId}
theorem uA {n b:Nat} {ty:Ty} {z:Value} {boo:Bool} {ik:Option (Option IntKind)} (h1:TI P T false 1) (h2:ty.size=1) (h3:TZ P T z 1 b) (h4:z.cells=(zeroCells ty).toArray) (h5:1<=b) (h6:boo=true->P.underlying T=some .bool) (h7: ∀k,ik=some k->P.underlying T=some (ikD k)):TDok P T ⟨false,1,none,ty,[],some b,none,boo,none,none,ik,false,none⟩:=
 ⟨h1,rfl,h2,fun E h=>by simp at h,fun f q h=>by simp at h,fun b' h=>by obtain rfl:=ae h;exact ⟨z,h3,h4,h5⟩,fun pl h=>by simp at h,h6,(fun ks h=>by cases h),(fun m h=>by cases h),h7,(fun h=>by cases h),fun e h=>by cases h⟩
theorem o0 {E:TypeId} {t:Ty} (h1:TI P T false 1) (h2:P.underlying T=some (.slice E)) (h3:TZ P T (.slice none 0 0) 1 24):TDok P T ⟨false,1,some E,.sl E t,[],some 24,none,false,none,none,none,false,none⟩:=
 ⟨h1,rfl,rfl,fun E' h=>by obtain rfl:=ae h;exact h2,fun f q h=>by simp at h,fun b' h=>by obtain rfl:=ae h;exact ⟨_,h3,rfl,by decide⟩,fun pl h=>by simp at h,(fun h=>by cases h),(fun ks h=>by cases h),(fun m h=>by cases h),(fun k h=>by cases h),(fun h=>by cases h),fun e h=>by cases h⟩
theorem k8 {n b:Nat} {ty:Ty} {fs pl:List (Nat×Nat)} {z:Value} {eq:Option (List (Option IntKind))} (h1:TI P T true n) (h2:ty.size=n) (h3:FldAll P T 0 fs) (h4:TZ P T z n b) (h5:z.cells=(zeroCells ty).toArray) (h6:1<=b) (h7:TB P T pl) (h8: ∀ks,eq=some ks-> ∀w,Curq ks fun xs ys r=>EqT P T (.agg xs.toArray) (.agg ys.toArray) r w):TDok P T ⟨true,n,none,ty,fs,some b,some pl,false,eq,none,none,false,none⟩:=
 ⟨h1,rfl,h2,fun E h=>by simp at h,fun f q h=>by have:=h3.get f q h;rwa [Nat.zero_add] at this,fun b' h=>by obtain rfl:=ae h;exact ⟨z,h4,h5,h6⟩,fun pl' h=>by obtain rfl:=ae h;exact h7,(fun h=>by cases h),h8,(fun m h=>by cases h),(fun k h=>by cases h),(fun h=>by cases h),fun e h=>by cases h⟩
theorem Am {ty:Ty} {b:Nat} (h1:TI P T false 1) (h2:ty.size=1) (h3:TZ P T .nilFunc 1 b):TDok P T ⟨false,1,none,ty,[],none,none,false,none,none,none,true,none⟩:=
 ⟨h1,rfl,h2,fun E h=>by simp at h,fun f q h=>by simp at h,(fun b' h=>by cases h),(fun pl h=>by cases h),(fun h=>by cases h),(fun ks h=>by cases h),(fun m' h=>by cases h),(fun k h=>by cases h),(fun _=>⟨b,h3⟩),fun e h=>by cases h⟩
theorem YT {m:MD} {ty:Ty} (h1:TI P T false 1) (h2:ty.size=1) (h3:MDok P T m):TDok P T ⟨false,1,none,ty,[],none,none,false,none,some m,none,false,none⟩:=
 ⟨h1,rfl,h2,fun E h=>by simp at h,fun f q h=>by simp at h,(fun b' h=>by cases h),(fun pl h=>by cases h),(fun h=>by cases h),(fun ks h=>by cases h),(fun m' h=>by obtain rfl:=ae h;exact h3),(fun k h=>by cases h),(fun h=>by cases h),fun e h=>by cases h⟩
theorem YU {e E:TypeId} {u:Ty} (h1:TI P T false 1) (h2:P.underlying T=some (.pointer e)) (h3:TZ P T (.pointer none) 1 8):TDok P T ⟨false,1,none,.fro (.tree e E u),[],some 8,none,false,none,none,none,false,some e⟩:=
 ⟨h1,rfl,rfl,fun E' h=>by simp at h,fun f q h=>by simp at h,fun b' h=>by obtain rfl:=ae h;exact ⟨_,h3,rfl,by decide⟩,fun pl h=>by simp at h,(fun h=>by cases h),(fun ks h=>by cases h),(fun m h=>by cases h),(fun k h=>by cases h),(fun h=>by cases h),fun e' h=>by obtain rfl:=ae h;exact h2⟩
end
end R
namespace D
open Go.RowKit
abbrev Yq4:Type:=(Int×Int×Int×Int)
abbrev Yq1:Type:=(List Yq4)
abbrev Yq2:Type:=(Int×(List Bool)×(List (List Int)))
abbrev Yq9:Type:=(Int×(Yq1)×Int)
abbrev Yq3:Type:=(List Yq9)
abbrev EN:Type:=((List Int)×Yq1)
abbrev Yq5:Type:=(List EN)
abbrev Yq6:Type:=(Bool×Int×Int×Int×Int)
abbrev Yq7:Type:=(Int×Int×Int)
abbrev Yq8:Type:=((List Yq2)×Yq3)
abbrev PL:Type:=((List Int)×Int×Int×(List Int)×Bool)
abbrev zg:Type:=(Out Int (Int×Int))
abbrev Ww:Type:=((Int×Yq5)×Yq8×(List Yq7)×ByteArray)
abbrev PN:Type:=(Int×(List Yq2)×Yq3)
abbrev YV:Type:=((List (Int×(List Bool)×List (List Int)))×List (Int×Yq1×Int))
def sW (p0a:List Int) (p1left:Int):Option Int:=
 if decide (IntKind.i64.wrap (p1left - (p0a.length:Int))<0) then (some (-1)) else (some (IntKind.i64.wrap (p1left - (p0a.length:Int))))
def uB (p0a:List Yq4) (p1left:Int):Option Int:=
 if decide (IntKind.i64.wrap (p1left - (p0a.length:Int))<0) then (some (-1)) else (some (IntKind.i64.wrap (p1left - (p0a.length:Int))))
def qe (p0a:(List Int)×Yq1) (p1left:Int):Option Int:=
 (sW p0a.1 p1left).bind fun r1=>if decide (r1<0) then (some (-1)) else ((uB p0a.2 r1).bind fun r2=>if decide (r2<0) then (some (-1)) else (some r2))
def kz (p0a:List EN) (s3:Int×Int):Option zg:=
 if decide (s3.2<(p0a.length:Int)) then ((aQ p0a s3.2).bind fun x3=>(qe (x3.1,x3.2) s3.1).bind fun r9=>if decide (r9<0) then (some (.ret (-1))) else (some (.nxt (r9,IntKind.i64.wrap (s3.2+1))))) else (some (.brk (s3.1,s3.2)))
def rP (p0a:List EN) (p1left:Int):Option Int:=
 if decide (IntKind.i64.wrap (p1left - (p0a.length:Int))<0) then (some (-1)) else (aP (ax (kz p0a) aW (IntKind.i64.wrap (p1left - (p0a.length:Int)),0)) (fun r=>some r) (fun s4=>some s4.1))
def mT (p0a:Int×Yq5) (p1left:Int):Option Int:=
 (rP p0a.2 p1left).bind fun r1=>if decide (r1<0) then (some (-1)) else (some r1)
def uC (p0a:List Bool) (p1left:Int):Option Int:=
 if decide (IntKind.i64.wrap (p1left - (p0a.length:Int))<0) then (some (-1)) else (some (IntKind.i64.wrap (p1left - (p0a.length:Int))))
def lK (p0a:List (List Int)) (s3:Int×Int):Option zg:=
 if decide (s3.2<(p0a.length:Int)) then ((aQ p0a s3.2).bind fun x3=>(sW x3 s3.1).bind fun r6=>if decide (r6<0) then (some (.ret (-1))) else (some (.nxt (r6,IntKind.i64.wrap (s3.2+1))))) else (some (.brk (s3.1,s3.2)))
def uD (p0a:List (List Int)) (p1left:Int):Option Int:=
 if decide (IntKind.i64.wrap (p1left - (p0a.length:Int))<0) then (some (-1)) else (aP (ax (lK p0a) aW (IntKind.i64.wrap (p1left - (p0a.length:Int)),0)) (fun r=>some r) (fun s4=>some s4.1))
def kA (p0a:Int×(List Bool)×(List (List Int))) (p1left:Int):Option Int:=
 (uC p0a.2.1 p1left).bind fun r1=>if decide (r1<0) then (some (-1)) else ((uD p0a.2.2 r1).bind fun r2=>if decide (r2<0) then (some (-1)) else (some r2))
def gb (p0a:List Yq2) (s3:Int×Int):Option zg:=
 if decide (s3.2<(p0a.length:Int)) then ((aQ p0a s3.2).bind fun x3=>(kA (x3.1,x3.2.1,x3.2.2) s3.1).bind fun r9=>if decide (r9<0) then (some (.ret (-1))) else (some (.nxt (r9,IntKind.i64.wrap (s3.2+1))))) else (some (.brk (s3.1,s3.2)))
def mF (p0a:List Yq2) (p1left:Int):Option Int:=
 if decide (IntKind.i64.wrap (p1left - (p0a.length:Int))<0) then (some (-1)) else (aP (ax (gb p0a) aW (IntKind.i64.wrap (p1left - (p0a.length:Int)),0)) (fun r=>some r) (fun s4=>some s4.1))
def rQ (p0a:List Yq4) (p1left:Int):Option Int:=
 if decide (IntKind.i64.wrap (p1left - (p0a.length:Int))<0) then (some (-1)) else (some (IntKind.i64.wrap (p1left - (p0a.length:Int))))
def sX (p0a:Yq1) (p1left:Int):Option Int:=
 (rQ p0a p1left).bind fun r1=>if decide (r1<0) then (some (-1)) else (some r1)
def jt (p0a:Int×(Yq1)×Int) (p1left:Int):Option Int:=
 (sX p0a.2.1 p1left).bind fun r1=>if decide (r1<0) then (some (-1)) else (some r1)
def fu (p0a:List Yq9) (s3:Int×Int):Option zg:=
 if decide (s3.2<(p0a.length:Int)) then ((aQ p0a s3.2).bind fun x3=>(jt (x3.1,x3.2.1,x3.2.2) s3.1).bind fun r6=>if decide (r6<0) then (some (.ret (-1))) else (some (.nxt (r6,IntKind.i64.wrap (s3.2+1))))) else (some (.brk (s3.1,s3.2)))
def ln (p0a:List Yq9) (p1left:Int):Option Int:=
 if decide (IntKind.i64.wrap (p1left - (p0a.length:Int))<0) then (some (-1)) else (aP (ax (fu p0a) aW (IntKind.i64.wrap (p1left - (p0a.length:Int)),0)) (fun r=>some r) (fun s4=>some s4.1))
def lL (p0a:(List Yq2)×Yq3) (p1left:Int):Option Int:=
 (mF p0a.1 p1left).bind fun r1=>if decide (r1<0) then (some (-1)) else ((ln p0a.2 r1).bind fun r2=>if decide (r2<0) then (some (-1)) else (some r2))
def lp (p0a:List Yq7) (p1left:Int):Option Int:=
 if decide (IntKind.i64.wrap (p1left - (p0a.length:Int))<0) then (some (-1)) else (some (IntKind.i64.wrap (p1left - (p0a.length:Int))))
def oE (p0a:(Int×Yq5)×Yq8×(List Yq7)×ByteArray) (p1left:Int):Option Int:=
 (mT (p0a.1.1,p0a.1.2) p1left).bind fun r1=>if decide (r1<0) then (some (-1)) else ((lL (p0a.2.1.1,p0a.2.1.2) r1).bind fun r2=>if decide (r2<0) then (some (-1)) else ((lp p0a.2.2.1 r2).bind fun r3=>if decide (r3<0) then (some (-1)) else (if decide (IntKind.i64.wrap (r3 - (p0a.2.2.2.size:Int))<0) then (some (-1)) else (some (IntKind.i64.wrap (r3 - (p0a.2.2.2.size:Int)))))))
def cS (p0x:Int) (p1low:Int) (p2high:Int):Option Bool:=
 if decide (p0x≥p1low) then (some (decide (p0x<=p2high))) else (some false)
def CB (p0g:(List Int)×Yq1) (p1e:Int×Int×Int×Int):Option Bool:=
 (cS p1e.1 1 99).bind fun r1=>if r1 then ((cS p1e.2.1 0 (IntKind.i64.wrap ((p0g.1.length:Int) - 1))).bind fun r2=>if r2 then ((cS p1e.2.2.1 0 (IntKind.i64.wrap ((p0g.1.length:Int) - 1))).bind fun r3=>if r3 then ((cS p1e.2.2.2 0 2).bind fun r4=>some r4) else (some false)) else (some false)) else (some false)
def nG (p0g:(List Int)×Yq1) (s3:Int):Option (Out Bool Int):=
 if decide (s3<(p0g.1.length:Int)) then ((aQ p0g.1 s3).bind fun x3=>(cS x3 0 2).bind fun r3=>if r3 then (some (.nxt (IntKind.i64.wrap (s3+1)))) else (some (.ret false))) else (some (.brk s3))
def jS (p0g:(List Int)×Yq1) (s7:Int):Option (Out Bool Int):=
 if decide (s7<(p0g.2.length:Int)) then ((aQ p0g.2 s7).bind fun x10=>(CB (p0g.1,p0g.2) (x10.1,x10.2.1,x10.2.2.1,x10.2.2.2)).bind fun r6=>if r6 then (if decide (s7>0) then ((aQ p0g.2 (IntKind.i64.wrap (s7 - 1))).bind fun x11=>(aQ p0g.2 s7).bind fun x12=>if decide (x11.1≥x12.1) then (some (.ret false)) else (some (.nxt (IntKind.i64.wrap (s7+1))))) else (some (.nxt (IntKind.i64.wrap (s7+1))))) else (some (.ret false))) else (some (.brk s7))
def gD (p0g:(List Int)×Yq1):Option Bool:=
 aP (ax (nG p0g) aW 0) (fun r=>some r) (fun s4=>aP (ax (jS p0g) aW 0) (fun r=>some r) (fun s8=>(cS (p0g.1.length:Int) 1 5).bind fun r7=>if r7 then (some (decide ((p0g.2.length:Int)<=12))) else (some false)))
def oF (p0a:List Int) (p1b:List Int) (s3:Int):Option (Out Int Int):=
 if decide (s3<(p0a.length:Int)) then (if decide (s3<(p1b.length:Int)) then ((aQ p0a s3).bind fun x9=>(aQ p1b s3).bind fun x10=>if decide (x9<x10) then (some (.ret (-1))) else ((aQ p0a s3).bind fun x11=>(aQ p1b s3).bind fun x12=>if decide (x11>x12) then (some (.ret 1)) else (some (.nxt (IntKind.i64.wrap (s3+1)))))) else (some (.brk s3))) else (some (.brk s3))
def nH (p0a:List Int) (p1b:List Int):Option Int:=
 aP (ax (oF p0a p1b) aW 0) (fun r=>some r) (fun s4=>if decide ((p0a.length:Int)<(p1b.length:Int)) then (some (-1)) else (if decide ((p0a.length:Int)>(p1b.length:Int)) then (some 1) else (some 0)))
def eT (p0h:Int×Yq5) (s3:Int):Option (Out Bool Int):=
 if decide (s3<(p0h.2.length:Int)) then ((aQ p0h.2 s3).bind fun x7=>(gD (x7.1,x7.2)).bind fun r15=>if r15 then ((aQ p0h.2 s3).bind fun x8=>(aQ p0h.2 0).bind fun x9=>(nH x8.1 x9.1).bind fun r18=>if r18 !=0 then (some (.ret false)) else (some (.nxt (IntKind.i64.wrap (s3+1))))) else (some (.ret false))) else (some (.brk s3))
def m_s_IsValidHistory (p0h:Int×Yq5):Option Bool:=
 aP (ax (eT p0h) aW 0) (fun r=>some r) (fun s4=>(cS (p0h.2.length:Int) 1 8).bind fun r19=>if r19 then ((cS p0h.1 1 (IntKind.i64.wrap ((IntKind.i64.wrap (999 - (p0h.2.length:Int)))+1))).bind fun r20=>some r20) else (some false))
def mg (p0n:Int):Option Bool:=
 (cS p0n 0 8).bind fun r1=>some r1
def nI (p0:Int×Int×Int×Int):Option Int:=
 Option.bind ((if p0.1==1 then (some (p0.1==1)) else (some (p0.1==2)):Option Bool)) (fun s1=>if s1 then (if p0.2.1 !=0 then (some (-1)) else (if p0.2.2.1 !=0 then (some (-1)) else (if p0.2.2.2 !=0 then (some (-1)) else (some 0)))) else (if p0.1==3 then ((mg p0.2.1).bind fun r3=>if r3 then (if p0.2.2.1 !=0 then (some (-1)) else (if p0.2.2.2 !=0 then (some (-1)) else (some 0))) else (some (-1))) else (Option.bind ((if p0.1==4 then (some (p0.1==4)) else (some (p0.1==5)):Option Bool)) (fun s2=>if s2 then (if p0.2.1 !=0 then (some (-1)) else (if p0.2.2.1 !=0 then (some (-1)) else (if p0.2.2.2 !=0 then (some (-1)) else (some 2)))) else (if p0.1==6 then (if p0.2.1 !=0 then (some (-1)) else (if p0.2.2.1 !=0 then (some (-1)) else (if p0.2.2.2 !=0 then (some (-1)) else (some 1)))) else (if p0.1==7 then (if p0.2.1 !=0 then (some (-1)) else ((cS p0.2.2.2 1 3).bind fun r1=>if r1 then ((cS p0.2.2.1 0 p0.2.2.2).bind fun r2=>if r2 then (some 1) else (some (-1))) else (some (-1)))) else (some (-1))))))))
def qf (p0e:Yq1) (s3:Int×Int):Option (Out Bool (Int×Int)):=
 if decide (s3.2<(p0e.length:Int)) then ((aQ p0e s3.2).bind fun x3=>(nI (x3.1,x3.2.1,x3.2.2.1,x3.2.2.2)).bind fun r3=>if decide (r3<0) then (some (.ret false)) else (if decide (r3>s3.1) then (some (.ret false)) else (some (.nxt (IntKind.i64.wrap ((IntKind.i64.wrap (s3.1 - r3))+1),IntKind.i64.wrap (s3.2+1)))))) else (some (.brk (s3.1,s3.2)))
def sY (p0e:Yq1):Option Bool:=
 aP (ax (qf p0e) aW (0,0)) (fun r=>some r) (fun s4=>some (s4.1==1))
def kB (p0e:Yq1):Option Bool:=
 if decide ((p0e.length:Int)<=24) then ((sY p0e).bind fun r1=>some r1) else (some false)
def lM (p0l:List Yq4) (s3:Int×Int):Option zg:=
 if decide (s3.1>0) then ((aQ p0l (IntKind.i64.wrap (s3.2 - 1))).bind fun x3=>(nI (x3.1,x3.2.1,x3.2.2.1,x3.2.2.2)).bind fun r3=>some (.nxt (IntKind.i64.wrap ((IntKind.i64.wrap (s3.1 - 1))+r3),IntKind.i64.wrap (s3.2 - 1)))) else (some (.brk (s3.1,s3.2)))
def hY (p0l:List Yq4):Option Int:=
 aP (ax (lM p0l) aW (1,(p0l.length:Int))) (fun r=>some r) (fun s4=>some s4.2)
def dW:Nat->Yq1->Option Int
 | 0,_=>none
 | n+1,p0l =>
  (aQ p0l (IntKind.i64.wrap ((p0l.length:Int) - 1))).bind fun x0=>Option.bind ((if x0.1==4 then (some (x0.1==4)) else (some (x0.1==5)):Option Bool)) (fun s1=>if s1 then ((chk (And (0<=(IntKind.i64.wrap ((p0l.length:Int) - 1))) ((IntKind.i64.wrap ((p0l.length:Int) - 1))<=(p0l.length:Int)))).bind fun _=>(hY (p0l.take ((IntKind.i64.wrap ((p0l.length:Int) - 1)).toNat))).bind fun r3=>(chk (And (0<=r3) (r3<=(p0l.length:Int)))).bind fun _=>((dW n) (p0l.take r3.toNat)).bind fun r9=>(chk (And (0<=r3) (And (r3<=(IntKind.i64.wrap ((p0l.length:Int) - 1))) ((IntKind.i64.wrap ((p0l.length:Int) - 1))<=(p0l.length:Int))))).bind fun _=>((dW n) ((p0l.take ((IntKind.i64.wrap ((p0l.length:Int) - 1)).toNat)).drop r3.toNat)).bind fun r11=>some (Min.min 100000 (IntKind.i64.wrap ((IntKind.i64.wrap (r9+r11))+1)))) else (if x0.1==6 then ((chk (And (0<=(IntKind.i64.wrap ((p0l.length:Int) - 1))) ((IntKind.i64.wrap ((p0l.length:Int) - 1))<=(p0l.length:Int)))).bind fun _=>((dW n) (p0l.take ((IntKind.i64.wrap ((p0l.length:Int) - 1)).toNat))).bind fun r13=>some (Min.min 100000 (IntKind.i64.wrap (r13+1)))) else (if x0.1==7 then ((chk (And (0<=(IntKind.i64.wrap ((p0l.length:Int) - 1))) ((IntKind.i64.wrap ((p0l.length:Int) - 1))<=(p0l.length:Int)))).bind fun _=>((dW n) (p0l.take ((IntKind.i64.wrap ((p0l.length:Int) - 1)).toNat))).bind fun r17=>some (Min.min 100000 (IntKind.i64.wrap ((IntKind.i64.wrap ((IntKind.i64.wrap (r17+3))*x0.2.2.2))+1)))) else (some 1))))
def gJ (p0l:List Yq4):Option Yq1:=
 (cr 32 ([] :List Yq4) p0l).bind fun z1=>some z1
def lq (p0a:Yq1) (p1b:Yq1) (p2t:Int×Int×Int×Int):Option Yq1:=
 (gJ p0a).bind fun r1=>(cr 32 r1 p1b).bind fun z1=>(cr 32 z1 ([(p2t.1,p2t.2.1,p2t.2.2.1,p2t.2.2.2)])).bind fun z2=>some z2
def po (p0kind:Int):Option Yq1:=
 some ([(p0kind,0,0,0)])
def jX:Nat->Yq1->Int->Int->Option Yq1 
 | 0,_,_,_=>none
 | n+1,p0e,p1low,p2high =>
  if p2high==0 then ((po 2).bind fun r0=>some r0) else (((jX n) p0e (Max.max 0 (IntKind.i64.wrap (p1low - 1))) (IntKind.i64.wrap (p2high - 1))).bind fun r3=>(lq p0e r3 (4,0,0,0)).bind fun r4=>if decide (p1low>0) then (some r4) else ((po 2).bind fun r7=>(lq r4 r7 (5,0,0,0)).bind fun r8=>some r8))
def cT:Nat->Yq1->Option Yq1 
 | 0,_=>none
 | n+1,p0l =>
  (aQ p0l (IntKind.i64.wrap ((p0l.length:Int) - 1))).bind fun x0=>Option.bind ((if x0.1==4 then (some (x0.1==4)) else (some (x0.1==5)):Option Bool)) (fun s1=>if s1 then ((chk (And (0<=(IntKind.i64.wrap ((p0l.length:Int) - 1))) ((IntKind.i64.wrap ((p0l.length:Int) - 1))<=(p0l.length:Int)))).bind fun _=>(hY (p0l.take ((IntKind.i64.wrap ((p0l.length:Int) - 1)).toNat))).bind fun r3=>(chk (And (0<=r3) (r3<=(p0l.length:Int)))).bind fun _=>((cT n) (p0l.take r3.toNat)).bind fun r10=>(chk (And (0<=r3) (And (r3<=(IntKind.i64.wrap ((p0l.length:Int) - 1))) ((IntKind.i64.wrap ((p0l.length:Int) - 1))<=(p0l.length:Int))))).bind fun _=>((cT n) ((p0l.take ((IntKind.i64.wrap ((p0l.length:Int) - 1)).toNat)).drop r3.toNat)).bind fun r12=>(lq r10 r12 (x0.1,x0.2.1,x0.2.2.1,x0.2.2.2)).bind fun r13=>some r13) else (if x0.1==6 then ((chk (And (0<=(IntKind.i64.wrap ((p0l.length:Int) - 1))) ((IntKind.i64.wrap ((p0l.length:Int) - 1))<=(p0l.length:Int)))).bind fun _=>((cT n) (p0l.take ((IntKind.i64.wrap ((p0l.length:Int) - 1)).toNat))).bind fun r18=>(lq r18 ([] :List Yq4) (x0.1,x0.2.1,x0.2.2.1,x0.2.2.2)).bind fun r19=>some r19) else (if x0.1==7 then ((chk (And (0<=(IntKind.i64.wrap ((p0l.length:Int) - 1))) ((IntKind.i64.wrap ((p0l.length:Int) - 1))<=(p0l.length:Int)))).bind fun _=>((cT n) (p0l.take ((IntKind.i64.wrap ((p0l.length:Int) - 1)).toNat))).bind fun r24=>(jX gB r24 x0.2.2.1 x0.2.2.2).bind fun r25=>some r25) else (some ([(x0.1,x0.2.1,x0.2.2.1,x0.2.2.2)])))))
def lN (p0e:Yq1):Option ((Yq1)×Bool):=
 (kB p0e).bind fun r1=>if r1 then ((dW gB p0e).bind fun r2=>if decide (r2>5000) then (some ([],false)) else ((cT gB p0e).bind fun r3=>if decide ((r3.length:Int)>400) then (some ([],false)) else (some (r3,true)))) else (some ([],false))
def jg (p1from:Int) (p2to:Int) (s2:Int×List Int):Option (Out PL (Int×List Int)):=
 if decide (s2.1<(s2.2.length:Int)) then (Option.bind (((chk (0<=s2.1)).bind fun _=>if (zr (tJ p1from s2.1) 1)==1 then ((aQ s2.2 s2.1).bind fun x6=>(aQ s2.2 s2.1).bind fun x7=>some (s2.2.set s2.1.toNat (orI x6 p2to))) else (some s2.2):Option (List Int))) (fun s8=>some (.nxt (IntKind.i64.wrap (s2.1+1),s8)))) else (some (.brk (s2.1,s2.2)))
def nJ (p0p:(List Int)×Int×Int×(List Int)×Bool) (p1from:Int) (p2to:Int):Option PL:=
 aP (ax (jg p1from p2to) aW (0,p0p.2.2.2.1)) (fun r9=>some r9) (fun s10=>some (p0p.1,p0p.2.1,p0p.2.2.1,s10.2,p0p.2.2.2.2))
def dq:Nat->PL->Yq1->Option ((Bool×Int×Int)×(List Int)×Int×Int×(List Int)×Bool)
 | 0,_,_=>none
 | n+1,p0,p1 =>
  (aQ p1 (IntKind.i64.wrap ((p1.length:Int) - 1))).bind fun x0=>if x0.1==2 then (some ((true,0,0),p0.1,p0.2.1,p0.2.2.1,p0.2.2.2.1,p0.2.2.2.2)) else (if x0.1==3 then ((cr 8 p0.1 ([x0.2.1])).bind fun z2=>(cr 8 p0.2.2.2.1 ([0])).bind fun z3=>some ((false,I0 1 (p0.1.length:Int),I0 1 (p0.1.length:Int)),z2,p0.2.1,p0.2.2.1,z3,p0.2.2.2.2)) else (if x0.1==4 then ((chk (And (0<=(IntKind.i64.wrap ((p1.length:Int) - 1))) ((IntKind.i64.wrap ((p1.length:Int) - 1))<=(p1.length:Int)))).bind fun _=>(hY (p1.take ((IntKind.i64.wrap ((p1.length:Int) - 1)).toNat))).bind fun r5=>(chk (And (0<=r5) (r5<=(p1.length:Int)))).bind fun _=>((dq n) (p0.1,p0.2.1,p0.2.2.1,p0.2.2.2.1,p0.2.2.2.2) (p1.take r5.toNat)).bind fun r7=>(chk (And (0<=r5) (And (r5<=(IntKind.i64.wrap ((p1.length:Int) - 1))) ((IntKind.i64.wrap ((p1.length:Int) - 1))<=(p1.length:Int))))).bind fun _=>((dq n) (r7.2.1,r7.2.2.1,r7.2.2.2.1,r7.2.2.2.2.1,r7.2.2.2.2.2) ((p1.take ((IntKind.i64.wrap ((p1.length:Int) - 1)).toNat)).drop r5.toNat)).bind fun r9=>(nJ (r9.2.1,r9.2.2.1,r9.2.2.2.1,r9.2.2.2.2.1,r9.2.2.2.2.2) r7.1.2.2 r9.1.2.1).bind fun r10=>if r7.1.1 then (Option.bind ((if r7.1.1 then (some (r9.1.1,orI r7.1.2.1 r9.1.2.1,r9.1.2.2)) else (some (r9.1.1,r7.1.2.1,r9.1.2.2)):Option (Bool×Int×Int))) (fun s11=>Option.bind ((if r9.1.1 then (some (s11.1,s11.2.1,orI r7.1.2.2 r9.1.2.2)) else (some (s11.1,s11.2.1,s11.2.2)):Option (Bool×Int×Int))) (fun s12=>some ((s12.1,s12.2.1,s12.2.2),r10.1,r10.2.1,r10.2.2.1,r10.2.2.2.1,r10.2.2.2.2)))) else (Option.bind ((if r7.1.1 then (some (false,orI r7.1.2.1 r9.1.2.1,r9.1.2.2)) else (some (false,r7.1.2.1,r9.1.2.2)):Option (Bool×Int×Int))) (fun s13=>Option.bind ((if r9.1.1 then (some (s13.1,s13.2.1,orI r7.1.2.2 r9.1.2.2)) else (some (s13.1,s13.2.1,s13.2.2)):Option (Bool×Int×Int))) (fun s14=>some ((s14.1,s14.2.1,s14.2.2),r10.1,r10.2.1,r10.2.2.1,r10.2.2.2.1,r10.2.2.2.2))))) else (if x0.1==5 then ((chk (And (0<=(IntKind.i64.wrap ((p1.length:Int) - 1))) ((IntKind.i64.wrap ((p1.length:Int) - 1))<=(p1.length:Int)))).bind fun _=>(hY (p1.take ((IntKind.i64.wrap ((p1.length:Int) - 1)).toNat))).bind fun r16=>(chk (And (0<=r16) (r16<=(p1.length:Int)))).bind fun _=>((dq n) (p0.1,p0.2.1,p0.2.2.1,p0.2.2.2.1,p0.2.2.2.2) (p1.take r16.toNat)).bind fun r18=>(chk (And (0<=r16) (And (r16<=(IntKind.i64.wrap ((p1.length:Int) - 1))) ((IntKind.i64.wrap ((p1.length:Int) - 1))<=(p1.length:Int))))).bind fun _=>((dq n) (r18.2.1,r18.2.2.1,r18.2.2.2.1,r18.2.2.2.2.1,r18.2.2.2.2.2) ((p1.take ((IntKind.i64.wrap ((p1.length:Int) - 1)).toNat)).drop r16.toNat)).bind fun r20=>if r18.1.1 then (some ((true,orI r18.1.2.1 r20.1.2.1,orI r18.1.2.2 r20.1.2.2),r20.2.1,r20.2.2.1,r20.2.2.2.1,r20.2.2.2.2.1,r20.2.2.2.2.2)) else (some ((r20.1.1,orI r18.1.2.1 r20.1.2.1,orI r18.1.2.2 r20.1.2.2),r20.2.1,r20.2.2.1,r20.2.2.2.1,r20.2.2.2.2.1,r20.2.2.2.2.2))) else (if x0.1==6 then ((chk (And (0<=(IntKind.i64.wrap ((p1.length:Int) - 1))) ((IntKind.i64.wrap ((p1.length:Int) - 1))<=(p1.length:Int)))).bind fun _=>((dq n) (p0.1,p0.2.1,p0.2.2.1,p0.2.2.2.1,p0.2.2.2.2) (p1.take ((IntKind.i64.wrap ((p1.length:Int) - 1)).toNat))).bind fun r22=>(nJ (r22.2.1,r22.2.2.1,r22.2.2.2.1,r22.2.2.2.2.1,r22.2.2.2.2.2) r22.1.2.2 r22.1.2.1).bind fun r23=>some ((true,r22.1.2.1,r22.1.2.2),r23.1,r23.2.1,r23.2.2.1,r23.2.2.2.1,r23.2.2.2.2)) else (some ((false,0,0),p0.1,p0.2.1,p0.2.2.1,p0.2.2.2.1,p0.2.2.2.2))))))
def dt (r0:Yq1×Bool) (s2:Int×Int):Option (Out (PL×Bool) (Int×Int)):=
 if decide (s2.2<(r0.1.length:Int)) then (Option.bind (((aQ r0.1 s2.2).bind fun x3=>if x3.1==3 then (some (IntKind.i64.wrap (s2.1+1))) else (some s2.1):Option Int)) (fun s4=>some (.nxt (s4,IntKind.i64.wrap (s2.2+1))))) else (some (.brk (s2.1,s2.2)))
def gP (p0e:List Yq4):Option (PL×Bool):=
 (lN p0e).bind fun r0=>if r0.2 then (aP (ax (dt r0) aW (0,0)) (fun r5=>some r5) (fun s6=>if decide (s6.1>20) then (some ((([] :List Int),0,0,([] :List Int),false),false)) else ((dq gB (([] :List Int),0,0,([] :List Int),false) r0.1).bind fun r7=>some ((r7.2.1,r7.1.2.1,r7.1.2.2,r7.2.2.2.2.1,r7.1.1),true)))) else (some ((([] :List Int),0,0,([] :List Int),false),false))
def hZ (p0p:(List Int)×Int×Int×(List Int)×Bool) (p1set:Int) (s6:Int×Int):Option zg:=
 if decide (s6.2<(p0p.1.length:Int)) then (Option.bind (((chk (0<=IntKind.i64.wrap (s6.2+1))).bind fun _=>if (zr (tJ p1set (IntKind.i64.wrap (s6.2+1))) 1)==1 then ((aQ p0p.2.2.2.1 s6.2).bind fun x6=>some (orI s6.1 x6)) else (some s6.1):Option Int)) (fun s8=>some (.nxt (s8,IntKind.i64.wrap (s6.2+1))))) else (some (.brk (s6.1,s6.2)))
def ic (p0p:(List Int)×Int×Int×(List Int)×Bool) (p2letter:Int) (s7:Int×Int) (s13:Int×Int):Option zg:=
 if decide (s13.2<(p0p.1.length:Int)) then (Option.bind (((chk (0<=s13.2)).bind fun _=>if (zr (tJ s7.1 s13.2) 1)==1 then ((aQ p0p.1 s13.2).bind fun x12=>if x12==p2letter then ((chk (0<=IntKind.i64.wrap (s13.2+1))).bind fun _=>some (orI s13.1 (I0 1 (IntKind.i64.wrap (s13.2+1))))) else (some s13.1)) else (some s13.1):Option Int)) (fun s15=>some (.nxt (s15,IntKind.i64.wrap (s13.2+1))))) else (some (.brk (s13.1,s13.2)))
def oG (p0p:(List Int)×Int×Int×(List Int)×Bool) (p1set:Int) (p2letter:Int):Option Int:=
 Option.bind ((if (zr p1set 1)==1 then (some p0p.2.1) else (some 0):Option Int)) (fun s1=>aP (ax (hZ p0p p1set) aW (s1,0)) (fun r=>some r) (fun s7=>aP (ax (ic p0p p2letter s7) aW (0,0)) (fun r=>some r) (fun s14=>some s14.1)))
def o6 (p0l:List Int) (p1x:Int) (s3:Int):Option (Out Int Int):=
 if decide (s3<(p0l.length:Int)) then ((aQ p0l s3).bind fun x3=>if x3==p1x then (some (.ret s3)) else (some (.nxt (IntKind.i64.wrap (s3+1))))) else (some (.brk s3))
def nK (p0l:List Int) (p1x:Int):Option Int:=
 aP (ax (o6 p0l p1x) aW 0) (fun r=>some r) (fun s4=>some (-1))
def lO (p0p:(List Int)×Int×Int×(List Int)×Bool) (p1set:Int):Option Bool:=
 if (zr p1set 1)==1 then (if p0p.2.2.2.2 then (some true) else (some ((zr (tJ p1set 1) p0p.2.2.1) !=0))) else (some ((zr (tJ p1set 1) p0p.2.2.1) !=0))
def fG (p0:(List Int)×Int×Int×(List Int)×Bool) (s17:(List Int)×Int×Int×(List Bool)×(List (List Int))) (s23:(List Int)×(List Int)×Int):Option (Out (Yq2×Bool) ((List Int)×(List Int)×Int)):=
 if decide (s23.2.2<9) then ((aQ s23.1 s17.2.1).bind fun x11=>(oG (p0.1,p0.2.1,p0.2.2.1,p0.2.2.2.1,p0.2.2.2.2) x11 s23.2.2).bind fun r27=>Option.bind ((if r27 !=0 then ((nK s23.1 r27).bind fun r29=>if decide (r29<0) then ((cr 8 s23.1 ([r27])).bind fun z30=>some (z30,(s23.1.length:Int))) else (some (s23.1,r29))) else (some (s23.1,-1)):Option ((List Int)×Int))) (fun s25=>(cr 8 s23.2.1 ([s25.2])).bind fun z31=>some (.nxt (s25.1,z31,IntKind.i64.wrap (s23.2.2+1))))) else (some (.brk (s23.1,s23.2.1,s23.2.2)))
def fH (p0:(List Int)×Int×Int×(List Int)×Bool) (p1:Int) (s17:(List Int)×Int×Int×(List Bool)×(List (List Int))):Option (Out (Yq2×Bool) ((List Int)×Int×Int×(List Bool)×(List (List Int)))):=
 if decide (s17.2.1<(s17.1.length:Int)) then (aP (ax (fG p0 s17) aW (s17.1,([] :List Int),0)) (fun r=>some (.ret r)) (fun s24=>if decide ((s24.1.length:Int)>p1) then (some (.ret ((0,[],[]),false))) else ((aQ s24.1 s17.2.1).bind fun x12=>(lO (p0.1,p0.2.1,p0.2.2.1,p0.2.2.2.1,p0.2.2.2.2) x12).bind fun r30=>(cr 1 s17.2.2.2.1 ([r30])).bind fun z32=>(cr 24 s17.2.2.2.2 ([s24.2.1])).bind fun z33=>some (.nxt (s24.1,IntKind.i64.wrap (s17.2.1+1),s17.2.2.1,z32,z33))))) else (some (.brk (s17.1,s17.2.1,s17.2.2.1,s17.2.2.2.1,s17.2.2.2.2)))
def jh (p0:(List Int)×Int×Int×(List Int)×Bool) (p1:Int):Option (Yq2×Bool):=
 aP (ax (fH p0 p1) aW ([1],0,0,[],[])) (fun r=>some r) (fun s18=>some ((s18.2.2.1,s18.2.2.2.1,s18.2.2.2.2),true))
def w6 (s3:(List Int)×Int):Option (Out Yq2 ((List Int)×Int)):=
 if decide (s3.2<9) then ((cr 8 s3.1 ([-1])).bind fun z3=>some (.nxt (z3,IntKind.i64.wrap (s3.2+1)))) else (some (.brk (s3.1,s3.2)))
def o7:Option Yq2:=
 aP (ax (w6) aW (([] :List Int),0)) (fun r=>some r) (fun s4=>some (0,[false],[s4.1]))
def gE (p0:Int×(List Bool)×(List (List Int))) (p1:List Int) (p2:List Bool) (s17:(List Int)×(List Int)×Int×Int×(List Bool)×(List (List Int))) (s23:(List Int)×(List Int)×(List Int)×Int):Option (Out Yq2 ((List Int)×(List Int)×(List Int)×Int)):=
 if decide (s23.2.2.2<9) then ((aQ s23.2.1 s17.2.2.1).bind fun x79=>(aQ p0.2.2 x79).bind fun x80=>(aQ x80 s23.2.2.2).bind fun x81=>Option.bind ((if decide (x81≥0) then ((aQ p2 x81).bind fun x85=>if x85 then ((aQ p1 x81).bind fun x86=>(nK s23.1 x86).bind fun r28=>if decide (r28<0) then ((aQ p1 x81).bind fun x87=>(cr 8 s23.1 ([x87])).bind fun z47=>(cr 8 s23.2.1 ([x81])).bind fun z48=>some (z47,z48,(s23.1.length:Int))) else (some (s23.1,s23.2.1,r28))) else (some (s23.1,s23.2.1,-1))) else (some (s23.1,s23.2.1,-1)):Option ((List Int)×(List Int)×Int))) (fun s25=>(cr 8 s23.2.2.1 ([s25.2.2])).bind fun z49=>some (.nxt (s25.1,s25.2.1,z49,IntKind.i64.wrap (s23.2.2.2+1))))) else (some (.brk (s23.1,s23.2.1,s23.2.2.1,s23.2.2.2)))
def ju (p0:Int×(List Bool)×(List (List Int))) (p1:List Int) (p2:List Bool) (s17:(List Int)×(List Int)×Int×Int×(List Bool)×(List (List Int))):Option (Out Yq2 ((List Int)×(List Int)×Int×Int×(List Bool)×(List (List Int)))):=
 if decide (s17.2.2.1<(s17.1.length:Int)) then (aP (ax (gE p0 p1 p2 s17) aW (s17.1,s17.2.1,([] :List Int),0)) (fun r=>some (.ret r)) (fun s24=>(aQ s24.2.1 s17.2.2.1).bind fun x88=>(aQ p0.2.1 x88).bind fun x89=>(cr 1 s17.2.2.2.2.1 ([x89])).bind fun z50=>(cr 24 s17.2.2.2.2.2 ([s24.2.2.1])).bind fun z51=>some (.nxt (s24.1,s24.2.1,IntKind.i64.wrap (s17.2.2.1+1),s17.2.2.2.1,z50,z51)))) else (some (.brk (s17.1,s17.2.1,s17.2.2.1,s17.2.2.2.1,s17.2.2.2.2.1,s17.2.2.2.2.2)))
def iI (p0:Int×(List Bool)×(List (List Int))) (p1:List Int) (p2:List Bool):Option Yq2:=
 (aQ p2 p0.1).bind fun x1=>if x1 then ((aQ p1 p0.1).bind fun x2=>aP (ax (ju p0 p1 p2) aW ([x2],[p0.1],0,0,[],[])) (fun r=>some r) (fun s18=>some (s18.2.2.2.1,s18.2.2.2.2.1,s18.2.2.2.2.2))) else ((o7).bind fun r1=>some (r1.1,r1.2.1,r1.2.2))
def ji (p0a:Int×(List Bool)×(List (List Int))) (s71:(List Bool)×Int) (s77:(List Bool)×Int):Option (Out (List Bool) ((List Bool)×Int)):=
 if decide (s77.2<9) then (Option.bind (((aQ p0a.2.2 s71.2).bind fun x319=>(aQ x319 s77.2).bind fun x320=>if decide (x320≥0) then ((aQ p0a.2.2 s71.2).bind fun x321=>(aQ x321 s77.2).bind fun x322=>(aQ s77.1 x322).bind fun x323=>if x323 then ((aQ s77.1 s71.2).bind fun x324=>some (s77.1.set s71.2.toNat true)) else (some s77.1)) else (some s77.1):Option (List Bool))) (fun s79=>some (.nxt (s79,IntKind.i64.wrap (s77.2+1))))) else (some (.brk (s77.1,s77.2)))
def jj (p0a:Int×(List Bool)×(List (List Int))) (s71:(List Bool)×Int):Option (Out (List Bool) ((List Bool)×Int)):=
 if decide (s71.2<(p0a.2.1.length:Int)) then (aP (ax (ji p0a s71) aW (s71.1,0)) (fun r=>some (.ret r)) (fun s78=>some (.nxt (s78.1,IntKind.i64.wrap (s71.2+1))))) else (some (.brk (s71.1,s71.2)))
def lP (p0a:Int×(List Bool)×(List (List Int))) (s53:(List Bool)×Int):Option (Out (List Bool) ((List Bool)×Int)):=
 if decide (s53.2<(p0a.2.1.length:Int)) then (aP (ax (jj p0a) aW (s53.1,0)) (fun r=>some (.ret r)) (fun s72=>some (.nxt (s72.1,IntKind.i64.wrap (s53.2+1))))) else (some (.brk (s53.1,s53.2)))
def lr (p0a:Int×(List Bool)×(List (List Int))):Option (List Bool):=
 (cr 1 ([] :List Bool) p0a.2.1).bind fun z1=>aP (ax (lP p0a) aW (z1,0)) (fun r=>some r) (fun s54=>some s54.1)
def mU (p0a:Int×(List Bool)×(List (List Int))) (p1classes:List Int) (p2s:Int) (s5:(List Int)×Int):Option (Out (List Int) ((List Int)×Int)):=
 if decide (s5.2<9) then (Option.bind (((aQ p0a.2.2 p2s).bind fun x17=>(aQ x17 s5.2).bind fun x18=>if decide (x18<0) then ((cr 8 s5.1 ([-1])).bind fun z12=>some z12) else ((aQ p1classes x18).bind fun x19=>(cr 8 s5.1 ([x19])).bind fun z11=>some z11):Option (List Int))) (fun s7=>some (.nxt (s7,IntKind.i64.wrap (s5.2+1))))) else (some (.brk (s5.1,s5.2)))
def pq (p0a:Int×(List Bool)×(List (List Int))) (p1classes:List Int) (p2s:Int):Option (List Int):=
 (aQ p1classes p2s).bind fun x1=>aP (ax (mU p0a p1classes p2s) aW ([x1],0)) (fun r=>some r) (fun s6=>some s6.1)
def fI (p0:Int×(List Bool)×List (List Int)) (r0:List Bool) (s2:(List Int)×Int):Option (Out (List Int) ((List Int)×Int)):=
 if decide (s2.2<(p0.2.1.length:Int)) then ((aQ p0.2.1 s2.2).bind fun x3=>Option.bind ((if x3 then (some 1) else (some 0):Option Int)) (fun s4=>(aQ r0 s2.2).bind fun x5=>Option.bind ((if x5 then (some s4) else (some (-1)):Option Int)) (fun s6=>(cr 8 s2.1 ([s6])).bind fun z7=>some (.nxt (z7,IntKind.i64.wrap (s2.2+1)))))) else (some (.brk (s2.1,s2.2)))
def fJ (s13:(List (List Int))×(List Int)×Int) (r16:List Int) (s18:Int×Int):Option (Out (List Int) (Int×Int)):=
 if decide (s18.2<(s13.1.length:Int)) then (Option.bind (((aQ s13.1 s18.2).bind fun x19=>(nH x19 r16).bind fun r20=>if r20==0 then (some s18.2) else (some s18.1):Option Int)) (fun s21=>some (.nxt (s21,IntKind.i64.wrap (s18.2+1))))) else (some (.brk (s18.1,s18.2)))
def fK (p0:Int×(List Bool)×List (List Int)) (s11:(List Int)×Int) (s13:(List (List Int))×(List Int)×Int):Option (Out (List Int) ((List (List Int))×(List Int)×Int)):=
 if decide (s13.2.2<(p0.2.1.length:Int)) then (Option.bind (((aQ s11.1 s13.2.2).bind fun x14=>if decide (x14<0) then ((cr 8 s13.2.1 ([(-1)])).bind fun z15=>some (s13.1,z15)) else ((pq (p0.1,p0.2.1,p0.2.2) s11.1 s13.2.2).bind fun r16=>aP (ax (fJ s13 r16) aW ((-1),0)) (fun r22=>none) (fun s23=>Option.bind ((if decide (s23.1<0) then ((cr 24 s13.1 ([r16])).bind fun z24=>some (z24,(s13.1.length:Int))) else (some (s13.1,s23.1)):Option ((List (List Int))×Int))) (fun s25=>(cr 8 s13.2.1 ([s25.2])).bind fun z26=>some (s25.1,z26)))):Option ((List (List Int))×List Int))) (fun s27=>some (.nxt (s27.1,s27.2,IntKind.i64.wrap (s13.2.2+1))))) else (some (.brk (s13.1,s13.2.1,s13.2.2)))
def lu (p0:Int×(List Bool)×List (List Int)) (s11:(List Int)×Int):Option (Out (List Int) ((List Int)×Int)):=
 if decide (s11.2<=(p0.2.1.length:Int)) then (aP (ax (fK p0 s11) aW (([] :List (List Int)),([] :List Int),0)) (fun r28=>some (.ret r28)) (fun s29=>(nH s29.2.1 s11.1).bind fun r30=>if r30==0 then (some (.ret s11.1)) else (some (.nxt (s29.2.1,IntKind.i64.wrap (s11.2+1)))))) else (some (.brk (s11.1,s11.2)))
def jk (p0:Int×(List Bool)×List (List Int)):Option (List Int):=
 (lr (p0.1,p0.2.1,p0.2.2)).bind fun r0=>aP (ax (fI p0 r0) aW (([] :List Int),0)) (fun r8=>some r8) (fun s9=>aP (ax (lu p0) aW (s9.1,0)) (fun r31=>some r31) (fun s32=>some s32.1))
def ig (p0a:Int×(List Bool)×(List (List Int))):Option Yq2:=
 (jk (p0a.1,p0a.2.1,p0a.2.2)).bind fun r1=>(lr (p0a.1,p0a.2.1,p0a.2.2)).bind fun r2=>(iI (p0a.1,p0a.2.1,p0a.2.2) r1 r2).bind fun r3=>some (r3.1,r3.2.1,r3.2.2)
def ij (p0e:Yq1):Option (Yq2×Bool):=
 (gP p0e).bind fun r1=>if r1.2 then ((jh (r1.1.1,r1.1.2.1,r1.1.2.2.1,r1.1.2.2.2.1,r1.1.2.2.2.2) 200).bind fun r2=>if r2.2 then ((ig (r2.1.1,r2.1.2.1,r2.1.2.2)).bind fun r3=>if decide ((r3.2.1.length:Int)>12) then (some ((0,[],[]),false)) else (some ((r3.1,r3.2.1,r3.2.2),true))) else (some ((0,[],[]),false))) else (some ((0,[],[]),false))
def fv (p0:Int×(List Bool)×(List (List Int))) (p1:Int×(List Bool)×(List (List Int))) (s3:Int):Option (Out Bool Int):=
 if decide (s3<(p0.2.1.length:Int)) then ((aQ p0.2.1 s3).bind fun x5=>(aQ p1.2.1 s3).bind fun x6=>if x5 !=x6 then (some (.ret false)) else (some (.nxt (IntKind.i64.wrap (s3+1))))) else (some (.brk s3))
def fw (p0:Int×(List Bool)×(List (List Int))) (p1:Int×(List Bool)×(List (List Int))) (s7:Int):Option (Out Bool Int):=
 if decide (s7<(p0.2.2.length:Int)) then ((aQ p0.2.2 s7).bind fun x11=>(aQ p1.2.2 s7).bind fun x12=>(nH x11 x12).bind fun r9=>if r9 !=0 then (some (.ret false)) else (some (.nxt (IntKind.i64.wrap (s7+1))))) else (some (.brk s7))
def fL (p0:Int×(List Bool)×(List (List Int))) (p1:Int×(List Bool)×(List (List Int))):Option Bool:=
 if p0.1 !=p1.1 then (some false) else (if (p0.2.1.length:Int) !=(p1.2.1.length:Int) then (some false) else (if (p0.2.2.length:Int) !=(p1.2.2.length:Int) then (some false) else (aP (ax (fv p0 p1) aW 0) (fun r=>some r) (fun s4=>aP (ax (fw p0 p1) aW 0) (fun r=>some r) (fun s8=>some true)))))
def il (p0l:List Yq2) (p1a:Int×(List Bool)×(List (List Int))) (s3:Int):Option (Out Int Int):=
 if decide (s3<(p0l.length:Int)) then ((aQ p0l s3).bind fun x3=>(fL (x3.1,x3.2.1,x3.2.2) (p1a.1,p1a.2.1,p1a.2.2)).bind fun r9=>if r9 then (some (.ret s3)) else (some (.nxt (IntKind.i64.wrap (s3+1))))) else (some (.brk s3))
def mi (p0l:List Yq2) (p1a:Int×(List Bool)×(List (List Int))):Option Int:=
 aP (ax (il p0l p1a) aW 0) (fun r=>some r) (fun s4=>some (-1))
def du (p0:List Yq9) (s7:Int×(List Yq2)×Yq3):Option (Out (Yq8×Bool) PN):=
 if decide (s7.1<(p0.length:Int)) then ((aQ p0 s7.1).bind fun x17=>(ij x17.2.1).bind fun r20=>if r20.2 then ((aQ p0 s7.1).bind fun x18=>(cS x18.1 1 99).bind fun r21=>if r21 then (if decide (s7.1>0) then ((aQ p0 (IntKind.i64.wrap (s7.1 - 1))).bind fun x21=>(aQ p0 s7.1).bind fun x22=>if decide (x21.1≥x22.1) then (some (.ret (([],[]),false))) else ((mi s7.2.1 (r20.1.1,r20.1.2.1,r20.1.2.2)).bind fun r25=>Option.bind ((if decide (r25<0) then ((cr 56 s7.2.1 ([(r20.1.1,r20.1.2.1,r20.1.2.2)])).bind fun z17=>some ((s7.2.1.length:Int),z17,s7.2.2)) else (some (r25,s7.2.1,s7.2.2)):Option PN)) (fun s10=>(aQ p0 s7.1).bind fun x23=>(aQ p0 s7.1).bind fun x24=>(gJ x24.2.1).bind fun r27=>(cr 40 s10.2.2 ([(x23.1,r27,s10.1)])).bind fun z18=>some (.nxt (IntKind.i64.wrap (s7.1+1),s10.2.1,z18))))) else ((mi s7.2.1 (r20.1.1,r20.1.2.1,r20.1.2.2)).bind fun r22=>Option.bind ((if decide (r22<0) then ((cr 56 s7.2.1 ([(r20.1.1,r20.1.2.1,r20.1.2.2)])).bind fun z14=>some ((s7.2.1.length:Int),z14,s7.2.2)) else (some (r22,s7.2.1,s7.2.2)):Option PN)) (fun s9=>(aQ p0 s7.1).bind fun x19=>(aQ p0 s7.1).bind fun x20=>(gJ x20.2.1).bind fun r24=>(cr 40 s9.2.2 ([(x19.1,r24,s9.1)])).bind fun z15=>some (.nxt (IntKind.i64.wrap (s7.1+1),s9.2.1,z15))))) else (some (.ret (([],[]),false)))) else (some (.ret (([],[]),false)))) else (some (.brk (s7.1,s7.2.1,s7.2.2)))
def mj (p0:List Yq9):Option (Yq8×Bool):=
 if decide ((p0.length:Int)>4) then (some (([],[]),false)) else (aP (ax (du p0) aW (0,[],[])) (fun r=>some r) (fun s8=>some ((s8.2.1,s8.2.2),true)))
def iJ (p0a:Yq1) (p1b:Yq1) (s3:Int):Option (Out Bool Int):=
 if decide (s3<(p0a.length:Int)) then ((aQ p0a s3).bind fun x5=>(aQ p1b s3).bind fun x6=>if (x5.1==x6.1)&&((x5.2.1==x6.2.1)&&((x5.2.2.1==x6.2.2.1)&&((x5.2.2.2==x6.2.2.2)&&true))) then (some (.nxt (IntKind.i64.wrap (s3+1)))) else (some (.ret false))) else (some (.brk s3))
def lQ (p0a:Yq1) (p1b:Yq1):Option Bool:=
 if (p0a.length:Int) !=(p1b.length:Int) then (some false) else (aP (ax (iJ p0a p1b) aW 0) (fun r=>some r) (fun s4=>some true))
def eC (p0:(List Yq2)×Yq3) (p1:(List Yq2)×Yq3) (s3:Int):Option (Out Bool Int):=
 if decide (s3<(p0.1.length:Int)) then ((aQ p0.1 s3).bind fun x5=>(aQ p1.1 s3).bind fun x6=>(fL (x5.1,x5.2.1,x5.2.2) (x6.1,x6.2.1,x6.2.2)).bind fun r15=>if r15 then (some (.nxt (IntKind.i64.wrap (s3+1)))) else (some (.ret false))) else (some (.brk s3))
def eD (p0:(List Yq2)×Yq3) (p1:(List Yq2)×Yq3) (s7:Int):Option (Out Bool Int):=
 if decide (s7<(p0.2.length:Int)) then ((aQ p0.2 s7).bind fun x19=>(aQ p1.2 s7).bind fun x20=>if x19.1 !=x20.1 then (some (.ret false)) else ((aQ p0.2 s7).bind fun x21=>(aQ p1.2 s7).bind fun x22=>(lQ x21.2.1 x22.2.1).bind fun r24=>if r24 then ((aQ p0.2 s7).bind fun x23=>(aQ p1.2 s7).bind fun x24=>if x23.2.2 !=x24.2.2 then (some (.ret false)) else (some (.nxt (IntKind.i64.wrap (s7+1))))) else (some (.ret false)))) else (some (.brk s7))
def gf (p0:(List Yq2)×Yq3) (p1:(List Yq2)×Yq3):Option Bool:=
 if (p0.1.length:Int) !=(p1.1.length:Int) then (some false) else (if (p0.2.length:Int) !=(p1.2.length:Int) then (some false) else (aP (ax (eC p0 p1) aW 0) (fun r=>some r) (fun s4=>aP (ax (eD p0 p1) aW 0) (fun r=>some r) (fun s8=>some true))))
def dX (p0r:(List Yq2)×Yq3):Option Bool:=
 (mj p0r.2).bind fun r1=>if r1.2 then ((gf (r1.1.1,r1.1.2) (p0r.1,p0r.2)).bind fun r2=>some r2) else (some false)
def cE (p0h:Int×Yq5):Option Int:=
 (m_s_IsValidHistory (p0h.1,p0h.2)).bind fun r1=>if r1 then (some (IntKind.i64.wrap ((IntKind.i64.wrap (p0h.1+(p0h.2.length:Int))) - 1))) else (some 0)
def eN (p0r:(List Yq2)×Yq3) (p1id:Int) (s3:Int):Option (Out Int Int):=
 if decide (s3<(p0r.2.length:Int)) then ((aQ p0r.2 s3).bind fun x3=>if x3.1==p1id then (some (.ret s3)) else (some (.nxt (IntKind.i64.wrap (s3+1))))) else (some (.brk s3))
def iK (p0r:(List Yq2)×Yq3) (p1id:Int):Option Int:=
 aP (ax (eN p0r p1id) aW 0) (fun r=>some r) (fun s4=>some (-1))
def cR (p0e:(Int×Yq5)×Yq8×(List Yq7)×ByteArray) (s3:Int):Option (Out Bool Int):=
 if decide (s3<(p0e.2.2.1.length:Int)) then ((aQ p0e.2.2.1 s3).bind fun x5=>(cS x5.1 1 99).bind fun r15=>if r15 then (if decide (s3>0) then ((aQ p0e.2.2.1 (IntKind.i64.wrap (s3 - 1))).bind fun x6=>if decide (x6.1≥x5.1) then (some (.ret false)) else ((iK (p0e.2.1.1,p0e.2.1.2) x5.2.1).bind fun r19=>if decide (r19<0) then (some (.ret false)) else ((cE (p0e.1.1,p0e.1.2)).bind fun r20=>(cS x5.2.2 0 r20).bind fun r21=>if r21 then (some (.nxt (IntKind.i64.wrap (s3+1)))) else (some (.ret false))))) else ((iK (p0e.2.1.1,p0e.2.1.2) x5.2.1).bind fun r16=>if decide (r16<0) then (some (.ret false)) else ((cE (p0e.1.1,p0e.1.2)).bind fun r17=>(cS x5.2.2 0 r17).bind fun r18=>if r18 then (some (.nxt (IntKind.i64.wrap (s3+1)))) else (some (.ret false))))) else (some (.ret false))) else (some (.brk s3))
def uE (p0e:(Int×Yq5)×Yq8×(List Yq7)×ByteArray):Option Bool:=
 aP (ax (cR p0e) aW 0) (fun r=>some r) (fun s4=>some (decide ((p0e.2.2.1.length:Int)<=4)))
def dE (s1:Int×ByteArray):Option (Out ByteArray (Int×ByteArray)):=
 if s1.1 !=0 then (Option.bind ((if decide ((Int.tmod s1.1 10)<0) then (some (IntKind.i64.wrap (-(Int.tmod s1.1 10)))) else (some (Int.tmod s1.1 10)):Option Int)) (fun s2=>(mD (xL ([IntKind.u8.wrap (IntKind.i64.wrap (48+s2))])) s1.2).bind fun z3=>some (.nxt (PQ s1.1 10,z3)))) else (some (.brk (s1.1,s1.2)))
def b9 (p0n:Int):Option ByteArray:=
 if p0n==0 then (some (⟨#[48]⟩)) else (aP (ax (dE) aW (p0n,(⟨#[]⟩:ByteArray))) (fun r4=>some r4) (fun s5=>if decide (p0n<0) then ((mD (⟨#[45]⟩) s5.2).bind fun z6=>some z6) else (some s5.2)))
def eO (p0n:Int):Option ByteArray:=
 (mg p0n).bind fun r1=>if r1 then ((aQ ([(⟨#[97]⟩:ByteArray),(⟨#[97,45]⟩:ByteArray),(⟨#[98]⟩:ByteArray),(⟨#[98,45]⟩:ByteArray),(⟨#[99]⟩:ByteArray),(⟨#[99,45]⟩:ByteArray),(⟨#[48]⟩:ByteArray),(⟨#[49]⟩:ByteArray),(⟨#[50]⟩:ByteArray)]) p0n).bind fun x1=>some x1) else (some (⟨#[]⟩:ByteArray))
def jl (p0e:Int×Int×Int×Int):Option ByteArray:=
 (cS p0e.1 1 99).bind fun r0=>if r0 then ((cS p0e.2.1 0 4).bind fun r1=>if r1 then ((cS p0e.2.2.1 0 4).bind fun r2=>if r2 then ((cS p0e.2.2.2 0 2).bind fun r3=>if r3 then ((b9 p0e.1).bind fun r12=>(mD r12 (⟨#[58]⟩)).bind fun z13=>(b9 p0e.2.1).bind fun r14=>(mD z13 r14).bind fun z15=>(eO (IntKind.i64.wrap (2*p0e.2.2.2))).bind fun r16=>(mD z15 r16).bind fun z17=>(b9 p0e.2.2.1).bind fun r18=>(mD z17 r18).bind fun z19=>some z19) else (some ((⟨#[]⟩:ByteArray)))) else (some ((⟨#[]⟩:ByteArray)))) else (some ((⟨#[]⟩:ByteArray)))) else (some ((⟨#[]⟩:ByteArray)))
def eU (p0b:List Yq6) (s1:ByteArray×Int):Option (Out ByteArray (ByteArray×Int)):=
 if decide (s1.2<(p0b.length:Int)) then (Hf (S:=ByteArray) ((aQ p0b s1.2).bind fun x2=>(jl (x2.2.1,x2.2.2.1,x2.2.2.2.1,x2.2.2.2.2)).bind fun r3=>if r3==((⟨#[]⟩:ByteArray)) then (some (.inl (.ret ((⟨#[]⟩:ByteArray))))) else (Option.bind ((if decide (s1.2>0) then ((mD s1.1 (⟨#[32]⟩)).bind fun z4=>some z4) else (some s1.1):Option ByteArray)) (fun s5=>(aQ p0b s1.2).bind fun x6=>if x6.1 then ((mD s5 (⟨#[43]⟩)).bind fun z7=>(mD z7 r3).bind fun z8=>some (.inr z8)) else ((mD s5 (⟨#[45]⟩)).bind fun z9=>(mD z9 r3).bind fun z10=>some (.inr z10))))) (fun s11=>some (.nxt (s11,IntKind.i64.wrap (s1.2+1))))) else (some (.brk (s1.1,s1.2)))
def cU (p0b:List Yq6):Option ByteArray:=
 if decide ((p0b.length:Int)>6) then (some ((⟨#[]⟩:ByteArray))) else (aP (ax (eU p0b) aW ((⟨#[]⟩:ByteArray),0)) (fun r12=>some r12) (fun s13=>some s13.1))
def fM (p0s:ByteArray) (s1:Int×Int):Option zg:=
 if decide (s1.2<((p0s.size:Nat):Int)) then ((jR p0s s1.2).bind fun z2=>some (.nxt (Int.tmod (IntKind.i64.wrap ((IntKind.i64.wrap ((IntKind.i64.wrap (s1.1*257))+(IntKind.i64.wrap z2)))+1)) 9973,IntKind.i64.wrap (s1.2+1)))) else (some (.brk (s1.1,s1.2)))
def fT (p0s:ByteArray):Option Int:=
 aP (ax (fM p0s) aW (1,0)) (fun r3=>some r3) (fun s4=>some s4.1)
def eP (p0version:Int) (p1b:List Yq6):Option ByteArray:=
 (cS p0version 1 999).bind fun r0=>if r0 then (if decide ((p1b.length:Int)>0) then ((cU p1b).bind fun r1=>if r1==((⟨#[]⟩:ByteArray)) then (some ((⟨#[]⟩:ByteArray))) else ((b9 p0version).bind fun r7=>(mD r7 (⟨#[59]⟩)).bind fun z8=>(cU p1b).bind fun r9=>(mD z8 r9).bind fun z10=>(mD z10 (⟨#[59]⟩)).bind fun z11=>(fT z11).bind fun r12=>(b9 r12).bind fun r13=>(mD z11 r13).bind fun z14=>(mD z14 (⟨#[10]⟩)).bind fun z15=>some z15)) else ((b9 p0version).bind fun r21=>(mD r21 (⟨#[59]⟩)).bind fun z22=>(cU p1b).bind fun r23=>(mD z22 r23).bind fun z24=>(mD z24 (⟨#[59]⟩)).bind fun z25=>(fT z25).bind fun r26=>(b9 r26).bind fun r27=>(mD z25 r27).bind fun z28=>(mD z28 (⟨#[10]⟩)).bind fun z29=>some z29)) else (some ((⟨#[]⟩:ByteArray)))
def oH (p0s:ByteArray) (p1sep:Int) (s1:(List ByteArray)×Int×Int):Option (Out (List ByteArray) ((List ByteArray)×Int×Int)):=
 if decide (s1.2.2<((p0s.size:Nat):Int)) then (Option.bind (((jR p0s s1.2.2).bind fun z2=>if z2==p1sep then ((rm p0s s1.2.1 s1.2.2).bind fun z3=>(cr 16 s1.1 ([z3])).bind fun z4=>some (z4,IntKind.i64.wrap (s1.2.2+1))) else (some (s1.1,s1.2.1)):Option ((List ByteArray)×Int))) (fun s5=>some (.nxt (s5.1,s5.2,IntKind.i64.wrap (s1.2.2+1))))) else (some (.brk (s1.1,s1.2.1,s1.2.2)))
def im (p0s:ByteArray) (p1sep:Int):Option (List ByteArray):=
 aP (ax (oH p0s p1sep) aW (([] :List ByteArray),0,0)) (fun r6=>some r6) (fun s7=>(rm p0s s7.2.1 ((p0s.size:Nat):Int)).bind fun z8=>(cr 16 s7.1 ([z8])).bind fun z9=>some z9)
def ir (p0s:ByteArray) (s1:Int×Int×Int):Option (Out (Int×Bool) Yq7):=
 if decide (s1.2.2<((p0s.size:Nat):Int)) then (if decide (s1.2.2<11) then (Option.bind (((jR p0s s1.2.2).bind fun z2=>if decide (z2≥48) then ((jR p0s s1.2.2).bind fun z3=>if decide (z3<=57) then ((jR p0s s1.2.2).bind fun z4=>some (IntKind.i64.wrap ((IntKind.i64.wrap (s1.1*10))+(IntKind.i64.wrap (IntKind.u8.wrap (z4 - 48)))),IntKind.i64.wrap (s1.2.1+1))) else (some (s1.1,s1.2.1))) else (some (s1.1,s1.2.1)):Option (Int×Int))) (fun s5=>some (.nxt (s5.1,s5.2,IntKind.i64.wrap (s1.2.2+1))))) else (some (.brk (s1.1,s1.2.1,s1.2.2)))) else (some (.brk (s1.1,s1.2.1,s1.2.2)))
def fU (p0s:ByteArray):Option (Int×Bool):=
 aP (ax (ir p0s) aW (0,0,0)) (fun r6=>some r6) (fun s7=>if decide (((p0s.size:Nat):Int)>0) then ((jR p0s 0).bind fun z8=>Option.bind ((if z8==45 then (some (IntKind.i64.wrap (-s7.1))) else (some s7.1):Option Int)) (fun s9=>if decide (s7.2.1>9) then (some (0,false)) else (if decide (((p0s.size:Nat):Int)>10) then (some (0,false)) else ((b9 s9).bind fun r10=>if r10 !=p0s then (some (0,false)) else (some (s9,true)))))) else (if decide (s7.2.1>9) then (some (0,false)) else (if decide (((p0s.size:Nat):Int)>10) then (some (0,false)) else ((b9 s7.1).bind fun r11=>if r11 !=p0s then (some (0,false)) else (some (s7.1,true))))))
def kC (p0s:ByteArray) (s3:Int):Option (Out (Int×Bool) Int):=
 if decide (s3<9) then ((eO s3).bind fun r3=>if r3==p0s then (some (.ret (s3,true))) else (some (.nxt (IntKind.i64.wrap (s3+1))))) else (some (.brk s3))
def fN (p0s:ByteArray):Option (Int×Bool):=
 aP (ax (kC p0s) aW 0) (fun r=>some r) (fun s4=>some (0,false))
def gg (p0s:ByteArray):Option (Yq4×Bool):=
 (im p0s 58).bind fun r0=>if (r0.length:Int) !=2 then (some ((0,0,0,0),false)) else ((aQ r0 1).bind fun x1=>if ((x1.size:Nat):Int) !=3 then (some ((0,0,0,0),false)) else ((aQ r0 0).bind fun x2=>(fU x2).bind fun r3=>(aQ r0 1).bind fun x4=>(rm x4 1 2).bind fun z5=>(fN z5).bind fun r6=>(aQ r0 1).bind fun x11=>(jR x11 0).bind fun z12=>(aQ r0 1).bind fun x13=>(jR x13 2).bind fun z14=>(jl (r3.1,IntKind.i64.wrap ((IntKind.i64.wrap z12) - 48),IntKind.i64.wrap ((IntKind.i64.wrap z14) - 48),PQ r6.1 2)).bind fun r15=>if r15 !=p0s then (some ((0,0,0,0),false)) else (some ((r3.1,IntKind.i64.wrap ((IntKind.i64.wrap z12) - 48),IntKind.i64.wrap ((IntKind.i64.wrap z14) - 48),PQ r6.1 2),true))))
def cF (r0:List ByteArray) (s3:Int×List Yq6):Option (Out ((List Yq6)×Bool) (Int×List Yq6)):=
 if decide (s3.1<(r0.length:Int)) then (if decide (s3.1<=6) then ((aQ r0 s3.1).bind fun x4=>if decide (((x4.size:Nat):Int)<2) then (some (.ret (([] :List Yq6),false))) else ((aQ r0 s3.1).bind fun x5=>(rm x5 1 ((x5.size:Nat):Int)).bind fun z6=>(gg z6).bind fun r7=>if r7.2 then ((aQ r0 s3.1).bind fun x11=>(jR x11 0).bind fun z12=>(cr 40 s3.2 ([(z12==43,r7.1.1,r7.1.2.1,r7.1.2.2.1,r7.1.2.2.2)])).bind fun z13=>some (.nxt (IntKind.i64.wrap (s3.1+1),z13))) else (some (.ret (([] :List Yq6),false))))) else (some (.brk (s3.1,s3.2)))) else (some (.brk (s3.1,s3.2)))
def dQ (p0s:ByteArray):Option ((List Yq6)×Bool):=
 if p0s==((⟨#[]⟩:ByteArray)) then (some (([] :List Yq6),true)) else ((im p0s 32).bind fun r0=>aP (ax (cF r0) aW (0,([] :List Yq6))) (fun r14=>some r14) (fun s15=>(cU s15.2).bind fun r16=>if r16 !=p0s then (some (([] :List Yq6),false)) else (some (s15.2,true))))
def jv (p0s:ByteArray):Option (Int×((List (Bool×Yq4)))×Bool):=
 (im p0s 59).bind fun r1=>if (r1.length:Int) !=3 then (some (0,[],false)) else ((aQ r1 0).bind fun x1=>(fU x1).bind fun r2=>(aQ r1 1).bind fun x2=>(dQ x2).bind fun r3=>if r2.2 then (if r3.2 then ((eP r2.1 r3.1).bind fun r4=>if r4 !=p0s then (some (0,[],false)) else (some (r2.1,r3.1,true))) else (some (0,[],false))) else (some (0,[],false)))
def bC (p0:ByteArray) (s1:(List Int)×(List (List Yq6))×Int×Int):Option (Out ((List Int)×(List (List Yq6))×Int) ((List Int)×(List (List Yq6))×Int×Int)):=
 if decide (s1.2.2.2<((p0.size:Nat):Int)) then (if decide (((p0.size:Nat):Int)<=4000) then (Hf (S:=(List Int)×(List (List Yq6))×Int) ((jR p0 s1.2.2.2).bind fun z2=>if z2 !=10 then (some (.inr (s1.1,s1.2.1,s1.2.2.1))) else ((rm p0 s1.2.2.1 (IntKind.i64.wrap (s1.2.2.2+1))).bind fun z3=>(jv z3).bind fun r4=>if r4.2.2 then (if decide ((s1.1.length:Int)>0) then ((aQ s1.1 (IntKind.i64.wrap ((s1.1.length:Int) - 1))).bind fun x5=>if r4.1 !=(IntKind.i64.wrap (x5+1)) then (some (.inl (.ret (s1.1,s1.2.1,s1.2.2.1)))) else ((cr 8 s1.1 ([r4.1])).bind fun z6=>(cr 24 s1.2.1 ([r4.2.1])).bind fun z7=>some (.inr (z6,z7,IntKind.i64.wrap (s1.2.2.2+1))))) else ((cr 8 s1.1 ([r4.1])).bind fun z8=>(cr 24 s1.2.1 ([r4.2.1])).bind fun z9=>some (.inr (z8,z9,IntKind.i64.wrap (s1.2.2.2+1))))) else (some (.inl (.ret (s1.1,s1.2.1,s1.2.2.1)))))) (fun s10=>some (.nxt (s10.1,s10.2.1,s10.2.2,IntKind.i64.wrap (s1.2.2.2+1))))) else (some (.brk (s1.1,s1.2.1,s1.2.2.1,s1.2.2.2)))) else (some (.brk (s1.1,s1.2.1,s1.2.2.1,s1.2.2.2)))
def m_s_ScanLog (p0:ByteArray):Option ((List Int)×(List (List Yq6))×Int):=
 aP (ax (bC p0) aW (([] :List Int),([] :List (List Yq6)),0,0)) (fun r11=>some r11) (fun s12=>some (s12.1,s12.2.1,s12.2.2.1))
def w7 (p0e:(Int×Yq5)×Yq8×(List Yq7)×ByteArray):Option Bool:=
 (m_s_ScanLog p0e.2.2.2).bind fun r1=>if r1.2.2==(p0e.2.2.2.size:Int) then (if decide ((p0e.2.2.2.size:Int)<=4000) then (if (r1.1.length:Int)==0 then (some true) else ((aQ r1.1 (IntKind.i64.wrap ((r1.1.length:Int) - 1))).bind fun x1=>(cE (p0e.1.1,p0e.1.2)).bind fun r2=>some (x1==r2))) else (some false)) else (some false)
def iL (p0e:(Int×Yq5)×Yq8×(List Yq7)×ByteArray):Option Bool:=
 (m_s_IsValidHistory (p0e.1.1,p0e.1.2)).bind fun r1=>if r1 then ((dX (p0e.2.1.1,p0e.2.1.2)).bind fun r2=>if r2 then ((uE ((p0e.1.1,p0e.1.2),(p0e.2.1.1,p0e.2.1.2),p0e.2.2.1,p0e.2.2.2)).bind fun r3=>if r3 then ((w7 ((p0e.1.1,p0e.1.2),(p0e.2.1.1,p0e.2.1.2),p0e.2.2.1,p0e.2.2.2)).bind fun r4=>some r4) else (some false)) else (some false)) else (some false)
def mV (p0a:List Int) (s3:(List Int)×Int):Option (Out (List Int) ((List Int)×Int)):=
 if decide (s3.2<(p0a.length:Int)) then ((aQ p0a s3.2).bind fun x6=>(aQ s3.1 s3.2).bind fun x7=>some (.nxt (s3.1.set s3.2.toNat x6,IntKind.i64.wrap (s3.2+1)))) else (some (.brk (s3.1,s3.2)))
def pv (p0a:List Int):Option (List Int):=
 (mkI 8 (p0a.length:Int) (0:Int)).bind fun x1=>aP (ax (mV p0a) aW (x1,0)) (fun r=>some r) (fun s4=>some s4.1)
def sZ (p0a:Int×Int×Int×Int):Option Yq4:=
 some (p0a.1,p0a.2.1,p0a.2.2.1,p0a.2.2.2)
def lR (p0a:List Yq4) (s3:Yq1×Int):Option (Out Yq1 (Yq1×Int)):=
 if decide (s3.2<(p0a.length:Int)) then ((aQ p0a s3.2).bind fun x6=>(sZ (x6.1,x6.2.1,x6.2.2.1,x6.2.2.2)).bind fun r3=>(aQ s3.1 s3.2).bind fun x7=>some (.nxt (s3.1.set s3.2.toNat (r3.1,r3.2.1,r3.2.2.1,r3.2.2.2),IntKind.i64.wrap (s3.2+1)))) else (some (.brk (s3.1,s3.2)))
def qg (p0a:List Yq4):Option Yq1:=
 (mkI 32 (p0a.length:Int) ((0,0,0,0):Int×Int×Int×Int)).bind fun x1=>aP (ax (lR p0a) aW (x1,0)) (fun r=>some r) (fun s4=>some s4.1)
def qi (p0a:(List Int)×Yq1):Option EN:=
 (pv p0a.1).bind fun r1=>(qg p0a.2).bind fun r2=>some (r1,r2)
def kD (p0a:List EN) (s3:Yq5×Int):Option (Out Yq5 (Yq5×Int)):=
 if decide (s3.2<(p0a.length:Int)) then ((aQ p0a s3.2).bind fun x6=>(qi (x6.1,x6.2)).bind fun r9=>(aQ s3.1 s3.2).bind fun x7=>some (.nxt (s3.1.set s3.2.toNat (r9.1,r9.2),IntKind.i64.wrap (s3.2+1)))) else (some (.brk (s3.1,s3.2)))
def oJ (p0a:List EN):Option Yq5:=
 (mkI 48 (p0a.length:Int) (([],[]):(List Int)×Yq1)).bind fun x1=>aP (ax (kD p0a) aW (x1,0)) (fun r=>some r) (fun s4=>some s4.1)
def mW (p0a:Int×Yq5):Option (Int×Yq5):=
 (oJ p0a.2).bind fun r1=>some (p0a.1,r1)
def lS (p0a:List Bool) (s3:(List Bool)×Int):Option (Out (List Bool) ((List Bool)×Int)):=
 if decide (s3.2<(p0a.length:Int)) then ((aQ p0a s3.2).bind fun x6=>(aQ s3.1 s3.2).bind fun x7=>some (.nxt (s3.1.set s3.2.toNat x6,IntKind.i64.wrap (s3.2+1)))) else (some (.brk (s3.1,s3.2)))
def qj (p0a:List Bool):Option (List Bool):=
 (mkI 1 (p0a.length:Int) (false:Bool)).bind fun x1=>aP (ax (lS p0a) aW (x1,0)) (fun r=>some r) (fun s4=>some s4.1)
def lT (p0a:List (List Int)) (s3:(List (List Int))×Int):Option (Out (List (List Int)) ((List (List Int))×Int)):=
 if decide (s3.2<(p0a.length:Int)) then ((aQ p0a s3.2).bind fun x6=>(pv x6).bind fun r6=>(aQ s3.1 s3.2).bind fun x7=>some (.nxt (s3.1.set s3.2.toNat r6,IntKind.i64.wrap (s3.2+1)))) else (some (.brk (s3.1,s3.2)))
def qk (p0a:List (List Int)):Option (List (List Int)):=
 (mkI 24 (p0a.length:Int) ([] :List Int)).bind fun x1=>aP (ax (lT p0a) aW (x1,0)) (fun r=>some r) (fun s4=>some s4.1)
def kE (p0a:Int×(List Bool)×(List (List Int))):Option Yq2:=
 (qj p0a.2.1).bind fun r1=>(qk p0a.2.2).bind fun r2=>some (p0a.1,r1,r2)
def gh (p0a:List Yq2) (s3:(List Yq2)×Int):Option (Out (List Yq2) ((List Yq2)×Int)):=
 if decide (s3.2<(p0a.length:Int)) then ((aQ p0a s3.2).bind fun x6=>(kE (x6.1,x6.2.1,x6.2.2)).bind fun r9=>(aQ s3.1 s3.2).bind fun x7=>some (.nxt (s3.1.set s3.2.toNat (r9.1,r9.2.1,r9.2.2),IntKind.i64.wrap (s3.2+1)))) else (some (.brk (s3.1,s3.2)))
def jw (p0a:List Yq2):Option (List Yq2):=
 (mkI 56 (p0a.length:Int) ((0,[],[]):Int×(List Bool)×(List (List Int)))).bind fun x1=>aP (ax (gh p0a) aW (x1,0)) (fun r=>some r) (fun s4=>some s4.1)
def ql (p0a:Int×Int×Int×Int):Option Yq4:=
 some (p0a.1,p0a.2.1,p0a.2.2.1,p0a.2.2.2)
def kF (p0a:List Yq4) (s3:Yq1×Int):Option (Out Yq1 (Yq1×Int)):=
 if decide (s3.2<(p0a.length:Int)) then ((aQ p0a s3.2).bind fun x6=>(ql (x6.1,x6.2.1,x6.2.2.1,x6.2.2.2)).bind fun r3=>(aQ s3.1 s3.2).bind fun x7=>some (.nxt (s3.1.set s3.2.toNat (r3.1,r3.2.1,r3.2.2.1,r3.2.2.2),IntKind.i64.wrap (s3.2+1)))) else (some (.brk (s3.1,s3.2)))
def oK (p0a:List Yq4):Option Yq1:=
 (mkI 32 (p0a.length:Int) ((0,0,0,0):Int×Int×Int×Int)).bind fun x1=>aP (ax (kF p0a) aW (x1,0)) (fun r=>some r) (fun s4=>some s4.1)
def ta (p0a:Yq1):Option Yq1:=
 (oK p0a).bind fun r1=>some r1
def jx (p0a:Int×(Yq1)×Int):Option Yq9:=
 (ta p0a.2.1).bind fun r1=>some (p0a.1,r1,p0a.2.2)
def fx (p0a:List Yq9) (s3:Yq3×Int):Option (Out Yq3 (Yq3×Int)):=
 if decide (s3.2<(p0a.length:Int)) then ((aQ p0a s3.2).bind fun x6=>(jx (x6.1,x6.2.1,x6.2.2)).bind fun r6=>(aQ s3.1 s3.2).bind fun x7=>some (.nxt (s3.1.set s3.2.toNat (r6.1,r6.2.1,r6.2.2),IntKind.i64.wrap (s3.2+1)))) else (some (.brk (s3.1,s3.2)))
def iM (p0a:List Yq9):Option Yq3:=
 (mkI 40 (p0a.length:Int) ((0,[],0):Int×(Yq1)×Int)).bind fun x1=>aP (ax (fx p0a) aW (x1,0)) (fun r=>some r) (fun s4=>some s4.1)
def lU (p0a:(List Yq2)×Yq3):Option Yq8:=
 (jw p0a.1).bind fun r1=>(iM p0a.2).bind fun r2=>some (r1,r2)
def jy (p0a:Int×Int×Int):Option Yq7:=
 some (p0a.1,p0a.2.1,p0a.2.2)
def fy (p0a:List Yq7) (s3:(List Yq7)×Int):Option (Out (List Yq7) ((List Yq7)×Int)):=
 if decide (s3.2<(p0a.length:Int)) then ((aQ p0a s3.2).bind fun x6=>(jy (x6.1,x6.2.1,x6.2.2)).bind fun r3=>(aQ s3.1 s3.2).bind fun x7=>some (.nxt (s3.1.set s3.2.toNat (r3.1,r3.2.1,r3.2.2),IntKind.i64.wrap (s3.2+1)))) else (some (.brk (s3.1,s3.2)))
def iN (p0a:List Yq7):Option (List Yq7):=
 (mkI 24 (p0a.length:Int) ((0,0,0):Int×Int×Int)).bind fun x1=>aP (ax (fy p0a) aW (x1,0)) (fun r=>some r) (fun s4=>some s4.1)
def iu (p0a:(Int×Yq5)×Yq8×(List Yq7)×ByteArray):Option Ww:=
 (mW (p0a.1.1,p0a.1.2)).bind fun r1=>(lU (p0a.2.1.1,p0a.2.1.2)).bind fun r2=>(iN p0a.2.2.1).bind fun r3=>some ((r1.1,r1.2),(r2.1,r2.2),r3,p0a.2.2.2)
def cd (p0n:Int) (p1a:Int) (p2b:Int):Option Bool:=
 if decide (p0n≥p1a) then (some (decide (p0n<=p2b))) else (some false)
def jY (p0e:Int×Int×Int×Int) (p1nodes:Int):Option Bool:=
 (cd p0e.1 1 99).bind fun r1=>if r1 then ((cd p0e.2.1 0 (IntKind.i64.wrap (p1nodes - 1))).bind fun r2=>if r2 then ((cd p0e.2.2.1 0 (IntKind.i64.wrap (p1nodes - 1))).bind fun r3=>if r3 then ((cd p0e.2.2.2 0 2).bind fun r4=>some r4) else (some false)) else (some false)) else (some false)
def dY (p0g:(List Int)×Yq1) (s3:Int):Option (Out Bool Int):=
 if decide (s3<(p0g.1.length:Int)) then ((aQ p0g.1 s3).bind fun x3=>(cd x3 0 2).bind fun r3=>if r3 then (some (.nxt (IntKind.i64.wrap (s3+1)))) else (some (.ret false))) else (some (.brk s3))
def di (p0g:(List Int)×Yq1) (s7:Int):Option (Out Bool Int):=
 if decide (s7<(p0g.2.length:Int)) then ((aQ p0g.2 s7).bind fun x8=>(jY (x8.1,x8.2.1,x8.2.2.1,x8.2.2.2) (p0g.1.length:Int)).bind fun r6=>if r6 then (if decide (s7>0) then ((aQ p0g.2 (IntKind.i64.wrap (s7 - 1))).bind fun x9=>if decide (x9.1≥x8.1) then (some (.ret false)) else (some (.nxt (IntKind.i64.wrap (s7+1))))) else (some (.nxt (IntKind.i64.wrap (s7+1))))) else (some (.ret false))) else (some (.brk s7))
def cA (p0g:(List Int)×Yq1):Option Bool:=
 aP (ax (dY p0g) aW 0) (fun r=>some r) (fun s4=>aP (ax (di p0g) aW 0) (fun r=>some r) (fun s8=>(cd (p0g.1.length:Int) 1 5).bind fun r7=>if r7 then (some (decide ((p0g.2.length:Int)<=12))) else (some false)))
def cB (p0s1:List Int) (p1s2:List Int) (s3:Int):Option (Out Bool Int):=
 if decide (s3<(p0s1.length:Int)) then ((aQ p0s1 s3).bind fun x5=>(aQ p1s2 s3).bind fun x6=>if x5 !=x6 then (some (.ret false)) else (some (.nxt (IntKind.i64.wrap (s3+1))))) else (some (.brk s3))
def cg (p0s1:List Int) (p1s2:List Int):Option Bool:=
 if (p0s1.length:Int) !=(p1s2.length:Int) then (some false) else (aP (ax (cB p0s1 p1s2) aW 0) (fun r=>some r) (fun s4=>some true))
def eV (p0h:Int×Yq5) (s3:Int):Option (Out Bool Int):=
 if decide (s3<(p0h.2.length:Int)) then ((aQ p0h.2 s3).bind fun x5=>(cA (x5.1,x5.2)).bind fun r15=>if r15 then ((aQ p0h.2 0).bind fun x6=>(cg x5.1 x6.1).bind fun r17=>if r17 then (some (.nxt (IntKind.i64.wrap (s3+1)))) else (some (.ret false))) else (some (.ret false))) else (some (.brk s3))
def m_i_IsValidHistory (p0h:Int×Yq5):Option Bool:=
 (cd (p0h.2.length:Int) 1 8).bind fun r1=>if r1 then ((cd p0h.1 1 (IntKind.i64.wrap ((IntKind.i64.wrap (999 - (p0h.2.length:Int)))+1))).bind fun r2=>if r2 then (aP (ax (eV p0h) aW 0) (fun r=>some r) (fun s4=>some true)) else (some false)) else (some false)
def jZ (p0n:Int):Option Bool:=
 (cd p0n 0 8).bind fun r1=>some r1
def qm (p0t:Int×Int×Int×Int):Option Bool:=
 if p0t.1==3 then ((jZ p0t.2.1).bind fun r3=>if r3 then (if p0t.2.2.1==0 then (some (p0t.2.2.2==0)) else (some false)) else (some false)) else (if p0t.1==7 then (if p0t.2.1==0 then ((cd p0t.2.2.1 0 p0t.2.2.2).bind fun r1=>if r1 then ((cd p0t.2.2.2 1 3).bind fun r2=>some r2) else (some false)) else (some false)) else (Option.bind ((if p0t.1==1 then (some (p0t.1==1)) else (if p0t.1==2 then (some (p0t.1==2)) else (if p0t.1==4 then (some (p0t.1==4)) else (if p0t.1==5 then (some (p0t.1==5)) else (some (p0t.1==6))))):Option Bool)) (fun s1=>if s1 then (some ((p0t.1==p0t.1)&&((p0t.2.1==0)&&((p0t.2.2.1==0)&&((p0t.2.2.2==0)&&true))))) else (some false))))
def qn (p0e:List Yq4) (s1:(List (Tr Yq4))×Int):Option (Out (Tr Yq4) ((List (Tr Yq4))×Int)):=
 if decide (s1.2<(p0e.length:Int)) then ((aQ p0e s1.2).bind fun x2=>Option.bind ((Option.bind ((if x2.1==4 then (some (x2.1==4)) else (some (x2.1==5)):Option Bool)) (fun s3=>if s3 then (some 2) else (Option.bind ((if x2.1==6 then (some (x2.1==6)) else (some (x2.1==7)):Option Bool)) (fun s4=>if s4 then (some 1) else (some 0)))):Option Int)) (fun s5=>(qm (x2.1,x2.2.1,x2.2.2.1,x2.2.2.2)).bind fun r6=>if r6 then (if decide ((IntKind.i64.wrap ((s1.1.length:Int) - s5))<0) then (some (.ret Tr.nil)) else ((chk (And (0<=(IntKind.i64.wrap ((s1.1.length:Int) - s5))) ((IntKind.i64.wrap ((s1.1.length:Int) - s5))<=(s1.1.length:Int)))).bind fun _=>(cr 8 ([] :List (Tr Yq4)) (s1.1.drop ((IntKind.i64.wrap ((s1.1.length:Int) - s5)).toNat))).bind fun z10=>(chk (And (0<=(IntKind.i64.wrap ((s1.1.length:Int) - s5))) ((IntKind.i64.wrap ((s1.1.length:Int) - s5))<=(s1.1.length:Int)))).bind fun _=>(cr 8 (s1.1.take ((IntKind.i64.wrap ((s1.1.length:Int) - s5)).toNat)) ([Tr.node (x2.1,x2.2.1,x2.2.2.1,x2.2.2.2) z10])).bind fun z12=>some (.nxt (z12,IntKind.i64.wrap (s1.2+1))))) else (some (.ret Tr.nil)))) else (some (.brk (s1.1,s1.2)))
def nt (p0e:List Yq4):Option (Tr Yq4):=
 aP (ax (qn p0e) aW (([] :List (Tr Yq4)),0)) (fun r13=>some r13) (fun s14=>if (s14.1.length:Int) !=1 then (some Tr.nil) else ((aQ s14.1 0).bind fun x15=>some x15))
def tc (p0e:List Yq4):Option Bool:=
 (nt p0e).bind fun r0=>some (cond.match_1 (fun (u4:Bool)=>Bool) (Tr.isNil r0) (fun (u5:Unit)=>false) (fun (u6:Unit)=>true))
def kG (p0e:Yq1):Option Bool:=
 if decide ((p0e.length:Int)<=24) then ((tc p0e).bind fun r1=>some r1) else (some false)
def bN (mrec:(Tr Yq4)->Option Int) (p0x:Tr Yq4) (z1:Yq4×List (Tr Yq4)) (s3:Int×Int):Option zg:=
 if decide (s3.2<(z1.2.length:Int)) then (Option.bind (((aQ z1.2 s3.2).bind fun x4=>(Tr.get p0x).bind fun z5=>(Tr.get p0x).bind fun z6=>if z6.1.1==7 then ((mrec x4).bind fun r10=>(Tr.get p0x).bind fun z11=>(Tr.get p0x).bind fun z12=>some (IntKind.i64.wrap (s3.1+(IntKind.i64.wrap ((IntKind.i64.wrap (r10+3))*z12.1.2.2.2))))) else ((mrec x4).bind fun r13=>some (IntKind.i64.wrap (s3.1+r13))):Option Int)) (fun s14=>some (.nxt (s14,IntKind.i64.wrap (s3.2+1))))) else (some (.brk (s3.1,s3.2)))
def bV:Nat->(Tr Yq4)->Option Int
 | 0,_=>none
 | n+1,p0x =>
  (Tr.get p0x).bind fun z0=>(Tr.get p0x).bind fun z1=>aP (ax (bN (bV n) p0x z1) aW (1,0)) (fun r15=>some r15) (fun s16=>some (Min.min s16.1 100000))
def DR (p0kind:Int):Option (Tr Yq4):=
 some (Tr.node (p0kind,0,0,0) ([] :List (Tr Yq4)))
def j4:Nat->(Tr Yq4)->Int->Int->Option (Tr Yq4)
 | 0,_,_,_=>none
 | n+1,p0x,p1low,p2high =>
  if p2high==0 then ((DR 2).bind fun r0=>some r0) else (((j4 n) p0x (Max.max 0 (IntKind.i64.wrap (p1low - 1))) (IntKind.i64.wrap (p2high - 1))).bind fun r1=>if decide (p1low>0) then (some (Tr.node (4,0,0,0) ([p0x,r1]))) else ((DR 2).bind fun r2=>some (Tr.node (5,0,0,0) ([Tr.node (4,0,0,0) ([p0x,r1]),r2]))))
def bw (mrec:(Tr Yq4)->Option (Tr Yq4)) (z23:Yq4×List (Tr Yq4)) (s26:Int×Int×Int×Int×Int×List (Tr Yq4)):Option (Out (Tr Yq4) (Int×Int×Int×Int×Int×List (Tr Yq4))):=
 if decide (s26.1<(z23.2.length:Int)) then ((aQ z23.2 s26.1).bind fun x27=>(mrec x27).bind fun r30=>(cr 8 s26.2.2.2.2.2 ([r30])).bind fun z31=>some (.nxt (IntKind.i64.wrap (s26.1+1),s26.2.1,s26.2.2.1,s26.2.2.2.1,s26.2.2.2.2.1,z31))) else (some (.brk (s26.1,s26.2.1,s26.2.2.1,s26.2.2.2.1,s26.2.2.2.2.1,s26.2.2.2.2.2)))
def bF:Nat->(Tr Yq4)->Option (Tr Yq4)
 | 0,_=>none
 | n+1,p0x =>
  (Tr.get p0x).bind fun z0=>(Tr.get p0x).bind fun z1=>if z1.1.1==7 then ((Tr.get p0x).bind fun z11=>(Tr.get p0x).bind fun z12=>(aQ z12.2 0).bind fun x13=>((bF n) x13).bind fun r14=>(Tr.get p0x).bind fun z15=>(Tr.get p0x).bind fun z16=>(Tr.get p0x).bind fun z17=>(Tr.get p0x).bind fun z18=>(j4 gB r14 z16.1.2.2.1 z18.1.2.2.2).bind fun r19=>some r19) else ((Tr.get p0x).bind fun z20=>(Tr.get p0x).bind fun z21=>(Tr.get p0x).bind fun z22=>(Tr.get p0x).bind fun z23=>aP (ax (bw (bF n) z23) aW (0,z21.1.1,z21.1.2.1,z21.1.2.2.1,z21.1.2.2.2,([] :List (Tr Yq4)))) (fun r32=>some r32) (fun s33=>some (Tr.node (s33.2.1,s33.2.2.1,s33.2.2.2.1,s33.2.2.2.2.1) s33.2.2.2.2.2)))
def bg (mrec:(Tr Yq4)->Yq1->Option Yq1) (z1:Yq4×List (Tr Yq4)) (s4:Int×List Yq4):Option (Out Yq1 (Int×List Yq4)):=
 if decide (s4.1<(z1.2.length:Int)) then ((aQ z1.2 s4.1).bind fun x5=>(mrec x5 s4.2).bind fun r6=>some (.nxt (IntKind.i64.wrap (s4.1+1),r6))) else (some (.brk (s4.1,s4.2)))
def bD:Nat->(Tr Yq4)->Yq1->Option Yq1 
 | 0,_,_=>none
 | n+1,p0x,p1out =>
  (Tr.get p0x).bind fun z0=>(Tr.get p0x).bind fun z1=>aP (ax (bg (bD n) z1) aW (0,p1out)) (fun r7=>some r7) (fun s8=>(Tr.get p0x).bind fun z12=>(Tr.get p0x).bind fun z13=>(cr 32 s8.2 ([(z13.1.1,z13.1.2.1,z13.1.2.2.1,z13.1.2.2.2)])).bind fun z14=>some z14)
def qo (p0x:Tr Yq4):Option Yq1:=
 (bD gB p0x ([] :List Yq4)).bind fun r0=>some r0
def lV (p0e:List Yq4):Option (Yq1×Bool):=
 (kG p0e).bind fun r0=>if r0 then ((nt p0e).bind fun r1=>(bV gB r1).bind fun r2=>if decide (r2>5000) then (some (([] :List Yq4),false)) else ((bF gB r1).bind fun r3=>(qo r3).bind fun r4=>if decide ((r4.length:Int)>400) then (some (([] :List Yq4),false)) else (some (r4,true)))) else (some (([] :List Yq4),false))
def cV (p0p:(List Int)×Int×Int×(List Int)×Bool) (p1last:Int) (p2first:Int) (s2:Int×List Int):Option (Out PL (Int×List Int)):=
 if decide (s2.1<(p0p.2.2.2.1.length:Int)) then (Option.bind (((chk (0<=s2.1)).bind fun _=>if (zr (tJ p1last s2.1) 1)==1 then ((aQ s2.2 s2.1).bind fun x4=>(aQ s2.2 s2.1).bind fun x5=>some (s2.2.set s2.1.toNat (orI x4 p2first))) else (some s2.2):Option (List Int))) (fun s6=>some (.nxt (IntKind.i64.wrap (s2.1+1),s6)))) else (some (.brk (s2.1,s2.2)))
def dH (p0p:(List Int)×Int×Int×(List Int)×Bool) (p1last:Int) (p2first:Int):Option PL:=
 aP (ax (cV p0p p1last p2first) aW (0,p0p.2.2.2.1)) (fun r7=>some r7) (fun s8=>some (p0p.1,p0p.2.1,p0p.2.2.1,s8.2,p0p.2.2.2.2))
def bG:Nat->PL->(Tr Yq4)->Option ((Int×Int×Bool)×(List Int)×Int×Int×(List Int)×Bool)
 | 0,_,_=>none
 | n+1,p0,p1 =>
  (Tr.get p1).bind fun z0=>(Tr.get p1).bind fun z1=>if z1.1.1==2 then (some ((0,0,true),p0.1,p0.2.1,p0.2.2.1,p0.2.2.2.1,p0.2.2.2.2)) else (if z1.1.1==3 then ((Tr.get p1).bind fun z5=>(Tr.get p1).bind fun z6=>(cr 8 p0.1 ([z6.1.2.1])).bind fun z7=>(cr 8 p0.2.2.2.1 ([0])).bind fun z8=>some ((I0 1 (p0.1.length:Int),I0 1 (p0.1.length:Int),false),z7,p0.2.1,p0.2.2.1,z8,p0.2.2.2.2)) else (if z1.1.1==5 then ((Tr.get p1).bind fun z17=>(Tr.get p1).bind fun z18=>(aQ z18.2 0).bind fun x19=>((bG n) (p0.1,p0.2.1,p0.2.2.1,p0.2.2.2.1,p0.2.2.2.2) x19).bind fun r20=>(Tr.get p1).bind fun z21=>(Tr.get p1).bind fun z22=>(aQ z22.2 1).bind fun x23=>((bG n) r20.2 x23).bind fun r24=>if r20.1.2.2 then (some ((orI r20.1.1 r24.1.1,orI r20.1.2.1 r24.1.2.1,true),r24.2.1,r24.2.2.1,r24.2.2.2.1,r24.2.2.2.2.1,r24.2.2.2.2.2)) else (some ((orI r20.1.1 r24.1.1,orI r20.1.2.1 r24.1.2.1,r24.1.2.2),r24.2.1,r24.2.2.1,r24.2.2.2.1,r24.2.2.2.2.1,r24.2.2.2.2.2))) else (if z1.1.1==4 then ((Tr.get p1).bind fun z33=>(Tr.get p1).bind fun z34=>(aQ z34.2 0).bind fun x35=>((bG n) (p0.1,p0.2.1,p0.2.2.1,p0.2.2.2.1,p0.2.2.2.2) x35).bind fun r36=>(Tr.get p1).bind fun z37=>(Tr.get p1).bind fun z38=>(aQ z38.2 1).bind fun x39=>((bG n) r36.2 x39).bind fun r40=>(dH (r40.2.1,r40.2.2.1,r40.2.2.2.1,r40.2.2.2.2.1,r40.2.2.2.2.2) r36.1.2.1 r40.1.1).bind fun r41=>if r36.1.2.2 then (Option.bind ((if r36.1.2.2 then (some (orI r36.1.1 r40.1.1,r40.1.2.1,r40.1.2.2)) else (some (r36.1.1,r40.1.2.1,r40.1.2.2)):Option (Int×Int×Bool))) (fun s42=>Option.bind ((if r40.1.2.2 then (some (s42.1,orI s42.2.1 r36.1.2.1,s42.2.2)) else (some (s42.1,s42.2.1,s42.2.2)):Option (Int×Int×Bool))) (fun s43=>some ((s43.1,s43.2.1,s43.2.2),r41.1,r41.2.1,r41.2.2.1,r41.2.2.2.1,r41.2.2.2.2)))) else (Option.bind ((if r36.1.2.2 then (some (orI r36.1.1 r40.1.1,r40.1.2.1,false)) else (some (r36.1.1,r40.1.2.1,false)):Option (Int×Int×Bool))) (fun s44=>Option.bind ((if r40.1.2.2 then (some (s44.1,orI s44.2.1 r36.1.2.1,s44.2.2)) else (some (s44.1,s44.2.1,s44.2.2)):Option (Int×Int×Bool))) (fun s45=>some ((s45.1,s45.2.1,s45.2.2),r41.1,r41.2.1,r41.2.2.1,r41.2.2.2.1,r41.2.2.2.2))))) else (if z1.1.1==6 then ((Tr.get p1).bind fun z46=>(Tr.get p1).bind fun z47=>(aQ z47.2 0).bind fun x48=>((bG n) (p0.1,p0.2.1,p0.2.2.1,p0.2.2.2.1,p0.2.2.2.2) x48).bind fun r49=>(dH (r49.2.1,r49.2.2.1,r49.2.2.2.1,r49.2.2.2.2.1,r49.2.2.2.2.2) r49.1.2.1 r49.1.1).bind fun r50=>some ((r49.1.1,r49.1.2.1,true),r50.1,r50.2.1,r50.2.2.1,r50.2.2.2.1,r50.2.2.2.2)) else (some ((0,0,false),p0.1,p0.2.1,p0.2.2.1,p0.2.2.2.1,p0.2.2.2.2))))))
def dw (r0:Yq1×Bool) (s2:Int×Int):Option (Out (PL×Bool) (Int×Int)):=
 if decide (s2.2<(r0.1.length:Int)) then (Option.bind (((aQ r0.1 s2.2).bind fun x3=>if x3.1==3 then (some (IntKind.i64.wrap (s2.1+1))) else (some s2.1):Option Int)) (fun s4=>some (.nxt (s4,IntKind.i64.wrap (s2.2+1))))) else (some (.brk (s2.1,s2.2)))
def gQ (p0e:List Yq4):Option (PL×Bool):=
 (lV p0e).bind fun r0=>if r0.2 then (aP (ax (dw r0) aW (0,0)) (fun r5=>some r5) (fun s6=>if decide (s6.1>20) then (some ((([] :List Int),0,0,([] :List Int),false),false)) else ((nt r0.1).bind fun r7=>(bG gB (([] :List Int),0,0,([] :List Int),false) r7).bind fun r8=>some ((r8.2.1,r8.1.1,r8.1.2.1,r8.2.2.2.2.1,r8.1.2.2),true)))) else (some ((([] :List Int),0,0,([] :List Int),false),false))
def dZ (p3:Int->Int->Option (Int×Bool)) (s29:(List Int)×(List (Int×Int))×Int×Int×(List Bool)×(List (List Int))) (s39:(List Int)×(List (Int×Int))×(List Int)×Int):Option (Out (Yq2×Bool) ((List Int)×(List (Int×Int))×(List Int)×Int)):=
 if decide (s39.2.2.2<9) then (Option.bind (((aQ s39.1 s29.2.2.1).bind fun x20=>(p3 x20 s39.2.2.2).bind fun r20=>if r20.2 then ((chk (iOk r20.1=true)).bind fun _=>Option.bind ((if (lkM s39.2.1 r20.1).isSome then (some (s39.1,s39.2.1,(lkM s39.2.1 r20.1).getD 0)) else ((Mf s39.2.1 iOk iOk r20.1 (s39.1.length:Int)).bind fun m37=>(cr 8 s39.1 ([r20.1])).bind fun z75=>some (z75,m37,(s39.1.length:Int))):Option ((List Int)×(List (Int×Int))×Int))) (fun s43=>(cr 8 s39.2.2.1 ([s43.2.2])).bind fun z76=>some (s43.1,s43.2.1,z76))) else ((cr 8 s39.2.2.1 ([-1])).bind fun z73=>some (s39.1,s39.2.1,z73)):Option ((List Int)×(List (Int×Int))×(List Int)))) (fun s42=>some (.nxt (s42.1,s42.2.1,s42.2.2,IntKind.i64.wrap (s39.2.2.2+1))))) else (some (.brk (s39.1,s39.2.1,s39.2.2.1,s39.2.2.2)))
def b7 (p1:Int) (p2:Int->Option Bool) (p3:Int->Int->Option (Int×Bool)) (s29:(List Int)×(List (Int×Int))×Int×Int×(List Bool)×(List (List Int))):Option (Out (Yq2×Bool) ((List Int)×(List (Int×Int))×Int×Int×(List Bool)×(List (List Int)))):=
 if decide (s29.2.2.1<(s29.1.length:Int)) then (aP (ax (dZ p3 s29) aW (s29.1,s29.2.1,([] :List Int),0)) (fun r=>some (.ret r)) (fun s40=>if decide ((s40.1.length:Int)>p1) then (some (.ret ((0,[],[]),false))) else ((aQ s40.1 s29.2.2.1).bind fun x21=>(p2 x21).bind fun r21=>(cr 1 s29.2.2.2.2.1 ([r21])).bind fun z77=>(cr 24 s29.2.2.2.2.2 ([s40.2.2.1])).bind fun z78=>some (.nxt (s40.1,s40.2.1,IntKind.i64.wrap (s29.2.2.1+1),s29.2.2.2.1,z77,z78))))) else (some (.brk (s29.1,s29.2.1,s29.2.2.1,s29.2.2.2.1,s29.2.2.2.2.1,s29.2.2.2.2.2)))
def eQ (p0:Int) (p1:Int) (p2:Int->Option Bool) (p3:Int->Int->Option (Int×Bool)):Option (Yq2×Bool):=
 (Mf ([] :List (Int×Int)) iOk iOk p0 0).bind fun m1=>aP (ax (b7 p1 p2 p3) aW ([p0],m1,0,0,[],[])) (fun r=>some r) (fun s30=>some ((s30.2.2.2.1,s30.2.2.2.2.1,s30.2.2.2.2.2),true))
def dx (p0p:(List Int)×Int×Int×(List Int)×Bool) (p1set:Int):Option Bool:=
 if (zr p1set 1)==1 then (if p0p.2.2.2.2 then (some true) else (some ((zr (tJ p1set 1) p0p.2.2.1) !=0))) else (some ((zr (tJ p1set 1) p0p.2.2.1) !=0))
def db (p0p:(List Int)×Int×Int×(List Int)×Bool) (p1set:Int) (s6:Int×Int):Option zg:=
 if decide (s6.2<(p0p.2.2.2.1.length:Int)) then (Option.bind (((aQ p0p.2.2.2.1 s6.2).bind fun x6=>(chk (0<=IntKind.i64.wrap (s6.2+1))).bind fun _=>if (zr (tJ p1set (IntKind.i64.wrap (s6.2+1))) 1)==1 then (some (orI s6.1 x6)) else (some s6.1):Option Int)) (fun s8=>some (.nxt (s8,IntKind.i64.wrap (s6.2+1))))) else (some (.brk (s6.1,s6.2)))
def de (p0p:(List Int)×Int×Int×(List Int)×Bool) (p2letter:Int) (s7:Int×Int) (s13:Int×Int):Option zg:=
 if decide (s13.2<(p0p.1.length:Int)) then (Option.bind (((aQ p0p.1 s13.2).bind fun x12=>if x12==p2letter then ((chk (0<=s13.2)).bind fun _=>if (zr (tJ s7.1 s13.2) 1)==1 then ((chk (0<=IntKind.i64.wrap (s13.2+1))).bind fun _=>some (orI s13.1 (I0 1 (IntKind.i64.wrap (s13.2+1))))) else (some s13.1)) else (some s13.1):Option Int)) (fun s15=>some (.nxt (s15,IntKind.i64.wrap (s13.2+1))))) else (some (.brk (s13.1,s13.2)))
def gi (p0p:(List Int)×Int×Int×(List Int)×Bool) (p1set:Int) (p2letter:Int):Option Int:=
 Option.bind ((if (zr p1set 1)==1 then (some p0p.2.1) else (some 0):Option Int)) (fun s1=>aP (ax (db p0p p1set) aW (s1,0)) (fun r=>some r) (fun s7=>aP (ax (de p0p p2letter s7) aW (0,0)) (fun r=>some r) (fun s14=>some s14.1)))
def dj (p0set:Int) (p1letter:Int) (q0:(List Int)×Int×Int×(List Int)×Bool):Option (Int×Bool):=
 (gi (q0.1,q0.2.1,q0.2.2.1,q0.2.2.2.1,q0.2.2.2.2) p0set p1letter).bind fun r1=>some (r1,r1 !=0)
def iw (p0p:(List Int)×Int×Int×(List Int)×Bool) (p1most:Int):Option (Yq2×Bool):=
 (eQ 1 p1most (fun a0=>dx (p0p.1,p0p.2.1,p0p.2.2.1,p0p.2.2.2.1,p0p.2.2.2.2) a0) (fun a0 a1=>dj a0 a1 (p0p.1,p0p.2.1,p0p.2.2.1,p0p.2.2.2.1,p0p.2.2.2.2))).bind fun r1=>some ((r1.1.1,r1.1.2.1,r1.1.2.2),r1.2)
def dy (s5:Bool×Int×List Bool) (x6:List Int) (s8:Bool×Int×List Bool):Option (Out (List Bool) (Bool×Int×List Bool)):=
 if decide (s8.2.1<(x6.length:Int)) then (Option.bind (((aQ x6 s8.2.1).bind fun x9=>if decide (x9≥0) then ((aQ s8.2.2 x9).bind fun x10=>if x10 then ((aQ s8.2.2 s5.2.1).bind fun x11=>if x11 then (some (s8.1,s8.2.2)) else ((aQ s8.2.2 s5.2.1).bind fun x12=>some (true,s8.2.2.set s5.2.1.toNat true))) else (some (s8.1,s8.2.2))) else (some (s8.1,s8.2.2)):Option (Bool×List Bool))) (fun s13=>some (.nxt (s13.1,IntKind.i64.wrap (s8.2.1+1),s13.2)))) else (some (.brk (s8.1,s8.2.1,s8.2.2)))
def dz (p0a:Int×(List Bool)×List (List Int)) (s5:Bool×Int×List Bool):Option (Out (List Bool) (Bool×Int×List Bool)):=
 if decide (s5.2.1<(p0a.2.2.length:Int)) then ((aQ p0a.2.2 s5.2.1).bind fun x6=>aP (ax (dy s5 x6) aW (s5.1,0,s5.2.2)) (fun r14=>some (.ret r14)) (fun s15=>some (.nxt (s15.1,IntKind.i64.wrap (s5.2.1+1),s15.2.2)))) else (some (.brk (s5.1,s5.2.1,s5.2.2)))
def ix (p0a:Int×(List Bool)×List (List Int)) (s3:Bool×List Bool):Option (Out (List Bool) (Bool×List Bool)):=
 if s3.1 then (aP (ax (dz p0a) aW (false,0,s3.2)) (fun r16=>some (.ret r16)) (fun s17=>some (.nxt (s17.1,s17.2.2)))) else (some (.brk (s3.1,s3.2)))
def eW (p0a:Int×(List Bool)×List (List Int)):Option (List Bool):=
 (cr 1 ([] :List Bool) p0a.2.1).bind fun z0=>aP (ax (ix p0a) aW (true,z0)) (fun r18=>some r18) (fun s19=>some s19.2)
def cj (p0s:List (List Int)) (p1f:(List Int)->Option Bool) (s3:Int):Option (Out Int Int):=
 if decide (s3<(p0s.length:Int)) then ((aQ p0s s3).bind fun x3=>(p1f x3).bind fun r6=>if r6 then (some (.ret s3)) else (some (.nxt (IntKind.i64.wrap (s3+1))))) else (some (.brk s3))
def bX (p0s:List (List Int)) (p1f:(List Int)->Option Bool):Option Int:=
 aP (ax (cj p0s p1f) aW 0) (fun r=>some r) (fun s4=>some (-1))
def gM (p0x:List Int) (q0:List Int):Option Bool:=
 (cg p0x q0).bind fun r1=>some r1
def cW (p1:List Int) (x57:List Int) (s52:Int×(List Int)):Option (Out ((List Int)×Int) (Int×(List Int))):=
 if decide (s52.1<(x57.length:Int)) then ((aQ x57 s52.1).bind fun x64=>Option.bind ((if decide (x64≥0) then ((aQ p1 x64).bind fun x66=>some x66) else (some x64):Option Int)) (fun s54=>(cr 8 s52.2 ([s54])).bind fun z38=>some (.nxt (IntKind.i64.wrap (s52.1+1),z38)))) else (some (.brk (s52.1,s52.2)))
def dL (p0:Int×(List Bool)×(List (List Int))) (p1:List Int) (s37:(List (List Int))×(List Int)×Int):Option (Out ((List Int)×Int) ((List (List Int))×(List Int)×Int)):=
 if decide (s37.2.2<(p1.length:Int)) then (Option.bind (((aQ p1 s37.2.2).bind fun x56=>if decide (x56<0) then ((cr 8 s37.2.1 ([-1])).bind fun z42=>some (s37.1,z42)) else ((aQ p0.2.2 s37.2.2).bind fun x57=>aP (ax (cW p1 x57) aW (0,[x56])) (fun _=>none) (fun s53=>(bX s37.1 (fun a0=>gM a0 s53.2)).bind fun r12=>Option.bind ((if decide (r12<0) then ((cr 24 s37.1 ([s53.2])).bind fun z40=>some (z40,(s37.1.length:Int))) else (some (s37.1,r12)):Option ((List (List Int))×Int))) (fun s55=>(cr 8 s37.2.1 ([s55.2])).bind fun z41=>some (s55.1,z41)))):Option ((List (List Int))×(List Int)))) (fun s47=>some (.nxt (s47.1,s47.2,IntKind.i64.wrap (s37.2.2+1))))) else (some (.brk (s37.1,s37.2.1,s37.2.2)))
def dI (p0:Int×(List Bool)×(List (List Int))) (p1:List Int):Option ((List Int)×Int):=
 aP (ax (dL p0 p1) aW (([] :List (List Int)),([] :List Int),0)) (fun r=>some r) (fun s38=>some (s38.2.1,(s38.1.length:Int)))
def cG (p0a:Int×(List Bool)×(List (List Int))) (r1:List Bool) (s5:(List Int)×Int):Option (Out (List Int) ((List Int)×Int)):=
 if decide (s5.2<(r1.length:Int)) then (Option.bind (((aQ r1 s5.2).bind fun x11=>if x11 then ((aQ p0a.2.1 s5.2).bind fun x12=>if x12 then ((cr 8 s5.1 ([1])).bind fun z18=>some z18) else ((cr 8 s5.1 ([0])).bind fun z17=>some z17)) else ((cr 8 s5.1 ([-1])).bind fun z16=>some z16):Option (List Int))) (fun s7=>some (.nxt (s7,IntKind.i64.wrap (s5.2+1))))) else (some (.brk (s5.1,s5.2)))
def fO (p0a:Int×(List Bool)×(List (List Int))) (s10:(List Int)×Int):Option (Out (List Int) ((List Int)×Int)):=
 (dI (p0a.1,p0a.2.1,p0a.2.2) s10.1).bind fun r4=>if r4.2==s10.2 then (some (.ret r4.1)) else (some (.nxt (r4.1,r4.2)))
def dA (p0a:Int×(List Bool)×(List (List Int))):Option (List Int):=
 (eW (p0a.1,p0a.2.1,p0a.2.2)).bind fun r1=>aP (ax (cG p0a r1) aW (([] :List Int),0)) (fun r=>some r) (fun s6=>aP (ax (fO p0a) aW (s6.1,-1)) (fun r=>some r) (fun s11=>none))
def uF (p0x:Int) (p1y:Int):Option (Int×Int):=
 some (IntKind.u32.wrap (tJ (IntKind.u64.wrap ((IntKind.u64.wrap p0x)*(IntKind.u64.wrap p1y))) 32),IntKind.u32.wrap (IntKind.u64.wrap ((IntKind.u64.wrap p0x)*(IntKind.u64.wrap p1y))))
def nL (p0x:Int) (p1y:Int):Option (Int×Int):=
 some (IntKind.u64.wrap ((IntKind.u64.wrap ((IntKind.u64.wrap ((tJ p0x 32)*(tJ p1y 32)))+(tJ (IntKind.u64.wrap ((IntKind.u64.wrap ((tJ p0x 32)*(PI p1y 4294967295)))+(tJ (IntKind.u64.wrap ((PI p0x 4294967295)*(PI p1y 4294967295))) 32))) 32)))+(tJ (IntKind.u64.wrap ((PI (IntKind.u64.wrap ((IntKind.u64.wrap ((tJ p0x 32)*(PI p1y 4294967295)))+(tJ (IntKind.u64.wrap ((PI p0x 4294967295)*(PI p1y 4294967295))) 32))) 4294967295)+(IntKind.u64.wrap ((PI p0x 4294967295)*(tJ p1y 32))))) 32)),IntKind.u64.wrap (p0x*p1y))
def pw (p0x:Int) (p1y:Int):Option (Int×Int):=
 (nL p0x p1y).bind fun r1=>some (r1.1,r1.2)
def mn (s4:Int×List Int):Option (Out (List Int) (Int×List Int)):=
 if decide (s4.1<(s4.2.length:Int)) then ((chk (And (0<=s4.1) (s4.1<=(s4.2.length:Int)))).bind fun _=>(chk (And (0<=s4.1) (s4.1<=(s4.2.length:Int)))).bind fun _=>(chk (And (0<=s4.1) (s4.1<=(s4.2.length:Int)))).bind fun _=>(chk (And (0<=s4.1) (s4.1<=(s4.2.length:Int)))).bind fun _=>some (.nxt (IntKind.i64.wrap (s4.1+((Min.min ((s4.2.take s4.1.toNat).length) (s4.2.length - s4.1.toNat):Nat):Int)),Bv s4.2 s4.1.toNat (s4.2.take s4.1.toNat)))) else (some (.brk (s4.1,s4.2)))
def iy (p0x:List Int) (p1count:Int):Option (List Int):=
 if decide (p1count<0) then (none) else ((pw (IntKind.u64.wrap (p0x.length:Int)) (IntKind.u64.wrap p1count)).bind fun r0=>if decide (r0.1>0) then (none) else (if decide (r0.2>9223372036854775807) then (none) else ((mkI 8 (IntKind.i64.wrap r0.2) 0).bind fun z1=>aP (ax (mn) aW (((Min.min p0x.length (z1.length - 0):Nat):Int),Bv z1 0 p0x)) (fun r13=>some r13) (fun s14=>some s14.2))))
def uG:Option Yq2:=
 (iy ([-1]) 9).bind fun r1=>some (0,[false],[r1])
def dF (p0s:List Int) (p1v:Int) (s3:Int):Option (Out Int Int):=
 if decide (s3<(p0s.length:Int)) then ((aQ p0s s3).bind fun x3=>if p1v==x3 then (some (.ret s3)) else (some (.nxt (IntKind.i64.wrap (s3+1))))) else (some (.brk s3))
def eL (p0s:List Int) (p1v:Int):Option Int:=
 aP (ax (dF p0s p1v) aW 0) (fun r=>some r) (fun s4=>some (-1))
def bc (p0class:Int) (q0:List Int):Option Int:=
 (eL q0 p0class).bind fun r1=>some r1
def cH (p0c:Int) (q0:Int×(List Bool)×(List (List Int))) (q1:Int->Option Int):Option Bool:=
 (q1 p0c).bind fun r1=>(aQ q0.2.1 r1).bind fun x1=>some x1
def eX (p0a:Int×(List Bool)×(List (List Int))) (p1s:Int) (p2letter:Int):Option Int:=
 if decide (p1s<0) then (some (-1)) else ((jZ p2letter).bind fun r1=>if r1 then ((aQ p0a.2.2 p1s).bind fun x1=>(aQ x1 p2letter).bind fun x2=>some x2) else (some (-1)))
def cJ (p0c:Int) (p1letter:Int) (q0:Int×(List Bool)×(List (List Int))) (q1:Int->Option Int) (q2:List Int):Option (Int×Bool):=
 (q1 p0c).bind fun r1=>(eX (q0.1,q0.2.1,q0.2.2) r1 p1letter).bind fun r2=>if decide (r2<0) then (some (0,false)) else ((aQ q2 r2).bind fun x1=>if decide (x1<0) then (some (0,false)) else ((aQ q2 r2).bind fun x2=>some (x2,true)))
def df (p0a:Int×(List Bool)×(List (List Int))):Option Yq2:=
 (dA (p0a.1,p0a.2.1,p0a.2.2)).bind fun r1=>(aQ r1 p0a.1).bind fun x1=>if decide (x1<0) then ((uG).bind fun r3=>some (r3.1,r3.2.1,r3.2.2)) else ((aQ r1 p0a.1).bind fun x2=>(eQ x2 (r1.length:Int) (fun a0=>cH a0 (p0a.1,p0a.2.1,p0a.2.2) (fun a0=>bc a0 r1)) (fun a0 a1=>cJ a0 a1 (p0a.1,p0a.2.1,p0a.2.2) (fun a0=>bc a0 r1) r1)).bind fun r2=>some (r2.1.1,r2.1.2.1,r2.1.2.2))
def An (p0a:Int×(List Bool)×(List (List Int))):Option (Yq2×Bool):=
 (df (p0a.1,p0a.2.1,p0a.2.2)).bind fun r1=>if decide ((r1.2.1.length:Int)>12) then (some ((0,[],[]),false)) else (some ((r1.1,r1.2.1,r1.2.2),true))
def iz (p0e:Yq1):Option (Yq2×Bool):=
 (gQ p0e).bind fun r1=>if r1.2 then ((iw (r1.1.1,r1.1.2.1,r1.1.2.2.1,r1.1.2.2.2.1,r1.1.2.2.2.2) 200).bind fun r2=>if r2.2 then ((An (r2.1.1,r2.1.2.1,r2.1.2.2)).bind fun r3=>some ((r3.1.1,r3.1.2.1,r3.1.2.2),r3.2)) else (some ((0,[],[]),false))) else (some ((0,[],[]),false))
def bT (p0s:List Yq2) (p1f:Yq2->Option Bool) (s3:Int):Option (Out Int Int):=
 if decide (s3<(p0s.length:Int)) then ((aQ p0s s3).bind fun x3=>(p1f (x3.1,x3.2.1,x3.2.2)).bind fun r9=>if r9 then (some (.ret s3)) else (some (.nxt (IntKind.i64.wrap (s3+1))))) else (some (.brk s3))
def ba (p0s:List Yq2) (p1f:Yq2->Option Bool):Option Int:=
 aP (ax (bT p0s p1f) aW 0) (fun r=>some r) (fun s4=>some (-1))
def cf (p0s1:List Bool) (p1s2:List Bool) (s3:Int):Option (Out Bool Int):=
 if decide (s3<(p0s1.length:Int)) then ((aQ p0s1 s3).bind fun x5=>(aQ p1s2 s3).bind fun x6=>if x5 !=x6 then (some (.ret false)) else (some (.nxt (IntKind.i64.wrap (s3+1))))) else (some (.brk s3))
def dM (p0s1:List Bool) (p1s2:List Bool):Option Bool:=
 if (p0s1.length:Int) !=(p1s2.length:Int) then (some false) else (aP (ax (cf p0s1 p1s2) aW 0) (fun r=>some r) (fun s4=>some true))
def a8 (p0s1:List (List Int)) (p1s2:List (List Int)) (p2eq:(List Int)->(List Int)->Option Bool) (s3:Int):Option (Out Bool Int):=
 if decide (s3<(p0s1.length:Int)) then ((aQ p0s1 s3).bind fun x5=>(aQ p1s2 s3).bind fun x6=>(p2eq x5 x6).bind fun r9=>if r9 then (some (.nxt (IntKind.i64.wrap (s3+1)))) else (some (.ret false))) else (some (.brk s3))
def bQ (p0s1:List (List Int)) (p1s2:List (List Int)) (p2eq:(List Int)->(List Int)->Option Bool):Option Bool:=
 if (p0s1.length:Int) !=(p1s2.length:Int) then (some false) else (aP (ax (a8 p0s1 p1s2 p2eq) aW 0) (fun r=>some r) (fun s4=>some true))
def gj (p0x:List Int) (p1y:List Int):Option Bool:=
 (cg p0x p1y).bind fun r1=>some r1
def dU (p0a:Int×(List Bool)×(List (List Int))) (p1b:Int×(List Bool)×(List (List Int))):Option Bool:=
 if p0a.1==p1b.1 then ((dM p0a.2.1 p1b.2.1).bind fun r1=>if r1 then ((bQ p0a.2.2 p1b.2.2 (fun a0 a1=>gj a0 a1)).bind fun r2=>some r2) else (some false)) else (some false)
def mo (p0b:Int×(List Bool)×(List (List Int))) (q0:Int×(List Bool)×(List (List Int))):Option Bool:=
 (dU (q0.1,q0.2.1,q0.2.2) (p0b.1,p0b.2.1,p0b.2.2)).bind fun r1=>some r1
def fV (p0e:Yq1):Option Yq1:=
 (cr 32 ([] :List Yq4) p0e).bind fun z1=>some z1
def kH (p0:List Yq9) (s7:Int×(List Yq2)×Yq3):Option (Out (Yq8×Bool) PN):=
 if decide (s7.1<(p0.length:Int)) then ((aQ p0 s7.1).bind fun x5=>(iz x5.2.1).bind fun r16=>if r16.2 then ((cd x5.1 1 99).bind fun r17=>if r17 then (if decide (s7.1>0) then ((aQ p0 (IntKind.i64.wrap (s7.1 - 1))).bind fun x6=>if decide (x6.1≥x5.1) then (some (.ret (([],[]),false))) else ((ba s7.2.1 (fun a0=>mo a0 (r16.1.1,r16.1.2.1,r16.1.2.2))).bind fun r20=>Option.bind ((if decide (r20<0) then ((cr 56 s7.2.1 ([(r16.1.1,r16.1.2.1,r16.1.2.2)])).bind fun z17=>some ((s7.2.1.length:Int),z17,s7.2.2)) else (some (r20,s7.2.1,s7.2.2)):Option PN)) (fun s10=>(fV x5.2.1).bind fun r21=>(cr 40 s10.2.2 ([(x5.1,r21,s10.1)])).bind fun z18=>some (.nxt (IntKind.i64.wrap (s7.1+1),s10.2.1,z18))))) else ((ba s7.2.1 (fun a0=>mo a0 (r16.1.1,r16.1.2.1,r16.1.2.2))).bind fun r18=>Option.bind ((if decide (r18<0) then ((cr 56 s7.2.1 ([(r16.1.1,r16.1.2.1,r16.1.2.2)])).bind fun z14=>some ((s7.2.1.length:Int),z14,s7.2.2)) else (some (r18,s7.2.1,s7.2.2)):Option PN)) (fun s9=>(fV x5.2.1).bind fun r19=>(cr 40 s9.2.2 ([(x5.1,r19,s9.1)])).bind fun z15=>some (.nxt (IntKind.i64.wrap (s7.1+1),s9.2.1,z15))))) else (some (.ret (([],[]),false)))) else (some (.ret (([],[]),false)))) else (some (.brk (s7.1,s7.2.1,s7.2.2)))
def px (p0:List Yq9):Option (Yq8×Bool):=
 aP (ax (kH p0) aW (0,[],[])) (fun r=>some r) (fun s8=>some ((s8.2.1,s8.2.2),decide ((p0.length:Int)<=4)))
def aN (p0s1:List Yq2) (p1s2:List Yq2) (p2eq:Yq2->Yq2->Option Bool) (s3:Int):Option (Out Bool Int):=
 if decide (s3<(p0s1.length:Int)) then ((aQ p0s1 s3).bind fun x5=>(aQ p1s2 s3).bind fun x6=>(p2eq (x5.1,x5.2.1,x5.2.2) (x6.1,x6.2.1,x6.2.2)).bind fun r15=>if r15 then (some (.nxt (IntKind.i64.wrap (s3+1)))) else (some (.ret false))) else (some (.brk s3))
def a7 (p0s1:List Yq2) (p1s2:List Yq2) (p2eq:Yq2->Yq2->Option Bool):Option Bool:=
 if (p0s1.length:Int) !=(p1s2.length:Int) then (some false) else (aP (ax (aN p0s1 p1s2 p2eq) aW 0) (fun r=>some r) (fun s4=>some true))
def aM (p0s1:List Yq9) (p1s2:List Yq9) (p2eq:Yq9->Yq9->Option Bool) (s3:Int):Option (Out Bool Int):=
 if decide (s3<(p0s1.length:Int)) then ((aQ p0s1 s3).bind fun x5=>(aQ p1s2 s3).bind fun x6=>(p2eq (x5.1,x5.2.1,x5.2.2) (x6.1,x6.2.1,x6.2.2)).bind fun r9=>if r9 then (some (.nxt (IntKind.i64.wrap (s3+1)))) else (some (.ret false))) else (some (.brk s3))
def aV (p0s1:List Yq9) (p1s2:List Yq9) (p2eq:Yq9->Yq9->Option Bool):Option Bool:=
 if (p0s1.length:Int) !=(p1s2.length:Int) then (some false) else (aP (ax (aM p0s1 p1s2 p2eq) aW 0) (fun r=>some r) (fun s4=>some true))
def bY (p0s1:List Yq4) (p1s2:List Yq4) (s3:Int):Option (Out Bool Int):=
 if decide (s3<(p0s1.length:Int)) then ((aQ p0s1 s3).bind fun x5=>(aQ p1s2 s3).bind fun x6=>if (x5.1==x6.1)&&((x5.2.1==x6.2.1)&&((x5.2.2.1==x6.2.2.1)&&((x5.2.2.2==x6.2.2.2)&&true))) then (some (.nxt (IntKind.i64.wrap (s3+1)))) else (some (.ret false))) else (some (.brk s3))
def cn (p0s1:List Yq4) (p1s2:List Yq4):Option Bool:=
 if (p0s1.length:Int) !=(p1s2.length:Int) then (some false) else (aP (ax (bY p0s1 p1s2) aW 0) (fun r=>some r) (fun s4=>some true))
def lW (p0a:Yq1) (p1b:Yq1):Option Bool:=
 (cn p0a p1b).bind fun r1=>some r1
def gF (p0a:Int×(Yq1)×Int) (p1b:Int×(Yq1)×Int):Option Bool:=
 if p0a.1==p1b.1 then ((lW p0a.2.1 p1b.2.1).bind fun r1=>if r1 then (some (p0a.2.2==p1b.2.2)) else (some false)) else (some false)
def gk (p0a:(List Yq2)×Yq3) (p1b:(List Yq2)×Yq3):Option Bool:=
 (a7 p0a.1 p1b.1 (fun a0 a1=>dU a0 a1)).bind fun r1=>if r1 then ((aV p0a.2 p1b.2 (fun a0 a1=>gF a0 a1)).bind fun r2=>some r2) else (some false)
def cD (p0r:(List Yq2)×Yq3):Option Bool:=
 (px p0r.2).bind fun r1=>if r1.2 then ((gk (r1.1.1,r1.1.2) (p0r.1,p0r.2)).bind fun r2=>some r2) else (some false)
def iO (p0h:Int×Yq5):Option Int:=
 (m_i_IsValidHistory (p0h.1,p0h.2)).bind fun r1=>if r1 then (some (IntKind.i64.wrap ((IntKind.i64.wrap (p0h.1+(p0h.2.length:Int))) - 1))) else (some 0)
def bm (p0s:List Yq9) (p1f:Yq9->Option Bool) (s3:Int):Option (Out Int Int):=
 if decide (s3<(p0s.length:Int)) then ((aQ p0s s3).bind fun x3=>(p1f (x3.1,x3.2.1,x3.2.2)).bind fun r6=>if r6 then (some (.ret s3)) else (some (.nxt (IntKind.i64.wrap (s3+1))))) else (some (.brk s3))
def bW (p0s:List Yq9) (p1f:Yq9->Option Bool):Option Int:=
 aP (ax (bm p0s p1f) aW 0) (fun r=>some r) (fun s4=>some (-1))
def kI (p0q:Int×(Yq1)×Int) (q0:Int):Option Bool:=
 some (p0q.1==q0)
def iP (p0r:(List Yq2)×Yq3) (p1id:Int):Option Int:=
 (bW p0r.2 (fun a0=>kI a0 p1id)).bind fun r1=>some r1
def eY (p0:ByteArray) (p1:Int):Option Int:=R.w4 p0 p1
def mG (p0:Int):Option (ByteArray):=R.RA p0
def dm (p0n:Int):Option ByteArray:=
 (mG p0n).bind fun r0=>some r0
def jm (p0e:Int×Int×Int×Int):Option ByteArray:=
 (jY (p0e.1,p0e.2.1,p0e.2.2.1,p0e.2.2.2) 5).bind fun r0=>if r0 then ((dm p0e.1).bind fun r9=>(mD r9 (⟨#[58]⟩)).bind fun z10=>(dm p0e.2.1).bind fun r11=>(mD z10 r11).bind fun z12=>(rm (⟨#[97,98,99]⟩) p0e.2.2.2 (IntKind.i64.wrap (p0e.2.2.2+1))).bind fun z13=>(mD z12 z13).bind fun z14=>(dm p0e.2.2.1).bind fun r15=>(mD z14 r15).bind fun z16=>some z16) else (some ((⟨#[]⟩:ByteArray)))
def jz (p0:List ByteArray) (p1:ByteArray):Option (ByteArray):=R.Rz p0 p1
def eZ (p0b:List Yq6) (s1:(List ByteArray)×Int):Option (Out ByteArray ((List ByteArray)×Int)):=
 if decide (s1.2<(p0b.length:Int)) then (Hf (S:=List ByteArray) ((aQ p0b s1.2).bind fun x2=>(jm (x2.2.1,x2.2.2.1,x2.2.2.2.1,x2.2.2.2.2)).bind fun r3=>if r3==((⟨#[]⟩:ByteArray)) then (some (.inl (.ret ((⟨#[]⟩:ByteArray))))) else (if x2.1 then ((mD (⟨#[43]⟩) r3).bind fun z4=>(cr 16 s1.1 ([z4])).bind fun z5=>some (.inr z5)) else ((mD (⟨#[45]⟩) r3).bind fun z6=>(cr 16 s1.1 ([z6])).bind fun z7=>some (.inr z7)))) (fun s8=>some (.nxt (s8,IntKind.i64.wrap (s1.2+1))))) else (some (.brk (s1.1,s1.2)))
def ep (p0b:List Yq6):Option ByteArray:=
 if decide ((p0b.length:Int)>6) then (some ((⟨#[]⟩:ByteArray))) else (aP (ax (eZ p0b) aW (([] :List ByteArray),0)) (fun r9=>some r9) (fun s10=>(jz s10.1 (⟨#[32]⟩)).bind fun r11=>some r11))
def nM (p0s:ByteArray) (s1:Int×Int):Option zg:=
 if decide (s1.2<((p0s.size:Nat):Int)) then ((jR p0s s1.2).bind fun z2=>some (.nxt (Int.tmod (IntKind.i64.wrap ((IntKind.i64.wrap ((IntKind.i64.wrap (257*s1.1))+(IntKind.i64.wrap z2)))+1)) 9973,IntKind.i64.wrap (s1.2+1)))) else (some (.brk (s1.1,s1.2)))
def j5 (p0s:ByteArray):Option Int:=
 aP (ax (nM p0s) aW (1,0)) (fun r3=>some r3) (fun s4=>some s4.1)
def gG (p0version:Int) (p1b:List Yq6):Option ByteArray:=
 (ep p1b).bind fun r0=>(cd p0version 1 999).bind fun r1=>if r1 then (if r0==((⟨#[]⟩:ByteArray)) then (if decide ((p1b.length:Int)>0) then (some ((⟨#[]⟩:ByteArray))) else ((dm p0version).bind fun r2=>(mD r2 (⟨#[59]⟩)).bind fun z3=>(mD z3 r0).bind fun z4=>(mD z4 (⟨#[59]⟩)).bind fun z5=>(j5 z5).bind fun r6=>(dm r6).bind fun r7=>(mD z5 r7).bind fun z8=>(mD z8 (⟨#[10]⟩)).bind fun z9=>some z9)) else ((dm p0version).bind fun r10=>(mD r10 (⟨#[59]⟩)).bind fun z11=>(mD z11 r0).bind fun z12=>(mD z12 (⟨#[59]⟩)).bind fun z13=>(j5 z13).bind fun r14=>(dm r14).bind fun r15=>(mD z13 r15).bind fun z16=>(mD z16 (⟨#[10]⟩)).bind fun z17=>some z17)) else (some ((⟨#[]⟩:ByteArray)))
def cK (p0 p1:ByteArray):Option (List ByteArray):=R.JU p0 p1
def fW (p0:ByteArray):Option (Int×Bool):=R.rO p0
def cX (p0 p1:ByteArray):Option (ByteArray×ByteArray×Bool):=R.Xs p0 p1
def gl (p0s:ByteArray):Option (Yq4×Bool):=
 (cX p0s (⟨#[58]⟩)).bind fun r0=>if ((r0.2.1.size:Nat):Int) !=3 then (some ((0,0,0,0),false)) else ((jR r0.2.1 0).bind fun z4=>(jR r0.2.1 1).bind fun z5=>(jR r0.2.1 2).bind fun z6=>(fW r0.1).bind fun r7=>(jm (r7.1,IntKind.i64.wrap ((IntKind.i64.wrap z4) - 48),IntKind.i64.wrap ((IntKind.i64.wrap z6) - 48),IntKind.i64.wrap ((IntKind.i64.wrap z5) - 97))).bind fun r8=>if r8 !=p0s then (some ((0,0,0,0),false)) else (some ((r7.1,IntKind.i64.wrap ((IntKind.i64.wrap z4) - 48),IntKind.i64.wrap ((IntKind.i64.wrap z6) - 48),IntKind.i64.wrap ((IntKind.i64.wrap z5) - 97)),true)))
def cL (r0:List ByteArray) (s3:Int×List Yq6):Option (Out ((List Yq6)×Bool) (Int×List Yq6)):=
 if decide (s3.1<(r0.length:Int)) then ((aQ r0 s3.1).bind fun x4=>if x4==((⟨#[]⟩:ByteArray)) then (some (.ret (([] :List Yq6),false))) else ((rm x4 1 ((x4.size:Nat):Int)).bind fun z5=>(gl z5).bind fun r6=>if r6.2 then ((jR x4 0).bind fun z9=>(cr 40 s3.2 ([(z9==43,r6.1.1,r6.1.2.1,r6.1.2.2.1,r6.1.2.2.2)])).bind fun z10=>some (.nxt (IntKind.i64.wrap (s3.1+1),z10))) else (some (.ret (([] :List Yq6),false))))) else (some (.brk (s3.1,s3.2)))
def dR (p0s:ByteArray):Option ((List Yq6)×Bool):=
 if p0s==((⟨#[]⟩:ByteArray)) then (some (([] :List Yq6),true)) else ((cK p0s (⟨#[32]⟩)).bind fun r0=>aP (ax (cL r0) aW (0,([] :List Yq6))) (fun r11=>some r11) (fun s12=>(ep s12.2).bind fun r13=>if r13 !=p0s then (some (([] :List Yq6),false)) else (some (s12.2,true))))
def jA (p0s:ByteArray):Option (Int×(List Yq6)×Bool):=
 (cK p0s (⟨#[59]⟩)).bind fun r0=>if (r0.length:Int) !=3 then (some (0,([] :List Yq6),false)) else ((aQ r0 0).bind fun x1=>(fW x1).bind fun r2=>(aQ r0 1).bind fun x3=>(dR x3).bind fun r4=>if r2.2 then (if r4.2 then ((gG r2.1 r4.1).bind fun r5=>if r5 !=p0s then (some (0,([] :List Yq6),false)) else (some (r2.1,r4.1,true))) else (some (0,([] :List Yq6),false))) else (some (0,([] :List Yq6),false)))
def cw (p0:ByteArray) (s1:(List Int)×(List (List Yq6))×Int):Option (Out ((List Int)×(List (List Yq6))×Int) ((List Int)×(List (List Yq6))×Int)):=
 if decide (((p0.size:Nat):Int)<=4000) then ((rm p0 s1.2.2 ((p0.size:Nat):Int)).bind fun z2=>(eY z2 10).bind fun r3=>if decide (r3<0) then (some (.brk (s1.1,s1.2.1,s1.2.2))) else ((rm p0 s1.2.2 (IntKind.i64.wrap ((IntKind.i64.wrap (s1.2.2+r3))+1))).bind fun z4=>(jA z4).bind fun r5=>if r5.2.2 then (if decide ((s1.1.length:Int)>0) then ((aQ s1.1 (IntKind.i64.wrap ((s1.1.length:Int) - 1))).bind fun x6=>if r5.1 !=(IntKind.i64.wrap (x6+1)) then (some (.brk (s1.1,s1.2.1,s1.2.2))) else ((cr 8 s1.1 ([r5.1])).bind fun z7=>(cr 24 s1.2.1 ([r5.2.1])).bind fun z8=>some (.nxt (z7,z8,IntKind.i64.wrap (s1.2.2+(IntKind.i64.wrap (r3+1))))))) else ((cr 8 s1.1 ([r5.1])).bind fun z9=>(cr 24 s1.2.1 ([r5.2.1])).bind fun z10=>some (.nxt (z9,z10,IntKind.i64.wrap (s1.2.2+(IntKind.i64.wrap (r3+1))))))) else (some (.brk (s1.1,s1.2.1,s1.2.2))))) else (some (.brk (s1.1,s1.2.1,s1.2.2)))
def m_i_ScanLog (p0:ByteArray):Option ((List Int)×(List (List Yq6))×Int):=
 aP (ax (cw p0) aW (([] :List Int),([] :List (List Yq6)),0)) (fun r11=>some r11) (fun s12=>some (s12.1,s12.2.1,s12.2.2))
def cm (p0:(Int×Yq5)×Yq8×(List Yq7)×ByteArray) (r3:Int) (s3:Int):Option (Out Bool Int):=
 if decide (s3<(p0.2.2.1.length:Int)) then ((aQ p0.2.2.1 s3).bind fun x5=>(cd x5.1 1 99).bind fun r14=>if r14 then (if decide (s3>0) then ((aQ p0.2.2.1 (IntKind.i64.wrap (s3 - 1))).bind fun x6=>if decide (x6.1≥x5.1) then (some (.ret false)) else ((iP (p0.2.1.1,p0.2.1.2) x5.2.1).bind fun r17=>if decide (r17<0) then (some (.ret false)) else ((cd x5.2.2 0 r3).bind fun r18=>if r18 then (some (.nxt (IntKind.i64.wrap (s3+1)))) else (some (.ret false))))) else ((iP (p0.2.1.1,p0.2.1.2) x5.2.1).bind fun r15=>if decide (r15<0) then (some (.ret false)) else ((cd x5.2.2 0 r3).bind fun r16=>if r16 then (some (.nxt (IntKind.i64.wrap (s3+1)))) else (some (.ret false))))) else (some (.ret false))) else (some (.brk s3))
def iQ (p0:(Int×Yq5)×Yq8×(List Yq7)×ByteArray):Option Bool:=
 (m_i_IsValidHistory (p0.1.1,p0.1.2)).bind fun r1=>if r1 then ((cD (p0.2.1.1,p0.2.1.2)).bind fun r2=>if r2 then (if decide ((p0.2.2.1.length:Int)>4) then (some false) else (if decide ((p0.2.2.2.size:Int)>4000) then (some false) else ((iO (p0.1.1,p0.1.2)).bind fun r3=>aP (ax (cm p0 r3) aW 0) (fun r=>some r) (fun s4=>(m_i_ScanLog p0.2.2.2).bind fun r19=>if r19.2.2==(p0.2.2.2.size:Int) then (if (r19.1.length:Int)==0 then (some true) else ((aQ r19.1 (IntKind.i64.wrap ((r19.1.length:Int) - 1))).bind fun x7=>some (x7==r3))) else (some false))))) else (some false)) else (some false)
def mX (p0a:List Int) (p1b:List Int) (s3:Int):Option (Out Bool Int):=
 if decide (s3<(p0a.length:Int)) then ((aQ p0a s3).bind fun x5=>(aQ p1b s3).bind fun x6=>if x5 !=x6 then (some (.ret false)) else (some (.nxt (IntKind.i64.wrap (s3+1))))) else (some (.brk s3))
def tf (p0a:List Int) (p1b:List Int):Option Bool:=
 if (p0a.length:Int) !=(p1b.length:Int) then (some false) else (aP (ax (mX p0a p1b) aW 0) (fun r=>some r) (fun s4=>some true))
def tg (p0a:Int×Int×Int×Int) (p1b:Int×Int×Int×Int):Option Bool:=
 if p0a.1 !=p1b.1 then (some false) else (if p0a.2.1 !=p1b.2.1 then (some false) else (if p0a.2.2.1 !=p1b.2.2.1 then (some false) else (if p0a.2.2.2 !=p1b.2.2.2 then (some false) else (some true))))
def lX (p0a:List Yq4) (p1b:List Yq4) (s3:Int):Option (Out Bool Int):=
 if decide (s3<(p0a.length:Int)) then ((aQ p0a s3).bind fun x5=>(aQ p1b s3).bind fun x6=>(tg (x5.1,x5.2.1,x5.2.2.1,x5.2.2.2) (x6.1,x6.2.1,x6.2.2.1,x6.2.2.2)).bind fun r3=>if r3 then (some (.nxt (IntKind.i64.wrap (s3+1)))) else (some (.ret false))) else (some (.brk s3))
def uH (p0a:List Yq4) (p1b:List Yq4):Option Bool:=
 if (p0a.length:Int) !=(p1b.length:Int) then (some false) else (aP (ax (lX p0a p1b) aW 0) (fun r=>some r) (fun s4=>some true))
def qp (p0a:(List Int)×Yq1) (p1b:(List Int)×Yq1):Option Bool:=
 (tf p0a.1 p1b.1).bind fun r1=>if r1 then ((uH p0a.2 p1b.2).bind fun r2=>if r2 then (some true) else (some false)) else (some false)
def kJ (p0a:List EN) (p1b:List EN) (s3:Int):Option (Out Bool Int):=
 if decide (s3<(p0a.length:Int)) then ((aQ p0a s3).bind fun x5=>(aQ p1b s3).bind fun x6=>(qp (x5.1,x5.2) (x6.1,x6.2)).bind fun r15=>if r15 then (some (.nxt (IntKind.i64.wrap (s3+1)))) else (some (.ret false))) else (some (.brk s3))
def rR (p0a:List EN) (p1b:List EN):Option Bool:=
 if (p0a.length:Int) !=(p1b.length:Int) then (some false) else (aP (ax (kJ p0a p1b) aW 0) (fun r=>some r) (fun s4=>some true))
def mY (p0a:Int×Yq5) (p1b:Int×Yq5):Option Bool:=
 if p0a.1 !=p1b.1 then (some false) else ((rR p0a.2 p1b.2).bind fun r1=>if r1 then (some true) else (some false))
def lY (p0a:List Bool) (p1b:List Bool) (s3:Int):Option (Out Bool Int):=
 if decide (s3<(p0a.length:Int)) then ((aQ p0a s3).bind fun x5=>(aQ p1b s3).bind fun x6=>if x5 !=x6 then (some (.ret false)) else (some (.nxt (IntKind.i64.wrap (s3+1))))) else (some (.brk s3))
def uI (p0a:List Bool) (p1b:List Bool):Option Bool:=
 if (p0a.length:Int) !=(p1b.length:Int) then (some false) else (aP (ax (lY p0a p1b) aW 0) (fun r=>some r) (fun s4=>some true))
def lZ (p0a:List (List Int)) (p1b:List (List Int)) (s3:Int):Option (Out Bool Int):=
 if decide (s3<(p0a.length:Int)) then ((aQ p0a s3).bind fun x5=>(aQ p1b s3).bind fun x6=>(tf x5 x6).bind fun r9=>if r9 then (some (.nxt (IntKind.i64.wrap (s3+1)))) else (some (.ret false))) else (some (.brk s3))
def uJ (p0a:List (List Int)) (p1b:List (List Int)):Option Bool:=
 if (p0a.length:Int) !=(p1b.length:Int) then (some false) else (aP (ax (lZ p0a p1b) aW 0) (fun r=>some r) (fun s4=>some true))
def kK (p0a:Int×(List Bool)×(List (List Int))) (p1b:Int×(List Bool)×(List (List Int))):Option Bool:=
 if p0a.1 !=p1b.1 then (some false) else ((uI p0a.2.1 p1b.2.1).bind fun r1=>if r1 then ((uJ p0a.2.2 p1b.2.2).bind fun r2=>if r2 then (some true) else (some false)) else (some false))
def gm (p0a:List Yq2) (p1b:List Yq2) (s3:Int):Option (Out Bool Int):=
 if decide (s3<(p0a.length:Int)) then ((aQ p0a s3).bind fun x5=>(aQ p1b s3).bind fun x6=>(kK (x5.1,x5.2.1,x5.2.2) (x6.1,x6.2.1,x6.2.2)).bind fun r15=>if r15 then (some (.nxt (IntKind.i64.wrap (s3+1)))) else (some (.ret false))) else (some (.brk s3))
def mH (p0a:List Yq2) (p1b:List Yq2):Option Bool:=
 if (p0a.length:Int) !=(p1b.length:Int) then (some false) else (aP (ax (gm p0a p1b) aW 0) (fun r=>some r) (fun s4=>some true))
def qq (p0a:Int×Int×Int×Int) (p1b:Int×Int×Int×Int):Option Bool:=
 if p0a.1 !=p1b.1 then (some false) else (if p0a.2.1 !=p1b.2.1 then (some false) else (if p0a.2.2.1 !=p1b.2.2.1 then (some false) else (if p0a.2.2.2 !=p1b.2.2.2 then (some false) else (some true))))
def kL (p0a:List Yq4) (p1b:List Yq4) (s3:Int):Option (Out Bool Int):=
 if decide (s3<(p0a.length:Int)) then ((aQ p0a s3).bind fun x5=>(aQ p1b s3).bind fun x6=>(qq (x5.1,x5.2.1,x5.2.2.1,x5.2.2.2) (x6.1,x6.2.1,x6.2.2.1,x6.2.2.2)).bind fun r3=>if r3 then (some (.nxt (IntKind.i64.wrap (s3+1)))) else (some (.ret false))) else (some (.brk s3))
def rS (p0a:List Yq4) (p1b:List Yq4):Option Bool:=
 if (p0a.length:Int) !=(p1b.length:Int) then (some false) else (aP (ax (kL p0a p1b) aW 0) (fun r=>some r) (fun s4=>some true))
def th (p0a:Yq1) (p1b:Yq1):Option Bool:=
 (rS p0a p1b).bind fun r1=>if r1 then (some true) else (some false)
def jB (p0a:Int×(Yq1)×Int) (p1b:Int×(Yq1)×Int):Option Bool:=
 if p0a.1 !=p1b.1 then (some false) else ((th p0a.2.1 p1b.2.1).bind fun r1=>if r1 then (if p0a.2.2 !=p1b.2.2 then (some false) else (some true)) else (some false))
def fA (p0a:List Yq9) (p1b:List Yq9) (s3:Int):Option (Out Bool Int):=
 if decide (s3<(p0a.length:Int)) then ((aQ p0a s3).bind fun x5=>(aQ p1b s3).bind fun x6=>(jB (x5.1,x5.2.1,x5.2.2) (x6.1,x6.2.1,x6.2.2)).bind fun r9=>if r9 then (some (.nxt (IntKind.i64.wrap (s3+1)))) else (some (.ret false))) else (some (.brk s3))
def lx (p0a:List Yq9) (p1b:List Yq9):Option Bool:=
 if (p0a.length:Int) !=(p1b.length:Int) then (some false) else (aP (ax (fA p0a p1b) aW 0) (fun r=>some r) (fun s4=>some true))
def l5 (p0a:(List Yq2)×Yq3) (p1b:(List Yq2)×Yq3):Option Bool:=
 (mH p0a.1 p1b.1).bind fun r1=>if r1 then ((lx p0a.2 p1b.2).bind fun r2=>if r2 then (some true) else (some false)) else (some false)
def jC (p0a:Int×Int×Int) (p1b:Int×Int×Int):Option Bool:=
 if p0a.1 !=p1b.1 then (some false) else (if p0a.2.1 !=p1b.2.1 then (some false) else (if p0a.2.2 !=p1b.2.2 then (some false) else (some true)))
def fB (p0a:List Yq7) (p1b:List Yq7) (s3:Int):Option (Out Bool Int):=
 if decide (s3<(p0a.length:Int)) then ((aQ p0a s3).bind fun x5=>(aQ p1b s3).bind fun x6=>(jC (x5.1,x5.2.1,x5.2.2) (x6.1,x6.2.1,x6.2.2)).bind fun r3=>if r3 then (some (.nxt (IntKind.i64.wrap (s3+1)))) else (some (.ret false))) else (some (.brk s3))
def lz (p0a:List Yq7) (p1b:List Yq7):Option Bool:=
 if (p0a.length:Int) !=(p1b.length:Int) then (some false) else (aP (ax (fB p0a p1b) aW 0) (fun r=>some r) (fun s4=>some true))
def iA (p0a:(Int×Yq5)×Yq8×(List Yq7)×ByteArray) (p1b:(Int×Yq5)×Yq8×(List Yq7)×ByteArray):Option Bool:=
 (mY (p0a.1.1,p0a.1.2) (p1b.1.1,p1b.1.2)).bind fun r1=>if r1 then ((l5 (p0a.2.1.1,p0a.2.1.2) (p1b.2.1.1,p1b.2.1.2)).bind fun r2=>if r2 then ((lz p0a.2.2.1 p1b.2.2.1).bind fun r3=>if r3 then (if p0a.2.2.2 !=p1b.2.2.2 then (some false) else (some true)) else (some false)) else (some false)) else (some false)
def py (p0g:(List Int)×Yq1):Option EN:=
 (cr 8 ([] :List Int) p0g.1).bind fun z1=>(cr 32 ([] :List Yq4) p0g.2).bind fun z2=>some (z1,z2)
def kM (p0h:Int×Yq5) (s3:Int×Int×Yq5):Option (Out (Int×Yq5) (Int×Int×Yq5)):=
 if decide (s3.1<(p0h.2.length:Int)) then ((aQ p0h.2 s3.1).bind fun x3=>(py (x3.1,x3.2)).bind fun r9=>(cr 48 s3.2.2 ([(r9.1,r9.2)])).bind fun z3=>some (.nxt (IntKind.i64.wrap (s3.1+1),s3.2.1,z3))) else (some (.brk (s3.1,s3.2.1,s3.2.2)))
def tj (p0h:Int×Yq5):Option (Int×Yq5):=
 aP (ax (kM p0h) aW (0,p0h.1,[])) (fun r=>some r) (fun s4=>some (s4.2.1,s4.2.2))
def jn (p0a:Int×(List Bool)×(List (List Int))) (s3:Int×Int×(List Bool)×(List (List Int))):Option (Out Yq2 (Int×Int×(List Bool)×(List (List Int)))):=
 if decide (s3.1<(p0a.2.2.length:Int)) then ((aQ p0a.2.2 s3.1).bind fun x3=>(cr 8 ([] :List Int) x3).bind fun z6=>(cr 24 s3.2.2.2 ([z6])).bind fun z7=>some (.nxt (IntKind.i64.wrap (s3.1+1),s3.2.1,s3.2.2.1,z7))) else (some (.brk (s3.1,s3.2.1,s3.2.2.1,s3.2.2.2)))
def qu (p0a:Int×(List Bool)×(List (List Int))):Option Yq2:=
 (cr 1 ([] :List Bool) p0a.2.1).bind fun z1=>aP (ax (jn p0a) aW (0,p0a.1,z1,[])) (fun r=>some r) (fun s4=>some (s4.2.1,s4.2.2.1,s4.2.2.2))
def jo (p0r:(List Yq2)×Yq3) (s3:Int×(List Yq2)×Yq3):Option (Out Yq8 PN):=
 if decide (s3.1<(p0r.1.length:Int)) then ((aQ p0r.1 s3.1).bind fun x3=>(qu (x3.1,x3.2.1,x3.2.2)).bind fun r9=>(cr 56 s3.2.1 ([(r9.1,r9.2.1,r9.2.2)])).bind fun z3=>some (.nxt (IntKind.i64.wrap (s3.1+1),z3,s3.2.2))) else (some (.brk (s3.1,s3.2.1,s3.2.2)))
def jq (p0r:(List Yq2)×Yq3) (s7:Int×(List Yq2)×Yq3):Option (Out Yq8 PN):=
 if decide (s7.1<(p0r.2.length:Int)) then ((aQ p0r.2 s7.1).bind fun x6=>(gJ x6.2.1).bind fun r15=>(cr 40 s7.2.2 ([(x6.1,r15,x6.2.2)])).bind fun z6=>some (.nxt (IntKind.i64.wrap (s7.1+1),s7.2.1,z6))) else (some (.brk (s7.1,s7.2.1,s7.2.2)))
def lA (p0r:(List Yq2)×Yq3):Option Yq8:=
 aP (ax (jo p0r) aW (0,[],[])) (fun r=>some r) (fun s4=>aP (ax (jq p0r) aW (0,s4.2.1,s4.2.2)) (fun r=>some r) (fun s8=>some (s8.2.1,s8.2.2)))
def qv (p0e:(Int×Yq5)×Yq8×(List Yq7)×ByteArray):Option Ww:=
 (tj (p0e.1.1,p0e.1.2)).bind fun r1=>(lA (p0e.2.1.1,p0e.2.1.2)).bind fun r2=>(cr 24 ([] :List Yq7) p0e.2.2.1).bind fun z1=>some ((r1.1,r1.2),(r2.1,r2.2),z1,p0e.2.2.2)
def mq (p0l:List Int):Option (List Int):=
 (cr 8 ([] :List Int) p0l).bind fun z1=>some z1
def kN (p0g:(List Int)×Yq1):Option EN:=
 (mq p0g.1).bind fun r1=>(cr 32 ([] :List Yq4) p0g.2).bind fun z1=>some (r1,z1)
def e7 (p0h:Int×Yq5) (s3:Int×Int×Yq5):Option (Out (Int×Yq5) (Int×Int×Yq5)):=
 if decide (s3.1<(p0h.2.length:Int)) then ((aQ p0h.2 s3.1).bind fun x3=>(kN (x3.1,x3.2)).bind fun r9=>(cr 48 s3.2.2 ([(r9.1,r9.2)])).bind fun z3=>some (.nxt (IntKind.i64.wrap (s3.1+1),s3.2.1,z3))) else (some (.brk (s3.1,s3.2.1,s3.2.2)))
def kO (p0h:Int×Yq5):Option (Int×Yq5):=
 aP (ax (e7 p0h) aW (0,p0h.1,[])) (fun r=>some r) (fun s4=>some (s4.2.1,s4.2.2))
def dJ (p0a:Int×(List Bool)×(List (List Int))) (s3:Int×Int×(List Bool)×(List (List Int))):Option (Out Yq2 (Int×Int×(List Bool)×(List (List Int)))):=
 if decide (s3.1<(p0a.2.2.length:Int)) then ((aQ p0a.2.2 s3.1).bind fun x3=>(mq x3).bind fun r6=>(cr 24 s3.2.2.2 ([r6])).bind fun z4=>some (.nxt (IntKind.i64.wrap (s3.1+1),s3.2.1,s3.2.2.1,z4))) else (some (.brk (s3.1,s3.2.1,s3.2.2.1,s3.2.2.2)))
def iR (p0a:Int×(List Bool)×(List (List Int))):Option Yq2:=
 (cr 1 ([] :List Bool) p0a.2.1).bind fun z1=>aP (ax (dJ p0a) aW (0,p0a.1,z1,[])) (fun r=>some r) (fun s4=>some (s4.2.1,s4.2.2.1,s4.2.2.2))
def eu (p0r:(List Yq2)×Yq3) (s3:Int×(List Yq2)×Yq3):Option (Out Yq8 PN):=
 if decide (s3.1<(p0r.1.length:Int)) then ((aQ p0r.1 s3.1).bind fun x3=>(iR (x3.1,x3.2.1,x3.2.2)).bind fun r9=>(cr 56 s3.2.1 ([(r9.1,r9.2.1,r9.2.2)])).bind fun z3=>some (.nxt (IntKind.i64.wrap (s3.1+1),z3,s3.2.2))) else (some (.brk (s3.1,s3.2.1,s3.2.2)))
def ez (p0r:(List Yq2)×Yq3) (s7:Int×(List Yq2)×Yq3):Option (Out Yq8 PN):=
 if decide (s7.1<(p0r.2.length:Int)) then ((aQ p0r.2 s7.1).bind fun x6=>(fV x6.2.1).bind fun r15=>(cr 40 s7.2.2 ([(x6.1,r15,x6.2.2)])).bind fun z6=>some (.nxt (IntKind.i64.wrap (s7.1+1),s7.2.1,z6))) else (some (.brk (s7.1,s7.2.1,s7.2.2)))
def eR (p0r:(List Yq2)×Yq3):Option Yq8:=
 aP (ax (eu p0r) aW (0,[],[])) (fun r=>some r) (fun s4=>aP (ax (ez p0r) aW (0,s4.2.1,s4.2.2)) (fun r=>some r) (fun s8=>some (s8.2.1,s8.2.2)))
def l6 (p0e:(Int×Yq5)×Yq8×(List Yq7)×ByteArray):Option Ww:=
 (kO (p0e.1.1,p0e.1.2)).bind fun r1=>(eR (p0e.2.1.1,p0e.2.1.2)).bind fun r2=>(cr 24 ([] :List Yq7) p0e.2.2.1).bind fun z1=>some ((r1.1,r1.2),(r2.1,r2.2),z1,p0e.2.2.2)
def kP (s3:(List Int)×Int×Int):Option (Out (Int×(List Int)) ((List Int)×Int×Int)):=
 if decide (s3.2.2<(s3.1.length:Int)) then ((aQ s3.1 s3.2.2).bind fun x3=>some (.nxt (s3.1.set s3.2.2.toNat s3.2.1,IntKind.i64.wrap (s3.2.1+1),IntKind.i64.wrap (s3.2.2+1)))) else (some (.brk (s3.1,s3.2.1,s3.2.2)))
def mr (p0a:List Int) (p1k:Int):Option (Int×(List Int)):=
 aP (ax (kP) aW (p0a,p1k,0)) (fun r=>some r) (fun s4=>some (s4.2.1,s4.1))
def jD (s3:Yq1×Int×Int):Option (Out (Int×Yq1) (Yq1×Int×Int)):=
 if decide (s3.2.2<(s3.1.length:Int)) then ((aQ s3.1 s3.2.2).bind fun x9=>(aQ (s3.1.set s3.2.2.toNat (s3.2.1,x9.2.1,x9.2.2.1,x9.2.2.2)) s3.2.2).bind fun x10=>(aQ ((s3.1.set s3.2.2.toNat (s3.2.1,x9.2.1,x9.2.2.1,x9.2.2.2)).set s3.2.2.toNat (x10.1,IntKind.i64.wrap (s3.2.1+1),x10.2.2.1,x10.2.2.2)) s3.2.2).bind fun x11=>(aQ (((s3.1.set s3.2.2.toNat (s3.2.1,x9.2.1,x9.2.2.1,x9.2.2.2)).set s3.2.2.toNat (x10.1,IntKind.i64.wrap (s3.2.1+1),x10.2.2.1,x10.2.2.2)).set s3.2.2.toNat (x11.1,x11.2.1,IntKind.i64.wrap ((IntKind.i64.wrap (s3.2.1+1))+1),x11.2.2.2)) s3.2.2).bind fun x12=>some (.nxt ((((s3.1.set s3.2.2.toNat (s3.2.1,x9.2.1,x9.2.2.1,x9.2.2.2)).set s3.2.2.toNat (x10.1,IntKind.i64.wrap (s3.2.1+1),x10.2.2.1,x10.2.2.2)).set s3.2.2.toNat (x11.1,x11.2.1,IntKind.i64.wrap ((IntKind.i64.wrap (s3.2.1+1))+1),x11.2.2.2)).set s3.2.2.toNat (x12.1,x12.2.1,x12.2.2.1,IntKind.i64.wrap ((IntKind.i64.wrap ((IntKind.i64.wrap (s3.2.1+1))+1))+1)),IntKind.i64.wrap ((IntKind.i64.wrap ((IntKind.i64.wrap ((IntKind.i64.wrap (s3.2.1+1))+1))+1))+1),IntKind.i64.wrap (s3.2.2+1)))) else (some (.brk (s3.1,s3.2.1,s3.2.2)))
def mZ (p0a:List Yq4) (p1k:Int):Option (Int×Yq1):=
 aP (ax (jD) aW (p0a,p1k,0)) (fun r=>some r) (fun s4=>some (s4.2.1,s4.1))
def iS (s3:Yq5×Int×Int):Option (Out (Int×Yq5) (Yq5×Int×Int)):=
 if decide (s3.2.2<(s3.1.length:Int)) then ((aQ s3.1 s3.2.2).bind fun x5=>(mr x5.1 s3.2.1).bind fun r10=>(aQ (s3.1.set s3.2.2.toNat (r10.2,x5.2)) s3.2.2).bind fun x6=>(mZ x6.2 r10.1).bind fun r12=>some (.nxt ((s3.1.set s3.2.2.toNat (r10.2,x5.2)).set s3.2.2.toNat (x6.1,r12.2),r12.1,IntKind.i64.wrap (s3.2.2+1)))) else (some (.brk (s3.1,s3.2.1,s3.2.2)))
def l7 (p0a:List EN) (p1k:Int):Option (Int×Yq5):=
 aP (ax (iS) aW (p0a,p1k,0)) (fun r=>some r) (fun s4=>some (s4.2.1,s4.1))
def kQ (p0a:Int×Yq5) (p1k:Int):Option (Int×(Int×Yq5)):=
 (l7 p0a.2 p1k).bind fun r1=>some (r1.1,(p0a.1,r1.2))
def jE (s3:(List Bool)×Int×Int):Option (Out (Int×(List Bool)) ((List Bool)×Int×Int)):=
 if decide (s3.2.2<(s3.1.length:Int)) then ((aQ s3.1 s3.2.2).bind fun x3=>some (.nxt (s3.1.set s3.2.2.toNat ((Int.tmod s3.2.1 3)==0),IntKind.i64.wrap (s3.2.1+1),IntKind.i64.wrap (s3.2.2+1)))) else (some (.brk (s3.1,s3.2.1,s3.2.2)))
def na (p0a:List Bool) (p1k:Int):Option (Int×(List Bool)):=
 aP (ax (jE) aW (p0a,p1k,0)) (fun r=>some r) (fun s4=>some (s4.2.1,s4.1))
def jF (s3:(List (List Int))×Int×Int):Option (Out (Int×(List (List Int))) ((List (List Int))×Int×Int)):=
 if decide (s3.2.2<(s3.1.length:Int)) then ((aQ s3.1 s3.2.2).bind fun x3=>(mr x3 s3.2.1).bind fun r6=>some (.nxt (s3.1.set s3.2.2.toNat r6.2,r6.1,IntKind.i64.wrap (s3.2.2+1)))) else (some (.brk (s3.1,s3.2.1,s3.2.2)))
def nc (p0a:List (List Int)) (p1k:Int):Option (Int×(List (List Int))):=
 aP (ax (jF) aW (p0a,p1k,0)) (fun r=>some r) (fun s4=>some (s4.2.1,s4.1))
def e8 (s3:(List Yq2)×Int×Int):Option (Out (Int×(List Yq2)) ((List Yq2)×Int×Int)):=
 if decide (s3.2.2<(s3.1.length:Int)) then ((aQ s3.1 s3.2.2).bind fun x7=>(aQ (s3.1.set s3.2.2.toNat (s3.2.1,x7.2.1,x7.2.2)) s3.2.2).bind fun x8=>(na x8.2.1 (IntKind.i64.wrap (s3.2.1+1))).bind fun r10=>(aQ ((s3.1.set s3.2.2.toNat (s3.2.1,x7.2.1,x7.2.2)).set s3.2.2.toNat (x8.1,r10.2,x8.2.2)) s3.2.2).bind fun x9=>(nc x9.2.2 r10.1).bind fun r12=>some (.nxt (((s3.1.set s3.2.2.toNat (s3.2.1,x7.2.1,x7.2.2)).set s3.2.2.toNat (x8.1,r10.2,x8.2.2)).set s3.2.2.toNat (x9.1,x9.2.1,r12.2),r12.1,IntKind.i64.wrap (s3.2.2+1)))) else (some (.brk (s3.1,s3.2.1,s3.2.2)))
def gR (p0a:List Yq2) (p1k:Int):Option (Int×(List Yq2)):=
 aP (ax (e8) aW (p0a,p1k,0)) (fun r=>some r) (fun s4=>some (s4.2.1,s4.1))
def iT (s3:Yq1×Int×Int):Option (Out (Int×Yq1) (Yq1×Int×Int)):=
 if decide (s3.2.2<(s3.1.length:Int)) then ((aQ s3.1 s3.2.2).bind fun x9=>(aQ (s3.1.set s3.2.2.toNat (s3.2.1,x9.2.1,x9.2.2.1,x9.2.2.2)) s3.2.2).bind fun x10=>(aQ ((s3.1.set s3.2.2.toNat (s3.2.1,x9.2.1,x9.2.2.1,x9.2.2.2)).set s3.2.2.toNat (x10.1,IntKind.i64.wrap (s3.2.1+1),x10.2.2.1,x10.2.2.2)) s3.2.2).bind fun x11=>(aQ (((s3.1.set s3.2.2.toNat (s3.2.1,x9.2.1,x9.2.2.1,x9.2.2.2)).set s3.2.2.toNat (x10.1,IntKind.i64.wrap (s3.2.1+1),x10.2.2.1,x10.2.2.2)).set s3.2.2.toNat (x11.1,x11.2.1,IntKind.i64.wrap ((IntKind.i64.wrap (s3.2.1+1))+1),x11.2.2.2)) s3.2.2).bind fun x12=>some (.nxt ((((s3.1.set s3.2.2.toNat (s3.2.1,x9.2.1,x9.2.2.1,x9.2.2.2)).set s3.2.2.toNat (x10.1,IntKind.i64.wrap (s3.2.1+1),x10.2.2.1,x10.2.2.2)).set s3.2.2.toNat (x11.1,x11.2.1,IntKind.i64.wrap ((IntKind.i64.wrap (s3.2.1+1))+1),x11.2.2.2)).set s3.2.2.toNat (x12.1,x12.2.1,x12.2.2.1,IntKind.i64.wrap ((IntKind.i64.wrap ((IntKind.i64.wrap (s3.2.1+1))+1))+1)),IntKind.i64.wrap ((IntKind.i64.wrap ((IntKind.i64.wrap ((IntKind.i64.wrap (s3.2.1+1))+1))+1))+1),IntKind.i64.wrap (s3.2.2+1)))) else (some (.brk (s3.1,s3.2.1,s3.2.2)))
def l8 (p0a:List Yq4) (p1k:Int):Option (Int×Yq1):=
 aP (ax (iT) aW (p0a,p1k,0)) (fun r=>some r) (fun s4=>some (s4.2.1,s4.1))
def eE (s3:Yq3×Int×Int):Option (Out (Int×Yq3) (Yq3×Int×Int)):=
 if decide (s3.2.2<(s3.1.length:Int)) then ((aQ s3.1 s3.2.2).bind fun x7=>(aQ (s3.1.set s3.2.2.toNat (s3.2.1,x7.2.1,x7.2.2)) s3.2.2).bind fun x8=>(l8 x8.2.1 (IntKind.i64.wrap (s3.2.1+1))).bind fun r6=>(aQ ((s3.1.set s3.2.2.toNat (s3.2.1,x7.2.1,x7.2.2)).set s3.2.2.toNat (x8.1,(r6.2),x8.2.2)) s3.2.2).bind fun x9=>some (.nxt (((s3.1.set s3.2.2.toNat (s3.2.1,x7.2.1,x7.2.2)).set s3.2.2.toNat (x8.1,(r6.2),x8.2.2)).set s3.2.2.toNat (x9.1,x9.2.1,r6.1),IntKind.i64.wrap (r6.1+1),IntKind.i64.wrap (s3.2.2+1)))) else (some (.brk (s3.1,s3.2.1,s3.2.2)))
def gp (p0a:List Yq9) (p1k:Int):Option (Int×Yq3):=
 aP (ax (eE) aW (p0a,p1k,0)) (fun r=>some r) (fun s4=>some (s4.2.1,s4.1))
def jG (p0a:(List Yq2)×Yq3) (p1k:Int):Option (Int×Yq8):=
 (gR p0a.1 p1k).bind fun r1=>(gp p0a.2 r1.1).bind fun r2=>some (r2.1,(r1.2,r2.2))
def eF (s3:(List Yq7)×Int×Int):Option (Out (Int×(List Yq7)) ((List Yq7)×Int×Int)):=
 if decide (s3.2.2<(s3.1.length:Int)) then ((aQ s3.1 s3.2.2).bind fun x7=>(aQ (s3.1.set s3.2.2.toNat (s3.2.1,x7.2.1,x7.2.2)) s3.2.2).bind fun x8=>(aQ ((s3.1.set s3.2.2.toNat (s3.2.1,x7.2.1,x7.2.2)).set s3.2.2.toNat (x8.1,IntKind.i64.wrap (s3.2.1+1),x8.2.2)) s3.2.2).bind fun x9=>some (.nxt (((s3.1.set s3.2.2.toNat (s3.2.1,x7.2.1,x7.2.2)).set s3.2.2.toNat (x8.1,IntKind.i64.wrap (s3.2.1+1),x8.2.2)).set s3.2.2.toNat (x9.1,x9.2.1,IntKind.i64.wrap ((IntKind.i64.wrap (s3.2.1+1))+1)),IntKind.i64.wrap ((IntKind.i64.wrap ((IntKind.i64.wrap (s3.2.1+1))+1))+1),IntKind.i64.wrap (s3.2.2+1)))) else (some (.brk (s3.1,s3.2.1,s3.2.2)))
def gq (p0a:List Yq7) (p1k:Int):Option (Int×(List Yq7)):=
 aP (ax (eF) aW (p0a,p1k,0)) (fun r=>some r) (fun s4=>some (s4.2.1,s4.1))
def fg (p0a:(Int×Yq5)×Yq8×(List Yq7)×ByteArray) (p1k:Int):Option (Int×Ww):=
 (kQ (p0a.1.1,p0a.1.2) p1k).bind fun r1=>(jG (p0a.2.1.1,p0a.2.1.2) r1.1).bind fun r2=>(gq p0a.2.2.1 r2.1).bind fun r3=>some (r3.1,((p0a.1.1,r1.2.2),(r2.2.1,r2.2.2),r3.2,p0a.2.2.2))
def kR (p0a:List Int) (s3:Int×Int):Option zg:=
 if decide (s3.2<(p0a.length:Int)) then ((aQ p0a s3.2).bind fun x3=>if x3 !=s3.1 then (some (.ret (-1))) else (some (.nxt (IntKind.i64.wrap (s3.1+1),IntKind.i64.wrap (s3.2+1))))) else (some (.brk (s3.1,s3.2)))
def mu (p0a:List Int) (p1k:Int):Option Int:=
 aP (ax (kR p0a) aW (p1k,0)) (fun r=>some r) (fun s4=>some s4.1)
def jH (p0a:List Yq4) (s3:Int×Int):Option zg:=
 if decide (s3.2<(p0a.length:Int)) then ((aQ p0a s3.2).bind fun x9=>if x9.1 !=s3.1 then (some (.ret (-1))) else ((aQ p0a s3.2).bind fun x10=>if x10.2.1 !=(IntKind.i64.wrap (s3.1+1)) then (some (.ret (-1))) else ((aQ p0a s3.2).bind fun x11=>if x11.2.2.1 !=(IntKind.i64.wrap ((IntKind.i64.wrap (s3.1+1))+1)) then (some (.ret (-1))) else ((aQ p0a s3.2).bind fun x12=>if x12.2.2.2 !=(IntKind.i64.wrap ((IntKind.i64.wrap ((IntKind.i64.wrap (s3.1+1))+1))+1)) then (some (.ret (-1))) else (some (.nxt (IntKind.i64.wrap ((IntKind.i64.wrap ((IntKind.i64.wrap ((IntKind.i64.wrap (s3.1+1))+1))+1))+1),IntKind.i64.wrap (s3.2+1)))))))) else (some (.brk (s3.1,s3.2)))
def nf (p0a:List Yq4) (p1k:Int):Option Int:=
 aP (ax (jH p0a) aW (p1k,0)) (fun r=>some r) (fun s4=>some s4.1)
def iU (p0a:List EN) (s3:Int×Int):Option zg:=
 if decide (s3.2<(p0a.length:Int)) then ((aQ p0a s3.2).bind fun x5=>(mu x5.1 s3.1).bind fun r10=>if decide (r10<0) then (some (.ret (-1))) else ((aQ p0a s3.2).bind fun x6=>(nf x6.2 r10).bind fun r12=>if decide (r12<0) then (some (.ret (-1))) else (some (.nxt (r12,IntKind.i64.wrap (s3.2+1)))))) else (some (.brk (s3.1,s3.2)))
def l9 (p0a:List EN) (p1k:Int):Option Int:=
 aP (ax (iU p0a) aW (p1k,0)) (fun r=>some r) (fun s4=>some s4.1)
def kS (p0a:Int×Yq5) (p1k:Int):Option Int:=
 (l9 p0a.2 p1k).bind fun r1=>if decide (r1<0) then (some (-1)) else (some r1)
def jI (p0a:List Bool) (s3:Int×Int):Option zg:=
 if decide (s3.2<(p0a.length:Int)) then ((aQ p0a s3.2).bind fun x3=>if x3 !=((Int.tmod s3.1 3)==0) then (some (.ret (-1))) else (some (.nxt (IntKind.i64.wrap (s3.1+1),IntKind.i64.wrap (s3.2+1))))) else (some (.brk (s3.1,s3.2)))
def ng (p0a:List Bool) (p1k:Int):Option Int:=
 aP (ax (jI p0a) aW (p1k,0)) (fun r=>some r) (fun s4=>some s4.1)
def jJ (p0a:List (List Int)) (s3:Int×Int):Option zg:=
 if decide (s3.2<(p0a.length:Int)) then ((aQ p0a s3.2).bind fun x3=>(mu x3 s3.1).bind fun r6=>if decide (r6<0) then (some (.ret (-1))) else (some (.nxt (r6,IntKind.i64.wrap (s3.2+1))))) else (some (.brk (s3.1,s3.2)))
def nh (p0a:List (List Int)) (p1k:Int):Option Int:=
 aP (ax (jJ p0a) aW (p1k,0)) (fun r=>some r) (fun s4=>some s4.1)
def fa (p0a:List Yq2) (s3:Int×Int):Option zg:=
 if decide (s3.2<(p0a.length:Int)) then ((aQ p0a s3.2).bind fun x7=>if x7.1 !=s3.1 then (some (.ret (-1))) else ((aQ p0a s3.2).bind fun x8=>(ng x8.2.1 (IntKind.i64.wrap (s3.1+1))).bind fun r10=>if decide (r10<0) then (some (.ret (-1))) else ((aQ p0a s3.2).bind fun x9=>(nh x9.2.2 r10).bind fun r12=>if decide (r12<0) then (some (.ret (-1))) else (some (.nxt (r12,IntKind.i64.wrap (s3.2+1))))))) else (some (.brk (s3.1,s3.2)))
def gS (p0a:List Yq2) (p1k:Int):Option Int:=
 aP (ax (fa p0a) aW (p1k,0)) (fun r=>some r) (fun s4=>some s4.1)
def iV (p0a:List Yq4) (s3:Int×Int):Option zg:=
 if decide (s3.2<(p0a.length:Int)) then ((aQ p0a s3.2).bind fun x9=>if x9.1 !=s3.1 then (some (.ret (-1))) else ((aQ p0a s3.2).bind fun x10=>if x10.2.1 !=(IntKind.i64.wrap (s3.1+1)) then (some (.ret (-1))) else ((aQ p0a s3.2).bind fun x11=>if x11.2.2.1 !=(IntKind.i64.wrap ((IntKind.i64.wrap (s3.1+1))+1)) then (some (.ret (-1))) else ((aQ p0a s3.2).bind fun x12=>if x12.2.2.2 !=(IntKind.i64.wrap ((IntKind.i64.wrap ((IntKind.i64.wrap (s3.1+1))+1))+1)) then (some (.ret (-1))) else (some (.nxt (IntKind.i64.wrap ((IntKind.i64.wrap ((IntKind.i64.wrap ((IntKind.i64.wrap (s3.1+1))+1))+1))+1),IntKind.i64.wrap (s3.2+1)))))))) else (some (.brk (s3.1,s3.2)))
def ma (p0a:List Yq4) (p1k:Int):Option Int:=
 aP (ax (iV p0a) aW (p1k,0)) (fun r=>some r) (fun s4=>some s4.1)
def eG (p0a:List Yq9) (s3:Int×Int):Option zg:=
 if decide (s3.2<(p0a.length:Int)) then ((aQ p0a s3.2).bind fun x7=>if x7.1 !=s3.1 then (some (.ret (-1))) else ((aQ p0a s3.2).bind fun x8=>(ma x8.2.1 (IntKind.i64.wrap (s3.1+1))).bind fun r6=>if decide (r6<0) then (some (.ret (-1))) else ((aQ p0a s3.2).bind fun x9=>if x9.2.2 !=r6 then (some (.ret (-1))) else (some (.nxt (IntKind.i64.wrap (r6+1),IntKind.i64.wrap (s3.2+1))))))) else (some (.brk (s3.1,s3.2)))
def gr (p0a:List Yq9) (p1k:Int):Option Int:=
 aP (ax (eG p0a) aW (p1k,0)) (fun r=>some r) (fun s4=>some s4.1)
def jK (p0a:(List Yq2)×Yq3) (p1k:Int):Option Int:=
 (gS p0a.1 p1k).bind fun r1=>if decide (r1<0) then (some (-1)) else ((gr p0a.2 r1).bind fun r2=>if decide (r2<0) then (some (-1)) else (some r2))
def eH (p0a:List Yq7) (s3:Int×Int):Option zg:=
 if decide (s3.2<(p0a.length:Int)) then ((aQ p0a s3.2).bind fun x7=>if x7.1 !=s3.1 then (some (.ret (-1))) else ((aQ p0a s3.2).bind fun x8=>if x8.2.1 !=(IntKind.i64.wrap (s3.1+1)) then (some (.ret (-1))) else ((aQ p0a s3.2).bind fun x9=>if x9.2.2 !=(IntKind.i64.wrap ((IntKind.i64.wrap (s3.1+1))+1)) then (some (.ret (-1))) else (some (.nxt (IntKind.i64.wrap ((IntKind.i64.wrap ((IntKind.i64.wrap (s3.1+1))+1))+1),IntKind.i64.wrap (s3.2+1))))))) else (some (.brk (s3.1,s3.2)))
def gu (p0a:List Yq7) (p1k:Int):Option Int:=
 aP (ax (eH p0a) aW (p1k,0)) (fun r=>some r) (fun s4=>some s4.1)
def gK (p0a:(Int×Yq5)×Yq8×(List Yq7)×ByteArray) (p1k:Int):Option Int:=
 (kS (p0a.1.1,p0a.1.2) p1k).bind fun r1=>if decide (r1<0) then (some (-1)) else ((jK (p0a.2.1.1,p0a.2.1.2) r1).bind fun r2=>if decide (r2<0) then (some (-1)) else ((gu p0a.2.2.1 r2).bind fun r3=>if decide (r3<0) then (some (-1)) else (some r3)))
def gx (p0r:(List Yq2)×Yq3) (p1id:Int):Option (Yq8×Bool):=
 (iK (p0r.1,p0r.2) p1id).bind fun r1=>(dX (p0r.1,p0r.2)).bind fun r2=>if r2 then (if decide (r1<0) then ((lA (p0r.1,p0r.2)).bind fun r5=>some ((r5.1,r5.2),false)) else ((chk (0<=r1/\r1<=(p0r.2.length:Int))).bind fun _=>(cr 40 ([] :List Yq9) (p0r.2.take r1.toNat)).bind fun z1=>(chk (0<=IntKind.i64.wrap (r1+1)/\IntKind.i64.wrap (r1+1)<=(p0r.2.length:Int))).bind fun _=>(cr 40 z1 (p0r.2.drop (IntKind.i64.wrap (r1+1)).toNat)).bind fun z2=>(mj z2).bind fun r4=>some ((r4.1.1,r4.1.2),r4.2))) else ((lA (p0r.1,p0r.2)).bind fun r3=>some ((r3.1,r3.2),false))
def cY (p0e:(Int×Yq5)×Yq8×(List Yq7)×ByteArray) (p1id:Int) (s5:Int×Int×Yq5×(List Yq2)×Yq3×(List Yq7)×ByteArray):Option (Out (Ww×Bool) (Int×Int×Yq5×(List Yq2)×Yq3×(List Yq7)×ByteArray)):=
 if decide (s5.1<(p0e.2.2.1.length:Int)) then (Option.bind (((aQ p0e.2.2.1 s5.1).bind fun x11=>if x11.2.1 !=p1id then ((aQ p0e.2.2.1 s5.1).bind fun x12=>(cr 24 s5.2.2.2.2.2.1 ([(x12.1,x12.2.1,x12.2.2)])).bind fun z6=>some (s5.2.1,s5.2.2.1,s5.2.2.2.1,s5.2.2.2.2.1,z6,s5.2.2.2.2.2.2)) else (some (s5.2.1,s5.2.2.1,s5.2.2.2.1,s5.2.2.2.2.1,s5.2.2.2.2.2.1,s5.2.2.2.2.2.2)):Option (Int×Yq5×(List Yq2)×Yq3×(List Yq7)×ByteArray))) (fun s7=>some (.nxt (IntKind.i64.wrap (s5.1+1),s7.1,s7.2.1,s7.2.2.1,s7.2.2.2.1,s7.2.2.2.2.1,s7.2.2.2.2.2)))) else (some (.brk (s5.1,s5.2.1,s5.2.2.1,s5.2.2.2.1,s5.2.2.2.2.1,s5.2.2.2.2.2.1,s5.2.2.2.2.2.2)))
def fC (p0e:(Int×Yq5)×Yq8×(List Yq7)×ByteArray) (p1id:Int):Option (Ww×Bool):=
 (qv ((p0e.1.1,p0e.1.2),(p0e.2.1.1,p0e.2.1.2),p0e.2.2.1,p0e.2.2.2)).bind fun r1=>(gx (p0e.2.1.1,p0e.2.1.2) p1id).bind fun r2=>(iL ((p0e.1.1,p0e.1.2),(p0e.2.1.1,p0e.2.1.2),p0e.2.2.1,p0e.2.2.2)).bind fun r3=>if r3 then (if r2.2 then (aP (ax (cY p0e p1id) aW (0,r1.1.1,r1.1.2,r2.1.1,r2.1.2,[],r1.2.2.2)) (fun r=>some r) (fun s6=>some (((s6.2.1,s6.2.2.1),(s6.2.2.2.1,s6.2.2.2.2.1),s6.2.2.2.2.2.1,s6.2.2.2.2.2.2),true))) else (some (((r1.1.1,r1.1.2),(r1.2.1.1,r1.2.1.2),r1.2.2.1,r1.2.2.2),false))) else (some (((r1.1.1,r1.1.2),(r1.2.1.1,r1.2.1.2),r1.2.2.1,r1.2.2.2),false))
def bH (p0:List Yq9) (p1 p2:Int):Option Yq3:=R.Yk p0 p1 p2
def bJ (p0:List Yq9):Option Yq3:=cr 40 [] p0
def gy (p0r:(List (Int×(List Bool)×List (List Int)))×List (Int×Yq1×Int)) (p1id:Int):Option (YV×Bool):=
 (iP (p0r.1,p0r.2) p1id).bind fun r0=>if decide (r0<0) then ((eR (p0r.1,p0r.2)).bind fun r1=>some ((r1.1,r1.2),false)) else ((cD (p0r.1,p0r.2)).bind fun r2=>if r2 then ((bJ p0r.2).bind fun r4=>(bH r4 r0 (IntKind.i64.wrap (r0+1))).bind fun r5=>(px r5).bind fun r6=>some ((r6.1.1,r6.1.2),r6.2)) else ((eR (p0r.1,p0r.2)).bind fun r3=>some ((r3.1,r3.2),false)))
def bp (p0s:List Yq7) (p1f:Yq7->Option Bool) (s3:Int):Option (Out Int Int):=
 if decide (s3<(p0s.length:Int)) then ((aQ p0s s3).bind fun x3=>(p1f (x3.1,x3.2.1,x3.2.2)).bind fun r3=>if r3 then (some (.ret s3)) else (some (.nxt (IntKind.i64.wrap (s3+1))))) else (some (.brk s3))
def aZ (p0s:List Yq7) (p1f:Yq7->Option Bool):Option Int:=
 aP (ax (bp p0s p1f) aW 0) (fun r=>some r) (fun s4=>some (-1))
def be (p1del:Yq7->Option Bool) (s3:Int×Int×List Yq7):Option (Out (List Yq7) (Int×Int×List Yq7)):=
 if decide (s3.2.1<(s3.2.2.length:Int)) then (Option.bind (((aQ s3.2.2 s3.2.1).bind fun x4=>(p1del (x4.1,x4.2.1,x4.2.2)).bind fun r5=>if r5 then (some (s3.1,s3.2.2)) else ((aQ s3.2.2 s3.1).bind fun x6=>some (IntKind.i64.wrap (s3.1+1),s3.2.2.set s3.1.toNat (x4.1,x4.2.1,x4.2.2))):Option (Int×List Yq7))) (fun s7=>some (.nxt (s7.1,IntKind.i64.wrap (s3.2.1+1),s7.2)))) else (some (.brk (s3.1,s3.2.1,s3.2.2)))
def aX (p0s:List Yq7) (p1del:Yq7->Option Bool):Option (List Yq7):=
 (aZ p0s p1del).bind fun r0=>if r0==(-1) then (some p0s) else (aP (ax (be p1del) aW (r0,IntKind.i64.wrap (r0+1),p0s)) (fun r8=>some r8) (fun s9=>(chk (And (0<=s9.1) (And (s9.1<=((s9.2.2.length:Int) - 0)) ((0+((s9.2.2.length:Int) - 0))<=(s9.2.2.length:Int))))).bind fun _=>(chk (And ((0+s9.1)<=(0+((s9.2.2.length:Int) - 0))) ((0+((s9.2.2.length:Int) - 0))<=(s9.2.2.length:Int)))).bind fun _=>(chk (And ((0:Int)<=0) (And (0<=s9.1) ((0+s9.1)<=((rl s9.2.2 ((0+s9.1).toNat) ((0+((s9.2.2.length:Int) - 0)).toNat) (0,0,0)).length:Int))))).bind fun _=>some (((rl s9.2.2 ((0+s9.1).toNat) ((0+((s9.2.2.length:Int) - 0)).toNat) (0,0,0)).take ((0+s9.1).toNat)).drop 0)))
def eI (p0s:Int×Int×Int) (q0:Int):Option Bool:=
 some (p0s.2.1==q0)
def dK (p0e:(Int×List ((List Int)×List Yq4))×YV×(List Yq7)×ByteArray) (p1id:Int):Option (((Int×List ((List Int)×List Yq4))×YV×(List Yq7)×ByteArray)×Bool):=
 (l6 ((p0e.1.1,p0e.1.2),(p0e.2.1.1,p0e.2.1.2),p0e.2.2.1,p0e.2.2.2)).bind fun r0=>(iQ ((p0e.1.1,p0e.1.2),(p0e.2.1.1,p0e.2.1.2),p0e.2.2.1,p0e.2.2.2)).bind fun r1=>if r1 then ((gy (p0e.2.1.1,p0e.2.1.2) p1id).bind fun r2=>if r2.2 then ((aX r0.2.2.1 (fun (u3:Int×Int×Int)=>eI u3 p1id)).bind fun r4=>some (((r0.1.1,r0.1.2),(r2.1.1,r2.1.2),r4,r0.2.2.2),true)) else (some (((r0.1.1,r0.1.2),(r0.2.1.1,r0.2.1.2),r0.2.2.1,r0.2.2.2),false))) else (some (((r0.1.1,r0.1.2),(r0.2.1.1,r0.2.1.2),r0.2.2.1,r0.2.2.2),false))
def cZ (p0:(Int×Yq5)×Yq8×(List Yq7)×ByteArray) (p1:Int):Option Bool:=
 (oE ((p0.1.1,p0.1.2),(p0.2.1.1,p0.2.1.2),p0.2.2.1,p0.2.2.2) 1048576).bind fun r1=>if decide (r1<0) then (some true) else ((iu ((p0.1.1,p0.1.2),(p0.2.1.1,p0.2.1.2),p0.2.2.1,p0.2.2.2)).bind fun r2=>(fC ((r2.1.1,r2.1.2),(r2.2.1.1,r2.2.1.2),r2.2.2.1,r2.2.2.2) p1).bind fun r3=>(iu ((p0.1.1,p0.1.2),(p0.2.1.1,p0.2.1.2),p0.2.2.1,p0.2.2.2)).bind fun r4=>(dK ((r4.1.1,r4.1.2),(r4.2.1.1,r4.2.1.2),r4.2.2.1,r4.2.2.2) p1).bind fun r5=>(iA ((r5.1.1.1,r5.1.1.2),(r5.1.2.1.1,r5.1.2.1.2),r5.1.2.2.1,r5.1.2.2.2) ((r3.1.1.1,r3.1.1.2),(r3.1.2.1.1,r3.1.2.1.2),r3.1.2.2.1,r3.1.2.2.2)).bind fun r6=>if r6 then (if r5.2 !=r3.2 then (some false) else ((iu ((p0.1.1,p0.1.2),(p0.2.1.1,p0.2.1.2),p0.2.2.1,p0.2.2.2)).bind fun r7=>(iA ((r4.1.1,r4.1.2),(r4.2.1.1,r4.2.1.2),r4.2.2.1,r4.2.2.2) ((r7.1.1,r7.1.2),(r7.2.1.1,r7.2.1.2),r7.2.2.1,r7.2.2.2)).bind fun r8=>if r8 then ((fg ((r4.1.1,r4.1.2),(r4.2.1.1,r4.2.1.2),r4.2.2.1,r4.2.2.2) 1).bind fun r9=>if decide (r9.1<0) then (some false) else ((iA ((r5.1.1.1,r5.1.1.2),(r5.1.2.1.1,r5.1.2.1.2),r5.1.2.2.1,r5.1.2.2.2) ((r3.1.1.1,r3.1.1.2),(r3.1.2.1.1,r3.1.2.1.2),r3.1.2.2.1,r3.1.2.2.2)).bind fun r10=>if r10 then (if r5.2 !=r3.2 then (some false) else ((fg ((r5.1.1.1,r5.1.1.2),(r5.1.2.1.1,r5.1.2.1.2),r5.1.2.2.1,r5.1.2.2.2) 1).bind fun r11=>(gK ((r5.1.1.1,r11.2.1.2),(r11.2.2.1.1,r11.2.2.1.2),r11.2.2.2.1,r5.1.2.2.2) 1).bind fun r12=>if decide (r12<0) then (some false) else (if r12 !=r11.1 then (some false) else ((iu ((p0.1.1,p0.1.2),(p0.2.1.1,p0.2.1.2),p0.2.2.1,p0.2.2.2)).bind fun r13=>(dK ((r13.1.1,r13.1.2),(r13.2.1.1,r13.2.1.2),r13.2.2.1,r13.2.2.2) p1).bind fun r14=>(iA ((r14.1.1.1,r14.1.1.2),(r14.1.2.1.1,r14.1.2.1.2),r14.1.2.2.1,r14.1.2.2.2) ((r3.1.1.1,r3.1.1.2),(r3.1.2.1.1,r3.1.2.1.2),r3.1.2.2.1,r3.1.2.2.2)).bind fun r15=>if r15 then (if r14.2 !=r3.2 then (some false) else ((gK ((r5.1.1.1,r11.2.1.2),(r11.2.2.1.1,r11.2.2.1.2),r11.2.2.2.1,r5.1.2.2.2) 1).bind fun r16=>if decide (r16<0) then (some false) else (if r16 !=r11.1 then (some false) else (some true)))) else (some false))))) else (some false))) else (some false))) else (some false))
end D
end Go.Proofs.YtilionjghdjbdaaGreatDoor
