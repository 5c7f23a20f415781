/- FnExactEngineSubscribe: for every input the law returns true and changes nothing that was there. Part 6 of 9. -/
import Derived.Test.YtilionjghdjbdaaGreatDoorEC4
set_option linter.unusedVariables false
set_option linter.unusedSimpArgs false
set_option linter.unnecessarySimpa false
set_option linter.unusedSectionVars false
set_option maxRecDepth 1000000
namespace Go.Proofs.YtilionjghdjbdaaGreatDoor
namespace R
open Go.RowKit
open D
theorem Cv {vs:List Value} : ∀ {ts:List Ty} {i:Nat} {us:List Value} {d:iQ ts},us.length=ts.length->(∀j v,us[j]? =some v->vs[i+j]? =some v)->u9 i ts d (.tuple vs.toArray)=wO ts us d
 | [],i,us,d,h,_=>by
  cases us with
  | nil=>rfl
  | cons _ _=>cases h
 | t::ts,i,[],d,h,_=>by cases h
 | t::ts,i,u::us,d,h,k=>by
  have h0:vg (.tuple vs.toArray) [i] =u:=by
   show vs.toArray.getD i undef=u
   have:=k 0 u rfl
   rw[Nat.add_zero] at this
   simp[Array.getD_eq_getD_getElem?,this]
  show Ch.own t.rep (iR t.isProd (vg (.tuple vs.toArray) [i])) d.1::u9 (i+1) ts d.2 _=Ch.own t.rep (iR t.isProd u) d.1::wO ts us d.2
  rw[h0,Cv (us:=us) (by simpa using h) fun j v hj=>by
   have:=k (j+1) v (by simpa using hj)
   rwa [show i+(j+1)=i+1+j from by omega] at this]
theorem K0 {ts:List Ty} {vs:List Value} {d:iQ ts} (h:vs.length=ts.length):resGv ts d (X9 vs)=wO ts vs d:=by
 match ts,vs,d,h with
 | [],[],d,_=>rfl
 | [t],[v],d,_=>rfl
 | t::u::ts,v::w::vs,d,h =>
  show u9 0 _ d (.tuple (v::w::vs).toArray)=_
  exact Cv h fun j x hj=>by rw[Nat.zero_add];exact hj
theorem Ro {ts:List Ty} {vs:List Value} (h:vs.length=ts.length) (k: ∀(i:Nat) t v,ts[i]? =some t->vs[i]? =some v->oW v=t.isProd):resFa ts (X9 vs):=by
 match ts,vs,h with
 | [],[],_=>exact ⟨#[],rfl,rfl,fun i t ht=>by simp at ht⟩
 | [t],[v],_=>exact k 0 t v rfl rfl
 | t::u::ts,v::w::vs,h =>
  refine ⟨(v::w::vs).toArray,rfl,by simpa using h,fun i t' ht=>?_⟩
  have hlt:i<(v::w::vs).length:=by rw[h];exact (List.getElem?_eq_some_iff.1 ht).1
  have:=k i t' ((v::w::vs)[i]) ht (List.getElem?_eq_getElem hlt)
  rw[<-this,Array.getD_eq_getD_getElem?,List.getElem?_toArray,List.getElem?_eq_getElem hlt];rfl
theorem Ad {P:Program} {I:Hp} {w0 w:World} {F:Ch} {J:Hp} {θ:Th} {n:Nat} {s:Sg} {a:Act} {tt:TT} (hT:TTok P tt) (hS:Sim P I w0 F n J θ s a w): ∀ {rs:List ResultVar} {vs:List AV},Cu tt s rs=some vs->JG P a w rs (vs.map (·.v θ))/\ ∀v∈vs,v.ok P w0 J θ s.nxt s.chs
 | [],vs,h=>by
  obtain rfl:=ae (show some [] =some vs from h)
  exact ⟨rfl,fun v hv=>by cases hv⟩
 | r::rs,vs,h=>by
  obtain ⟨v,hv',h⟩:=bind_some (show (Vo tt s r).bind _=some vs from h)
  obtain ⟨us,hus,h⟩:=bind_some h
  obtain rfl:=ae h
  obtain ⟨k1,k2⟩:=Rm hT hS hv'
  obtain ⟨q1,q2⟩:=Ad hT hS hus
  refine ⟨⟨_,_,rfl,k1,q1⟩,fun x hx=>?_⟩
  rcases aE hx with rfl | hx
  ·exact k2
  ·exact q2 x hx
theorem N5 {J:Hp} {a b c d:List Ch} (h:pL J a b) (k:pL J c d):pL J (a++c) (b++d):=fun w F hs=>by
 obtain ⟨G,K,rfl,e1,e2⟩:=hs.split
 exact (h w G e1).append (k w K e2)
theorem St.sepTo {J:Hp} {w0 w:World} {a b C:List Ch} (h:St J w0 w (a++C)) (k:pL J a b):St J w0 w (b++C):=by
 obtain ⟨h1,h2,F,h3,h4,h5⟩:=h
 obtain ⟨G,K,rfl,e1,e2⟩:=h3.split
 exact ⟨h1,h2,G++K,(k w G e1).append e2,h4,h5⟩
theorem Cw {P:Program} {n:Nat} {I:Hp} {w0:World} {k:FuncId} {fn:Func} {c:Code} {args:Array Value} {rn:List Ch} {fact:Value->Prop} {gv:Value->List Ch} (L:List (Nat×Value)) (hf:P.funcs[k]? =some fn) (hb:fn.body=some c) (hn:fn.ntmps=n) (hm:args.size<=n) (hL: ∀p∈L,args[p.1]? =some p.2)
  (h: ∀F w a,Agr n a L->St I w0 w (rn++ [F])->c.wp P (bodyPost P fn fun e w'=> ∃v,e= .returned v/\fact v/\ ∃J,I.le J/\St J w0 w' (gv v++ [F])) a w) (hd: ∀v,Ch.back (gv v)):Con P k args I w0 rn fact gv:=by
 intro w C hs
 have hs':St I w0 w (rn++ [Ch.fr I C]):=by
  obtain ⟨hb,hi,F,h1,h2,h3⟩:=hs
  obtain ⟨G,K,rfl,e1,e2⟩:=h1.split
  exact ⟨hb,hi,G++K,e1.append ⟨K,[],by simp,e2,rfl⟩,h2,h3⟩
 have:=h (Ch.fr I C) w { tmps:=args++Array.replicate (fn.ntmps - args.size) undef,defers:=[] } (Agr.start L (by omega) hL) hs'
 refine (calls_of_wp hf hb this).mono ?_
 rintro e w' ⟨v,rfl,hv,J,hJ,hs⟩
 exact ⟨v,rfl,hv,hs.back hJ (hd v)⟩
theorem Rp {P:Program} {I:Hp} {w0 w:World} {F:Ch} {n:Nat} {J:Hp} {θ:Th} {s:Sg} {a:Act} {tr:Trs} {vs:List AV} (hS:Sim P I w0 F n J θ s a w): ∃J' θ',J.le J'/\Sim P I w0 F n J' θ' (Rn tr vs s) a w/\Fr s θ (Rn tr vs s) θ':=by
 have key: ∃J' θ',J.le J'/\Sim P I w0 F n J' θ' (FZ tr vs s) a w/\Fr s θ (FZ tr vs s) θ':=by
  unfold FZ
  split
  ·exact ⟨J,θ,Hp.le.rfl,hS,Fr.rfl⟩
  ·exact ue hS
 obtain ⟨J',θ',h1,h2,h3⟩:=key
 obtain ⟨S2,F2⟩:=sB (V:=⟨[],[],[],n,[]⟩) (hs:=HV s vs++yY (FZ tr vs s).chs) h2
 exact ⟨J',θ',h1,S2,h3.trans F2⟩
theorem Td {V:Env} {P:Program} {w0:World} {F:Ch} {J:Hp} {θ:Th} (hT:TTok P V.tt) {fn:Func} {rs:List Ty} {ps:List PM} {d:denP ps} {vs:List Value} {s0:Sg} (k0:vs.length=ps.length) (k5:StF P w0 J θ ps.length 0 ps vs d) (hn0:ps.length<=s0.nxt): ∀r J' θ' s' a' w',N4 V fn.results.toList rs ps d s'=some r->Sim P J w0 F V.n J' θ' s' a' w'->J.le J'->Fr s0 θ s' θ'->
  bodyPost P fn (fun e w'=> ∃v,e= .returned v/\(resFa rs v/\(Co 1000000 V.an=true->xw rs (hFst rs (outs ps) (toH _ r)) v))/\ ∃J2,J.le J2/\St J2 w0 w' ((resGv rs (hFst rs (outs ps) (toH _ r)) v++outCh ps vs (hSnd rs (outs ps) (toH _ r)))++ [F])) .ret a' w':=by
 intro r J' θ' s' a' w' hrt hS' hJ hFr
 obtain ⟨vs00,hv00,hrt⟩:=bind_some (show (Cu V.tt s' fn.results.toList).bind _=some r from hrt)
 obtain ⟨s0',hrt,S0,N0⟩:=Jn hrt (Ad hT hS' hv00).2 hS'
 obtain ⟨vs0,hv0,hrt⟩:=bind_some hrt
 obtain ⟨J1,θ1,hJ1,S1,F1⟩:=Rp (tr:=V.tr) (vs:=vs0) S0
 generalize Rn V.tr vs0 s0'=s1 at hrt S1 F1
 have hle:s0.nxt<=s'.nxt:=hFr.1
 have hsame:Same ps.length θ θ1:=fun i hi=>(F1.same i (by omega)).trans (hFr.same i (by omega))
 replace hJ:=hJ.trans hJ1
 clear hJ1 F1 hS' S0 hFr
 revert J1 θ1
 clear J' θ'
 intro J' θ' S1 hsame hJ
 obtain ⟨us,hus,hrt⟩:=bind_some hrt
 obtain ⟨q,hq,hrt⟩:=bind_some hrt
 obtain ⟨o,ho,hrt⟩:=bind_some hrt
 obtain ⟨u0,hnl,hrt⟩:=bind_some hrt
 obtain rfl:=ae hrt
 obtain ⟨r1,r2⟩:=Ad hT S1 hus
 obtain ⟨t1,t2,t3,t4⟩:=Ct (J:=J') (θ:=θ') hq r2
 obtain ⟨o1,o2⟩:=fP (P:=P) (J:=J) (J':=J') (θ:=θ) (θ':=θ') (vs:=vs) (n:=ps.length) (n':=s1.nxt) (chs0:=s1.chs) hJ hsame ho k0 k5 fun e he=>S1.fine.chs e (t1.mem_iff.2 (by simp[he]))
 have hl:(us.map (·.v θ')).length=rs.length:=by rw[List.length_map];exact t2
 refine YI S1.agr r1 ⟨_,rfl,⟨Ro hl fun i t v ht hv1=>?_,fun han=>?_⟩,J',hJ,?_⟩
 ·rw[List.getElem?_map] at hv1
  obtain ⟨x,hx,rfl⟩:=Option.map_eq_some_iff.1 hv1
  exact t4 i t x ht hx
 ·rw[HU,DI]
  unfold Xe at hnl
  rw[han] at hnl
  have hnl:0<nlN us rs q.1:=bF hnl
  rcases us with _ | ⟨x,us⟩
  ·cases hnl
  ·cases us with
   | nil=>exact Xf (θ:=θ') hnl rfl
   | cons y us=>unfold nlN at hnl;split at hnl <;> first | omega | simp_all
 ·rw[HU,DI,JH,K0 hl]
  have hp:=t1.trans (o1.append_left _)
  have h1:=S1.st.perm ((hp.map (toCh P θ')).append_right [F])
  have h2:St J' w0 w' ((q.2.1.map (toCh P θ')++o.2.1.map (toCh P θ'))++(o.2.2.map (toCh P θ')++ [F])):=by
   simpa [aO,ai] using h1
  have h3:=St.sepTo h2 (N5 t3 o2)
  refine St.left (ds:=o.2.2.map (toCh P θ')) (h3.perm ?_)
  simp only[ai]
  exact List.Perm.append_left _ (List.Perm.append_left _ List.perm_append_comm)
theorem Vs {V:Env} {P:Program} (hT:TTok P V.tt) (hF:FTok P V.ft) (hmx:P.follows .mixedOrders=true) {k:FuncId} {fn:Func} {c:Code} {f:FS} (hf:P.funcs[k]? =some fn) (hb:fn.body=some c) (hn:fn.ntmps=V.n) (hen:Enters P k) (hm:f.ps.length<=V.n) (hdp:(Fj f.rs&&zG f.ps)=true) (ann:Ann)
  (hmod: ∀d,appP f.ps f.m d=j9 V (N4 V fn.results.toList f.rs f.ps d) c ann (fun r=>some r) (fun _ _=>none) (N4 V fn.results.toList f.rs f.ps d) (qX (Ac f.ps d))): ∀w0 J vs (d:denP f.ps) r,Lay P J->PArgs P w0 J f.ps vs d->appP f.ps f.m d=some r->Con P k vs.toArray J w0 (owCh f.ps vs d) (fun v=>resFa f.rs v/\(Co 1000000 V.an=true->xw f.rs (hFst f.rs (outs f.ps) (toH _ r)) v)) (fun v=>resGv f.rs (hFst f.rs (outs f.ps) (toH _ r)) v++outCh f.ps vs (hSnd f.rs (outs f.ps) (toH _ r))):=by
 rw[aj] at hdp
 intro w0 J vs d r hlay ha hr
 rw[hmod] at hr
 let θ:Th:=fun i=>vs.getD i undef
 have hθ: ∀j v,vs[j]? =some v->θ (0+j)=v:=fun j v hj=>by
  show vs.getD (0+j) undef=v
  rw[Nat.zero_add,List.getD_eq_getElem?_getD,hj];rfl
 have k0:=FY ha
 have hzip: ∀p∈(vs.zipIdx.map fun q=>(q.2,q.1)),vs.toArray[p.1]? =some p.2:=fun p hp=>by
  obtain ⟨q,hq,rfl⟩:=List.mem_map.1 hp
  obtain ⟨v,j⟩:=q
  have:=(List.mk_mem_zipIdx_iff_getElem? (x:=v) (i:=j)).1 hq
  simpa using this
 refine Cw (n:=V.n) (vs.zipIdx.map fun q=>(q.2,q.1)) hf hb hn (by rw[List.size_toArray,k0];exact hm) hzip (fun F w a hA hst=>?_) (fun v=>wG (fq _ _ _ hdp.2) _ _ hdp.1)
 ·obtain ⟨k1,k2,k3,k4,k5⟩:=JF (n:=f.ps.length) (C:=[F]) ha hθ (by omega) hst
  have hfine:Fine P w0 J θ (Ac f.ps d):=⟨fun e he=>(k1 e he).1 _,fun e he=>by have:=k1 e he;show e.2.1<f.ps.length;omega,k2,fun e he=>k4 e he _,hlay⟩
  have hA':Agr V.n a (envL θ (Ac f.ps d)):=hA.pick _ fun p hp=>by
   obtain ⟨e,he,rfl⟩:=List.mem_map.1 hp
   have h5:=(k1 e he).2.2.2.2
   rw[Nat.sub_zero] at h5
   have key: ∀(l:List Value) (k:Nat) (i:Nat) (v:Value),k<=i->l[i - k]? =some v->((l.zipIdx k).map fun q=>(q.2,q.1)).lookup i=some v:=by
    intro l
    induction l with
    | nil=>intro k i v _ h;simp at h
    | cons x l ih =>
     intro k i v hk h
     simp only[List.zipIdx_cons,List.map_cons,List.lookup_cons]
     by_cases e:i=k
     ·subst e
      simp at h
      simp[h]
     ·have:(i==k)=false:=by simpa using e
      rw[this]
      refine ih (k+1) i v (by omega) ?_
      rw[show i - k=(i - (k+1))+1 from by omega] at h
      simpa using h
   exact key vs 0 e.1 _ (Nat.zero_le _) h5
  have hS:Sim P J w0 F V.n J θ (Ac f.ps d) a w:=⟨Hp.le.rfl,hA',k3,hfine⟩
  have fin:=Td (rs:=f.rs) (fn:=fn) (F:=F) hT k0 k5 (aC (Ac f.ps d).nxt)
  obtain ⟨θ0,hS0,hFr0⟩:=yS hS
  exact (Ab (I:=J) (w0:=w0) (F:=F) hT hF hmx c).1 ann hr hS0 (fun J' θ' s' a' w' hk S' hJ hFr=>fin r J' θ' s' a' w' hk S' hJ (hFr0.trans hFr)) (fun i J' θ' s' a' w' hk=>by cases hk) (fun r' J' θ' s' a' w' hrt hrr hS' hJ hFr=>by
   obtain rfl:=ae hrr
   exact fin _ J' θ' s' a' w' hrt hS' hJ (hFr0.trans hFr))
theorem fok {V:Env} {P:Program} (hT:TTok P V.tt) (hF:FTok P V.ft) (hmx:P.follows .mixedOrders=true) {k:FuncId} {fn:Func} {c:Code} {f:FS} (hf:P.funcs[k]? =some fn) (hb:fn.body=some c) (hn:fn.ntmps=V.n) (hen:Enters P k) (hcl:f.cl=none) (hm:f.ps.length<=V.n) (hdp:(Fj f.rs&&zG f.ps)=true) (ann:Ann)
  (hmod: ∀d,appP f.ps f.m d=j9 V (N4 V fn.results.toList f.rs f.ps d) c ann (fun r=>some r) (fun _ _=>none) (N4 V fn.results.toList f.rs f.ps d) (qX (Ac f.ps d))):FOk P k f:=
 ⟨fun q hq=>by (rw[hcl] at hq;cases hq),fun _=>hen,fun w0 J vs d r hlay ha hr w C hs=>(Vs hT hF hmx hf hb hn hen hm hdp ann hmod w0 J vs d r hlay ha hr w C hs).mono fun e w' ⟨v,h1,h2,h3⟩=>⟨v,h1,h2.1,h3⟩⟩
theorem JI {V:Env} {P:Program} (hT:TTok P V.tt) (hF:FTok P V.ft) (hmx:P.follows .mixedOrders=true) {k:FuncId} {fn:Func} {c:Code} {E b:Nat} (hf:P.funcs[k]? =some fn) (hb:fn.body=some c) (hn:fn.ntmps=V.n) (hen:Enters P k) (hm:1<=V.n) (ann:Ann)
  (hmod: ∀(E':TypeId) (bn:Bool) (xs:List Raw),(match bn with | true=>some ([] :List Raw) | false=>(cz b [] xs).bind fun zs=>some zs)=j9 V (N4 V fn.results.toList [.sl E .raw] [] ()) c ann (fun r=>some r) (fun _ _=>none) (N4 V fn.results.toList [.sl E .raw] [] ()) ⟨[(0,0,.one (.rdn ⟨0,[]⟩ bn (.sl E' .raw) xs))],[],1⟩):wD P k E b:=by
 refine ⟨hen,fun E' J w0 v xs zs hlay hrd vx=>?_⟩
 obtain ⟨bn,hbn⟩: ∃bn,B9 v=bn:=⟨_,rfl⟩
 have hr:j9 V (N4 V fn.results.toList [.sl E .raw] [] ()) c ann (fun r=>some r) (fun _ _=>none) (N4 V fn.results.toList [.sl E .raw] [] ()) ⟨[(0,0,.one (.rdn ⟨0,[]⟩ bn (.sl E' .raw) xs))],[],1⟩=some zs:=by
  rw[<-hmod E' bn xs]
  cases bn with
  | false =>
   show (cz b [] xs).bind _=_
   rw[vx];rfl
  | true =>
   obtain ⟨h1,-⟩:=Dr vx
   obtain ⟨ao,cap,e,-,hx⟩:=hrd
   obtain rfl:v= .slice ao xs.length cap:=by simpa using e
   rcases hx with rfl | ⟨b,off,ccs,t,fr,rfl,-⟩
   ·rw[h1];rfl
   ·cases hbn
 let θ:Th:=fun _=>v
 have key:Con P k #[v] J w0 [] (fun v=>resFa [.sl E .raw] v/\(Co 1000000 V.an=true->xw [.sl E .raw] (zs,()) v)) (fun v=>resGv [.sl E .raw] (zs,()) v++ []):=by
  refine Cw (n:=V.n) [(0,v)] hf hb hn hm (fun p hp=>by obtain rfl:=ay hp;rfl) (fun F w a hA hst=>?_) (fun u=>wG (D:=[]) trivial [.sl E .raw] (zs,()) rfl)
  have hfine:Fine P w0 J θ ⟨[(0,0,.one (.rdn ⟨0,[]⟩ bn (.sl E' .raw) xs))],[],1⟩:=⟨fun e he=>by obtain rfl:=ay he;exact ⟨Nat.one_pos,hrd,hbn⟩,fun e he=>by obtain rfl:=ay he;exact Nat.one_pos,List.pairwise_singleton _ _,fun e he=>(by cases he),hlay⟩
  have hS:Sim P J w0 F V.n J θ ⟨[(0,0,.one (.rdn ⟨0,[]⟩ bn (.sl E' .raw) xs))],[],1⟩ a w:=⟨Hp.le.rfl,hA,hst,hfine⟩
  have fin:=Td (V:=V) (θ:=θ) (J:=J) (w0:=w0) (rs:=[.sl E .raw]) (ps:=[]) (d:=()) (vs:=[]) (s0:=⟨[(0,0,.one (.rdn ⟨0,[]⟩ bn (.sl E' .raw) xs))],[],1⟩) (fn:=fn) (F:=F) hT rfl trivial (Nat.zero_le _)
  exact (Ab (I:=J) (w0:=w0) (F:=F) hT hF hmx c).1 ann hr hS (fun J' θ' s' a' w' hk S' hJ hFr=>fin _ J' θ' s' a' w' hk S' hJ hFr) (fun i J' θ' s' a' w' hk=>by cases hk) (fun r' J' θ' s' a' w' hrt hrr hS' hJ hFr=>by
   obtain rfl:=ae hrr
   exact fin _ J' θ' s' a' w' hrt hS' hJ hFr)
 exact fun w C hs=>(key w C hs).mono fun e w' ⟨v,h1,h2,h3⟩=>⟨v,h1,trivial,h3⟩
def mj:Nat->Ty
 | 0=>.raw
 | n+1=>.prod .raw (mj n)
def qw:(n:Nat)->(mj n).den->List Value
 | 0,p=>[p.1]
 | n+1,p=>p.1.1::qw n p.2
theorem ry: ∀n,(mj n).rep.size=n+1
 | 0=>rfl
 | n+1=>by
  show 1+(mj n).rep.size=_
  rw[ry n];omega
theorem JJ {I:Hp} {w:World} : ∀(n:Nat) {cs:List Value} {p:(mj n).den} {F:List Nat},(mj n).rep.own I w cs p F->F= [] /\cs=qw n p
 | 0,cs,p,F,h=>by
  obtain ⟨h1,h2⟩:=h
  exact ⟨h1,h2⟩
 | n+1,cs,p,F,⟨c,d,G,K,h1,h2,h3,h4⟩=>by
  obtain ⟨rfl,h5⟩:=h3
  obtain ⟨rfl,h6⟩:=JJ n h4
  have h5:c= [p.1.1]:=h5
  subst h1;subst h2;subst h5
  exact ⟨rfl,by rw[h6];rfl⟩
theorem N6: ∀(n:Nat) (cs:List Value),cs.length=n+1->(∀u∈cs,u.oneCell'=true)-> ∃p:(mj n).den,qw n p=cs
 | 0,cs,hl,h1=>by
  obtain ⟨u,rfl⟩:=List.length_eq_one_iff.1 hl
  exact ⟨⟨u,h1 u (by simp)⟩,rfl⟩
 | n+1,u::cs,hl,h1=>by
  obtain ⟨p,hp⟩:=N6 n cs (by simpa using hl) (fun v hv=>h1 v (by simp[hv]))
  exact ⟨(⟨u,h1 u (by simp)⟩,p),by show u::qw n p=_;rw[hp]⟩
theorem ka {P:Program} {k:FuncId} {f:FS} (h:Enters P k) (hc:f.cl=none) (hm: ∀d,appP f.ps f.m d=none):FOk P k f:=
 ⟨fun q hq=>by (rw[hc] at hq;cases hq),fun _=>h,fun _ _ _ d r _ _ hr=>by rw[hm d] at hr;cases hr⟩
theorem F5 {P:Program} {k:FuncId} {f:FS} {E b:Nat} (h:FOk P k ⟨f.ps,f.rs,f.m,none⟩) (hc:wD P k E b) (hb:Nat.beq b 0=false:=by rfl) (h7:Nat.beq b 7=false:=by rfl) (h8:Nat.ble 1000 b=false:=by rfl):FOk P k ⟨f.ps,f.rs,f.m,some (E,b)⟩:=
 ⟨fun q hq=>by obtain rfl:=ae hq;exact ⟨⟨fun e=>(by rw[hb] at e;cases e),fun _ _ _=>hc,fun e=>(by rw[h8] at e;cases e)⟩,fun e=>(by rw[h7] at e;cases e)⟩,fun _=>h.en rfl,h.con⟩
end R
namespace R
open Go.RowKit
open D
theorem JK {n:Nat} {α:Type} {R:Rep α} (hR:R.Sh) (h1:R.size=n+1) {I:Hp} {w:World} : ∀ {xs:List α} {cur:List Value} {K:List Nat},OwnEls R I w cur xs K-> ∃ps:List (mj n).den,K= [] /\OwnEls (mj n).rep I w cur ps [] /\All2 (fun p x=>R.rd I (qw n p) x) ps xs
 | [],cur,K,h=>⟨[],h,rfl,.nil⟩
 | x::xs,cur,K,⟨c,rest,G,K1,e1,e2,e3,e4,e5⟩=>by
  obtain ⟨rfl,hrd⟩:=hR e4
  obtain ⟨p,rfl⟩:=N6 n c (e2.trans h1) (R.rd_one hrd)
  obtain ⟨ps,rfl,k2,k3⟩:=JK hR h1 e5
  have hraw: ∀(m:Nat) (q:(mj m).den),(mj m).rep.own I w (qw m q) q []:=by
   intro m
   induction m with
   | zero=>intro q;exact ⟨rfl,rfl⟩
   | succ m ih=>intro q;exact ⟨[q.1.1],qw m q.2,[],[],rfl,rfl,⟨rfl,rfl⟩,ih q.2⟩
  exact ⟨p::ps,e3,⟨qw n p,rest,[],[],e1,by rw[e2,h1,ry],rfl,hraw n p,k2⟩,.cons hrd k3⟩
theorem JL {n:Nat} {α:Type} {E:TypeId} {R:Rep α} (hR:R.Sh) (h1:R.size=n+1) {I:Hp} {w0 w:World} {C:List Ch} {v:Value} {xs:List α} (h:St I w0 w (Ch.own (ah E R) [v] xs::C)): ∃ps:List (mj n).den,All2 (fun p x=>R.rd I (qw n p) x) ps xs/\St I w0 w (Ch.own (ah E (mj n).rep) [v] ps::C):=by
 obtain ⟨a1,a2,F,⟨G,K,rfl,⟨hl,k⟩,e⟩,a4,a5⟩:=h
 rcases k with ⟨hv',rfl,rfl⟩ | ⟨g,ofs,cap,cur,K1,hv',k1,k2,k3,k4,rfl,k5⟩
 ·exact ⟨[],.nil,a1,a2,[] ++K,⟨[],K,rfl,⟨Nat.zero_le _,.inl ⟨hv',rfl,rfl⟩⟩,e⟩,a4,a5⟩
 ·obtain ⟨ps,rfl,q1,q2⟩:=JK hR h1 k5
  have hlen:=q2.length_eq
  exact ⟨ps,q2,a1,a2,[g] ++K,⟨[g],K,rfl,⟨by rw[hlen];exact hl,.inr ⟨g,ofs,cap,cur,[],by rw[hlen];exact hv',k1,by rw[hlen];exact k2,k3,by rw[h1] at k4;rw[ry];exact k4,rfl,q1⟩⟩,e⟩,a4,a5⟩
theorem F6 {n:Nat} {α:Type} {R:Rep α} (hC:Cpy R R) (h1:R.size=n+1) {I:Hp} {w:World} : ∀ {ps:List (mj n).den} {xs:List α} {cur:List Value} {F:List Nat},OwnEls (mj n).rep I w cur ps F->All2 (fun p x=>R.rd I (qw n p) x) ps xs->OwnEls R I w cur xs F
 | [],[],_,_,h,_=>h
 | p::ps,x::xs,cur,F,⟨c,rest,G,K,e1,e2,e3,e4,e5⟩,hh=>by
  cases hh with
  | cons hp hps =>
   obtain ⟨rfl,rfl⟩:=JJ n e4
   exact ⟨qw n p,rest,[],K,e1,by rw[e2,ry];exact h1.symm,e3,hC hp,F6 hC h1 e5 hps⟩
 | [],_::_,_,_,_,hh=>by cases hh
 | _::_,[],_,_,_,hh=>by cases hh
theorem F7 {n:Nat} {α:Type} {E:TypeId} {R:Rep α} (hC:Cpy R R) (h1:R.size=n+1) {I:Hp} {w0 w:World} {C:List Ch} {v:Value} {xs:List α} {ps:List (mj n).den} (hp:All2 (fun p x=>R.rd I (qw n p) x) ps xs) (h:St I w0 w (Ch.own (ah E (mj n).rep) [v] ps::C)):St I w0 w (Ch.own (ah E R) [v] xs::C):=by
 obtain ⟨a1,a2,F,⟨G,K,rfl,⟨hl,k⟩,e⟩,a4,a5⟩:=h
 have hlen:=hp.length_eq
 rcases k with ⟨hv',rfl,rfl⟩ | ⟨g,ofs,cap,cur,K1,hv',k1,k2,k3,k4,rfl,k5⟩
 ·cases hp
  exact ⟨a1,a2,[] ++K,⟨[],K,rfl,⟨Nat.zero_le _,.inl ⟨hv',rfl,rfl⟩⟩,e⟩,a4,a5⟩
 ·exact ⟨a1,a2,(g::K1)++K,⟨g::K1,K,rfl,⟨by rw[<-hlen];exact hl,.inr ⟨g,ofs,cap,cur,K1,by rw[<-hlen];exact hv',k1,by rw[<-hlen];exact k2,k3,by rw[ry] at k4;rw[h1];exact k4,rfl,F6 hC h1 k5 hp⟩⟩,e⟩,a4,a5⟩
theorem F8 {α β:Type} {p:α->β->Prop} : ∀ {xs:List α} {ys:List β} (n:Nat),All2 p xs ys->All2 p (xs.take n) (ys.take n)
 | _,_,0,_=>.nil
 | _,_,n+1,.nil=>.nil
 | _,_,n+1,.cons h k=>.cons h (F8 n k)
theorem DJ {α β:Type} {p:α->β->Prop} : ∀ {xs:List α} {ys:List β} {xs':List α} {ys':List β},All2 p xs ys->All2 p xs' ys'->All2 p (xs++xs') (ys++ys')
 | _,_,_,_,.nil,h=>h
 | _,_,_,_,.cons h k,h'=>.cons h (DJ k h')
theorem chk_of {α:Type} {p:Prop} [Decidable p] {k:Unit->Option α} (h:p):(chk p).bind k=k ():=by
 unfold chk
 rw[if_pos h];rfl
def Zr {α:Type} (b:Nat) (z:α) (xs:List α) (i:Int) (v:List α) (c:Nat):Option (List α×List α):=
 (chk ((0:Int)<=0/\0<=i/\0+i<=(xs.length:Int))).bind fun _ =>
 (chk ((0+0:Int)=0/\0+i<=(xs.length:Int)/\0<IntKind.i64.wrap (IntKind.i64.wrap ((xs.length:Int)+(v.length:Int)) - i)/\(c:Int)<(0+i)+IntKind.i64.wrap (IntKind.i64.wrap ((xs.length:Int)+(v.length:Int)) - i)/\((0+i)+IntKind.i64.wrap (IntKind.i64.wrap ((xs.length:Int)+(v.length:Int)) - i))*(b:Int)<=140737488355328)).bind fun _ =>
 (fun s2:List α=>(chk (0<=i/\i<=(s2.length:Int) - 0/\0+((s2.length:Int) - 0)<=(s2.length:Int))).bind fun _ =>
  (chk ((0:Int)<=0/\0<=min ((v.length:Int) - 0) ((0+((s2.length:Int) - 0)) - (0+i))/\0+min ((v.length:Int) - 0) ((0+((s2.length:Int) - 0)) - (0+i))<=(v.length:Int)/\0<=0+i/\0+i<=(s2.length:Int)/\0+((s2.length:Int) - 0)<=(s2.length:Int))).bind fun _ =>
  (fun s3:List α=>(chk (0<=IntKind.i64.wrap (i+(v.length:Int))/\IntKind.i64.wrap (i+(v.length:Int))<=(s3.length:Int) - 0/\0+((s3.length:Int) - 0)<=(s3.length:Int))).bind fun _ =>
   (chk (0<=i/\i<=(xs.length:Int) - 0/\0+((xs.length:Int) - 0)<=(xs.length:Int))).bind fun _ =>
   (chk (0<=0+i/\0<=min ((0+((xs.length:Int) - 0)) - (0+i)) ((0+((s3.length:Int) - 0)) - (0+IntKind.i64.wrap (i+(v.length:Int))))/\(0+i)+min ((0+((xs.length:Int) - 0)) - (0+i)) ((0+((s3.length:Int) - 0)) - (0+IntKind.i64.wrap (i+(v.length:Int))))<=(xs.length:Int)/\0<=0+IntKind.i64.wrap (i+(v.length:Int))/\0+IntKind.i64.wrap (i+(v.length:Int))<=(s3.length:Int)/\0+((s3.length:Int) - 0)<=(s3.length:Int))).bind fun _ =>
   some (wu s3 (0+IntKind.i64.wrap (i+(v.length:Int))).toNat (yn xs (0+i) (min ((0+((xs.length:Int) - 0)) - (0+i)) ((0+((s3.length:Int) - 0)) - (0+IntKind.i64.wrap (i+(v.length:Int)))))),v))
  (wu s2 (0+i).toNat (yn v 0 (min ((v.length:Int) - 0) ((0+((s2.length:Int) - 0)) - (0+i))))))
 (xs.take (0+i).toNat++List.replicate (IntKind.i64.wrap (IntKind.i64.wrap ((xs.length:Int)+(v.length:Int)) - i)).toNat z)
def Zs {α:Type} (xs:List α) (i:Int) (v:List α) (c:Nat):Option (List α×List α):=
 (fun w0 w:Int=>(chk ((xs.length:Int)<=w0/\w0<=(c:Int))).bind fun _ =>
  (chk (0<=w/\w<=w0 - 0/\w0 - 0<=w0 - 0)).bind fun _ =>
  (chk (0<v.length/\0+w<0+(w0 - 0))).bind fun _ =>
  (chk (0<=w/\w<=w0 - 0/\w0 - 0<=w0 - 0)).bind fun _ =>
  (chk (0<=i/\i<=w0 - 0/\w0 - 0<=w0 - 0)).bind fun _ =>
  (chk (0<=0+i/\0<=min ((0+(w0 - 0)) - (0+i)) ((0+(w0 - 0)) - (0+w))/\(0+i)+min ((0+(w0 - 0)) - (0+i)) ((0+(w0 - 0)) - (0+w))<=(xs.length:Int)/\0<=0+w/\0+w<=(xs.length:Int))).bind fun _ =>
  (chk ((0+w)+min ((0+(w0 - 0)) - (0+i)) ((0+(w0 - 0)) - (0+w))=w0/\(xs.length:Int)<=w0)).bind fun _ =>
  (fun s2:List α=>(chk (0<=i/\i<=(s2.length:Int) - 0/\0+((s2.length:Int) - 0)<=(s2.length:Int))).bind fun _ =>
   (chk ((0:Int)<=0/\0<=min ((v.length:Int) - 0) ((0+((s2.length:Int) - 0)) - (0+i))/\0+min ((v.length:Int) - 0) ((0+((s2.length:Int) - 0)) - (0+i))<=(v.length:Int)/\0<=0+i/\0+i<=(s2.length:Int)/\0+((s2.length:Int) - 0)<=(s2.length:Int))).bind fun _ =>
   some (wu s2 (0+i).toNat (yn v 0 (min ((v.length:Int) - 0) ((0+((s2.length:Int) - 0)) - (0+i)))),v))
  (wu xs (0+w).toNat (yn xs (0+i) (min ((0+(w0 - 0)) - (0+i)) ((0+(w0 - 0)) - (0+w))))))
 (IntKind.i64.wrap ((xs.length:Int)+(v.length:Int))) (IntKind.i64.wrap (i+(v.length:Int)))
noncomputable def YJ {α:Type} (b:Nat) (z:α) (xs:List α) (i:Int) (v:List α):Option (List α×List α):=
 (chk (0<=i/\i<=(xs.length:Int) - 0/\0+((xs.length:Int) - 0)<=(xs.length:Int))).bind fun _ =>
 if (v.length:Int)==0 then some (xs,v) else if i==(xs.length:Int) then (cz b xs v).bind fun zs=>some (zs,v) else
 Jo xs.length fun c=>if XS .gtr (IntKind.i64.wrap ((xs.length:Int)+(v.length:Int))) (c:Int) then Zr b z xs i v c else Zs xs i v c
def Vt {α:Type} (b:Nat) (xs:List α) (i:Int) (v:List α):Option (List α×List α):=
 (chk (0<=i/\i<=(xs.length:Int)/\v.length=1/\1<=b/\(xs.length+1)*b<=140737488355328)).bind fun _=>some (xs.take i.toNat++(v++xs.drop i.toNat),v)
theorem N7 {α:Type} {xs v:List α} {i q:Nat} (hi:i<=xs.length) (hv:v.length=1):(xs.take i++(v++xs.drop i))[q]? =if q<i then xs[q]? else if q=i then v[0]? else xs[q - 1]? :=by
 have hl:(xs.take i).length=i:=by rw[aA];omega
 by_cases c1:q<i
 ·rw[if_pos c1,List.getElem?_append_left (by omega),List.getElem?_take,if_pos c1]
 ·rw[if_neg c1,List.getElem?_append_right (by omega),hl]
  by_cases c2:q=i
  ·rw[if_pos c2,List.getElem?_append_left (by omega),c2,Nat.sub_self]
  ·rw[if_neg c2,List.getElem?_append_right (by omega),hv,List.getElem?_drop];congr 1;omega
set_option maxHeartbeats 1000000 in
theorem Vu {α:Type} {b:Nat} {z:α} {xs v:List α} {i:Int} {r:List α×List α} (h:Vt b xs i v=some r):YJ b z xs i v=some r:=by
 obtain ⟨u,hc,h⟩:=Option.bind_eq_some_iff.1 h
 obtain ⟨h1,h2,hv,hb,hbig⟩:=bF hc
 obtain rfl:=ae h
 have hn:xs.length+1<=140737488355328:=by
  have:(xs.length+1)*1<=(xs.length+1)*b:=Nat.mul_le_mul_left _ hb
  omega
 obtain ⟨k,rfl⟩: ∃k:Nat,i=(k:Int):=⟨i.toNat,by omega⟩
 have hk:k<=xs.length:=by omega
 have w1:IntKind.i64.wrap ((xs.length:Int)+(v.length:Int))=((xs.length+1:Nat):Int):=by rw[hv,IntKind.wrap_i64];omega
 have w2:IntKind.i64.wrap ((k:Int)+(v.length:Int))=((k+1:Nat):Int):=by rw[hv,IntKind.wrap_i64];omega
 have w3:IntKind.i64.wrap (((xs.length+1:Nat):Int) - (k:Int))=((xs.length+1 - k:Nat):Int):=by rw[IntKind.wrap_i64];omega
 unfold YJ
 rw[chk_of (by omega)]
 rw[if_neg (by rw[hv];decide)]
 by_cases hkn:k=xs.length
 ·subst hkn
  rw[if_pos (by simp)]
  have:cz b xs v=some (xs++v):=by unfold cz;rw[if_pos (by rw[hv];exact hbig)]
  rw[this]
  simp
 ·rw[if_neg (by simp;omega)]
  have tk:((k:Int)).toNat=k:=rfl
  have t0:(0+(k:Int)).toNat=k:=by omega
  have t1:(0+((k+1:Nat):Int)).toNat=k+1:=by omega
  have sv:yn v 0 1=v:=by
   unfold yn
   rw[show ((0:Int)+1).toNat=1 from rfl,show ((0:Int)).toNat=0 from rfl,List.drop_zero,List.take_of_length_le (by omega)]
  have sx:yn xs (0+(k:Int)) ((xs.length:Int) - (k:Int))=xs.drop k:=by
   unfold yn
   rw[t0,show (0+(k:Int)+((xs.length:Int) - (k:Int))).toNat=xs.length from by omega,List.take_length]
  have hdl:(xs.drop k).length=xs.length - k:=aT
  refine Nw (by unfold maxLen;omega) fun c c1 c2=>?_
  have hcmp:XS .gtr (IntKind.i64.wrap ((xs.length:Int)+(v.length:Int))) (c:Int)=decide (((xs.length+1:Nat):Int)>(c:Int)):=by rw[w1];rfl
  rw[hcmp]
  by_cases hg:xs.length+1>c
  ·rw[if_pos (by simp;omega)]
   unfold Zr
   rw[w1,w2,w3]
   generalize hs2:xs.take (0+(k:Int)).toNat++List.replicate (((xs.length+1 - k:Nat):Int)).toNat z=s2
   have l2:s2.length=xs.length+1:=by rw[<-hs2,t0,al,aA,List.length_replicate];omega
   have m1:min ((v.length:Int) - 0) ((0+((s2.length:Int) - 0)) - (0+(k:Int)))=1:=by rw[hv,l2];omega
   simp only[m1,sv,t0]
   have lc:(wu s2 k v).length=xs.length+1:=by rw[nf (by omega),l2,hv];omega
   have m2:min ((0+((xs.length:Int) - 0)) - (0+(k:Int))) ((0+(((wu s2 k v).length:Int) - 0)) - (0+((k+1:Nat):Int)))=(xs.length:Int) - (k:Int):=by rw[lc];omega
   simp only[m2,sx,t1]
   have hbi:((xs.length+1:Nat):Int)*(b:Int)<=140737488355328:=by rw[<-Int.natCast_mul];omega
   rw[chk_of (by omega),chk_of (by
    refine ⟨by omega,by omega,by omega,by omega,?_⟩
    rw[show (0+(k:Int))+((xs.length+1 - k:Nat):Int)=((xs.length+1:Nat):Int) from by omega]
    exact hbi),chk_of (by rw[l2];omega),chk_of (by rw[l2,hv];omega),chk_of (by rw[lc];omega),chk_of (by omega),chk_of (by rw[lc];omega)]
   congr 2
   apply List.ext_getElem?
   intro q
   rw[vq (by rw[lc];omega),hdl,tk,N7 hk hv]
   by_cases q1:k+1<=q/\q<k+1+(xs.length - k)
   ·rw[if_pos q1,if_neg (by omega),if_neg (by omega),List.getElem?_drop];congr 1;omega
   ·rw[if_neg q1,vq (by omega),hv]
    by_cases q2:q<k
    ·rw[if_neg (by omega),if_pos q2,<-hs2,t0,List.getElem?_append_left (by rw[aA];omega),List.getElem?_take,if_pos q2]
    ·by_cases q3:q=k
     ·rw[if_pos (by omega),if_neg q2,if_pos q3,q3,Nat.sub_self]
     ·rw[if_neg (by omega),if_neg q2,if_neg q3,List.getElem?_eq_none (by omega),List.getElem?_eq_none (by omega)]
  ·rw[if_neg (by simp;omega)]
   unfold Zs
   simp only
   rw[w1,w2]
   have m3:min ((0+((((xs.length+1:Nat):Int)) - 0)) - (0+(k:Int))) ((0+((((xs.length+1:Nat):Int)) - 0)) - (0+((k+1:Nat):Int)))=(xs.length:Int) - (k:Int):=by omega
   simp only[m3,sx,t0,t1]
   have lc:(wu xs (k+1) (xs.drop k)).length=xs.length+1:=by rw[nf (by omega),hdl];omega
   have m4:min ((v.length:Int) - 0) ((0+(((wu xs (k+1) (xs.drop k)).length:Int) - 0)) - (0+(k:Int)))=1:=by rw[lc,hv];omega
   simp only[m4,sv]
   rw[chk_of (by omega),chk_of (by omega),chk_of (by rw[hv];omega),chk_of (by omega),chk_of (by omega),chk_of (by omega),chk_of (by omega),chk_of (by rw[lc];omega),chk_of (by rw[lc,hv];omega)]
   congr 2
   apply List.ext_getElem?
   intro q
   rw[vq (by rw[lc];omega),hv,tk,N7 hk hv]
   by_cases q3:q=k
   ·rw[if_pos (by omega),if_neg (by omega),if_pos q3,q3,Nat.sub_self]
   ·rw[if_neg (by omega),vq (by omega),hdl]
    by_cases q2:q<k
    ·rw[if_neg (by omega),if_pos q2]
    ·rw[if_neg q2,if_neg q3]
     by_cases q4:q<k+1+(xs.length - k)
     ·rw[if_pos (by omega),List.getElem?_drop];congr 1;omega
     ·rw[if_neg (by omega),List.getElem?_eq_none (by omega),List.getElem?_eq_none (by omega)]
theorem Xg {P:Program} {k:FuncId} {E:TypeId} (h:XW P k):FOk P k ⟨[],[],none,some (E,0)⟩:=
 ⟨fun q hq=>(by obtain rfl:=ae hq;exact ⟨⟨fun _=>h,fun e=>(by cases e),fun e=>(by cases e)⟩,fun e=>(by cases e)⟩),fun e=>(by cases e),fun _ _ _ d r _ _ hr=>(by cases hr)⟩
theorem Vv {P:Program} {k:FuncId} {E n b:Nat} {u:Ty} {z:(mj n).den} (hu:u.sh=true) (hs:u.size=n+1) (h:FOk P k ⟨[.eat (.sl E (mj n)),.rd (.int .i64),.ow (.sl E (mj n))],[.sl E (mj n)],YJ b z,none⟩):FOk P k ⟨[.eat (.sl E u),.rd (.int .i64),.ow (.sl E u)],[.sl E u],Vt b,none⟩:=by
 refine ⟨fun q hq=>(by cases hq),fun _=>h.en rfl,fun w0 J vs d r hlay ha vx=>?_⟩
 obtain ⟨v,vs1,rfl,hd,v2,vs2,rfl,hd2,v3,vs3,rfl,hd3,hnil⟩:=ha
 obtain rfl:vs3= []:=hnil
 obtain ⟨xs0,i0,y0,un⟩:=d
 let xs:List u.den:=xs0
 let i:Int:=i0
 let ys:List u.den:=y0
 let zs:List u.den×List u.den:=r
 have vx:Vt b xs i ys=some zs:=vx
 obtain ⟨u1,hc,hz⟩:=Option.bind_eq_some_iff.1 vx
 have hc:=bF hc
 have hz:=ae hz
 have hsz:u.rep.size=n+1:=(Ty.rep_size u).trans hs
 intro w C hst
 have hst:St J w0 w (Ch.own (ah E u.rep) [v] xs::Ch.own (ah E u.rep) [v3] ys::C):=hst
 obtain ⟨ps,hp,hst2⟩:=JL (Ty.sh_ok hu) hsz hst
 obtain ⟨qs,hq,hst3⟩:=JL (Ty.sh_ok hu) hsz (hst2.perm (List.Perm.swap _ _ _))
 have hst4:=hst3.perm (List.Perm.swap _ _ _)
 have hlen:=hp.length_eq
 have hlen2:=hq.length_eq
 have hi:Vt b ps i qs=some (ps.take i.toNat++(qs++ps.drop i.toNat),qs):=by
  unfold Vt
  rw[chk_of (by rw[hlen,hlen2];exact hc)]
 have hm:=Vu (z:=z) hi
 have key:=h.con w0 J [v,v2,v3] (ps,i,qs,()) (show dens ([Ty.sl E (mj n)] ++ [Ty.sl E (mj n)]) from (ps.take i.toNat++(qs++ps.drop i.toNat),qs)) hlay ⟨v,_,rfl,hd,v2,_,rfl,hd2,v3,_,rfl,hd3,rfl⟩ hm
 refine (key w C hst4).mono fun e w' ⟨r,a1,a2,a3⟩=>⟨r,a1,a2,?_⟩
 have a3:St J w0 w' (Ch.own (ah E (mj n).rep) [r] (ps.take i.toNat++(qs++ps.drop i.toNat))::Ch.own (ah E (mj n).rep) [v3] qs::C):=a3
 have b1:=F7 (Ty.cpy hu) hsz (DJ (F8 _ hp) (DJ hq (rl _ hp))) a3
 have b2:=F7 (Ty.cpy hu) hsz hq (b1.perm (List.Perm.swap _ _ _))
 show St J w0 w' (Ch.own (ah E u.rep) [r] zs.1::Ch.own (ah E u.rep) [v3] zs.2::C)
 rw[<-hz]
 exact b2.perm (List.Perm.swap _ _ _)
end R
namespace R
open Go.RowKit Go.Shelf Go.Sort
open D
def Rq (xs:List ByteArray) (sep:ByteArray):Option ByteArray:=(chk (xs.length<=140737488355328/\(Lib.join (xs.map (·.data.toList)) sep.data.toList).length<=140737488355328)).bind fun _=>some ⟨(Lib.join (xs.map (·.data.toList)) sep.data.toList).toArray⟩
def Rr (n:Int):Option ByteArray:=(chk (-9223372036854775808<=n/\n<=9223372036854775807)).bind fun _=>some ⟨(Lib.itoa n).toArray⟩
section
variable {P:Program} {ρ:Ren}
theorem St.grownS {I:Hp} {w0 w:World} {cs:List Ch} (h:St I w0 w cs) (os:Array Obj):St I w0 (grow w os) cs:=by
 refine St.step (w:=w) (c:=[]) (c':=[]) h rfl rfl rfl (by simp[grow]) ?_
 rintro F rfl - -
 exact ⟨fun b hb _=>heap_grow_old w os hb,[],rfl,List.nodup_nil,by simp⟩
theorem St.belowS {I:Hp} {w0 w w':World} {cs:List Ch} (h:St I w0 w cs) (hb:Below w.heap.size w w'):St I w0 w' cs:=by
 refine St.step (w:=w) (c:=[]) (c':=[]) h hb.os hb.tape hb.output hb.size ?_
 rintro F rfl - -
 exact ⟨fun b hb' _=>hb.block b hb',[],rfl,List.nodup_nil,by simp⟩
theorem Rs (L:LaysM.n171 P ρ) (en:Enters P (ρ.f 171)):FOk P (ρ.f 171) ⟨[.rd (.int .i64)],[.str],fun n=>Rr n,none⟩:=by
 refine ⟨fun q hq=>(by cases hq),fun _=>en,fun w0 J vs d r hlay ha vx=>?_⟩
 obtain ⟨v,vs1,rfl,⟨c1,l1,r1⟩,hnil⟩:=ha
 obtain rfl:vs1= []:=hnil
 obtain ⟨n0,un⟩:=d
 let n:Int:=n0
 obtain rfl:c1= [v]:=l1
 obtain rfl:v= .int .i64 n:=(List.cons.inj r1).1
 obtain ⟨u1,hc,hz⟩:=Option.bind_eq_some_iff.1 (show Rr n=some r from vx)
 have hc:=bF hc
 obtain rfl:=ae hz
 intro w C hst
 have hst:St J w0 w C:=hst
 refine (Any.strconv_Itoa L n hc.1 hc.2 w (hlay w hst.2.1).tab).mono ?_
 rintro e w' ⟨rfl,k,os,rfl⟩
 have hw:St J w0 (w.drewN k) C:=hst.drawn rfl rfl rfl rfl
 exact ⟨_,rfl,rfl,D.St.free (R:=CY) (c:=[.string _]) (St.grownS hw os) ⟨rfl,rfl⟩⟩
theorem Rt (L:Lays.n156 P ρ) (X:Builder.Extra P ρ) (E:TypeId) (en:Enters P (ρ.f 156)):FOk P (ρ.f 156) ⟨[.rd (.sl E .str),.rd .str],[.str],fun xs s=>Rq xs s,none⟩:=by
 refine ⟨fun q hq=>(by cases hq),fun _=>en,fun w0 J vs d r hlay ha vx=>?_⟩
 obtain ⟨v,vs1,rfl,⟨c1,l1,r1⟩,v2,vs2,rfl,⟨c2,l2,r2⟩,hnil⟩:=ha
 obtain rfl:vs2= []:=hnil
 obtain ⟨xs0,sep,un⟩:=d
 let xs:List ByteArray:=xs0
 obtain rfl:c1= [v]:=l1
 obtain rfl:c2= [v2]:=l2
 obtain rfl:v2= .string sep:=(List.cons.inj r2).1
 obtain ⟨u1,hc,hz⟩:=Option.bind_eq_some_iff.1 (show Rq xs sep=some r from vx)
 have hc:=bF hc
 obtain rfl:=ae hz
 obtain ⟨ao,cap,hv,⟨hl,hcap⟩,hx⟩:((ah E CY).rd J [v] xs):=r1
 obtain rfl:=(List.cons.inj hv).1
 intro w C hst
 have hst:St J w0 w C:=hst
 rcases hx with hx | ⟨b,off,ccs,t,fr,rfl,h2,h4⟩
 ·have hx:xs= []:=hx
  rw[hx] at hc⊢
  refine (Any.strings_Join_none L X ao cap sep w).mono ?_
  rintro e w' ⟨rfl,rfl⟩
  refine ⟨_,rfl,rfl,?_⟩
  exact D.St.free (R:=CY) (c:=[.string _]) hst ⟨rfl,rfl⟩
 ·have hg:=hst.2.1 _ _ h2
  have hblk:b<w.heap.size:=(Array.getElem?_eq_some_iff.1 hg).1
  refine (Any.strings_Join L X b off cap xs sep w (fun j x hj=>?_) hblk hc.1 hcap hc.2).mono ?_
  ·obtain ⟨c,e1,e2,e3⟩:=h4 j x hj
   obtain rfl:c= [.string x]:=e3
   have:=e2 0 Nat.one_pos
   have e:off+j*CY.size+0=off+j:=by show off+j*1+0=_;omega
   rw[e] at this
   unfold World.cell?
   have hg:w.heap[b]? =some (.cells ccs t fr):=hg
   simp only[hg]
   rw[<-Array.getElem?_toList,this]
   rfl
  ·rintro e w' ⟨rfl,hb⟩
   exact ⟨_,rfl,rfl,D.St.free (R:=CY) (c:=[.string _]) (St.belowS hst hb) ⟨rfl,rfl⟩⟩
end
end R
namespace D
open Go.RowKit Go.Shelf
theorem Vx {I:Hp} {w0 w:World} {cs:List Ch} {α:Type} {E:TypeId} {enc:α->Value} {h1: ∀a,(enc a).oneCell'=true} {b:Nat} {xs:List α} (hl:xs.length<=lim) (h:St I w0 w (Ch.blk b (xs.map enc) E::cs)):St I w0 w (Ch.own (ah E (kN α enc h1)) [.slice (some ⟨b,0,none⟩) xs.length xs.length] xs::cs):=by
 obtain ⟨hb,hi,F,⟨G,K,rfl,⟨rfl,hg⟩,e⟩,h4,h5⟩:=h
 refine ⟨hb,hi,[b] ++K,⟨[b],K,rfl,⟨hl,.inr ⟨b,0,xs.length,_,[],rfl,hg,aC _,hl,?_,rfl,?_⟩⟩,e⟩,h4,h5⟩
 ·show 0+xs.length*1<=_
  simp
 ·refine jC.2 ⟨rfl,[],?_⟩
  simp
end D
namespace R
open Go.RowKit Go.Shelf Go.Sort
open D
def JM (s sep:ByteArray):Option (List ByteArray):=(chk (s.size<4294967281/\1<=sep.size)).bind fun _=>some (Lib.splitB sep 0 (Lib.countB s sep) s)
def Xh (s sep:ByteArray):Option (ByteArray×ByteArray×Bool):=(chk (s.size<4294967281)).bind fun _=>some (⟨(Lib.cut s.data.toList sep.data.toList).1.toArray⟩,⟨(Lib.cut s.data.toList sep.data.toList).2.1.toArray⟩,(Lib.cut s.data.toList sep.data.toList).2.2)
def wP (s:ByteArray) (c:Int):Option Int:=some (Lib.indexByte s.data.toList c.toNat.toUInt8)
def rz (s:ByteArray):Option (Int×Bool):=
 if 10<s.size then some (0,false) else
 match Lib.atoi s.data.toList with
 | none=>some (0,false)
 | some n=>if (⟨(Lib.itoa n).toArray⟩:ByteArray)=s/\ -999999999<=n/\n<=999999999 then some (n,true) else some (0,false)
section
variable {P:Program} {ρ:Ren}
theorem N8 (L:Lays.n146 P ρ) (hi9:(P.info? (ρ.t 9)).map (fun i=>(i.zero,i.size,i.bytes))=some (some (.string ByteArray.empty),1,16)) (m1:P.globalNamed "internal/bytealg.MaxLen" =some (ρ.g 1)) (en:Enters P (ρ.f 146)):FOk P (ρ.f 146) ⟨[.rd .str,.rd .str],[.sl (ρ.t 9) .str],fun s sep=>JM s sep,none⟩:=by
 refine ⟨fun q hq=>(by cases hq),fun _=>en,fun w0 J vs d r hlay ha vx=>?_⟩
 obtain ⟨v,vs1,rfl,⟨c1,l1,r1⟩,v2,vs2,rfl,⟨c2,l2,r2⟩,hnil⟩:=ha
 obtain rfl:vs2= []:=hnil
 obtain ⟨s0,sep0,un⟩:=d
 let s:ByteArray:=s0
 let sep:ByteArray:=sep0
 obtain rfl:c1= [v]:=l1
 obtain rfl:c2= [v2]:=l2
 obtain rfl:v= .string s:=(List.cons.inj r1).1
 obtain rfl:v2= .string sep:=(List.cons.inj r2).1
 obtain ⟨u1,hc,hz⟩:=Option.bind_eq_some_iff.1 (show JM s sep=some r from vx)
 have hc:=bF hc
 obtain rfl:=ae hz
 intro w C hst
 have hst:St J w0 w C:=hst
 obtain ⟨g,m,hg,hm⟩:=(hlay w hst.2.1).len
 obtain rfl:=ae (m1.symm.trans hg)
 refine (Any.strings_Split L hi9 s sep m w hc.1 hm hc.2).mono ?_
 rintro e w' ⟨rfl,rfl⟩
 refine ⟨_,rfl,rfl,?_⟩
 have hlen:(Lib.splitB sep 0 (Lib.countB s sep) s).length=Lib.countB s sep+1:=Lib.splitB_all sep hc.2 0 _ s rfl
 have hle:=Lib.countB_le sep hc.2 s.size s (aC _)
 have h3:=D.Vx (E:=ρ.t 9) (enc:=Value.string) (h1:=fun _=>rfl) (b:=w.heap.size) (xs:=Lib.splitB sep 0 (Lib.countB s sep) s) (by rw[hlen];have:lim=9223372036854775807:=rfl;omega) (hst.alloc _ _)
 rw[hlen] at h3
 exact h3
theorem Vy (L:Lays.n145 P ρ) (m1:P.globalNamed "internal/bytealg.MaxLen" =some (ρ.g 1)) (en:Enters P (ρ.f 145)):FOk P (ρ.f 145) ⟨[.rd .str,.rd .str],[.str,.str,.bool],fun s sep=>Xh s sep,none⟩:=by
 refine ⟨fun q hq=>(by cases hq),fun _=>en,fun w0 J vs d r hlay ha vx=>?_⟩
 obtain ⟨v,vs1,rfl,⟨c1,l1,r1⟩,v2,vs2,rfl,⟨c2,l2,r2⟩,hnil⟩:=ha
 obtain rfl:vs2= []:=hnil
 obtain ⟨s0,sep0,un⟩:=d
 let s:ByteArray:=s0
 let sep:ByteArray:=sep0
 obtain rfl:c1= [v]:=l1
 obtain rfl:c2= [v2]:=l2
 obtain rfl:v= .string s:=(List.cons.inj r1).1
 obtain rfl:v2= .string sep:=(List.cons.inj r2).1
 obtain ⟨u1,hc,hz⟩:=Option.bind_eq_some_iff.1 (show Xh s sep=some r from vx)
 have hc:=bF hc
 obtain rfl:=ae hz
 intro w C hst
 have hst:St J w0 w C:=hst
 obtain ⟨g,m,hg,hm⟩:=(hlay w hst.2.1).len
 obtain rfl:=ae (m1.symm.trans hg)
 refine (Any.strings_Cut L s sep m w hc hm).mono ?_
 rintro e w' ⟨rfl,n,rfl⟩
 refine ⟨_,rfl,⟨_,rfl,rfl,fun i t ht=>?_⟩,?_⟩
 ·rcases i with _ | _ | _ | i
  all_goals first | (obtain rfl:=ae ht;rfl) | cases ht
 ·have hw:St J w0 (w.drewN n) C:=hst.drawn rfl rfl rfl rfl
  exact D.St.free (R:=CY) (c:=[.string _]) (D.St.free (R:=CY) (c:=[.string _]) (D.St.free (R:=nV) (c:=[.bool _]) hw ⟨rfl,rfl⟩) ⟨rfl,rfl⟩) ⟨rfl,rfl⟩
theorem DK (L:Lays.n137 P ρ) (en:Enters P (ρ.f 137)):FOk P (ρ.f 137) ⟨[.rd .str,.rd (.int .u8)],[.int .i64],fun s c=>wP s c,none⟩:=by
 refine ⟨fun q hq=>(by cases hq),fun _=>en,fun w0 J vs d r hlay ha vx=>?_⟩
 obtain ⟨v,vs1,rfl,⟨c1,l1,r1⟩,v2,vs2,rfl,⟨c2,l2,r2⟩,hnil⟩:=ha
 obtain rfl:vs2= []:=hnil
 obtain ⟨s0,c0,un⟩:=d
 let s:ByteArray:=s0
 let c:Int:=c0
 obtain rfl:c1= [v]:=l1
 obtain rfl:c2= [v2]:=l2
 obtain rfl:v= .string s:=(List.cons.inj r1).1
 obtain rfl:v2= .int .u8 c:=(List.cons.inj r2).1
 obtain rfl:=ae (show wP s c=some r from vx)
 intro w C hst
 have hst:St J w0 w C:=hst
 refine (Any.strings_IndexByte L s c w).mono ?_
 rintro e w' ⟨rfl,rfl⟩
 exact ⟨_,rfl,rfl,D.St.free (R:=bc) (c:=[.int .i64 _]) hst ⟨rfl,rfl⟩⟩
theorem Vz {α:Type} {E:TypeId} {R:Rep α} {I:Hp} {w0 w:World} {v:List Value} {xs:List α} {C:List Ch} (h:St I w0 w (Ch.own (ah E R) v xs::C)):St I w0 w (Ch.own (ah E (LM R)) v xs::C):=by
 obtain ⟨hb,hi,F,⟨G,K,rfl,⟨hl,e2⟩,e3⟩,h4,h5⟩:=h
 rcases e2 with ⟨rfl,rfl,rfl⟩ | ⟨g,ofs,cap,cur,K1,hv,k1,k2,k3,k4,k6,k5⟩
 ·exact ⟨hb,hi,_,⟨_,K,rfl,⟨hl,.inl ⟨rfl,rfl,rfl⟩⟩,e3⟩,h4,h5⟩
 ·exact ⟨hb,hi,_,⟨_,K,rfl,⟨hl,.inr ⟨g,ofs,cap,cur,K1,hv,k1,k2,k3,k4,k6,OwnEls.turn (R:=R) (S:=LM R) rfl (fun c x G hx=>Md hx) k5⟩⟩,e3⟩,h4,h5⟩
theorem JN {P:Program} {k:FuncId} {ps:List PM} {A B t:Ty} {E:TypeId} {m:curP ps (Option (dens ([A,.sl E t,B] ++outs ps)))} (h:FOk P k ⟨ps,[A,.sl E t,B],m,none⟩):FOk P k ⟨ps,[A,.sl E (.bag t),B],m,none⟩:=by
 refine ⟨fun q hq=>(by cases hq),fun hq=>h.en hq,fun w0 J vs d r hlay ha vx=>?_⟩
 refine (h.con w0 J vs d r hlay ha vx).imp (fun v hv=>?_) (fun v _ w C hs=>?_)
 ·obtain ⟨us,rfl,h1,h2⟩:=hv
  refine ⟨us,rfl,h1,fun i u hu=>?_⟩
  rcases i with _ | _ | _ | i
  ·obtain rfl:=ae hu;exact h2 0 _ rfl
  ·obtain rfl:=ae hu;exact h2 1 (.sl E t) rfl
  ·obtain rfl:=ae hu;exact h2 2 _ rfl
  ·cases hu
 ·exact ((Vz (hs.perm (List.Perm.swap ..))).perm (List.Perm.swap ..))
theorem N9 {k:FuncId} {m:ByteArray->Option (Int×Bool)} (en:Enters P k) (h: ∀s r w,m s=some r->LayW P w->Calls P k #[.string s] w fun e w'=>e= .returned (.tuple #[.int .i64 r.1,.bool r.2])/\Below w.heap.size w w'):FOk P k ⟨[.rd .str],[.int .i64,.bool],fun s=>m s,none⟩:=by
 refine ⟨fun q hq=>(by cases hq),fun _=>en,fun w0 J vs d r hlay ha vx=>?_⟩
 obtain ⟨v,vs1,rfl,⟨c1,l1,r1⟩,hnil⟩:=ha
 obtain rfl:vs1= []:=hnil
 obtain ⟨s0,un⟩:=d
 let s:ByteArray:=s0
 obtain rfl:c1= [v]:=l1
 obtain rfl:v= .string s:=(List.cons.inj r1).1
 intro w C hst
 have hst:St J w0 w C:=hst
 refine (h s r w vx (hlay w hst.2.1)).mono ?_
 rintro e w' ⟨rfl,hb⟩
 refine ⟨_,rfl,⟨_,rfl,rfl,fun i t ht=>?_⟩,?_⟩
 ·rcases i with _ | _ | i
  all_goals first | (obtain rfl:=ae ht;rfl) | cases ht
 ·exact D.St.free (R:=bc) (c:=[.int .i64 _]) (D.St.free (R:=nV) (c:=[.bool _]) (St.belowS hst hb) ⟨rfl,rfl⟩) ⟨rfl,rfl⟩
end
end R
namespace R
open Go.Shelf
def xE:Go.Shelf.Ren:=⟨fun | 156=>194 | 165=>234 | 166=>235 | 169=>236 | 240=>272 | 241=>273 | 276=>312 | 277=>313 | n=>n,fun | 31=>205 | 9=>9 | 3=>3 | 4=>4 | 0=>0 | 20=>20 | 72=>252 | 76=>244 | 70=>250 | 37=>222 | 75=>243 | 127=>286 | 164=>317 | 5=>5 | 80=>254 | n=>n,fun | n=>n⟩
theorem Ru:Go.Proofs.Lays.n156 Tryz.prog xE:= {
 mixed:=by kernel_rfl
 f156:=Tryz.func194.trans (congrArg some (by kernel_rfl))
 f165:=Tryz.func234.trans (congrArg some (by kernel_rfl))
 f166:=Tryz.func235.trans (congrArg some (by kernel_rfl))
 f169:=Tryz.func236.trans (congrArg some (by kernel_rfl))
 f240:=Tryz.func272.trans (congrArg some (by kernel_rfl))
 f241:=Tryz.func273.trans (congrArg some (by kernel_rfl))
 f276:=Tryz.func312.trans (congrArg some (by kernel_rfl))
 f277:=Tryz.func313.trans (congrArg some (by kernel_rfl))
 t0:=Tryz.underlying0
 a0:=Tryz.isAgg0
 z0:=Tryz.sizeOf0
 v0:=Tryz.zeroValue0
 t3:=Tryz.underlying3
 a3:=Tryz.isAgg3
 z3:=Tryz.sizeOf3
 v3:=Tryz.zeroValue3
 t4:=Tryz.underlying4
 a4:=Tryz.isAgg4
 z4:=Tryz.sizeOf4
 v4:=Tryz.zeroValue4
 t9:=Tryz.underlying9
 a9:=Tryz.isAgg9
 z9:=Tryz.sizeOf9
 v9:=Tryz.zeroValue9
 t20:=Tryz.underlying20
 a20:=Tryz.isAgg20
 z20:=Tryz.sizeOf20
 v20:=Tryz.zeroValue20
 t31:=Tryz.underlying205
 a31:=Tryz.isAgg205
 z31:=Tryz.sizeOf205
 v31:=Tryz.zeroValue205
 t37:=Tryz.underlying222
 a37:=Tryz.isAgg222
 z37:=Tryz.sizeOf222
 v37:=Tryz.zeroValue222
 t70:=Tryz.underlying250
 a70:=Tryz.isAgg250
 z70:=Tryz.sizeOf250
 v70:=Tryz.zeroValue250
 t72:=Tryz.underlying252
 a72:=Tryz.isAgg252
 z72:=Tryz.sizeOf252
 v72:=Tryz.zeroValue252
 t75:=Tryz.underlying243
 a75:=Tryz.isAgg243
 z75:=Tryz.sizeOf243
 v75:=Tryz.zeroValue243
 t76:=Tryz.underlying244
 a76:=Tryz.isAgg244
 z76:=Tryz.sizeOf244
 v76:=Tryz.zeroValue244
 t127:=Tryz.underlying286
 a127:=Tryz.isAgg286
 z127:=Tryz.sizeOf286
 v127:=Tryz.zeroValue286
 t164:=Tryz.underlying317
 a164:=Tryz.isAgg317
 z164:=Tryz.sizeOf317
 v164:=Tryz.zeroValue317 }
def F9:Go.Shelf.Ren:=⟨fun | 171=>195 | 243=>237 | 246=>274 | 283=>314 | 284=>315 | 285=>316 | 286=>317 | 129=>338 | 317=>337 | 318=>339 | 319=>340 | 320=>341 | 337=>352 | 338=>353 | n=>n,fun | 3=>3 | 9=>9 | 2=>2 | 4=>4 | 171=>320 | 0=>0 | 53=>321 | 37=>222 | 5=>5 | 173=>324 | 212=>343 | 51=>344 | 20=>20 | 213=>345 | 46=>295 | 232=>369 | 233=>370 | n=>n,fun | 17=>3 | 18=>6 | 19=>7 | n=>n⟩
theorem JO:Go.Proofs.LaysM.n171 Tryz.prog F9:= {
 mixed:=by kernel_rfl
 f129:=Tryz.func338.trans (congrArg some (by kernel_rfl))
 f171:=Tryz.func195.trans (congrArg some (by kernel_rfl))
 f243:=Tryz.func237.trans (congrArg some (by kernel_rfl))
 f246:=Tryz.func274.trans (congrArg some (by kernel_rfl))
 f283:=Tryz.func314.trans (congrArg some (by kernel_rfl))
 f284:=Tryz.func315.trans (congrArg some (by kernel_rfl))
 f285:=Tryz.func316.trans (congrArg some (by kernel_rfl))
 f286:=Tryz.func317.trans (congrArg some (by kernel_rfl))
 f317:=Tryz.func337.trans (congrArg some (by kernel_rfl))
 f318:=Tryz.func339.trans (congrArg some (by kernel_rfl))
 f319:=Tryz.func340.trans (congrArg some (by kernel_rfl))
 f320:=Tryz.func341.trans (congrArg some (by kernel_rfl))
 f337:=Tryz.func352.trans (congrArg some (by kernel_rfl))
 f338:=Tryz.func353.trans (congrArg some (by kernel_rfl))
 t0:=Tryz.underlying0
 a0:=Tryz.isAgg0
 z0:=Tryz.sizeOf0
 v0:=Tryz.zeroValue0
 t2:=Tryz.underlying2
 a2:=Tryz.isAgg2
 z2:=Tryz.sizeOf2
 v2:=Tryz.zeroValue2
 t3:=Tryz.underlying3
 a3:=Tryz.isAgg3
 z3:=Tryz.sizeOf3
 v3:=Tryz.zeroValue3
 t4:=Tryz.underlying4
 a4:=Tryz.isAgg4
 z4:=Tryz.sizeOf4
 v4:=Tryz.zeroValue4
 t5:=Tryz.underlying5
 a5:=Tryz.isAgg5
 z5:=Tryz.sizeOf5
 v5:=Tryz.zeroValue5
 t9:=Tryz.underlying9
 a9:=Tryz.isAgg9
 z9:=Tryz.sizeOf9
 v9:=Tryz.zeroValue9
 t20:=Tryz.underlying20
 a20:=Tryz.isAgg20
 z20:=Tryz.sizeOf20
 v20:=Tryz.zeroValue20
 t37:=Tryz.underlying222
 a37:=Tryz.isAgg222
 z37:=Tryz.sizeOf222
 v37:=Tryz.zeroValue222
 t46:=Tryz.underlying295
 a46:=Tryz.isAgg295
 z46:=Tryz.sizeOf295
 v46:=Tryz.zeroValue295
 t51:=Tryz.underlying344
 a51:=Tryz.isAgg344
 z51:=Tryz.sizeOf344
 v51:=Tryz.zeroValue344
 t53:=Tryz.underlying321
 a53:=Tryz.isAgg321
 z53:=Tryz.sizeOf321
 v53:=Tryz.zeroValue321
 t171:=Tryz.underlying320
 a171:=Tryz.isAgg320
 z171:=Tryz.sizeOf320
 v171:=Tryz.zeroValue320
 t173:=Tryz.underlying324
 a173:=Tryz.isAgg324
 z173:=Tryz.sizeOf324
 v173:=Tryz.zeroValue324
 t212:=Tryz.underlying343
 a212:=Tryz.isAgg343
 z212:=Tryz.sizeOf343
 v212:=Tryz.zeroValue343
 t213:=Tryz.underlying345
 a213:=Tryz.isAgg345
 z213:=Tryz.sizeOf345
 t232:=Tryz.underlying369
 a232:=Tryz.isAgg369
 z232:=Tryz.sizeOf369
 v232:=Tryz.zeroValue369
 t233:=Tryz.underlying370
 a233:=Tryz.isAgg370
 z233:=Tryz.sizeOf370
 v233:=Tryz.zeroValue370
 g17:=by kernel_rfl
 g18:=by kernel_rfl
 g19:=by kernel_rfl
 i0:=by kernel_rfl
 i2:=by kernel_rfl
 i3:=by kernel_rfl
 i4:=by kernel_rfl
 i5:=by kernel_rfl
 i9:=by kernel_rfl
 i20:=by kernel_rfl
 i37:=by kernel_rfl
 i46:=by kernel_rfl
 i51:=by kernel_rfl
 i53:=by kernel_rfl
 i171:=by kernel_rfl
 i173:=by kernel_rfl
 i212:=by kernel_rfl
 i232:=by kernel_rfl
 i233:=by kernel_rfl
 m17:=by kernel_rfl
 m18:=by kernel_rfl
 m19:=by kernel_rfl }
def DL:Go.Shelf.Ren:=⟨fun | 146=>171 | 221=>225 | 268=>265 | 138=>266 | 143=>267 | 195=>302 | 197=>303 | 218=>304 | 219=>305 | 260=>330 | 217=>170 | 225=>331 | 224=>332 | 267=>333 | 266=>224 | 314=>349 | n=>n,fun | 9=>9 | 31=>205 | 3=>3 | 4=>4 | 0=>0 | 105=>309 | 21=>21 | 5=>5 | 46=>295 | 119=>354 | 139=>357 | 138=>356 | 146=>358 | 51=>344 | n=>n,fun | 1=>0 | 3=>4 | 4=>5 | n=>n⟩
theorem Oa:Go.Proofs.Lays.n146 Tryz.prog DL:= {
 mixed:=by kernel_rfl
 f138:=Tryz.func266.trans (congrArg some (by kernel_rfl))
 f143:=Tryz.func267.trans (congrArg some (by kernel_rfl))
 f146:=Tryz.func171.trans (congrArg some (by kernel_rfl))
 f195:=Tryz.func302.trans (congrArg some (by kernel_rfl))
 f197:=Tryz.func303.trans (congrArg some (by kernel_rfl))
 f217:=Tryz.func170.trans (congrArg some (by kernel_rfl))
 f218:=Tryz.func304.trans (congrArg some (by kernel_rfl))
 f219:=Tryz.func305.trans (congrArg some (by kernel_rfl))
 f221:=Tryz.func225.trans (congrArg some (by kernel_rfl))
 f224:=Tryz.func332.trans (congrArg some (by kernel_rfl))
 f225:=Tryz.func331.trans (congrArg some (by kernel_rfl))
 f260:=Tryz.func330.trans (congrArg some (by kernel_rfl))
 f266:=Tryz.func224.trans (congrArg some (by kernel_rfl))
 f267:=Tryz.func333.trans (congrArg some (by kernel_rfl))
 f268:=Tryz.func265.trans (congrArg some (by kernel_rfl))
 f314:=Tryz.func349.trans (congrArg some (by kernel_rfl))
 t0:=Tryz.underlying0
 a0:=Tryz.isAgg0
 z0:=Tryz.sizeOf0
 v0:=Tryz.zeroValue0
 t3:=Tryz.underlying3
 a3:=Tryz.isAgg3
 z3:=Tryz.sizeOf3
 v3:=Tryz.zeroValue3
 t4:=Tryz.underlying4
 a4:=Tryz.isAgg4
 z4:=Tryz.sizeOf4
 v4:=Tryz.zeroValue4
 t5:=Tryz.underlying5
 a5:=Tryz.isAgg5
 z5:=Tryz.sizeOf5
 v5:=Tryz.zeroValue5
 t9:=Tryz.underlying9
 a9:=Tryz.isAgg9
 z9:=Tryz.sizeOf9
 v9:=Tryz.zeroValue9
 t21:=Tryz.underlying21
 a21:=Tryz.isAgg21
 z21:=Tryz.sizeOf21
 v21:=Tryz.zeroValue21
 t31:=Tryz.underlying205
 a31:=Tryz.isAgg205
 z31:=Tryz.sizeOf205
 v31:=Tryz.zeroValue205
 t46:=Tryz.underlying295
 a46:=Tryz.isAgg295
 z46:=Tryz.sizeOf295
 v46:=Tryz.zeroValue295
 t51:=Tryz.underlying344
 a51:=Tryz.isAgg344
 z51:=Tryz.sizeOf344
 v51:=Tryz.zeroValue344
 t105:=Tryz.underlying309
 a105:=Tryz.isAgg309
 z105:=Tryz.sizeOf309
 v105:=Tryz.zeroValue309
 t119:=Tryz.underlying354
 a119:=Tryz.isAgg354
 z119:=Tryz.sizeOf354
 t138:=Tryz.underlying356
 a138:=Tryz.isAgg356
 z138:=Tryz.sizeOf356
 v138:=Tryz.zeroValue356
 t139:=Tryz.underlying357
 a139:=Tryz.isAgg357
 z139:=Tryz.sizeOf357
 v139:=Tryz.zeroValue357
 t146:=Tryz.underlying358
 a146:=Tryz.isAgg358
 z146:=Tryz.sizeOf358
 v146:=Tryz.zeroValue358
 g1:=by kernel_rfl
 g3:=by kernel_rfl
 g4:=by kernel_rfl }
def HW:Go.Shelf.Ren:=⟨fun | 145=>270 | 220=>311 | 219=>305 | 217=>170 | 225=>331 | 224=>332 | 267=>333 | 266=>224 | 314=>349 | n=>n,fun | 9=>9 | 4=>4 | 59=>284 | 3=>3 | 5=>5 | 46=>295 | 146=>358 | 51=>344 | n=>n,fun | 1=>0 | n=>n⟩
theorem VB:Go.Proofs.Lays.n145 Tryz.prog HW:= {
 mixed:=by kernel_rfl
 f145:=Tryz.func270.trans (congrArg some (by kernel_rfl))
 f217:=Tryz.func170.trans (congrArg some (by kernel_rfl))
 f219:=Tryz.func305.trans (congrArg some (by kernel_rfl))
 f220:=Tryz.func311.trans (congrArg some (by kernel_rfl))
 f224:=Tryz.func332.trans (congrArg some (by kernel_rfl))
 f225:=Tryz.func331.trans (congrArg some (by kernel_rfl))
 f266:=Tryz.func224.trans (congrArg some (by kernel_rfl))
 f267:=Tryz.func333.trans (congrArg some (by kernel_rfl))
 f314:=Tryz.func349.trans (congrArg some (by kernel_rfl))
 t3:=Tryz.underlying3
 a3:=Tryz.isAgg3
 z3:=Tryz.sizeOf3
 v3:=Tryz.zeroValue3
 t4:=Tryz.underlying4
 a4:=Tryz.isAgg4
 z4:=Tryz.sizeOf4
 v4:=Tryz.zeroValue4
 t5:=Tryz.underlying5
 a5:=Tryz.isAgg5
 z5:=Tryz.sizeOf5
 v5:=Tryz.zeroValue5
 t9:=Tryz.underlying9
 a9:=Tryz.isAgg9
 z9:=Tryz.sizeOf9
 v9:=Tryz.zeroValue9
 t46:=Tryz.underlying295
 a46:=Tryz.isAgg295
 z46:=Tryz.sizeOf295
 v46:=Tryz.zeroValue295
 t51:=Tryz.underlying344
 a51:=Tryz.isAgg344
 z51:=Tryz.sizeOf344
 v51:=Tryz.zeroValue344
 t59:=Tryz.underlying284
 a59:=Tryz.isAgg284
 z59:=Tryz.sizeOf284
 v59:=Tryz.zeroValue284
 t146:=Tryz.underlying358
 a146:=Tryz.isAgg358
 z146:=Tryz.sizeOf358
 v146:=Tryz.zeroValue358
 g1:=by kernel_rfl }
def wQ:Go.Shelf.Ren:=⟨fun | 137=>112 | 217=>170 | 266=>224 | n=>n,fun | 9=>9 | 5=>5 | 3=>3 | n=>n,fun | n=>n⟩
theorem DM:Go.Proofs.Lays.n137 Tryz.prog wQ:= {
 mixed:=by kernel_rfl
 f137:=Tryz.func112.trans (congrArg some (by kernel_rfl))
 f217:=Tryz.func170.trans (congrArg some (by kernel_rfl))
 f266:=Tryz.func224.trans (congrArg some (by kernel_rfl))
 t3:=Tryz.underlying3
 a3:=Tryz.isAgg3
 z3:=Tryz.sizeOf3
 v3:=Tryz.zeroValue3
 t5:=Tryz.underlying5
 a5:=Tryz.isAgg5
 z5:=Tryz.sizeOf5
 v5:=Tryz.zeroValue5
 t9:=Tryz.underlying9
 a9:=Tryz.isAgg9
 z9:=Tryz.sizeOf9
 v9:=Tryz.zeroValue9 }
def Gc:Go.Shelf.Ren:=⟨fun | 172=>226 | 244=>268 | 245=>269 | 247=>306 | 279=>307 | 280=>308 | 281=>309 | 282=>310 | 287=>334 | 316=>335 | 171=>195 | 205=>336 | 321=>350 | 322=>351 | 243=>237 | 246=>274 | 283=>314 | 284=>315 | 285=>316 | 286=>317 | 129=>338 | 317=>337 | 318=>339 | 319=>340 | 320=>341 | 337=>352 | 338=>353 | n=>n,fun | 9=>9 | 3=>3 | 75=>243 | 76=>244 | 4=>4 | 5=>5 | 167=>311 | 37=>222 | 0=>0 | 85=>312 | 2=>2 | 168=>314 | 53=>321 | 175=>336 | 46=>295 | 210=>340 | 127=>286 | 145=>364 | 143=>362 | 21=>21 | 171=>320 | 173=>324 | 212=>343 | 51=>344 | 20=>20 | 213=>345 | 232=>369 | 233=>370 | 80=>254 | n=>n,fun | 15=>1 | 16=>2 | 17=>3 | 18=>6 | 19=>7 | n=>n⟩
theorem JP:Go.Proofs.LaysC.n172 Tryz.prog Gc:= {
 mixed:=by kernel_rfl
 f129:=Tryz.func338.trans (congrArg some (by kernel_rfl))
 f171:=Tryz.func195.trans (congrArg some (by kernel_rfl))
 f172:=Tryz.func226.trans (congrArg some (by kernel_rfl))
 f205:=Tryz.func336.trans (congrArg some (by kernel_rfl))
 f243:=Tryz.func237.trans (congrArg some (by kernel_rfl))
 f244:=Tryz.func268.trans (congrArg some (by kernel_rfl))
 f245:=Tryz.func269.trans (congrArg some (by kernel_rfl))
 f246:=Tryz.func274.trans (congrArg some (by kernel_rfl))
 f247:=Tryz.func306.trans (congrArg some (by kernel_rfl))
 f279:=Tryz.func307.trans (congrArg some (by kernel_rfl))
 f280:=Tryz.func308.trans (congrArg some (by kernel_rfl))
 f281:=Tryz.func309.trans (congrArg some (by kernel_rfl))
 f282:=Tryz.func310.trans (congrArg some (by kernel_rfl))
 f283:=Tryz.func314.trans (congrArg some (by kernel_rfl))
 f284:=Tryz.func315.trans (congrArg some (by kernel_rfl))
 f285:=Tryz.func316.trans (congrArg some (by kernel_rfl))
 f286:=Tryz.func317.trans (congrArg some (by kernel_rfl))
 f287:=Tryz.func334.trans (congrArg some (by kernel_rfl))
 f316:=Tryz.func335.trans (congrArg some (by kernel_rfl))
 f317:=Tryz.func337.trans (congrArg some (by kernel_rfl))
 f318:=Tryz.func339.trans (congrArg some (by kernel_rfl))
 f319:=Tryz.func340.trans (congrArg some (by kernel_rfl))
 f320:=Tryz.func341.trans (congrArg some (by kernel_rfl))
 f321:=Tryz.func350.trans (congrArg some (by kernel_rfl))
 f322:=Tryz.func351.trans (congrArg some (by kernel_rfl))
 f337:=Tryz.func352.trans (congrArg some (by kernel_rfl))
 f338:=Tryz.func353.trans (congrArg some (by kernel_rfl))
 t0:=Tryz.underlying0
 a0:=Tryz.isAgg0
 z0:=Tryz.sizeOf0
 v0:=Tryz.zeroValue0
 t2:=Tryz.underlying2
 a2:=Tryz.isAgg2
 z2:=Tryz.sizeOf2
 v2:=Tryz.zeroValue2
 t3:=Tryz.underlying3
 a3:=Tryz.isAgg3
 z3:=Tryz.sizeOf3
 v3:=Tryz.zeroValue3
 t4:=Tryz.underlying4
 a4:=Tryz.isAgg4
 z4:=Tryz.sizeOf4
 v4:=Tryz.zeroValue4
 t5:=Tryz.underlying5
 a5:=Tryz.isAgg5
 z5:=Tryz.sizeOf5
 v5:=Tryz.zeroValue5
 t9:=Tryz.underlying9
 a9:=Tryz.isAgg9
 z9:=Tryz.sizeOf9
 v9:=Tryz.zeroValue9
 t20:=Tryz.underlying20
 a20:=Tryz.isAgg20
 z20:=Tryz.sizeOf20
 v20:=Tryz.zeroValue20
 t21:=Tryz.underlying21
 a21:=Tryz.isAgg21
 z21:=Tryz.sizeOf21
 v21:=Tryz.zeroValue21
 t37:=Tryz.underlying222
 a37:=Tryz.isAgg222
 z37:=Tryz.sizeOf222
 v37:=Tryz.zeroValue222
 t46:=Tryz.underlying295
 a46:=Tryz.isAgg295
 z46:=Tryz.sizeOf295
 v46:=Tryz.zeroValue295
 t51:=Tryz.underlying344
 a51:=Tryz.isAgg344
 z51:=Tryz.sizeOf344
 v51:=Tryz.zeroValue344
 t53:=Tryz.underlying321
 a53:=Tryz.isAgg321
 z53:=Tryz.sizeOf321
 v53:=Tryz.zeroValue321
 t75:=Tryz.underlying243
 a75:=Tryz.isAgg243
 z75:=Tryz.sizeOf243
 v75:=Tryz.zeroValue243
 t76:=Tryz.underlying244
 a76:=Tryz.isAgg244
 z76:=Tryz.sizeOf244
 v76:=Tryz.zeroValue244
 t85:=Tryz.underlying312
 a85:=Tryz.isAgg312
 z85:=Tryz.sizeOf312
 v85:=Tryz.zeroValue312
 t127:=Tryz.underlying286
 a127:=Tryz.isAgg286
 z127:=Tryz.sizeOf286
 v127:=Tryz.zeroValue286
 t143:=Tryz.underlying362
 a143:=Tryz.isAgg362
 z143:=Tryz.sizeOf362
 v143:=Tryz.zeroValue362
 t145:=Tryz.underlying364
 a145:=Tryz.isAgg364
 z145:=Tryz.sizeOf364
 v145:=Tryz.zeroValue364
 t167:=Tryz.underlying311
 a167:=Tryz.isAgg311
 z167:=Tryz.sizeOf311
 v167:=Tryz.zeroValue311
 t168:=Tryz.underlying314
 a168:=Tryz.isAgg314
 z168:=Tryz.sizeOf314
 v168:=Tryz.zeroValue314
 t171:=Tryz.underlying320
 a171:=Tryz.isAgg320
 z171:=Tryz.sizeOf320
 v171:=Tryz.zeroValue320
 t173:=Tryz.underlying324
 a173:=Tryz.isAgg324
 z173:=Tryz.sizeOf324
 v173:=Tryz.zeroValue324
 t175:=Tryz.underlying336
 a175:=Tryz.isAgg336
 z175:=Tryz.sizeOf336
 v175:=Tryz.zeroValue336
 t210:=Tryz.underlying340
 a210:=Tryz.isAgg340
 z210:=Tryz.sizeOf340
 v210:=Tryz.zeroValue340
 t212:=Tryz.underlying343
 a212:=Tryz.isAgg343
 z212:=Tryz.sizeOf343
 v212:=Tryz.zeroValue343
 t213:=Tryz.underlying345
 a213:=Tryz.isAgg345
 z213:=Tryz.sizeOf345
 t232:=Tryz.underlying369
 a232:=Tryz.isAgg369
 z232:=Tryz.sizeOf369
 v232:=Tryz.zeroValue369
 t233:=Tryz.underlying370
 a233:=Tryz.isAgg370
 z233:=Tryz.sizeOf370
 v233:=Tryz.zeroValue370
 g15:=by kernel_rfl
 g16:=by kernel_rfl
 g17:=by kernel_rfl
 g18:=by kernel_rfl
 g19:=by kernel_rfl
 t80:=Tryz.underlying254
 a80:=Tryz.isAgg254
 z80:=Tryz.sizeOf254
 v80:=Tryz.zeroValue254
 i0:=by kernel_rfl
 i2:=by kernel_rfl
 i3:=by kernel_rfl
 i4:=by kernel_rfl
 i5:=by kernel_rfl
 i9:=by kernel_rfl
 i20:=by kernel_rfl
 i21:=by kernel_rfl
 i37:=by kernel_rfl
 i46:=by kernel_rfl
 i51:=by kernel_rfl
 i53:=by kernel_rfl
 i75:=by kernel_rfl
 i76:=by kernel_rfl
 i80:=by kernel_rfl
 i85:=by kernel_rfl
 i127:=by kernel_rfl
 i143:=by kernel_rfl
 i145:=by kernel_rfl
 i167:=by kernel_rfl
 i168:=by kernel_rfl
 i171:=by kernel_rfl
 i173:=by kernel_rfl
 i175:=by kernel_rfl
 i210:=by kernel_rfl
 i212:=by kernel_rfl
 i232:=by kernel_rfl
 i233:=by kernel_rfl
 m15:=by kernel_rfl
 m16:=by kernel_rfl
 m17:=by kernel_rfl
 m18:=by kernel_rfl
 m19:=by kernel_rfl
 c0:=by kernel_rfl
 c2:=by kernel_rfl
 c3:=by kernel_rfl
 c4:=by kernel_rfl
 c5:=by kernel_rfl
 c9:=by kernel_rfl
 c20:=by kernel_rfl
 c21:=by kernel_rfl
 c37:=by kernel_rfl
 c46:=by kernel_rfl
 c51:=by kernel_rfl
 c53:=by kernel_rfl
 c75:=by kernel_rfl
 c76:=by kernel_rfl
 c80:=by kernel_rfl
 c85:=by kernel_rfl
 c127:=by kernel_rfl
 c143:=by kernel_rfl
 c145:=by kernel_rfl
 c167:=by kernel_rfl
 c168:=by kernel_rfl
 c171:=by kernel_rfl
 c173:=by kernel_rfl
 c175:=by kernel_rfl
 c210:=by kernel_rfl
 c212:=by kernel_rfl
 c213:=by kernel_rfl
 c232:=by kernel_rfl
 c233:=by kernel_rfl }
theorem Ob:Go.Proofs.Builder.Extra Tryz.prog xE where
 sizeBuilder:=by kernel_rfl
 liesBuilder:=by kernel_rfl
 t5:=Tryz.underlying5
 a5:=Tryz.isAgg5
 z5:=Tryz.sizeOf5
 v5:=Tryz.zeroValue5
 infoByte:=by kernel_rfl
 cellsByte:=by kernel_rfl
 sizeByte:=by kernel_rfl
 neB5:=by decide
end R
namespace R
open Go.RowKit
open D
def FldAll (P:Program) (T:TypeId):Nat->List (Nat×Nat)->Prop
 | _,[] =>True
 | i,q::l=>TF P T i q.1 q.2/\FldAll P T (i+1) l
theorem FldAll.get {P:Program} {T:TypeId} : ∀ {l:List (Nat×Nat)} {i:Nat},FldAll P T i l-> ∀f q,l[f]? =some q->TF P T (i+f) q.1 q.2
 | [],_,_,f,q,h=>by simp at h
 | x::l,i,⟨h1,h2⟩,f,q,h=>by
  cases f with
  | zero=>simp at h;subst h;exact h1
  | succ f =>
   have:=FldAll.get h2 f q (by simpa using h)
   rwa [show i+1+f=i+(f+1) from by omega] at this
section
variable {P:Program} {T:TypeId}
theorem ug {n b:Nat} {ty:Ty} {z:Value} {boo:Bool} {ik:Option (Option IntKind)} (h1:TI P T false 1) (h2:ty.size=1) (h3:TZ P T z 1 b) (h4:z.cells=(zeroCells ty).toArray) (h5:1<=b) (h6:boo=true->P.underlying T=some .bool) (h7: ∀k,ik=some k->P.underlying T=some (ikD k)):TDok P T ⟨false,1,none,ty,[],some b,none,boo,none,none,ik,false,none⟩:=
 ⟨h1,rfl,h2,fun E h=>by simp at h,fun f q h=>by simp at h,fun b' h=>by obtain rfl:=ae h;exact ⟨z,h3,h4,h5⟩,fun pl h=>by simp at h,h6,(fun ks h=>by cases h),(fun m h=>by cases h),h7,(fun h=>by cases h),fun e h=>by cases h⟩
theorem oL {E:TypeId} {t:Ty} (h1:TI P T false 1) (h2:P.underlying T=some (.slice E)) (h3:TZ P T (.slice none 0 0) 1 24):TDok P T ⟨false,1,some E,.sl E t,[],some 24,none,false,none,none,none,false,none⟩:=
 ⟨h1,rfl,rfl,fun E' h=>by obtain rfl:=ae h;exact h2,fun f q h=>by simp at h,fun b' h=>by obtain rfl:=ae h;exact ⟨_,h3,rfl,by decide⟩,fun pl h=>by simp at h,(fun h=>by cases h),(fun ks h=>by cases h),(fun m h=>by cases h),(fun k h=>by cases h),(fun h=>by cases h),fun e h=>by cases h⟩
theorem kO {n b:Nat} {ty:Ty} {fs pl:List (Nat×Nat)} {z:Value} {eq:Option (List (Option IntKind))} (h1:TI P T true n) (h2:ty.size=n) (h3:FldAll P T 0 fs) (h4:TZ P T z n b) (h5:z.cells=(zeroCells ty).toArray) (h6:1<=b) (h7:TB P T pl) (h8: ∀ks,eq=some ks-> ∀w,Curq ks fun xs ys r=>EqT P T (.agg xs.toArray) (.agg ys.toArray) r w):TDok P T ⟨true,n,none,ty,fs,some b,some pl,false,eq,none,none,false,none⟩:=
 ⟨h1,rfl,h2,fun E h=>by simp at h,fun f q h=>by have:=h3.get f q h;rwa [Nat.zero_add] at this,fun b' h=>by obtain rfl:=ae h;exact ⟨z,h4,h5,h6⟩,fun pl' h=>by obtain rfl:=ae h;exact h7,(fun h=>by cases h),h8,(fun m h=>by cases h),(fun k h=>by cases h),(fun h=>by cases h),fun e h=>by cases h⟩
theorem Ae {ty:Ty} {b:Nat} (h1:TI P T false 1) (h2:ty.size=1) (h3:TZ P T .nilFunc 1 b):TDok P T ⟨false,1,none,ty,[],none,none,false,none,none,none,true,none⟩:=
 ⟨h1,rfl,h2,fun E h=>by simp at h,fun f q h=>by simp at h,(fun b' h=>by cases h),(fun pl h=>by cases h),(fun h=>by cases h),(fun ks h=>by cases h),(fun m' h=>by cases h),(fun k h=>by cases h),(fun _=>⟨b,h3⟩),fun e h=>by cases h⟩
theorem YK {m:MD} {ty:Ty} (h1:TI P T false 1) (h2:ty.size=1) (h3:MDok P T m):TDok P T ⟨false,1,none,ty,[],none,none,false,none,some m,none,false,none⟩:=
 ⟨h1,rfl,h2,fun E h=>by simp at h,fun f q h=>by simp at h,(fun b' h=>by cases h),(fun pl h=>by cases h),(fun h=>by cases h),(fun ks h=>by cases h),(fun m' h=>by obtain rfl:=ae h;exact h3),(fun k h=>by cases h),(fun h=>by cases h),fun e h=>by cases h⟩
theorem YL {e E:TypeId} {u:Ty} (h1:TI P T false 1) (h2:P.underlying T=some (.pointer e)) (h3:TZ P T (.pointer none) 1 8):TDok P T ⟨false,1,none,.fro (.tree e E u),[],some 8,none,false,none,none,none,false,some e⟩:=
 ⟨h1,rfl,rfl,fun E' h=>by simp at h,fun f q h=>by simp at h,fun b' h=>by obtain rfl:=ae h;exact ⟨_,h3,rfl,by decide⟩,fun pl h=>by simp at h,(fun h=>by cases h),(fun ks h=>by cases h),(fun m h=>by cases h),(fun k h=>by cases h),(fun h=>by cases h),fun e' h=>by obtain rfl:=ae h;exact h2⟩
end
end R
namespace D
open Go.RowKit
abbrev Yq4:Type:=(Int×Int×Int×Int)
abbrev Yq1:Type:=(List Yq4)
abbrev Yq2:Type:=(Int×(List Bool)×(List (List Int)))
abbrev Yq9:Type:=(Int×(Yq1)×Int)
abbrev Yq3:Type:=(List Yq9)
abbrev EI:Type:=((List Int)×Yq1)
abbrev Yq5:Type:=(List EI)
abbrev Yq6:Type:=(Bool×Int×Int×Int×Int)
abbrev Yq7:Type:=(Int×Int×Int)
abbrev Yq8:Type:=((List Yq2)×Yq3)
abbrev PG:Type:=((List Int)×Int×Int×(List Int)×Bool)
abbrev yZ:Type:=(Out Int (Int×Int))
abbrev Zt:Type:=(((Int×List ((List Int)×List Yq4))×((List (Int×(List Bool)×List (List Int)))×List (Int×Yq1×Int))×(List Yq7)×ByteArray)×Bool)
abbrev Wl:Type:=((Int×Yq5)×Yq8×(List Yq7)×ByteArray)
abbrev PH:Type:=(Int×(List Yq2)×Yq3)
def sH (p0a:List Int) (p1left:Int):Option Int:=
 if decide (IntKind.i64.wrap (p1left - (p0a.length:Int))<0) then (some (-1)) else (some (IntKind.i64.wrap (p1left - (p0a.length:Int))))
def uh (p0a:List Yq4) (p1left:Int):Option Int:=
 if decide (IntKind.i64.wrap (p1left - (p0a.length:Int))<0) then (some (-1)) else (some (IntKind.i64.wrap (p1left - (p0a.length:Int))))
def pS (p0a:(List Int)×Yq1) (p1left:Int):Option Int:=
 (sH p0a.1 p1left).bind fun r1=>if decide (r1<0) then (some (-1)) else ((uh p0a.2 r1).bind fun r2=>if decide (r2<0) then (some (-1)) else (some r2))
def kc (p0a:List EI) (s3:Int×Int):Option yZ:=
 if decide (s3.2<(p0a.length:Int)) then ((aQ p0a s3.2).bind fun x3=>(pS (x3.1,x3.2) s3.1).bind fun r9=>if decide (r9<0) then (some (.ret (-1))) else (some (.nxt (r9,IntKind.i64.wrap (s3.2+1))))) else (some (.brk (s3.1,s3.2)))
def rA (p0a:List EI) (p1left:Int):Option Int:=
 if decide (IntKind.i64.wrap (p1left - (p0a.length:Int))<0) then (some (-1)) else (aP (ax (kc p0a) aX (IntKind.i64.wrap (p1left - (p0a.length:Int)),0)) (fun r=>some r) (fun s4=>some s4.1))
def mD (p0a:Int×Yq5) (p1left:Int):Option Int:=
 (rA p0a.2 p1left).bind fun r1=>if decide (r1<0) then (some (-1)) else (some r1)
def ui (p0a:List Bool) (p1left:Int):Option Int:=
 if decide (IntKind.i64.wrap (p1left - (p0a.length:Int))<0) then (some (-1)) else (some (IntKind.i64.wrap (p1left - (p0a.length:Int))))
def lr (p0a:List (List Int)) (s3:Int×Int):Option yZ:=
 if decide (s3.2<(p0a.length:Int)) then ((aQ p0a s3.2).bind fun x3=>(sH x3 s3.1).bind fun r6=>if decide (r6<0) then (some (.ret (-1))) else (some (.nxt (r6,IntKind.i64.wrap (s3.2+1))))) else (some (.brk (s3.1,s3.2)))
def uj (p0a:List (List Int)) (p1left:Int):Option Int:=
 if decide (IntKind.i64.wrap (p1left - (p0a.length:Int))<0) then (some (-1)) else (aP (ax (lr p0a) aX (IntKind.i64.wrap (p1left - (p0a.length:Int)),0)) (fun r=>some r) (fun s4=>some s4.1))
def kd (p0a:Int×(List Bool)×(List (List Int))) (p1left:Int):Option Int:=
 (ui p0a.2.1 p1left).bind fun r1=>if decide (r1<0) then (some (-1)) else ((uj p0a.2.2 r1).bind fun r2=>if decide (r2<0) then (some (-1)) else (some r2))
def fQ (p0a:List Yq2) (s3:Int×Int):Option yZ:=
 if decide (s3.2<(p0a.length:Int)) then ((aQ p0a s3.2).bind fun x3=>(kd (x3.1,x3.2.1,x3.2.2) s3.1).bind fun r9=>if decide (r9<0) then (some (.ret (-1))) else (some (.nxt (r9,IntKind.i64.wrap (s3.2+1))))) else (some (.brk (s3.1,s3.2)))
def mn (p0a:List Yq2) (p1left:Int):Option Int:=
 if decide (IntKind.i64.wrap (p1left - (p0a.length:Int))<0) then (some (-1)) else (aP (ax (fQ p0a) aX (IntKind.i64.wrap (p1left - (p0a.length:Int)),0)) (fun r=>some r) (fun s4=>some s4.1))
def rB (p0a:List Yq4) (p1left:Int):Option Int:=
 if decide (IntKind.i64.wrap (p1left - (p0a.length:Int))<0) then (some (-1)) else (some (IntKind.i64.wrap (p1left - (p0a.length:Int))))
def sI (p0a:Yq1) (p1left:Int):Option Int:=
 (rB p0a p1left).bind fun r1=>if decide (r1<0) then (some (-1)) else (some r1)
def je (p0a:Int×(Yq1)×Int) (p1left:Int):Option Int:=
 (sI p0a.2.1 p1left).bind fun r1=>if decide (r1<0) then (some (-1)) else (some r1)
def ff (p0a:List Yq9) (s3:Int×Int):Option yZ:=
 if decide (s3.2<(p0a.length:Int)) then ((aQ p0a s3.2).bind fun x3=>(je (x3.1,x3.2.1,x3.2.2) s3.1).bind fun r6=>if decide (r6<0) then (some (.ret (-1))) else (some (.nxt (r6,IntKind.i64.wrap (s3.2+1))))) else (some (.brk (s3.1,s3.2)))
def kU (p0a:List Yq9) (p1left:Int):Option Int:=
 if decide (IntKind.i64.wrap (p1left - (p0a.length:Int))<0) then (some (-1)) else (aP (ax (ff p0a) aX (IntKind.i64.wrap (p1left - (p0a.length:Int)),0)) (fun r=>some r) (fun s4=>some s4.1))
def lu (p0a:(List Yq2)×Yq3) (p1left:Int):Option Int:=
 (mn p0a.1 p1left).bind fun r1=>if decide (r1<0) then (some (-1)) else ((kU p0a.2 r1).bind fun r2=>if decide (r2<0) then (some (-1)) else (some r2))
def kV (p0a:List Yq7) (p1left:Int):Option Int:=
 if decide (IntKind.i64.wrap (p1left - (p0a.length:Int))<0) then (some (-1)) else (some (IntKind.i64.wrap (p1left - (p0a.length:Int))))
def oe (p0a:(Int×Yq5)×Yq8×(List Yq7)×ByteArray) (p1left:Int):Option Int:=
 (mD (p0a.1.1,p0a.1.2) p1left).bind fun r1=>if decide (r1<0) then (some (-1)) else ((lu (p0a.2.1.1,p0a.2.1.2) r1).bind fun r2=>if decide (r2<0) then (some (-1)) else ((kV p0a.2.2.1 r2).bind fun r3=>if decide (r3<0) then (some (-1)) else (if decide (IntKind.i64.wrap (r3 - (p0a.2.2.2.size:Int))<0) then (some (-1)) else (some (IntKind.i64.wrap (r3 - (p0a.2.2.2.size:Int)))))))
def cH (p0x:Int) (p1low:Int) (p2high:Int):Option Bool:=
 if decide (p0x≥p1low) then (some (decide (p0x<=p2high))) else (some false)
def Cx (p0g:(List Int)×Yq1) (p1e:Int×Int×Int×Int):Option Bool:=
 (cH p1e.1 1 99).bind fun r1=>if r1 then ((cH p1e.2.1 0 (IntKind.i64.wrap ((p0g.1.length:Int) - 1))).bind fun r2=>if r2 then ((cH p1e.2.2.1 0 (IntKind.i64.wrap ((p0g.1.length:Int) - 1))).bind fun r3=>if r3 then ((cH p1e.2.2.2 0 2).bind fun r4=>some r4) else (some false)) else (some false)) else (some false)
def ni (p0g:(List Int)×Yq1) (s3:Int):Option (Out Bool Int):=
 if decide (s3<(p0g.1.length:Int)) then ((aQ p0g.1 s3).bind fun x3=>(cH x3 0 2).bind fun r3=>if r3 then (some (.nxt (IntKind.i64.wrap (s3+1)))) else (some (.ret false))) else (some (.brk s3))
def jH (p0g:(List Int)×Yq1) (s7:Int):Option (Out Bool Int):=
 if decide (s7<(p0g.2.length:Int)) then ((aQ p0g.2 s7).bind fun x10=>(Cx (p0g.1,p0g.2) (x10.1,x10.2.1,x10.2.2.1,x10.2.2.2)).bind fun r6=>if r6 then (if decide (s7>0) then ((aQ p0g.2 (IntKind.i64.wrap (s7 - 1))).bind fun x11=>(aQ p0g.2 s7).bind fun x12=>if decide (x11.1≥x12.1) then (some (.ret false)) else (some (.nxt (IntKind.i64.wrap (s7+1))))) else (some (.nxt (IntKind.i64.wrap (s7+1))))) else (some (.ret false))) else (some (.brk s7))
def gp (p0g:(List Int)×Yq1):Option Bool:=
 aP (ax (ni p0g) aX 0) (fun r=>some r) (fun s4=>aP (ax (jH p0g) aX 0) (fun r=>some r) (fun s8=>(cH (p0g.1.length:Int) 1 5).bind fun r7=>if r7 then (some (decide ((p0g.2.length:Int)<=12))) else (some false)))
def oh (p0a:List Int) (p1b:List Int) (s3:Int):Option (Out Int Int):=
 if decide (s3<(p0a.length:Int)) then (if decide (s3<(p1b.length:Int)) then ((aQ p0a s3).bind fun x9=>(aQ p1b s3).bind fun x10=>if decide (x9<x10) then (some (.ret (-1))) else ((aQ p0a s3).bind fun x11=>(aQ p1b s3).bind fun x12=>if decide (x11>x12) then (some (.ret 1)) else (some (.nxt (IntKind.i64.wrap (s3+1)))))) else (some (.brk s3))) else (some (.brk s3))
def nj (p0a:List Int) (p1b:List Int):Option Int:=
 aP (ax (oh p0a p1b) aX 0) (fun r=>some r) (fun s4=>if decide ((p0a.length:Int)<(p1b.length:Int)) then (some (-1)) else (if decide ((p0a.length:Int)>(p1b.length:Int)) then (some 1) else (some 0)))
def eK (p0h:Int×Yq5) (s3:Int):Option (Out Bool Int):=
 if decide (s3<(p0h.2.length:Int)) then ((aQ p0h.2 s3).bind fun x7=>(gp (x7.1,x7.2)).bind fun r15=>if r15 then ((aQ p0h.2 s3).bind fun x8=>(aQ p0h.2 0).bind fun x9=>(nj x8.1 x9.1).bind fun r18=>if r18 !=0 then (some (.ret false)) else (some (.nxt (IntKind.i64.wrap (s3+1))))) else (some (.ret false))) else (some (.brk s3))
def m_s_IsValidHistory (p0h:Int×Yq5):Option Bool:=
 aP (ax (eK p0h) aX 0) (fun r=>some r) (fun s4=>(cH (p0h.2.length:Int) 1 8).bind fun r19=>if r19 then ((cH p0h.1 1 (IntKind.i64.wrap ((IntKind.i64.wrap (999 - (p0h.2.length:Int)))+1))).bind fun r20=>some r20) else (some false))
def lX (p0n:Int):Option Bool:=
 (cH p0n 0 8).bind fun r1=>some r1
def nk (p0:Int×Int×Int×Int):Option Int:=
 Option.bind ((if p0.1==1 then (some (p0.1==1)) else (some (p0.1==2)):Option Bool)) (fun s1=>if s1 then (if p0.2.1 !=0 then (some (-1)) else (if p0.2.2.1 !=0 then (some (-1)) else (if p0.2.2.2 !=0 then (some (-1)) else (some 0)))) else (if p0.1==3 then ((lX p0.2.1).bind fun r3=>if r3 then (if p0.2.2.1 !=0 then (some (-1)) else (if p0.2.2.2 !=0 then (some (-1)) else (some 0))) else (some (-1))) else (Option.bind ((if p0.1==4 then (some (p0.1==4)) else (some (p0.1==5)):Option Bool)) (fun s2=>if s2 then (if p0.2.1 !=0 then (some (-1)) else (if p0.2.2.1 !=0 then (some (-1)) else (if p0.2.2.2 !=0 then (some (-1)) else (some 2)))) else (if p0.1==6 then (if p0.2.1 !=0 then (some (-1)) else (if p0.2.2.1 !=0 then (some (-1)) else (if p0.2.2.2 !=0 then (some (-1)) else (some 1)))) else (if p0.1==7 then (if p0.2.1 !=0 then (some (-1)) else ((cH p0.2.2.2 1 3).bind fun r1=>if r1 then ((cH p0.2.2.1 0 p0.2.2.2).bind fun r2=>if r2 then (some 1) else (some (-1))) else (some (-1)))) else (some (-1))))))))
def pT (p0e:Yq1) (s3:Int×Int):Option (Out Bool (Int×Int)):=
 if decide (s3.2<(p0e.length:Int)) then ((aQ p0e s3.2).bind fun x3=>(nk (x3.1,x3.2.1,x3.2.2.1,x3.2.2.2)).bind fun r3=>if decide (r3<0) then (some (.ret false)) else (if decide (r3>s3.1) then (some (.ret false)) else (some (.nxt (IntKind.i64.wrap ((IntKind.i64.wrap (s3.1 - r3))+1),IntKind.i64.wrap (s3.2+1)))))) else (some (.brk (s3.1,s3.2)))
def sJ (p0e:Yq1):Option Bool:=
 aP (ax (pT p0e) aX (0,0)) (fun r=>some r) (fun s4=>some (s4.1==1))
def ke (p0e:Yq1):Option Bool:=
 if decide ((p0e.length:Int)<=24) then ((sJ p0e).bind fun r1=>some r1) else (some false)
def lx (p0l:List Yq4) (s3:Int×Int):Option yZ:=
 if decide (s3.1>0) then ((aQ p0l (IntKind.i64.wrap (s3.2 - 1))).bind fun x3=>(nk (x3.1,x3.2.1,x3.2.2.1,x3.2.2.2)).bind fun r3=>some (.nxt (IntKind.i64.wrap ((IntKind.i64.wrap (s3.1 - 1))+r3),IntKind.i64.wrap (s3.2 - 1)))) else (some (.brk (s3.1,s3.2)))
def gR (p0l:List Yq4):Option Int:=
 aP (ax (lx p0l) aX (1,(p0l.length:Int))) (fun r=>some r) (fun s4=>some s4.2)
def dM:Nat->Yq1->Option Int
 | 0,_=>none
 | n+1,p0l =>
  (aQ p0l (IntKind.i64.wrap ((p0l.length:Int) - 1))).bind fun x0=>Option.bind ((if x0.1==4 then (some (x0.1==4)) else (some (x0.1==5)):Option Bool)) (fun s1=>if s1 then ((chk (And (0<=(IntKind.i64.wrap ((p0l.length:Int) - 1))) ((IntKind.i64.wrap ((p0l.length:Int) - 1))<=(p0l.length:Int)))).bind fun _=>(gR (p0l.take ((IntKind.i64.wrap ((p0l.length:Int) - 1)).toNat))).bind fun r3=>(chk (And (0<=r3) (r3<=(p0l.length:Int)))).bind fun _=>((dM n) (p0l.take r3.toNat)).bind fun r9=>(chk (And (0<=r3) (And (r3<=(IntKind.i64.wrap ((p0l.length:Int) - 1))) ((IntKind.i64.wrap ((p0l.length:Int) - 1))<=(p0l.length:Int))))).bind fun _=>((dM n) ((p0l.take ((IntKind.i64.wrap ((p0l.length:Int) - 1)).toNat)).drop r3.toNat)).bind fun r11=>some (Min.min 100000 (IntKind.i64.wrap ((IntKind.i64.wrap (r9+r11))+1)))) else (if x0.1==6 then ((chk (And (0<=(IntKind.i64.wrap ((p0l.length:Int) - 1))) ((IntKind.i64.wrap ((p0l.length:Int) - 1))<=(p0l.length:Int)))).bind fun _=>((dM n) (p0l.take ((IntKind.i64.wrap ((p0l.length:Int) - 1)).toNat))).bind fun r13=>some (Min.min 100000 (IntKind.i64.wrap (r13+1)))) else (if x0.1==7 then ((chk (And (0<=(IntKind.i64.wrap ((p0l.length:Int) - 1))) ((IntKind.i64.wrap ((p0l.length:Int) - 1))<=(p0l.length:Int)))).bind fun _=>((dM n) (p0l.take ((IntKind.i64.wrap ((p0l.length:Int) - 1)).toNat))).bind fun r17=>some (Min.min 100000 (IntKind.i64.wrap ((IntKind.i64.wrap ((IntKind.i64.wrap (r17+3))*x0.2.2.2))+1)))) else (some 1))))
def gz (p0l:List Yq4):Option Yq1:=
 (cz 32 ([] :List Yq4) p0l).bind fun z1=>some z1
def kW (p0a:Yq1) (p1b:Yq1) (p2t:Int×Int×Int×Int):Option Yq1:=
 (gz p0a).bind fun r1=>(cz 32 r1 p1b).bind fun z1=>(cz 32 z1 ([(p2t.1,p2t.2.1,p2t.2.2.1,p2t.2.2.2)])).bind fun z2=>some z2
def o6 (p0kind:Int):Option Yq1:=
 some ([(p0kind,0,0,0)])
def jK:Nat->Yq1->Int->Int->Option Yq1 
 | 0,_,_,_=>none
 | n+1,p0e,p1low,p2high =>
  if p2high==0 then ((o6 2).bind fun r0=>some r0) else (((jK n) p0e (Max.max 0 (IntKind.i64.wrap (p1low - 1))) (IntKind.i64.wrap (p2high - 1))).bind fun r3=>(kW p0e r3 (4,0,0,0)).bind fun r4=>if decide (p1low>0) then (some r4) else ((o6 2).bind fun r7=>(kW r4 r7 (5,0,0,0)).bind fun r8=>some r8))
def cO:Nat->Yq1->Option Yq1 
 | 0,_=>none
 | n+1,p0l =>
  (aQ p0l (IntKind.i64.wrap ((p0l.length:Int) - 1))).bind fun x0=>Option.bind ((if x0.1==4 then (some (x0.1==4)) else (some (x0.1==5)):Option Bool)) (fun s1=>if s1 then ((chk (And (0<=(IntKind.i64.wrap ((p0l.length:Int) - 1))) ((IntKind.i64.wrap ((p0l.length:Int) - 1))<=(p0l.length:Int)))).bind fun _=>(gR (p0l.take ((IntKind.i64.wrap ((p0l.length:Int) - 1)).toNat))).bind fun r3=>(chk (And (0<=r3) (r3<=(p0l.length:Int)))).bind fun _=>((cO n) (p0l.take r3.toNat)).bind fun r10=>(chk (And (0<=r3) (And (r3<=(IntKind.i64.wrap ((p0l.length:Int) - 1))) ((IntKind.i64.wrap ((p0l.length:Int) - 1))<=(p0l.length:Int))))).bind fun _=>((cO n) ((p0l.take ((IntKind.i64.wrap ((p0l.length:Int) - 1)).toNat)).drop r3.toNat)).bind fun r12=>(kW r10 r12 (x0.1,x0.2.1,x0.2.2.1,x0.2.2.2)).bind fun r13=>some r13) else (if x0.1==6 then ((chk (And (0<=(IntKind.i64.wrap ((p0l.length:Int) - 1))) ((IntKind.i64.wrap ((p0l.length:Int) - 1))<=(p0l.length:Int)))).bind fun _=>((cO n) (p0l.take ((IntKind.i64.wrap ((p0l.length:Int) - 1)).toNat))).bind fun r18=>(kW r18 ([] :List Yq4) (x0.1,x0.2.1,x0.2.2.1,x0.2.2.2)).bind fun r19=>some r19) else (if x0.1==7 then ((chk (And (0<=(IntKind.i64.wrap ((p0l.length:Int) - 1))) ((IntKind.i64.wrap ((p0l.length:Int) - 1))<=(p0l.length:Int)))).bind fun _=>((cO n) (p0l.take ((IntKind.i64.wrap ((p0l.length:Int) - 1)).toNat))).bind fun r24=>(jK gl r24 x0.2.2.1 x0.2.2.2).bind fun r25=>some r25) else (some ([(x0.1,x0.2.1,x0.2.2.1,x0.2.2.2)])))))
def lz (p0e:Yq1):Option ((Yq1)×Bool):=
 (ke p0e).bind fun r1=>if r1 then ((dM gl p0e).bind fun r2=>if decide (r2>5000) then (some ([],false)) else ((cO gl p0e).bind fun r3=>if decide ((r3.length:Int)>400) then (some ([],false)) else (some (r3,true)))) else (some ([],false))
def iT (p1from:Int) (p2to:Int) (s2:Int×List Int):Option (Out PG (Int×List Int)):=
 if decide (s2.1<(s2.2.length:Int)) then (Option.bind (((chk (0<=s2.1)).bind fun _=>if (zi (tm p1from s2.1) 1)==1 then ((aQ s2.2 s2.1).bind fun x6=>(aQ s2.2 s2.1).bind fun x7=>some (s2.2.set s2.1.toNat (orI x6 p2to))) else (some s2.2):Option (List Int))) (fun s8=>some (.nxt (IntKind.i64.wrap (s2.1+1),s8)))) else (some (.brk (s2.1,s2.2)))
def nl (p0p:(List Int)×Int×Int×(List Int)×Bool) (p1from:Int) (p2to:Int):Option PG:=
 aP (ax (iT p1from p2to) aX (0,p0p.2.2.2.1)) (fun r9=>some r9) (fun s10=>some (p0p.1,p0p.2.1,p0p.2.2.1,s10.2,p0p.2.2.2.2))
def df:Nat->PG->Yq1->Option ((Bool×Int×Int)×(List Int)×Int×Int×(List Int)×Bool)
 | 0,_,_=>none
 | n+1,p0,p1 =>
  (aQ p1 (IntKind.i64.wrap ((p1.length:Int) - 1))).bind fun x0=>if x0.1==2 then (some ((true,0,0),p0.1,p0.2.1,p0.2.2.1,p0.2.2.2.1,p0.2.2.2.2)) else (if x0.1==3 then ((cz 8 p0.1 ([x0.2.1])).bind fun z2=>(cz 8 p0.2.2.2.1 ([0])).bind fun z3=>some ((false,IS 1 (p0.1.length:Int),IS 1 (p0.1.length:Int)),z2,p0.2.1,p0.2.2.1,z3,p0.2.2.2.2)) else (if x0.1==4 then ((chk (And (0<=(IntKind.i64.wrap ((p1.length:Int) - 1))) ((IntKind.i64.wrap ((p1.length:Int) - 1))<=(p1.length:Int)))).bind fun _=>(gR (p1.take ((IntKind.i64.wrap ((p1.length:Int) - 1)).toNat))).bind fun r5=>(chk (And (0<=r5) (r5<=(p1.length:Int)))).bind fun _=>((df n) (p0.1,p0.2.1,p0.2.2.1,p0.2.2.2.1,p0.2.2.2.2) (p1.take r5.toNat)).bind fun r7=>(chk (And (0<=r5) (And (r5<=(IntKind.i64.wrap ((p1.length:Int) - 1))) ((IntKind.i64.wrap ((p1.length:Int) - 1))<=(p1.length:Int))))).bind fun _=>((df n) (r7.2.1,r7.2.2.1,r7.2.2.2.1,r7.2.2.2.2.1,r7.2.2.2.2.2) ((p1.take ((IntKind.i64.wrap ((p1.length:Int) - 1)).toNat)).drop r5.toNat)).bind fun r9=>(nl (r9.2.1,r9.2.2.1,r9.2.2.2.1,r9.2.2.2.2.1,r9.2.2.2.2.2) r7.1.2.2 r9.1.2.1).bind fun r10=>if r7.1.1 then (Option.bind ((if r7.1.1 then (some (r9.1.1,orI r7.1.2.1 r9.1.2.1,r9.1.2.2)) else (some (r9.1.1,r7.1.2.1,r9.1.2.2)):Option (Bool×Int×Int))) (fun s11=>Option.bind ((if r9.1.1 then (some (s11.1,s11.2.1,orI r7.1.2.2 r9.1.2.2)) else (some (s11.1,s11.2.1,s11.2.2)):Option (Bool×Int×Int))) (fun s12=>some ((s12.1,s12.2.1,s12.2.2),r10.1,r10.2.1,r10.2.2.1,r10.2.2.2.1,r10.2.2.2.2)))) else (Option.bind ((if r7.1.1 then (some (false,orI r7.1.2.1 r9.1.2.1,r9.1.2.2)) else (some (false,r7.1.2.1,r9.1.2.2)):Option (Bool×Int×Int))) (fun s13=>Option.bind ((if r9.1.1 then (some (s13.1,s13.2.1,orI r7.1.2.2 r9.1.2.2)) else (some (s13.1,s13.2.1,s13.2.2)):Option (Bool×Int×Int))) (fun s14=>some ((s14.1,s14.2.1,s14.2.2),r10.1,r10.2.1,r10.2.2.1,r10.2.2.2.1,r10.2.2.2.2))))) else (if x0.1==5 then ((chk (And (0<=(IntKind.i64.wrap ((p1.length:Int) - 1))) ((IntKind.i64.wrap ((p1.length:Int) - 1))<=(p1.length:Int)))).bind fun _=>(gR (p1.take ((IntKind.i64.wrap ((p1.length:Int) - 1)).toNat))).bind fun r16=>(chk (And (0<=r16) (r16<=(p1.length:Int)))).bind fun _=>((df n) (p0.1,p0.2.1,p0.2.2.1,p0.2.2.2.1,p0.2.2.2.2) (p1.take r16.toNat)).bind fun r18=>(chk (And (0<=r16) (And (r16<=(IntKind.i64.wrap ((p1.length:Int) - 1))) ((IntKind.i64.wrap ((p1.length:Int) - 1))<=(p1.length:Int))))).bind fun _=>((df n) (r18.2.1,r18.2.2.1,r18.2.2.2.1,r18.2.2.2.2.1,r18.2.2.2.2.2) ((p1.take ((IntKind.i64.wrap ((p1.length:Int) - 1)).toNat)).drop r16.toNat)).bind fun r20=>if r18.1.1 then (some ((true,orI r18.1.2.1 r20.1.2.1,orI r18.1.2.2 r20.1.2.2),r20.2.1,r20.2.2.1,r20.2.2.2.1,r20.2.2.2.2.1,r20.2.2.2.2.2)) else (some ((r20.1.1,orI r18.1.2.1 r20.1.2.1,orI r18.1.2.2 r20.1.2.2),r20.2.1,r20.2.2.1,r20.2.2.2.1,r20.2.2.2.2.1,r20.2.2.2.2.2))) else (if x0.1==6 then ((chk (And (0<=(IntKind.i64.wrap ((p1.length:Int) - 1))) ((IntKind.i64.wrap ((p1.length:Int) - 1))<=(p1.length:Int)))).bind fun _=>((df n) (p0.1,p0.2.1,p0.2.2.1,p0.2.2.2.1,p0.2.2.2.2) (p1.take ((IntKind.i64.wrap ((p1.length:Int) - 1)).toNat))).bind fun r22=>(nl (r22.2.1,r22.2.2.1,r22.2.2.2.1,r22.2.2.2.2.1,r22.2.2.2.2.2) r22.1.2.2 r22.1.2.1).bind fun r23=>some ((true,r22.1.2.1,r22.1.2.2),r23.1,r23.2.1,r23.2.2.1,r23.2.2.2.1,r23.2.2.2.2)) else (some ((false,0,0),p0.1,p0.2.1,p0.2.2.1,p0.2.2.2.1,p0.2.2.2.2))))))
def dh (r0:Yq1×Bool) (s2:Int×Int):Option (Out (PG×Bool) (Int×Int)):=
 if decide (s2.2<(r0.1.length:Int)) then (Option.bind (((aQ r0.1 s2.2).bind fun x3=>if x3.1==3 then (some (IntKind.i64.wrap (s2.1+1))) else (some s2.1):Option Int)) (fun s4=>some (.nxt (s4,IntKind.i64.wrap (s2.2+1))))) else (some (.brk (s2.1,s2.2)))
def gG (p0e:List Yq4):Option (PG×Bool):=
 (lz p0e).bind fun r0=>if r0.2 then (aP (ax (dh r0) aX (0,0)) (fun r5=>some r5) (fun s6=>if decide (s6.1>20) then (some ((([] :List Int),0,0,([] :List Int),false),false)) else ((df gl (([] :List Int),0,0,([] :List Int),false) r0.1).bind fun r7=>some ((r7.2.1,r7.1.2.1,r7.1.2.2,r7.2.2.2.2.1,r7.1.1),true)))) else (some ((([] :List Int),0,0,([] :List Int),false),false))
def gS (p0p:(List Int)×Int×Int×(List Int)×Bool) (p1set:Int) (s6:Int×Int):Option yZ:=
 if decide (s6.2<(p0p.1.length:Int)) then (Option.bind (((chk (0<=IntKind.i64.wrap (s6.2+1))).bind fun _=>if (zi (tm p1set (IntKind.i64.wrap (s6.2+1))) 1)==1 then ((aQ p0p.2.2.2.1 s6.2).bind fun x6=>some (orI s6.1 x6)) else (some s6.1):Option Int)) (fun s8=>some (.nxt (s8,IntKind.i64.wrap (s6.2+1))))) else (some (.brk (s6.1,s6.2)))
def gT (p0p:(List Int)×Int×Int×(List Int)×Bool) (p2letter:Int) (s7:Int×Int) (s13:Int×Int):Option yZ:=
 if decide (s13.2<(p0p.1.length:Int)) then (Option.bind (((chk (0<=s13.2)).bind fun _=>if (zi (tm s7.1 s13.2) 1)==1 then ((aQ p0p.1 s13.2).bind fun x12=>if x12==p2letter then ((chk (0<=IntKind.i64.wrap (s13.2+1))).bind fun _=>some (orI s13.1 (IS 1 (IntKind.i64.wrap (s13.2+1))))) else (some s13.1)) else (some s13.1):Option Int)) (fun s15=>some (.nxt (s15,IntKind.i64.wrap (s13.2+1))))) else (some (.brk (s13.1,s13.2)))
def oi (p0p:(List Int)×Int×Int×(List Int)×Bool) (p1set:Int) (p2letter:Int):Option Int:=
 Option.bind ((if (zi p1set 1)==1 then (some p0p.2.1) else (some 0):Option Int)) (fun s1=>aP (ax (gS p0p p1set) aX (s1,0)) (fun r=>some r) (fun s7=>aP (ax (gT p0p p2letter s7) aX (0,0)) (fun r=>some r) (fun s14=>some s14.1)))
def oM (p0l:List Int) (p1x:Int) (s3:Int):Option (Out Int Int):=
 if decide (s3<(p0l.length:Int)) then ((aQ p0l s3).bind fun x3=>if x3==p1x then (some (.ret s3)) else (some (.nxt (IntKind.i64.wrap (s3+1))))) else (some (.brk s3))
def np (p0l:List Int) (p1x:Int):Option Int:=
 aP (ax (oM p0l p1x) aX 0) (fun r=>some r) (fun s4=>some (-1))
def lA (p0p:(List Int)×Int×Int×(List Int)×Bool) (p1set:Int):Option Bool:=
 if (zi p1set 1)==1 then (if p0p.2.2.2.2 then (some true) else (some ((zi (tm p1set 1) p0p.2.2.1) !=0))) else (some ((zi (tm p1set 1) p0p.2.2.1) !=0))
def fv (p0:(List Int)×Int×Int×(List Int)×Bool) (s17:(List Int)×Int×Int×(List Bool)×(List (List Int))) (s23:(List Int)×(List Int)×Int):Option (Out (Yq2×Bool) ((List Int)×(List Int)×Int)):=
 if decide (s23.2.2<9) then ((aQ s23.1 s17.2.1).bind fun x11=>(oi (p0.1,p0.2.1,p0.2.2.1,p0.2.2.2.1,p0.2.2.2.2) x11 s23.2.2).bind fun r27=>Option.bind ((if r27 !=0 then ((np s23.1 r27).bind fun r29=>if decide (r29<0) then ((cz 8 s23.1 ([r27])).bind fun z30=>some (z30,(s23.1.length:Int))) else (some (s23.1,r29))) else (some (s23.1,-1)):Option ((List Int)×Int))) (fun s25=>(cz 8 s23.2.1 ([s25.2])).bind fun z31=>some (.nxt (s25.1,z31,IntKind.i64.wrap (s23.2.2+1))))) else (some (.brk (s23.1,s23.2.1,s23.2.2)))
def fw (p0:(List Int)×Int×Int×(List Int)×Bool) (p1:Int) (s17:(List Int)×Int×Int×(List Bool)×(List (List Int))):Option (Out (Yq2×Bool) ((List Int)×Int×Int×(List Bool)×(List (List Int)))):=
 if decide (s17.2.1<(s17.1.length:Int)) then (aP (ax (fv p0 s17) aX (s17.1,([] :List Int),0)) (fun r=>some (.ret r)) (fun s24=>if decide ((s24.1.length:Int)>p1) then (some (.ret ((0,[],[]),false))) else ((aQ s24.1 s17.2.1).bind fun x12=>(lA (p0.1,p0.2.1,p0.2.2.1,p0.2.2.2.1,p0.2.2.2.2) x12).bind fun r30=>(cz 1 s17.2.2.2.1 ([r30])).bind fun z32=>(cz 24 s17.2.2.2.2 ([s24.2.1])).bind fun z33=>some (.nxt (s24.1,IntKind.i64.wrap (s17.2.1+1),s17.2.2.1,z32,z33))))) else (some (.brk (s17.1,s17.2.1,s17.2.2.1,s17.2.2.2.1,s17.2.2.2.2)))
def iU (p0:(List Int)×Int×Int×(List Int)×Bool) (p1:Int):Option (Yq2×Bool):=
 aP (ax (fw p0 p1) aX ([1],0,0,[],[])) (fun r=>some r) (fun s18=>some ((s18.2.2.1,s18.2.2.2.1,s18.2.2.2.2),true))
def wR (s3:(List Int)×Int):Option (Out Yq2 ((List Int)×Int)):=
 if decide (s3.2<9) then ((cz 8 s3.1 ([-1])).bind fun z3=>some (.nxt (z3,IntKind.i64.wrap (s3.2+1)))) else (some (.brk (s3.1,s3.2)))
def oN:Option Yq2:=
 aP (ax (wR) aX (([] :List Int),0)) (fun r=>some r) (fun s4=>some (0,[false],[s4.1]))
def gq (p0:Int×(List Bool)×(List (List Int))) (p1:List Int) (p2:List Bool) (s17:(List Int)×(List Int)×Int×Int×(List Bool)×(List (List Int))) (s23:(List Int)×(List Int)×(List Int)×Int):Option (Out Yq2 ((List Int)×(List Int)×(List Int)×Int)):=
 if decide (s23.2.2.2<9) then ((aQ s23.2.1 s17.2.2.1).bind fun x79=>(aQ p0.2.2 x79).bind fun x80=>(aQ x80 s23.2.2.2).bind fun x81=>Option.bind ((if decide (x81≥0) then ((aQ p2 x81).bind fun x85=>if x85 then ((aQ p1 x81).bind fun x86=>(np s23.1 x86).bind fun r28=>if decide (r28<0) then ((aQ p1 x81).bind fun x87=>(cz 8 s23.1 ([x87])).bind fun z47=>(cz 8 s23.2.1 ([x81])).bind fun z48=>some (z47,z48,(s23.1.length:Int))) else (some (s23.1,s23.2.1,r28))) else (some (s23.1,s23.2.1,-1))) else (some (s23.1,s23.2.1,-1)):Option ((List Int)×(List Int)×Int))) (fun s25=>(cz 8 s23.2.2.1 ([s25.2.2])).bind fun z49=>some (.nxt (s25.1,s25.2.1,z49,IntKind.i64.wrap (s23.2.2.2+1))))) else (some (.brk (s23.1,s23.2.1,s23.2.2.1,s23.2.2.2)))
def jf (p0:Int×(List Bool)×(List (List Int))) (p1:List Int) (p2:List Bool) (s17:(List Int)×(List Int)×Int×Int×(List Bool)×(List (List Int))):Option (Out Yq2 ((List Int)×(List Int)×Int×Int×(List Bool)×(List (List Int)))):=
 if decide (s17.2.2.1<(s17.1.length:Int)) then (aP (ax (gq p0 p1 p2 s17) aX (s17.1,s17.2.1,([] :List Int),0)) (fun r=>some (.ret r)) (fun s24=>(aQ s24.2.1 s17.2.2.1).bind fun x88=>(aQ p0.2.1 x88).bind fun x89=>(cz 1 s17.2.2.2.2.1 ([x89])).bind fun z50=>(cz 24 s17.2.2.2.2.2 ([s24.2.2.1])).bind fun z51=>some (.nxt (s24.1,s24.2.1,IntKind.i64.wrap (s17.2.2.1+1),s17.2.2.2.1,z50,z51)))) else (some (.brk (s17.1,s17.2.1,s17.2.2.1,s17.2.2.2.1,s17.2.2.2.2.1,s17.2.2.2.2.2)))
def ix (p0:Int×(List Bool)×(List (List Int))) (p1:List Int) (p2:List Bool):Option Yq2:=
 (aQ p2 p0.1).bind fun x1=>if x1 then ((aQ p1 p0.1).bind fun x2=>aP (ax (jf p0 p1 p2) aX ([x2],[p0.1],0,0,[],[])) (fun r=>some r) (fun s18=>some (s18.2.2.2.1,s18.2.2.2.2.1,s18.2.2.2.2.2))) else ((oN).bind fun r1=>some (r1.1,r1.2.1,r1.2.2))
def iV (p0a:Int×(List Bool)×(List (List Int))) (s71:(List Bool)×Int) (s77:(List Bool)×Int):Option (Out (List Bool) ((List Bool)×Int)):=
 if decide (s77.2<9) then (Option.bind (((aQ p0a.2.2 s71.2).bind fun x319=>(aQ x319 s77.2).bind fun x320=>if decide (x320≥0) then ((aQ p0a.2.2 s71.2).bind fun x321=>(aQ x321 s77.2).bind fun x322=>(aQ s77.1 x322).bind fun x323=>if x323 then ((aQ s77.1 s71.2).bind fun x324=>some (s77.1.set s71.2.toNat true)) else (some s77.1)) else (some s77.1):Option (List Bool))) (fun s79=>some (.nxt (s79,IntKind.i64.wrap (s77.2+1))))) else (some (.brk (s77.1,s77.2)))
def iW (p0a:Int×(List Bool)×(List (List Int))) (s71:(List Bool)×Int):Option (Out (List Bool) ((List Bool)×Int)):=
 if decide (s71.2<(p0a.2.1.length:Int)) then (aP (ax (iV p0a s71) aX (s71.1,0)) (fun r=>some (.ret r)) (fun s78=>some (.nxt (s78.1,IntKind.i64.wrap (s71.2+1))))) else (some (.brk (s71.1,s71.2)))
def lB (p0a:Int×(List Bool)×(List (List Int))) (s53:(List Bool)×Int):Option (Out (List Bool) ((List Bool)×Int)):=
 if decide (s53.2<(p0a.2.1.length:Int)) then (aP (ax (iW p0a) aX (s53.1,0)) (fun r=>some (.ret r)) (fun s72=>some (.nxt (s72.1,IntKind.i64.wrap (s53.2+1))))) else (some (.brk (s53.1,s53.2)))
def kX (p0a:Int×(List Bool)×(List (List Int))):Option (List Bool):=
 (cz 1 ([] :List Bool) p0a.2.1).bind fun z1=>aP (ax (lB p0a) aX (z1,0)) (fun r=>some r) (fun s54=>some s54.1)
def mE (p0a:Int×(List Bool)×(List (List Int))) (p1classes:List Int) (p2s:Int) (s5:(List Int)×Int):Option (Out (List Int) ((List Int)×Int)):=
 if decide (s5.2<9) then (Option.bind (((aQ p0a.2.2 p2s).bind fun x17=>(aQ x17 s5.2).bind fun x18=>if decide (x18<0) then ((cz 8 s5.1 ([-1])).bind fun z12=>some z12) else ((aQ p1classes x18).bind fun x19=>(cz 8 s5.1 ([x19])).bind fun z11=>some z11):Option (List Int))) (fun s7=>some (.nxt (s7,IntKind.i64.wrap (s5.2+1))))) else (some (.brk (s5.1,s5.2)))
def o7 (p0a:Int×(List Bool)×(List (List Int))) (p1classes:List Int) (p2s:Int):Option (List Int):=
 (aQ p1classes p2s).bind fun x1=>aP (ax (mE p0a p1classes p2s) aX ([x1],0)) (fun r=>some r) (fun s6=>some s6.1)
def fx (p0:Int×(List Bool)×List (List Int)) (r0:List Bool) (s2:(List Int)×Int):Option (Out (List Int) ((List Int)×Int)):=
 if decide (s2.2<(p0.2.1.length:Int)) then ((aQ p0.2.1 s2.2).bind fun x3=>Option.bind ((if x3 then (some 1) else (some 0):Option Int)) (fun s4=>(aQ r0 s2.2).bind fun x5=>Option.bind ((if x5 then (some s4) else (some (-1)):Option Int)) (fun s6=>(cz 8 s2.1 ([s6])).bind fun z7=>some (.nxt (z7,IntKind.i64.wrap (s2.2+1)))))) else (some (.brk (s2.1,s2.2)))
def fy (s13:(List (List Int))×(List Int)×Int) (r16:List Int) (s18:Int×Int):Option (Out (List Int) (Int×Int)):=
 if decide (s18.2<(s13.1.length:Int)) then (Option.bind (((aQ s13.1 s18.2).bind fun x19=>(nj x19 r16).bind fun r20=>if r20==0 then (some s18.2) else (some s18.1):Option Int)) (fun s21=>some (.nxt (s21,IntKind.i64.wrap (s18.2+1))))) else (some (.brk (s18.1,s18.2)))
def fA (p0:Int×(List Bool)×List (List Int)) (s11:(List Int)×Int) (s13:(List (List Int))×(List Int)×Int):Option (Out (List Int) ((List (List Int))×(List Int)×Int)):=
 if decide (s13.2.2<(p0.2.1.length:Int)) then (Option.bind (((aQ s11.1 s13.2.2).bind fun x14=>if decide (x14<0) then ((cz 8 s13.2.1 ([(-1)])).bind fun z15=>some (s13.1,z15)) else ((o7 (p0.1,p0.2.1,p0.2.2) s11.1 s13.2.2).bind fun r16=>aP (ax (fy s13 r16) aX ((-1),0)) (fun r22=>none) (fun s23=>Option.bind ((if decide (s23.1<0) then ((cz 24 s13.1 ([r16])).bind fun z24=>some (z24,(s13.1.length:Int))) else (some (s13.1,s23.1)):Option ((List (List Int))×Int))) (fun s25=>(cz 8 s13.2.1 ([s25.2])).bind fun z26=>some (s25.1,z26)))):Option ((List (List Int))×List Int))) (fun s27=>some (.nxt (s27.1,s27.2,IntKind.i64.wrap (s13.2.2+1))))) else (some (.brk (s13.1,s13.2.1,s13.2.2)))
def kY (p0:Int×(List Bool)×List (List Int)) (s11:(List Int)×Int):Option (Out (List Int) ((List Int)×Int)):=
 if decide (s11.2<=(p0.2.1.length:Int)) then (aP (ax (fA p0 s11) aX (([] :List (List Int)),([] :List Int),0)) (fun r28=>some (.ret r28)) (fun s29=>(nj s29.2.1 s11.1).bind fun r30=>if r30==0 then (some (.ret s11.1)) else (some (.nxt (s29.2.1,IntKind.i64.wrap (s11.2+1)))))) else (some (.brk (s11.1,s11.2)))
def iX (p0:Int×(List Bool)×List (List Int)):Option (List Int):=
 (kX (p0.1,p0.2.1,p0.2.2)).bind fun r0=>aP (ax (fx p0 r0) aX (([] :List Int),0)) (fun r8=>some r8) (fun s9=>aP (ax (kY p0) aX (s9.1,0)) (fun r31=>some r31) (fun s32=>some s32.1))
def gU (p0a:Int×(List Bool)×(List (List Int))):Option Yq2:=
 (iX (p0a.1,p0a.2.1,p0a.2.2)).bind fun r1=>(kX (p0a.1,p0a.2.1,p0a.2.2)).bind fun r2=>(ix (p0a.1,p0a.2.1,p0a.2.2) r1 r2).bind fun r3=>some (r3.1,r3.2.1,r3.2.2)
def gV (p0e:Yq1):Option (Yq2×Bool):=
 (gG p0e).bind fun r1=>if r1.2 then ((iU (r1.1.1,r1.1.2.1,r1.1.2.2.1,r1.1.2.2.2.1,r1.1.2.2.2.2) 200).bind fun r2=>if r2.2 then ((gU (r2.1.1,r2.1.2.1,r2.1.2.2)).bind fun r3=>if decide ((r3.2.1.length:Int)>12) then (some ((0,[],[]),false)) else (some ((r3.1,r3.2.1,r3.2.2),true))) else (some ((0,[],[]),false))) else (some ((0,[],[]),false))
def fg (p0:Int×(List Bool)×(List (List Int))) (p1:Int×(List Bool)×(List (List Int))) (s3:Int):Option (Out Bool Int):=
 if decide (s3<(p0.2.1.length:Int)) then ((aQ p0.2.1 s3).bind fun x5=>(aQ p1.2.1 s3).bind fun x6=>if x5 !=x6 then (some (.ret false)) else (some (.nxt (IntKind.i64.wrap (s3+1))))) else (some (.brk s3))
def fh (p0:Int×(List Bool)×(List (List Int))) (p1:Int×(List Bool)×(List (List Int))) (s7:Int):Option (Out Bool Int):=
 if decide (s7<(p0.2.2.length:Int)) then ((aQ p0.2.2 s7).bind fun x11=>(aQ p1.2.2 s7).bind fun x12=>(nj x11 x12).bind fun r9=>if r9 !=0 then (some (.ret false)) else (some (.nxt (IntKind.i64.wrap (s7+1))))) else (some (.brk s7))
def fB (p0:Int×(List Bool)×(List (List Int))) (p1:Int×(List Bool)×(List (List Int))):Option Bool:=
 if p0.1 !=p1.1 then (some false) else (if (p0.2.1.length:Int) !=(p1.2.1.length:Int) then (some false) else (if (p0.2.2.length:Int) !=(p1.2.2.length:Int) then (some false) else (aP (ax (fg p0 p1) aX 0) (fun r=>some r) (fun s4=>aP (ax (fh p0 p1) aX 0) (fun r=>some r) (fun s8=>some true)))))
def gW (p0l:List Yq2) (p1a:Int×(List Bool)×(List (List Int))) (s3:Int):Option (Out Int Int):=
 if decide (s3<(p0l.length:Int)) then ((aQ p0l s3).bind fun x3=>(fB (x3.1,x3.2.1,x3.2.2) (p1a.1,p1a.2.1,p1a.2.2)).bind fun r9=>if r9 then (some (.ret s3)) else (some (.nxt (IntKind.i64.wrap (s3+1))))) else (some (.brk s3))
def lY (p0l:List Yq2) (p1a:Int×(List Bool)×(List (List Int))):Option Int:=
 aP (ax (gW p0l p1a) aX 0) (fun r=>some r) (fun s4=>some (-1))
def di (p0:List Yq9) (s7:Int×(List Yq2)×Yq3):Option (Out (Yq8×Bool) PH):=
 if decide (s7.1<(p0.length:Int)) then ((aQ p0 s7.1).bind fun x17=>(gV x17.2.1).bind fun r20=>if r20.2 then ((aQ p0 s7.1).bind fun x18=>(cH x18.1 1 99).bind fun r21=>if r21 then (if decide (s7.1>0) then ((aQ p0 (IntKind.i64.wrap (s7.1 - 1))).bind fun x21=>(aQ p0 s7.1).bind fun x22=>if decide (x21.1≥x22.1) then (some (.ret (([],[]),false))) else ((lY s7.2.1 (r20.1.1,r20.1.2.1,r20.1.2.2)).bind fun r25=>Option.bind ((if decide (r25<0) then ((cz 56 s7.2.1 ([(r20.1.1,r20.1.2.1,r20.1.2.2)])).bind fun z17=>some ((s7.2.1.length:Int),z17,s7.2.2)) else (some (r25,s7.2.1,s7.2.2)):Option PH)) (fun s10=>(aQ p0 s7.1).bind fun x23=>(aQ p0 s7.1).bind fun x24=>(gz x24.2.1).bind fun r27=>(cz 40 s10.2.2 ([(x23.1,r27,s10.1)])).bind fun z18=>some (.nxt (IntKind.i64.wrap (s7.1+1),s10.2.1,z18))))) else ((lY s7.2.1 (r20.1.1,r20.1.2.1,r20.1.2.2)).bind fun r22=>Option.bind ((if decide (r22<0) then ((cz 56 s7.2.1 ([(r20.1.1,r20.1.2.1,r20.1.2.2)])).bind fun z14=>some ((s7.2.1.length:Int),z14,s7.2.2)) else (some (r22,s7.2.1,s7.2.2)):Option PH)) (fun s9=>(aQ p0 s7.1).bind fun x19=>(aQ p0 s7.1).bind fun x20=>(gz x20.2.1).bind fun r24=>(cz 40 s9.2.2 ([(x19.1,r24,s9.1)])).bind fun z15=>some (.nxt (IntKind.i64.wrap (s7.1+1),s9.2.1,z15))))) else (some (.ret (([],[]),false)))) else (some (.ret (([],[]),false)))) else (some (.brk (s7.1,s7.2.1,s7.2.2)))
def oj (p0:List Yq9):Option (Yq8×Bool):=
 if decide ((p0.length:Int)>4) then (some (([],[]),false)) else (aP (ax (di p0) aX (0,[],[])) (fun r=>some r) (fun s8=>some ((s8.2.1,s8.2.2),true)))
def iy (p0a:Yq1) (p1b:Yq1) (s3:Int):Option (Out Bool Int):=
 if decide (s3<(p0a.length:Int)) then ((aQ p0a s3).bind fun x5=>(aQ p1b s3).bind fun x6=>if (x5.1==x6.1)&&((x5.2.1==x6.2.1)&&((x5.2.2.1==x6.2.2.1)&&((x5.2.2.2==x6.2.2.2)&&true))) then (some (.nxt (IntKind.i64.wrap (s3+1)))) else (some (.ret false))) else (some (.brk s3))
def lC (p0a:Yq1) (p1b:Yq1):Option Bool:=
 if (p0a.length:Int) !=(p1b.length:Int) then (some false) else (aP (ax (iy p0a p1b) aX 0) (fun r=>some r) (fun s4=>some true))
def dX (p0:(List Yq2)×Yq3) (p1:(List Yq2)×Yq3) (s3:Int):Option (Out Bool Int):=
 if decide (s3<(p0.1.length:Int)) then ((aQ p0.1 s3).bind fun x5=>(aQ p1.1 s3).bind fun x6=>(fB (x5.1,x5.2.1,x5.2.2) (x6.1,x6.2.1,x6.2.2)).bind fun r15=>if r15 then (some (.nxt (IntKind.i64.wrap (s3+1)))) else (some (.ret false))) else (some (.brk s3))
def dY (p0:(List Yq2)×Yq3) (p1:(List Yq2)×Yq3) (s7:Int):Option (Out Bool Int):=
 if decide (s7<(p0.2.length:Int)) then ((aQ p0.2 s7).bind fun x19=>(aQ p1.2 s7).bind fun x20=>if x19.1 !=x20.1 then (some (.ret false)) else ((aQ p0.2 s7).bind fun x21=>(aQ p1.2 s7).bind fun x22=>(lC x21.2.1 x22.2.1).bind fun r24=>if r24 then ((aQ p0.2 s7).bind fun x23=>(aQ p1.2 s7).bind fun x24=>if x23.2.2 !=x24.2.2 then (some (.ret false)) else (some (.nxt (IntKind.i64.wrap (s7+1))))) else (some (.ret false)))) else (some (.brk s7))
def fR (p0:(List Yq2)×Yq3) (p1:(List Yq2)×Yq3):Option Bool:=
 if (p0.1.length:Int) !=(p1.1.length:Int) then (some false) else (if (p0.2.length:Int) !=(p1.2.length:Int) then (some false) else (aP (ax (dX p0 p1) aX 0) (fun r=>some r) (fun s4=>aP (ax (dY p0 p1) aX 0) (fun r=>some r) (fun s8=>some true))))
def fS (p0r:(List Yq2)×Yq3):Option Bool:=
 (oj p0r.2).bind fun r1=>if r1.2 then ((fR (r1.1.1,r1.1.2) (p0r.1,p0r.2)).bind fun r2=>some r2) else (some false)
def cA (p0h:Int×Yq5):Option Int:=
 (m_s_IsValidHistory (p0h.1,p0h.2)).bind fun r1=>if r1 then (some (IntKind.i64.wrap ((IntKind.i64.wrap (p0h.1+(p0h.2.length:Int))) - 1))) else (some 0)
def eF (p0r:(List Yq2)×Yq3) (p1id:Int) (s3:Int):Option (Out Int Int):=
 if decide (s3<(p0r.2.length:Int)) then ((aQ p0r.2 s3).bind fun x3=>if x3.1==p1id then (some (.ret s3)) else (some (.nxt (IntKind.i64.wrap (s3+1))))) else (some (.brk s3))
def iz (p0r:(List Yq2)×Yq3) (p1id:Int):Option Int:=
 aP (ax (eF p0r p1id) aX 0) (fun r=>some r) (fun s4=>some (-1))
def cN (p0e:(Int×Yq5)×Yq8×(List Yq7)×ByteArray) (s3:Int):Option (Out Bool Int):=
 if decide (s3<(p0e.2.2.1.length:Int)) then ((aQ p0e.2.2.1 s3).bind fun x5=>(cH x5.1 1 99).bind fun r15=>if r15 then (if decide (s3>0) then ((aQ p0e.2.2.1 (IntKind.i64.wrap (s3 - 1))).bind fun x6=>if decide (x6.1≥x5.1) then (some (.ret false)) else ((iz (p0e.2.1.1,p0e.2.1.2) x5.2.1).bind fun r19=>if decide (r19<0) then (some (.ret false)) else ((cA (p0e.1.1,p0e.1.2)).bind fun r20=>(cH x5.2.2 0 r20).bind fun r21=>if r21 then (some (.nxt (IntKind.i64.wrap (s3+1)))) else (some (.ret false))))) else ((iz (p0e.2.1.1,p0e.2.1.2) x5.2.1).bind fun r16=>if decide (r16<0) then (some (.ret false)) else ((cA (p0e.1.1,p0e.1.2)).bind fun r17=>(cH x5.2.2 0 r17).bind fun r18=>if r18 then (some (.nxt (IntKind.i64.wrap (s3+1)))) else (some (.ret false))))) else (some (.ret false))) else (some (.brk s3))
def uk (p0e:(Int×Yq5)×Yq8×(List Yq7)×ByteArray):Option Bool:=
 aP (ax (cN p0e) aX 0) (fun r=>some r) (fun s4=>some (decide ((p0e.2.2.1.length:Int)<=4)))
def dw (s1:Int×ByteArray):Option (Out ByteArray (Int×ByteArray)):=
 if s1.1 !=0 then (Option.bind ((if decide ((Int.tmod s1.1 10)<0) then (some (IntKind.i64.wrap (-(Int.tmod s1.1 10)))) else (some (Int.tmod s1.1 10)):Option Int)) (fun s2=>(mg (xz ([IntKind.u8.wrap (IntKind.i64.wrap (48+s2))])) s1.2).bind fun z3=>some (.nxt (PK s1.1 10,z3)))) else (some (.brk (s1.1,s1.2)))
def b7 (p0n:Int):Option ByteArray:=
 if p0n==0 then (some (⟨#[48]⟩)) else (aP (ax (dw) aX (p0n,(⟨#[]⟩:ByteArray))) (fun r4=>some r4) (fun s5=>if decide (p0n<0) then ((mg (⟨#[45]⟩) s5.2).bind fun z6=>some z6) else (some s5.2)))
def eG (p0n:Int):Option ByteArray:=
 (lX p0n).bind fun r1=>if r1 then ((aQ ([(⟨#[97]⟩:ByteArray),(⟨#[97,45]⟩:ByteArray),(⟨#[98]⟩:ByteArray),(⟨#[98,45]⟩:ByteArray),(⟨#[99]⟩:ByteArray),(⟨#[99,45]⟩:ByteArray),(⟨#[48]⟩:ByteArray),(⟨#[49]⟩:ByteArray),(⟨#[50]⟩:ByteArray)]) p0n).bind fun x1=>some x1) else (some (⟨#[]⟩:ByteArray))
def iY (p0e:Int×Int×Int×Int):Option ByteArray:=
 (cH p0e.1 1 99).bind fun r0=>if r0 then ((cH p0e.2.1 0 4).bind fun r1=>if r1 then ((cH p0e.2.2.1 0 4).bind fun r2=>if r2 then ((cH p0e.2.2.2 0 2).bind fun r3=>if r3 then ((b7 p0e.1).bind fun r12=>(mg r12 (⟨#[58]⟩)).bind fun z13=>(b7 p0e.2.1).bind fun r14=>(mg z13 r14).bind fun z15=>(eG (IntKind.i64.wrap (2*p0e.2.2.2))).bind fun r16=>(mg z15 r16).bind fun z17=>(b7 p0e.2.2.1).bind fun r18=>(mg z17 r18).bind fun z19=>some z19) else (some ((⟨#[]⟩:ByteArray)))) else (some ((⟨#[]⟩:ByteArray)))) else (some ((⟨#[]⟩:ByteArray)))) else (some ((⟨#[]⟩:ByteArray)))
def eL (p0b:List Yq6) (s1:ByteArray×Int):Option (Out ByteArray (ByteArray×Int)):=
 if decide (s1.2<(p0b.length:Int)) then (Ha (S:=ByteArray) ((aQ p0b s1.2).bind fun x2=>(iY (x2.2.1,x2.2.2.1,x2.2.2.2.1,x2.2.2.2.2)).bind fun r3=>if r3==((⟨#[]⟩:ByteArray)) then (some (.inl (.ret ((⟨#[]⟩:ByteArray))))) else (Option.bind ((if decide (s1.2>0) then ((mg s1.1 (⟨#[32]⟩)).bind fun z4=>some z4) else (some s1.1):Option ByteArray)) (fun s5=>(aQ p0b s1.2).bind fun x6=>if x6.1 then ((mg s5 (⟨#[43]⟩)).bind fun z7=>(mg z7 r3).bind fun z8=>some (.inr z8)) else ((mg s5 (⟨#[45]⟩)).bind fun z9=>(mg z9 r3).bind fun z10=>some (.inr z10))))) (fun s11=>some (.nxt (s11,IntKind.i64.wrap (s1.2+1))))) else (some (.brk (s1.1,s1.2)))
def cP (p0b:List Yq6):Option ByteArray:=
 if decide ((p0b.length:Int)>6) then (some ((⟨#[]⟩:ByteArray))) else (aP (ax (eL p0b) aX ((⟨#[]⟩:ByteArray),0)) (fun r12=>some r12) (fun s13=>some s13.1))
def fC (p0s:ByteArray) (s1:Int×Int):Option yZ:=
 if decide (s1.2<((p0s.size:Nat):Int)) then ((jG p0s s1.2).bind fun z2=>some (.nxt (Int.tmod (IntKind.i64.wrap ((IntKind.i64.wrap ((IntKind.i64.wrap (s1.1*257))+(IntKind.i64.wrap z2)))+1)) 9973,IntKind.i64.wrap (s1.2+1)))) else (some (.brk (s1.1,s1.2)))
def fI (p0s:ByteArray):Option Int:=
 aP (ax (fC p0s) aX (1,0)) (fun r3=>some r3) (fun s4=>some s4.1)
def eH (p0version:Int) (p1b:List Yq6):Option ByteArray:=
 (cH p0version 1 999).bind fun r0=>if r0 then (if decide ((p1b.length:Int)>0) then ((cP p1b).bind fun r1=>if r1==((⟨#[]⟩:ByteArray)) then (some ((⟨#[]⟩:ByteArray))) else ((b7 p0version).bind fun r7=>(mg r7 (⟨#[59]⟩)).bind fun z8=>(cP p1b).bind fun r9=>(mg z8 r9).bind fun z10=>(mg z10 (⟨#[59]⟩)).bind fun z11=>(fI z11).bind fun r12=>(b7 r12).bind fun r13=>(mg z11 r13).bind fun z14=>(mg z14 (⟨#[10]⟩)).bind fun z15=>some z15)) else ((b7 p0version).bind fun r21=>(mg r21 (⟨#[59]⟩)).bind fun z22=>(cP p1b).bind fun r23=>(mg z22 r23).bind fun z24=>(mg z24 (⟨#[59]⟩)).bind fun z25=>(fI z25).bind fun r26=>(b7 r26).bind fun r27=>(mg z25 r27).bind fun z28=>(mg z28 (⟨#[10]⟩)).bind fun z29=>some z29)) else (some ((⟨#[]⟩:ByteArray)))
def om (p0s:ByteArray) (p1sep:Int) (s1:(List ByteArray)×Int×Int):Option (Out (List ByteArray) ((List ByteArray)×Int×Int)):=
 if decide (s1.2.2<((p0s.size:Nat):Int)) then (Option.bind (((jG p0s s1.2.2).bind fun z2=>if z2==p1sep then ((qY p0s s1.2.1 s1.2.2).bind fun z3=>(cz 16 s1.1 ([z3])).bind fun z4=>some (z4,IntKind.i64.wrap (s1.2.2+1))) else (some (s1.1,s1.2.1)):Option ((List ByteArray)×Int))) (fun s5=>some (.nxt (s5.1,s5.2,IntKind.i64.wrap (s1.2.2+1))))) else (some (.brk (s1.1,s1.2.1,s1.2.2)))
def gX (p0s:ByteArray) (p1sep:Int):Option (List ByteArray):=
 aP (ax (om p0s p1sep) aX (([] :List ByteArray),0,0)) (fun r6=>some r6) (fun s7=>(qY p0s s7.2.1 ((p0s.size:Nat):Int)).bind fun z8=>(cz 16 s7.1 ([z8])).bind fun z9=>some z9)
def gY (p0s:ByteArray) (s1:Int×Int×Int):Option (Out (Int×Bool) Yq7):=
 if decide (s1.2.2<((p0s.size:Nat):Int)) then (if decide (s1.2.2<11) then (Option.bind (((jG p0s s1.2.2).bind fun z2=>if decide (z2≥48) then ((jG p0s s1.2.2).bind fun z3=>if decide (z3<=57) then ((jG p0s s1.2.2).bind fun z4=>some (IntKind.i64.wrap ((IntKind.i64.wrap (s1.1*10))+(IntKind.i64.wrap (IntKind.u8.wrap (z4 - 48)))),IntKind.i64.wrap (s1.2.1+1))) else (some (s1.1,s1.2.1))) else (some (s1.1,s1.2.1)):Option (Int×Int))) (fun s5=>some (.nxt (s5.1,s5.2,IntKind.i64.wrap (s1.2.2+1))))) else (some (.brk (s1.1,s1.2.1,s1.2.2)))) else (some (.brk (s1.1,s1.2.1,s1.2.2)))
def fJ (p0s:ByteArray):Option (Int×Bool):=
 aP (ax (gY p0s) aX (0,0,0)) (fun r6=>some r6) (fun s7=>if decide (((p0s.size:Nat):Int)>0) then ((jG p0s 0).bind fun z8=>Option.bind ((if z8==45 then (some (IntKind.i64.wrap (-s7.1))) else (some s7.1):Option Int)) (fun s9=>if decide (s7.2.1>9) then (some (0,false)) else (if decide (((p0s.size:Nat):Int)>10) then (some (0,false)) else ((b7 s9).bind fun r10=>if r10 !=p0s then (some (0,false)) else (some (s9,true)))))) else (if decide (s7.2.1>9) then (some (0,false)) else (if decide (((p0s.size:Nat):Int)>10) then (some (0,false)) else ((b7 s7.1).bind fun r11=>if r11 !=p0s then (some (0,false)) else (some (s7.1,true))))))
def kg (p0s:ByteArray) (s3:Int):Option (Out (Int×Bool) Int):=
 if decide (s3<9) then ((eG s3).bind fun r3=>if r3==p0s then (some (.ret (s3,true))) else (some (.nxt (IntKind.i64.wrap (s3+1))))) else (some (.brk s3))
def fD (p0s:ByteArray):Option (Int×Bool):=
 aP (ax (kg p0s) aX 0) (fun r=>some r) (fun s4=>some (0,false))
def fT (p0s:ByteArray):Option (Yq4×Bool):=
 (gX p0s 58).bind fun r0=>if (r0.length:Int) !=2 then (some ((0,0,0,0),false)) else ((aQ r0 1).bind fun x1=>if ((x1.size:Nat):Int) !=3 then (some ((0,0,0,0),false)) else ((aQ r0 0).bind fun x2=>(fJ x2).bind fun r3=>(aQ r0 1).bind fun x4=>(qY x4 1 2).bind fun z5=>(fD z5).bind fun r6=>(aQ r0 1).bind fun x11=>(jG x11 0).bind fun z12=>(aQ r0 1).bind fun x13=>(jG x13 2).bind fun z14=>(iY (r3.1,IntKind.i64.wrap ((IntKind.i64.wrap z12) - 48),IntKind.i64.wrap ((IntKind.i64.wrap z14) - 48),PK r6.1 2)).bind fun r15=>if r15 !=p0s then (some ((0,0,0,0),false)) else (some ((r3.1,IntKind.i64.wrap ((IntKind.i64.wrap z12) - 48),IntKind.i64.wrap ((IntKind.i64.wrap z14) - 48),PK r6.1 2),true))))
def cB (r0:List ByteArray) (s3:Int×List Yq6):Option (Out ((List Yq6)×Bool) (Int×List Yq6)):=
 if decide (s3.1<(r0.length:Int)) then (if decide (s3.1<=6) then ((aQ r0 s3.1).bind fun x4=>if decide (((x4.size:Nat):Int)<2) then (some (.ret (([] :List Yq6),false))) else ((aQ r0 s3.1).bind fun x5=>(qY x5 1 ((x5.size:Nat):Int)).bind fun z6=>(fT z6).bind fun r7=>if r7.2 then ((aQ r0 s3.1).bind fun x11=>(jG x11 0).bind fun z12=>(cz 40 s3.2 ([(z12==43,r7.1.1,r7.1.2.1,r7.1.2.2.1,r7.1.2.2.2)])).bind fun z13=>some (.nxt (IntKind.i64.wrap (s3.1+1),z13))) else (some (.ret (([] :List Yq6),false))))) else (some (.brk (s3.1,s3.2)))) else (some (.brk (s3.1,s3.2)))
def dH (p0s:ByteArray):Option ((List Yq6)×Bool):=
 if p0s==((⟨#[]⟩:ByteArray)) then (some (([] :List Yq6),true)) else ((gX p0s 32).bind fun r0=>aP (ax (cB r0) aX (0,([] :List Yq6))) (fun r14=>some r14) (fun s15=>(cP s15.2).bind fun r16=>if r16 !=p0s then (some (([] :List Yq6),false)) else (some (s15.2,true))))
def jg (p0s:ByteArray):Option (Int×((List (Bool×Yq4)))×Bool):=
 (gX p0s 59).bind fun r1=>if (r1.length:Int) !=3 then (some (0,[],false)) else ((aQ r1 0).bind fun x1=>(fJ x1).bind fun r2=>(aQ r1 1).bind fun x2=>(dH x2).bind fun r3=>if r2.2 then (if r3.2 then ((eH r2.1 r3.1).bind fun r4=>if r4 !=p0s then (some (0,[],false)) else (some (r2.1,r3.1,true))) else (some (0,[],false))) else (some (0,[],false)))
def bA (p0:ByteArray) (s1:(List Int)×(List (List Yq6))×Int×Int):Option (Out ((List Int)×(List (List Yq6))×Int) ((List Int)×(List (List Yq6))×Int×Int)):=
 if decide (s1.2.2.2<((p0.size:Nat):Int)) then (if decide (((p0.size:Nat):Int)<=4000) then (Ha (S:=(List Int)×(List (List Yq6))×Int) ((jG p0 s1.2.2.2).bind fun z2=>if z2 !=10 then (some (.inr (s1.1,s1.2.1,s1.2.2.1))) else ((qY p0 s1.2.2.1 (IntKind.i64.wrap (s1.2.2.2+1))).bind fun z3=>(jg z3).bind fun r4=>if r4.2.2 then (if decide ((s1.1.length:Int)>0) then ((aQ s1.1 (IntKind.i64.wrap ((s1.1.length:Int) - 1))).bind fun x5=>if r4.1 !=(IntKind.i64.wrap (x5+1)) then (some (.inl (.ret (s1.1,s1.2.1,s1.2.2.1)))) else ((cz 8 s1.1 ([r4.1])).bind fun z6=>(cz 24 s1.2.1 ([r4.2.1])).bind fun z7=>some (.inr (z6,z7,IntKind.i64.wrap (s1.2.2.2+1))))) else ((cz 8 s1.1 ([r4.1])).bind fun z8=>(cz 24 s1.2.1 ([r4.2.1])).bind fun z9=>some (.inr (z8,z9,IntKind.i64.wrap (s1.2.2.2+1))))) else (some (.inl (.ret (s1.1,s1.2.1,s1.2.2.1)))))) (fun s10=>some (.nxt (s10.1,s10.2.1,s10.2.2,IntKind.i64.wrap (s1.2.2.2+1))))) else (some (.brk (s1.1,s1.2.1,s1.2.2.1,s1.2.2.2)))) else (some (.brk (s1.1,s1.2.1,s1.2.2.1,s1.2.2.2)))
def m_s_ScanLog (p0:ByteArray):Option ((List Int)×(List (List Yq6))×Int):=
 aP (ax (bA p0) aX (([] :List Int),([] :List (List Yq6)),0,0)) (fun r11=>some r11) (fun s12=>some (s12.1,s12.2.1,s12.2.2.1))
def wS (p0e:(Int×Yq5)×Yq8×(List Yq7)×ByteArray):Option Bool:=
 (m_s_ScanLog p0e.2.2.2).bind fun r1=>if r1.2.2==(p0e.2.2.2.size:Int) then (if decide ((p0e.2.2.2.size:Int)<=4000) then (if (r1.1.length:Int)==0 then (some true) else ((aQ r1.1 (IntKind.i64.wrap ((r1.1.length:Int) - 1))).bind fun x1=>(cA (p0e.1.1,p0e.1.2)).bind fun r2=>some (x1==r2))) else (some false)) else (some false)
def iA (p0e:(Int×Yq5)×Yq8×(List Yq7)×ByteArray):Option Bool:=
 (m_s_IsValidHistory (p0e.1.1,p0e.1.2)).bind fun r1=>if r1 then ((fS (p0e.2.1.1,p0e.2.1.2)).bind fun r2=>if r2 then ((uk ((p0e.1.1,p0e.1.2),(p0e.2.1.1,p0e.2.1.2),p0e.2.2.1,p0e.2.2.2)).bind fun r3=>if r3 then ((wS ((p0e.1.1,p0e.1.2),(p0e.2.1.1,p0e.2.1.2),p0e.2.2.1,p0e.2.2.2)).bind fun r4=>some r4) else (some false)) else (some false)) else (some false)
def mF (p0a:List Int) (s3:(List Int)×Int):Option (Out (List Int) ((List Int)×Int)):=
 if decide (s3.2<(p0a.length:Int)) then ((aQ p0a s3.2).bind fun x6=>(aQ s3.1 s3.2).bind fun x7=>some (.nxt (s3.1.set s3.2.toNat x6,IntKind.i64.wrap (s3.2+1)))) else (some (.brk (s3.1,s3.2)))
def o8 (p0a:List Int):Option (List Int):=
 (mkI 8 (p0a.length:Int) (0:Int)).bind fun x1=>aP (ax (mF p0a) aX (x1,0)) (fun r=>some r) (fun s4=>some s4.1)
def sK (p0a:Int×Int×Int×Int):Option Yq4:=
 some (p0a.1,p0a.2.1,p0a.2.2.1,p0a.2.2.2)
def lD (p0a:List Yq4) (s3:Yq1×Int):Option (Out Yq1 (Yq1×Int)):=
 if decide (s3.2<(p0a.length:Int)) then ((aQ p0a s3.2).bind fun x6=>(sK (x6.1,x6.2.1,x6.2.2.1,x6.2.2.2)).bind fun r3=>(aQ s3.1 s3.2).bind fun x7=>some (.nxt (s3.1.set s3.2.toNat (r3.1,r3.2.1,r3.2.2.1,r3.2.2.2),IntKind.i64.wrap (s3.2+1)))) else (some (.brk (s3.1,s3.2)))
def pU (p0a:List Yq4):Option Yq1:=
 (mkI 32 (p0a.length:Int) ((0,0,0,0):Int×Int×Int×Int)).bind fun x1=>aP (ax (lD p0a) aX (x1,0)) (fun r=>some r) (fun s4=>some s4.1)
def pV (p0a:(List Int)×Yq1):Option EI:=
 (o8 p0a.1).bind fun r1=>(pU p0a.2).bind fun r2=>some (r1,r2)
def kh (p0a:List EI) (s3:Yq5×Int):Option (Out Yq5 (Yq5×Int)):=
 if decide (s3.2<(p0a.length:Int)) then ((aQ p0a s3.2).bind fun x6=>(pV (x6.1,x6.2)).bind fun r9=>(aQ s3.1 s3.2).bind fun x7=>some (.nxt (s3.1.set s3.2.toNat (r9.1,r9.2),IntKind.i64.wrap (s3.2+1)))) else (some (.brk (s3.1,s3.2)))
def oo (p0a:List EI):Option Yq5:=
 (mkI 48 (p0a.length:Int) (([],[]):(List Int)×Yq1)).bind fun x1=>aP (ax (kh p0a) aX (x1,0)) (fun r=>some r) (fun s4=>some s4.1)
def mG (p0a:Int×Yq5):Option (Int×Yq5):=
 (oo p0a.2).bind fun r1=>some (p0a.1,r1)
def lE (p0a:List Bool) (s3:(List Bool)×Int):Option (Out (List Bool) ((List Bool)×Int)):=
 if decide (s3.2<(p0a.length:Int)) then ((aQ p0a s3.2).bind fun x6=>(aQ s3.1 s3.2).bind fun x7=>some (.nxt (s3.1.set s3.2.toNat x6,IntKind.i64.wrap (s3.2+1)))) else (some (.brk (s3.1,s3.2)))
def pW (p0a:List Bool):Option (List Bool):=
 (mkI 1 (p0a.length:Int) (false:Bool)).bind fun x1=>aP (ax (lE p0a) aX (x1,0)) (fun r=>some r) (fun s4=>some s4.1)
def lF (p0a:List (List Int)) (s3:(List (List Int))×Int):Option (Out (List (List Int)) ((List (List Int))×Int)):=
 if decide (s3.2<(p0a.length:Int)) then ((aQ p0a s3.2).bind fun x6=>(o8 x6).bind fun r6=>(aQ s3.1 s3.2).bind fun x7=>some (.nxt (s3.1.set s3.2.toNat r6,IntKind.i64.wrap (s3.2+1)))) else (some (.brk (s3.1,s3.2)))
def pX (p0a:List (List Int)):Option (List (List Int)):=
 (mkI 24 (p0a.length:Int) ([] :List Int)).bind fun x1=>aP (ax (lF p0a) aX (x1,0)) (fun r=>some r) (fun s4=>some s4.1)
def kj (p0a:Int×(List Bool)×(List (List Int))):Option Yq2:=
 (pW p0a.2.1).bind fun r1=>(pX p0a.2.2).bind fun r2=>some (p0a.1,r1,r2)
def fU (p0a:List Yq2) (s3:(List Yq2)×Int):Option (Out (List Yq2) ((List Yq2)×Int)):=
 if decide (s3.2<(p0a.length:Int)) then ((aQ p0a s3.2).bind fun x6=>(kj (x6.1,x6.2.1,x6.2.2)).bind fun r9=>(aQ s3.1 s3.2).bind fun x7=>some (.nxt (s3.1.set s3.2.toNat (r9.1,r9.2.1,r9.2.2),IntKind.i64.wrap (s3.2+1)))) else (some (.brk (s3.1,s3.2)))
def jh (p0a:List Yq2):Option (List Yq2):=
 (mkI 56 (p0a.length:Int) ((0,[],[]):Int×(List Bool)×(List (List Int)))).bind fun x1=>aP (ax (fU p0a) aX (x1,0)) (fun r=>some r) (fun s4=>some s4.1)
def pY (p0a:Int×Int×Int×Int):Option Yq4:=
 some (p0a.1,p0a.2.1,p0a.2.2.1,p0a.2.2.2)
def kl (p0a:List Yq4) (s3:Yq1×Int):Option (Out Yq1 (Yq1×Int)):=
 if decide (s3.2<(p0a.length:Int)) then ((aQ p0a s3.2).bind fun x6=>(pY (x6.1,x6.2.1,x6.2.2.1,x6.2.2.2)).bind fun r3=>(aQ s3.1 s3.2).bind fun x7=>some (.nxt (s3.1.set s3.2.toNat (r3.1,r3.2.1,r3.2.2.1,r3.2.2.2),IntKind.i64.wrap (s3.2+1)))) else (some (.brk (s3.1,s3.2)))
def oq (p0a:List Yq4):Option Yq1:=
 (mkI 32 (p0a.length:Int) ((0,0,0,0):Int×Int×Int×Int)).bind fun x1=>aP (ax (kl p0a) aX (x1,0)) (fun r=>some r) (fun s4=>some s4.1)
def sL (p0a:Yq1):Option Yq1:=
 (oq p0a).bind fun r1=>some r1
def ji (p0a:Int×(Yq1)×Int):Option Yq9:=
 (sL p0a.2.1).bind fun r1=>some (p0a.1,r1,p0a.2.2)
def fj (p0a:List Yq9) (s3:Yq3×Int):Option (Out Yq3 (Yq3×Int)):=
 if decide (s3.2<(p0a.length:Int)) then ((aQ p0a s3.2).bind fun x6=>(ji (x6.1,x6.2.1,x6.2.2)).bind fun r6=>(aQ s3.1 s3.2).bind fun x7=>some (.nxt (s3.1.set s3.2.toNat (r6.1,r6.2.1,r6.2.2),IntKind.i64.wrap (s3.2+1)))) else (some (.brk (s3.1,s3.2)))
def iB (p0a:List Yq9):Option Yq3:=
 (mkI 40 (p0a.length:Int) ((0,[],0):Int×(Yq1)×Int)).bind fun x1=>aP (ax (fj p0a) aX (x1,0)) (fun r=>some r) (fun s4=>some s4.1)
def lG (p0a:(List Yq2)×Yq3):Option Yq8:=
 (jh p0a.1).bind fun r1=>(iB p0a.2).bind fun r2=>some (r1,r2)
def jj (p0a:Int×Int×Int):Option Yq7:=
 some (p0a.1,p0a.2.1,p0a.2.2)
def fl (p0a:List Yq7) (s3:(List Yq7)×Int):Option (Out (List Yq7) ((List Yq7)×Int)):=
 if decide (s3.2<(p0a.length:Int)) then ((aQ p0a s3.2).bind fun x6=>(jj (x6.1,x6.2.1,x6.2.2)).bind fun r3=>(aQ s3.1 s3.2).bind fun x7=>some (.nxt (s3.1.set s3.2.toNat (r3.1,r3.2.1,r3.2.2),IntKind.i64.wrap (s3.2+1)))) else (some (.brk (s3.1,s3.2)))
def iC (p0a:List Yq7):Option (List Yq7):=
 (mkI 24 (p0a.length:Int) ((0,0,0):Int×Int×Int)).bind fun x1=>aP (ax (fl p0a) aX (x1,0)) (fun r=>some r) (fun s4=>some s4.1)
def gZ (p0a:(Int×Yq5)×Yq8×(List Yq7)×ByteArray):Option Wl:=
 (mG (p0a.1.1,p0a.1.2)).bind fun r1=>(lG (p0a.2.1.1,p0a.2.1.2)).bind fun r2=>(iC p0a.2.2.1).bind fun r3=>some ((r1.1,r1.2),(r2.1,r2.2),r3,p0a.2.2.2)
def bX (p0n:Int) (p1a:Int) (p2b:Int):Option Bool:=
 if decide (p0n≥p1a) then (some (decide (p0n<=p2b))) else (some false)
def jL (p0e:Int×Int×Int×Int) (p1nodes:Int):Option Bool:=
 (bX p0e.1 1 99).bind fun r1=>if r1 then ((bX p0e.2.1 0 (IntKind.i64.wrap (p1nodes - 1))).bind fun r2=>if r2 then ((bX p0e.2.2.1 0 (IntKind.i64.wrap (p1nodes - 1))).bind fun r3=>if r3 then ((bX p0e.2.2.2 0 2).bind fun r4=>some r4) else (some false)) else (some false)) else (some false)
def dN (p0g:(List Int)×Yq1) (s3:Int):Option (Out Bool Int):=
 if decide (s3<(p0g.1.length:Int)) then ((aQ p0g.1 s3).bind fun x3=>(bX x3 0 2).bind fun r3=>if r3 then (some (.nxt (IntKind.i64.wrap (s3+1)))) else (some (.ret false))) else (some (.brk s3))
def c8 (p0g:(List Int)×Yq1) (s7:Int):Option (Out Bool Int):=
 if decide (s7<(p0g.2.length:Int)) then ((aQ p0g.2 s7).bind fun x8=>(jL (x8.1,x8.2.1,x8.2.2.1,x8.2.2.2) (p0g.1.length:Int)).bind fun r6=>if r6 then (if decide (s7>0) then ((aQ p0g.2 (IntKind.i64.wrap (s7 - 1))).bind fun x9=>if decide (x9.1≥x8.1) then (some (.ret false)) else (some (.nxt (IntKind.i64.wrap (s7+1))))) else (some (.nxt (IntKind.i64.wrap (s7+1))))) else (some (.ret false))) else (some (.brk s7))
def cw (p0g:(List Int)×Yq1):Option Bool:=
 aP (ax (dN p0g) aX 0) (fun r=>some r) (fun s4=>aP (ax (c8 p0g) aX 0) (fun r=>some r) (fun s8=>(bX (p0g.1.length:Int) 1 5).bind fun r7=>if r7 then (some (decide ((p0g.2.length:Int)<=12))) else (some false)))
def cx (p0s1:List Int) (p1s2:List Int) (s3:Int):Option (Out Bool Int):=
 if decide (s3<(p0s1.length:Int)) then ((aQ p0s1 s3).bind fun x5=>(aQ p1s2 s3).bind fun x6=>if x5 !=x6 then (some (.ret false)) else (some (.nxt (IntKind.i64.wrap (s3+1))))) else (some (.brk s3))
def b9 (p0s1:List Int) (p1s2:List Int):Option Bool:=
 if (p0s1.length:Int) !=(p1s2.length:Int) then (some false) else (aP (ax (cx p0s1 p1s2) aX 0) (fun r=>some r) (fun s4=>some true))
def eM (p0h:Int×Yq5) (s3:Int):Option (Out Bool Int):=
 if decide (s3<(p0h.2.length:Int)) then ((aQ p0h.2 s3).bind fun x5=>(cw (x5.1,x5.2)).bind fun r15=>if r15 then ((aQ p0h.2 0).bind fun x6=>(b9 x5.1 x6.1).bind fun r17=>if r17 then (some (.nxt (IntKind.i64.wrap (s3+1)))) else (some (.ret false))) else (some (.ret false))) else (some (.brk s3))
def m_i_IsValidHistory (p0h:Int×Yq5):Option Bool:=
 (bX (p0h.2.length:Int) 1 8).bind fun r1=>if r1 then ((bX p0h.1 1 (IntKind.i64.wrap ((IntKind.i64.wrap (999 - (p0h.2.length:Int)))+1))).bind fun r2=>if r2 then (aP (ax (eM p0h) aX 0) (fun r=>some r) (fun s4=>some true)) else (some false)) else (some false)
def jM (p0n:Int):Option Bool:=
 (bX p0n 0 8).bind fun r1=>some r1
def pZ (p0t:Int×Int×Int×Int):Option Bool:=
 if p0t.1==3 then ((jM p0t.2.1).bind fun r3=>if r3 then (if p0t.2.2.1==0 then (some (p0t.2.2.2==0)) else (some false)) else (some false)) else (if p0t.1==7 then (if p0t.2.1==0 then ((bX p0t.2.2.1 0 p0t.2.2.2).bind fun r1=>if r1 then ((bX p0t.2.2.2 1 3).bind fun r2=>some r2) else (some false)) else (some false)) else (Option.bind ((if p0t.1==1 then (some (p0t.1==1)) else (if p0t.1==2 then (some (p0t.1==2)) else (if p0t.1==4 then (some (p0t.1==4)) else (if p0t.1==5 then (some (p0t.1==5)) else (some (p0t.1==6))))):Option Bool)) (fun s1=>if s1 then (some ((p0t.1==p0t.1)&&((p0t.2.1==0)&&((p0t.2.2.1==0)&&((p0t.2.2.2==0)&&true))))) else (some false))))
def p7 (p0e:List Yq4) (s1:(List (Tr Yq4))×Int):Option (Out (Tr Yq4) ((List (Tr Yq4))×Int)):=
 if decide (s1.2<(p0e.length:Int)) then ((aQ p0e s1.2).bind fun x2=>Option.bind ((Option.bind ((if x2.1==4 then (some (x2.1==4)) else (some (x2.1==5)):Option Bool)) (fun s3=>if s3 then (some 2) else (Option.bind ((if x2.1==6 then (some (x2.1==6)) else (some (x2.1==7)):Option Bool)) (fun s4=>if s4 then (some 1) else (some 0)))):Option Int)) (fun s5=>(pZ (x2.1,x2.2.1,x2.2.2.1,x2.2.2.2)).bind fun r6=>if r6 then (if decide ((IntKind.i64.wrap ((s1.1.length:Int) - s5))<0) then (some (.ret Tr.nil)) else ((chk (And (0<=(IntKind.i64.wrap ((s1.1.length:Int) - s5))) ((IntKind.i64.wrap ((s1.1.length:Int) - s5))<=(s1.1.length:Int)))).bind fun _=>(cz 8 ([] :List (Tr Yq4)) (s1.1.drop ((IntKind.i64.wrap ((s1.1.length:Int) - s5)).toNat))).bind fun z10=>(chk (And (0<=(IntKind.i64.wrap ((s1.1.length:Int) - s5))) ((IntKind.i64.wrap ((s1.1.length:Int) - s5))<=(s1.1.length:Int)))).bind fun _=>(cz 8 (s1.1.take ((IntKind.i64.wrap ((s1.1.length:Int) - s5)).toNat)) ([Tr.node (x2.1,x2.2.1,x2.2.2.1,x2.2.2.2) z10])).bind fun z12=>some (.nxt (z12,IntKind.i64.wrap (s1.2+1))))) else (some (.ret Tr.nil)))) else (some (.brk (s1.1,s1.2)))
def mU (p0e:List Yq4):Option (Tr Yq4):=
 aP (ax (p7 p0e) aX (([] :List (Tr Yq4)),0)) (fun r13=>some r13) (fun s14=>if (s14.1.length:Int) !=1 then (some Tr.nil) else ((aQ s14.1 0).bind fun x15=>some x15))
def sM (p0e:List Yq4):Option Bool:=
 (mU p0e).bind fun r0=>some (cond.match_1 (fun (u4:Bool)=>Bool) (Tr.isNil r0) (fun (u5:Unit)=>false) (fun (u6:Unit)=>true))
def km (p0e:Yq1):Option Bool:=
 if decide ((p0e.length:Int)<=24) then ((sM p0e).bind fun r1=>some r1) else (some false)
def bK (mrec:(Tr Yq4)->Option Int) (p0x:Tr Yq4) (z1:Yq4×List (Tr Yq4)) (s3:Int×Int):Option yZ:=
 if decide (s3.2<(z1.2.length:Int)) then (Option.bind (((aQ z1.2 s3.2).bind fun x4=>(Tr.get p0x).bind fun z5=>(Tr.get p0x).bind fun z6=>if z6.1.1==7 then ((mrec x4).bind fun r10=>(Tr.get p0x).bind fun z11=>(Tr.get p0x).bind fun z12=>some (IntKind.i64.wrap (s3.1+(IntKind.i64.wrap ((IntKind.i64.wrap (r10+3))*z12.1.2.2.2))))) else ((mrec x4).bind fun r13=>some (IntKind.i64.wrap (s3.1+r13))):Option Int)) (fun s14=>some (.nxt (s14,IntKind.i64.wrap (s3.2+1))))) else (some (.brk (s3.1,s3.2)))
def bS:Nat->(Tr Yq4)->Option Int
 | 0,_=>none
 | n+1,p0x =>
  (Tr.get p0x).bind fun z0=>(Tr.get p0x).bind fun z1=>aP (ax (bK (bS n) p0x z1) aX (1,0)) (fun r15=>some r15) (fun s16=>some (Min.min s16.1 100000))
def DN (p0kind:Int):Option (Tr Yq4):=
 some (Tr.node (p0kind,0,0,0) ([] :List (Tr Yq4)))
def jN:Nat->(Tr Yq4)->Int->Int->Option (Tr Yq4)
 | 0,_,_,_=>none
 | n+1,p0x,p1low,p2high =>
  if p2high==0 then ((DN 2).bind fun r0=>some r0) else (((jN n) p0x (Max.max 0 (IntKind.i64.wrap (p1low - 1))) (IntKind.i64.wrap (p2high - 1))).bind fun r1=>if decide (p1low>0) then (some (Tr.node (4,0,0,0) ([p0x,r1]))) else ((DN 2).bind fun r2=>some (Tr.node (5,0,0,0) ([Tr.node (4,0,0,0) ([p0x,r1]),r2]))))
def bt (mrec:(Tr Yq4)->Option (Tr Yq4)) (z23:Yq4×List (Tr Yq4)) (s26:Int×Int×Int×Int×Int×List (Tr Yq4)):Option (Out (Tr Yq4) (Int×Int×Int×Int×Int×List (Tr Yq4))):=
 if decide (s26.1<(z23.2.length:Int)) then ((aQ z23.2 s26.1).bind fun x27=>(mrec x27).bind fun r30=>(cz 8 s26.2.2.2.2.2 ([r30])).bind fun z31=>some (.nxt (IntKind.i64.wrap (s26.1+1),s26.2.1,s26.2.2.1,s26.2.2.2.1,s26.2.2.2.2.1,z31))) else (some (.brk (s26.1,s26.2.1,s26.2.2.1,s26.2.2.2.1,s26.2.2.2.2.1,s26.2.2.2.2.2)))
def bD:Nat->(Tr Yq4)->Option (Tr Yq4)
 | 0,_=>none
 | n+1,p0x =>
  (Tr.get p0x).bind fun z0=>(Tr.get p0x).bind fun z1=>if z1.1.1==7 then ((Tr.get p0x).bind fun z11=>(Tr.get p0x).bind fun z12=>(aQ z12.2 0).bind fun x13=>((bD n) x13).bind fun r14=>(Tr.get p0x).bind fun z15=>(Tr.get p0x).bind fun z16=>(Tr.get p0x).bind fun z17=>(Tr.get p0x).bind fun z18=>(jN gl r14 z16.1.2.2.1 z18.1.2.2.2).bind fun r19=>some r19) else ((Tr.get p0x).bind fun z20=>(Tr.get p0x).bind fun z21=>(Tr.get p0x).bind fun z22=>(Tr.get p0x).bind fun z23=>aP (ax (bt (bD n) z23) aX (0,z21.1.1,z21.1.2.1,z21.1.2.2.1,z21.1.2.2.2,([] :List (Tr Yq4)))) (fun r32=>some r32) (fun s33=>some (Tr.node (s33.2.1,s33.2.2.1,s33.2.2.2.1,s33.2.2.2.2.1) s33.2.2.2.2.2)))
def be (mrec:(Tr Yq4)->Yq1->Option Yq1) (z1:Yq4×List (Tr Yq4)) (s4:Int×List Yq4):Option (Out Yq1 (Int×List Yq4)):=
 if decide (s4.1<(z1.2.length:Int)) then ((aQ z1.2 s4.1).bind fun x5=>(mrec x5 s4.2).bind fun r6=>some (.nxt (IntKind.i64.wrap (s4.1+1),r6))) else (some (.brk (s4.1,s4.2)))
def bB:Nat->(Tr Yq4)->Yq1->Option Yq1 
 | 0,_,_=>none
 | n+1,p0x,p1out =>
  (Tr.get p0x).bind fun z0=>(Tr.get p0x).bind fun z1=>aP (ax (be (bB n) z1) aX (0,p1out)) (fun r7=>some r7) (fun s8=>(Tr.get p0x).bind fun z12=>(Tr.get p0x).bind fun z13=>(cz 32 s8.2 ([(z13.1.1,z13.1.2.1,z13.1.2.2.1,z13.1.2.2.2)])).bind fun z14=>some z14)
def p8 (p0x:Tr Yq4):Option Yq1:=
 (bB gl p0x ([] :List Yq4)).bind fun r0=>some r0
def lH (p0e:List Yq4):Option (Yq1×Bool):=
 (km p0e).bind fun r0=>if r0 then ((mU p0e).bind fun r1=>(bS gl r1).bind fun r2=>if decide (r2>5000) then (some (([] :List Yq4),false)) else ((bD gl r1).bind fun r3=>(p8 r3).bind fun r4=>if decide ((r4.length:Int)>400) then (some (([] :List Yq4),false)) else (some (r4,true)))) else (some (([] :List Yq4),false))
def cQ (p0p:(List Int)×Int×Int×(List Int)×Bool) (p1last:Int) (p2first:Int) (s2:Int×List Int):Option (Out PG (Int×List Int)):=
 if decide (s2.1<(p0p.2.2.2.1.length:Int)) then (Option.bind (((chk (0<=s2.1)).bind fun _=>if (zi (tm p1last s2.1) 1)==1 then ((aQ s2.2 s2.1).bind fun x4=>(aQ s2.2 s2.1).bind fun x5=>some (s2.2.set s2.1.toNat (orI x4 p2first))) else (some s2.2):Option (List Int))) (fun s6=>some (.nxt (IntKind.i64.wrap (s2.1+1),s6)))) else (some (.brk (s2.1,s2.2)))
def dz (p0p:(List Int)×Int×Int×(List Int)×Bool) (p1last:Int) (p2first:Int):Option PG:=
 aP (ax (cQ p0p p1last p2first) aX (0,p0p.2.2.2.1)) (fun r7=>some r7) (fun s8=>some (p0p.1,p0p.2.1,p0p.2.2.1,s8.2,p0p.2.2.2.2))
def bE:Nat->PG->(Tr Yq4)->Option ((Int×Int×Bool)×(List Int)×Int×Int×(List Int)×Bool)
 | 0,_,_=>none
 | n+1,p0,p1 =>
  (Tr.get p1).bind fun z0=>(Tr.get p1).bind fun z1=>if z1.1.1==2 then (some ((0,0,true),p0.1,p0.2.1,p0.2.2.1,p0.2.2.2.1,p0.2.2.2.2)) else (if z1.1.1==3 then ((Tr.get p1).bind fun z5=>(Tr.get p1).bind fun z6=>(cz 8 p0.1 ([z6.1.2.1])).bind fun z7=>(cz 8 p0.2.2.2.1 ([0])).bind fun z8=>some ((IS 1 (p0.1.length:Int),IS 1 (p0.1.length:Int),false),z7,p0.2.1,p0.2.2.1,z8,p0.2.2.2.2)) else (if z1.1.1==5 then ((Tr.get p1).bind fun z17=>(Tr.get p1).bind fun z18=>(aQ z18.2 0).bind fun x19=>((bE n) (p0.1,p0.2.1,p0.2.2.1,p0.2.2.2.1,p0.2.2.2.2) x19).bind fun r20=>(Tr.get p1).bind fun z21=>(Tr.get p1).bind fun z22=>(aQ z22.2 1).bind fun x23=>((bE n) r20.2 x23).bind fun r24=>if r20.1.2.2 then (some ((orI r20.1.1 r24.1.1,orI r20.1.2.1 r24.1.2.1,true),r24.2.1,r24.2.2.1,r24.2.2.2.1,r24.2.2.2.2.1,r24.2.2.2.2.2)) else (some ((orI r20.1.1 r24.1.1,orI r20.1.2.1 r24.1.2.1,r24.1.2.2),r24.2.1,r24.2.2.1,r24.2.2.2.1,r24.2.2.2.2.1,r24.2.2.2.2.2))) else (if z1.1.1==4 then ((Tr.get p1).bind fun z33=>(Tr.get p1).bind fun z34=>(aQ z34.2 0).bind fun x35=>((bE n) (p0.1,p0.2.1,p0.2.2.1,p0.2.2.2.1,p0.2.2.2.2) x35).bind fun r36=>(Tr.get p1).bind fun z37=>(Tr.get p1).bind fun z38=>(aQ z38.2 1).bind fun x39=>((bE n) r36.2 x39).bind fun r40=>(dz (r40.2.1,r40.2.2.1,r40.2.2.2.1,r40.2.2.2.2.1,r40.2.2.2.2.2) r36.1.2.1 r40.1.1).bind fun r41=>if r36.1.2.2 then (Option.bind ((if r36.1.2.2 then (some (orI r36.1.1 r40.1.1,r40.1.2.1,r40.1.2.2)) else (some (r36.1.1,r40.1.2.1,r40.1.2.2)):Option (Int×Int×Bool))) (fun s42=>Option.bind ((if r40.1.2.2 then (some (s42.1,orI s42.2.1 r36.1.2.1,s42.2.2)) else (some (s42.1,s42.2.1,s42.2.2)):Option (Int×Int×Bool))) (fun s43=>some ((s43.1,s43.2.1,s43.2.2),r41.1,r41.2.1,r41.2.2.1,r41.2.2.2.1,r41.2.2.2.2)))) else (Option.bind ((if r36.1.2.2 then (some (orI r36.1.1 r40.1.1,r40.1.2.1,false)) else (some (r36.1.1,r40.1.2.1,false)):Option (Int×Int×Bool))) (fun s44=>Option.bind ((if r40.1.2.2 then (some (s44.1,orI s44.2.1 r36.1.2.1,s44.2.2)) else (some (s44.1,s44.2.1,s44.2.2)):Option (Int×Int×Bool))) (fun s45=>some ((s45.1,s45.2.1,s45.2.2),r41.1,r41.2.1,r41.2.2.1,r41.2.2.2.1,r41.2.2.2.2))))) else (if z1.1.1==6 then ((Tr.get p1).bind fun z46=>(Tr.get p1).bind fun z47=>(aQ z47.2 0).bind fun x48=>((bE n) (p0.1,p0.2.1,p0.2.2.1,p0.2.2.2.1,p0.2.2.2.2) x48).bind fun r49=>(dz (r49.2.1,r49.2.2.1,r49.2.2.2.1,r49.2.2.2.2.1,r49.2.2.2.2.2) r49.1.2.1 r49.1.1).bind fun r50=>some ((r49.1.1,r49.1.2.1,true),r50.1,r50.2.1,r50.2.2.1,r50.2.2.2.1,r50.2.2.2.2)) else (some ((0,0,false),p0.1,p0.2.1,p0.2.2.1,p0.2.2.2.1,p0.2.2.2.2))))))
def dj (r0:Yq1×Bool) (s2:Int×Int):Option (Out (PG×Bool) (Int×Int)):=
 if decide (s2.2<(r0.1.length:Int)) then (Option.bind (((aQ r0.1 s2.2).bind fun x3=>if x3.1==3 then (some (IntKind.i64.wrap (s2.1+1))) else (some s2.1):Option Int)) (fun s4=>some (.nxt (s4,IntKind.i64.wrap (s2.2+1))))) else (some (.brk (s2.1,s2.2)))
def gH (p0e:List Yq4):Option (PG×Bool):=
 (lH p0e).bind fun r0=>if r0.2 then (aP (ax (dj r0) aX (0,0)) (fun r5=>some r5) (fun s6=>if decide (s6.1>20) then (some ((([] :List Int),0,0,([] :List Int),false),false)) else ((mU r0.1).bind fun r7=>(bE gl (([] :List Int),0,0,([] :List Int),false) r7).bind fun r8=>some ((r8.2.1,r8.1.1,r8.1.2.1,r8.2.2.2.2.1,r8.1.2.2),true)))) else (some ((([] :List Int),0,0,([] :List Int),false),false))
def dO (p3:Int->Int->Option (Int×Bool)) (s29:(List Int)×(List (Int×Int))×Int×Int×(List Bool)×(List (List Int))) (s39:(List Int)×(List (Int×Int))×(List Int)×Int):Option (Out (Yq2×Bool) ((List Int)×(List (Int×Int))×(List Int)×Int)):=
 if decide (s39.2.2.2<9) then (Option.bind (((aQ s39.1 s29.2.2.1).bind fun x20=>(p3 x20 s39.2.2.2).bind fun r20=>if r20.2 then ((chk (iOk r20.1=true)).bind fun _=>Option.bind ((if (lkM s39.2.1 r20.1).isSome then (some (s39.1,s39.2.1,(lkM s39.2.1 r20.1).getD 0)) else ((Mc s39.2.1 iOk iOk r20.1 (s39.1.length:Int)).bind fun m37=>(cz 8 s39.1 ([r20.1])).bind fun z75=>some (z75,m37,(s39.1.length:Int))):Option ((List Int)×(List (Int×Int))×Int))) (fun s43=>(cz 8 s39.2.2.1 ([s43.2.2])).bind fun z76=>some (s43.1,s43.2.1,z76))) else ((cz 8 s39.2.2.1 ([-1])).bind fun z73=>some (s39.1,s39.2.1,z73)):Option ((List Int)×(List (Int×Int))×(List Int)))) (fun s42=>some (.nxt (s42.1,s42.2.1,s42.2.2,IntKind.i64.wrap (s39.2.2.2+1))))) else (some (.brk (s39.1,s39.2.1,s39.2.2.1,s39.2.2.2)))
def bY (p1:Int) (p2:Int->Option Bool) (p3:Int->Int->Option (Int×Bool)) (s29:(List Int)×(List (Int×Int))×Int×Int×(List Bool)×(List (List Int))):Option (Out (Yq2×Bool) ((List Int)×(List (Int×Int))×Int×Int×(List Bool)×(List (List Int)))):=
 if decide (s29.2.2.1<(s29.1.length:Int)) then (aP (ax (dO p3 s29) aX (s29.1,s29.2.1,([] :List Int),0)) (fun r=>some (.ret r)) (fun s40=>if decide ((s40.1.length:Int)>p1) then (some (.ret ((0,[],[]),false))) else ((aQ s40.1 s29.2.2.1).bind fun x21=>(p2 x21).bind fun r21=>(cz 1 s29.2.2.2.2.1 ([r21])).bind fun z77=>(cz 24 s29.2.2.2.2.2 ([s40.2.2.1])).bind fun z78=>some (.nxt (s40.1,s40.2.1,IntKind.i64.wrap (s29.2.2.1+1),s29.2.2.2.1,z77,z78))))) else (some (.brk (s29.1,s29.2.1,s29.2.2.1,s29.2.2.2.1,s29.2.2.2.2.1,s29.2.2.2.2.2)))
def eI (p0:Int) (p1:Int) (p2:Int->Option Bool) (p3:Int->Int->Option (Int×Bool)):Option (Yq2×Bool):=
 (Mc ([] :List (Int×Int)) iOk iOk p0 0).bind fun m1=>aP (ax (bY p1 p2 p3) aX ([p0],m1,0,0,[],[])) (fun r=>some r) (fun s30=>some ((s30.2.2.2.1,s30.2.2.2.2.1,s30.2.2.2.2.2),true))
def dk (p0p:(List Int)×Int×Int×(List Int)×Bool) (p1set:Int):Option Bool:=
 if (zi p1set 1)==1 then (if p0p.2.2.2.2 then (some true) else (some ((zi (tm p1set 1) p0p.2.2.1) !=0))) else (some ((zi (tm p1set 1) p0p.2.2.1) !=0))
def cX (p0p:(List Int)×Int×Int×(List Int)×Bool) (p1set:Int) (s6:Int×Int):Option yZ:=
 if decide (s6.2<(p0p.2.2.2.1.length:Int)) then (Option.bind (((aQ p0p.2.2.2.1 s6.2).bind fun x6=>(chk (0<=IntKind.i64.wrap (s6.2+1))).bind fun _=>if (zi (tm p1set (IntKind.i64.wrap (s6.2+1))) 1)==1 then (some (orI s6.1 x6)) else (some s6.1):Option Int)) (fun s8=>some (.nxt (s8,IntKind.i64.wrap (s6.2+1))))) else (some (.brk (s6.1,s6.2)))
def cY (p0p:(List Int)×Int×Int×(List Int)×Bool) (p2letter:Int) (s7:Int×Int) (s13:Int×Int):Option yZ:=
 if decide (s13.2<(p0p.1.length:Int)) then (Option.bind (((aQ p0p.1 s13.2).bind fun x12=>if x12==p2letter then ((chk (0<=s13.2)).bind fun _=>if (zi (tm s7.1 s13.2) 1)==1 then ((chk (0<=IntKind.i64.wrap (s13.2+1))).bind fun _=>some (orI s13.1 (IS 1 (IntKind.i64.wrap (s13.2+1))))) else (some s13.1)) else (some s13.1):Option Int)) (fun s15=>some (.nxt (s15,IntKind.i64.wrap (s13.2+1))))) else (some (.brk (s13.1,s13.2)))
def fV (p0p:(List Int)×Int×Int×(List Int)×Bool) (p1set:Int) (p2letter:Int):Option Int:=
 Option.bind ((if (zi p1set 1)==1 then (some p0p.2.1) else (some 0):Option Int)) (fun s1=>aP (ax (cX p0p p1set) aX (s1,0)) (fun r=>some r) (fun s7=>aP (ax (cY p0p p2letter s7) aX (0,0)) (fun r=>some r) (fun s14=>some s14.1)))
def da (p0set:Int) (p1letter:Int) (q0:(List Int)×Int×Int×(List Int)×Bool):Option (Int×Bool):=
 (fV (q0.1,q0.2.1,q0.2.2.1,q0.2.2.2.1,q0.2.2.2.2) p0set p1letter).bind fun r1=>some (r1,r1 !=0)
def hH (p0p:(List Int)×Int×Int×(List Int)×Bool) (p1most:Int):Option (Yq2×Bool):=
 (eI 1 p1most (fun a0=>dk (p0p.1,p0p.2.1,p0p.2.2.1,p0p.2.2.2.1,p0p.2.2.2.2) a0) (fun a0 a1=>da a0 a1 (p0p.1,p0p.2.1,p0p.2.2.1,p0p.2.2.2.1,p0p.2.2.2.2))).bind fun r1=>some ((r1.1.1,r1.1.2.1,r1.1.2.2),r1.2)
def dm (s5:Bool×Int×List Bool) (x6:List Int) (s8:Bool×Int×List Bool):Option (Out (List Bool) (Bool×Int×List Bool)):=
 if decide (s8.2.1<(x6.length:Int)) then (Option.bind (((aQ x6 s8.2.1).bind fun x9=>if decide (x9≥0) then ((aQ s8.2.2 x9).bind fun x10=>if x10 then ((aQ s8.2.2 s5.2.1).bind fun x11=>if x11 then (some (s8.1,s8.2.2)) else ((aQ s8.2.2 s5.2.1).bind fun x12=>some (true,s8.2.2.set s5.2.1.toNat true))) else (some (s8.1,s8.2.2))) else (some (s8.1,s8.2.2)):Option (Bool×List Bool))) (fun s13=>some (.nxt (s13.1,IntKind.i64.wrap (s8.2.1+1),s13.2)))) else (some (.brk (s8.1,s8.2.1,s8.2.2)))
def dn (p0a:Int×(List Bool)×List (List Int)) (s5:Bool×Int×List Bool):Option (Out (List Bool) (Bool×Int×List Bool)):=
 if decide (s5.2.1<(p0a.2.2.length:Int)) then ((aQ p0a.2.2 s5.2.1).bind fun x6=>aP (ax (dm s5 x6) aX (s5.1,0,s5.2.2)) (fun r14=>some (.ret r14)) (fun s15=>some (.nxt (s15.1,IntKind.i64.wrap (s5.2.1+1),s15.2.2)))) else (some (.brk (s5.1,s5.2.1,s5.2.2)))
def hO (p0a:Int×(List Bool)×List (List Int)) (s3:Bool×List Bool):Option (Out (List Bool) (Bool×List Bool)):=
 if s3.1 then (aP (ax (dn p0a) aX (false,0,s3.2)) (fun r16=>some (.ret r16)) (fun s17=>some (.nxt (s17.1,s17.2.2)))) else (some (.brk (s3.1,s3.2)))
def eN (p0a:Int×(List Bool)×List (List Int)):Option (List Bool):=
 (cz 1 ([] :List Bool) p0a.2.1).bind fun z0=>aP (ax (hO p0a) aX (true,z0)) (fun r18=>some r18) (fun s19=>some s19.2)
def cf (p0s:List (List Int)) (p1f:(List Int)->Option Bool) (s3:Int):Option (Out Int Int):=
 if decide (s3<(p0s.length:Int)) then ((aQ p0s s3).bind fun x3=>(p1f x3).bind fun r6=>if r6 then (some (.ret s3)) else (some (.nxt (IntKind.i64.wrap (s3+1))))) else (some (.brk s3))
def bU (p0s:List (List Int)) (p1f:(List Int)->Option Bool):Option Int:=
 aP (ax (cf p0s p1f) aX 0) (fun r=>some r) (fun s4=>some (-1))
def gD (p0x:List Int) (q0:List Int):Option Bool:=
 (b9 p0x q0).bind fun r1=>some r1
def cR (p1:List Int) (x57:List Int) (s52:Int×(List Int)):Option (Out ((List Int)×Int) (Int×(List Int))):=
 if decide (s52.1<(x57.length:Int)) then ((aQ x57 s52.1).bind fun x64=>Option.bind ((if decide (x64≥0) then ((aQ p1 x64).bind fun x66=>some x66) else (some x64):Option Int)) (fun s54=>(cz 8 s52.2 ([s54])).bind fun z38=>some (.nxt (IntKind.i64.wrap (s52.1+1),z38)))) else (some (.brk (s52.1,s52.2)))
def dD (p0:Int×(List Bool)×(List (List Int))) (p1:List Int) (s37:(List (List Int))×(List Int)×Int):Option (Out ((List Int)×Int) ((List (List Int))×(List Int)×Int)):=
 if decide (s37.2.2<(p1.length:Int)) then (Option.bind (((aQ p1 s37.2.2).bind fun x56=>if decide (x56<0) then ((cz 8 s37.2.1 ([-1])).bind fun z42=>some (s37.1,z42)) else ((aQ p0.2.2 s37.2.2).bind fun x57=>aP (ax (cR p1 x57) aX (0,[x56])) (fun _=>none) (fun s53=>(bU s37.1 (fun a0=>gD a0 s53.2)).bind fun r12=>Option.bind ((if decide (r12<0) then ((cz 24 s37.1 ([s53.2])).bind fun z40=>some (z40,(s37.1.length:Int))) else (some (s37.1,r12)):Option ((List (List Int))×Int))) (fun s55=>(cz 8 s37.2.1 ([s55.2])).bind fun z41=>some (s55.1,z41)))):Option ((List (List Int))×(List Int)))) (fun s47=>some (.nxt (s47.1,s47.2,IntKind.i64.wrap (s37.2.2+1))))) else (some (.brk (s37.1,s37.2.1,s37.2.2)))
def dA (p0:Int×(List Bool)×(List (List Int))) (p1:List Int):Option ((List Int)×Int):=
 aP (ax (dD p0 p1) aX (([] :List (List Int)),([] :List Int),0)) (fun r=>some r) (fun s38=>some (s38.2.1,(s38.1.length:Int)))
def cC (p0a:Int×(List Bool)×(List (List Int))) (r1:List Bool) (s5:(List Int)×Int):Option (Out (List Int) ((List Int)×Int)):=
 if decide (s5.2<(r1.length:Int)) then (Option.bind (((aQ r1 s5.2).bind fun x11=>if x11 then ((aQ p0a.2.1 s5.2).bind fun x12=>if x12 then ((cz 8 s5.1 ([1])).bind fun z18=>some z18) else ((cz 8 s5.1 ([0])).bind fun z17=>some z17)) else ((cz 8 s5.1 ([-1])).bind fun z16=>some z16):Option (List Int))) (fun s7=>some (.nxt (s7,IntKind.i64.wrap (s5.2+1))))) else (some (.brk (s5.1,s5.2)))
def fE (p0a:Int×(List Bool)×(List (List Int))) (s10:(List Int)×Int):Option (Out (List Int) ((List Int)×Int)):=
 (dA (p0a.1,p0a.2.1,p0a.2.2) s10.1).bind fun r4=>if r4.2==s10.2 then (some (.ret r4.1)) else (some (.nxt (r4.1,r4.2)))
def dq (p0a:Int×(List Bool)×(List (List Int))):Option (List Int):=
 (eN (p0a.1,p0a.2.1,p0a.2.2)).bind fun r1=>aP (ax (cC p0a r1) aX (([] :List Int),0)) (fun r=>some r) (fun s6=>aP (ax (fE p0a) aX (s6.1,-1)) (fun r=>some r) (fun s11=>none))
def um (p0x:Int) (p1y:Int):Option (Int×Int):=
 some (IntKind.u32.wrap (tm (IntKind.u64.wrap ((IntKind.u64.wrap p0x)*(IntKind.u64.wrap p1y))) 32),IntKind.u32.wrap (IntKind.u64.wrap ((IntKind.u64.wrap p0x)*(IntKind.u64.wrap p1y))))
def nr (p0x:Int) (p1y:Int):Option (Int×Int):=
 some (IntKind.u64.wrap ((IntKind.u64.wrap ((IntKind.u64.wrap ((tm p0x 32)*(tm p1y 32)))+(tm (IntKind.u64.wrap ((IntKind.u64.wrap ((tm p0x 32)*(PD p1y 4294967295)))+(tm (IntKind.u64.wrap ((PD p0x 4294967295)*(PD p1y 4294967295))) 32))) 32)))+(tm (IntKind.u64.wrap ((PD (IntKind.u64.wrap ((IntKind.u64.wrap ((tm p0x 32)*(PD p1y 4294967295)))+(tm (IntKind.u64.wrap ((PD p0x 4294967295)*(PD p1y 4294967295))) 32))) 4294967295)+(IntKind.u64.wrap ((PD p0x 4294967295)*(tm p1y 32))))) 32)),IntKind.u64.wrap (p0x*p1y))
def o9 (p0x:Int) (p1y:Int):Option (Int×Int):=
 (nr p0x p1y).bind fun r1=>some (r1.1,r1.2)
def lZ (s4:Int×List Int):Option (Out (List Int) (Int×List Int)):=
 if decide (s4.1<(s4.2.length:Int)) then ((chk (And (0<=s4.1) (s4.1<=(s4.2.length:Int)))).bind fun _=>(chk (And (0<=s4.1) (s4.1<=(s4.2.length:Int)))).bind fun _=>(chk (And (0<=s4.1) (s4.1<=(s4.2.length:Int)))).bind fun _=>(chk (And (0<=s4.1) (s4.1<=(s4.2.length:Int)))).bind fun _=>some (.nxt (IntKind.i64.wrap (s4.1+((Min.min ((s4.2.take s4.1.toNat).length) (s4.2.length - s4.1.toNat):Nat):Int)),Bo s4.2 s4.1.toNat (s4.2.take s4.1.toNat)))) else (some (.brk (s4.1,s4.2)))
def hY (p0x:List Int) (p1count:Int):Option (List Int):=
 if decide (p1count<0) then (none) else ((o9 (IntKind.u64.wrap (p0x.length:Int)) (IntKind.u64.wrap p1count)).bind fun r0=>if decide (r0.1>0) then (none) else (if decide (r0.2>9223372036854775807) then (none) else ((mkI 8 (IntKind.i64.wrap r0.2) 0).bind fun z1=>aP (ax (lZ) aX (((Min.min p0x.length (z1.length - 0):Nat):Int),Bo z1 0 p0x)) (fun r13=>some r13) (fun s14=>some s14.2))))
def uo:Option Yq2:=
 (hY ([-1]) 9).bind fun r1=>some (0,[false],[r1])
def dx (p0s:List Int) (p1v:Int) (s3:Int):Option (Out Int Int):=
 if decide (s3<(p0s.length:Int)) then ((aQ p0s s3).bind fun x3=>if p1v==x3 then (some (.ret s3)) else (some (.nxt (IntKind.i64.wrap (s3+1))))) else (some (.brk s3))
def eD (p0s:List Int) (p1v:Int):Option Int:=
 aP (ax (dx p0s p1v) aX 0) (fun r=>some r) (fun s4=>some (-1))
def ba (p0class:Int) (q0:List Int):Option Int:=
 (eD q0 p0class).bind fun r1=>some r1
def cD (p0c:Int) (q0:Int×(List Bool)×(List (List Int))) (q1:Int->Option Int):Option Bool:=
 (q1 p0c).bind fun r1=>(aQ q0.2.1 r1).bind fun x1=>some x1
def eO (p0a:Int×(List Bool)×(List (List Int))) (p1s:Int) (p2letter:Int):Option Int:=
 if decide (p1s<0) then (some (-1)) else ((jM p2letter).bind fun r1=>if r1 then ((aQ p0a.2.2 p1s).bind fun x1=>(aQ x1 p2letter).bind fun x2=>some x2) else (some (-1)))
def cE (p0c:Int) (p1letter:Int) (q0:Int×(List Bool)×(List (List Int))) (q1:Int->Option Int) (q2:List Int):Option (Int×Bool):=
 (q1 p0c).bind fun r1=>(eO (q0.1,q0.2.1,q0.2.2) r1 p1letter).bind fun r2=>if decide (r2<0) then (some (0,false)) else ((aQ q2 r2).bind fun x1=>if decide (x1<0) then (some (0,false)) else ((aQ q2 r2).bind fun x2=>some (x2,true)))
def cZ (p0a:Int×(List Bool)×(List (List Int))):Option Yq2:=
 (dq (p0a.1,p0a.2.1,p0a.2.2)).bind fun r1=>(aQ r1 p0a.1).bind fun x1=>if decide (x1<0) then ((uo).bind fun r3=>some (r3.1,r3.2.1,r3.2.2)) else ((aQ r1 p0a.1).bind fun x2=>(eI x2 (r1.length:Int) (fun a0=>cD a0 (p0a.1,p0a.2.1,p0a.2.2) (fun a0=>ba a0 r1)) (fun a0 a1=>cE a0 a1 (p0a.1,p0a.2.1,p0a.2.2) (fun a0=>ba a0 r1) r1)).bind fun r2=>some (r2.1.1,r2.1.2.1,r2.1.2.2))
def Af (p0a:Int×(List Bool)×(List (List Int))):Option (Yq2×Bool):=
 (cZ (p0a.1,p0a.2.1,p0a.2.2)).bind fun r1=>if decide ((r1.2.1.length:Int)>12) then (some ((0,[],[]),false)) else (some ((r1.1,r1.2.1,r1.2.2),true))
def hZ (p0e:Yq1):Option (Yq2×Bool):=
 (gH p0e).bind fun r1=>if r1.2 then ((hH (r1.1.1,r1.1.2.1,r1.1.2.2.1,r1.1.2.2.2.1,r1.1.2.2.2.2) 200).bind fun r2=>if r2.2 then ((Af (r2.1.1,r2.1.2.1,r2.1.2.2)).bind fun r3=>some ((r3.1.1,r3.1.2.1,r3.1.2.2),r3.2)) else (some ((0,[],[]),false))) else (some ((0,[],[]),false))
def bQ (p0s:List Yq2) (p1f:Yq2->Option Bool) (s3:Int):Option (Out Int Int):=
 if decide (s3<(p0s.length:Int)) then ((aQ p0s s3).bind fun x3=>(p1f (x3.1,x3.2.1,x3.2.2)).bind fun r9=>if r9 then (some (.ret s3)) else (some (.nxt (IntKind.i64.wrap (s3+1))))) else (some (.brk s3))
def a8 (p0s:List Yq2) (p1f:Yq2->Option Bool):Option Int:=
 aP (ax (bQ p0s p1f) aX 0) (fun r=>some r) (fun s4=>some (-1))
def b8 (p0s1:List Bool) (p1s2:List Bool) (s3:Int):Option (Out Bool Int):=
 if decide (s3<(p0s1.length:Int)) then ((aQ p0s1 s3).bind fun x5=>(aQ p1s2 s3).bind fun x6=>if x5 !=x6 then (some (.ret false)) else (some (.nxt (IntKind.i64.wrap (s3+1))))) else (some (.brk s3))
def dE (p0s1:List Bool) (p1s2:List Bool):Option Bool:=
 if (p0s1.length:Int) !=(p1s2.length:Int) then (some false) else (aP (ax (b8 p0s1 p1s2) aX 0) (fun r=>some r) (fun s4=>some true))
def a7 (p0s1:List (List Int)) (p1s2:List (List Int)) (p2eq:(List Int)->(List Int)->Option Bool) (s3:Int):Option (Out Bool Int):=
 if decide (s3<(p0s1.length:Int)) then ((aQ p0s1 s3).bind fun x5=>(aQ p1s2 s3).bind fun x6=>(p2eq x5 x6).bind fun r9=>if r9 then (some (.nxt (IntKind.i64.wrap (s3+1)))) else (some (.ret false))) else (some (.brk s3))
def bN (p0s1:List (List Int)) (p1s2:List (List Int)) (p2eq:(List Int)->(List Int)->Option Bool):Option Bool:=
 if (p0s1.length:Int) !=(p1s2.length:Int) then (some false) else (aP (ax (a7 p0s1 p1s2 p2eq) aX 0) (fun r=>some r) (fun s4=>some true))
def fW (p0x:List Int) (p1y:List Int):Option Bool:=
 (b9 p0x p1y).bind fun r1=>some r1
def dK (p0a:Int×(List Bool)×(List (List Int))) (p1b:Int×(List Bool)×(List (List Int))):Option Bool:=
 if p0a.1==p1b.1 then ((dE p0a.2.1 p1b.2.1).bind fun r1=>if r1 then ((bN p0a.2.2 p1b.2.2 (fun a0 a1=>fW a0 a1)).bind fun r2=>some r2) else (some false)) else (some false)
def l5 (p0b:Int×(List Bool)×(List (List Int))) (q0:Int×(List Bool)×(List (List Int))):Option Bool:=
 (dK (q0.1,q0.2.1,q0.2.2) (p0b.1,p0b.2.1,p0b.2.2)).bind fun r1=>some r1
def fK (p0e:Yq1):Option Yq1:=
 (cz 32 ([] :List Yq4) p0e).bind fun z1=>some z1
def ko (p0:List Yq9) (s7:Int×(List Yq2)×Yq3):Option (Out (Yq8×Bool) PH):=
 if decide (s7.1<(p0.length:Int)) then ((aQ p0 s7.1).bind fun x5=>(hZ x5.2.1).bind fun r16=>if r16.2 then ((bX x5.1 1 99).bind fun r17=>if r17 then (if decide (s7.1>0) then ((aQ p0 (IntKind.i64.wrap (s7.1 - 1))).bind fun x6=>if decide (x6.1≥x5.1) then (some (.ret (([],[]),false))) else ((a8 s7.2.1 (fun a0=>l5 a0 (r16.1.1,r16.1.2.1,r16.1.2.2))).bind fun r20=>Option.bind ((if decide (r20<0) then ((cz 56 s7.2.1 ([(r16.1.1,r16.1.2.1,r16.1.2.2)])).bind fun z17=>some ((s7.2.1.length:Int),z17,s7.2.2)) else (some (r20,s7.2.1,s7.2.2)):Option PH)) (fun s10=>(fK x5.2.1).bind fun r21=>(cz 40 s10.2.2 ([(x5.1,r21,s10.1)])).bind fun z18=>some (.nxt (IntKind.i64.wrap (s7.1+1),s10.2.1,z18))))) else ((a8 s7.2.1 (fun a0=>l5 a0 (r16.1.1,r16.1.2.1,r16.1.2.2))).bind fun r18=>Option.bind ((if decide (r18<0) then ((cz 56 s7.2.1 ([(r16.1.1,r16.1.2.1,r16.1.2.2)])).bind fun z14=>some ((s7.2.1.length:Int),z14,s7.2.2)) else (some (r18,s7.2.1,s7.2.2)):Option PH)) (fun s9=>(fK x5.2.1).bind fun r19=>(cz 40 s9.2.2 ([(x5.1,r19,s9.1)])).bind fun z15=>some (.nxt (IntKind.i64.wrap (s7.1+1),s9.2.1,z15))))) else (some (.ret (([],[]),false)))) else (some (.ret (([],[]),false)))) else (some (.brk (s7.1,s7.2.1,s7.2.2)))
def sN (p0:List Yq9):Option (Yq8×Bool):=
 aP (ax (ko p0) aX (0,[],[])) (fun r=>some r) (fun s8=>some ((s8.2.1,s8.2.2),decide ((p0.length:Int)<=4)))
def aN (p0s1:List Yq2) (p1s2:List Yq2) (p2eq:Yq2->Yq2->Option Bool) (s3:Int):Option (Out Bool Int):=
 if decide (s3<(p0s1.length:Int)) then ((aQ p0s1 s3).bind fun x5=>(aQ p1s2 s3).bind fun x6=>(p2eq (x5.1,x5.2.1,x5.2.2) (x6.1,x6.2.1,x6.2.2)).bind fun r15=>if r15 then (some (.nxt (IntKind.i64.wrap (s3+1)))) else (some (.ret false))) else (some (.brk s3))
def aZ (p0s1:List Yq2) (p1s2:List Yq2) (p2eq:Yq2->Yq2->Option Bool):Option Bool:=
 if (p0s1.length:Int) !=(p1s2.length:Int) then (some false) else (aP (ax (aN p0s1 p1s2 p2eq) aX 0) (fun r=>some r) (fun s4=>some true))
def aM (p0s1:List Yq9) (p1s2:List Yq9) (p2eq:Yq9->Yq9->Option Bool) (s3:Int):Option (Out Bool Int):=
 if decide (s3<(p0s1.length:Int)) then ((aQ p0s1 s3).bind fun x5=>(aQ p1s2 s3).bind fun x6=>(p2eq (x5.1,x5.2.1,x5.2.2) (x6.1,x6.2.1,x6.2.2)).bind fun r9=>if r9 then (some (.nxt (IntKind.i64.wrap (s3+1)))) else (some (.ret false))) else (some (.brk s3))
def aW (p0s1:List Yq9) (p1s2:List Yq9) (p2eq:Yq9->Yq9->Option Bool):Option Bool:=
 if (p0s1.length:Int) !=(p1s2.length:Int) then (some false) else (aP (ax (aM p0s1 p1s2 p2eq) aX 0) (fun r=>some r) (fun s4=>some true))
def bV (p0s1:List Yq4) (p1s2:List Yq4) (s3:Int):Option (Out Bool Int):=
 if decide (s3<(p0s1.length:Int)) then ((aQ p0s1 s3).bind fun x5=>(aQ p1s2 s3).bind fun x6=>if (x5.1==x6.1)&&((x5.2.1==x6.2.1)&&((x5.2.2.1==x6.2.2.1)&&((x5.2.2.2==x6.2.2.2)&&true))) then (some (.nxt (IntKind.i64.wrap (s3+1)))) else (some (.ret false))) else (some (.brk s3))
def cj (p0s1:List Yq4) (p1s2:List Yq4):Option Bool:=
 if (p0s1.length:Int) !=(p1s2.length:Int) then (some false) else (aP (ax (bV p0s1 p1s2) aX 0) (fun r=>some r) (fun s4=>some true))
def lI (p0a:Yq1) (p1b:Yq1):Option Bool:=
 (cj p0a p1b).bind fun r1=>some r1
def gr (p0a:Int×(Yq1)×Int) (p1b:Int×(Yq1)×Int):Option Bool:=
 if p0a.1==p1b.1 then ((lI p0a.2.1 p1b.2.1).bind fun r1=>if r1 then (some (p0a.2.2==p1b.2.2)) else (some false)) else (some false)
def fX (p0a:(List Yq2)×Yq3) (p1b:(List Yq2)×Yq3):Option Bool:=
 (aZ p0a.1 p1b.1 (fun a0 a1=>dK a0 a1)).bind fun r1=>if r1 then ((aW p0a.2 p1b.2 (fun a0 a1=>gr a0 a1)).bind fun r2=>some r2) else (some false)
def fY (p0r:(List Yq2)×Yq3):Option Bool:=
 (sN p0r.2).bind fun r1=>if r1.2 then ((fX (r1.1.1,r1.1.2) (p0r.1,p0r.2)).bind fun r2=>some r2) else (some false)
def iD (p0h:Int×Yq5):Option Int:=
 (m_i_IsValidHistory (p0h.1,p0h.2)).bind fun r1=>if r1 then (some (IntKind.i64.wrap ((IntKind.i64.wrap (p0h.1+(p0h.2.length:Int))) - 1))) else (some 0)
def bg (p0s:List Yq9) (p1f:Yq9->Option Bool) (s3:Int):Option (Out Int Int):=
 if decide (s3<(p0s.length:Int)) then ((aQ p0s s3).bind fun x3=>(p1f (x3.1,x3.2.1,x3.2.2)).bind fun r6=>if r6 then (some (.ret s3)) else (some (.nxt (IntKind.i64.wrap (s3+1))))) else (some (.brk s3))
def bT (p0s:List Yq9) (p1f:Yq9->Option Bool):Option Int:=
 aP (ax (bg p0s p1f) aX 0) (fun r=>some r) (fun s4=>some (-1))
def kp (p0q:Int×(Yq1)×Int) (q0:Int):Option Bool:=
 some (p0q.1==q0)
def iE (p0r:(List Yq2)×Yq3) (p1id:Int):Option Int:=
 (bT p0r.2 (fun a0=>kp a0 p1id)).bind fun r1=>some r1
def eP (p0:ByteArray) (p1:Int):Option Int:=R.wP p0 p1
def mo (p0:Int):Option (ByteArray):=R.Rr p0
def db (p0n:Int):Option ByteArray:=
 (mo p0n).bind fun r0=>some r0
def iZ (p0e:Int×Int×Int×Int):Option ByteArray:=
 (jL (p0e.1,p0e.2.1,p0e.2.2.1,p0e.2.2.2) 5).bind fun r0=>if r0 then ((db p0e.1).bind fun r9=>(mg r9 (⟨#[58]⟩)).bind fun z10=>(db p0e.2.1).bind fun r11=>(mg z10 r11).bind fun z12=>(qY (⟨#[97,98,99]⟩) p0e.2.2.2 (IntKind.i64.wrap (p0e.2.2.2+1))).bind fun z13=>(mg z12 z13).bind fun z14=>(db p0e.2.2.1).bind fun r15=>(mg z14 r15).bind fun z16=>some z16) else (some ((⟨#[]⟩:ByteArray)))
def jk (p0:List ByteArray) (p1:ByteArray):Option (ByteArray):=R.Rq p0 p1
def eQ (p0b:List Yq6) (s1:(List ByteArray)×Int):Option (Out ByteArray ((List ByteArray)×Int)):=
 if decide (s1.2<(p0b.length:Int)) then (Ha (S:=List ByteArray) ((aQ p0b s1.2).bind fun x2=>(iZ (x2.2.1,x2.2.2.1,x2.2.2.2.1,x2.2.2.2.2)).bind fun r3=>if r3==((⟨#[]⟩:ByteArray)) then (some (.inl (.ret ((⟨#[]⟩:ByteArray))))) else (if x2.1 then ((mg (⟨#[43]⟩) r3).bind fun z4=>(cz 16 s1.1 ([z4])).bind fun z5=>some (.inr z5)) else ((mg (⟨#[45]⟩) r3).bind fun z6=>(cz 16 s1.1 ([z6])).bind fun z7=>some (.inr z7)))) (fun s8=>some (.nxt (s8,IntKind.i64.wrap (s1.2+1))))) else (some (.brk (s1.1,s1.2)))
def dP (p0b:List Yq6):Option ByteArray:=
 if decide ((p0b.length:Int)>6) then (some ((⟨#[]⟩:ByteArray))) else (aP (ax (eQ p0b) aX (([] :List ByteArray),0)) (fun r9=>some r9) (fun s10=>(jk s10.1 (⟨#[32]⟩)).bind fun r11=>some r11))
def nt (p0s:ByteArray) (s1:Int×Int):Option yZ:=
 if decide (s1.2<((p0s.size:Nat):Int)) then ((jG p0s s1.2).bind fun z2=>some (.nxt (Int.tmod (IntKind.i64.wrap ((IntKind.i64.wrap ((IntKind.i64.wrap (257*s1.1))+(IntKind.i64.wrap z2)))+1)) 9973,IntKind.i64.wrap (s1.2+1)))) else (some (.brk (s1.1,s1.2)))
def jO (p0s:ByteArray):Option Int:=
 aP (ax (nt p0s) aX (1,0)) (fun r3=>some r3) (fun s4=>some s4.1)
def gu (p0version:Int) (p1b:List Yq6):Option ByteArray:=
 (dP p1b).bind fun r0=>(bX p0version 1 999).bind fun r1=>if r1 then (if r0==((⟨#[]⟩:ByteArray)) then (if decide ((p1b.length:Int)>0) then (some ((⟨#[]⟩:ByteArray))) else ((db p0version).bind fun r2=>(mg r2 (⟨#[59]⟩)).bind fun z3=>(mg z3 r0).bind fun z4=>(mg z4 (⟨#[59]⟩)).bind fun z5=>(jO z5).bind fun r6=>(db r6).bind fun r7=>(mg z5 r7).bind fun z8=>(mg z8 (⟨#[10]⟩)).bind fun z9=>some z9)) else ((db p0version).bind fun r10=>(mg r10 (⟨#[59]⟩)).bind fun z11=>(mg z11 r0).bind fun z12=>(mg z12 (⟨#[59]⟩)).bind fun z13=>(jO z13).bind fun r14=>(db r14).bind fun r15=>(mg z13 r15).bind fun z16=>(mg z16 (⟨#[10]⟩)).bind fun z17=>some z17)) else (some ((⟨#[]⟩:ByteArray)))
def cF (p0 p1:ByteArray):Option (List ByteArray):=R.JM p0 p1
def fL (p0:ByteArray):Option (Int×Bool):=R.rz p0
def cS (p0 p1:ByteArray):Option (ByteArray×ByteArray×Bool):=R.Xh p0 p1
def fZ (p0s:ByteArray):Option (Yq4×Bool):=
 (cS p0s (⟨#[58]⟩)).bind fun r0=>if ((r0.2.1.size:Nat):Int) !=3 then (some ((0,0,0,0),false)) else ((jG r0.2.1 0).bind fun z4=>(jG r0.2.1 1).bind fun z5=>(jG r0.2.1 2).bind fun z6=>(fL r0.1).bind fun r7=>(iZ (r7.1,IntKind.i64.wrap ((IntKind.i64.wrap z4) - 48),IntKind.i64.wrap ((IntKind.i64.wrap z6) - 48),IntKind.i64.wrap ((IntKind.i64.wrap z5) - 97))).bind fun r8=>if r8 !=p0s then (some ((0,0,0,0),false)) else (some ((r7.1,IntKind.i64.wrap ((IntKind.i64.wrap z4) - 48),IntKind.i64.wrap ((IntKind.i64.wrap z6) - 48),IntKind.i64.wrap ((IntKind.i64.wrap z5) - 97)),true)))
def cG (r0:List ByteArray) (s3:Int×List Yq6):Option (Out ((List Yq6)×Bool) (Int×List Yq6)):=
 if decide (s3.1<(r0.length:Int)) then ((aQ r0 s3.1).bind fun x4=>if x4==((⟨#[]⟩:ByteArray)) then (some (.ret (([] :List Yq6),false))) else ((qY x4 1 ((x4.size:Nat):Int)).bind fun z5=>(fZ z5).bind fun r6=>if r6.2 then ((jG x4 0).bind fun z9=>(cz 40 s3.2 ([(z9==43,r6.1.1,r6.1.2.1,r6.1.2.2.1,r6.1.2.2.2)])).bind fun z10=>some (.nxt (IntKind.i64.wrap (s3.1+1),z10))) else (some (.ret (([] :List Yq6),false))))) else (some (.brk (s3.1,s3.2)))
def dI (p0s:ByteArray):Option ((List Yq6)×Bool):=
 if p0s==((⟨#[]⟩:ByteArray)) then (some (([] :List Yq6),true)) else ((cF p0s (⟨#[32]⟩)).bind fun r0=>aP (ax (cG r0) aX (0,([] :List Yq6))) (fun r11=>some r11) (fun s12=>(dP s12.2).bind fun r13=>if r13 !=p0s then (some (([] :List Yq6),false)) else (some (s12.2,true))))
def jl (p0s:ByteArray):Option (Int×(List Yq6)×Bool):=
 (cF p0s (⟨#[59]⟩)).bind fun r0=>if (r0.length:Int) !=3 then (some (0,([] :List Yq6),false)) else ((aQ r0 0).bind fun x1=>(fL x1).bind fun r2=>(aQ r0 1).bind fun x3=>(dI x3).bind fun r4=>if r2.2 then (if r4.2 then ((gu r2.1 r4.1).bind fun r5=>if r5 !=p0s then (some (0,([] :List Yq6),false)) else (some (r2.1,r4.1,true))) else (some (0,([] :List Yq6),false))) else (some (0,([] :List Yq6),false)))
def cr (p0:ByteArray) (s1:(List Int)×(List (List Yq6))×Int):Option (Out ((List Int)×(List (List Yq6))×Int) ((List Int)×(List (List Yq6))×Int)):=
 if decide (((p0.size:Nat):Int)<=4000) then ((qY p0 s1.2.2 ((p0.size:Nat):Int)).bind fun z2=>(eP z2 10).bind fun r3=>if decide (r3<0) then (some (.brk (s1.1,s1.2.1,s1.2.2))) else ((qY p0 s1.2.2 (IntKind.i64.wrap ((IntKind.i64.wrap (s1.2.2+r3))+1))).bind fun z4=>(jl z4).bind fun r5=>if r5.2.2 then (if decide ((s1.1.length:Int)>0) then ((aQ s1.1 (IntKind.i64.wrap ((s1.1.length:Int) - 1))).bind fun x6=>if r5.1 !=(IntKind.i64.wrap (x6+1)) then (some (.brk (s1.1,s1.2.1,s1.2.2))) else ((cz 8 s1.1 ([r5.1])).bind fun z7=>(cz 24 s1.2.1 ([r5.2.1])).bind fun z8=>some (.nxt (z7,z8,IntKind.i64.wrap (s1.2.2+(IntKind.i64.wrap (r3+1))))))) else ((cz 8 s1.1 ([r5.1])).bind fun z9=>(cz 24 s1.2.1 ([r5.2.1])).bind fun z10=>some (.nxt (z9,z10,IntKind.i64.wrap (s1.2.2+(IntKind.i64.wrap (r3+1))))))) else (some (.brk (s1.1,s1.2.1,s1.2.2))))) else (some (.brk (s1.1,s1.2.1,s1.2.2)))
def m_i_ScanLog (p0:ByteArray):Option ((List Int)×(List (List Yq6))×Int):=
 aP (ax (cr p0) aX (([] :List Int),([] :List (List Yq6)),0)) (fun r11=>some r11) (fun s12=>some (s12.1,s12.2.1,s12.2.2))
def cg (p0:(Int×Yq5)×Yq8×(List Yq7)×ByteArray) (r3:Int) (s3:Int):Option (Out Bool Int):=
 if decide (s3<(p0.2.2.1.length:Int)) then ((aQ p0.2.2.1 s3).bind fun x5=>(bX x5.1 1 99).bind fun r14=>if r14 then (if decide (s3>0) then ((aQ p0.2.2.1 (IntKind.i64.wrap (s3 - 1))).bind fun x6=>if decide (x6.1≥x5.1) then (some (.ret false)) else ((iE (p0.2.1.1,p0.2.1.2) x5.2.1).bind fun r17=>if decide (r17<0) then (some (.ret false)) else ((bX x5.2.2 0 r3).bind fun r18=>if r18 then (some (.nxt (IntKind.i64.wrap (s3+1)))) else (some (.ret false))))) else ((iE (p0.2.1.1,p0.2.1.2) x5.2.1).bind fun r15=>if decide (r15<0) then (some (.ret false)) else ((bX x5.2.2 0 r3).bind fun r16=>if r16 then (some (.nxt (IntKind.i64.wrap (s3+1)))) else (some (.ret false))))) else (some (.ret false))) else (some (.brk s3))
def iF (p0:(Int×Yq5)×Yq8×(List Yq7)×ByteArray):Option Bool:=
 (m_i_IsValidHistory (p0.1.1,p0.1.2)).bind fun r1=>if r1 then ((fY (p0.2.1.1,p0.2.1.2)).bind fun r2=>if r2 then (if decide ((p0.2.2.1.length:Int)>4) then (some false) else (if decide ((p0.2.2.2.size:Int)>4000) then (some false) else ((iD (p0.1.1,p0.1.2)).bind fun r3=>aP (ax (cg p0 r3) aX 0) (fun r=>some r) (fun s4=>(m_i_ScanLog p0.2.2.2).bind fun r19=>if r19.2.2==(p0.2.2.2.size:Int) then (if (r19.1.length:Int)==0 then (some true) else ((aQ r19.1 (IntKind.i64.wrap ((r19.1.length:Int) - 1))).bind fun x7=>some (x7==r3))) else (some false))))) else (some false)) else (some false)
def mH (p0a:List Int) (p1b:List Int) (s3:Int):Option (Out Bool Int):=
 if decide (s3<(p0a.length:Int)) then ((aQ p0a s3).bind fun x5=>(aQ p1b s3).bind fun x6=>if x5 !=x6 then (some (.ret false)) else (some (.nxt (IntKind.i64.wrap (s3+1))))) else (some (.brk s3))
def sO (p0a:List Int) (p1b:List Int):Option Bool:=
 if (p0a.length:Int) !=(p1b.length:Int) then (some false) else (aP (ax (mH p0a p1b) aX 0) (fun r=>some r) (fun s4=>some true))
def sP (p0a:Int×Int×Int×Int) (p1b:Int×Int×Int×Int):Option Bool:=
 if p0a.1 !=p1b.1 then (some false) else (if p0a.2.1 !=p1b.2.1 then (some false) else (if p0a.2.2.1 !=p1b.2.2.1 then (some false) else (if p0a.2.2.2 !=p1b.2.2.2 then (some false) else (some true))))
def lJ (p0a:List Yq4) (p1b:List Yq4) (s3:Int):Option (Out Bool Int):=
 if decide (s3<(p0a.length:Int)) then ((aQ p0a s3).bind fun x5=>(aQ p1b s3).bind fun x6=>(sP (x5.1,x5.2.1,x5.2.2.1,x5.2.2.2) (x6.1,x6.2.1,x6.2.2.1,x6.2.2.2)).bind fun r3=>if r3 then (some (.nxt (IntKind.i64.wrap (s3+1)))) else (some (.ret false))) else (some (.brk s3))
def uq (p0a:List Yq4) (p1b:List Yq4):Option Bool:=
 if (p0a.length:Int) !=(p1b.length:Int) then (some false) else (aP (ax (lJ p0a p1b) aX 0) (fun r=>some r) (fun s4=>some true))
def p9 (p0a:(List Int)×Yq1) (p1b:(List Int)×Yq1):Option Bool:=
 (sO p0a.1 p1b.1).bind fun r1=>if r1 then ((uq p0a.2 p1b.2).bind fun r2=>if r2 then (some true) else (some false)) else (some false)
def kq (p0a:List EI) (p1b:List EI) (s3:Int):Option (Out Bool Int):=
 if decide (s3<(p0a.length:Int)) then ((aQ p0a s3).bind fun x5=>(aQ p1b s3).bind fun x6=>(p9 (x5.1,x5.2) (x6.1,x6.2)).bind fun r15=>if r15 then (some (.nxt (IntKind.i64.wrap (s3+1)))) else (some (.ret false))) else (some (.brk s3))
def rC (p0a:List EI) (p1b:List EI):Option Bool:=
 if (p0a.length:Int) !=(p1b.length:Int) then (some false) else (aP (ax (kq p0a p1b) aX 0) (fun r=>some r) (fun s4=>some true))
def mI (p0a:Int×Yq5) (p1b:Int×Yq5):Option Bool:=
 if p0a.1 !=p1b.1 then (some false) else ((rC p0a.2 p1b.2).bind fun r1=>if r1 then (some true) else (some false))
def lK (p0a:List Bool) (p1b:List Bool) (s3:Int):Option (Out Bool Int):=
 if decide (s3<(p0a.length:Int)) then ((aQ p0a s3).bind fun x5=>(aQ p1b s3).bind fun x6=>if x5 !=x6 then (some (.ret false)) else (some (.nxt (IntKind.i64.wrap (s3+1))))) else (some (.brk s3))
def ur (p0a:List Bool) (p1b:List Bool):Option Bool:=
 if (p0a.length:Int) !=(p1b.length:Int) then (some false) else (aP (ax (lK p0a p1b) aX 0) (fun r=>some r) (fun s4=>some true))
def lL (p0a:List (List Int)) (p1b:List (List Int)) (s3:Int):Option (Out Bool Int):=
 if decide (s3<(p0a.length:Int)) then ((aQ p0a s3).bind fun x5=>(aQ p1b s3).bind fun x6=>(sO x5 x6).bind fun r9=>if r9 then (some (.nxt (IntKind.i64.wrap (s3+1)))) else (some (.ret false))) else (some (.brk s3))
def uu (p0a:List (List Int)) (p1b:List (List Int)):Option Bool:=
 if (p0a.length:Int) !=(p1b.length:Int) then (some false) else (aP (ax (lL p0a p1b) aX 0) (fun r=>some r) (fun s4=>some true))
def kt (p0a:Int×(List Bool)×(List (List Int))) (p1b:Int×(List Bool)×(List (List Int))):Option Bool:=
 if p0a.1 !=p1b.1 then (some false) else ((ur p0a.2.1 p1b.2.1).bind fun r1=>if r1 then ((uu p0a.2.2 p1b.2.2).bind fun r2=>if r2 then (some true) else (some false)) else (some false))
def ga (p0a:List Yq2) (p1b:List Yq2) (s3:Int):Option (Out Bool Int):=
 if decide (s3<(p0a.length:Int)) then ((aQ p0a s3).bind fun x5=>(aQ p1b s3).bind fun x6=>(kt (x5.1,x5.2.1,x5.2.2) (x6.1,x6.2.1,x6.2.2)).bind fun r15=>if r15 then (some (.nxt (IntKind.i64.wrap (s3+1)))) else (some (.ret false))) else (some (.brk s3))
def mq (p0a:List Yq2) (p1b:List Yq2):Option Bool:=
 if (p0a.length:Int) !=(p1b.length:Int) then (some false) else (aP (ax (ga p0a p1b) aX 0) (fun r=>some r) (fun s4=>some true))
def qa (p0a:Int×Int×Int×Int) (p1b:Int×Int×Int×Int):Option Bool:=
 if p0a.1 !=p1b.1 then (some false) else (if p0a.2.1 !=p1b.2.1 then (some false) else (if p0a.2.2.1 !=p1b.2.2.1 then (some false) else (if p0a.2.2.2 !=p1b.2.2.2 then (some false) else (some true))))
def ku (p0a:List Yq4) (p1b:List Yq4) (s3:Int):Option (Out Bool Int):=
 if decide (s3<(p0a.length:Int)) then ((aQ p0a s3).bind fun x5=>(aQ p1b s3).bind fun x6=>(qa (x5.1,x5.2.1,x5.2.2.1,x5.2.2.2) (x6.1,x6.2.1,x6.2.2.1,x6.2.2.2)).bind fun r3=>if r3 then (some (.nxt (IntKind.i64.wrap (s3+1)))) else (some (.ret false))) else (some (.brk s3))
def rD (p0a:List Yq4) (p1b:List Yq4):Option Bool:=
 if (p0a.length:Int) !=(p1b.length:Int) then (some false) else (aP (ax (ku p0a p1b) aX 0) (fun r=>some r) (fun s4=>some true))
def sQ (p0a:Yq1) (p1b:Yq1):Option Bool:=
 (rD p0a p1b).bind fun r1=>if r1 then (some true) else (some false)
def jm (p0a:Int×(Yq1)×Int) (p1b:Int×(Yq1)×Int):Option Bool:=
 if p0a.1 !=p1b.1 then (some false) else ((sQ p0a.2.1 p1b.2.1).bind fun r1=>if r1 then (if p0a.2.2 !=p1b.2.2 then (some false) else (some true)) else (some false))
def fm (p0a:List Yq9) (p1b:List Yq9) (s3:Int):Option (Out Bool Int):=
 if decide (s3<(p0a.length:Int)) then ((aQ p0a s3).bind fun x5=>(aQ p1b s3).bind fun x6=>(jm (x5.1,x5.2.1,x5.2.2) (x6.1,x6.2.1,x6.2.2)).bind fun r9=>if r9 then (some (.nxt (IntKind.i64.wrap (s3+1)))) else (some (.ret false))) else (some (.brk s3))
def kZ (p0a:List Yq9) (p1b:List Yq9):Option Bool:=
 if (p0a.length:Int) !=(p1b.length:Int) then (some false) else (aP (ax (fm p0a p1b) aX 0) (fun r=>some r) (fun s4=>some true))
def lM (p0a:(List Yq2)×Yq3) (p1b:(List Yq2)×Yq3):Option Bool:=
 (mq p0a.1 p1b.1).bind fun r1=>if r1 then ((kZ p0a.2 p1b.2).bind fun r2=>if r2 then (some true) else (some false)) else (some false)
def jn (p0a:Int×Int×Int) (p1b:Int×Int×Int):Option Bool:=
 if p0a.1 !=p1b.1 then (some false) else (if p0a.2.1 !=p1b.2.1 then (some false) else (if p0a.2.2 !=p1b.2.2 then (some false) else (some true)))
def fo (p0a:List Yq7) (p1b:List Yq7) (s3:Int):Option (Out Bool Int):=
 if decide (s3<(p0a.length:Int)) then ((aQ p0a s3).bind fun x5=>(aQ p1b s3).bind fun x6=>(jn (x5.1,x5.2.1,x5.2.2) (x6.1,x6.2.1,x6.2.2)).bind fun r3=>if r3 then (some (.nxt (IntKind.i64.wrap (s3+1)))) else (some (.ret false))) else (some (.brk s3))
def k7 (p0a:List Yq7) (p1b:List Yq7):Option Bool:=
 if (p0a.length:Int) !=(p1b.length:Int) then (some false) else (aP (ax (fo p0a p1b) aX 0) (fun r=>some r) (fun s4=>some true))
def ic (p0a:(Int×Yq5)×Yq8×(List Yq7)×ByteArray) (p1b:(Int×Yq5)×Yq8×(List Yq7)×ByteArray):Option Bool:=
 (mI (p0a.1.1,p0a.1.2) (p1b.1.1,p1b.1.2)).bind fun r1=>if r1 then ((lM (p0a.2.1.1,p0a.2.1.2) (p1b.2.1.1,p1b.2.1.2)).bind fun r2=>if r2 then ((k7 p0a.2.2.1 p1b.2.2.1).bind fun r3=>if r3 then (if p0a.2.2.2 !=p1b.2.2.2 then (some false) else (some true)) else (some false)) else (some false)) else (some false)
def pa (p0g:(List Int)×Yq1):Option EI:=
 (cz 8 ([] :List Int) p0g.1).bind fun z1=>(cz 32 ([] :List Yq4) p0g.2).bind fun z2=>some (z1,z2)
def ky (p0h:Int×Yq5) (s3:Int×Int×Yq5):Option (Out (Int×Yq5) (Int×Int×Yq5)):=
 if decide (s3.1<(p0h.2.length:Int)) then ((aQ p0h.2 s3.1).bind fun x3=>(pa (x3.1,x3.2)).bind fun r9=>(cz 48 s3.2.2 ([(r9.1,r9.2)])).bind fun z3=>some (.nxt (IntKind.i64.wrap (s3.1+1),s3.2.1,z3))) else (some (.brk (s3.1,s3.2.1,s3.2.2)))
def sR (p0h:Int×Yq5):Option (Int×Yq5):=
 aP (ax (ky p0h) aX (0,p0h.1,[])) (fun r=>some r) (fun s4=>some (s4.2.1,s4.2.2))
def ja (p0a:Int×(List Bool)×(List (List Int))) (s3:Int×Int×(List Bool)×(List (List Int))):Option (Out Yq2 (Int×Int×(List Bool)×(List (List Int)))):=
 if decide (s3.1<(p0a.2.2.length:Int)) then ((aQ p0a.2.2 s3.1).bind fun x3=>(cz 8 ([] :List Int) x3).bind fun z6=>(cz 24 s3.2.2.2 ([z6])).bind fun z7=>some (.nxt (IntKind.i64.wrap (s3.1+1),s3.2.1,s3.2.2.1,z7))) else (some (.brk (s3.1,s3.2.1,s3.2.2.1,s3.2.2.2)))
def qb (p0a:Int×(List Bool)×(List (List Int))):Option Yq2:=
 (cz 1 ([] :List Bool) p0a.2.1).bind fun z1=>aP (ax (ja p0a) aX (0,p0a.1,z1,[])) (fun r=>some r) (fun s4=>some (s4.2.1,s4.2.2.1,s4.2.2.2))
def jb (p0r:(List Yq2)×Yq3) (s3:Int×(List Yq2)×Yq3):Option (Out Yq8 PH):=
 if decide (s3.1<(p0r.1.length:Int)) then ((aQ p0r.1 s3.1).bind fun x3=>(qb (x3.1,x3.2.1,x3.2.2)).bind fun r9=>(cz 56 s3.2.1 ([(r9.1,r9.2.1,r9.2.2)])).bind fun z3=>some (.nxt (IntKind.i64.wrap (s3.1+1),z3,s3.2.2))) else (some (.brk (s3.1,s3.2.1,s3.2.2)))
def jc (p0r:(List Yq2)×Yq3) (s7:Int×(List Yq2)×Yq3):Option (Out Yq8 PH):=
 if decide (s7.1<(p0r.2.length:Int)) then ((aQ p0r.2 s7.1).bind fun x6=>(gz x6.2.1).bind fun r15=>(cz 40 s7.2.2 ([(x6.1,r15,x6.2.2)])).bind fun z6=>some (.nxt (IntKind.i64.wrap (s7.1+1),s7.2.1,z6))) else (some (.brk (s7.1,s7.2.1,s7.2.2)))
def qc (p0r:(List Yq2)×Yq3):Option Yq8:=
 aP (ax (jb p0r) aX (0,[],[])) (fun r=>some r) (fun s4=>aP (ax (jc p0r) aX (0,s4.2.1,s4.2.2)) (fun r=>some r) (fun s8=>some (s8.2.1,s8.2.2)))
def qd (p0e:(Int×Yq5)×Yq8×(List Yq7)×ByteArray):Option Wl:=
 (sR (p0e.1.1,p0e.1.2)).bind fun r1=>(qc (p0e.2.1.1,p0e.2.1.2)).bind fun r2=>(cz 24 ([] :List Yq7) p0e.2.2.1).bind fun z1=>some ((r1.1,r1.2),(r2.1,r2.2),z1,p0e.2.2.2)
def l6 (p0l:List Int):Option (List Int):=
 (cz 8 ([] :List Int) p0l).bind fun z1=>some z1
def kz (p0g:(List Int)×Yq1):Option EI:=
 (l6 p0g.1).bind fun r1=>(cz 32 ([] :List Yq4) p0g.2).bind fun z1=>some (r1,z1)
def eR (p0h:Int×Yq5) (s3:Int×Int×Yq5):Option (Out (Int×Yq5) (Int×Int×Yq5)):=
 if decide (s3.1<(p0h.2.length:Int)) then ((aQ p0h.2 s3.1).bind fun x3=>(kz (x3.1,x3.2)).bind fun r9=>(cz 48 s3.2.2 ([(r9.1,r9.2)])).bind fun z3=>some (.nxt (IntKind.i64.wrap (s3.1+1),s3.2.1,z3))) else (some (.brk (s3.1,s3.2.1,s3.2.2)))
def kA (p0h:Int×Yq5):Option (Int×Yq5):=
 aP (ax (eR p0h) aX (0,p0h.1,[])) (fun r=>some r) (fun s4=>some (s4.2.1,s4.2.2))
def dB (p0a:Int×(List Bool)×(List (List Int))) (s3:Int×Int×(List Bool)×(List (List Int))):Option (Out Yq2 (Int×Int×(List Bool)×(List (List Int)))):=
 if decide (s3.1<(p0a.2.2.length:Int)) then ((aQ p0a.2.2 s3.1).bind fun x3=>(l6 x3).bind fun r6=>(cz 24 s3.2.2.2 ([r6])).bind fun z4=>some (.nxt (IntKind.i64.wrap (s3.1+1),s3.2.1,s3.2.2.1,z4))) else (some (.brk (s3.1,s3.2.1,s3.2.2.1,s3.2.2.2)))
def iG (p0a:Int×(List Bool)×(List (List Int))):Option Yq2:=
 (cz 1 ([] :List Bool) p0a.2.1).bind fun z1=>aP (ax (dB p0a) aX (0,p0a.1,z1,[])) (fun r=>some r) (fun s4=>some (s4.2.1,s4.2.2.1,s4.2.2.2))
def dQ (p0r:(List Yq2)×Yq3) (s3:Int×(List Yq2)×Yq3):Option (Out Yq8 PH):=
 if decide (s3.1<(p0r.1.length:Int)) then ((aQ p0r.1 s3.1).bind fun x3=>(iG (x3.1,x3.2.1,x3.2.2)).bind fun r9=>(cz 56 s3.2.1 ([(r9.1,r9.2.1,r9.2.2)])).bind fun z3=>some (.nxt (IntKind.i64.wrap (s3.1+1),z3,s3.2.2))) else (some (.brk (s3.1,s3.2.1,s3.2.2)))
def dR (p0r:(List Yq2)×Yq3) (s7:Int×(List Yq2)×Yq3):Option (Out Yq8 PH):=
 if decide (s7.1<(p0r.2.length:Int)) then ((aQ p0r.2 s7.1).bind fun x6=>(fK x6.2.1).bind fun r15=>(cz 40 s7.2.2 ([(x6.1,r15,x6.2.2)])).bind fun z6=>some (.nxt (IntKind.i64.wrap (s7.1+1),s7.2.1,z6))) else (some (.brk (s7.1,s7.2.1,s7.2.2)))
def jo (p0r:(List Yq2)×Yq3):Option Yq8:=
 aP (ax (dQ p0r) aX (0,[],[])) (fun r=>some r) (fun s4=>aP (ax (dR p0r) aX (0,s4.2.1,s4.2.2)) (fun r=>some r) (fun s8=>some (s8.2.1,s8.2.2)))
def lN (p0e:(Int×Yq5)×Yq8×(List Yq7)×ByteArray):Option Wl:=
 (kA (p0e.1.1,p0e.1.2)).bind fun r1=>(jo (p0e.2.1.1,p0e.2.1.2)).bind fun r2=>(cz 24 ([] :List Yq7) p0e.2.2.1).bind fun z1=>some ((r1.1,r1.2),(r2.1,r2.2),z1,p0e.2.2.2)
def kB (s3:(List Int)×Int×Int):Option (Out (Int×(List Int)) ((List Int)×Int×Int)):=
 if decide (s3.2.2<(s3.1.length:Int)) then ((aQ s3.1 s3.2.2).bind fun x3=>some (.nxt (s3.1.set s3.2.2.toNat s3.2.1,IntKind.i64.wrap (s3.2.1+1),IntKind.i64.wrap (s3.2.2+1)))) else (some (.brk (s3.1,s3.2.1,s3.2.2)))
def l7 (p0a:List Int) (p1k:Int):Option (Int×(List Int)):=
 aP (ax (kB) aX (p0a,p1k,0)) (fun r=>some r) (fun s4=>some (s4.2.1,s4.1))
def jq (s3:Yq1×Int×Int):Option (Out (Int×Yq1) (Yq1×Int×Int)):=
 if decide (s3.2.2<(s3.1.length:Int)) then ((aQ s3.1 s3.2.2).bind fun x9=>(aQ (s3.1.set s3.2.2.toNat (s3.2.1,x9.2.1,x9.2.2.1,x9.2.2.2)) s3.2.2).bind fun x10=>(aQ ((s3.1.set s3.2.2.toNat (s3.2.1,x9.2.1,x9.2.2.1,x9.2.2.2)).set s3.2.2.toNat (x10.1,IntKind.i64.wrap (s3.2.1+1),x10.2.2.1,x10.2.2.2)) s3.2.2).bind fun x11=>(aQ (((s3.1.set s3.2.2.toNat (s3.2.1,x9.2.1,x9.2.2.1,x9.2.2.2)).set s3.2.2.toNat (x10.1,IntKind.i64.wrap (s3.2.1+1),x10.2.2.1,x10.2.2.2)).set s3.2.2.toNat (x11.1,x11.2.1,IntKind.i64.wrap ((IntKind.i64.wrap (s3.2.1+1))+1),x11.2.2.2)) s3.2.2).bind fun x12=>some (.nxt ((((s3.1.set s3.2.2.toNat (s3.2.1,x9.2.1,x9.2.2.1,x9.2.2.2)).set s3.2.2.toNat (x10.1,IntKind.i64.wrap (s3.2.1+1),x10.2.2.1,x10.2.2.2)).set s3.2.2.toNat (x11.1,x11.2.1,IntKind.i64.wrap ((IntKind.i64.wrap (s3.2.1+1))+1),x11.2.2.2)).set s3.2.2.toNat (x12.1,x12.2.1,x12.2.2.1,IntKind.i64.wrap ((IntKind.i64.wrap ((IntKind.i64.wrap (s3.2.1+1))+1))+1)),IntKind.i64.wrap ((IntKind.i64.wrap ((IntKind.i64.wrap ((IntKind.i64.wrap (s3.2.1+1))+1))+1))+1),IntKind.i64.wrap (s3.2.2+1)))) else (some (.brk (s3.1,s3.2.1,s3.2.2)))
def mJ (p0a:List Yq4) (p1k:Int):Option (Int×Yq1):=
 aP (ax (jq) aX (p0a,p1k,0)) (fun r=>some r) (fun s4=>some (s4.2.1,s4.1))
def iH (s3:Yq5×Int×Int):Option (Out (Int×Yq5) (Yq5×Int×Int)):=
 if decide (s3.2.2<(s3.1.length:Int)) then ((aQ s3.1 s3.2.2).bind fun x5=>(l7 x5.1 s3.2.1).bind fun r10=>(aQ (s3.1.set s3.2.2.toNat (r10.2,x5.2)) s3.2.2).bind fun x6=>(mJ x6.2 r10.1).bind fun r12=>some (.nxt ((s3.1.set s3.2.2.toNat (r10.2,x5.2)).set s3.2.2.toNat (x6.1,r12.2),r12.1,IntKind.i64.wrap (s3.2.2+1)))) else (some (.brk (s3.1,s3.2.1,s3.2.2)))
def lO (p0a:List EI) (p1k:Int):Option (Int×Yq5):=
 aP (ax (iH) aX (p0a,p1k,0)) (fun r=>some r) (fun s4=>some (s4.2.1,s4.1))
def kC (p0a:Int×Yq5) (p1k:Int):Option (Int×(Int×Yq5)):=
 (lO p0a.2 p1k).bind fun r1=>some (r1.1,(p0a.1,r1.2))
def jr (s3:(List Bool)×Int×Int):Option (Out (Int×(List Bool)) ((List Bool)×Int×Int)):=
 if decide (s3.2.2<(s3.1.length:Int)) then ((aQ s3.1 s3.2.2).bind fun x3=>some (.nxt (s3.1.set s3.2.2.toNat ((Int.tmod s3.2.1 3)==0),IntKind.i64.wrap (s3.2.1+1),IntKind.i64.wrap (s3.2.2+1)))) else (some (.brk (s3.1,s3.2.1,s3.2.2)))
def mK (p0a:List Bool) (p1k:Int):Option (Int×(List Bool)):=
 aP (ax (jr) aX (p0a,p1k,0)) (fun r=>some r) (fun s4=>some (s4.2.1,s4.1))
def jt (s3:(List (List Int))×Int×Int):Option (Out (Int×(List (List Int))) ((List (List Int))×Int×Int)):=
 if decide (s3.2.2<(s3.1.length:Int)) then ((aQ s3.1 s3.2.2).bind fun x3=>(l7 x3 s3.2.1).bind fun r6=>some (.nxt (s3.1.set s3.2.2.toNat r6.2,r6.1,IntKind.i64.wrap (s3.2.2+1)))) else (some (.brk (s3.1,s3.2.1,s3.2.2)))
def mL (p0a:List (List Int)) (p1k:Int):Option (Int×(List (List Int))):=
 aP (ax (jt) aX (p0a,p1k,0)) (fun r=>some r) (fun s4=>some (s4.2.1,s4.1))
def eS (s3:(List Yq2)×Int×Int):Option (Out (Int×(List Yq2)) ((List Yq2)×Int×Int)):=
 if decide (s3.2.2<(s3.1.length:Int)) then ((aQ s3.1 s3.2.2).bind fun x7=>(aQ (s3.1.set s3.2.2.toNat (s3.2.1,x7.2.1,x7.2.2)) s3.2.2).bind fun x8=>(mK x8.2.1 (IntKind.i64.wrap (s3.2.1+1))).bind fun r10=>(aQ ((s3.1.set s3.2.2.toNat (s3.2.1,x7.2.1,x7.2.2)).set s3.2.2.toNat (x8.1,r10.2,x8.2.2)) s3.2.2).bind fun x9=>(mL x9.2.2 r10.1).bind fun r12=>some (.nxt (((s3.1.set s3.2.2.toNat (s3.2.1,x7.2.1,x7.2.2)).set s3.2.2.toNat (x8.1,r10.2,x8.2.2)).set s3.2.2.toNat (x9.1,x9.2.1,r12.2),r12.1,IntKind.i64.wrap (s3.2.2+1)))) else (some (.brk (s3.1,s3.2.1,s3.2.2)))
def gI (p0a:List Yq2) (p1k:Int):Option (Int×(List Yq2)):=
 aP (ax (eS) aX (p0a,p1k,0)) (fun r=>some r) (fun s4=>some (s4.2.1,s4.1))
def iI (s3:Yq1×Int×Int):Option (Out (Int×Yq1) (Yq1×Int×Int)):=
 if decide (s3.2.2<(s3.1.length:Int)) then ((aQ s3.1 s3.2.2).bind fun x9=>(aQ (s3.1.set s3.2.2.toNat (s3.2.1,x9.2.1,x9.2.2.1,x9.2.2.2)) s3.2.2).bind fun x10=>(aQ ((s3.1.set s3.2.2.toNat (s3.2.1,x9.2.1,x9.2.2.1,x9.2.2.2)).set s3.2.2.toNat (x10.1,IntKind.i64.wrap (s3.2.1+1),x10.2.2.1,x10.2.2.2)) s3.2.2).bind fun x11=>(aQ (((s3.1.set s3.2.2.toNat (s3.2.1,x9.2.1,x9.2.2.1,x9.2.2.2)).set s3.2.2.toNat (x10.1,IntKind.i64.wrap (s3.2.1+1),x10.2.2.1,x10.2.2.2)).set s3.2.2.toNat (x11.1,x11.2.1,IntKind.i64.wrap ((IntKind.i64.wrap (s3.2.1+1))+1),x11.2.2.2)) s3.2.2).bind fun x12=>some (.nxt ((((s3.1.set s3.2.2.toNat (s3.2.1,x9.2.1,x9.2.2.1,x9.2.2.2)).set s3.2.2.toNat (x10.1,IntKind.i64.wrap (s3.2.1+1),x10.2.2.1,x10.2.2.2)).set s3.2.2.toNat (x11.1,x11.2.1,IntKind.i64.wrap ((IntKind.i64.wrap (s3.2.1+1))+1),x11.2.2.2)).set s3.2.2.toNat (x12.1,x12.2.1,x12.2.2.1,IntKind.i64.wrap ((IntKind.i64.wrap ((IntKind.i64.wrap (s3.2.1+1))+1))+1)),IntKind.i64.wrap ((IntKind.i64.wrap ((IntKind.i64.wrap ((IntKind.i64.wrap (s3.2.1+1))+1))+1))+1),IntKind.i64.wrap (s3.2.2+1)))) else (some (.brk (s3.1,s3.2.1,s3.2.2)))
def lP (p0a:List Yq4) (p1k:Int):Option (Int×Yq1):=
 aP (ax (iI) aX (p0a,p1k,0)) (fun r=>some r) (fun s4=>some (s4.2.1,s4.1))
def dZ (s3:Yq3×Int×Int):Option (Out (Int×Yq3) (Yq3×Int×Int)):=
 if decide (s3.2.2<(s3.1.length:Int)) then ((aQ s3.1 s3.2.2).bind fun x7=>(aQ (s3.1.set s3.2.2.toNat (s3.2.1,x7.2.1,x7.2.2)) s3.2.2).bind fun x8=>(lP x8.2.1 (IntKind.i64.wrap (s3.2.1+1))).bind fun r6=>(aQ ((s3.1.set s3.2.2.toNat (s3.2.1,x7.2.1,x7.2.2)).set s3.2.2.toNat (x8.1,(r6.2),x8.2.2)) s3.2.2).bind fun x9=>some (.nxt (((s3.1.set s3.2.2.toNat (s3.2.1,x7.2.1,x7.2.2)).set s3.2.2.toNat (x8.1,(r6.2),x8.2.2)).set s3.2.2.toNat (x9.1,x9.2.1,r6.1),IntKind.i64.wrap (r6.1+1),IntKind.i64.wrap (s3.2.2+1)))) else (some (.brk (s3.1,s3.2.1,s3.2.2)))
def gb (p0a:List Yq9) (p1k:Int):Option (Int×Yq3):=
 aP (ax (dZ) aX (p0a,p1k,0)) (fun r=>some r) (fun s4=>some (s4.2.1,s4.1))
def ju (p0a:(List Yq2)×Yq3) (p1k:Int):Option (Int×Yq8):=
 (gI p0a.1 p1k).bind fun r1=>(gb p0a.2 r1.1).bind fun r2=>some (r2.1,(r1.2,r2.2))
def ep (s3:(List Yq7)×Int×Int):Option (Out (Int×(List Yq7)) ((List Yq7)×Int×Int)):=
 if decide (s3.2.2<(s3.1.length:Int)) then ((aQ s3.1 s3.2.2).bind fun x7=>(aQ (s3.1.set s3.2.2.toNat (s3.2.1,x7.2.1,x7.2.2)) s3.2.2).bind fun x8=>(aQ ((s3.1.set s3.2.2.toNat (s3.2.1,x7.2.1,x7.2.2)).set s3.2.2.toNat (x8.1,IntKind.i64.wrap (s3.2.1+1),x8.2.2)) s3.2.2).bind fun x9=>some (.nxt (((s3.1.set s3.2.2.toNat (s3.2.1,x7.2.1,x7.2.2)).set s3.2.2.toNat (x8.1,IntKind.i64.wrap (s3.2.1+1),x8.2.2)).set s3.2.2.toNat (x9.1,x9.2.1,IntKind.i64.wrap ((IntKind.i64.wrap (s3.2.1+1))+1)),IntKind.i64.wrap ((IntKind.i64.wrap ((IntKind.i64.wrap (s3.2.1+1))+1))+1),IntKind.i64.wrap (s3.2.2+1)))) else (some (.brk (s3.1,s3.2.1,s3.2.2)))
def gf (p0a:List Yq7) (p1k:Int):Option (Int×(List Yq7)):=
 aP (ax (ep) aX (p0a,p1k,0)) (fun r=>some r) (fun s4=>some (s4.2.1,s4.1))
def eY (p0a:(Int×Yq5)×Yq8×(List Yq7)×ByteArray) (p1k:Int):Option (Int×Wl):=
 (kC (p0a.1.1,p0a.1.2) p1k).bind fun r1=>(ju (p0a.2.1.1,p0a.2.1.2) r1.1).bind fun r2=>(gf p0a.2.2.1 r2.1).bind fun r3=>some (r3.1,((p0a.1.1,r1.2.2),(r2.2.1,r2.2.2),r3.2,p0a.2.2.2))
def kD (p0a:List Int) (s3:Int×Int):Option yZ:=
 if decide (s3.2<(p0a.length:Int)) then ((aQ p0a s3.2).bind fun x3=>if x3 !=s3.1 then (some (.ret (-1))) else (some (.nxt (IntKind.i64.wrap (s3.1+1),IntKind.i64.wrap (s3.2+1))))) else (some (.brk (s3.1,s3.2)))
def l8 (p0a:List Int) (p1k:Int):Option Int:=
 aP (ax (kD p0a) aX (p1k,0)) (fun r=>some r) (fun s4=>some s4.1)
def jv (p0a:List Yq4) (s3:Int×Int):Option yZ:=
 if decide (s3.2<(p0a.length:Int)) then ((aQ p0a s3.2).bind fun x9=>if x9.1 !=s3.1 then (some (.ret (-1))) else ((aQ p0a s3.2).bind fun x10=>if x10.2.1 !=(IntKind.i64.wrap (s3.1+1)) then (some (.ret (-1))) else ((aQ p0a s3.2).bind fun x11=>if x11.2.2.1 !=(IntKind.i64.wrap ((IntKind.i64.wrap (s3.1+1))+1)) then (some (.ret (-1))) else ((aQ p0a s3.2).bind fun x12=>if x12.2.2.2 !=(IntKind.i64.wrap ((IntKind.i64.wrap ((IntKind.i64.wrap (s3.1+1))+1))+1)) then (some (.ret (-1))) else (some (.nxt (IntKind.i64.wrap ((IntKind.i64.wrap ((IntKind.i64.wrap ((IntKind.i64.wrap (s3.1+1))+1))+1))+1),IntKind.i64.wrap (s3.2+1)))))))) else (some (.brk (s3.1,s3.2)))
def mM (p0a:List Yq4) (p1k:Int):Option Int:=
 aP (ax (jv p0a) aX (p1k,0)) (fun r=>some r) (fun s4=>some s4.1)
def iJ (p0a:List EI) (s3:Int×Int):Option yZ:=
 if decide (s3.2<(p0a.length:Int)) then ((aQ p0a s3.2).bind fun x5=>(l8 x5.1 s3.1).bind fun r10=>if decide (r10<0) then (some (.ret (-1))) else ((aQ p0a s3.2).bind fun x6=>(mM x6.2 r10).bind fun r12=>if decide (r12<0) then (some (.ret (-1))) else (some (.nxt (r12,IntKind.i64.wrap (s3.2+1)))))) else (some (.brk (s3.1,s3.2)))
def lQ (p0a:List EI) (p1k:Int):Option Int:=
 aP (ax (iJ p0a) aX (p1k,0)) (fun r=>some r) (fun s4=>some s4.1)
def kE (p0a:Int×Yq5) (p1k:Int):Option Int:=
 (lQ p0a.2 p1k).bind fun r1=>if decide (r1<0) then (some (-1)) else (some r1)
def jw (p0a:List Bool) (s3:Int×Int):Option yZ:=
 if decide (s3.2<(p0a.length:Int)) then ((aQ p0a s3.2).bind fun x3=>if x3 !=((Int.tmod s3.1 3)==0) then (some (.ret (-1))) else (some (.nxt (IntKind.i64.wrap (s3.1+1),IntKind.i64.wrap (s3.2+1))))) else (some (.brk (s3.1,s3.2)))
def mN (p0a:List Bool) (p1k:Int):Option Int:=
 aP (ax (jw p0a) aX (p1k,0)) (fun r=>some r) (fun s4=>some s4.1)
def jx (p0a:List (List Int)) (s3:Int×Int):Option yZ:=
 if decide (s3.2<(p0a.length:Int)) then ((aQ p0a s3.2).bind fun x3=>(l8 x3 s3.1).bind fun r6=>if decide (r6<0) then (some (.ret (-1))) else (some (.nxt (r6,IntKind.i64.wrap (s3.2+1))))) else (some (.brk (s3.1,s3.2)))
def mO (p0a:List (List Int)) (p1k:Int):Option Int:=
 aP (ax (jx p0a) aX (p1k,0)) (fun r=>some r) (fun s4=>some s4.1)
def eT (p0a:List Yq2) (s3:Int×Int):Option yZ:=
 if decide (s3.2<(p0a.length:Int)) then ((aQ p0a s3.2).bind fun x7=>if x7.1 !=s3.1 then (some (.ret (-1))) else ((aQ p0a s3.2).bind fun x8=>(mN x8.2.1 (IntKind.i64.wrap (s3.1+1))).bind fun r10=>if decide (r10<0) then (some (.ret (-1))) else ((aQ p0a s3.2).bind fun x9=>(mO x9.2.2 r10).bind fun r12=>if decide (r12<0) then (some (.ret (-1))) else (some (.nxt (r12,IntKind.i64.wrap (s3.2+1))))))) else (some (.brk (s3.1,s3.2)))
def gJ (p0a:List Yq2) (p1k:Int):Option Int:=
 aP (ax (eT p0a) aX (p1k,0)) (fun r=>some r) (fun s4=>some s4.1)
def iK (p0a:List Yq4) (s3:Int×Int):Option yZ:=
 if decide (s3.2<(p0a.length:Int)) then ((aQ p0a s3.2).bind fun x9=>if x9.1 !=s3.1 then (some (.ret (-1))) else ((aQ p0a s3.2).bind fun x10=>if x10.2.1 !=(IntKind.i64.wrap (s3.1+1)) then (some (.ret (-1))) else ((aQ p0a s3.2).bind fun x11=>if x11.2.2.1 !=(IntKind.i64.wrap ((IntKind.i64.wrap (s3.1+1))+1)) then (some (.ret (-1))) else ((aQ p0a s3.2).bind fun x12=>if x12.2.2.2 !=(IntKind.i64.wrap ((IntKind.i64.wrap ((IntKind.i64.wrap (s3.1+1))+1))+1)) then (some (.ret (-1))) else (some (.nxt (IntKind.i64.wrap ((IntKind.i64.wrap ((IntKind.i64.wrap ((IntKind.i64.wrap (s3.1+1))+1))+1))+1),IntKind.i64.wrap (s3.2+1)))))))) else (some (.brk (s3.1,s3.2)))
def lR (p0a:List Yq4) (p1k:Int):Option Int:=
 aP (ax (iK p0a) aX (p1k,0)) (fun r=>some r) (fun s4=>some s4.1)
def eu (p0a:List Yq9) (s3:Int×Int):Option yZ:=
 if decide (s3.2<(p0a.length:Int)) then ((aQ p0a s3.2).bind fun x7=>if x7.1 !=s3.1 then (some (.ret (-1))) else ((aQ p0a s3.2).bind fun x8=>(lR x8.2.1 (IntKind.i64.wrap (s3.1+1))).bind fun r6=>if decide (r6<0) then (some (.ret (-1))) else ((aQ p0a s3.2).bind fun x9=>if x9.2.2 !=r6 then (some (.ret (-1))) else (some (.nxt (IntKind.i64.wrap (r6+1),IntKind.i64.wrap (s3.2+1))))))) else (some (.brk (s3.1,s3.2)))
def gg (p0a:List Yq9) (p1k:Int):Option Int:=
 aP (ax (eu p0a) aX (p1k,0)) (fun r=>some r) (fun s4=>some s4.1)
def jy (p0a:(List Yq2)×Yq3) (p1k:Int):Option Int:=
 (gJ p0a.1 p1k).bind fun r1=>if decide (r1<0) then (some (-1)) else ((gg p0a.2 r1).bind fun r2=>if decide (r2<0) then (some (-1)) else (some r2))
def ez (p0a:List Yq7) (s3:Int×Int):Option yZ:=
 if decide (s3.2<(p0a.length:Int)) then ((aQ p0a s3.2).bind fun x7=>if x7.1 !=s3.1 then (some (.ret (-1))) else ((aQ p0a s3.2).bind fun x8=>if x8.2.1 !=(IntKind.i64.wrap (s3.1+1)) then (some (.ret (-1))) else ((aQ p0a s3.2).bind fun x9=>if x9.2.2 !=(IntKind.i64.wrap ((IntKind.i64.wrap (s3.1+1))+1)) then (some (.ret (-1))) else (some (.nxt (IntKind.i64.wrap ((IntKind.i64.wrap ((IntKind.i64.wrap (s3.1+1))+1))+1),IntKind.i64.wrap (s3.2+1))))))) else (some (.brk (s3.1,s3.2)))
def gh (p0a:List Yq7) (p1k:Int):Option Int:=
 aP (ax (ez p0a) aX (p1k,0)) (fun r=>some r) (fun s4=>some s4.1)
def gA (p0a:(Int×Yq5)×Yq8×(List Yq7)×ByteArray) (p1k:Int):Option Int:=
 (kE (p0a.1.1,p0a.1.2) p1k).bind fun r1=>if decide (r1<0) then (some (-1)) else ((jy (p0a.2.1.1,p0a.2.1.2) r1).bind fun r2=>if decide (r2<0) then (some (-1)) else ((gh p0a.2.2.1 r2).bind fun r3=>if decide (r3<0) then (some (-1)) else (some r3)))
def bh (p0s:List Yq7) (p1f:Yq7->Option Bool) (s3:Int):Option (Out Int Int):=
 if decide (s3<(p0s.length:Int)) then ((aQ p0s s3).bind fun x3=>(p1f (x3.1,x3.2.1,x3.2.2)).bind fun r3=>if r3 then (some (.ret s3)) else (some (.nxt (IntKind.i64.wrap (s3+1))))) else (some (.brk s3))
def aR (p0s:List Yq7) (p1f:Yq7->Option Bool):Option Int:=
 aP (ax (bh p0s p1f) aX 0) (fun r=>some r) (fun s4=>some (-1))
def lS (p0l:List Yq7) (p1id:Int) (s3:Int):Option (Out Int Int):=
 if decide (s3<(p0l.length:Int)) then ((aQ p0l s3).bind fun x3=>if x3.1==p1id then (some (.ret s3)) else (some (.nxt (IntKind.i64.wrap (s3+1))))) else (some (.brk s3))
def qe (p0l:List Yq7) (p1id:Int):Option Int:=
 aP (ax (lS p0l p1id) aX 0) (fun r=>some r) (fun s4=>some (-1))
def eA (p0:(Int×Yq5)×Yq8×(List Yq7)×ByteArray) (p1:Int) (s3:Int):Option (Out (Wl×Bool) Int):=
 if decide (s3<(p0.2.2.1.length:Int)) then ((aQ p0.2.2.1 s3).bind fun x3=>if decide (x3.1<p1) then (some (.nxt (IntKind.i64.wrap (s3+1)))) else (some (.brk s3))) else (some (.brk s3))
def gi (p0:(Int×Yq5)×Yq8×(List Yq7)×ByteArray) (p1:Int) (p2:Int):Option (Wl×Bool):=
 (qd ((p0.1.1,p0.1.2),(p0.2.1.1,p0.2.1.2),p0.2.2.1,p0.2.2.2)).bind fun r1=>(iA ((p0.1.1,p0.1.2),(p0.2.1.1,p0.2.1.2),p0.2.2.1,p0.2.2.2)).bind fun r2=>if r2 then ((cH p1 1 99).bind fun r3=>if r3 then ((qe p0.2.2.1 p1).bind fun r4=>if decide (r4≥0) then (some (((r1.1.1,r1.1.2),(r1.2.1.1,r1.2.1.2),r1.2.2.1,r1.2.2.2),false)) else ((iz (p0.2.1.1,p0.2.1.2) p2).bind fun r5=>if decide (r5<0) then (some (((r1.1.1,r1.1.2),(r1.2.1.1,r1.2.1.2),r1.2.2.1,r1.2.2.2),false)) else (if (p0.2.2.1.length:Int)==4 then (some (((r1.1.1,r1.1.2),(r1.2.1.1,r1.2.1.2),r1.2.2.1,r1.2.2.2),false)) else (aP (ax (eA p0 p1) aX 0) (fun r=>some r) (fun s4=>(chk (0<=s4/\s4<=(p0.2.2.1.length:Int))).bind fun _=>(cz 24 ([] :List Yq7) (p0.2.2.1.take s4.toNat)).bind fun z1=>(cz 24 z1 ([(p1,p2,0)])).bind fun z2=>(chk (0<=s4/\s4<=(p0.2.2.1.length:Int))).bind fun _=>(cz 24 z2 (p0.2.2.1.drop s4.toNat)).bind fun z3=>some (((r1.1.1,r1.1.2),(r1.2.1.1,r1.2.1.2),z3,r1.2.2.2),true)))))) else (some (((r1.1.1,r1.1.2),(r1.2.1.1,r1.2.1.2),r1.2.2.1,r1.2.2.2),false))) else (some (((r1.1.1,r1.1.2),(r1.2.1.1,r1.2.1.2),r1.2.2.1,r1.2.2.2),false))
def jz (p0s:Int×Int×Int) (q0:Int):Option Bool:=
 some (p0s.1==q0)
def oO (p0e:(Int×Yq5)×Yq8×(List Yq7)×ByteArray) (p1id:Int):Option Int:=
 (aR p0e.2.2.1 (fun a0=>jz a0 p1id)).bind fun r1=>some r1
def bG (p0:List Yq7) (p1:Int) (p2:List Yq7):Option ((List Yq7)×(List Yq7)):=R.Vt 24 p0 p1 p2
def kP (p1:Int) (r0:(Int×List ((List Int)×List Yq4))×((List (Int×(List Bool)×List (List Int)))×List (Int×Yq1×Int))×(List Yq7)×ByteArray) (s6:Int):Option (Out Zt Int):=
 if decide (s6<(r0.2.2.1.length:Int)) then ((aQ r0.2.2.1 s6).bind fun x7=>if decide (x7.1<p1) then (some (.nxt (IntKind.i64.wrap (s6+1)))) else (some (.brk s6))) else (some (.brk s6))
def dS (p0:(Int×List ((List Int)×List Yq4))×((List (Int×(List Bool)×List (List Int)))×List (Int×Yq1×Int))×(List Yq7)×ByteArray) (p1:Int) (p2:Int):Option Zt:=
 (lN ((p0.1.1,p0.1.2),(p0.2.1.1,p0.2.1.2),p0.2.2.1,p0.2.2.2)).bind fun r0=>(iF ((p0.1.1,p0.1.2),(p0.2.1.1,p0.2.1.2),p0.2.2.1,p0.2.2.2)).bind fun r1=>if r1 then ((bX p1 1 99).bind fun r2=>if r2 then ((oO ((p0.1.1,p0.1.2),(p0.2.1.1,p0.2.1.2),p0.2.2.1,p0.2.2.2) p1).bind fun r3=>if decide (r3≥0) then (some (((r0.1.1,r0.1.2),(r0.2.1.1,r0.2.1.2),r0.2.2.1,r0.2.2.2),false)) else ((iE (p0.2.1.1,p0.2.1.2) p2).bind fun r4=>if decide (r4<0) then (some (((r0.1.1,r0.1.2),(r0.2.1.1,r0.2.1.2),r0.2.2.1,r0.2.2.2),false)) else (if (p0.2.2.1.length:Int)==4 then (some (((r0.1.1,r0.1.2),(r0.2.1.1,r0.2.1.2),r0.2.2.1,r0.2.2.2),false)) else (aP (ax (kP p1 r0) aX 0) (fun r8=>some r8) (fun s9=>(bG r0.2.2.1 s9 ([(p1,p2,0)])).bind fun r10=>some (((r0.1.1,r0.1.2),(r0.2.1.1,r0.2.1.2),r10.1,r0.2.2.2),true)))))) else (some (((r0.1.1,r0.1.2),(r0.2.1.1,r0.2.1.2),r0.2.2.1,r0.2.2.2),false))) else (some (((r0.1.1,r0.1.2),(r0.2.1.1,r0.2.1.2),r0.2.2.1,r0.2.2.2),false))
def cV (p0:(Int×Yq5)×Yq8×(List Yq7)×ByteArray) (p1:Int) (p2:Int):Option Bool:=
 (oe ((p0.1.1,p0.1.2),(p0.2.1.1,p0.2.1.2),p0.2.2.1,p0.2.2.2) 1048576).bind fun r1=>if decide (r1<0) then (some true) else ((gZ ((p0.1.1,p0.1.2),(p0.2.1.1,p0.2.1.2),p0.2.2.1,p0.2.2.2)).bind fun r2=>(gi ((r2.1.1,r2.1.2),(r2.2.1.1,r2.2.1.2),r2.2.2.1,r2.2.2.2) p1 p2).bind fun r3=>(gZ ((p0.1.1,p0.1.2),(p0.2.1.1,p0.2.1.2),p0.2.2.1,p0.2.2.2)).bind fun r4=>(dS ((r4.1.1,r4.1.2),(r4.2.1.1,r4.2.1.2),r4.2.2.1,r4.2.2.2) p1 p2).bind fun r5=>(ic ((r5.1.1.1,r5.1.1.2),(r5.1.2.1.1,r5.1.2.1.2),r5.1.2.2.1,r5.1.2.2.2) ((r3.1.1.1,r3.1.1.2),(r3.1.2.1.1,r3.1.2.1.2),r3.1.2.2.1,r3.1.2.2.2)).bind fun r6=>if r6 then (if r5.2 !=r3.2 then (some false) else ((gZ ((p0.1.1,p0.1.2),(p0.2.1.1,p0.2.1.2),p0.2.2.1,p0.2.2.2)).bind fun r7=>(ic ((r4.1.1,r4.1.2),(r4.2.1.1,r4.2.1.2),r4.2.2.1,r4.2.2.2) ((r7.1.1,r7.1.2),(r7.2.1.1,r7.2.1.2),r7.2.2.1,r7.2.2.2)).bind fun r8=>if r8 then ((eY ((r4.1.1,r4.1.2),(r4.2.1.1,r4.2.1.2),r4.2.2.1,r4.2.2.2) 1).bind fun r9=>if decide (r9.1<0) then (some false) else ((ic ((r5.1.1.1,r5.1.1.2),(r5.1.2.1.1,r5.1.2.1.2),r5.1.2.2.1,r5.1.2.2.2) ((r3.1.1.1,r3.1.1.2),(r3.1.2.1.1,r3.1.2.1.2),r3.1.2.2.1,r3.1.2.2.2)).bind fun r10=>if r10 then (if r5.2 !=r3.2 then (some false) else ((eY ((r5.1.1.1,r5.1.1.2),(r5.1.2.1.1,r5.1.2.1.2),r5.1.2.2.1,r5.1.2.2.2) 1).bind fun r11=>(gA ((r5.1.1.1,r11.2.1.2),(r11.2.2.1.1,r11.2.2.1.2),r11.2.2.2.1,r5.1.2.2.2) 1).bind fun r12=>if decide (r12<0) then (some false) else (if r12 !=r11.1 then (some false) else ((gZ ((p0.1.1,p0.1.2),(p0.2.1.1,p0.2.1.2),p0.2.2.1,p0.2.2.2)).bind fun r13=>(dS ((r13.1.1,r13.1.2),(r13.2.1.1,r13.2.1.2),r13.2.2.1,r13.2.2.2) p1 p2).bind fun r14=>(ic ((r14.1.1.1,r14.1.1.2),(r14.1.2.1.1,r14.1.2.1.2),r14.1.2.2.1,r14.1.2.2.2) ((r3.1.1.1,r3.1.1.2),(r3.1.2.1.1,r3.1.2.1.2),r3.1.2.2.1,r3.1.2.2.2)).bind fun r15=>if r15 then (if r14.2 !=r3.2 then (some false) else ((gA ((r5.1.1.1,r11.2.1.2),(r11.2.2.1.1,r11.2.2.1.2),r11.2.2.2.1,r5.1.2.2.2) 1).bind fun r16=>if decide (r16<0) then (some false) else (if r16 !=r11.1 then (some false) else (some true)))) else (some false))))) else (some false))) else (some false))) else (some false))
end D
end Go.Proofs.YtilionjghdjbdaaGreatDoor
