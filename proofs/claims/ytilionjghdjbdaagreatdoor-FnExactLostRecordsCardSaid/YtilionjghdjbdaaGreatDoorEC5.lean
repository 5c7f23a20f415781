/- FnExactLostRecords: for every input the law returns true and changes nothing that was there. Part 6 of 8. -/
import Derived.Test.YtilionjghdjbdaaGreatDoorEC4
set_option linter.unusedVariables false
set_option linter.unusedSimpArgs false
set_option linter.unnecessarySimpa false
set_option linter.unusedSectionVars false
set_option maxRecDepth 1000000
namespace Go.Proofs.YtilionjghdjbdaaGreatDoor
namespace R
open Go.RowKit
open D
theorem zq {vs:List Value} : ∀ {ts:List Ty} {i:Nat} {us:List Value} {d:gD ts},us.length=ts.length->(∀j v,us[j]? =some v->vs[i+j]? =some v)->rQ i ts d (.tuple vs.toArray)=tv ts us d
 | [],i,us,d,h,_=>by
  cases us with
  | nil=>rfl
  | cons _ _=>cases h
 | t::ts,i,[],d,h,_=>by cases h
 | t::ts,i,u::us,d,h,k=>by
  have h0:vg (.tuple vs.toArray) [i] =u:=by
   show vs.toArray.getD i undef=u
   have:=k 0 u rfl
   rw[Nat.add_zero] at this
   simp[Array.getD_eq_getD_getElem?,this]
  show Ch.own t.rep (gE t.isProd (vg (.tuple vs.toArray) [i])) d.1::rQ (i+1) ts d.2 _=Ch.own t.rep (gE t.isProd u) d.1::tv ts us d.2
  rw[h0,zq (us:=us) (by simpa using h) fun j v hj=>by
   have:=k (j+1) v (by simpa using hj)
   rwa [show i+(j+1)=i+1+j from by omega] at this]
theorem Hk {ts:List Ty} {vs:List Value} {d:gD ts} (h:vs.length=ts.length):resGv ts d (TL vs)=tv ts vs d:=by
 match ts,vs,d,h with
 | [],[],d,_=>rfl
 | [t],[v],d,_=>rfl
 | t::u::ts,v::w::vs,d,h =>
  show rQ 0 _ d (.tuple (v::w::vs).toArray)=_
  exact zq h fun j x hj=>by rw[Nat.zero_add];exact hj
theorem Ns {ts:List Ty} {vs:List Value} (h:vs.length=ts.length) (k: ∀(i:Nat) t v,ts[i]? =some t->vs[i]? =some v->mH v=t.isProd):resFa ts (TL vs):=by
 match ts,vs,h with
 | [],[],_=>exact ⟨#[],rfl,rfl,fun i t ht=>by simp at ht⟩
 | [t],[v],_=>exact k 0 t v rfl rfl
 | t::u::ts,v::w::vs,h =>
  refine ⟨(v::w::vs).toArray,rfl,by simpa using h,fun i t' ht=>?_⟩
  have hlt:i<(v::w::vs).length:=by rw[h];exact (List.getElem?_eq_some_iff.1 ht).1
  have:=k i t' ((v::w::vs)[i]) ht (List.getElem?_eq_getElem hlt)
  rw[<-this,Array.getD_eq_getD_getElem?,List.getElem?_toArray,List.getElem?_eq_getElem hlt];rfl
theorem wT {P:Program} {I:Hp} {w0 w:World} {F:Ch} {J:Hp} {θ:Th} {n:Nat} {s:Sg} {a:Act} {tt:TT} (hT:TTok P tt) (hS:Sim P I w0 F n J θ s a w): ∀ {rs:List ResultVar} {vs:List AV},zp tt s rs=some vs->FU P a w rs (vs.map (·.v θ))/\ ∀v∈vs,v.ok P w0 J θ s.nxt s.chs
 | [],vs,h=>by
  obtain rfl:=ae (show some [] =some vs from h)
  exact ⟨rfl,fun v hv=>by cases hv⟩
 | r::rs,vs,h=>by
  obtain ⟨v,hv',h⟩:=bind_some (show (Q7 tt s r).bind _=some vs from h)
  obtain ⟨us,hus,h⟩:=bind_some h
  obtain rfl:=ae h
  obtain ⟨k1,k2⟩:=Nq hT hS hv'
  obtain ⟨q1,q2⟩:=wT hT hS hus
  refine ⟨⟨_,_,rfl,k1,q1⟩,fun x hx=>?_⟩
  rcases aA hx with rfl | hx
  ·exact k2
  ·exact q2 x hx
theorem Kb {J:Hp} {a b c d:List Ch} (h:nB J a b) (k:nB J c d):nB J (a++c) (b++d):=fun w F hs=>by
 obtain ⟨G,K,rfl,e1,e2⟩:=hs.split
 exact (h w G e1).append (k w K e2)
theorem St.sepTo {J:Hp} {w0 w:World} {a b C:List Ch} (h:St J w0 w (a++C)) (k:nB J a b):St J w0 w (b++C):=by
 obtain ⟨h1,h2,F,h3,h4,h5⟩:=h
 obtain ⟨G,K,rfl,e1,e2⟩:=h3.split
 exact ⟨h1,h2,G++K,(k w G e1).append e2,h4,h5⟩
theorem zr {P:Program} {n:Nat} {I:Hp} {w0:World} {k:FuncId} {fn:Func} {c:Code} {args:Array Value} {rn:List Ch} {fact:Value->Prop} {gv:Value->List Ch} (L:List (Nat×Value)) (hf:P.funcs[k]? =some fn) (hb:fn.body=some c) (hn:fn.ntmps=n) (hm:args.size<=n) (hL: ∀p∈L,args[p.1]? =some p.2)
  (h: ∀F w a,Agr n a L->St I w0 w (rn++ [F])->c.wp P (bodyPost P fn fun e w'=> ∃v,e= .returned v/\fact v/\ ∃J,I.le J/\St J w0 w' (gv v++ [F])) a w) (hd: ∀v,Ch.back (gv v)):Con P k args I w0 rn fact gv:=by
 intro w C hs
 have hs':St I w0 w (rn++ [Ch.fr I C]):=by
  obtain ⟨hb,hi,F,h1,h2,h3⟩:=hs
  obtain ⟨G,K,rfl,e1,e2⟩:=h1.split
  exact ⟨hb,hi,G++K,e1.append ⟨K,[],by simp,e2,rfl⟩,h2,h3⟩
 have:=h (Ch.fr I C) w { tmps:=args++Array.replicate (fn.ntmps - args.size) undef,defers:=[] } (Agr.start L (by omega) hL) hs'
 refine (calls_of_wp hf hb this).mono ?_
 rintro e w' ⟨v,rfl,hv,J,hJ,hs⟩
 exact ⟨v,rfl,hv,hs.back hJ (hd v)⟩
theorem Nt {P:Program} {I:Hp} {w0 w:World} {F:Ch} {n:Nat} {J:Hp} {θ:Th} {s:Sg} {a:Act} {tr:Trs} {vs:List AV} (hS:Sim P I w0 F n J θ s a w): ∃J' θ',J.le J'/\Sim P I w0 F n J' θ' (Nr tr vs s) a w/\Fr s θ (Nr tr vs s) θ':=by
 have key: ∃J' θ',J.le J'/\Sim P I w0 F n J' θ' (CE tr vs s) a w/\Fr s θ (CE tr vs s) θ':=by
  unfold CE
  split
  ·exact ⟨J,θ,Hp.le.rfl,hS,Fr.rfl⟩
  ·exact qW hS
 obtain ⟨J',θ',h1,h2,h3⟩:=key
 obtain ⟨S2,F2⟩:=pW (V:=⟨[],[],[],n,[]⟩) (hs:=Eb s vs++vI (CE tr vs s).chs) h2
 exact ⟨J',θ',h1,S2,h3.trans F2⟩
theorem O2 {V:Env} {P:Program} {w0:World} {F:Ch} {J:Hp} {θ:Th} (hT:TTok P V.tt) {fn:Func} {rs:List Ty} {ps:List PM} {d:denP ps} {vs:List Value} {s0:Sg} (k0:vs.length=ps.length) (k5:StF P w0 J θ ps.length 0 ps vs d) (hn0:ps.length<=s0.nxt): ∀r J' θ' s' a' w',Ka V fn.results.toList rs ps d s'=some r->Sim P J w0 F V.n J' θ' s' a' w'->J.le J'->Fr s0 θ s' θ'->
  bodyPost P fn (fun e w'=> ∃v,e= .returned v/\(resFa rs v/\(zi 1000000 V.an=true->uh rs (hFst rs (outs ps) (toH _ r)) v))/\ ∃J2,J.le J2/\St J2 w0 w' ((resGv rs (hFst rs (outs ps) (toH _ r)) v++outCh ps vs (hSnd rs (outs ps) (toH _ r)))++ [F])) .ret a' w':=by
 intro r J' θ' s' a' w' hrt hS' hJ hFr
 obtain ⟨vs00,hv00,hrt⟩:=bind_some (show (zp V.tt s' fn.results.toList).bind _=some r from hrt)
 obtain ⟨s0',hrt,S0,N0⟩:=Fy hrt (wT hT hS' hv00).2 hS'
 obtain ⟨vs0,hv0,hrt⟩:=bind_some hrt
 obtain ⟨J1,θ1,hJ1,S1,F1⟩:=Nt (tr:=V.tr) (vs:=vs0) S0
 generalize Nr V.tr vs0 s0'=s1 at hrt S1 F1
 have hle:s0.nxt<=s'.nxt:=hFr.1
 have hsame:Same ps.length θ θ1:=fun i hi=>(F1.same i (by omega)).trans (hFr.same i (by omega))
 replace hJ:=hJ.trans hJ1
 clear hJ1 F1 hS' S0 hFr
 revert J1 θ1
 clear J' θ'
 intro J' θ' S1 hsame hJ
 obtain ⟨us,hus,hrt⟩:=bind_some hrt
 obtain ⟨q,hq,hrt⟩:=bind_some hrt
 obtain ⟨o,ho,hrt⟩:=bind_some hrt
 obtain ⟨u0,hnl,hrt⟩:=bind_some hrt
 obtain rfl:=ae hrt
 obtain ⟨r1,r2⟩:=wT hT S1 hus
 obtain ⟨t1,t2,t3,t4⟩:=zo (J:=J') (θ:=θ') hq r2
 obtain ⟨o1,o2⟩:=e8 (P:=P) (J:=J) (J':=J') (θ:=θ) (θ':=θ') (vs:=vs) (n:=ps.length) (n':=s1.nxt) (chs0:=s1.chs) hJ hsame ho k0 k5 fun e he=>S1.fine.chs e (t1.mem_iff.2 (by simp[he]))
 have hl:(us.map (·.v θ')).length=rs.length:=by rw[List.length_map];exact t2
 refine Um S1.agr r1 ⟨_,rfl,⟨Ns hl fun i t v ht hv1=>?_,fun han=>?_⟩,J',hJ,?_⟩
 ·rw[List.getElem?_map] at hv1
  obtain ⟨x,hx,rfl⟩:=Option.map_eq_some_iff.1 hv1
  exact t4 i t x ht hx
 ·rw[Ea,AL]
  unfold SJ at hnl
  rw[han] at hnl
  have hnl:0<nlN us rs q.1:=bB hnl
  rcases us with _ | ⟨x,us⟩
  ·cases hnl
  ·cases us with
   | nil=>exact SK (θ:=θ') hnl rfl
   | cons y us=>unfold nlN at hnl;split at hnl <;> first | omega | simp_all
 ·rw[Ea,AL,FV,Hk hl]
  have hp:=t1.trans (o1.append_left _)
  have h1:=S1.st.perm ((hp.map (toCh P θ')).append_right [F])
  have h2:St J' w0 w' ((q.2.1.map (toCh P θ')++o.2.1.map (toCh P θ'))++(o.2.2.map (toCh P θ')++ [F])):=by
   simpa [aM,ah] using h1
  have h3:=St.sepTo h2 (Kb t3 o2)
  refine St.left (ds:=o.2.2.map (toCh P θ')) (h3.perm ?_)
  simp only[ah]
  exact List.Perm.append_left _ (List.Perm.append_left _ List.perm_append_comm)
theorem Rb {V:Env} {P:Program} (hT:TTok P V.tt) (hF:FTok P V.ft) (hmx:P.follows .mixedOrders=true) {k:FuncId} {fn:Func} {c:Code} {f:FS} (hf:P.funcs[k]? =some fn) (hb:fn.body=some c) (hn:fn.ntmps=V.n) (hen:Enters P k) (hm:f.ps.length<=V.n) (hdp:(B1 f.rs&&wu f.ps)=true) (ann:Ann)
  (hmod: ∀d,appP f.ps f.m d=iM V (Ka V fn.results.toList f.rs f.ps d) c ann (fun r=>some r) (fun _ _=>none) (Ka V fn.results.toList f.rs f.ps d) (oK (wS f.ps d))): ∀w0 J vs (d:denP f.ps) r,Lay P J->PArgs P w0 J f.ps vs d->appP f.ps f.m d=some r->Con P k vs.toArray J w0 (owCh f.ps vs d) (fun v=>resFa f.rs v/\(zi 1000000 V.an=true->uh f.rs (hFst f.rs (outs f.ps) (toH _ r)) v)) (fun v=>resGv f.rs (hFst f.rs (outs f.ps) (toH _ r)) v++outCh f.ps vs (hSnd f.rs (outs f.ps) (toH _ r))):=by
 rw[ai] at hdp
 intro w0 J vs d r hlay ha hr
 rw[hmod] at hr
 let θ:Th:=fun i=>vs.getD i undef
 have hθ: ∀j v,vs[j]? =some v->θ (0+j)=v:=fun j v hj=>by
  show vs.getD (0+j) undef=v
  rw[Nat.zero_add,List.getD_eq_getElem?_getD,hj];rfl
 have k0:=CD ha
 have hzip: ∀p∈(vs.zipIdx.map fun q=>(q.2,q.1)),vs.toArray[p.1]? =some p.2:=fun p hp=>by
  obtain ⟨q,hq,rfl⟩:=List.mem_map.1 hp
  obtain ⟨v,j⟩:=q
  have:=(List.mk_mem_zipIdx_iff_getElem? (x:=v) (i:=j)).1 hq
  simpa using this
 refine zr (n:=V.n) (vs.zipIdx.map fun q=>(q.2,q.1)) hf hb hn (by rw[List.size_toArray,k0];exact hm) hzip (fun F w a hA hst=>?_) (fun v=>th (eH _ _ _ hdp.2) _ _ hdp.1)
 ·obtain ⟨k1,k2,k3,k4,k5⟩:=FR (n:=f.ps.length) (C:=[F]) ha hθ (by omega) hst
  have hfine:Fine P w0 J θ (wS f.ps d):=⟨fun e he=>(k1 e he).1 _,fun e he=>by have:=k1 e he;show e.2.1<f.ps.length;omega,k2,fun e he=>k4 e he _,hlay⟩
  have hA':Agr V.n a (envL θ (wS f.ps d)):=hA.pick _ fun p hp=>by
   obtain ⟨e,he,rfl⟩:=List.mem_map.1 hp
   have h5:=(k1 e he).2.2.2.2
   rw[Nat.sub_zero] at h5
   have key: ∀(l:List Value) (k:Nat) (i:Nat) (v:Value),k<=i->l[i - k]? =some v->((l.zipIdx k).map fun q=>(q.2,q.1)).lookup i=some v:=by
    intro l
    induction l with
    | nil=>intro k i v _ h;simp at h
    | cons x l ih =>
     intro k i v hk h
     simp only[List.zipIdx_cons,List.map_cons,List.lookup_cons]
     by_cases e:i=k
     ·subst e
      simp at h
      simp[h]
     ·have:(i==k)=false:=by simpa using e
      rw[this]
      refine ih (k+1) i v (by omega) ?_
      rw[show i - k=(i - (k+1))+1 from by omega] at h
      simpa using h
   exact key vs 0 e.1 _ (Nat.zero_le _) h5
  have hS:Sim P J w0 F V.n J θ (wS f.ps d) a w:=⟨Hp.le.rfl,hA',k3,hfine⟩
  have fin:=O2 (rs:=f.rs) (fn:=fn) (F:=F) hT k0 k5 (az (wS f.ps d).nxt)
  obtain ⟨θ0,hS0,hFr0⟩:=vC hS
  exact (wR (I:=J) (w0:=w0) (F:=F) hT hF hmx c).1 ann hr hS0 (fun J' θ' s' a' w' hk S' hJ hFr=>fin r J' θ' s' a' w' hk S' hJ (hFr0.trans hFr)) (fun i J' θ' s' a' w' hk=>by cases hk) (fun r' J' θ' s' a' w' hrt hrr hS' hJ hFr=>by
   obtain rfl:=ae hrr
   exact fin _ J' θ' s' a' w' hrt hS' hJ (hFr0.trans hFr))
theorem fok {V:Env} {P:Program} (hT:TTok P V.tt) (hF:FTok P V.ft) (hmx:P.follows .mixedOrders=true) {k:FuncId} {fn:Func} {c:Code} {f:FS} (hf:P.funcs[k]? =some fn) (hb:fn.body=some c) (hn:fn.ntmps=V.n) (hen:Enters P k) (hcl:f.cl=none) (hm:f.ps.length<=V.n) (hdp:(B1 f.rs&&wu f.ps)=true) (ann:Ann)
  (hmod: ∀d,appP f.ps f.m d=iM V (Ka V fn.results.toList f.rs f.ps d) c ann (fun r=>some r) (fun _ _=>none) (Ka V fn.results.toList f.rs f.ps d) (oK (wS f.ps d))):FOk P k f:=
 ⟨fun q hq=>by (rw[hcl] at hq;cases hq),fun _=>hen,fun w0 J vs d r hlay ha hr w C hs=>(Rb hT hF hmx hf hb hn hen hm hdp ann hmod w0 J vs d r hlay ha hr w C hs).mono fun e w' ⟨v,h1,h2,h3⟩=>⟨v,h1,h2.1,h3⟩⟩
theorem FW {V:Env} {P:Program} (hT:TTok P V.tt) (hF:FTok P V.ft) (hmx:P.follows .mixedOrders=true) {k:FuncId} {fn:Func} {c:Code} {E b:Nat} (hf:P.funcs[k]? =some fn) (hb:fn.body=some c) (hn:fn.ntmps=V.n) (hen:Enters P k) (hm:1<=V.n) (ann:Ann)
  (hmod: ∀(E':TypeId) (bn:Bool) (xs:List Raw),(match bn with | true=>some ([] :List Raw) | false=>(di b [] xs).bind fun zs=>some zs)=iM V (Ka V fn.results.toList [.sl E .raw] [] ()) c ann (fun r=>some r) (fun _ _=>none) (Ka V fn.results.toList [.sl E .raw] [] ()) ⟨[(0,0,.one (.rdn ⟨0,[]⟩ bn (.sl E' .raw) xs))],[],1⟩):tc P k E b:=by
 refine ⟨hen,fun E' J w0 v xs zs hlay hrd uZ=>?_⟩
 obtain ⟨bn,hbn⟩: ∃bn,yU v=bn:=⟨_,rfl⟩
 have hr:iM V (Ka V fn.results.toList [.sl E .raw] [] ()) c ann (fun r=>some r) (fun _ _=>none) (Ka V fn.results.toList [.sl E .raw] [] ()) ⟨[(0,0,.one (.rdn ⟨0,[]⟩ bn (.sl E' .raw) xs))],[],1⟩=some zs:=by
  rw[<-hmod E' bn xs]
  cases bn with
  | false =>
   show (di b [] xs).bind _=_
   rw[uZ];rfl
  | true =>
   obtain ⟨h1,-⟩:=Av uZ
   obtain ⟨ao,cap,e,-,hx⟩:=hrd
   obtain rfl:v= .slice ao xs.length cap:=by simpa using e
   rcases hx with rfl | ⟨b,off,ccs,t,fr,rfl,-⟩
   ·rw[h1];rfl
   ·cases hbn
 let θ:Th:=fun _=>v
 have key:Con P k #[v] J w0 [] (fun v=>resFa [.sl E .raw] v/\(zi 1000000 V.an=true->uh [.sl E .raw] (zs,()) v)) (fun v=>resGv [.sl E .raw] (zs,()) v++ []):=by
  refine zr (n:=V.n) [(0,v)] hf hb hn hm (fun p hp=>by obtain rfl:=aw hp;rfl) (fun F w a hA hst=>?_) (fun u=>th (D:=[]) trivial [.sl E .raw] (zs,()) rfl)
  have hfine:Fine P w0 J θ ⟨[(0,0,.one (.rdn ⟨0,[]⟩ bn (.sl E' .raw) xs))],[],1⟩:=⟨fun e he=>by obtain rfl:=aw he;exact ⟨Nat.one_pos,hrd,hbn⟩,fun e he=>by obtain rfl:=aw he;exact Nat.one_pos,List.pairwise_singleton _ _,fun e he=>(by cases he),hlay⟩
  have hS:Sim P J w0 F V.n J θ ⟨[(0,0,.one (.rdn ⟨0,[]⟩ bn (.sl E' .raw) xs))],[],1⟩ a w:=⟨Hp.le.rfl,hA,hst,hfine⟩
  have fin:=O2 (V:=V) (θ:=θ) (J:=J) (w0:=w0) (rs:=[.sl E .raw]) (ps:=[]) (d:=()) (vs:=[]) (s0:=⟨[(0,0,.one (.rdn ⟨0,[]⟩ bn (.sl E' .raw) xs))],[],1⟩) (fn:=fn) (F:=F) hT rfl trivial (Nat.zero_le _)
  exact (wR (I:=J) (w0:=w0) (F:=F) hT hF hmx c).1 ann hr hS (fun J' θ' s' a' w' hk S' hJ hFr=>fin _ J' θ' s' a' w' hk S' hJ hFr) (fun i J' θ' s' a' w' hk=>by cases hk) (fun r' J' θ' s' a' w' hrt hrr hS' hJ hFr=>by
   obtain rfl:=ae hrr
   exact fin _ J' θ' s' a' w' hrt hS' hJ hFr)
 exact fun w C hs=>(key w C hs).mono fun e w' ⟨v,h1,h2,h3⟩=>⟨v,h1,trivial,h3⟩
theorem iN {P:Program} {k:FuncId} {f:FS} (h:Enters P k) (hc:f.cl=none) (hm: ∀d,appP f.ps f.m d=none):FOk P k f:=
 ⟨fun q hq=>by (rw[hc] at hq;cases hq),fun _=>h,fun _ _ _ d r _ _ hr=>by rw[hm d] at hr;cases hr⟩
theorem CF {P:Program} {k:FuncId} {f:FS} {E b:Nat} (h:FOk P k ⟨f.ps,f.rs,f.m,none⟩) (hc:tc P k E b) (hb:Nat.beq b 0=false:=by rfl) (h7:Nat.beq b 7=false:=by rfl) (h8:Nat.ble 1000 b=false:=by rfl):FOk P k ⟨f.ps,f.rs,f.m,some (E,b)⟩:=
 ⟨fun q hq=>by obtain rfl:=ae hq;exact ⟨⟨fun e=>(by rw[hb] at e;cases e),fun _ _ _=>hc,fun e=>(by rw[h8] at e;cases e)⟩,fun e=>(by rw[h7] at e;cases e)⟩,fun _=>h.en rfl,h.con⟩
end R
namespace R
open Go.RowKit
open D
end R
namespace R
open Go.RowKit Go.Shelf Go.Sort
open D
def Nu (xs:List ByteArray) (sep:ByteArray):Option ByteArray:=(chk (xs.length<=140737488355328/\(Lib.join (xs.map (·.data.toList)) sep.data.toList).length<=140737488355328)).bind fun _=>some ⟨(Lib.join (xs.map (·.data.toList)) sep.data.toList).toArray⟩
def Nv (n:Int):Option ByteArray:=(chk (-9223372036854775808<=n/\n<=9223372036854775807)).bind fun _=>some ⟨(Lib.itoa n).toArray⟩
section
variable {P:Program} {ρ:Ren}
theorem St.grownS {I:Hp} {w0 w:World} {cs:List Ch} (h:St I w0 w cs) (os:Array Obj):St I w0 (grow w os) cs:=by
 refine St.step (w:=w) (c:=[]) (c':=[]) h rfl rfl rfl (by simp[grow]) ?_
 rintro F rfl - -
 exact ⟨fun b hb _=>heap_grow_old w os hb,[],rfl,List.nodup_nil,by simp⟩
theorem St.belowS {I:Hp} {w0 w w':World} {cs:List Ch} (h:St I w0 w cs) (hb:Below w.heap.size w w'):St I w0 w' cs:=by
 refine St.step (w:=w) (c:=[]) (c':=[]) h hb.os hb.tape hb.output hb.size ?_
 rintro F rfl - -
 exact ⟨fun b hb' _=>hb.block b hb',[],rfl,List.nodup_nil,by simp⟩
theorem Nw (L:LaysM.n171 P ρ) (en:Enters P (ρ.f 171)):FOk P (ρ.f 171) ⟨[.rd (.int .i64)],[.str],fun n=>Nv n,none⟩:=by
 refine ⟨fun q hq=>(by cases hq),fun _=>en,fun w0 J vs d r hlay ha uZ=>?_⟩
 obtain ⟨v,vs1,rfl,⟨c1,l1,r1⟩,hnil⟩:=ha
 obtain rfl:vs1= []:=hnil
 obtain ⟨n0,un⟩:=d
 let n:Int:=n0
 obtain rfl:c1= [v]:=l1
 obtain rfl:v= .int .i64 n:=(List.cons.inj r1).1
 obtain ⟨u1,hc,hz⟩:=Option.bind_eq_some_iff.1 (show Nv n=some r from uZ)
 have hc:=bB hc
 obtain rfl:=ae hz
 intro w C hst
 have hst:St J w0 w C:=hst
 refine (Any.strconv_Itoa L n hc.1 hc.2 w (hlay w hst.2.1).tab).mono ?_
 rintro e w' ⟨rfl,k,os,rfl⟩
 have hw:St J w0 (w.drewN k) C:=hst.drawn rfl rfl rfl rfl
 exact ⟨_,rfl,rfl,D.St.free (R:=zT) (c:=[.string _]) (St.grownS hw os) ⟨rfl,rfl⟩⟩
theorem Nx (L:Lays.n156 P ρ) (X:Builder.Extra P ρ) (E:TypeId) (en:Enters P (ρ.f 156)):FOk P (ρ.f 156) ⟨[.rd (.sl E .str),.rd .str],[.str],fun xs s=>Nu xs s,none⟩:=by
 refine ⟨fun q hq=>(by cases hq),fun _=>en,fun w0 J vs d r hlay ha uZ=>?_⟩
 obtain ⟨v,vs1,rfl,⟨c1,l1,r1⟩,v2,vs2,rfl,⟨c2,l2,r2⟩,hnil⟩:=ha
 obtain rfl:vs2= []:=hnil
 obtain ⟨xs0,sep,un⟩:=d
 let xs:List ByteArray:=xs0
 obtain rfl:c1= [v]:=l1
 obtain rfl:c2= [v2]:=l2
 obtain rfl:v2= .string sep:=(List.cons.inj r2).1
 obtain ⟨u1,hc,hz⟩:=Option.bind_eq_some_iff.1 (show Nu xs sep=some r from uZ)
 have hc:=bB hc
 obtain rfl:=ae hz
 obtain ⟨ao,cap,hv,⟨hl,hcap⟩,hx⟩:((af E zT).rd J [v] xs):=r1
 obtain rfl:=(List.cons.inj hv).1
 intro w C hst
 have hst:St J w0 w C:=hst
 rcases hx with hx | ⟨b,off,ccs,t,fr,rfl,h2,h4⟩
 ·have hx:xs= []:=hx
  rw[hx] at hc⊢
  refine (Any.strings_Join_none L X ao cap sep w).mono ?_
  rintro e w' ⟨rfl,rfl⟩
  refine ⟨_,rfl,rfl,?_⟩
  exact D.St.free (R:=zT) (c:=[.string _]) hst ⟨rfl,rfl⟩
 ·have hg:=hst.2.1 _ _ h2
  have hblk:b<w.heap.size:=(Array.getElem?_eq_some_iff.1 hg).1
  refine (Any.strings_Join L X b off cap xs sep w (fun j x hj=>?_) hblk hc.1 hcap hc.2).mono ?_
  ·obtain ⟨c,e1,e2,e3⟩:=h4 j x hj
   obtain rfl:c= [.string x]:=e3
   have:=e2 0 Nat.one_pos
   have e:off+j*zT.size+0=off+j:=by show off+j*1+0=_;omega
   rw[e] at this
   unfold World.cell?
   have hg:w.heap[b]? =some (.cells ccs t fr):=hg
   simp only[hg]
   rw[<-Array.getElem?_toList,this]
   rfl
  ·rintro e w' ⟨rfl,hb⟩
   exact ⟨_,rfl,rfl,D.St.free (R:=zT) (c:=[.string _]) (St.belowS hst hb) ⟨rfl,rfl⟩⟩
end
end R
namespace D
open Go.RowKit Go.Shelf
theorem Rc {I:Hp} {w0 w:World} {cs:List Ch} {α:Type} {E:TypeId} {enc:α->Value} {h1: ∀a,(enc a).oneCell'=true} {b:Nat} {xs:List α} (hl:xs.length<=lim) (h:St I w0 w (Ch.blk b (xs.map enc) E::cs)):St I w0 w (Ch.own (af E (jn α enc h1)) [.slice (some ⟨b,0,none⟩) xs.length xs.length] xs::cs):=by
 obtain ⟨hb,hi,F,⟨G,K,rfl,⟨rfl,hg⟩,e⟩,h4,h5⟩:=h
 refine ⟨hb,hi,[b] ++K,⟨[b],K,rfl,⟨hl,.inr ⟨b,0,xs.length,_,[],rfl,hg,az _,hl,?_,rfl,?_⟩⟩,e⟩,h4,h5⟩
 ·show 0+xs.length*1<=_
  simp
 ·refine gY.2 ⟨rfl,[],?_⟩
  simp
end D
namespace R
open Go.RowKit Go.Shelf Go.Sort
open D
def FX (s sep:ByteArray):Option (List ByteArray):=(chk (s.size<4294967281/\1<=sep.size)).bind fun _=>some (Lib.splitB sep 0 (Lib.countB s sep) s)
def SL (s sep:ByteArray):Option (ByteArray×ByteArray×Bool):=(chk (s.size<4294967281)).bind fun _=>some (⟨(Lib.cut s.data.toList sep.data.toList).1.toArray⟩,⟨(Lib.cut s.data.toList sep.data.toList).2.1.toArray⟩,(Lib.cut s.data.toList sep.data.toList).2.2)
def tw (s:ByteArray) (c:Int):Option Int:=some (Lib.indexByte s.data.toList c.toNat.toUInt8)
def pa (s:ByteArray):Option (Int×Bool):=
 if 10<s.size then some (0,false) else
 match Lib.atoi s.data.toList with
 | none=>some (0,false)
 | some n=>if (⟨(Lib.itoa n).toArray⟩:ByteArray)=s/\ -999999999<=n/\n<=999999999 then some (n,true) else some (0,false)
section
variable {P:Program} {ρ:Ren}
theorem Kc (L:Lays.n146 P ρ) (hi9:(P.info? (ρ.t 9)).map (fun i=>(i.zero,i.size,i.bytes))=some (some (.string ByteArray.empty),1,16)) (m1:P.globalNamed "internal/bytealg.MaxLen" =some (ρ.g 1)) (en:Enters P (ρ.f 146)):FOk P (ρ.f 146) ⟨[.rd .str,.rd .str],[.sl (ρ.t 9) .str],fun s sep=>FX s sep,none⟩:=by
 refine ⟨fun q hq=>(by cases hq),fun _=>en,fun w0 J vs d r hlay ha uZ=>?_⟩
 obtain ⟨v,vs1,rfl,⟨c1,l1,r1⟩,v2,vs2,rfl,⟨c2,l2,r2⟩,hnil⟩:=ha
 obtain rfl:vs2= []:=hnil
 obtain ⟨s0,sep0,un⟩:=d
 let s:ByteArray:=s0
 let sep:ByteArray:=sep0
 obtain rfl:c1= [v]:=l1
 obtain rfl:c2= [v2]:=l2
 obtain rfl:v= .string s:=(List.cons.inj r1).1
 obtain rfl:v2= .string sep:=(List.cons.inj r2).1
 obtain ⟨u1,hc,hz⟩:=Option.bind_eq_some_iff.1 (show FX s sep=some r from uZ)
 have hc:=bB hc
 obtain rfl:=ae hz
 intro w C hst
 have hst:St J w0 w C:=hst
 obtain ⟨g,m,hg,hm⟩:=(hlay w hst.2.1).len
 obtain rfl:=ae (m1.symm.trans hg)
 refine (Any.strings_Split L hi9 s sep m w hc.1 hm hc.2).mono ?_
 rintro e w' ⟨rfl,rfl⟩
 refine ⟨_,rfl,rfl,?_⟩
 have hlen:(Lib.splitB sep 0 (Lib.countB s sep) s).length=Lib.countB s sep+1:=Lib.splitB_all sep hc.2 0 _ s rfl
 have hle:=Lib.countB_le sep hc.2 s.size s (az _)
 have h3:=D.Rc (E:=ρ.t 9) (enc:=Value.string) (h1:=fun _=>rfl) (b:=w.heap.size) (xs:=Lib.splitB sep 0 (Lib.countB s sep) s) (by rw[hlen];have:lim=9223372036854775807:=rfl;omega) (hst.alloc _ _)
 rw[hlen] at h3
 exact h3
theorem Rd (L:Lays.n145 P ρ) (m1:P.globalNamed "internal/bytealg.MaxLen" =some (ρ.g 1)) (en:Enters P (ρ.f 145)):FOk P (ρ.f 145) ⟨[.rd .str,.rd .str],[.str,.str,.bool],fun s sep=>SL s sep,none⟩:=by
 refine ⟨fun q hq=>(by cases hq),fun _=>en,fun w0 J vs d r hlay ha uZ=>?_⟩
 obtain ⟨v,vs1,rfl,⟨c1,l1,r1⟩,v2,vs2,rfl,⟨c2,l2,r2⟩,hnil⟩:=ha
 obtain rfl:vs2= []:=hnil
 obtain ⟨s0,sep0,un⟩:=d
 let s:ByteArray:=s0
 let sep:ByteArray:=sep0
 obtain rfl:c1= [v]:=l1
 obtain rfl:c2= [v2]:=l2
 obtain rfl:v= .string s:=(List.cons.inj r1).1
 obtain rfl:v2= .string sep:=(List.cons.inj r2).1
 obtain ⟨u1,hc,hz⟩:=Option.bind_eq_some_iff.1 (show SL s sep=some r from uZ)
 have hc:=bB hc
 obtain rfl:=ae hz
 intro w C hst
 have hst:St J w0 w C:=hst
 obtain ⟨g,m,hg,hm⟩:=(hlay w hst.2.1).len
 obtain rfl:=ae (m1.symm.trans hg)
 refine (Any.strings_Cut L s sep m w hc hm).mono ?_
 rintro e w' ⟨rfl,n,rfl⟩
 refine ⟨_,rfl,⟨_,rfl,rfl,fun i t ht=>?_⟩,?_⟩
 ·rcases i with _ | _ | _ | i
  all_goals first | (obtain rfl:=ae ht;rfl) | cases ht
 ·have hw:St J w0 (w.drewN n) C:=hst.drawn rfl rfl rfl rfl
  exact D.St.free (R:=zT) (c:=[.string _]) (D.St.free (R:=zT) (c:=[.string _]) (D.St.free (R:=lO) (c:=[.bool _]) hw ⟨rfl,rfl⟩) ⟨rfl,rfl⟩) ⟨rfl,rfl⟩
theorem AM (L:Lays.n137 P ρ) (en:Enters P (ρ.f 137)):FOk P (ρ.f 137) ⟨[.rd .str,.rd (.int .u8)],[.int .i64],fun s c=>tw s c,none⟩:=by
 refine ⟨fun q hq=>(by cases hq),fun _=>en,fun w0 J vs d r hlay ha uZ=>?_⟩
 obtain ⟨v,vs1,rfl,⟨c1,l1,r1⟩,v2,vs2,rfl,⟨c2,l2,r2⟩,hnil⟩:=ha
 obtain rfl:vs2= []:=hnil
 obtain ⟨s0,c0,un⟩:=d
 let s:ByteArray:=s0
 let c:Int:=c0
 obtain rfl:c1= [v]:=l1
 obtain rfl:c2= [v2]:=l2
 obtain rfl:v= .string s:=(List.cons.inj r1).1
 obtain rfl:v2= .int .u8 c:=(List.cons.inj r2).1
 obtain rfl:=ae (show tw s c=some r from uZ)
 intro w C hst
 have hst:St J w0 w C:=hst
 refine (Any.strings_IndexByte L s c w).mono ?_
 rintro e w' ⟨rfl,rfl⟩
 exact ⟨_,rfl,rfl,D.St.free (R:=a8) (c:=[.int .i64 _]) hst ⟨rfl,rfl⟩⟩
theorem Re {α:Type} {E:TypeId} {R:Rep α} {I:Hp} {w0 w:World} {v:List Value} {xs:List α} {C:List Ch} (h:St I w0 w (Ch.own (af E R) v xs::C)):St I w0 w (Ch.own (af E (HY R)) v xs::C):=by
 obtain ⟨hb,hi,F,⟨G,K,rfl,⟨hl,e2⟩,e3⟩,h4,h5⟩:=h
 rcases e2 with ⟨rfl,rfl,rfl⟩ | ⟨g,ofs,cap,cur,K1,hv,k1,k2,k3,k4,k6,k5⟩
 ·exact ⟨hb,hi,_,⟨_,K,rfl,⟨hl,.inl ⟨rfl,rfl,rfl⟩⟩,e3⟩,h4,h5⟩
 ·exact ⟨hb,hi,_,⟨_,K,rfl,⟨hl,.inr ⟨g,ofs,cap,cur,K1,hv,k1,k2,k3,k4,k6,OwnEls.turn (R:=R) (S:=HY R) rfl (fun c x G hx=>Ik hx) k5⟩⟩,e3⟩,h4,h5⟩
theorem FY {P:Program} {k:FuncId} {ps:List PM} {A B t:Ty} {E:TypeId} {m:curP ps (Option (dens ([A,.sl E t,B] ++outs ps)))} (h:FOk P k ⟨ps,[A,.sl E t,B],m,none⟩):FOk P k ⟨ps,[A,.sl E (.bag t),B],m,none⟩:=by
 refine ⟨fun q hq=>(by cases hq),fun hq=>h.en hq,fun w0 J vs d r hlay ha uZ=>?_⟩
 refine (h.con w0 J vs d r hlay ha uZ).imp (fun v hv=>?_) (fun v _ w C hs=>?_)
 ·obtain ⟨us,rfl,h1,h2⟩:=hv
  refine ⟨us,rfl,h1,fun i u hu=>?_⟩
  rcases i with _ | _ | _ | i
  ·obtain rfl:=ae hu;exact h2 0 _ rfl
  ·obtain rfl:=ae hu;exact h2 1 (.sl E t) rfl
  ·obtain rfl:=ae hu;exact h2 2 _ rfl
  ·cases hu
 ·exact ((Re (hs.perm (List.Perm.swap ..))).perm (List.Perm.swap ..))
theorem Ke {k:FuncId} {m:ByteArray->Option (Int×Bool)} (en:Enters P k) (h: ∀s r w,m s=some r->LayW P w->Calls P k #[.string s] w fun e w'=>e= .returned (.tuple #[.int .i64 r.1,.bool r.2])/\Below w.heap.size w w'):FOk P k ⟨[.rd .str],[.int .i64,.bool],fun s=>m s,none⟩:=by
 refine ⟨fun q hq=>(by cases hq),fun _=>en,fun w0 J vs d r hlay ha uZ=>?_⟩
 obtain ⟨v,vs1,rfl,⟨c1,l1,r1⟩,hnil⟩:=ha
 obtain rfl:vs1= []:=hnil
 obtain ⟨s0,un⟩:=d
 let s:ByteArray:=s0
 obtain rfl:c1= [v]:=l1
 obtain rfl:v= .string s:=(List.cons.inj r1).1
 intro w C hst
 have hst:St J w0 w C:=hst
 refine (h s r w uZ (hlay w hst.2.1)).mono ?_
 rintro e w' ⟨rfl,hb⟩
 refine ⟨_,rfl,⟨_,rfl,rfl,fun i t ht=>?_⟩,?_⟩
 ·rcases i with _ | _ | i
  all_goals first | (obtain rfl:=ae ht;rfl) | cases ht
 ·exact D.St.free (R:=a8) (c:=[.int .i64 _]) (D.St.free (R:=lO) (c:=[.bool _]) (St.belowS hst hb) ⟨rfl,rfl⟩) ⟨rfl,rfl⟩
end
end R
namespace R
open Go.Shelf
def uv:Go.Shelf.Ren:=⟨fun | 156=>194 | 165=>234 | 166=>235 | 169=>236 | 240=>272 | 241=>273 | 276=>312 | 277=>313 | n=>n,fun | 31=>205 | 9=>9 | 3=>3 | 4=>4 | 0=>0 | 20=>20 | 72=>252 | 76=>244 | 70=>250 | 37=>222 | 75=>243 | 127=>286 | 164=>317 | 5=>5 | 80=>254 | n=>n,fun | n=>n⟩
theorem Ny:Go.Proofs.Lays.n156 Tryz.prog uv:= {
 mixed:=by kernel_rfl
 f156:=Tryz.func194.trans (congrArg some (by kernel_rfl))
 f165:=Tryz.func234.trans (congrArg some (by kernel_rfl))
 f166:=Tryz.func235.trans (congrArg some (by kernel_rfl))
 f169:=Tryz.func236.trans (congrArg some (by kernel_rfl))
 f240:=Tryz.func272.trans (congrArg some (by kernel_rfl))
 f241:=Tryz.func273.trans (congrArg some (by kernel_rfl))
 f276:=Tryz.func312.trans (congrArg some (by kernel_rfl))
 f277:=Tryz.func313.trans (congrArg some (by kernel_rfl))
 t0:=Tryz.underlying0
 a0:=Tryz.isAgg0
 z0:=Tryz.sizeOf0
 v0:=Tryz.zeroValue0
 t3:=Tryz.underlying3
 a3:=Tryz.isAgg3
 z3:=Tryz.sizeOf3
 v3:=Tryz.zeroValue3
 t4:=Tryz.underlying4
 a4:=Tryz.isAgg4
 z4:=Tryz.sizeOf4
 v4:=Tryz.zeroValue4
 t9:=Tryz.underlying9
 a9:=Tryz.isAgg9
 z9:=Tryz.sizeOf9
 v9:=Tryz.zeroValue9
 t20:=Tryz.underlying20
 a20:=Tryz.isAgg20
 z20:=Tryz.sizeOf20
 v20:=Tryz.zeroValue20
 t31:=Tryz.underlying205
 a31:=Tryz.isAgg205
 z31:=Tryz.sizeOf205
 v31:=Tryz.zeroValue205
 t37:=Tryz.underlying222
 a37:=Tryz.isAgg222
 z37:=Tryz.sizeOf222
 v37:=Tryz.zeroValue222
 t70:=Tryz.underlying250
 a70:=Tryz.isAgg250
 z70:=Tryz.sizeOf250
 v70:=Tryz.zeroValue250
 t72:=Tryz.underlying252
 a72:=Tryz.isAgg252
 z72:=Tryz.sizeOf252
 v72:=Tryz.zeroValue252
 t75:=Tryz.underlying243
 a75:=Tryz.isAgg243
 z75:=Tryz.sizeOf243
 v75:=Tryz.zeroValue243
 t76:=Tryz.underlying244
 a76:=Tryz.isAgg244
 z76:=Tryz.sizeOf244
 v76:=Tryz.zeroValue244
 t127:=Tryz.underlying286
 a127:=Tryz.isAgg286
 z127:=Tryz.sizeOf286
 v127:=Tryz.zeroValue286
 t164:=Tryz.underlying317
 a164:=Tryz.isAgg317
 z164:=Tryz.sizeOf317
 v164:=Tryz.zeroValue317 }
def CG:Go.Shelf.Ren:=⟨fun | 171=>195 | 243=>237 | 246=>274 | 283=>314 | 284=>315 | 285=>316 | 286=>317 | 129=>338 | 317=>337 | 318=>339 | 319=>340 | 320=>341 | 337=>352 | 338=>353 | n=>n,fun | 3=>3 | 9=>9 | 2=>2 | 4=>4 | 171=>320 | 0=>0 | 53=>321 | 37=>222 | 5=>5 | 173=>324 | 212=>343 | 51=>344 | 20=>20 | 213=>345 | 46=>295 | 232=>369 | 233=>370 | n=>n,fun | 17=>3 | 18=>6 | 19=>7 | n=>n⟩
theorem FZ:Go.Proofs.LaysM.n171 Tryz.prog CG:= {
 mixed:=by kernel_rfl
 f129:=Tryz.func338.trans (congrArg some (by kernel_rfl))
 f171:=Tryz.func195.trans (congrArg some (by kernel_rfl))
 f243:=Tryz.func237.trans (congrArg some (by kernel_rfl))
 f246:=Tryz.func274.trans (congrArg some (by kernel_rfl))
 f283:=Tryz.func314.trans (congrArg some (by kernel_rfl))
 f284:=Tryz.func315.trans (congrArg some (by kernel_rfl))
 f285:=Tryz.func316.trans (congrArg some (by kernel_rfl))
 f286:=Tryz.func317.trans (congrArg some (by kernel_rfl))
 f317:=Tryz.func337.trans (congrArg some (by kernel_rfl))
 f318:=Tryz.func339.trans (congrArg some (by kernel_rfl))
 f319:=Tryz.func340.trans (congrArg some (by kernel_rfl))
 f320:=Tryz.func341.trans (congrArg some (by kernel_rfl))
 f337:=Tryz.func352.trans (congrArg some (by kernel_rfl))
 f338:=Tryz.func353.trans (congrArg some (by kernel_rfl))
 t0:=Tryz.underlying0
 a0:=Tryz.isAgg0
 z0:=Tryz.sizeOf0
 v0:=Tryz.zeroValue0
 t2:=Tryz.underlying2
 a2:=Tryz.isAgg2
 z2:=Tryz.sizeOf2
 v2:=Tryz.zeroValue2
 t3:=Tryz.underlying3
 a3:=Tryz.isAgg3
 z3:=Tryz.sizeOf3
 v3:=Tryz.zeroValue3
 t4:=Tryz.underlying4
 a4:=Tryz.isAgg4
 z4:=Tryz.sizeOf4
 v4:=Tryz.zeroValue4
 t5:=Tryz.underlying5
 a5:=Tryz.isAgg5
 z5:=Tryz.sizeOf5
 v5:=Tryz.zeroValue5
 t9:=Tryz.underlying9
 a9:=Tryz.isAgg9
 z9:=Tryz.sizeOf9
 v9:=Tryz.zeroValue9
 t20:=Tryz.underlying20
 a20:=Tryz.isAgg20
 z20:=Tryz.sizeOf20
 v20:=Tryz.zeroValue20
 t37:=Tryz.underlying222
 a37:=Tryz.isAgg222
 z37:=Tryz.sizeOf222
 v37:=Tryz.zeroValue222
 t46:=Tryz.underlying295
 a46:=Tryz.isAgg295
 z46:=Tryz.sizeOf295
 v46:=Tryz.zeroValue295
 t51:=Tryz.underlying344
 a51:=Tryz.isAgg344
 z51:=Tryz.sizeOf344
 v51:=Tryz.zeroValue344
 t53:=Tryz.underlying321
 a53:=Tryz.isAgg321
 z53:=Tryz.sizeOf321
 v53:=Tryz.zeroValue321
 t171:=Tryz.underlying320
 a171:=Tryz.isAgg320
 z171:=Tryz.sizeOf320
 v171:=Tryz.zeroValue320
 t173:=Tryz.underlying324
 a173:=Tryz.isAgg324
 z173:=Tryz.sizeOf324
 v173:=Tryz.zeroValue324
 t212:=Tryz.underlying343
 a212:=Tryz.isAgg343
 z212:=Tryz.sizeOf343
 v212:=Tryz.zeroValue343
 t213:=Tryz.underlying345
 a213:=Tryz.isAgg345
 z213:=Tryz.sizeOf345
 t232:=Tryz.underlying369
 a232:=Tryz.isAgg369
 z232:=Tryz.sizeOf369
 v232:=Tryz.zeroValue369
 t233:=Tryz.underlying370
 a233:=Tryz.isAgg370
 z233:=Tryz.sizeOf370
 v233:=Tryz.zeroValue370
 g17:=by kernel_rfl
 g18:=by kernel_rfl
 g19:=by kernel_rfl
 i0:=by kernel_rfl
 i2:=by kernel_rfl
 i3:=by kernel_rfl
 i4:=by kernel_rfl
 i5:=by kernel_rfl
 i9:=by kernel_rfl
 i20:=by kernel_rfl
 i37:=by kernel_rfl
 i46:=by kernel_rfl
 i51:=by kernel_rfl
 i53:=by kernel_rfl
 i171:=by kernel_rfl
 i173:=by kernel_rfl
 i212:=by kernel_rfl
 i232:=by kernel_rfl
 i233:=by kernel_rfl
 m17:=by kernel_rfl
 m18:=by kernel_rfl
 m19:=by kernel_rfl }
def AN:Go.Shelf.Ren:=⟨fun | 146=>171 | 221=>225 | 268=>265 | 138=>266 | 143=>267 | 195=>302 | 197=>303 | 218=>304 | 219=>305 | 260=>330 | 217=>170 | 225=>331 | 224=>332 | 267=>333 | 266=>224 | 314=>349 | n=>n,fun | 9=>9 | 31=>205 | 3=>3 | 4=>4 | 0=>0 | 105=>309 | 21=>21 | 5=>5 | 46=>295 | 119=>354 | 139=>357 | 138=>356 | 146=>358 | 51=>344 | n=>n,fun | 1=>0 | 3=>4 | 4=>5 | n=>n⟩
theorem Kf:Go.Proofs.Lays.n146 Tryz.prog AN:= {
 mixed:=by kernel_rfl
 f138:=Tryz.func266.trans (congrArg some (by kernel_rfl))
 f143:=Tryz.func267.trans (congrArg some (by kernel_rfl))
 f146:=Tryz.func171.trans (congrArg some (by kernel_rfl))
 f195:=Tryz.func302.trans (congrArg some (by kernel_rfl))
 f197:=Tryz.func303.trans (congrArg some (by kernel_rfl))
 f217:=Tryz.func170.trans (congrArg some (by kernel_rfl))
 f218:=Tryz.func304.trans (congrArg some (by kernel_rfl))
 f219:=Tryz.func305.trans (congrArg some (by kernel_rfl))
 f221:=Tryz.func225.trans (congrArg some (by kernel_rfl))
 f224:=Tryz.func332.trans (congrArg some (by kernel_rfl))
 f225:=Tryz.func331.trans (congrArg some (by kernel_rfl))
 f260:=Tryz.func330.trans (congrArg some (by kernel_rfl))
 f266:=Tryz.func224.trans (congrArg some (by kernel_rfl))
 f267:=Tryz.func333.trans (congrArg some (by kernel_rfl))
 f268:=Tryz.func265.trans (congrArg some (by kernel_rfl))
 f314:=Tryz.func349.trans (congrArg some (by kernel_rfl))
 t0:=Tryz.underlying0
 a0:=Tryz.isAgg0
 z0:=Tryz.sizeOf0
 v0:=Tryz.zeroValue0
 t3:=Tryz.underlying3
 a3:=Tryz.isAgg3
 z3:=Tryz.sizeOf3
 v3:=Tryz.zeroValue3
 t4:=Tryz.underlying4
 a4:=Tryz.isAgg4
 z4:=Tryz.sizeOf4
 v4:=Tryz.zeroValue4
 t5:=Tryz.underlying5
 a5:=Tryz.isAgg5
 z5:=Tryz.sizeOf5
 v5:=Tryz.zeroValue5
 t9:=Tryz.underlying9
 a9:=Tryz.isAgg9
 z9:=Tryz.sizeOf9
 v9:=Tryz.zeroValue9
 t21:=Tryz.underlying21
 a21:=Tryz.isAgg21
 z21:=Tryz.sizeOf21
 v21:=Tryz.zeroValue21
 t31:=Tryz.underlying205
 a31:=Tryz.isAgg205
 z31:=Tryz.sizeOf205
 v31:=Tryz.zeroValue205
 t46:=Tryz.underlying295
 a46:=Tryz.isAgg295
 z46:=Tryz.sizeOf295
 v46:=Tryz.zeroValue295
 t51:=Tryz.underlying344
 a51:=Tryz.isAgg344
 z51:=Tryz.sizeOf344
 v51:=Tryz.zeroValue344
 t105:=Tryz.underlying309
 a105:=Tryz.isAgg309
 z105:=Tryz.sizeOf309
 v105:=Tryz.zeroValue309
 t119:=Tryz.underlying354
 a119:=Tryz.isAgg354
 z119:=Tryz.sizeOf354
 t138:=Tryz.underlying356
 a138:=Tryz.isAgg356
 z138:=Tryz.sizeOf356
 v138:=Tryz.zeroValue356
 t139:=Tryz.underlying357
 a139:=Tryz.isAgg357
 z139:=Tryz.sizeOf357
 v139:=Tryz.zeroValue357
 t146:=Tryz.underlying358
 a146:=Tryz.isAgg358
 z146:=Tryz.sizeOf358
 v146:=Tryz.zeroValue358
 g1:=by kernel_rfl
 g3:=by kernel_rfl
 g4:=by kernel_rfl }
def Ec:Go.Shelf.Ren:=⟨fun | 145=>270 | 220=>311 | 219=>305 | 217=>170 | 225=>331 | 224=>332 | 267=>333 | 266=>224 | 314=>349 | n=>n,fun | 9=>9 | 4=>4 | 59=>284 | 3=>3 | 5=>5 | 46=>295 | 146=>358 | 51=>344 | n=>n,fun | 1=>0 | n=>n⟩
theorem Rf:Go.Proofs.Lays.n145 Tryz.prog Ec:= {
 mixed:=by kernel_rfl
 f145:=Tryz.func270.trans (congrArg some (by kernel_rfl))
 f217:=Tryz.func170.trans (congrArg some (by kernel_rfl))
 f219:=Tryz.func305.trans (congrArg some (by kernel_rfl))
 f220:=Tryz.func311.trans (congrArg some (by kernel_rfl))
 f224:=Tryz.func332.trans (congrArg some (by kernel_rfl))
 f225:=Tryz.func331.trans (congrArg some (by kernel_rfl))
 f266:=Tryz.func224.trans (congrArg some (by kernel_rfl))
 f267:=Tryz.func333.trans (congrArg some (by kernel_rfl))
 f314:=Tryz.func349.trans (congrArg some (by kernel_rfl))
 t3:=Tryz.underlying3
 a3:=Tryz.isAgg3
 z3:=Tryz.sizeOf3
 v3:=Tryz.zeroValue3
 t4:=Tryz.underlying4
 a4:=Tryz.isAgg4
 z4:=Tryz.sizeOf4
 v4:=Tryz.zeroValue4
 t5:=Tryz.underlying5
 a5:=Tryz.isAgg5
 z5:=Tryz.sizeOf5
 v5:=Tryz.zeroValue5
 t9:=Tryz.underlying9
 a9:=Tryz.isAgg9
 z9:=Tryz.sizeOf9
 v9:=Tryz.zeroValue9
 t46:=Tryz.underlying295
 a46:=Tryz.isAgg295
 z46:=Tryz.sizeOf295
 v46:=Tryz.zeroValue295
 t51:=Tryz.underlying344
 a51:=Tryz.isAgg344
 z51:=Tryz.sizeOf344
 v51:=Tryz.zeroValue344
 t59:=Tryz.underlying284
 a59:=Tryz.isAgg284
 z59:=Tryz.sizeOf284
 v59:=Tryz.zeroValue284
 t146:=Tryz.underlying358
 a146:=Tryz.isAgg358
 z146:=Tryz.sizeOf358
 v146:=Tryz.zeroValue358
 g1:=by kernel_rfl }
def tx:Go.Shelf.Ren:=⟨fun | 137=>112 | 217=>170 | 266=>224 | n=>n,fun | 9=>9 | 5=>5 | 3=>3 | n=>n,fun | n=>n⟩
theorem AO:Go.Proofs.Lays.n137 Tryz.prog tx:= {
 mixed:=by kernel_rfl
 f137:=Tryz.func112.trans (congrArg some (by kernel_rfl))
 f217:=Tryz.func170.trans (congrArg some (by kernel_rfl))
 f266:=Tryz.func224.trans (congrArg some (by kernel_rfl))
 t3:=Tryz.underlying3
 a3:=Tryz.isAgg3
 z3:=Tryz.sizeOf3
 v3:=Tryz.zeroValue3
 t5:=Tryz.underlying5
 a5:=Tryz.isAgg5
 z5:=Tryz.sizeOf5
 v5:=Tryz.zeroValue5
 t9:=Tryz.underlying9
 a9:=Tryz.isAgg9
 z9:=Tryz.sizeOf9
 v9:=Tryz.zeroValue9 }
def CH:Go.Shelf.Ren:=⟨fun | 172=>226 | 244=>268 | 245=>269 | 247=>306 | 279=>307 | 280=>308 | 281=>309 | 282=>310 | 287=>334 | 316=>335 | 171=>195 | 205=>336 | 321=>350 | 322=>351 | 243=>237 | 246=>274 | 283=>314 | 284=>315 | 285=>316 | 286=>317 | 129=>338 | 317=>337 | 318=>339 | 319=>340 | 320=>341 | 337=>352 | 338=>353 | n=>n,fun | 9=>9 | 3=>3 | 75=>243 | 76=>244 | 4=>4 | 5=>5 | 167=>311 | 37=>222 | 0=>0 | 85=>312 | 2=>2 | 168=>314 | 53=>321 | 175=>336 | 46=>295 | 210=>340 | 127=>286 | 145=>364 | 143=>362 | 21=>21 | 171=>320 | 173=>324 | 212=>343 | 51=>344 | 20=>20 | 213=>345 | 232=>369 | 233=>370 | 80=>254 | n=>n,fun | 15=>1 | 16=>2 | 17=>3 | 18=>6 | 19=>7 | n=>n⟩
theorem F5:Go.Proofs.LaysC.n172 Tryz.prog CH:= {
 mixed:=by kernel_rfl
 f129:=Tryz.func338.trans (congrArg some (by kernel_rfl))
 f171:=Tryz.func195.trans (congrArg some (by kernel_rfl))
 f172:=Tryz.func226.trans (congrArg some (by kernel_rfl))
 f205:=Tryz.func336.trans (congrArg some (by kernel_rfl))
 f243:=Tryz.func237.trans (congrArg some (by kernel_rfl))
 f244:=Tryz.func268.trans (congrArg some (by kernel_rfl))
 f245:=Tryz.func269.trans (congrArg some (by kernel_rfl))
 f246:=Tryz.func274.trans (congrArg some (by kernel_rfl))
 f247:=Tryz.func306.trans (congrArg some (by kernel_rfl))
 f279:=Tryz.func307.trans (congrArg some (by kernel_rfl))
 f280:=Tryz.func308.trans (congrArg some (by kernel_rfl))
 f281:=Tryz.func309.trans (congrArg some (by kernel_rfl))
 f282:=Tryz.func310.trans (congrArg some (by kernel_rfl))
 f283:=Tryz.func314.trans (congrArg some (by kernel_rfl))
 f284:=Tryz.func315.trans (congrArg some (by kernel_rfl))
 f285:=Tryz.func316.trans (congrArg some (by kernel_rfl))
 f286:=Tryz.func317.trans (congrArg some (by kernel_rfl))
 f287:=Tryz.func334.trans (congrArg some (by kernel_rfl))
 f316:=Tryz.func335.trans (congrArg some (by kernel_rfl))
 f317:=Tryz.func337.trans (congrArg some (by kernel_rfl))
 f318:=Tryz.func339.trans (congrArg some (by kernel_rfl))
 f319:=Tryz.func340.trans (congrArg some (by kernel_rfl))
 f320:=Tryz.func341.trans (congrArg some (by kernel_rfl))
 f321:=Tryz.func350.trans (congrArg some (by kernel_rfl))
 f322:=Tryz.func351.trans (congrArg some (by kernel_rfl))
 f337:=Tryz.func352.trans (congrArg some (by kernel_rfl))
 f338:=Tryz.func353.trans (congrArg some (by kernel_rfl))
 t0:=Tryz.underlying0
 a0:=Tryz.isAgg0
 z0:=Tryz.sizeOf0
 v0:=Tryz.zeroValue0
 t2:=Tryz.underlying2
 a2:=Tryz.isAgg2
 z2:=Tryz.sizeOf2
 v2:=Tryz.zeroValue2
 t3:=Tryz.underlying3
 a3:=Tryz.isAgg3
 z3:=Tryz.sizeOf3
 v3:=Tryz.zeroValue3
 t4:=Tryz.underlying4
 a4:=Tryz.isAgg4
 z4:=Tryz.sizeOf4
 v4:=Tryz.zeroValue4
 t5:=Tryz.underlying5
 a5:=Tryz.isAgg5
 z5:=Tryz.sizeOf5
 v5:=Tryz.zeroValue5
 t9:=Tryz.underlying9
 a9:=Tryz.isAgg9
 z9:=Tryz.sizeOf9
 v9:=Tryz.zeroValue9
 t20:=Tryz.underlying20
 a20:=Tryz.isAgg20
 z20:=Tryz.sizeOf20
 v20:=Tryz.zeroValue20
 t21:=Tryz.underlying21
 a21:=Tryz.isAgg21
 z21:=Tryz.sizeOf21
 v21:=Tryz.zeroValue21
 t37:=Tryz.underlying222
 a37:=Tryz.isAgg222
 z37:=Tryz.sizeOf222
 v37:=Tryz.zeroValue222
 t46:=Tryz.underlying295
 a46:=Tryz.isAgg295
 z46:=Tryz.sizeOf295
 v46:=Tryz.zeroValue295
 t51:=Tryz.underlying344
 a51:=Tryz.isAgg344
 z51:=Tryz.sizeOf344
 v51:=Tryz.zeroValue344
 t53:=Tryz.underlying321
 a53:=Tryz.isAgg321
 z53:=Tryz.sizeOf321
 v53:=Tryz.zeroValue321
 t75:=Tryz.underlying243
 a75:=Tryz.isAgg243
 z75:=Tryz.sizeOf243
 v75:=Tryz.zeroValue243
 t76:=Tryz.underlying244
 a76:=Tryz.isAgg244
 z76:=Tryz.sizeOf244
 v76:=Tryz.zeroValue244
 t85:=Tryz.underlying312
 a85:=Tryz.isAgg312
 z85:=Tryz.sizeOf312
 v85:=Tryz.zeroValue312
 t127:=Tryz.underlying286
 a127:=Tryz.isAgg286
 z127:=Tryz.sizeOf286
 v127:=Tryz.zeroValue286
 t143:=Tryz.underlying362
 a143:=Tryz.isAgg362
 z143:=Tryz.sizeOf362
 v143:=Tryz.zeroValue362
 t145:=Tryz.underlying364
 a145:=Tryz.isAgg364
 z145:=Tryz.sizeOf364
 v145:=Tryz.zeroValue364
 t167:=Tryz.underlying311
 a167:=Tryz.isAgg311
 z167:=Tryz.sizeOf311
 v167:=Tryz.zeroValue311
 t168:=Tryz.underlying314
 a168:=Tryz.isAgg314
 z168:=Tryz.sizeOf314
 v168:=Tryz.zeroValue314
 t171:=Tryz.underlying320
 a171:=Tryz.isAgg320
 z171:=Tryz.sizeOf320
 v171:=Tryz.zeroValue320
 t173:=Tryz.underlying324
 a173:=Tryz.isAgg324
 z173:=Tryz.sizeOf324
 v173:=Tryz.zeroValue324
 t175:=Tryz.underlying336
 a175:=Tryz.isAgg336
 z175:=Tryz.sizeOf336
 v175:=Tryz.zeroValue336
 t210:=Tryz.underlying340
 a210:=Tryz.isAgg340
 z210:=Tryz.sizeOf340
 v210:=Tryz.zeroValue340
 t212:=Tryz.underlying343
 a212:=Tryz.isAgg343
 z212:=Tryz.sizeOf343
 v212:=Tryz.zeroValue343
 t213:=Tryz.underlying345
 a213:=Tryz.isAgg345
 z213:=Tryz.sizeOf345
 t232:=Tryz.underlying369
 a232:=Tryz.isAgg369
 z232:=Tryz.sizeOf369
 v232:=Tryz.zeroValue369
 t233:=Tryz.underlying370
 a233:=Tryz.isAgg370
 z233:=Tryz.sizeOf370
 v233:=Tryz.zeroValue370
 g15:=by kernel_rfl
 g16:=by kernel_rfl
 g17:=by kernel_rfl
 g18:=by kernel_rfl
 g19:=by kernel_rfl
 t80:=Tryz.underlying254
 a80:=Tryz.isAgg254
 z80:=Tryz.sizeOf254
 v80:=Tryz.zeroValue254
 i0:=by kernel_rfl
 i2:=by kernel_rfl
 i3:=by kernel_rfl
 i4:=by kernel_rfl
 i5:=by kernel_rfl
 i9:=by kernel_rfl
 i20:=by kernel_rfl
 i21:=by kernel_rfl
 i37:=by kernel_rfl
 i46:=by kernel_rfl
 i51:=by kernel_rfl
 i53:=by kernel_rfl
 i75:=by kernel_rfl
 i76:=by kernel_rfl
 i80:=by kernel_rfl
 i85:=by kernel_rfl
 i127:=by kernel_rfl
 i143:=by kernel_rfl
 i145:=by kernel_rfl
 i167:=by kernel_rfl
 i168:=by kernel_rfl
 i171:=by kernel_rfl
 i173:=by kernel_rfl
 i175:=by kernel_rfl
 i210:=by kernel_rfl
 i212:=by kernel_rfl
 i232:=by kernel_rfl
 i233:=by kernel_rfl
 m15:=by kernel_rfl
 m16:=by kernel_rfl
 m17:=by kernel_rfl
 m18:=by kernel_rfl
 m19:=by kernel_rfl
 c0:=by kernel_rfl
 c2:=by kernel_rfl
 c3:=by kernel_rfl
 c4:=by kernel_rfl
 c5:=by kernel_rfl
 c9:=by kernel_rfl
 c20:=by kernel_rfl
 c21:=by kernel_rfl
 c37:=by kernel_rfl
 c46:=by kernel_rfl
 c51:=by kernel_rfl
 c53:=by kernel_rfl
 c75:=by kernel_rfl
 c76:=by kernel_rfl
 c80:=by kernel_rfl
 c85:=by kernel_rfl
 c127:=by kernel_rfl
 c143:=by kernel_rfl
 c145:=by kernel_rfl
 c167:=by kernel_rfl
 c168:=by kernel_rfl
 c171:=by kernel_rfl
 c173:=by kernel_rfl
 c175:=by kernel_rfl
 c210:=by kernel_rfl
 c212:=by kernel_rfl
 c213:=by kernel_rfl
 c232:=by kernel_rfl
 c233:=by kernel_rfl }
theorem Kg:Go.Proofs.Builder.Extra Tryz.prog uv where
 sizeBuilder:=by kernel_rfl
 liesBuilder:=by kernel_rfl
 t5:=Tryz.underlying5
 a5:=Tryz.isAgg5
 z5:=Tryz.sizeOf5
 v5:=Tryz.zeroValue5
 infoByte:=by kernel_rfl
 cellsByte:=by kernel_rfl
 sizeByte:=by kernel_rfl
 neB5:=by decide
end R
namespace R
open Go.RowKit
open D
def FldAll (P:Program) (T:TypeId):Nat->List (Nat×Nat)->Prop
 | _,[] =>True
 | i,q::l=>TF P T i q.1 q.2/\FldAll P T (i+1) l
theorem FldAll.get {P:Program} {T:TypeId} : ∀ {l:List (Nat×Nat)} {i:Nat},FldAll P T i l-> ∀f q,l[f]? =some q->TF P T (i+f) q.1 q.2
 | [],_,_,f,q,h=>by simp at h
 | x::l,i,⟨h1,h2⟩,f,q,h=>by
  cases f with
  | zero=>simp at h;subst h;exact h1
  | succ f =>
   have:=FldAll.get h2 f q (by simpa using h)
   rwa [show i+1+f=i+(f+1) from by omega] at this
section
variable {P:Program} {T:TypeId}
theorem qZ {n b:Nat} {ty:Ty} {z:Value} {boo:Bool} {ik:Option (Option IntKind)} (h1:TI P T false 1) (h2:ty.size=1) (h3:TZ P T z 1 b) (h4:z.cells=(zeroCells ty).toArray) (h5:1<=b) (h6:boo=true->P.underlying T=some .bool) (h7: ∀k,ik=some k->P.underlying T=some (ikD k)):TDok P T ⟨false,1,none,ty,[],some b,none,boo,none,none,ik,false,none⟩:=
 ⟨h1,rfl,h2,fun E h=>by simp at h,fun f q h=>by simp at h,fun b' h=>by obtain rfl:=ae h;exact ⟨z,h3,h4,h5⟩,fun pl h=>by simp at h,h6,(fun ks h=>by cases h),(fun m h=>by cases h),h7,(fun h=>by cases h),fun e h=>by cases h⟩
theorem mw {E:TypeId} {t:Ty} (h1:TI P T false 1) (h2:P.underlying T=some (.slice E)) (h3:TZ P T (.slice none 0 0) 1 24):TDok P T ⟨false,1,some E,.sl E t,[],some 24,none,false,none,none,none,false,none⟩:=
 ⟨h1,rfl,rfl,fun E' h=>by obtain rfl:=ae h;exact h2,fun f q h=>by simp at h,fun b' h=>by obtain rfl:=ae h;exact ⟨_,h3,rfl,by decide⟩,fun pl h=>by simp at h,(fun h=>by cases h),(fun ks h=>by cases h),(fun m h=>by cases h),(fun k h=>by cases h),(fun h=>by cases h),fun e h=>by cases h⟩
theorem jo {n b:Nat} {ty:Ty} {fs pl:List (Nat×Nat)} {z:Value} {eq:Option (List (Option IntKind))} (h1:TI P T true n) (h2:ty.size=n) (h3:FldAll P T 0 fs) (h4:TZ P T z n b) (h5:z.cells=(zeroCells ty).toArray) (h6:1<=b) (h7:TB P T pl) (h8: ∀ks,eq=some ks-> ∀w,Curq ks fun xs ys r=>EqT P T (.agg xs.toArray) (.agg ys.toArray) r w):TDok P T ⟨true,n,none,ty,fs,some b,some pl,false,eq,none,none,false,none⟩:=
 ⟨h1,rfl,h2,fun E h=>by simp at h,fun f q h=>by have:=h3.get f q h;rwa [Nat.zero_add] at this,fun b' h=>by obtain rfl:=ae h;exact ⟨z,h4,h5,h6⟩,fun pl' h=>by obtain rfl:=ae h;exact h7,(fun h=>by cases h),h8,(fun m h=>by cases h),(fun k h=>by cases h),(fun h=>by cases h),fun e h=>by cases h⟩
theorem wU {ty:Ty} {b:Nat} (h1:TI P T false 1) (h2:ty.size=1) (h3:TZ P T .nilFunc 1 b):TDok P T ⟨false,1,none,ty,[],none,none,false,none,none,none,true,none⟩:=
 ⟨h1,rfl,h2,fun E h=>by simp at h,fun f q h=>by simp at h,(fun b' h=>by cases h),(fun pl h=>by cases h),(fun h=>by cases h),(fun ks h=>by cases h),(fun m' h=>by cases h),(fun k h=>by cases h),(fun _=>⟨b,h3⟩),fun e h=>by cases h⟩
theorem Un {m:MD} {ty:Ty} (h1:TI P T false 1) (h2:ty.size=1) (h3:MDok P T m):TDok P T ⟨false,1,none,ty,[],none,none,false,none,some m,none,false,none⟩:=
 ⟨h1,rfl,h2,fun E h=>by simp at h,fun f q h=>by simp at h,(fun b' h=>by cases h),(fun pl h=>by cases h),(fun h=>by cases h),(fun ks h=>by cases h),(fun m' h=>by obtain rfl:=ae h;exact h3),(fun k h=>by cases h),(fun h=>by cases h),fun e h=>by cases h⟩
theorem Uo {e E:TypeId} {u:Ty} (h1:TI P T false 1) (h2:P.underlying T=some (.pointer e)) (h3:TZ P T (.pointer none) 1 8):TDok P T ⟨false,1,none,.fro (.tree e E u),[],some 8,none,false,none,none,none,false,some e⟩:=
 ⟨h1,rfl,rfl,fun E' h=>by simp at h,fun f q h=>by simp at h,fun b' h=>by obtain rfl:=ae h;exact ⟨_,h3,rfl,by decide⟩,fun pl h=>by simp at h,(fun h=>by cases h),(fun ks h=>by cases h),(fun m h=>by cases h),(fun k h=>by cases h),(fun h=>by cases h),fun e' h=>by obtain rfl:=ae h;exact h2⟩
end
end R
namespace D
open Go.RowKit
abbrev Yq1:Type:=(Int×Int×Int×Int)
abbrev Yq2:Type:=(Int×(List Bool)×(List (List Int)))
abbrev Yq3:Type:=(Int×((List Yq1))×Int)
abbrev Yq4:Type:=(Bool×Int×Int×Int×Int)
abbrev Yq5:Type:=((List Int)×(List Yq1))
abbrev Yq6:Type:=((List Yq2)×(List Yq3))
abbrev Yq7:Type:=((List Int)×Int×Int×(List Int)×Bool)
abbrev Yq8:Type:=(Int×Int×Int)
abbrev Yq9:Type:=(Out Int (Int×Int))
abbrev F6:Type:=(Int×(List Yq5))
def p9 (p0a:List Int) (p1left:Int):Option Int:=
 if decide (IntKind.i64.wrap (p1left - (p0a.length:Int))<0) then (some (-1)) else (some (IntKind.i64.wrap (p1left - (p0a.length:Int))))
def q7 (p0a:List Yq1) (p1left:Int):Option Int:=
 if decide (IntKind.i64.wrap (p1left - (p0a.length:Int))<0) then (some (-1)) else (some (IntKind.i64.wrap (p1left - (p0a.length:Int))))
def nI (p0a:(List Int)×(List Yq1)) (p1left:Int):Option Int:=
 (p9 p0a.1 p1left).bind fun r1=>if decide (r1<0) then (some (-1)) else ((q7 p0a.2 r1).bind fun r2=>if decide (r2<0) then (some (-1)) else (some r2))
def iO (p0a:List Yq5) (s3:Int×Int):Option Yq9:=
 if decide (s3.2<(p0a.length:Int)) then ((aY p0a s3.2).bind fun x3=>(nI (x3.1,x3.2) s3.1).bind fun r9=>if decide (r9<0) then (some (.ret (-1))) else (some (.nxt (r9,IntKind.i64.wrap (s3.2+1))))) else (some (.brk (s3.1,s3.2)))
def pb (p0a:List Yq5) (p1left:Int):Option Int:=
 if decide (IntKind.i64.wrap (p1left - (p0a.length:Int))<0) then (some (-1)) else (aV (aB (iO p0a) bg (IntKind.i64.wrap (p1left - (p0a.length:Int)),0)) (fun r=>some r) (fun s4=>some s4.1))
def kI (p0a:Int×(List Yq5)) (p1left:Int):Option Int:=
 (pb p0a.2 p1left).bind fun r1=>if decide (r1<0) then (some (-1)) else (some r1)
def q8 (p0a:List Bool) (p1left:Int):Option Int:=
 if decide (IntKind.i64.wrap (p1left - (p0a.length:Int))<0) then (some (-1)) else (some (IntKind.i64.wrap (p1left - (p0a.length:Int))))
def jL (p0a:List (List Int)) (s3:Int×Int):Option Yq9:=
 if decide (s3.2<(p0a.length:Int)) then ((aY p0a s3.2).bind fun x3=>(p9 x3 s3.1).bind fun r6=>if decide (r6<0) then (some (.ret (-1))) else (some (.nxt (r6,IntKind.i64.wrap (s3.2+1))))) else (some (.brk (s3.1,s3.2)))
def q9 (p0a:List (List Int)) (p1left:Int):Option Int:=
 if decide (IntKind.i64.wrap (p1left - (p0a.length:Int))<0) then (some (-1)) else (aV (aB (jL p0a) bg (IntKind.i64.wrap (p1left - (p0a.length:Int)),0)) (fun r=>some r) (fun s4=>some s4.1))
def iP (p0a:Int×(List Bool)×(List (List Int))) (p1left:Int):Option Int:=
 (q8 p0a.2.1 p1left).bind fun r1=>if decide (r1<0) then (some (-1)) else ((q9 p0a.2.2 r1).bind fun r2=>if decide (r2<0) then (some (-1)) else (some r2))
def fa (p0a:List Yq2) (s3:Int×Int):Option Yq9:=
 if decide (s3.2<(p0a.length:Int)) then ((aY p0a s3.2).bind fun x3=>(iP (x3.1,x3.2.1,x3.2.2) s3.1).bind fun r9=>if decide (r9<0) then (some (.ret (-1))) else (some (.nxt (r9,IntKind.i64.wrap (s3.2+1))))) else (some (.brk (s3.1,s3.2)))
def kt (p0a:List Yq2) (p1left:Int):Option Int:=
 if decide (IntKind.i64.wrap (p1left - (p0a.length:Int))<0) then (some (-1)) else (aV (aB (fa p0a) bg (IntKind.i64.wrap (p1left - (p0a.length:Int)),0)) (fun r=>some r) (fun s4=>some s4.1))
def pc (p0a:List Yq1) (p1left:Int):Option Int:=
 if decide (IntKind.i64.wrap (p1left - (p0a.length:Int))<0) then (some (-1)) else (some (IntKind.i64.wrap (p1left - (p0a.length:Int))))
def qa (p0a:(List Yq1)) (p1left:Int):Option Int:=
 (pc p0a p1left).bind fun r1=>if decide (r1<0) then (some (-1)) else (some r1)
def gN (p0a:Int×((List Yq1))×Int) (p1left:Int):Option Int:=
 (qa p0a.2.1 p1left).bind fun r1=>if decide (r1<0) then (some (-1)) else (some r1)
def ez (p0a:List Yq3) (s3:Int×Int):Option Yq9:=
 if decide (s3.2<(p0a.length:Int)) then ((aY p0a s3.2).bind fun x3=>(gN (x3.1,x3.2.1,x3.2.2) s3.1).bind fun r6=>if decide (r6<0) then (some (.ret (-1))) else (some (.nxt (r6,IntKind.i64.wrap (s3.2+1))))) else (some (.brk (s3.1,s3.2)))
def jv (p0a:List Yq3) (p1left:Int):Option Int:=
 if decide (IntKind.i64.wrap (p1left - (p0a.length:Int))<0) then (some (-1)) else (aV (aB (ez p0a) bg (IntKind.i64.wrap (p1left - (p0a.length:Int)),0)) (fun r=>some r) (fun s4=>some s4.1))
def jM (p0a:(List Yq2)×(List Yq3)) (p1left:Int):Option Int:=
 (kt p0a.1 p1left).bind fun r1=>if decide (r1<0) then (some (-1)) else ((jv p0a.2 r1).bind fun r2=>if decide (r2<0) then (some (-1)) else (some r2))
def jw (p0a:List Yq8) (p1left:Int):Option Int:=
 if decide (IntKind.i64.wrap (p1left - (p0a.length:Int))<0) then (some (-1)) else (some (IntKind.i64.wrap (p1left - (p0a.length:Int))))
def lV (p0a:F6×Yq6×(List Yq8)×ByteArray) (p1left:Int):Option Int:=
 (kI (p0a.1.1,p0a.1.2) p1left).bind fun r1=>if decide (r1<0) then (some (-1)) else ((jM (p0a.2.1.1,p0a.2.1.2) r1).bind fun r2=>if decide (r2<0) then (some (-1)) else ((jw p0a.2.2.1 r2).bind fun r3=>if decide (r3<0) then (some (-1)) else (if decide (IntKind.i64.wrap (r3 - (p0a.2.2.2.size:Int))<0) then (some (-1)) else (some (IntKind.i64.wrap (r3 - (p0a.2.2.2.size:Int)))))))
def cw (p0x:Int) (p1low:Int) (p2high:Int):Option Bool:=
 if decide (p0x≥p1low) then (some (decide (p0x<=p2high))) else (some false)
def zt (p0g:(List Int)×(List Yq1)) (p1e:Int×Int×Int×Int):Option Bool:=
 (cw p1e.1 1 99).bind fun r1=>if r1 then ((cw p1e.2.1 0 (IntKind.i64.wrap ((p0g.1.length:Int) - 1))).bind fun r2=>if r2 then ((cw p1e.2.2.1 0 (IntKind.i64.wrap ((p0g.1.length:Int) - 1))).bind fun r3=>if r3 then ((cw p1e.2.2.2 0 2).bind fun r4=>some r4) else (some false)) else (some false)) else (some false)
def ld (p0g:(List Int)×(List Yq1)) (s3:Int):Option (Out Bool Int):=
 if decide (s3<(p0g.1.length:Int)) then ((aY p0g.1 s3).bind fun x3=>(cw x3 0 2).bind fun r3=>if r3 then (some (.nxt (IntKind.i64.wrap (s3+1)))) else (some (.ret false))) else (some (.brk s3))
def hZ (p0g:(List Int)×(List Yq1)) (s7:Int):Option (Out Bool Int):=
 if decide (s7<(p0g.2.length:Int)) then ((aY p0g.2 s7).bind fun x10=>(zt (p0g.1,p0g.2) (x10.1,x10.2.1,x10.2.2.1,x10.2.2.2)).bind fun r6=>if r6 then (if decide (s7>0) then ((aY p0g.2 (IntKind.i64.wrap (s7 - 1))).bind fun x11=>(aY p0g.2 s7).bind fun x12=>if decide (x11.1≥x12.1) then (some (.ret false)) else (some (.nxt (IntKind.i64.wrap (s7+1))))) else (some (.nxt (IntKind.i64.wrap (s7+1))))) else (some (.ret false))) else (some (.brk s7))
def fw (p0g:(List Int)×(List Yq1)):Option Bool:=
 aV (aB (ld p0g) bg 0) (fun r=>some r) (fun s4=>aV (aB (hZ p0g) bg 0) (fun r=>some r) (fun s8=>(cw (p0g.1.length:Int) 1 5).bind fun r7=>if r7 then (some (decide ((p0g.2.length:Int)<=12))) else (some false)))
def lW (p0a:List Int) (p1b:List Int) (s3:Int):Option (Out Int Int):=
 if decide (s3<(p0a.length:Int)) then (if decide (s3<(p1b.length:Int)) then ((aY p0a s3).bind fun x9=>(aY p1b s3).bind fun x10=>if decide (x9<x10) then (some (.ret (-1))) else ((aY p0a s3).bind fun x11=>(aY p1b s3).bind fun x12=>if decide (x11>x12) then (some (.ret 1)) else (some (.nxt (IntKind.i64.wrap (s3+1)))))) else (some (.brk s3))) else (some (.brk s3))
def lf (p0a:List Int) (p1b:List Int):Option Int:=
 aV (aB (lW p0a p1b) bg 0) (fun r=>some r) (fun s4=>if decide ((p0a.length:Int)<(p1b.length:Int)) then (some (-1)) else (if decide ((p0a.length:Int)>(p1b.length:Int)) then (some 1) else (some 0)))
def dL (p0h:Int×(List Yq5)) (s3:Int):Option (Out Bool Int):=
 if decide (s3<(p0h.2.length:Int)) then ((aY p0h.2 s3).bind fun x7=>(fw (x7.1,x7.2)).bind fun r15=>if r15 then ((aY p0h.2 s3).bind fun x8=>(aY p0h.2 0).bind fun x9=>(lf x8.1 x9.1).bind fun r18=>if r18 !=0 then (some (.ret false)) else (some (.nxt (IntKind.i64.wrap (s3+1))))) else (some (.ret false))) else (some (.brk s3))
def m_s_IsValidHistory (p0h:Int×(List Yq5)):Option Bool:=
 aV (aB (dL p0h) bg 0) (fun r=>some r) (fun s4=>(cw (p0h.2.length:Int) 1 8).bind fun r19=>if r19 then ((cw p0h.1 1 (IntKind.i64.wrap ((IntKind.i64.wrap (999 - (p0h.2.length:Int)))+1))).bind fun r20=>some r20) else (some false))
def ka (p0n:Int):Option Bool:=
 (cw p0n 0 8).bind fun r1=>some r1
def lh (p0:Int×Int×Int×Int):Option Int:=
 Option.bind ((if p0.1==1 then (some (p0.1==1)) else (some (p0.1==2)):Option Bool)) (fun s1=>if s1 then (if p0.2.1 !=0 then (some (-1)) else (if p0.2.2.1 !=0 then (some (-1)) else (if p0.2.2.2 !=0 then (some (-1)) else (some 0)))) else (if p0.1==3 then ((ka p0.2.1).bind fun r3=>if r3 then (if p0.2.2.1 !=0 then (some (-1)) else (if p0.2.2.2 !=0 then (some (-1)) else (some 0))) else (some (-1))) else (Option.bind ((if p0.1==4 then (some (p0.1==4)) else (some (p0.1==5)):Option Bool)) (fun s2=>if s2 then (if p0.2.1 !=0 then (some (-1)) else (if p0.2.2.1 !=0 then (some (-1)) else (if p0.2.2.2 !=0 then (some (-1)) else (some 2)))) else (if p0.1==6 then (if p0.2.1 !=0 then (some (-1)) else (if p0.2.2.1 !=0 then (some (-1)) else (if p0.2.2.2 !=0 then (some (-1)) else (some 1)))) else (if p0.1==7 then (if p0.2.1 !=0 then (some (-1)) else ((cw p0.2.2.2 1 3).bind fun r1=>if r1 then ((cw p0.2.2.1 0 p0.2.2.2).bind fun r2=>if r2 then (some 1) else (some (-1))) else (some (-1)))) else (some (-1))))))))
def nJ (p0e:(List Yq1)) (s3:Int×Int):Option (Out Bool (Int×Int)):=
 if decide (s3.2<(p0e.length:Int)) then ((aY p0e s3.2).bind fun x3=>(lh (x3.1,x3.2.1,x3.2.2.1,x3.2.2.2)).bind fun r3=>if decide (r3<0) then (some (.ret false)) else (if decide (r3>s3.1) then (some (.ret false)) else (some (.nxt (IntKind.i64.wrap ((IntKind.i64.wrap (s3.1 - r3))+1),IntKind.i64.wrap (s3.2+1)))))) else (some (.brk (s3.1,s3.2)))
def qb (p0e:(List Yq1)):Option Bool:=
 aV (aB (nJ p0e) bg (0,0)) (fun r=>some r) (fun s4=>some (s4.1==1))
def iQ (p0e:(List Yq1)):Option Bool:=
 if decide ((p0e.length:Int)<=24) then ((qb p0e).bind fun r1=>some r1) else (some false)
def jN (p0l:List Yq1) (s3:Int×Int):Option Yq9:=
 if decide (s3.1>0) then ((aY p0l (IntKind.i64.wrap (s3.2 - 1))).bind fun x3=>(lh (x3.1,x3.2.1,x3.2.2.1,x3.2.2.2)).bind fun r3=>some (.nxt (IntKind.i64.wrap ((IntKind.i64.wrap (s3.1 - 1))+r3),IntKind.i64.wrap (s3.2 - 1)))) else (some (.brk (s3.1,s3.2)))
def fQ (p0l:List Yq1):Option Int:=
 aV (aB (jN p0l) bg (1,(p0l.length:Int))) (fun r=>some r) (fun s4=>some s4.2)
def dt:Nat->(List Yq1)->Option Int
 | 0,_=>none
 | n+1,p0l =>
  (aY p0l (IntKind.i64.wrap ((p0l.length:Int) - 1))).bind fun x0=>Option.bind ((if x0.1==4 then (some (x0.1==4)) else (some (x0.1==5)):Option Bool)) (fun s1=>if s1 then ((chk (And (0<=(IntKind.i64.wrap ((p0l.length:Int) - 1))) ((IntKind.i64.wrap ((p0l.length:Int) - 1))<=(p0l.length:Int)))).bind fun _=>(fQ (p0l.take ((IntKind.i64.wrap ((p0l.length:Int) - 1)).toNat))).bind fun r3=>(chk (And (0<=r3) (r3<=(p0l.length:Int)))).bind fun _=>((dt n) (p0l.take r3.toNat)).bind fun r9=>(chk (And (0<=r3) (And (r3<=(IntKind.i64.wrap ((p0l.length:Int) - 1))) ((IntKind.i64.wrap ((p0l.length:Int) - 1))<=(p0l.length:Int))))).bind fun _=>((dt n) ((p0l.take ((IntKind.i64.wrap ((p0l.length:Int) - 1)).toNat)).drop r3.toNat)).bind fun r11=>some (Min.min 100000 (IntKind.i64.wrap ((IntKind.i64.wrap (r9+r11))+1)))) else (if x0.1==6 then ((chk (And (0<=(IntKind.i64.wrap ((p0l.length:Int) - 1))) ((IntKind.i64.wrap ((p0l.length:Int) - 1))<=(p0l.length:Int)))).bind fun _=>((dt n) (p0l.take ((IntKind.i64.wrap ((p0l.length:Int) - 1)).toNat))).bind fun r13=>some (Min.min 100000 (IntKind.i64.wrap (r13+1)))) else (if x0.1==7 then ((chk (And (0<=(IntKind.i64.wrap ((p0l.length:Int) - 1))) ((IntKind.i64.wrap ((p0l.length:Int) - 1))<=(p0l.length:Int)))).bind fun _=>((dt n) (p0l.take ((IntKind.i64.wrap ((p0l.length:Int) - 1)).toNat))).bind fun r17=>some (Min.min 100000 (IntKind.i64.wrap ((IntKind.i64.wrap ((IntKind.i64.wrap (r17+3))*x0.2.2.2))+1)))) else (some 1))))
def jx (p0l:List Yq1):Option (List Yq1):=
 (di 32 ([] :List Yq1) p0l).bind fun z1=>some z1
def jy (p0a:(List Yq1)) (p1b:(List Yq1)) (p2t:Int×Int×Int×Int):Option (List Yq1):=
 (jx p0a).bind fun r1=>(di 32 r1 p1b).bind fun z1=>(di 32 z1 ([(p2t.1,p2t.2.1,p2t.2.2.1,p2t.2.2.2)])).bind fun z2=>some z2
def mM (p0kind:Int):Option (List Yq1):=
 some ([(p0kind,0,0,0)])
def ij:Nat->(List Yq1)->Int->Int->Option (List Yq1)
 | 0,_,_,_=>none
 | n+1,p0e,p1low,p2high =>
  if p2high==0 then ((mM 2).bind fun r0=>some r0) else (((ij n) p0e (Max.max 0 (IntKind.i64.wrap (p1low - 1))) (IntKind.i64.wrap (p2high - 1))).bind fun r3=>(jy p0e r3 (4,0,0,0)).bind fun r4=>if decide (p1low>0) then (some r4) else ((mM 2).bind fun r7=>(jy r4 r7 (5,0,0,0)).bind fun r8=>some r8))
def cA:Nat->(List Yq1)->Option (List Yq1)
 | 0,_=>none
 | n+1,p0l =>
  (aY p0l (IntKind.i64.wrap ((p0l.length:Int) - 1))).bind fun x0=>Option.bind ((if x0.1==4 then (some (x0.1==4)) else (some (x0.1==5)):Option Bool)) (fun s1=>if s1 then ((chk (And (0<=(IntKind.i64.wrap ((p0l.length:Int) - 1))) ((IntKind.i64.wrap ((p0l.length:Int) - 1))<=(p0l.length:Int)))).bind fun _=>(fQ (p0l.take ((IntKind.i64.wrap ((p0l.length:Int) - 1)).toNat))).bind fun r3=>(chk (And (0<=r3) (r3<=(p0l.length:Int)))).bind fun _=>((cA n) (p0l.take r3.toNat)).bind fun r10=>(chk (And (0<=r3) (And (r3<=(IntKind.i64.wrap ((p0l.length:Int) - 1))) ((IntKind.i64.wrap ((p0l.length:Int) - 1))<=(p0l.length:Int))))).bind fun _=>((cA n) ((p0l.take ((IntKind.i64.wrap ((p0l.length:Int) - 1)).toNat)).drop r3.toNat)).bind fun r12=>(jy r10 r12 (x0.1,x0.2.1,x0.2.2.1,x0.2.2.2)).bind fun r13=>some r13) else (if x0.1==6 then ((chk (And (0<=(IntKind.i64.wrap ((p0l.length:Int) - 1))) ((IntKind.i64.wrap ((p0l.length:Int) - 1))<=(p0l.length:Int)))).bind fun _=>((cA n) (p0l.take ((IntKind.i64.wrap ((p0l.length:Int) - 1)).toNat))).bind fun r18=>(jy r18 ([] :List Yq1) (x0.1,x0.2.1,x0.2.2.1,x0.2.2.2)).bind fun r19=>some r19) else (if x0.1==7 then ((chk (And (0<=(IntKind.i64.wrap ((p0l.length:Int) - 1))) ((IntKind.i64.wrap ((p0l.length:Int) - 1))<=(p0l.length:Int)))).bind fun _=>((cA n) (p0l.take ((IntKind.i64.wrap ((p0l.length:Int) - 1)).toNat))).bind fun r24=>(ij fu r24 x0.2.2.1 x0.2.2.2).bind fun r25=>some r25) else (some ([(x0.1,x0.2.1,x0.2.2.1,x0.2.2.2)])))))
def jO (p0e:(List Yq1)):Option (((List Yq1))×Bool):=
 (iQ p0e).bind fun r1=>if r1 then ((dt fu p0e).bind fun r2=>if decide (r2>5000) then (some ([],false)) else ((cA fu p0e).bind fun r3=>if decide ((r3.length:Int)>400) then (some ([],false)) else (some (r3,true)))) else (some ([],false))
def gG (p1from:Int) (p2to:Int) (s2:Int×List Int):Option (Out Yq7 (Int×List Int)):=
 if decide (s2.1<(s2.2.length:Int)) then (Option.bind (((chk (0<=s2.1)).bind fun _=>if (vS (qw p1from s2.1) 1)==1 then ((aY s2.2 s2.1).bind fun x6=>(aY s2.2 s2.1).bind fun x7=>some (s2.2.set s2.1.toNat (orI x6 p2to))) else (some s2.2):Option (List Int))) (fun s8=>some (.nxt (IntKind.i64.wrap (s2.1+1),s8)))) else (some (.brk (s2.1,s2.2)))
def lj (p0p:(List Int)×Int×Int×(List Int)×Bool) (p1from:Int) (p2to:Int):Option Yq7:=
 aV (aB (gG p1from p2to) bg (0,p0p.2.2.2.1)) (fun r9=>some r9) (fun s10=>some (p0p.1,p0p.2.1,p0p.2.2.1,s10.2,p0p.2.2.2.2))
def cQ:Nat->Yq7->(List Yq1)->Option ((Bool×Int×Int)×(List Int)×Int×Int×(List Int)×Bool)
 | 0,_,_=>none
 | n+1,p0,p1 =>
  (aY p1 (IntKind.i64.wrap ((p1.length:Int) - 1))).bind fun x0=>if x0.1==2 then (some ((true,0,0),p0.1,p0.2.1,p0.2.2.1,p0.2.2.2.1,p0.2.2.2.2)) else (if x0.1==3 then ((di 8 p0.1 ([x0.2.1])).bind fun z2=>(di 8 p0.2.2.2.1 ([0])).bind fun z3=>some ((false,EX 1 (p0.1.length:Int),EX 1 (p0.1.length:Int)),z2,p0.2.1,p0.2.2.1,z3,p0.2.2.2.2)) else (if x0.1==4 then ((chk (And (0<=(IntKind.i64.wrap ((p1.length:Int) - 1))) ((IntKind.i64.wrap ((p1.length:Int) - 1))<=(p1.length:Int)))).bind fun _=>(fQ (p1.take ((IntKind.i64.wrap ((p1.length:Int) - 1)).toNat))).bind fun r5=>(chk (And (0<=r5) (r5<=(p1.length:Int)))).bind fun _=>((cQ n) (p0.1,p0.2.1,p0.2.2.1,p0.2.2.2.1,p0.2.2.2.2) (p1.take r5.toNat)).bind fun r7=>(chk (And (0<=r5) (And (r5<=(IntKind.i64.wrap ((p1.length:Int) - 1))) ((IntKind.i64.wrap ((p1.length:Int) - 1))<=(p1.length:Int))))).bind fun _=>((cQ n) (r7.2.1,r7.2.2.1,r7.2.2.2.1,r7.2.2.2.2.1,r7.2.2.2.2.2) ((p1.take ((IntKind.i64.wrap ((p1.length:Int) - 1)).toNat)).drop r5.toNat)).bind fun r9=>(lj (r9.2.1,r9.2.2.1,r9.2.2.2.1,r9.2.2.2.2.1,r9.2.2.2.2.2) r7.1.2.2 r9.1.2.1).bind fun r10=>if r7.1.1 then (Option.bind ((if r7.1.1 then (some (r9.1.1,orI r7.1.2.1 r9.1.2.1,r9.1.2.2)) else (some (r9.1.1,r7.1.2.1,r9.1.2.2)):Option (Bool×Int×Int))) (fun s11=>Option.bind ((if r9.1.1 then (some (s11.1,s11.2.1,orI r7.1.2.2 r9.1.2.2)) else (some (s11.1,s11.2.1,s11.2.2)):Option (Bool×Int×Int))) (fun s12=>some ((s12.1,s12.2.1,s12.2.2),r10.1,r10.2.1,r10.2.2.1,r10.2.2.2.1,r10.2.2.2.2)))) else (Option.bind ((if r7.1.1 then (some (false,orI r7.1.2.1 r9.1.2.1,r9.1.2.2)) else (some (false,r7.1.2.1,r9.1.2.2)):Option (Bool×Int×Int))) (fun s13=>Option.bind ((if r9.1.1 then (some (s13.1,s13.2.1,orI r7.1.2.2 r9.1.2.2)) else (some (s13.1,s13.2.1,s13.2.2)):Option (Bool×Int×Int))) (fun s14=>some ((s14.1,s14.2.1,s14.2.2),r10.1,r10.2.1,r10.2.2.1,r10.2.2.2.1,r10.2.2.2.2))))) else (if x0.1==5 then ((chk (And (0<=(IntKind.i64.wrap ((p1.length:Int) - 1))) ((IntKind.i64.wrap ((p1.length:Int) - 1))<=(p1.length:Int)))).bind fun _=>(fQ (p1.take ((IntKind.i64.wrap ((p1.length:Int) - 1)).toNat))).bind fun r16=>(chk (And (0<=r16) (r16<=(p1.length:Int)))).bind fun _=>((cQ n) (p0.1,p0.2.1,p0.2.2.1,p0.2.2.2.1,p0.2.2.2.2) (p1.take r16.toNat)).bind fun r18=>(chk (And (0<=r16) (And (r16<=(IntKind.i64.wrap ((p1.length:Int) - 1))) ((IntKind.i64.wrap ((p1.length:Int) - 1))<=(p1.length:Int))))).bind fun _=>((cQ n) (r18.2.1,r18.2.2.1,r18.2.2.2.1,r18.2.2.2.2.1,r18.2.2.2.2.2) ((p1.take ((IntKind.i64.wrap ((p1.length:Int) - 1)).toNat)).drop r16.toNat)).bind fun r20=>if r18.1.1 then (some ((true,orI r18.1.2.1 r20.1.2.1,orI r18.1.2.2 r20.1.2.2),r20.2.1,r20.2.2.1,r20.2.2.2.1,r20.2.2.2.2.1,r20.2.2.2.2.2)) else (some ((r20.1.1,orI r18.1.2.1 r20.1.2.1,orI r18.1.2.2 r20.1.2.2),r20.2.1,r20.2.2.1,r20.2.2.2.1,r20.2.2.2.2.1,r20.2.2.2.2.2))) else (if x0.1==6 then ((chk (And (0<=(IntKind.i64.wrap ((p1.length:Int) - 1))) ((IntKind.i64.wrap ((p1.length:Int) - 1))<=(p1.length:Int)))).bind fun _=>((cQ n) (p0.1,p0.2.1,p0.2.2.1,p0.2.2.2.1,p0.2.2.2.2) (p1.take ((IntKind.i64.wrap ((p1.length:Int) - 1)).toNat))).bind fun r22=>(lj (r22.2.1,r22.2.2.1,r22.2.2.2.1,r22.2.2.2.2.1,r22.2.2.2.2.2) r22.1.2.2 r22.1.2.1).bind fun r23=>some ((true,r22.1.2.1,r22.1.2.2),r23.1,r23.2.1,r23.2.2.1,r23.2.2.2.1,r23.2.2.2.2)) else (some ((false,0,0),p0.1,p0.2.1,p0.2.2.1,p0.2.2.2.1,p0.2.2.2.2))))))
def cR (r0:(List Yq1)×Bool) (s2:Int×Int):Option (Out (Yq7×Bool) (Int×Int)):=
 if decide (s2.2<(r0.1.length:Int)) then (Option.bind (((aY r0.1 s2.2).bind fun x3=>if x3.1==3 then (some (IntKind.i64.wrap (s2.1+1))) else (some s2.1):Option Int)) (fun s4=>some (.nxt (s4,IntKind.i64.wrap (s2.2+1))))) else (some (.brk (s2.1,s2.2)))
def fH (p0e:List Yq1):Option (Yq7×Bool):=
 (jO p0e).bind fun r0=>if r0.2 then (aV (aB (cR r0) bg (0,0)) (fun r5=>some r5) (fun s6=>if decide (s6.1>20) then (some ((([] :List Int),0,0,([] :List Int),false),false)) else ((cQ fu (([] :List Int),0,0,([] :List Int),false) r0.1).bind fun r7=>some ((r7.2.1,r7.1.2.1,r7.1.2.2,r7.2.2.2.2.1,r7.1.1),true)))) else (some ((([] :List Int),0,0,([] :List Int),false),false))
def fR (p0p:(List Int)×Int×Int×(List Int)×Bool) (p1set:Int) (s6:Int×Int):Option Yq9:=
 if decide (s6.2<(p0p.1.length:Int)) then (Option.bind (((chk (0<=IntKind.i64.wrap (s6.2+1))).bind fun _=>if (vS (qw p1set (IntKind.i64.wrap (s6.2+1))) 1)==1 then ((aY p0p.2.2.2.1 s6.2).bind fun x6=>some (orI s6.1 x6)) else (some s6.1):Option Int)) (fun s8=>some (.nxt (s8,IntKind.i64.wrap (s6.2+1))))) else (some (.brk (s6.1,s6.2)))
def fS (p0p:(List Int)×Int×Int×(List Int)×Bool) (p2letter:Int) (s7:Int×Int) (s13:Int×Int):Option Yq9:=
 if decide (s13.2<(p0p.1.length:Int)) then (Option.bind (((chk (0<=s13.2)).bind fun _=>if (vS (qw s7.1 s13.2) 1)==1 then ((aY p0p.1 s13.2).bind fun x12=>if x12==p2letter then ((chk (0<=IntKind.i64.wrap (s13.2+1))).bind fun _=>some (orI s13.1 (EX 1 (IntKind.i64.wrap (s13.2+1))))) else (some s13.1)) else (some s13.1):Option Int)) (fun s15=>some (.nxt (s15,IntKind.i64.wrap (s13.2+1))))) else (some (.brk (s13.1,s13.2)))
def lX (p0p:(List Int)×Int×Int×(List Int)×Bool) (p1set:Int) (p2letter:Int):Option Int:=
 Option.bind ((if (vS p1set 1)==1 then (some p0p.2.1) else (some 0):Option Int)) (fun s1=>aV (aB (fR p0p p1set) bg (s1,0)) (fun r=>some r) (fun s7=>aV (aB (fS p0p p2letter s7) bg (0,0)) (fun r=>some r) (fun s14=>some s14.1)))
def my (p0l:List Int) (p1x:Int) (s3:Int):Option (Out Int Int):=
 if decide (s3<(p0l.length:Int)) then ((aY p0l s3).bind fun x3=>if x3==p1x then (some (.ret s3)) else (some (.nxt (IntKind.i64.wrap (s3+1))))) else (some (.brk s3))
def ln (p0l:List Int) (p1x:Int):Option Int:=
 aV (aB (my p0l p1x) bg 0) (fun r=>some r) (fun s4=>some (-1))
def jP (p0p:(List Int)×Int×Int×(List Int)×Bool) (p1set:Int):Option Bool:=
 if (vS p1set 1)==1 then (if p0p.2.2.2.2 then (some true) else (some ((vS (qw p1set 1) p0p.2.2.1) !=0))) else (some ((vS (qw p1set 1) p0p.2.2.1) !=0))
def eJ (p0:(List Int)×Int×Int×(List Int)×Bool) (s17:(List Int)×Int×Int×(List Bool)×(List (List Int))) (s23:(List Int)×(List Int)×Int):Option (Out (Yq2×Bool) ((List Int)×(List Int)×Int)):=
 if decide (s23.2.2<9) then ((aY s23.1 s17.2.1).bind fun x11=>(lX (p0.1,p0.2.1,p0.2.2.1,p0.2.2.2.1,p0.2.2.2.2) x11 s23.2.2).bind fun r27=>Option.bind ((if r27 !=0 then ((ln s23.1 r27).bind fun r29=>if decide (r29<0) then ((di 8 s23.1 ([r27])).bind fun z30=>some (z30,(s23.1.length:Int))) else (some (s23.1,r29))) else (some (s23.1,-1)):Option ((List Int)×Int))) (fun s25=>(di 8 s23.2.1 ([s25.2])).bind fun z31=>some (.nxt (s25.1,z31,IntKind.i64.wrap (s23.2.2+1))))) else (some (.brk (s23.1,s23.2.1,s23.2.2)))
def eK (p0:(List Int)×Int×Int×(List Int)×Bool) (p1:Int) (s17:(List Int)×Int×Int×(List Bool)×(List (List Int))):Option (Out (Yq2×Bool) ((List Int)×Int×Int×(List Bool)×(List (List Int)))):=
 if decide (s17.2.1<(s17.1.length:Int)) then (aV (aB (eJ p0 s17) bg (s17.1,([] :List Int),0)) (fun r=>some (.ret r)) (fun s24=>if decide ((s24.1.length:Int)>p1) then (some (.ret ((0,[],[]),false))) else ((aY s24.1 s17.2.1).bind fun x12=>(jP (p0.1,p0.2.1,p0.2.2.1,p0.2.2.2.1,p0.2.2.2.2) x12).bind fun r30=>(di 1 s17.2.2.2.1 ([r30])).bind fun z32=>(di 24 s17.2.2.2.2 ([s24.2.1])).bind fun z33=>some (.nxt (s24.1,IntKind.i64.wrap (s17.2.1+1),s17.2.2.1,z32,z33))))) else (some (.brk (s17.1,s17.2.1,s17.2.2.1,s17.2.2.2.1,s17.2.2.2.2)))
def gH (p0:(List Int)×Int×Int×(List Int)×Bool) (p1:Int):Option (Yq2×Bool):=
 aV (aB (eK p0 p1) bg ([1],0,0,[],[])) (fun r=>some r) (fun s18=>some ((s18.2.2.1,s18.2.2.2.1,s18.2.2.2.2),true))
def tz (s3:(List Int)×Int):Option (Out Yq2 ((List Int)×Int)):=
 if decide (s3.2<9) then ((di 8 s3.1 ([-1])).bind fun z3=>some (.nxt (z3,IntKind.i64.wrap (s3.2+1)))) else (some (.brk (s3.1,s3.2)))
def mz:Option Yq2:=
 aV (aB (tz) bg (([] :List Int),0)) (fun r=>some r) (fun s4=>some (0,[false],[s4.1]))
def fx (p0:Int×(List Bool)×(List (List Int))) (p1:List Int) (p2:List Bool) (s17:(List Int)×(List Int)×Int×Int×(List Bool)×(List (List Int))) (s23:(List Int)×(List Int)×(List Int)×Int):Option (Out Yq2 ((List Int)×(List Int)×(List Int)×Int)):=
 if decide (s23.2.2.2<9) then ((aY s23.2.1 s17.2.2.1).bind fun x79=>(aY p0.2.2 x79).bind fun x80=>(aY x80 s23.2.2.2).bind fun x81=>Option.bind ((if decide (x81≥0) then ((aY p2 x81).bind fun x85=>if x85 then ((aY p1 x81).bind fun x86=>(ln s23.1 x86).bind fun r28=>if decide (r28<0) then ((aY p1 x81).bind fun x87=>(di 8 s23.1 ([x87])).bind fun z47=>(di 8 s23.2.1 ([x81])).bind fun z48=>some (z47,z48,(s23.1.length:Int))) else (some (s23.1,s23.2.1,r28))) else (some (s23.1,s23.2.1,-1))) else (some (s23.1,s23.2.1,-1)):Option ((List Int)×(List Int)×Int))) (fun s25=>(di 8 s23.2.2.1 ([s25.2.2])).bind fun z49=>some (.nxt (s25.1,s25.2.1,z49,IntKind.i64.wrap (s23.2.2.2+1))))) else (some (.brk (s23.1,s23.2.1,s23.2.2.1,s23.2.2.2)))
def gO (p0:Int×(List Bool)×(List (List Int))) (p1:List Int) (p2:List Bool) (s17:(List Int)×(List Int)×Int×Int×(List Bool)×(List (List Int))):Option (Out Yq2 ((List Int)×(List Int)×Int×Int×(List Bool)×(List (List Int)))):=
 if decide (s17.2.2.1<(s17.1.length:Int)) then (aV (aB (fx p0 p1 p2 s17) bg (s17.1,s17.2.1,([] :List Int),0)) (fun r=>some (.ret r)) (fun s24=>(aY s24.2.1 s17.2.2.1).bind fun x88=>(aY p0.2.1 x88).bind fun x89=>(di 1 s17.2.2.2.2.1 ([x89])).bind fun z50=>(di 24 s17.2.2.2.2.2 ([s24.2.2.1])).bind fun z51=>some (.nxt (s24.1,s24.2.1,IntKind.i64.wrap (s17.2.2.1+1),s17.2.2.2.1,z50,z51)))) else (some (.brk (s17.1,s17.2.1,s17.2.2.1,s17.2.2.2.1,s17.2.2.2.2.1,s17.2.2.2.2.2)))
def gp (p0:Int×(List Bool)×(List (List Int))) (p1:List Int) (p2:List Bool):Option Yq2:=
 (aY p2 p0.1).bind fun x1=>if x1 then ((aY p1 p0.1).bind fun x2=>aV (aB (gO p0 p1 p2) bg ([x2],[p0.1],0,0,[],[])) (fun r=>some r) (fun s18=>some (s18.2.2.2.1,s18.2.2.2.2.1,s18.2.2.2.2.2))) else ((mz).bind fun r1=>some (r1.1,r1.2.1,r1.2.2))
def gI (p0a:Int×(List Bool)×(List (List Int))) (s71:(List Bool)×Int) (s77:(List Bool)×Int):Option (Out (List Bool) ((List Bool)×Int)):=
 if decide (s77.2<9) then (Option.bind (((aY p0a.2.2 s71.2).bind fun x319=>(aY x319 s77.2).bind fun x320=>if decide (x320≥0) then ((aY p0a.2.2 s71.2).bind fun x321=>(aY x321 s77.2).bind fun x322=>(aY s77.1 x322).bind fun x323=>if x323 then ((aY s77.1 s71.2).bind fun x324=>some (s77.1.set s71.2.toNat true)) else (some s77.1)) else (some s77.1):Option (List Bool))) (fun s79=>some (.nxt (s79,IntKind.i64.wrap (s77.2+1))))) else (some (.brk (s77.1,s77.2)))
def gJ (p0a:Int×(List Bool)×(List (List Int))) (s71:(List Bool)×Int):Option (Out (List Bool) ((List Bool)×Int)):=
 if decide (s71.2<(p0a.2.1.length:Int)) then (aV (aB (gI p0a s71) bg (s71.1,0)) (fun r=>some (.ret r)) (fun s78=>some (.nxt (s78.1,IntKind.i64.wrap (s71.2+1))))) else (some (.brk (s71.1,s71.2)))
def jQ (p0a:Int×(List Bool)×(List (List Int))) (s53:(List Bool)×Int):Option (Out (List Bool) ((List Bool)×Int)):=
 if decide (s53.2<(p0a.2.1.length:Int)) then (aV (aB (gJ p0a) bg (s53.1,0)) (fun r=>some (.ret r)) (fun s72=>some (.nxt (s72.1,IntKind.i64.wrap (s53.2+1))))) else (some (.brk (s53.1,s53.2)))
def jz (p0a:Int×(List Bool)×(List (List Int))):Option (List Bool):=
 (di 1 ([] :List Bool) p0a.2.1).bind fun z1=>aV (aB (jQ p0a) bg (z1,0)) (fun r=>some r) (fun s54=>some s54.1)
def kJ (p0a:Int×(List Bool)×(List (List Int))) (p1classes:List Int) (p2s:Int) (s5:(List Int)×Int):Option (Out (List Int) ((List Int)×Int)):=
 if decide (s5.2<9) then (Option.bind (((aY p0a.2.2 p2s).bind fun x17=>(aY x17 s5.2).bind fun x18=>if decide (x18<0) then ((di 8 s5.1 ([-1])).bind fun z12=>some z12) else ((aY p1classes x18).bind fun x19=>(di 8 s5.1 ([x19])).bind fun z11=>some z11):Option (List Int))) (fun s7=>some (.nxt (s7,IntKind.i64.wrap (s5.2+1))))) else (some (.brk (s5.1,s5.2)))
def mN (p0a:Int×(List Bool)×(List (List Int))) (p1classes:List Int) (p2s:Int):Option (List Int):=
 (aY p1classes p2s).bind fun x1=>aV (aB (kJ p0a p1classes p2s) bg ([x1],0)) (fun r=>some r) (fun s6=>some s6.1)
def eL (p0:Int×(List Bool)×List (List Int)) (r0:List Bool) (s2:(List Int)×Int):Option (Out (List Int) ((List Int)×Int)):=
 if decide (s2.2<(p0.2.1.length:Int)) then ((aY p0.2.1 s2.2).bind fun x3=>Option.bind ((if x3 then (some 1) else (some 0):Option Int)) (fun s4=>(aY r0 s2.2).bind fun x5=>Option.bind ((if x5 then (some s4) else (some (-1)):Option Int)) (fun s6=>(di 8 s2.1 ([s6])).bind fun z7=>some (.nxt (z7,IntKind.i64.wrap (s2.2+1)))))) else (some (.brk (s2.1,s2.2)))
def eM (s13:(List (List Int))×(List Int)×Int) (r16:List Int) (s18:Int×Int):Option (Out (List Int) (Int×Int)):=
 if decide (s18.2<(s13.1.length:Int)) then (Option.bind (((aY s13.1 s18.2).bind fun x19=>(lf x19 r16).bind fun r20=>if r20==0 then (some s18.2) else (some s18.1):Option Int)) (fun s21=>some (.nxt (s21,IntKind.i64.wrap (s18.2+1))))) else (some (.brk (s18.1,s18.2)))
def eN (p0:Int×(List Bool)×List (List Int)) (s11:(List Int)×Int) (s13:(List (List Int))×(List Int)×Int):Option (Out (List Int) ((List (List Int))×(List Int)×Int)):=
 if decide (s13.2.2<(p0.2.1.length:Int)) then (Option.bind (((aY s11.1 s13.2.2).bind fun x14=>if decide (x14<0) then ((di 8 s13.2.1 ([(-1)])).bind fun z15=>some (s13.1,z15)) else ((mN (p0.1,p0.2.1,p0.2.2) s11.1 s13.2.2).bind fun r16=>aV (aB (eM s13 r16) bg ((-1),0)) (fun r22=>none) (fun s23=>Option.bind ((if decide (s23.1<0) then ((di 24 s13.1 ([r16])).bind fun z24=>some (z24,(s13.1.length:Int))) else (some (s13.1,s23.1)):Option ((List (List Int))×Int))) (fun s25=>(di 8 s13.2.1 ([s25.2])).bind fun z26=>some (s25.1,z26)))):Option ((List (List Int))×List Int))) (fun s27=>some (.nxt (s27.1,s27.2,IntKind.i64.wrap (s13.2.2+1))))) else (some (.brk (s13.1,s13.2.1,s13.2.2)))
def jA (p0:Int×(List Bool)×List (List Int)) (s11:(List Int)×Int):Option (Out (List Int) ((List Int)×Int)):=
 if decide (s11.2<=(p0.2.1.length:Int)) then (aV (aB (eN p0 s11) bg (([] :List (List Int)),([] :List Int),0)) (fun r28=>some (.ret r28)) (fun s29=>(lf s29.2.1 s11.1).bind fun r30=>if r30==0 then (some (.ret s11.1)) else (some (.nxt (s29.2.1,IntKind.i64.wrap (s11.2+1)))))) else (some (.brk (s11.1,s11.2)))
def gK (p0:Int×(List Bool)×List (List Int)):Option (List Int):=
 (jz (p0.1,p0.2.1,p0.2.2)).bind fun r0=>aV (aB (eL p0 r0) bg (([] :List Int),0)) (fun r8=>some r8) (fun s9=>aV (aB (jA p0) bg (s9.1,0)) (fun r31=>some r31) (fun s32=>some s32.1))
def fT (p0a:Int×(List Bool)×(List (List Int))):Option Yq2:=
 (gK (p0a.1,p0a.2.1,p0a.2.2)).bind fun r1=>(jz (p0a.1,p0a.2.1,p0a.2.2)).bind fun r2=>(gp (p0a.1,p0a.2.1,p0a.2.2) r1 r2).bind fun r3=>some (r3.1,r3.2.1,r3.2.2)
def fU (p0e:(List Yq1)):Option (Yq2×Bool):=
 (fH p0e).bind fun r1=>if r1.2 then ((gH (r1.1.1,r1.1.2.1,r1.1.2.2.1,r1.1.2.2.2.1,r1.1.2.2.2.2) 200).bind fun r2=>if r2.2 then ((fT (r2.1.1,r2.1.2.1,r2.1.2.2)).bind fun r3=>if decide ((r3.2.1.length:Int)>12) then (some ((0,[],[]),false)) else (some ((r3.1,r3.2.1,r3.2.2),true))) else (some ((0,[],[]),false))) else (some ((0,[],[]),false))
def eA (p0:Int×(List Bool)×(List (List Int))) (p1:Int×(List Bool)×(List (List Int))) (s3:Int):Option (Out Bool Int):=
 if decide (s3<(p0.2.1.length:Int)) then ((aY p0.2.1 s3).bind fun x5=>(aY p1.2.1 s3).bind fun x6=>if x5 !=x6 then (some (.ret false)) else (some (.nxt (IntKind.i64.wrap (s3+1))))) else (some (.brk s3))
def eB (p0:Int×(List Bool)×(List (List Int))) (p1:Int×(List Bool)×(List (List Int))) (s7:Int):Option (Out Bool Int):=
 if decide (s7<(p0.2.2.length:Int)) then ((aY p0.2.2 s7).bind fun x11=>(aY p1.2.2 s7).bind fun x12=>(lf x11 x12).bind fun r9=>if r9 !=0 then (some (.ret false)) else (some (.nxt (IntKind.i64.wrap (s7+1))))) else (some (.brk s7))
def eO (p0:Int×(List Bool)×(List (List Int))) (p1:Int×(List Bool)×(List (List Int))):Option Bool:=
 if p0.1 !=p1.1 then (some false) else (if (p0.2.1.length:Int) !=(p1.2.1.length:Int) then (some false) else (if (p0.2.2.length:Int) !=(p1.2.2.length:Int) then (some false) else (aV (aB (eA p0 p1) bg 0) (fun r=>some r) (fun s4=>aV (aB (eB p0 p1) bg 0) (fun r=>some r) (fun s8=>some true)))))
def fV (p0l:List Yq2) (p1a:Int×(List Bool)×(List (List Int))) (s3:Int):Option (Out Int Int):=
 if decide (s3<(p0l.length:Int)) then ((aY p0l s3).bind fun x3=>(eO (x3.1,x3.2.1,x3.2.2) (p1a.1,p1a.2.1,p1a.2.2)).bind fun r9=>if r9 then (some (.ret s3)) else (some (.nxt (IntKind.i64.wrap (s3+1))))) else (some (.brk s3))
def kc (p0l:List Yq2) (p1a:Int×(List Bool)×(List (List Int))):Option Int:=
 aV (aB (fV p0l p1a) bg 0) (fun r=>some r) (fun s4=>some (-1))
def cS (p0:List Yq3) (s7:Int×(List Yq2)×(List Yq3)):Option (Out (Yq6×Bool) (Int×(List Yq2)×(List Yq3))):=
 if decide (s7.1<(p0.length:Int)) then ((aY p0 s7.1).bind fun x17=>(fU x17.2.1).bind fun r20=>if r20.2 then ((aY p0 s7.1).bind fun x18=>(cw x18.1 1 99).bind fun r21=>if r21 then (if decide (s7.1>0) then ((aY p0 (IntKind.i64.wrap (s7.1 - 1))).bind fun x21=>(aY p0 s7.1).bind fun x22=>if decide (x21.1≥x22.1) then (some (.ret (([],[]),false))) else ((kc s7.2.1 (r20.1.1,r20.1.2.1,r20.1.2.2)).bind fun r25=>Option.bind ((if decide (r25<0) then ((di 56 s7.2.1 ([(r20.1.1,r20.1.2.1,r20.1.2.2)])).bind fun z17=>some ((s7.2.1.length:Int),z17,s7.2.2)) else (some (r25,s7.2.1,s7.2.2)):Option (Int×(List Yq2)×(List Yq3)))) (fun s10=>(aY p0 s7.1).bind fun x23=>(aY p0 s7.1).bind fun x24=>(jx x24.2.1).bind fun r27=>(di 40 s10.2.2 ([(x23.1,r27,s10.1)])).bind fun z18=>some (.nxt (IntKind.i64.wrap (s7.1+1),s10.2.1,z18))))) else ((kc s7.2.1 (r20.1.1,r20.1.2.1,r20.1.2.2)).bind fun r22=>Option.bind ((if decide (r22<0) then ((di 56 s7.2.1 ([(r20.1.1,r20.1.2.1,r20.1.2.2)])).bind fun z14=>some ((s7.2.1.length:Int),z14,s7.2.2)) else (some (r22,s7.2.1,s7.2.2)):Option (Int×(List Yq2)×(List Yq3)))) (fun s9=>(aY p0 s7.1).bind fun x19=>(aY p0 s7.1).bind fun x20=>(jx x20.2.1).bind fun r24=>(di 40 s9.2.2 ([(x19.1,r24,s9.1)])).bind fun z15=>some (.nxt (IntKind.i64.wrap (s7.1+1),s9.2.1,z15))))) else (some (.ret (([],[]),false)))) else (some (.ret (([],[]),false)))) else (some (.brk (s7.1,s7.2.1,s7.2.2)))
def lY (p0:List Yq3):Option (Yq6×Bool):=
 if decide ((p0.length:Int)>4) then (some (([],[]),false)) else (aV (aB (cS p0) bg (0,[],[])) (fun r=>some r) (fun s8=>some ((s8.2.1,s8.2.2),true)))
def gq (p0a:(List Yq1)) (p1b:(List Yq1)) (s3:Int):Option (Out Bool Int):=
 if decide (s3<(p0a.length:Int)) then ((aY p0a s3).bind fun x5=>(aY p1b s3).bind fun x6=>if (x5.1==x6.1)&&((x5.2.1==x6.2.1)&&((x5.2.2.1==x6.2.2.1)&&((x5.2.2.2==x6.2.2.2)&&true))) then (some (.nxt (IntKind.i64.wrap (s3+1)))) else (some (.ret false))) else (some (.brk s3))
def jR (p0a:(List Yq1)) (p1b:(List Yq1)):Option Bool:=
 if (p0a.length:Int) !=(p1b.length:Int) then (some false) else (aV (aB (gq p0a p1b) bg 0) (fun r=>some r) (fun s4=>some true))
def dA (p0:(List Yq2)×(List Yq3)) (p1:(List Yq2)×(List Yq3)) (s3:Int):Option (Out Bool Int):=
 if decide (s3<(p0.1.length:Int)) then ((aY p0.1 s3).bind fun x5=>(aY p1.1 s3).bind fun x6=>(eO (x5.1,x5.2.1,x5.2.2) (x6.1,x6.2.1,x6.2.2)).bind fun r15=>if r15 then (some (.nxt (IntKind.i64.wrap (s3+1)))) else (some (.ret false))) else (some (.brk s3))
def dB (p0:(List Yq2)×(List Yq3)) (p1:(List Yq2)×(List Yq3)) (s7:Int):Option (Out Bool Int):=
 if decide (s7<(p0.2.length:Int)) then ((aY p0.2 s7).bind fun x19=>(aY p1.2 s7).bind fun x20=>if x19.1 !=x20.1 then (some (.ret false)) else ((aY p0.2 s7).bind fun x21=>(aY p1.2 s7).bind fun x22=>(jR x21.2.1 x22.2.1).bind fun r24=>if r24 then ((aY p0.2 s7).bind fun x23=>(aY p1.2 s7).bind fun x24=>if x23.2.2 !=x24.2.2 then (some (.ret false)) else (some (.nxt (IntKind.i64.wrap (s7+1))))) else (some (.ret false)))) else (some (.brk s7))
def fb (p0:(List Yq2)×(List Yq3)) (p1:(List Yq2)×(List Yq3)):Option Bool:=
 if (p0.1.length:Int) !=(p1.1.length:Int) then (some false) else (if (p0.2.length:Int) !=(p1.2.length:Int) then (some false) else (aV (aB (dA p0 p1) bg 0) (fun r=>some r) (fun s4=>aV (aB (dB p0 p1) bg 0) (fun r=>some r) (fun s8=>some true))))
def fc (p0r:(List Yq2)×(List Yq3)):Option Bool:=
 (lY p0r.2).bind fun r1=>if r1.2 then ((fb (r1.1.1,r1.1.2) (p0r.1,p0r.2)).bind fun r2=>some r2) else (some false)
def cg (p0h:Int×(List Yq5)):Option Int:=
 (m_s_IsValidHistory (p0h.1,p0h.2)).bind fun r1=>if r1 then (some (IntKind.i64.wrap ((IntKind.i64.wrap (p0h.1+(p0h.2.length:Int))) - 1))) else (some 0)
def dG (p0r:(List Yq2)×(List Yq3)) (p1id:Int) (s3:Int):Option (Out Int Int):=
 if decide (s3<(p0r.2.length:Int)) then ((aY p0r.2 s3).bind fun x3=>if x3.1==p1id then (some (.ret s3)) else (some (.nxt (IntKind.i64.wrap (s3+1))))) else (some (.brk s3))
def iR (p0r:(List Yq2)×(List Yq3)) (p1id:Int):Option Int:=
 aV (aB (dG p0r p1id) bg 0) (fun r=>some r) (fun s4=>some (-1))
def cz (p0e:F6×Yq6×(List Yq8)×ByteArray) (s3:Int):Option (Out Bool Int):=
 if decide (s3<(p0e.2.2.1.length:Int)) then ((aY p0e.2.2.1 s3).bind fun x5=>(cw x5.1 1 99).bind fun r15=>if r15 then (if decide (s3>0) then ((aY p0e.2.2.1 (IntKind.i64.wrap (s3 - 1))).bind fun x6=>if decide (x6.1≥x5.1) then (some (.ret false)) else ((iR (p0e.2.1.1,p0e.2.1.2) x5.2.1).bind fun r19=>if decide (r19<0) then (some (.ret false)) else ((cg (p0e.1.1,p0e.1.2)).bind fun r20=>(cw x5.2.2 0 r20).bind fun r21=>if r21 then (some (.nxt (IntKind.i64.wrap (s3+1)))) else (some (.ret false))))) else ((iR (p0e.2.1.1,p0e.2.1.2) x5.2.1).bind fun r16=>if decide (r16<0) then (some (.ret false)) else ((cg (p0e.1.1,p0e.1.2)).bind fun r17=>(cw x5.2.2 0 r17).bind fun r18=>if r18 then (some (.nxt (IntKind.i64.wrap (s3+1)))) else (some (.ret false))))) else (some (.ret false))) else (some (.brk s3))
def ra (p0e:F6×Yq6×(List Yq8)×ByteArray):Option Bool:=
 aV (aB (cz p0e) bg 0) (fun r=>some r) (fun s4=>some (decide ((p0e.2.2.1.length:Int)<=4)))
def c7 (s1:Int×ByteArray):Option (Out ByteArray (Int×ByteArray)):=
 if s1.1 !=0 then (Option.bind ((if decide ((Int.tmod s1.1 10)<0) then (some (IntKind.i64.wrap (-(Int.tmod s1.1 10)))) else (some (Int.tmod s1.1 10)):Option Int)) (fun s2=>(kp (um ([IntKind.u8.wrap (IntKind.i64.wrap (48+s2))])) s1.2).bind fun z3=>some (.nxt (LC s1.1 10,z3)))) else (some (.brk (s1.1,s1.2)))
def bS (p0n:Int):Option ByteArray:=
 if p0n==0 then (some (⟨#[48]⟩)) else (aV (aB (c7) bg (p0n,(⟨#[]⟩:ByteArray))) (fun r4=>some r4) (fun s5=>if decide (p0n<0) then ((kp (⟨#[45]⟩) s5.2).bind fun z6=>some z6) else (some s5.2)))
def dH (p0n:Int):Option ByteArray:=
 (ka p0n).bind fun r1=>if r1 then ((aY ([(⟨#[97]⟩:ByteArray),(⟨#[97,45]⟩:ByteArray),(⟨#[98]⟩:ByteArray),(⟨#[98,45]⟩:ByteArray),(⟨#[99]⟩:ByteArray),(⟨#[99,45]⟩:ByteArray),(⟨#[48]⟩:ByteArray),(⟨#[49]⟩:ByteArray),(⟨#[50]⟩:ByteArray)]) p0n).bind fun x1=>some x1) else (some (⟨#[]⟩:ByteArray))
def gL (p0e:Int×Int×Int×Int):Option ByteArray:=
 (cw p0e.1 1 99).bind fun r0=>if r0 then ((cw p0e.2.1 0 4).bind fun r1=>if r1 then ((cw p0e.2.2.1 0 4).bind fun r2=>if r2 then ((cw p0e.2.2.2 0 2).bind fun r3=>if r3 then ((bS p0e.1).bind fun r12=>(kp r12 (⟨#[58]⟩)).bind fun z13=>(bS p0e.2.1).bind fun r14=>(kp z13 r14).bind fun z15=>(dH (IntKind.i64.wrap (2*p0e.2.2.2))).bind fun r16=>(kp z15 r16).bind fun z17=>(bS p0e.2.2.1).bind fun r18=>(kp z17 r18).bind fun z19=>some z19) else (some ((⟨#[]⟩:ByteArray)))) else (some ((⟨#[]⟩:ByteArray)))) else (some ((⟨#[]⟩:ByteArray)))) else (some ((⟨#[]⟩:ByteArray)))
def dM (p0b:List Yq4) (s1:ByteArray×Int):Option (Out ByteArray (ByteArray×Int)):=
 if decide (s1.2<(p0b.length:Int)) then (Du (S:=ByteArray) ((aY p0b s1.2).bind fun x2=>(gL (x2.2.1,x2.2.2.1,x2.2.2.2.1,x2.2.2.2.2)).bind fun r3=>if r3==((⟨#[]⟩:ByteArray)) then (some (.inl (.ret ((⟨#[]⟩:ByteArray))))) else (Option.bind ((if decide (s1.2>0) then ((kp s1.1 (⟨#[32]⟩)).bind fun z4=>some z4) else (some s1.1):Option ByteArray)) (fun s5=>(aY p0b s1.2).bind fun x6=>if x6.1 then ((kp s5 (⟨#[43]⟩)).bind fun z7=>(kp z7 r3).bind fun z8=>some (.inr z8)) else ((kp s5 (⟨#[45]⟩)).bind fun z9=>(kp z9 r3).bind fun z10=>some (.inr z10))))) (fun s11=>some (.nxt (s11,IntKind.i64.wrap (s1.2+1))))) else (some (.brk (s1.1,s1.2)))
def cB (p0b:List Yq4):Option ByteArray:=
 if decide ((p0b.length:Int)>6) then (some ((⟨#[]⟩:ByteArray))) else (aV (aB (dM p0b) bg ((⟨#[]⟩:ByteArray),0)) (fun r12=>some r12) (fun s13=>some s13.1))
def eP (p0s:ByteArray) (s1:Int×Int):Option Yq9:=
 if decide (s1.2<((p0s.size:Nat):Int)) then ((hY p0s s1.2).bind fun z2=>some (.nxt (Int.tmod (IntKind.i64.wrap ((IntKind.i64.wrap ((IntKind.i64.wrap (s1.1*257))+(IntKind.i64.wrap z2)))+1)) 9973,IntKind.i64.wrap (s1.2+1)))) else (some (.brk (s1.1,s1.2)))
def eV (p0s:ByteArray):Option Int:=
 aV (aB (eP p0s) bg (1,0)) (fun r3=>some r3) (fun s4=>some s4.1)
def dI (p0version:Int) (p1b:List Yq4):Option ByteArray:=
 (cw p0version 1 999).bind fun r0=>if r0 then (if decide ((p1b.length:Int)>0) then ((cB p1b).bind fun r1=>if r1==((⟨#[]⟩:ByteArray)) then (some ((⟨#[]⟩:ByteArray))) else ((bS p0version).bind fun r7=>(kp r7 (⟨#[59]⟩)).bind fun z8=>(cB p1b).bind fun r9=>(kp z8 r9).bind fun z10=>(kp z10 (⟨#[59]⟩)).bind fun z11=>(eV z11).bind fun r12=>(bS r12).bind fun r13=>(kp z11 r13).bind fun z14=>(kp z14 (⟨#[10]⟩)).bind fun z15=>some z15)) else ((bS p0version).bind fun r21=>(kp r21 (⟨#[59]⟩)).bind fun z22=>(cB p1b).bind fun r23=>(kp z22 r23).bind fun z24=>(kp z24 (⟨#[59]⟩)).bind fun z25=>(eV z25).bind fun r26=>(bS r26).bind fun r27=>(kp z25 r27).bind fun z28=>(kp z28 (⟨#[10]⟩)).bind fun z29=>some z29)) else (some ((⟨#[]⟩:ByteArray)))
def lZ (p0s:ByteArray) (p1sep:Int) (s1:(List ByteArray)×Int×Int):Option (Out (List ByteArray) ((List ByteArray)×Int×Int)):=
 if decide (s1.2.2<((p0s.size:Nat):Int)) then (Option.bind (((hY p0s s1.2.2).bind fun z2=>if z2==p1sep then ((mr p0s s1.2.1 s1.2.2).bind fun z3=>(di 16 s1.1 ([z3])).bind fun z4=>some (z4,IntKind.i64.wrap (s1.2.2+1))) else (some (s1.1,s1.2.1)):Option ((List ByteArray)×Int))) (fun s5=>some (.nxt (s5.1,s5.2,IntKind.i64.wrap (s1.2.2+1))))) else (some (.brk (s1.1,s1.2.1,s1.2.2)))
def fW (p0s:ByteArray) (p1sep:Int):Option (List ByteArray):=
 aV (aB (lZ p0s p1sep) bg (([] :List ByteArray),0,0)) (fun r6=>some r6) (fun s7=>(mr p0s s7.2.1 ((p0s.size:Nat):Int)).bind fun z8=>(di 16 s7.1 ([z8])).bind fun z9=>some z9)
def fX (p0s:ByteArray) (s1:Int×Int×Int):Option (Out (Int×Bool) Yq8):=
 if decide (s1.2.2<((p0s.size:Nat):Int)) then (if decide (s1.2.2<11) then (Option.bind (((hY p0s s1.2.2).bind fun z2=>if decide (z2≥48) then ((hY p0s s1.2.2).bind fun z3=>if decide (z3<=57) then ((hY p0s s1.2.2).bind fun z4=>some (IntKind.i64.wrap ((IntKind.i64.wrap (s1.1*10))+(IntKind.i64.wrap (IntKind.u8.wrap (z4 - 48)))),IntKind.i64.wrap (s1.2.1+1))) else (some (s1.1,s1.2.1))) else (some (s1.1,s1.2.1)):Option (Int×Int))) (fun s5=>some (.nxt (s5.1,s5.2,IntKind.i64.wrap (s1.2.2+1))))) else (some (.brk (s1.1,s1.2.1,s1.2.2)))) else (some (.brk (s1.1,s1.2.1,s1.2.2)))
def eW (p0s:ByteArray):Option (Int×Bool):=
 aV (aB (fX p0s) bg (0,0,0)) (fun r6=>some r6) (fun s7=>if decide (((p0s.size:Nat):Int)>0) then ((hY p0s 0).bind fun z8=>Option.bind ((if z8==45 then (some (IntKind.i64.wrap (-s7.1))) else (some s7.1):Option Int)) (fun s9=>if decide (s7.2.1>9) then (some (0,false)) else (if decide (((p0s.size:Nat):Int)>10) then (some (0,false)) else ((bS s9).bind fun r10=>if r10 !=p0s then (some (0,false)) else (some (s9,true)))))) else (if decide (s7.2.1>9) then (some (0,false)) else (if decide (((p0s.size:Nat):Int)>10) then (some (0,false)) else ((bS s7.1).bind fun r11=>if r11 !=p0s then (some (0,false)) else (some (s7.1,true))))))
def iS (p0s:ByteArray) (s3:Int):Option (Out (Int×Bool) Int):=
 if decide (s3<9) then ((dH s3).bind fun r3=>if r3==p0s then (some (.ret (s3,true))) else (some (.nxt (IntKind.i64.wrap (s3+1))))) else (some (.brk s3))
def eQ (p0s:ByteArray):Option (Int×Bool):=
 aV (aB (iS p0s) bg 0) (fun r=>some r) (fun s4=>some (0,false))
def fe (p0s:ByteArray):Option (Yq1×Bool):=
 (fW p0s 58).bind fun r0=>if (r0.length:Int) !=2 then (some ((0,0,0,0),false)) else ((aY r0 1).bind fun x1=>if ((x1.size:Nat):Int) !=3 then (some ((0,0,0,0),false)) else ((aY r0 0).bind fun x2=>(eW x2).bind fun r3=>(aY r0 1).bind fun x4=>(mr x4 1 2).bind fun z5=>(eQ z5).bind fun r6=>(aY r0 1).bind fun x11=>(hY x11 0).bind fun z12=>(aY r0 1).bind fun x13=>(hY x13 2).bind fun z14=>(gL (r3.1,IntKind.i64.wrap ((IntKind.i64.wrap z12) - 48),IntKind.i64.wrap ((IntKind.i64.wrap z14) - 48),LC r6.1 2)).bind fun r15=>if r15 !=p0s then (some ((0,0,0,0),false)) else (some ((r3.1,IntKind.i64.wrap ((IntKind.i64.wrap z12) - 48),IntKind.i64.wrap ((IntKind.i64.wrap z14) - 48),LC r6.1 2),true))))
def cj (r0:List ByteArray) (s3:Int×List Yq4):Option (Out ((List Yq4)×Bool) (Int×List Yq4)):=
 if decide (s3.1<(r0.length:Int)) then (if decide (s3.1<=6) then ((aY r0 s3.1).bind fun x4=>if decide (((x4.size:Nat):Int)<2) then (some (.ret (([] :List Yq4),false))) else ((aY r0 s3.1).bind fun x5=>(mr x5 1 ((x5.size:Nat):Int)).bind fun z6=>(fe z6).bind fun r7=>if r7.2 then ((aY r0 s3.1).bind fun x11=>(hY x11 0).bind fun z12=>(di 40 s3.2 ([(z12==43,r7.1.1,r7.1.2.1,r7.1.2.2.1,r7.1.2.2.2)])).bind fun z13=>some (.nxt (IntKind.i64.wrap (s3.1+1),z13))) else (some (.ret (([] :List Yq4),false))))) else (some (.brk (s3.1,s3.2)))) else (some (.brk (s3.1,s3.2)))
def dj (p0s:ByteArray):Option ((List Yq4)×Bool):=
 if p0s==((⟨#[]⟩:ByteArray)) then (some (([] :List Yq4),true)) else ((fW p0s 32).bind fun r0=>aV (aB (cj r0) bg (0,([] :List Yq4))) (fun r14=>some r14) (fun s15=>(cB s15.2).bind fun r16=>if r16 !=p0s then (some (([] :List Yq4),false)) else (some (s15.2,true))))
def gP (p0s:ByteArray):Option (Int×((List (Bool×Yq1)))×Bool):=
 (fW p0s 59).bind fun r1=>if (r1.length:Int) !=3 then (some (0,[],false)) else ((aY r1 0).bind fun x1=>(eW x1).bind fun r2=>(aY r1 1).bind fun x2=>(dj x2).bind fun r3=>if r2.2 then (if r3.2 then ((dI r2.1 r3.1).bind fun r4=>if r4 !=p0s then (some (0,[],false)) else (some (r2.1,r3.1,true))) else (some (0,[],false))) else (some (0,[],false)))
def bm (p0:ByteArray) (s1:(List Int)×(List (List Yq4))×Int×Int):Option (Out ((List Int)×(List (List Yq4))×Int) ((List Int)×(List (List Yq4))×Int×Int)):=
 if decide (s1.2.2.2<((p0.size:Nat):Int)) then (if decide (((p0.size:Nat):Int)<=4000) then (Du (S:=(List Int)×(List (List Yq4))×Int) ((hY p0 s1.2.2.2).bind fun z2=>if z2 !=10 then (some (.inr (s1.1,s1.2.1,s1.2.2.1))) else ((mr p0 s1.2.2.1 (IntKind.i64.wrap (s1.2.2.2+1))).bind fun z3=>(gP z3).bind fun r4=>if r4.2.2 then (if decide ((s1.1.length:Int)>0) then ((aY s1.1 (IntKind.i64.wrap ((s1.1.length:Int) - 1))).bind fun x5=>if r4.1 !=(IntKind.i64.wrap (x5+1)) then (some (.inl (.ret (s1.1,s1.2.1,s1.2.2.1)))) else ((di 8 s1.1 ([r4.1])).bind fun z6=>(di 24 s1.2.1 ([r4.2.1])).bind fun z7=>some (.inr (z6,z7,IntKind.i64.wrap (s1.2.2.2+1))))) else ((di 8 s1.1 ([r4.1])).bind fun z8=>(di 24 s1.2.1 ([r4.2.1])).bind fun z9=>some (.inr (z8,z9,IntKind.i64.wrap (s1.2.2.2+1))))) else (some (.inl (.ret (s1.1,s1.2.1,s1.2.2.1)))))) (fun s10=>some (.nxt (s10.1,s10.2.1,s10.2.2,IntKind.i64.wrap (s1.2.2.2+1))))) else (some (.brk (s1.1,s1.2.1,s1.2.2.1,s1.2.2.2)))) else (some (.brk (s1.1,s1.2.1,s1.2.2.1,s1.2.2.2)))
def m_s_ScanLog (p0:ByteArray):Option ((List Int)×(List (List Yq4))×Int):=
 aV (aB (bm p0) bg (([] :List Int),([] :List (List Yq4)),0,0)) (fun r11=>some r11) (fun s12=>some (s12.1,s12.2.1,s12.2.2.1))
def tC (p0e:F6×Yq6×(List Yq8)×ByteArray):Option Bool:=
 (m_s_ScanLog p0e.2.2.2).bind fun r1=>if r1.2.2==(p0e.2.2.2.size:Int) then (if decide ((p0e.2.2.2.size:Int)<=4000) then (if (r1.1.length:Int)==0 then (some true) else ((aY r1.1 (IntKind.i64.wrap ((r1.1.length:Int) - 1))).bind fun x1=>(cg (p0e.1.1,p0e.1.2)).bind fun r2=>some (x1==r2))) else (some false)) else (some false)
def gr (p0e:F6×Yq6×(List Yq8)×ByteArray):Option Bool:=
 (m_s_IsValidHistory (p0e.1.1,p0e.1.2)).bind fun r1=>if r1 then ((fc (p0e.2.1.1,p0e.2.1.2)).bind fun r2=>if r2 then ((ra ((p0e.1.1,p0e.1.2),(p0e.2.1.1,p0e.2.1.2),p0e.2.2.1,p0e.2.2.2)).bind fun r3=>if r3 then ((tC ((p0e.1.1,p0e.1.2),(p0e.2.1.1,p0e.2.1.2),p0e.2.2.1,p0e.2.2.2)).bind fun r4=>some r4) else (some false)) else (some false)) else (some false)
def kK (p0a:List Int) (s3:(List Int)×Int):Option (Out (List Int) ((List Int)×Int)):=
 if decide (s3.2<(p0a.length:Int)) then ((aY p0a s3.2).bind fun x6=>(aY s3.1 s3.2).bind fun x7=>some (.nxt (s3.1.set s3.2.toNat x6,IntKind.i64.wrap (s3.2+1)))) else (some (.brk (s3.1,s3.2)))
def mO (p0a:List Int):Option (List Int):=
 (mkI 8 (p0a.length:Int) (0:Int)).bind fun x1=>aV (aB (kK p0a) bg (x1,0)) (fun r=>some r) (fun s4=>some s4.1)
def qc (p0a:Int×Int×Int×Int):Option Yq1:=
 some (p0a.1,p0a.2.1,p0a.2.2.1,p0a.2.2.2)
def jS (p0a:List Yq1) (s3:(List Yq1)×Int):Option (Out (List Yq1) ((List Yq1)×Int)):=
 if decide (s3.2<(p0a.length:Int)) then ((aY p0a s3.2).bind fun x6=>(qc (x6.1,x6.2.1,x6.2.2.1,x6.2.2.2)).bind fun r3=>(aY s3.1 s3.2).bind fun x7=>some (.nxt (s3.1.set s3.2.toNat (r3.1,r3.2.1,r3.2.2.1,r3.2.2.2),IntKind.i64.wrap (s3.2+1)))) else (some (.brk (s3.1,s3.2)))
def nK (p0a:List Yq1):Option (List Yq1):=
 (mkI 32 (p0a.length:Int) ((0,0,0,0):Int×Int×Int×Int)).bind fun x1=>aV (aB (jS p0a) bg (x1,0)) (fun r=>some r) (fun s4=>some s4.1)
def nL (p0a:(List Int)×(List Yq1)):Option Yq5:=
 (mO p0a.1).bind fun r1=>(nK p0a.2).bind fun r2=>some (r1,r2)
def iT (p0a:List Yq5) (s3:(List Yq5)×Int):Option (Out (List Yq5) ((List Yq5)×Int)):=
 if decide (s3.2<(p0a.length:Int)) then ((aY p0a s3.2).bind fun x6=>(nL (x6.1,x6.2)).bind fun r9=>(aY s3.1 s3.2).bind fun x7=>some (.nxt (s3.1.set s3.2.toNat (r9.1,r9.2),IntKind.i64.wrap (s3.2+1)))) else (some (.brk (s3.1,s3.2)))
def l5 (p0a:List Yq5):Option (List Yq5):=
 (mkI 48 (p0a.length:Int) (([],[]):(List Int)×(List Yq1))).bind fun x1=>aV (aB (iT p0a) bg (x1,0)) (fun r=>some r) (fun s4=>some s4.1)
def kL (p0a:Int×(List Yq5)):Option F6:=
 (l5 p0a.2).bind fun r1=>some (p0a.1,r1)
def jT (p0a:List Bool) (s3:(List Bool)×Int):Option (Out (List Bool) ((List Bool)×Int)):=
 if decide (s3.2<(p0a.length:Int)) then ((aY p0a s3.2).bind fun x6=>(aY s3.1 s3.2).bind fun x7=>some (.nxt (s3.1.set s3.2.toNat x6,IntKind.i64.wrap (s3.2+1)))) else (some (.brk (s3.1,s3.2)))
def nM (p0a:List Bool):Option (List Bool):=
 (mkI 1 (p0a.length:Int) (false:Bool)).bind fun x1=>aV (aB (jT p0a) bg (x1,0)) (fun r=>some r) (fun s4=>some s4.1)
def jU (p0a:List (List Int)) (s3:(List (List Int))×Int):Option (Out (List (List Int)) ((List (List Int))×Int)):=
 if decide (s3.2<(p0a.length:Int)) then ((aY p0a s3.2).bind fun x6=>(mO x6).bind fun r6=>(aY s3.1 s3.2).bind fun x7=>some (.nxt (s3.1.set s3.2.toNat r6,IntKind.i64.wrap (s3.2+1)))) else (some (.brk (s3.1,s3.2)))
def nN (p0a:List (List Int)):Option (List (List Int)):=
 (mkI 24 (p0a.length:Int) ([] :List Int)).bind fun x1=>aV (aB (jU p0a) bg (x1,0)) (fun r=>some r) (fun s4=>some s4.1)
def iU (p0a:Int×(List Bool)×(List (List Int))):Option Yq2:=
 (nM p0a.2.1).bind fun r1=>(nN p0a.2.2).bind fun r2=>some (p0a.1,r1,r2)
def ff (p0a:List Yq2) (s3:(List Yq2)×Int):Option (Out (List Yq2) ((List Yq2)×Int)):=
 if decide (s3.2<(p0a.length:Int)) then ((aY p0a s3.2).bind fun x6=>(iU (x6.1,x6.2.1,x6.2.2)).bind fun r9=>(aY s3.1 s3.2).bind fun x7=>some (.nxt (s3.1.set s3.2.toNat (r9.1,r9.2.1,r9.2.2),IntKind.i64.wrap (s3.2+1)))) else (some (.brk (s3.1,s3.2)))
def gQ (p0a:List Yq2):Option (List Yq2):=
 (mkI 56 (p0a.length:Int) ((0,[],[]):Int×(List Bool)×(List (List Int)))).bind fun x1=>aV (aB (ff p0a) bg (x1,0)) (fun r=>some r) (fun s4=>some s4.1)
def nO (p0a:Int×Int×Int×Int):Option Yq1:=
 some (p0a.1,p0a.2.1,p0a.2.2.1,p0a.2.2.2)
def iV (p0a:List Yq1) (s3:(List Yq1)×Int):Option (Out (List Yq1) ((List Yq1)×Int)):=
 if decide (s3.2<(p0a.length:Int)) then ((aY p0a s3.2).bind fun x6=>(nO (x6.1,x6.2.1,x6.2.2.1,x6.2.2.2)).bind fun r3=>(aY s3.1 s3.2).bind fun x7=>some (.nxt (s3.1.set s3.2.toNat (r3.1,r3.2.1,r3.2.2.1,r3.2.2.2),IntKind.i64.wrap (s3.2+1)))) else (some (.brk (s3.1,s3.2)))
def l6 (p0a:List Yq1):Option (List Yq1):=
 (mkI 32 (p0a.length:Int) ((0,0,0,0):Int×Int×Int×Int)).bind fun x1=>aV (aB (iV p0a) bg (x1,0)) (fun r=>some r) (fun s4=>some s4.1)
def qd (p0a:(List Yq1)):Option (List Yq1):=
 (l6 p0a).bind fun r1=>some r1
def gR (p0a:Int×((List Yq1))×Int):Option Yq3:=
 (qd p0a.2.1).bind fun r1=>some (p0a.1,r1,p0a.2.2)
def eC (p0a:List Yq3) (s3:(List Yq3)×Int):Option (Out (List Yq3) ((List Yq3)×Int)):=
 if decide (s3.2<(p0a.length:Int)) then ((aY p0a s3.2).bind fun x6=>(gR (x6.1,x6.2.1,x6.2.2)).bind fun r6=>(aY s3.1 s3.2).bind fun x7=>some (.nxt (s3.1.set s3.2.toNat (r6.1,r6.2.1,r6.2.2),IntKind.i64.wrap (s3.2+1)))) else (some (.brk (s3.1,s3.2)))
def gu (p0a:List Yq3):Option (List Yq3):=
 (mkI 40 (p0a.length:Int) ((0,[],0):Int×((List Yq1))×Int)).bind fun x1=>aV (aB (eC p0a) bg (x1,0)) (fun r=>some r) (fun s4=>some s4.1)
def jV (p0a:(List Yq2)×(List Yq3)):Option Yq6:=
 (gQ p0a.1).bind fun r1=>(gu p0a.2).bind fun r2=>some (r1,r2)
def gS (p0a:Int×Int×Int):Option Yq8:=
 some (p0a.1,p0a.2.1,p0a.2.2)
def eD (p0a:List Yq8) (s3:(List Yq8)×Int):Option (Out (List Yq8) ((List Yq8)×Int)):=
 if decide (s3.2<(p0a.length:Int)) then ((aY p0a s3.2).bind fun x6=>(gS (x6.1,x6.2.1,x6.2.2)).bind fun r3=>(aY s3.1 s3.2).bind fun x7=>some (.nxt (s3.1.set s3.2.toNat (r3.1,r3.2.1,r3.2.2),IntKind.i64.wrap (s3.2+1)))) else (some (.brk (s3.1,s3.2)))
def gx (p0a:List Yq8):Option (List Yq8):=
 (mkI 24 (p0a.length:Int) ((0,0,0):Int×Int×Int)).bind fun x1=>aV (aB (eD p0a) bg (x1,0)) (fun r=>some r) (fun s4=>some s4.1)
def il (p0a:F6×Yq6×(List Yq8)×ByteArray):Option (F6×Yq6×(List Yq8)×ByteArray):=
 (kL (p0a.1.1,p0a.1.2)).bind fun r1=>(jV (p0a.2.1.1,p0a.2.1.2)).bind fun r2=>(gx p0a.2.2.1).bind fun r3=>some ((r1.1,r1.2),(r2.1,r2.2),r3,p0a.2.2.2)
def bQ (p0n:Int) (p1a:Int) (p2b:Int):Option Bool:=
 if decide (p0n≥p1a) then (some (decide (p0n<=p2b))) else (some false)
def im (p0e:Int×Int×Int×Int) (p1nodes:Int):Option Bool:=
 (bQ p0e.1 1 99).bind fun r1=>if r1 then ((bQ p0e.2.1 0 (IntKind.i64.wrap (p1nodes - 1))).bind fun r2=>if r2 then ((bQ p0e.2.2.1 0 (IntKind.i64.wrap (p1nodes - 1))).bind fun r3=>if r3 then ((bQ p0e.2.2.2 0 2).bind fun r4=>some r4) else (some false)) else (some false)) else (some false)
def du (p0g:(List Int)×(List Yq1)) (s3:Int):Option (Out Bool Int):=
 if decide (s3<(p0g.1.length:Int)) then ((aY p0g.1 s3).bind fun x3=>(bQ x3 0 2).bind fun r3=>if r3 then (some (.nxt (IntKind.i64.wrap (s3+1)))) else (some (.ret false))) else (some (.brk s3))
def cL (p0g:(List Int)×(List Yq1)) (s7:Int):Option (Out Bool Int):=
 if decide (s7<(p0g.2.length:Int)) then ((aY p0g.2 s7).bind fun x8=>(im (x8.1,x8.2.1,x8.2.2.1,x8.2.2.2) (p0g.1.length:Int)).bind fun r6=>if r6 then (if decide (s7>0) then ((aY p0g.2 (IntKind.i64.wrap (s7 - 1))).bind fun x9=>if decide (x9.1≥x8.1) then (some (.ret false)) else (some (.nxt (IntKind.i64.wrap (s7+1))))) else (some (.nxt (IntKind.i64.wrap (s7+1))))) else (some (.ret false))) else (some (.brk s7))
def b9 (p0g:(List Int)×(List Yq1)):Option Bool:=
 aV (aB (du p0g) bg 0) (fun r=>some r) (fun s4=>aV (aB (cL p0g) bg 0) (fun r=>some r) (fun s8=>(bQ (p0g.1.length:Int) 1 5).bind fun r7=>if r7 then (some (decide ((p0g.2.length:Int)<=12))) else (some false)))
def cd (p0s1:List Int) (p1s2:List Int) (s3:Int):Option (Out Bool Int):=
 if decide (s3<(p0s1.length:Int)) then ((aY p0s1 s3).bind fun x5=>(aY p1s2 s3).bind fun x6=>if x5 !=x6 then (some (.ret false)) else (some (.nxt (IntKind.i64.wrap (s3+1))))) else (some (.brk s3))
def bU (p0s1:List Int) (p1s2:List Int):Option Bool:=
 if (p0s1.length:Int) !=(p1s2.length:Int) then (some false) else (aV (aB (cd p0s1 p1s2) bg 0) (fun r=>some r) (fun s4=>some true))
def dN (p0h:Int×(List Yq5)) (s3:Int):Option (Out Bool Int):=
 if decide (s3<(p0h.2.length:Int)) then ((aY p0h.2 s3).bind fun x5=>(b9 (x5.1,x5.2)).bind fun r15=>if r15 then ((aY p0h.2 0).bind fun x6=>(bU x5.1 x6.1).bind fun r17=>if r17 then (some (.nxt (IntKind.i64.wrap (s3+1)))) else (some (.ret false))) else (some (.ret false))) else (some (.brk s3))
def m_i_IsValidHistory (p0h:Int×(List Yq5)):Option Bool:=
 (bQ (p0h.2.length:Int) 1 8).bind fun r1=>if r1 then ((bQ p0h.1 1 (IntKind.i64.wrap ((IntKind.i64.wrap (999 - (p0h.2.length:Int)))+1))).bind fun r2=>if r2 then (aV (aB (dN p0h) bg 0) (fun r=>some r) (fun s4=>some true)) else (some false)) else (some false)
def ir (p0n:Int):Option Bool:=
 (bQ p0n 0 8).bind fun r1=>some r1
def nP (p0t:Int×Int×Int×Int):Option Bool:=
 if p0t.1==3 then ((ir p0t.2.1).bind fun r3=>if r3 then (if p0t.2.2.1==0 then (some (p0t.2.2.2==0)) else (some false)) else (some false)) else (if p0t.1==7 then (if p0t.2.1==0 then ((bQ p0t.2.2.1 0 p0t.2.2.2).bind fun r1=>if r1 then ((bQ p0t.2.2.2 1 3).bind fun r2=>some r2) else (some false)) else (some false)) else (Option.bind ((if p0t.1==1 then (some (p0t.1==1)) else (if p0t.1==2 then (some (p0t.1==2)) else (if p0t.1==4 then (some (p0t.1==4)) else (if p0t.1==5 then (some (p0t.1==5)) else (some (p0t.1==6))))):Option Bool)) (fun s1=>if s1 then (some ((p0t.1==p0t.1)&&((p0t.2.1==0)&&((p0t.2.2.1==0)&&((p0t.2.2.2==0)&&true))))) else (some false))))
def nQ (p0e:List Yq1) (s1:(List (Tr Yq1))×Int):Option (Out (Tr Yq1) ((List (Tr Yq1))×Int)):=
 if decide (s1.2<(p0e.length:Int)) then ((aY p0e s1.2).bind fun x2=>Option.bind ((Option.bind ((if x2.1==4 then (some (x2.1==4)) else (some (x2.1==5)):Option Bool)) (fun s3=>if s3 then (some 2) else (Option.bind ((if x2.1==6 then (some (x2.1==6)) else (some (x2.1==7)):Option Bool)) (fun s4=>if s4 then (some 1) else (some 0)))):Option Int)) (fun s5=>(nP (x2.1,x2.2.1,x2.2.2.1,x2.2.2.2)).bind fun r6=>if r6 then (if decide ((IntKind.i64.wrap ((s1.1.length:Int) - s5))<0) then (some (.ret Tr.nil)) else ((chk (And (0<=(IntKind.i64.wrap ((s1.1.length:Int) - s5))) ((IntKind.i64.wrap ((s1.1.length:Int) - s5))<=(s1.1.length:Int)))).bind fun _=>(di 8 ([] :List (Tr Yq1)) (s1.1.drop ((IntKind.i64.wrap ((s1.1.length:Int) - s5)).toNat))).bind fun z10=>(chk (And (0<=(IntKind.i64.wrap ((s1.1.length:Int) - s5))) ((IntKind.i64.wrap ((s1.1.length:Int) - s5))<=(s1.1.length:Int)))).bind fun _=>(di 8 (s1.1.take ((IntKind.i64.wrap ((s1.1.length:Int) - s5)).toNat)) ([Tr.node (x2.1,x2.2.1,x2.2.2.1,x2.2.2.2) z10])).bind fun z12=>some (.nxt (z12,IntKind.i64.wrap (s1.2+1))))) else (some (.ret Tr.nil)))) else (some (.brk (s1.1,s1.2)))
def kT (p0e:List Yq1):Option (Tr Yq1):=
 aV (aB (nQ p0e) bg (([] :List (Tr Yq1)),0)) (fun r13=>some r13) (fun s14=>if (s14.1.length:Int) !=1 then (some Tr.nil) else ((aY s14.1 0).bind fun x15=>some x15))
def qe (p0e:List Yq1):Option Bool:=
 (kT p0e).bind fun r0=>some (cond.match_1 (fun (u4:Bool)=>Bool) (Tr.isNil r0) (fun (u5:Unit)=>false) (fun (u6:Unit)=>true))
def iW (p0e:(List Yq1)):Option Bool:=
 if decide ((p0e.length:Int)<=24) then ((qe p0e).bind fun r1=>some r1) else (some false)
def bz (mrec:(Tr Yq1)->Option Int) (p0x:Tr Yq1) (z1:Yq1×List (Tr Yq1)) (s3:Int×Int):Option Yq9:=
 if decide (s3.2<(z1.2.length:Int)) then (Option.bind (((aY z1.2 s3.2).bind fun x4=>(Tr.get p0x).bind fun z5=>(Tr.get p0x).bind fun z6=>if z6.1.1==7 then ((mrec x4).bind fun r10=>(Tr.get p0x).bind fun z11=>(Tr.get p0x).bind fun z12=>some (IntKind.i64.wrap (s3.1+(IntKind.i64.wrap ((IntKind.i64.wrap (r10+3))*z12.1.2.2.2))))) else ((mrec x4).bind fun r13=>some (IntKind.i64.wrap (s3.1+r13))):Option Int)) (fun s14=>some (.nxt (s14,IntKind.i64.wrap (s3.2+1))))) else (some (.brk (s3.1,s3.2)))
def bJ:Nat->(Tr Yq1)->Option Int
 | 0,_=>none
 | n+1,p0x =>
  (Tr.get p0x).bind fun z0=>(Tr.get p0x).bind fun z1=>aV (aB (bz (bJ n) p0x z1) bg (1,0)) (fun r15=>some r15) (fun s16=>some (Min.min s16.1 100000))
def AP (p0kind:Int):Option (Tr Yq1):=
 some (Tr.node (p0kind,0,0,0) ([] :List (Tr Yq1)))
def iu:Nat->(Tr Yq1)->Int->Int->Option (Tr Yq1)
 | 0,_,_,_=>none
 | n+1,p0x,p1low,p2high =>
  if p2high==0 then ((AP 2).bind fun r0=>some r0) else (((iu n) p0x (Max.max 0 (IntKind.i64.wrap (p1low - 1))) (IntKind.i64.wrap (p2high - 1))).bind fun r1=>if decide (p1low>0) then (some (Tr.node (4,0,0,0) ([p0x,r1]))) else ((AP 2).bind fun r2=>some (Tr.node (5,0,0,0) ([Tr.node (4,0,0,0) ([p0x,r1]),r2]))))
def bj (mrec:(Tr Yq1)->Option (Tr Yq1)) (z23:Yq1×List (Tr Yq1)) (s26:Int×Int×Int×Int×Int×List (Tr Yq1)):Option (Out (Tr Yq1) (Int×Int×Int×Int×Int×List (Tr Yq1))):=
 if decide (s26.1<(z23.2.length:Int)) then ((aY z23.2 s26.1).bind fun x27=>(mrec x27).bind fun r30=>(di 8 s26.2.2.2.2.2 ([r30])).bind fun z31=>some (.nxt (IntKind.i64.wrap (s26.1+1),s26.2.1,s26.2.2.1,s26.2.2.2.1,s26.2.2.2.2.1,z31))) else (some (.brk (s26.1,s26.2.1,s26.2.2.1,s26.2.2.2.1,s26.2.2.2.2.1,s26.2.2.2.2.2)))
def br:Nat->(Tr Yq1)->Option (Tr Yq1)
 | 0,_=>none
 | n+1,p0x =>
  (Tr.get p0x).bind fun z0=>(Tr.get p0x).bind fun z1=>if z1.1.1==7 then ((Tr.get p0x).bind fun z11=>(Tr.get p0x).bind fun z12=>(aY z12.2 0).bind fun x13=>((br n) x13).bind fun r14=>(Tr.get p0x).bind fun z15=>(Tr.get p0x).bind fun z16=>(Tr.get p0x).bind fun z17=>(Tr.get p0x).bind fun z18=>(iu fu r14 z16.1.2.2.1 z18.1.2.2.2).bind fun r19=>some r19) else ((Tr.get p0x).bind fun z20=>(Tr.get p0x).bind fun z21=>(Tr.get p0x).bind fun z22=>(Tr.get p0x).bind fun z23=>aV (aB (bj (br n) z23) bg (0,z21.1.1,z21.1.2.1,z21.1.2.2.1,z21.1.2.2.2,([] :List (Tr Yq1)))) (fun r32=>some r32) (fun s33=>some (Tr.node (s33.2.1,s33.2.2.1,s33.2.2.2.1,s33.2.2.2.2.1) s33.2.2.2.2.2)))
def bc (mrec:(Tr Yq1)->(List Yq1)->Option (List Yq1)) (z1:Yq1×List (Tr Yq1)) (s4:Int×List Yq1):Option (Out (List Yq1) (Int×List Yq1)):=
 if decide (s4.1<(z1.2.length:Int)) then ((aY z1.2 s4.1).bind fun x5=>(mrec x5 s4.2).bind fun r6=>some (.nxt (IntKind.i64.wrap (s4.1+1),r6))) else (some (.brk (s4.1,s4.2)))
def bp:Nat->(Tr Yq1)->(List Yq1)->Option (List Yq1)
 | 0,_,_=>none
 | n+1,p0x,p1out =>
  (Tr.get p0x).bind fun z0=>(Tr.get p0x).bind fun z1=>aV (aB (bc (bp n) z1) bg (0,p1out)) (fun r7=>some r7) (fun s8=>(Tr.get p0x).bind fun z12=>(Tr.get p0x).bind fun z13=>(di 32 s8.2 ([(z13.1.1,z13.1.2.1,z13.1.2.2.1,z13.1.2.2.2)])).bind fun z14=>some z14)
def nR (p0x:Tr Yq1):Option (List Yq1):=
 (bp fu p0x ([] :List Yq1)).bind fun r0=>some r0
def jW (p0e:List Yq1):Option ((List Yq1)×Bool):=
 (iW p0e).bind fun r0=>if r0 then ((kT p0e).bind fun r1=>(bJ fu r1).bind fun r2=>if decide (r2>5000) then (some (([] :List Yq1),false)) else ((br fu r1).bind fun r3=>(nR r3).bind fun r4=>if decide ((r4.length:Int)>400) then (some (([] :List Yq1),false)) else (some (r4,true)))) else (some (([] :List Yq1),false))
def cC (p0p:(List Int)×Int×Int×(List Int)×Bool) (p1last:Int) (p2first:Int) (s2:Int×List Int):Option (Out Yq7 (Int×List Int)):=
 if decide (s2.1<(p0p.2.2.2.1.length:Int)) then (Option.bind (((chk (0<=s2.1)).bind fun _=>if (vS (qw p1last s2.1) 1)==1 then ((aY s2.2 s2.1).bind fun x4=>(aY s2.2 s2.1).bind fun x5=>some (s2.2.set s2.1.toNat (orI x4 p2first))) else (some s2.2):Option (List Int))) (fun s6=>some (.nxt (IntKind.i64.wrap (s2.1+1),s6)))) else (some (.brk (s2.1,s2.2)))
def db (p0p:(List Int)×Int×Int×(List Int)×Bool) (p1last:Int) (p2first:Int):Option Yq7:=
 aV (aB (cC p0p p1last p2first) bg (0,p0p.2.2.2.1)) (fun r7=>some r7) (fun s8=>some (p0p.1,p0p.2.1,p0p.2.2.1,s8.2,p0p.2.2.2.2))
def bt:Nat->Yq7->(Tr Yq1)->Option ((Int×Int×Bool)×(List Int)×Int×Int×(List Int)×Bool)
 | 0,_,_=>none
 | n+1,p0,p1 =>
  (Tr.get p1).bind fun z0=>(Tr.get p1).bind fun z1=>if z1.1.1==2 then (some ((0,0,true),p0.1,p0.2.1,p0.2.2.1,p0.2.2.2.1,p0.2.2.2.2)) else (if z1.1.1==3 then ((Tr.get p1).bind fun z5=>(Tr.get p1).bind fun z6=>(di 8 p0.1 ([z6.1.2.1])).bind fun z7=>(di 8 p0.2.2.2.1 ([0])).bind fun z8=>some ((EX 1 (p0.1.length:Int),EX 1 (p0.1.length:Int),false),z7,p0.2.1,p0.2.2.1,z8,p0.2.2.2.2)) else (if z1.1.1==5 then ((Tr.get p1).bind fun z17=>(Tr.get p1).bind fun z18=>(aY z18.2 0).bind fun x19=>((bt n) (p0.1,p0.2.1,p0.2.2.1,p0.2.2.2.1,p0.2.2.2.2) x19).bind fun r20=>(Tr.get p1).bind fun z21=>(Tr.get p1).bind fun z22=>(aY z22.2 1).bind fun x23=>((bt n) r20.2 x23).bind fun r24=>if r20.1.2.2 then (some ((orI r20.1.1 r24.1.1,orI r20.1.2.1 r24.1.2.1,true),r24.2.1,r24.2.2.1,r24.2.2.2.1,r24.2.2.2.2.1,r24.2.2.2.2.2)) else (some ((orI r20.1.1 r24.1.1,orI r20.1.2.1 r24.1.2.1,r24.1.2.2),r24.2.1,r24.2.2.1,r24.2.2.2.1,r24.2.2.2.2.1,r24.2.2.2.2.2))) else (if z1.1.1==4 then ((Tr.get p1).bind fun z33=>(Tr.get p1).bind fun z34=>(aY z34.2 0).bind fun x35=>((bt n) (p0.1,p0.2.1,p0.2.2.1,p0.2.2.2.1,p0.2.2.2.2) x35).bind fun r36=>(Tr.get p1).bind fun z37=>(Tr.get p1).bind fun z38=>(aY z38.2 1).bind fun x39=>((bt n) r36.2 x39).bind fun r40=>(db (r40.2.1,r40.2.2.1,r40.2.2.2.1,r40.2.2.2.2.1,r40.2.2.2.2.2) r36.1.2.1 r40.1.1).bind fun r41=>if r36.1.2.2 then (Option.bind ((if r36.1.2.2 then (some (orI r36.1.1 r40.1.1,r40.1.2.1,r40.1.2.2)) else (some (r36.1.1,r40.1.2.1,r40.1.2.2)):Option (Int×Int×Bool))) (fun s42=>Option.bind ((if r40.1.2.2 then (some (s42.1,orI s42.2.1 r36.1.2.1,s42.2.2)) else (some (s42.1,s42.2.1,s42.2.2)):Option (Int×Int×Bool))) (fun s43=>some ((s43.1,s43.2.1,s43.2.2),r41.1,r41.2.1,r41.2.2.1,r41.2.2.2.1,r41.2.2.2.2)))) else (Option.bind ((if r36.1.2.2 then (some (orI r36.1.1 r40.1.1,r40.1.2.1,false)) else (some (r36.1.1,r40.1.2.1,false)):Option (Int×Int×Bool))) (fun s44=>Option.bind ((if r40.1.2.2 then (some (s44.1,orI s44.2.1 r36.1.2.1,s44.2.2)) else (some (s44.1,s44.2.1,s44.2.2)):Option (Int×Int×Bool))) (fun s45=>some ((s45.1,s45.2.1,s45.2.2),r41.1,r41.2.1,r41.2.2.1,r41.2.2.2.1,r41.2.2.2.2))))) else (if z1.1.1==6 then ((Tr.get p1).bind fun z46=>(Tr.get p1).bind fun z47=>(aY z47.2 0).bind fun x48=>((bt n) (p0.1,p0.2.1,p0.2.2.1,p0.2.2.2.1,p0.2.2.2.2) x48).bind fun r49=>(db (r49.2.1,r49.2.2.1,r49.2.2.2.1,r49.2.2.2.2.1,r49.2.2.2.2.2) r49.1.2.1 r49.1.1).bind fun r50=>some ((r49.1.1,r49.1.2.1,true),r50.1,r50.2.1,r50.2.2.1,r50.2.2.2.1,r50.2.2.2.2)) else (some ((0,0,false),p0.1,p0.2.1,p0.2.2.1,p0.2.2.2.1,p0.2.2.2.2))))))
def cT (r0:(List Yq1)×Bool) (s2:Int×Int):Option (Out (Yq7×Bool) (Int×Int)):=
 if decide (s2.2<(r0.1.length:Int)) then (Option.bind (((aY r0.1 s2.2).bind fun x3=>if x3.1==3 then (some (IntKind.i64.wrap (s2.1+1))) else (some s2.1):Option Int)) (fun s4=>some (.nxt (s4,IntKind.i64.wrap (s2.2+1))))) else (some (.brk (s2.1,s2.2)))
def fI (p0e:List Yq1):Option (Yq7×Bool):=
 (jW p0e).bind fun r0=>if r0.2 then (aV (aB (cT r0) bg (0,0)) (fun r5=>some r5) (fun s6=>if decide (s6.1>20) then (some ((([] :List Int),0,0,([] :List Int),false),false)) else ((kT r0.1).bind fun r7=>(bt fu (([] :List Int),0,0,([] :List Int),false) r7).bind fun r8=>some ((r8.2.1,r8.1.1,r8.1.2.1,r8.2.2.2.2.1,r8.1.2.2),true)))) else (some ((([] :List Int),0,0,([] :List Int),false),false))
def dw (p3:Int->Int->Option (Int×Bool)) (s29:(List Int)×(List (Int×Int))×Int×Int×(List Bool)×(List (List Int))) (s39:(List Int)×(List (Int×Int))×(List Int)×Int):Option (Out (Yq2×Bool) ((List Int)×(List (Int×Int))×(List Int)×Int)):=
 if decide (s39.2.2.2<9) then (Option.bind (((aY s39.1 s29.2.2.1).bind fun x20=>(p3 x20 s39.2.2.2).bind fun r20=>if r20.2 then ((chk (iOk r20.1=true)).bind fun _=>Option.bind ((if (lkM s39.2.1 r20.1).isSome then (some (s39.1,s39.2.1,(lkM s39.2.1 r20.1).getD 0)) else ((Ij s39.2.1 iOk iOk r20.1 (s39.1.length:Int)).bind fun m37=>(di 8 s39.1 ([r20.1])).bind fun z75=>some (z75,m37,(s39.1.length:Int))):Option ((List Int)×(List (Int×Int))×Int))) (fun s43=>(di 8 s39.2.2.1 ([s43.2.2])).bind fun z76=>some (s43.1,s43.2.1,z76))) else ((di 8 s39.2.2.1 ([-1])).bind fun z73=>some (s39.1,s39.2.1,z73)):Option ((List Int)×(List (Int×Int))×(List Int)))) (fun s42=>some (.nxt (s42.1,s42.2.1,s42.2.2,IntKind.i64.wrap (s39.2.2.2+1))))) else (some (.brk (s39.1,s39.2.1,s39.2.2.1,s39.2.2.2)))
def bR (p1:Int) (p2:Int->Option Bool) (p3:Int->Int->Option (Int×Bool)) (s29:(List Int)×(List (Int×Int))×Int×Int×(List Bool)×(List (List Int))):Option (Out (Yq2×Bool) ((List Int)×(List (Int×Int))×Int×Int×(List Bool)×(List (List Int)))):=
 if decide (s29.2.2.1<(s29.1.length:Int)) then (aV (aB (dw p3 s29) bg (s29.1,s29.2.1,([] :List Int),0)) (fun r=>some (.ret r)) (fun s40=>if decide ((s40.1.length:Int)>p1) then (some (.ret ((0,[],[]),false))) else ((aY s40.1 s29.2.2.1).bind fun x21=>(p2 x21).bind fun r21=>(di 1 s29.2.2.2.2.1 ([r21])).bind fun z77=>(di 24 s29.2.2.2.2.2 ([s40.2.2.1])).bind fun z78=>some (.nxt (s40.1,s40.2.1,IntKind.i64.wrap (s29.2.2.1+1),s29.2.2.2.1,z77,z78))))) else (some (.brk (s29.1,s29.2.1,s29.2.2.1,s29.2.2.2.1,s29.2.2.2.2.1,s29.2.2.2.2.2)))
def dJ (p0:Int) (p1:Int) (p2:Int->Option Bool) (p3:Int->Int->Option (Int×Bool)):Option (Yq2×Bool):=
 (Ij ([] :List (Int×Int)) iOk iOk p0 0).bind fun m1=>aV (aB (bR p1 p2 p3) bg ([p0],m1,0,0,[],[])) (fun r=>some r) (fun s30=>some ((s30.2.2.2.1,s30.2.2.2.2.1,s30.2.2.2.2.2),true))
def cU (p0p:(List Int)×Int×Int×(List Int)×Bool) (p1set:Int):Option Bool:=
 if (vS p1set 1)==1 then (if p0p.2.2.2.2 then (some true) else (some ((vS (qw p1set 1) p0p.2.2.1) !=0))) else (some ((vS (qw p1set 1) p0p.2.2.1) !=0))
def cH (p0p:(List Int)×Int×Int×(List Int)×Bool) (p1set:Int) (s6:Int×Int):Option Yq9:=
 if decide (s6.2<(p0p.2.2.2.1.length:Int)) then (Option.bind (((aY p0p.2.2.2.1 s6.2).bind fun x6=>(chk (0<=IntKind.i64.wrap (s6.2+1))).bind fun _=>if (vS (qw p1set (IntKind.i64.wrap (s6.2+1))) 1)==1 then (some (orI s6.1 x6)) else (some s6.1):Option Int)) (fun s8=>some (.nxt (s8,IntKind.i64.wrap (s6.2+1))))) else (some (.brk (s6.1,s6.2)))
def cJ (p0p:(List Int)×Int×Int×(List Int)×Bool) (p2letter:Int) (s7:Int×Int) (s13:Int×Int):Option Yq9:=
 if decide (s13.2<(p0p.1.length:Int)) then (Option.bind (((aY p0p.1 s13.2).bind fun x12=>if x12==p2letter then ((chk (0<=s13.2)).bind fun _=>if (vS (qw s7.1 s13.2) 1)==1 then ((chk (0<=IntKind.i64.wrap (s13.2+1))).bind fun _=>some (orI s13.1 (EX 1 (IntKind.i64.wrap (s13.2+1))))) else (some s13.1)) else (some s13.1):Option Int)) (fun s15=>some (.nxt (s15,IntKind.i64.wrap (s13.2+1))))) else (some (.brk (s13.1,s13.2)))
def fg (p0p:(List Int)×Int×Int×(List Int)×Bool) (p1set:Int) (p2letter:Int):Option Int:=
 Option.bind ((if (vS p1set 1)==1 then (some p0p.2.1) else (some 0):Option Int)) (fun s1=>aV (aB (cH p0p p1set) bg (s1,0)) (fun r=>some r) (fun s7=>aV (aB (cJ p0p p2letter s7) bg (0,0)) (fun r=>some r) (fun s14=>some s14.1)))
def cM (p0set:Int) (p1letter:Int) (q0:(List Int)×Int×Int×(List Int)×Bool):Option (Int×Bool):=
 (fg (q0.1,q0.2.1,q0.2.2.1,q0.2.2.2.1,q0.2.2.2.2) p0set p1letter).bind fun r1=>some (r1,r1 !=0)
def fY (p0p:(List Int)×Int×Int×(List Int)×Bool) (p1most:Int):Option (Yq2×Bool):=
 (dJ 1 p1most (fun a0=>cU (p0p.1,p0p.2.1,p0p.2.2.1,p0p.2.2.2.1,p0p.2.2.2.2) a0) (fun a0 a1=>cM a0 a1 (p0p.1,p0p.2.1,p0p.2.2.1,p0p.2.2.2.1,p0p.2.2.2.2))).bind fun r1=>some ((r1.1.1,r1.1.2.1,r1.1.2.2),r1.2)
def cV (s5:Bool×Int×List Bool) (x6:List Int) (s8:Bool×Int×List Bool):Option (Out (List Bool) (Bool×Int×List Bool)):=
 if decide (s8.2.1<(x6.length:Int)) then (Option.bind (((aY x6 s8.2.1).bind fun x9=>if decide (x9≥0) then ((aY s8.2.2 x9).bind fun x10=>if x10 then ((aY s8.2.2 s5.2.1).bind fun x11=>if x11 then (some (s8.1,s8.2.2)) else ((aY s8.2.2 s5.2.1).bind fun x12=>some (true,s8.2.2.set s5.2.1.toNat true))) else (some (s8.1,s8.2.2))) else (some (s8.1,s8.2.2)):Option (Bool×List Bool))) (fun s13=>some (.nxt (s13.1,IntKind.i64.wrap (s8.2.1+1),s13.2)))) else (some (.brk (s8.1,s8.2.1,s8.2.2)))
def cW (p0a:Int×(List Bool)×List (List Int)) (s5:Bool×Int×List Bool):Option (Out (List Bool) (Bool×Int×List Bool)):=
 if decide (s5.2.1<(p0a.2.2.length:Int)) then ((aY p0a.2.2 s5.2.1).bind fun x6=>aV (aB (cV s5 x6) bg (s5.1,0,s5.2.2)) (fun r14=>some (.ret r14)) (fun s15=>some (.nxt (s15.1,IntKind.i64.wrap (s5.2.1+1),s15.2.2)))) else (some (.brk (s5.1,s5.2.1,s5.2.2)))
def fZ (p0a:Int×(List Bool)×List (List Int)) (s3:Bool×List Bool):Option (Out (List Bool) (Bool×List Bool)):=
 if s3.1 then (aV (aB (cW p0a) bg (false,0,s3.2)) (fun r16=>some (.ret r16)) (fun s17=>some (.nxt (s17.1,s17.2.2)))) else (some (.brk (s3.1,s3.2)))
def dO (p0a:Int×(List Bool)×List (List Int)):Option (List Bool):=
 (di 1 ([] :List Bool) p0a.2.1).bind fun z0=>aV (aB (fZ p0a) bg (true,z0)) (fun r18=>some r18) (fun s19=>some s19.2)
def bV (p0s:List (List Int)) (p1f:(List Int)->Option Bool) (s3:Int):Option (Out Int Int):=
 if decide (s3<(p0s.length:Int)) then ((aY p0s s3).bind fun x3=>(p1f x3).bind fun r6=>if r6 then (some (.ret s3)) else (some (.nxt (IntKind.i64.wrap (s3+1))))) else (some (.brk s3))
def bM (p0s:List (List Int)) (p1f:(List Int)->Option Bool):Option Int:=
 aV (aB (bV p0s p1f) bg 0) (fun r=>some r) (fun s4=>some (-1))
def fF (p0x:List Int) (q0:List Int):Option Bool:=
 (bU p0x q0).bind fun r1=>some r1
def cD (p1:List Int) (x57:List Int) (s52:Int×(List Int)):Option (Out ((List Int)×Int) (Int×(List Int))):=
 if decide (s52.1<(x57.length:Int)) then ((aY x57 s52.1).bind fun x64=>Option.bind ((if decide (x64≥0) then ((aY p1 x64).bind fun x66=>some x66) else (some x64):Option Int)) (fun s54=>(di 8 s52.2 ([s54])).bind fun z38=>some (.nxt (IntKind.i64.wrap (s52.1+1),z38)))) else (some (.brk (s52.1,s52.2)))
def df (p0:Int×(List Bool)×(List (List Int))) (p1:List Int) (s37:(List (List Int))×(List Int)×Int):Option (Out ((List Int)×Int) ((List (List Int))×(List Int)×Int)):=
 if decide (s37.2.2<(p1.length:Int)) then (Option.bind (((aY p1 s37.2.2).bind fun x56=>if decide (x56<0) then ((di 8 s37.2.1 ([-1])).bind fun z42=>some (s37.1,z42)) else ((aY p0.2.2 s37.2.2).bind fun x57=>aV (aB (cD p1 x57) bg (0,[x56])) (fun _=>none) (fun s53=>(bM s37.1 (fun a0=>fF a0 s53.2)).bind fun r12=>Option.bind ((if decide (r12<0) then ((di 24 s37.1 ([s53.2])).bind fun z40=>some (z40,(s37.1.length:Int))) else (some (s37.1,r12)):Option ((List (List Int))×Int))) (fun s55=>(di 8 s37.2.1 ([s55.2])).bind fun z41=>some (s55.1,z41)))):Option ((List (List Int))×(List Int)))) (fun s47=>some (.nxt (s47.1,s47.2,IntKind.i64.wrap (s37.2.2+1))))) else (some (.brk (s37.1,s37.2.1,s37.2.2)))
def de (p0:Int×(List Bool)×(List (List Int))) (p1:List Int):Option ((List Int)×Int):=
 aV (aB (df p0 p1) bg (([] :List (List Int)),([] :List Int),0)) (fun r=>some r) (fun s38=>some (s38.2.1,(s38.1.length:Int)))
def cm (p0a:Int×(List Bool)×(List (List Int))) (r1:List Bool) (s5:(List Int)×Int):Option (Out (List Int) ((List Int)×Int)):=
 if decide (s5.2<(r1.length:Int)) then (Option.bind (((aY r1 s5.2).bind fun x11=>if x11 then ((aY p0a.2.1 s5.2).bind fun x12=>if x12 then ((di 8 s5.1 ([1])).bind fun z18=>some z18) else ((di 8 s5.1 ([0])).bind fun z17=>some z17)) else ((di 8 s5.1 ([-1])).bind fun z16=>some z16):Option (List Int))) (fun s7=>some (.nxt (s7,IntKind.i64.wrap (s5.2+1))))) else (some (.brk (s5.1,s5.2)))
def eR (p0a:Int×(List Bool)×(List (List Int))) (s10:(List Int)×Int):Option (Out (List Int) ((List Int)×Int)):=
 (de (p0a.1,p0a.2.1,p0a.2.2) s10.1).bind fun r4=>if r4.2==s10.2 then (some (.ret r4.1)) else (some (.nxt (r4.1,r4.2)))
def cX (p0a:Int×(List Bool)×(List (List Int))):Option (List Int):=
 (dO (p0a.1,p0a.2.1,p0a.2.2)).bind fun r1=>aV (aB (cm p0a r1) bg (([] :List Int),0)) (fun r=>some r) (fun s6=>aV (aB (eR p0a) bg (s6.1,-1)) (fun r=>some r) (fun s11=>none))
def rb (p0x:Int) (p1y:Int):Option (Int×Int):=
 some (IntKind.u32.wrap (qw (IntKind.u64.wrap ((IntKind.u64.wrap p0x)*(IntKind.u64.wrap p1y))) 32),IntKind.u32.wrap (IntKind.u64.wrap ((IntKind.u64.wrap p0x)*(IntKind.u64.wrap p1y))))
def lp (p0x:Int) (p1y:Int):Option (Int×Int):=
 some (IntKind.u64.wrap ((IntKind.u64.wrap ((IntKind.u64.wrap ((qw p0x 32)*(qw p1y 32)))+(qw (IntKind.u64.wrap ((IntKind.u64.wrap ((qw p0x 32)*(Lx p1y 4294967295)))+(qw (IntKind.u64.wrap ((Lx p0x 4294967295)*(Lx p1y 4294967295))) 32))) 32)))+(qw (IntKind.u64.wrap ((Lx (IntKind.u64.wrap ((IntKind.u64.wrap ((qw p0x 32)*(Lx p1y 4294967295)))+(qw (IntKind.u64.wrap ((Lx p0x 4294967295)*(Lx p1y 4294967295))) 32))) 4294967295)+(IntKind.u64.wrap ((Lx p0x 4294967295)*(qw p1y 32))))) 32)),IntKind.u64.wrap (p0x*p1y))
def mP (p0x:Int) (p1y:Int):Option (Int×Int):=
 (lp p0x p1y).bind fun r1=>some (r1.1,r1.2)
def kd (s4:Int×List Int):Option (Out (List Int) (Int×List Int)):=
 if decide (s4.1<(s4.2.length:Int)) then ((chk (And (0<=s4.1) (s4.1<=(s4.2.length:Int)))).bind fun _=>(chk (And (0<=s4.1) (s4.1<=(s4.2.length:Int)))).bind fun _=>(chk (And (0<=s4.1) (s4.1<=(s4.2.length:Int)))).bind fun _=>(chk (And (0<=s4.1) (s4.1<=(s4.2.length:Int)))).bind fun _=>some (.nxt (IntKind.i64.wrap (s4.1+((Min.min ((s4.2.take s4.1.toNat).length) (s4.2.length - s4.1.toNat):Nat):Int)),yj s4.2 s4.1.toNat (s4.2.take s4.1.toNat)))) else (some (.brk (s4.1,s4.2)))
def ga (p0x:List Int) (p1count:Int):Option (List Int):=
 if decide (p1count<0) then (none) else ((mP (IntKind.u64.wrap (p0x.length:Int)) (IntKind.u64.wrap p1count)).bind fun r0=>if decide (r0.1>0) then (none) else (if decide (r0.2>9223372036854775807) then (none) else ((mkI 8 (IntKind.i64.wrap r0.2) 0).bind fun z1=>aV (aB (kd) bg (((Min.min p0x.length (z1.length - 0):Nat):Int),yj z1 0 p0x)) (fun r13=>some r13) (fun s14=>some s14.2))))
def re:Option Yq2:=
 (ga ([-1]) 9).bind fun r1=>some (0,[false],[r1])
def c8 (p0s:List Int) (p1v:Int) (s3:Int):Option (Out Int Int):=
 if decide (s3<(p0s.length:Int)) then ((aY p0s s3).bind fun x3=>if p1v==x3 then (some (.ret s3)) else (some (.nxt (IntKind.i64.wrap (s3+1))))) else (some (.brk s3))
def dE (p0s:List Int) (p1v:Int):Option Int:=
 aV (aB (c8 p0s p1v) bg 0) (fun r=>some r) (fun s4=>some (-1))
def a7 (p0class:Int) (q0:List Int):Option Int:=
 (dE q0 p0class).bind fun r1=>some r1
def cn (p0c:Int) (q0:Int×(List Bool)×(List (List Int))) (q1:Int->Option Int):Option Bool:=
 (q1 p0c).bind fun r1=>(aY q0.2.1 r1).bind fun x1=>some x1
def dP (p0a:Int×(List Bool)×(List (List Int))) (p1s:Int) (p2letter:Int):Option Int:=
 if decide (p1s<0) then (some (-1)) else ((ir p2letter).bind fun r1=>if r1 then ((aY p0a.2.2 p1s).bind fun x1=>(aY x1 p2letter).bind fun x2=>some x2) else (some (-1)))
def cq (p0c:Int) (p1letter:Int) (q0:Int×(List Bool)×(List (List Int))) (q1:Int->Option Int) (q2:List Int):Option (Int×Bool):=
 (q1 p0c).bind fun r1=>(dP (q0.1,q0.2.1,q0.2.2) r1 p1letter).bind fun r2=>if decide (r2<0) then (some (0,false)) else ((aY q2 r2).bind fun x1=>if decide (x1<0) then (some (0,false)) else ((aY q2 r2).bind fun x2=>some (x2,true)))
def cK (p0a:Int×(List Bool)×(List (List Int))):Option Yq2:=
 (cX (p0a.1,p0a.2.1,p0a.2.2)).bind fun r1=>(aY r1 p0a.1).bind fun x1=>if decide (x1<0) then ((re).bind fun r3=>some (r3.1,r3.2.1,r3.2.2)) else ((aY r1 p0a.1).bind fun x2=>(dJ x2 (r1.length:Int) (fun a0=>cn a0 (p0a.1,p0a.2.1,p0a.2.2) (fun a0=>a7 a0 r1)) (fun a0 a1=>cq a0 a1 (p0a.1,p0a.2.1,p0a.2.2) (fun a0=>a7 a0 r1) r1)).bind fun r2=>some (r2.1.1,r2.1.2.1,r2.1.2.2))
def wV (p0a:Int×(List Bool)×(List (List Int))):Option (Yq2×Bool):=
 (cK (p0a.1,p0a.2.1,p0a.2.2)).bind fun r1=>if decide ((r1.2.1.length:Int)>12) then (some ((0,[],[]),false)) else (some ((r1.1,r1.2.1,r1.2.2),true))
def gb (p0e:(List Yq1)):Option (Yq2×Bool):=
 (fI p0e).bind fun r1=>if r1.2 then ((fY (r1.1.1,r1.1.2.1,r1.1.2.2.1,r1.1.2.2.2.1,r1.1.2.2.2.2) 200).bind fun r2=>if r2.2 then ((wV (r2.1.1,r2.1.2.1,r2.1.2.2)).bind fun r3=>some ((r3.1.1,r3.1.2.1,r3.1.2.2),r3.2)) else (some ((0,[],[]),false))) else (some ((0,[],[]),false))
def bH (p0s:List Yq2) (p1f:Yq2->Option Bool) (s3:Int):Option (Out Int Int):=
 if decide (s3<(p0s.length:Int)) then ((aY p0s s3).bind fun x3=>(p1f (x3.1,x3.2.1,x3.2.2)).bind fun r9=>if r9 then (some (.ret s3)) else (some (.nxt (IntKind.i64.wrap (s3+1))))) else (some (.brk s3))
def aX (p0s:List Yq2) (p1f:Yq2->Option Bool):Option Int:=
 aV (aB (bH p0s p1f) bg 0) (fun r=>some r) (fun s4=>some (-1))
def bT (p0s1:List Bool) (p1s2:List Bool) (s3:Int):Option (Out Bool Int):=
 if decide (s3<(p0s1.length:Int)) then ((aY p0s1 s3).bind fun x5=>(aY p1s2 s3).bind fun x6=>if x5 !=x6 then (some (.ret false)) else (some (.nxt (IntKind.i64.wrap (s3+1))))) else (some (.brk s3))
def dh (p0s1:List Bool) (p1s2:List Bool):Option Bool:=
 if (p0s1.length:Int) !=(p1s2.length:Int) then (some false) else (aV (aB (bT p0s1 p1s2) bg 0) (fun r=>some r) (fun s4=>some true))
def aW (p0s1:List (List Int)) (p1s2:List (List Int)) (p2eq:(List Int)->(List Int)->Option Bool) (s3:Int):Option (Out Bool Int):=
 if decide (s3<(p0s1.length:Int)) then ((aY p0s1 s3).bind fun x5=>(aY p1s2 s3).bind fun x6=>(p2eq x5 x6).bind fun r9=>if r9 then (some (.nxt (IntKind.i64.wrap (s3+1)))) else (some (.ret false))) else (some (.brk s3))
def bD (p0s1:List (List Int)) (p1s2:List (List Int)) (p2eq:(List Int)->(List Int)->Option Bool):Option Bool:=
 if (p0s1.length:Int) !=(p1s2.length:Int) then (some false) else (aV (aB (aW p0s1 p1s2 p2eq) bg 0) (fun r=>some r) (fun s4=>some true))
def fh (p0x:List Int) (p1y:List Int):Option Bool:=
 (bU p0x p1y).bind fun r1=>some r1
def dn (p0a:Int×(List Bool)×(List (List Int))) (p1b:Int×(List Bool)×(List (List Int))):Option Bool:=
 if p0a.1==p1b.1 then ((dh p0a.2.1 p1b.2.1).bind fun r1=>if r1 then ((bD p0a.2.2 p1b.2.2 (fun a0 a1=>fh a0 a1)).bind fun r2=>some r2) else (some false)) else (some false)
def ke (p0b:Int×(List Bool)×(List (List Int))) (q0:Int×(List Bool)×(List (List Int))):Option Bool:=
 (dn (q0.1,q0.2.1,q0.2.2) (p0b.1,p0b.2.1,p0b.2.2)).bind fun r1=>some r1
def kg (p0e:(List Yq1)):Option (List Yq1):=
 (di 32 ([] :List Yq1) p0e).bind fun z1=>some z1
def iX (p0:List Yq3) (s7:Int×(List Yq2)×(List Yq3)):Option (Out (Yq6×Bool) (Int×(List Yq2)×(List Yq3))):=
 if decide (s7.1<(p0.length:Int)) then ((aY p0 s7.1).bind fun x5=>(gb x5.2.1).bind fun r16=>if r16.2 then ((bQ x5.1 1 99).bind fun r17=>if r17 then (if decide (s7.1>0) then ((aY p0 (IntKind.i64.wrap (s7.1 - 1))).bind fun x6=>if decide (x6.1≥x5.1) then (some (.ret (([],[]),false))) else ((aX s7.2.1 (fun a0=>ke a0 (r16.1.1,r16.1.2.1,r16.1.2.2))).bind fun r20=>Option.bind ((if decide (r20<0) then ((di 56 s7.2.1 ([(r16.1.1,r16.1.2.1,r16.1.2.2)])).bind fun z17=>some ((s7.2.1.length:Int),z17,s7.2.2)) else (some (r20,s7.2.1,s7.2.2)):Option (Int×(List Yq2)×(List Yq3)))) (fun s10=>(kg x5.2.1).bind fun r21=>(di 40 s10.2.2 ([(x5.1,r21,s10.1)])).bind fun z18=>some (.nxt (IntKind.i64.wrap (s7.1+1),s10.2.1,z18))))) else ((aX s7.2.1 (fun a0=>ke a0 (r16.1.1,r16.1.2.1,r16.1.2.2))).bind fun r18=>Option.bind ((if decide (r18<0) then ((di 56 s7.2.1 ([(r16.1.1,r16.1.2.1,r16.1.2.2)])).bind fun z14=>some ((s7.2.1.length:Int),z14,s7.2.2)) else (some (r18,s7.2.1,s7.2.2)):Option (Int×(List Yq2)×(List Yq3)))) (fun s9=>(kg x5.2.1).bind fun r19=>(di 40 s9.2.2 ([(x5.1,r19,s9.1)])).bind fun z15=>some (.nxt (IntKind.i64.wrap (s7.1+1),s9.2.1,z15))))) else (some (.ret (([],[]),false)))) else (some (.ret (([],[]),false)))) else (some (.brk (s7.1,s7.2.1,s7.2.2)))
def qf (p0:List Yq3):Option (Yq6×Bool):=
 aV (aB (iX p0) bg (0,[],[])) (fun r=>some r) (fun s8=>some ((s8.2.1,s8.2.2),decide ((p0.length:Int)<=4)))
def aL (p0s1:List Yq2) (p1s2:List Yq2) (p2eq:Yq2->Yq2->Option Bool) (s3:Int):Option (Out Bool Int):=
 if decide (s3<(p0s1.length:Int)) then ((aY p0s1 s3).bind fun x5=>(aY p1s2 s3).bind fun x6=>(p2eq (x5.1,x5.2.1,x5.2.2) (x6.1,x6.2.1,x6.2.2)).bind fun r15=>if r15 then (some (.nxt (IntKind.i64.wrap (s3+1)))) else (some (.ret false))) else (some (.brk s3))
def aU (p0s1:List Yq2) (p1s2:List Yq2) (p2eq:Yq2->Yq2->Option Bool):Option Bool:=
 if (p0s1.length:Int) !=(p1s2.length:Int) then (some false) else (aV (aB (aL p0s1 p1s2 p2eq) bg 0) (fun r=>some r) (fun s4=>some true))
def aJ (p0s1:List Yq3) (p1s2:List Yq3) (p2eq:Yq3->Yq3->Option Bool) (s3:Int):Option (Out Bool Int):=
 if decide (s3<(p0s1.length:Int)) then ((aY p0s1 s3).bind fun x5=>(aY p1s2 s3).bind fun x6=>(p2eq (x5.1,x5.2.1,x5.2.2) (x6.1,x6.2.1,x6.2.2)).bind fun r9=>if r9 then (some (.nxt (IntKind.i64.wrap (s3+1)))) else (some (.ret false))) else (some (.brk s3))
def aR (p0s1:List Yq3) (p1s2:List Yq3) (p2eq:Yq3->Yq3->Option Bool):Option Bool:=
 if (p0s1.length:Int) !=(p1s2.length:Int) then (some false) else (aV (aB (aJ p0s1 p1s2 p2eq) bg 0) (fun r=>some r) (fun s4=>some true))
def bN (p0s1:List Yq1) (p1s2:List Yq1) (s3:Int):Option (Out Bool Int):=
 if decide (s3<(p0s1.length:Int)) then ((aY p0s1 s3).bind fun x5=>(aY p1s2 s3).bind fun x6=>if (x5.1==x6.1)&&((x5.2.1==x6.2.1)&&((x5.2.2.1==x6.2.2.1)&&((x5.2.2.2==x6.2.2.2)&&true))) then (some (.nxt (IntKind.i64.wrap (s3+1)))) else (some (.ret false))) else (some (.brk s3))
def bX (p0s1:List Yq1) (p1s2:List Yq1):Option Bool:=
 if (p0s1.length:Int) !=(p1s2.length:Int) then (some false) else (aV (aB (bN p0s1 p1s2) bg 0) (fun r=>some r) (fun s4=>some true))
def jX (p0a:(List Yq1)) (p1b:(List Yq1)):Option Bool:=
 (bX p0a p1b).bind fun r1=>some r1
def fy (p0a:Int×((List Yq1))×Int) (p1b:Int×((List Yq1))×Int):Option Bool:=
 if p0a.1==p1b.1 then ((jX p0a.2.1 p1b.2.1).bind fun r1=>if r1 then (some (p0a.2.2==p1b.2.2)) else (some false)) else (some false)
def fj (p0a:(List Yq2)×(List Yq3)) (p1b:(List Yq2)×(List Yq3)):Option Bool:=
 (aU p0a.1 p1b.1 (fun a0 a1=>dn a0 a1)).bind fun r1=>if r1 then ((aR p0a.2 p1b.2 (fun a0 a1=>fy a0 a1)).bind fun r2=>some r2) else (some false)
def fl (p0r:(List Yq2)×(List Yq3)):Option Bool:=
 (qf p0r.2).bind fun r1=>if r1.2 then ((fj (r1.1.1,r1.1.2) (p0r.1,p0r.2)).bind fun r2=>some r2) else (some false)
def gy (p0h:Int×(List Yq5)):Option Int:=
 (m_i_IsValidHistory (p0h.1,p0h.2)).bind fun r1=>if r1 then (some (IntKind.i64.wrap ((IntKind.i64.wrap (p0h.1+(p0h.2.length:Int))) - 1))) else (some 0)
def bd (p0s:List Yq3) (p1f:Yq3->Option Bool) (s3:Int):Option (Out Int Int):=
 if decide (s3<(p0s.length:Int)) then ((aY p0s s3).bind fun x3=>(p1f (x3.1,x3.2.1,x3.2.2)).bind fun r6=>if r6 then (some (.ret s3)) else (some (.nxt (IntKind.i64.wrap (s3+1))))) else (some (.brk s3))
def bL (p0s:List Yq3) (p1f:Yq3->Option Bool):Option Int:=
 aV (aB (bd p0s p1f) bg 0) (fun r=>some r) (fun s4=>some (-1))
def iY (p0q:Int×((List Yq1))×Int) (q0:Int):Option Bool:=
 some (p0q.1==q0)
def iZ (p0r:(List Yq2)×(List Yq3)) (p1id:Int):Option Int:=
 (bL p0r.2 (fun a0=>iY a0 p1id)).bind fun r1=>some r1
def dQ (p0:ByteArray) (p1:Int):Option Int:=R.tw p0 p1
def ku (p0:Int):Option (ByteArray):=R.Nv p0
def cN (p0n:Int):Option ByteArray:=
 (ku p0n).bind fun r0=>some r0
def gM (p0e:Int×Int×Int×Int):Option ByteArray:=
 (im (p0e.1,p0e.2.1,p0e.2.2.1,p0e.2.2.2) 5).bind fun r0=>if r0 then ((cN p0e.1).bind fun r9=>(kp r9 (⟨#[58]⟩)).bind fun z10=>(cN p0e.2.1).bind fun r11=>(kp z10 r11).bind fun z12=>(mr (⟨#[97,98,99]⟩) p0e.2.2.2 (IntKind.i64.wrap (p0e.2.2.2+1))).bind fun z13=>(kp z12 z13).bind fun z14=>(cN p0e.2.2.1).bind fun r15=>(kp z14 r15).bind fun z16=>some z16) else (some ((⟨#[]⟩:ByteArray)))
def gT (p0:List ByteArray) (p1:ByteArray):Option (ByteArray):=R.Nu p0 p1
def dR (p0b:List Yq4) (s1:(List ByteArray)×Int):Option (Out ByteArray ((List ByteArray)×Int)):=
 if decide (s1.2<(p0b.length:Int)) then (Du (S:=List ByteArray) ((aY p0b s1.2).bind fun x2=>(gM (x2.2.1,x2.2.2.1,x2.2.2.2.1,x2.2.2.2.2)).bind fun r3=>if r3==((⟨#[]⟩:ByteArray)) then (some (.inl (.ret ((⟨#[]⟩:ByteArray))))) else (if x2.1 then ((kp (⟨#[43]⟩) r3).bind fun z4=>(di 16 s1.1 ([z4])).bind fun z5=>some (.inr z5)) else ((kp (⟨#[45]⟩) r3).bind fun z6=>(di 16 s1.1 ([z6])).bind fun z7=>some (.inr z7)))) (fun s8=>some (.nxt (s8,IntKind.i64.wrap (s1.2+1))))) else (some (.brk (s1.1,s1.2)))
def dx (p0b:List Yq4):Option ByteArray:=
 if decide ((p0b.length:Int)>6) then (some ((⟨#[]⟩:ByteArray))) else (aV (aB (dR p0b) bg (([] :List ByteArray),0)) (fun r9=>some r9) (fun s10=>(gT s10.1 (⟨#[32]⟩)).bind fun r11=>some r11))
def lq (p0s:ByteArray) (s1:Int×Int):Option Yq9:=
 if decide (s1.2<((p0s.size:Nat):Int)) then ((hY p0s s1.2).bind fun z2=>some (.nxt (Int.tmod (IntKind.i64.wrap ((IntKind.i64.wrap ((IntKind.i64.wrap (257*s1.1))+(IntKind.i64.wrap z2)))+1)) 9973,IntKind.i64.wrap (s1.2+1)))) else (some (.brk (s1.1,s1.2)))
def iw (p0s:ByteArray):Option Int:=
 aV (aB (lq p0s) bg (1,0)) (fun r3=>some r3) (fun s4=>some s4.1)
def fA (p0version:Int) (p1b:List Yq4):Option ByteArray:=
 (dx p1b).bind fun r0=>(bQ p0version 1 999).bind fun r1=>if r1 then (if r0==((⟨#[]⟩:ByteArray)) then (if decide ((p1b.length:Int)>0) then (some ((⟨#[]⟩:ByteArray))) else ((cN p0version).bind fun r2=>(kp r2 (⟨#[59]⟩)).bind fun z3=>(kp z3 r0).bind fun z4=>(kp z4 (⟨#[59]⟩)).bind fun z5=>(iw z5).bind fun r6=>(cN r6).bind fun r7=>(kp z5 r7).bind fun z8=>(kp z8 (⟨#[10]⟩)).bind fun z9=>some z9)) else ((cN p0version).bind fun r10=>(kp r10 (⟨#[59]⟩)).bind fun z11=>(kp z11 r0).bind fun z12=>(kp z12 (⟨#[59]⟩)).bind fun z13=>(iw z13).bind fun r14=>(cN r14).bind fun r15=>(kp z13 r15).bind fun z16=>(kp z16 (⟨#[10]⟩)).bind fun z17=>some z17)) else (some ((⟨#[]⟩:ByteArray)))
def cr (p0 p1:ByteArray):Option (List ByteArray):=R.FX p0 p1
def eX (p0:ByteArray):Option (Int×Bool):=R.pa p0
def cE (p0 p1:ByteArray):Option (ByteArray×ByteArray×Bool):=R.SL p0 p1
def fm (p0s:ByteArray):Option (Yq1×Bool):=
 (cE p0s (⟨#[58]⟩)).bind fun r0=>if ((r0.2.1.size:Nat):Int) !=3 then (some ((0,0,0,0),false)) else ((hY r0.2.1 0).bind fun z4=>(hY r0.2.1 1).bind fun z5=>(hY r0.2.1 2).bind fun z6=>(eX r0.1).bind fun r7=>(gM (r7.1,IntKind.i64.wrap ((IntKind.i64.wrap z4) - 48),IntKind.i64.wrap ((IntKind.i64.wrap z6) - 48),IntKind.i64.wrap ((IntKind.i64.wrap z5) - 97))).bind fun r8=>if r8 !=p0s then (some ((0,0,0,0),false)) else (some ((r7.1,IntKind.i64.wrap ((IntKind.i64.wrap z4) - 48),IntKind.i64.wrap ((IntKind.i64.wrap z6) - 48),IntKind.i64.wrap ((IntKind.i64.wrap z5) - 97)),true)))
def ct (r0:List ByteArray) (s3:Int×List Yq4):Option (Out ((List Yq4)×Bool) (Int×List Yq4)):=
 if decide (s3.1<(r0.length:Int)) then ((aY r0 s3.1).bind fun x4=>if x4==((⟨#[]⟩:ByteArray)) then (some (.ret (([] :List Yq4),false))) else ((mr x4 1 ((x4.size:Nat):Int)).bind fun z5=>(fm z5).bind fun r6=>if r6.2 then ((hY x4 0).bind fun z9=>(di 40 s3.2 ([(z9==43,r6.1.1,r6.1.2.1,r6.1.2.2.1,r6.1.2.2.2)])).bind fun z10=>some (.nxt (IntKind.i64.wrap (s3.1+1),z10))) else (some (.ret (([] :List Yq4),false))))) else (some (.brk (s3.1,s3.2)))
def dk (p0s:ByteArray):Option ((List Yq4)×Bool):=
 if p0s==((⟨#[]⟩:ByteArray)) then (some (([] :List Yq4),true)) else ((cr p0s (⟨#[32]⟩)).bind fun r0=>aV (aB (ct r0) bg (0,([] :List Yq4))) (fun r11=>some r11) (fun s12=>(dx s12.2).bind fun r13=>if r13 !=p0s then (some (([] :List Yq4),false)) else (some (s12.2,true))))
def gU (p0s:ByteArray):Option (Int×(List Yq4)×Bool):=
 (cr p0s (⟨#[59]⟩)).bind fun r0=>if (r0.length:Int) !=3 then (some (0,([] :List Yq4),false)) else ((aY r0 0).bind fun x1=>(eX x1).bind fun r2=>(aY r0 1).bind fun x3=>(dk x3).bind fun r4=>if r2.2 then (if r4.2 then ((fA r2.1 r4.1).bind fun r5=>if r5 !=p0s then (some (0,([] :List Yq4),false)) else (some (r2.1,r4.1,true))) else (some (0,([] :List Yq4),false))) else (some (0,([] :List Yq4),false)))
def b7 (p0:ByteArray) (s1:(List Int)×(List (List Yq4))×Int):Option (Out ((List Int)×(List (List Yq4))×Int) ((List Int)×(List (List Yq4))×Int)):=
 if decide (((p0.size:Nat):Int)<=4000) then ((mr p0 s1.2.2 ((p0.size:Nat):Int)).bind fun z2=>(dQ z2 10).bind fun r3=>if decide (r3<0) then (some (.brk (s1.1,s1.2.1,s1.2.2))) else ((mr p0 s1.2.2 (IntKind.i64.wrap ((IntKind.i64.wrap (s1.2.2+r3))+1))).bind fun z4=>(gU z4).bind fun r5=>if r5.2.2 then (if decide ((s1.1.length:Int)>0) then ((aY s1.1 (IntKind.i64.wrap ((s1.1.length:Int) - 1))).bind fun x6=>if r5.1 !=(IntKind.i64.wrap (x6+1)) then (some (.brk (s1.1,s1.2.1,s1.2.2))) else ((di 8 s1.1 ([r5.1])).bind fun z7=>(di 24 s1.2.1 ([r5.2.1])).bind fun z8=>some (.nxt (z7,z8,IntKind.i64.wrap (s1.2.2+(IntKind.i64.wrap (r3+1))))))) else ((di 8 s1.1 ([r5.1])).bind fun z9=>(di 24 s1.2.1 ([r5.2.1])).bind fun z10=>some (.nxt (z9,z10,IntKind.i64.wrap (s1.2.2+(IntKind.i64.wrap (r3+1))))))) else (some (.brk (s1.1,s1.2.1,s1.2.2))))) else (some (.brk (s1.1,s1.2.1,s1.2.2)))
def m_i_ScanLog (p0:ByteArray):Option ((List Int)×(List (List Yq4))×Int):=
 aV (aB (b7 p0) bg (([] :List Int),([] :List (List Yq4)),0)) (fun r11=>some r11) (fun s12=>some (s12.1,s12.2.1,s12.2.2))
def bW (p0:F6×Yq6×(List Yq8)×ByteArray) (r3:Int) (s3:Int):Option (Out Bool Int):=
 if decide (s3<(p0.2.2.1.length:Int)) then ((aY p0.2.2.1 s3).bind fun x5=>(bQ x5.1 1 99).bind fun r14=>if r14 then (if decide (s3>0) then ((aY p0.2.2.1 (IntKind.i64.wrap (s3 - 1))).bind fun x6=>if decide (x6.1≥x5.1) then (some (.ret false)) else ((iZ (p0.2.1.1,p0.2.1.2) x5.2.1).bind fun r17=>if decide (r17<0) then (some (.ret false)) else ((bQ x5.2.2 0 r3).bind fun r18=>if r18 then (some (.nxt (IntKind.i64.wrap (s3+1)))) else (some (.ret false))))) else ((iZ (p0.2.1.1,p0.2.1.2) x5.2.1).bind fun r15=>if decide (r15<0) then (some (.ret false)) else ((bQ x5.2.2 0 r3).bind fun r16=>if r16 then (some (.nxt (IntKind.i64.wrap (s3+1)))) else (some (.ret false))))) else (some (.ret false))) else (some (.brk s3))
def gz (p0:F6×Yq6×(List Yq8)×ByteArray):Option Bool:=
 (m_i_IsValidHistory (p0.1.1,p0.1.2)).bind fun r1=>if r1 then ((fl (p0.2.1.1,p0.2.1.2)).bind fun r2=>if r2 then (if decide ((p0.2.2.1.length:Int)>4) then (some false) else (if decide ((p0.2.2.2.size:Int)>4000) then (some false) else ((gy (p0.1.1,p0.1.2)).bind fun r3=>aV (aB (bW p0 r3) bg 0) (fun r=>some r) (fun s4=>(m_i_ScanLog p0.2.2.2).bind fun r19=>if r19.2.2==(p0.2.2.2.size:Int) then (if (r19.1.length:Int)==0 then (some true) else ((aY r19.1 (IntKind.i64.wrap ((r19.1.length:Int) - 1))).bind fun x7=>some (x7==r3))) else (some false))))) else (some false)) else (some false)
def kM (p0a:List Int) (p1b:List Int) (s3:Int):Option (Out Bool Int):=
 if decide (s3<(p0a.length:Int)) then ((aY p0a s3).bind fun x5=>(aY p1b s3).bind fun x6=>if x5 !=x6 then (some (.ret false)) else (some (.nxt (IntKind.i64.wrap (s3+1))))) else (some (.brk s3))
def qg (p0a:List Int) (p1b:List Int):Option Bool:=
 if (p0a.length:Int) !=(p1b.length:Int) then (some false) else (aV (aB (kM p0a p1b) bg 0) (fun r=>some r) (fun s4=>some true))
def qi (p0a:Int×Int×Int×Int) (p1b:Int×Int×Int×Int):Option Bool:=
 if p0a.1 !=p1b.1 then (some false) else (if p0a.2.1 !=p1b.2.1 then (some false) else (if p0a.2.2.1 !=p1b.2.2.1 then (some false) else (if p0a.2.2.2 !=p1b.2.2.2 then (some false) else (some true))))
def jY (p0a:List Yq1) (p1b:List Yq1) (s3:Int):Option (Out Bool Int):=
 if decide (s3<(p0a.length:Int)) then ((aY p0a s3).bind fun x5=>(aY p1b s3).bind fun x6=>(qi (x5.1,x5.2.1,x5.2.2.1,x5.2.2.2) (x6.1,x6.2.1,x6.2.2.1,x6.2.2.2)).bind fun r3=>if r3 then (some (.nxt (IntKind.i64.wrap (s3+1)))) else (some (.ret false))) else (some (.brk s3))
def rf (p0a:List Yq1) (p1b:List Yq1):Option Bool:=
 if (p0a.length:Int) !=(p1b.length:Int) then (some false) else (aV (aB (jY p0a p1b) bg 0) (fun r=>some r) (fun s4=>some true))
def nS (p0a:(List Int)×(List Yq1)) (p1b:(List Int)×(List Yq1)):Option Bool:=
 (qg p0a.1 p1b.1).bind fun r1=>if r1 then ((rf p0a.2 p1b.2).bind fun r2=>if r2 then (some true) else (some false)) else (some false)
def ja (p0a:List Yq5) (p1b:List Yq5) (s3:Int):Option (Out Bool Int):=
 if decide (s3<(p0a.length:Int)) then ((aY p0a s3).bind fun x5=>(aY p1b s3).bind fun x6=>(nS (x5.1,x5.2) (x6.1,x6.2)).bind fun r15=>if r15 then (some (.nxt (IntKind.i64.wrap (s3+1)))) else (some (.ret false))) else (some (.brk s3))
def pd (p0a:List Yq5) (p1b:List Yq5):Option Bool:=
 if (p0a.length:Int) !=(p1b.length:Int) then (some false) else (aV (aB (ja p0a p1b) bg 0) (fun r=>some r) (fun s4=>some true))
def kN (p0a:Int×(List Yq5)) (p1b:Int×(List Yq5)):Option Bool:=
 if p0a.1 !=p1b.1 then (some false) else ((pd p0a.2 p1b.2).bind fun r1=>if r1 then (some true) else (some false))
def jZ (p0a:List Bool) (p1b:List Bool) (s3:Int):Option (Out Bool Int):=
 if decide (s3<(p0a.length:Int)) then ((aY p0a s3).bind fun x5=>(aY p1b s3).bind fun x6=>if x5 !=x6 then (some (.ret false)) else (some (.nxt (IntKind.i64.wrap (s3+1))))) else (some (.brk s3))
def rh (p0a:List Bool) (p1b:List Bool):Option Bool:=
 if (p0a.length:Int) !=(p1b.length:Int) then (some false) else (aV (aB (jZ p0a p1b) bg 0) (fun r=>some r) (fun s4=>some true))
def j4 (p0a:List (List Int)) (p1b:List (List Int)) (s3:Int):Option (Out Bool Int):=
 if decide (s3<(p0a.length:Int)) then ((aY p0a s3).bind fun x5=>(aY p1b s3).bind fun x6=>(qg x5 x6).bind fun r9=>if r9 then (some (.nxt (IntKind.i64.wrap (s3+1)))) else (some (.ret false))) else (some (.brk s3))
def ri (p0a:List (List Int)) (p1b:List (List Int)):Option Bool:=
 if (p0a.length:Int) !=(p1b.length:Int) then (some false) else (aV (aB (j4 p0a p1b) bg 0) (fun r=>some r) (fun s4=>some true))
def jb (p0a:Int×(List Bool)×(List (List Int))) (p1b:Int×(List Bool)×(List (List Int))):Option Bool:=
 if p0a.1 !=p1b.1 then (some false) else ((rh p0a.2.1 p1b.2.1).bind fun r1=>if r1 then ((ri p0a.2.2 p1b.2.2).bind fun r2=>if r2 then (some true) else (some false)) else (some false))
def fo (p0a:List Yq2) (p1b:List Yq2) (s3:Int):Option (Out Bool Int):=
 if decide (s3<(p0a.length:Int)) then ((aY p0a s3).bind fun x5=>(aY p1b s3).bind fun x6=>(jb (x5.1,x5.2.1,x5.2.2) (x6.1,x6.2.1,x6.2.2)).bind fun r15=>if r15 then (some (.nxt (IntKind.i64.wrap (s3+1)))) else (some (.ret false))) else (some (.brk s3))
def ky (p0a:List Yq2) (p1b:List Yq2):Option Bool:=
 if (p0a.length:Int) !=(p1b.length:Int) then (some false) else (aV (aB (fo p0a p1b) bg 0) (fun r=>some r) (fun s4=>some true))
def nT (p0a:Int×Int×Int×Int) (p1b:Int×Int×Int×Int):Option Bool:=
 if p0a.1 !=p1b.1 then (some false) else (if p0a.2.1 !=p1b.2.1 then (some false) else (if p0a.2.2.1 !=p1b.2.2.1 then (some false) else (if p0a.2.2.2 !=p1b.2.2.2 then (some false) else (some true))))
def jc (p0a:List Yq1) (p1b:List Yq1) (s3:Int):Option (Out Bool Int):=
 if decide (s3<(p0a.length:Int)) then ((aY p0a s3).bind fun x5=>(aY p1b s3).bind fun x6=>(nT (x5.1,x5.2.1,x5.2.2.1,x5.2.2.2) (x6.1,x6.2.1,x6.2.2.1,x6.2.2.2)).bind fun r3=>if r3 then (some (.nxt (IntKind.i64.wrap (s3+1)))) else (some (.ret false))) else (some (.brk s3))
def pe (p0a:List Yq1) (p1b:List Yq1):Option Bool:=
 if (p0a.length:Int) !=(p1b.length:Int) then (some false) else (aV (aB (jc p0a p1b) bg 0) (fun r=>some r) (fun s4=>some true))
def qj (p0a:(List Yq1)) (p1b:(List Yq1)):Option Bool:=
 (pe p0a p1b).bind fun r1=>if r1 then (some true) else (some false)
def gV (p0a:Int×((List Yq1))×Int) (p1b:Int×((List Yq1))×Int):Option Bool:=
 if p0a.1 !=p1b.1 then (some false) else ((qj p0a.2.1 p1b.2.1).bind fun r1=>if r1 then (if p0a.2.2 !=p1b.2.2 then (some false) else (some true)) else (some false))
def eE (p0a:List Yq3) (p1b:List Yq3) (s3:Int):Option (Out Bool Int):=
 if decide (s3<(p0a.length:Int)) then ((aY p0a s3).bind fun x5=>(aY p1b s3).bind fun x6=>(gV (x5.1,x5.2.1,x5.2.2) (x6.1,x6.2.1,x6.2.2)).bind fun r9=>if r9 then (some (.nxt (IntKind.i64.wrap (s3+1)))) else (some (.ret false))) else (some (.brk s3))
def jB (p0a:List Yq3) (p1b:List Yq3):Option Bool:=
 if (p0a.length:Int) !=(p1b.length:Int) then (some false) else (aV (aB (eE p0a p1b) bg 0) (fun r=>some r) (fun s4=>some true))
def j5 (p0a:(List Yq2)×(List Yq3)) (p1b:(List Yq2)×(List Yq3)):Option Bool:=
 (ky p0a.1 p1b.1).bind fun r1=>if r1 then ((jB p0a.2 p1b.2).bind fun r2=>if r2 then (some true) else (some false)) else (some false)
def gW (p0a:Int×Int×Int) (p1b:Int×Int×Int):Option Bool:=
 if p0a.1 !=p1b.1 then (some false) else (if p0a.2.1 !=p1b.2.1 then (some false) else (if p0a.2.2 !=p1b.2.2 then (some false) else (some true)))
def eF (p0a:List Yq8) (p1b:List Yq8) (s3:Int):Option (Out Bool Int):=
 if decide (s3<(p0a.length:Int)) then ((aY p0a s3).bind fun x5=>(aY p1b s3).bind fun x6=>(gW (x5.1,x5.2.1,x5.2.2) (x6.1,x6.2.1,x6.2.2)).bind fun r3=>if r3 then (some (.nxt (IntKind.i64.wrap (s3+1)))) else (some (.ret false))) else (some (.brk s3))
def jC (p0a:List Yq8) (p1b:List Yq8):Option Bool:=
 if (p0a.length:Int) !=(p1b.length:Int) then (some false) else (aV (aB (eF p0a p1b) bg 0) (fun r=>some r) (fun s4=>some true))
def l7 (p0a:F6×Yq6×(List Yq8)×ByteArray) (p1b:F6×Yq6×(List Yq8)×ByteArray):Option Bool:=
 (kN (p0a.1.1,p0a.1.2) (p1b.1.1,p1b.1.2)).bind fun r1=>if r1 then ((j5 (p0a.2.1.1,p0a.2.1.2) (p1b.2.1.1,p1b.2.1.2)).bind fun r2=>if r2 then ((jC p0a.2.2.1 p1b.2.2.1).bind fun r3=>if r3 then (if p0a.2.2.2 !=p1b.2.2.2 then (some false) else (some true)) else (some false)) else (some false)) else (some false)
def jd (p0e:(Int×List ((List Int)×List Yq1))×((List (Int×(List Bool)×List (List Int)))×List (Int×(List Yq1)×Int))×(List Yq8)×ByteArray) (p1n:Int):Option Int:=
 (gr ((p0e.1.1,p0e.1.2),(p0e.2.1.1,p0e.2.1.2),p0e.2.2.1,p0e.2.2.2)).bind fun r0=>if r0 then ((cw p1n 0 ((p0e.2.2.2.size:Nat):Int)).bind fun r1=>if r1 then ((m_s_ScanLog p0e.2.2.2).bind fun r2=>(mr p0e.2.2.2 0 p1n).bind fun z3=>(m_s_ScanLog z3).bind fun r4=>some (IntKind.i64.wrap ((r2.1.length:Int) - (r4.1.length:Int)))) else (some (-1))) else (some (-1))
def je (p0e:(Int×List ((List Int)×List Yq1))×((List (Int×(List Bool)×List (List Int)))×List (Int×(List Yq1)×Int))×(List Yq8)×ByteArray) (p1bytes:Int):Option Int:=
 (bQ p1bytes 0 ((p0e.2.2.2.size:Nat):Int)).bind fun r0=>if r0 then ((gz ((p0e.1.1,p0e.1.2),(p0e.2.1.1,p0e.2.1.2),p0e.2.2.1,p0e.2.2.2)).bind fun r1=>if r1 then ((m_i_ScanLog p0e.2.2.2).bind fun r2=>(mr p0e.2.2.2 0 p1bytes).bind fun z3=>(m_i_ScanLog z3).bind fun r4=>some (IntKind.i64.wrap ((r2.1.length:Int) - (r4.1.length:Int)))) else (some (-1))) else (some (-1))
def dC (p0aE:F6×Yq6×(List Yq8)×ByteArray) (p1aBytes:Int):Option Bool:=
 (lV ((p0aE.1.1,p0aE.1.2),(p0aE.2.1.1,p0aE.2.1.2),p0aE.2.2.1,p0aE.2.2.2) 1048576).bind fun r1=>if decide (r1<0) then (some true) else ((il ((p0aE.1.1,p0aE.1.2),(p0aE.2.1.1,p0aE.2.1.2),p0aE.2.2.1,p0aE.2.2.2)).bind fun r2=>(jd ((r2.1.1,r2.1.2),(r2.2.1.1,r2.2.1.2),r2.2.2.1,r2.2.2.2) p1aBytes).bind fun r3=>(il ((p0aE.1.1,p0aE.1.2),(p0aE.2.1.1,p0aE.2.1.2),p0aE.2.2.1,p0aE.2.2.2)).bind fun r4=>(je ((r4.1.1,r4.1.2),(r4.2.1.1,r4.2.1.2),r4.2.2.1,r4.2.2.2) p1aBytes).bind fun r5=>if r5 !=r3 then (some false) else ((il ((p0aE.1.1,p0aE.1.2),(p0aE.2.1.1,p0aE.2.1.2),p0aE.2.2.1,p0aE.2.2.2)).bind fun r6=>(l7 ((r4.1.1,r4.1.2),(r4.2.1.1,r4.2.1.2),r4.2.2.1,r4.2.2.2) ((r6.1.1,r6.1.2),(r6.2.1.1,r6.2.1.2),r6.2.2.1,r6.2.2.2)).bind fun r7=>if r7 then (some true) else (some false)))
end D
namespace R
open Go.RowKit
open D
abbrev y3:Ty:=.int .i64
abbrev u7:Ty:=.prod y3 (.prod y3 (.prod y3 y3))
abbrev t274:Ty:=.tree 302 274 u7
abbrev Ed:Ty:=.prod y3 (.prod y3 (.prod y3 y3))
abbrev SM:Ty:=.sl 168 Ed
abbrev y91:Ty:=.sl 3 y3
abbrev Nz:Ty:=.prod y91 SM
abbrev Up:Ty:=.prod y3 (.prod y3 y3)
abbrev y59:Ty:=.sl 161 u7
abbrev y61:Ty:=.wr y59
abbrev Dk:Ty:=.prod y3 (.prod y61 y3)
abbrev Uq:Ty:=.prod y3 (.prod y3 (.prod y3 y3))
abbrev y4:Ty:=.bool
abbrev U7:Ty:=.prod y4 Ed
abbrev TN:Ty:=.prod y3 (.prod y3 (.prod y3 y3))
abbrev U8:Ty:=.prod y4 TN
abbrev TO:Ty:=.sl 172 TN
abbrev TP:Ty:=.prod y91 TO
abbrev Ee:Ty:=.sl 4 y4
abbrev Kh:Ty:=.sl 91 y91
abbrev TQ:Ty:=.prod y3 (.prod Ee Kh)
abbrev y54:Ty:=.sl 163 Uq
abbrev y56:Ty:=.wr y54
abbrev TS:Ty:=.prod y3 (.prod y56 y3)
abbrev l8:Ty:=.prod y3 (.prod Ee Kh)
abbrev y9:Ty:=.str
abbrev Ur:Ty:=.sl 9 y9
abbrev y22:Ty:=.sl 179 TP
abbrev y5:Ty:=.int .u8
abbrev Vp:Ty:=.sl 5 y5
abbrev F7:Ty:=.prod y91 (.prod y3 (.prod y3 (.prod y91 y4)))
abbrev y24:Ty:=.prod y3 y22
abbrev y25:Ty:=.sl 184 TQ
abbrev y26:Ty:=.sl 187 TS
abbrev U9:Ty:=.prod y4 (.prod y3 y3)
abbrev Va:Ty:=.prod y3 (.prod y3 y4)
abbrev Us:Ty:=.fro t274
abbrev y28:Ty:=.prod y25 y26
abbrev y29:Ty:=.sl 133 Up
abbrev SN:Ty:=.int .u64
abbrev TU:Ty:=.sl 274 Us
abbrev Vq:Ty:=.prod u7 TU
abbrev y31:Ty:=.prod y24 (.prod y28 (.prod y29 y9))
abbrev SO:Ty:=.int .u64
abbrev y34:Ty:=.sl 126 Nz
abbrev SP:Ty:=.int .u32
abbrev y36:Ty:=.prod y3 y34
abbrev y37:Ty:=.sl 189 l8
abbrev y38:Ty:=.sl 137 Dk
abbrev y40:Ty:=.prod y37 y38
abbrev y88:Ty:=.prod y3 (.prod y3 y3)
abbrev y41:Ty:=.sl 88 y88
abbrev y43:Ty:=.prod y36 (.prod y40 (.prod y41 y9))
abbrev y66:Ty:=.sl 174 U8
abbrev y68:Ty:=.wr y66
abbrev y71:Ty:=.sl 170 U7
abbrev y73:Ty:=.wr y71
abbrev y92:Ty:=.sl 73 y73
theorem ti3:TI Tryz.prog 3 false 1:=⟨⟨_,Tryz.underlying3,rfl⟩,by kernel_rfl⟩
theorem SQ (a0:Int) (a1:Int) (a2:Int) (a3:Int) (b0:Int) (b1:Int) (b2:Int) (b3:Int) (w:World):EqT Tryz.prog 161 (.agg #[.int .i64 a0,.int .i64 a1,.int .i64 a2,.int .i64 a3]) (.agg #[.int .i64 b0,.int .i64 b1,.int .i64 b2,.int .i64 b3]) ((a0==b0)&&((a1==b1)&&((a2==b2)&&((a3==b3)&&true)))) w:=Om w Tryz.underlying161 (by kernel_rfl) (by kernel_rfl) (lQ rfl (kD ti3 rfl) (kD ti3 rfl) (run_equalIn_int w 9998 3 _ _ _ _ Tryz.underlying3) (lQ rfl (kD ti3 rfl) (kD ti3 rfl) (run_equalIn_int w 9998 3 _ _ _ _ Tryz.underlying3) (lQ rfl (kD ti3 rfl) (kD ti3 rfl) (run_equalIn_int w 9998 3 _ _ _ _ Tryz.underlying3) (lQ rfl (kD ti3 rfl) (kD ti3 rfl) (run_equalIn_int w 9998 3 _ _ _ _ Tryz.underlying3) (Ig w)))))
theorem SR (a0:Int) (a1:Int) (a2:Int) (a3:Int) (b0:Int) (b1:Int) (b2:Int) (b3:Int) (w:World):EqT Tryz.prog 168 (.agg #[.int .i64 a0,.int .i64 a1,.int .i64 a2,.int .i64 a3]) (.agg #[.int .i64 b0,.int .i64 b1,.int .i64 b2,.int .i64 b3]) ((a0==b0)&&((a1==b1)&&((a2==b2)&&((a3==b3)&&true)))) w:=Om w Tryz.underlying168 (by kernel_rfl) (by kernel_rfl) (lQ rfl (kD ti3 rfl) (kD ti3 rfl) (run_equalIn_int w 9998 3 _ _ _ _ Tryz.underlying3) (lQ rfl (kD ti3 rfl) (kD ti3 rfl) (run_equalIn_int w 9998 3 _ _ _ _ Tryz.underlying3) (lQ rfl (kD ti3 rfl) (kD ti3 rfl) (run_equalIn_int w 9998 3 _ _ _ _ Tryz.underlying3) (lQ rfl (kD ti3 rfl) (kD ti3 rfl) (run_equalIn_int w 9998 3 _ _ _ _ Tryz.underlying3) (Ig w)))))
theorem mz3 (w:World):(zeroValue 3).run Tryz.prog w= .ok (.int .i64 0) w:=by kernel_rfl
theorem kk3:KeyOk Tryz.prog 3 (fun n:Int=>Value.int .i64 n) P1 iOk:=R1 Tryz.underlying3
theorem ek3:EltOk Tryz.prog 3 (fun n:Int=>Value.int .i64 n) P1 iOk 0:=R2 Tryz.underlying3 mz3
def tt:TT:=[(3,⟨false,1,none,y3,[],some 8,none,false,none,none,some (some .i64),false,none⟩),
 (4,⟨false,1,none,y4,[],some 1,none,true,none,none,none,false,none⟩),
 (5,⟨false,1,none,y5,[],some 1,none,false,none,none,some (some .u8),false,none⟩),
 (9,⟨false,1,none,y9,[],some 16,none,false,none,none,some none,false,none⟩),
 (22,⟨false,1,some 179,y22,[],some 24,none,false,none,none,none,false,none⟩),
 (24,⟨true,2,none,y24,[(0,0),(1,0)],some 32,some [(0,1),(1,1)],false,none,none,none,false,none⟩),
 (25,⟨false,1,some 184,y25,[],some 24,none,false,none,none,none,false,none⟩),
 (26,⟨false,1,some 187,y26,[],some 24,none,false,none,none,none,false,none⟩),
 (28,⟨true,2,none,y28,[(0,0),(1,0)],some 48,some [(0,1),(1,1)],false,none,none,none,false,none⟩),
 (29,⟨false,1,some 133,y29,[],some 24,none,false,none,none,none,false,none⟩),
 (31,⟨true,6,none,y31,[(0,1),(2,1),(4,0),(5,0)],some 120,some [(0,2),(2,2),(4,1),(5,1)],false,none,none,none,false,none⟩),
 (34,⟨false,1,some 126,y34,[],some 24,none,false,none,none,none,false,none⟩),
 (36,⟨true,2,none,y36,[(0,0),(1,0)],some 32,some [(0,1),(1,1)],false,none,none,none,false,none⟩),
 (37,⟨false,1,some 189,y37,[],some 24,none,false,none,none,none,false,none⟩),
 (38,⟨false,1,some 137,y38,[],some 24,none,false,none,none,none,false,none⟩),
 (40,⟨true,2,none,y40,[(0,0),(1,0)],some 48,some [(0,1),(1,1)],false,none,none,none,false,none⟩),
 (41,⟨false,1,some 88,y41,[],some 24,none,false,none,none,none,false,none⟩),
 (43,⟨true,6,none,y43,[(0,1),(2,1),(4,0),(5,0)],some 120,some [(0,2),(2,2),(4,1),(5,1)],false,none,none,none,false,none⟩),
 (54,⟨false,1,some 163,y54,[],some 24,none,false,none,none,none,false,none⟩),
 (56,⟨true,1,none,y56,[(0,0)],some 24,some [(0,1)],false,none,none,none,false,none⟩),
 (59,⟨false,1,some 161,y59,[],some 24,none,false,none,none,none,false,none⟩),
 (61,⟨true,1,none,y61,[(0,0)],some 24,some [(0,1)],false,none,none,none,false,none⟩),
 (66,⟨false,1,some 174,y66,[],some 24,none,false,none,none,none,false,none⟩),
 (68,⟨true,1,none,y68,[(0,0)],some 24,some [(0,1)],false,none,none,none,false,none⟩),
 (71,⟨false,1,some 170,y71,[],some 24,none,false,none,none,none,false,none⟩),
 (73,⟨true,1,none,y73,[(0,0)],some 24,some [(0,1)],false,none,none,none,false,none⟩),
 (88,⟨true,3,none,y88,[(0,0),(1,0),(2,0)],some 24,some [(0,1),(1,1),(2,1)],false,none,none,none,false,none⟩),
 (91,⟨false,1,some 3,y91,[],some 24,none,false,none,none,none,false,none⟩),
 (92,⟨false,1,some 73,y92,[],some 24,none,false,none,none,none,false,none⟩),
 (108,⟨false,1,none,.bool,[],none,none,false,none,none,none,true,none⟩),
 (124,⟨false,1,some 168,SM,[],some 24,none,false,none,none,none,false,none⟩),
 (126,⟨true,2,none,Nz,[(0,0),(1,0)],some 48,some [(0,1),(1,1)],false,none,none,none,false,none⟩),
 (133,⟨true,3,none,Up,[(0,0),(1,0),(2,0)],some 24,some [(0,1),(1,1),(2,1)],false,none,none,none,false,none⟩),
 (134,⟨false,1,none,.bool,[],none,none,false,none,none,none,true,none⟩),
 (137,⟨true,3,none,Dk,[(0,0),(1,0),(2,0)],some 40,some [(0,1),(1,1),(2,1)],false,none,none,none,false,none⟩),
 (138,⟨false,1,none,.bool,[],none,none,false,none,none,none,true,none⟩),
 (161,⟨true,4,none,u7,[(0,0),(1,0),(2,0),(3,0)],some 32,some [(0,1),(1,1),(2,1),(3,1)],false,some [some .i64,some .i64,some .i64,some .i64],none,none,false,none⟩),
 (163,⟨true,4,none,Uq,[(0,0),(1,0),(2,0),(3,0)],some 32,some [(0,1),(1,1),(2,1),(3,1)],false,none,none,none,false,none⟩),
 (168,⟨true,4,none,Ed,[(0,0),(1,0),(2,0),(3,0)],some 32,some [(0,1),(1,1),(2,1),(3,1)],false,some [some .i64,some .i64,some .i64,some .i64],none,none,false,none⟩),
 (170,⟨true,5,none,U7,[(0,0),(1,3)],some 40,some [(0,1),(1,4)],false,none,none,none,false,none⟩),
 (172,⟨true,4,none,TN,[(0,0),(1,0),(2,0),(3,0)],some 32,some [(0,1),(1,1),(2,1),(3,1)],false,none,none,none,false,none⟩),
 (174,⟨true,5,none,U8,[(0,0),(1,3)],some 40,some [(0,1),(1,4)],false,none,none,none,false,none⟩),
 (177,⟨false,1,some 172,TO,[],some 24,none,false,none,none,none,false,none⟩),
 (179,⟨true,2,none,TP,[(0,0),(1,0)],some 48,some [(0,1),(1,1)],false,none,none,none,false,none⟩),
 (181,⟨false,1,some 4,Ee,[],some 24,none,false,none,none,none,false,none⟩),
 (182,⟨false,1,some 91,Kh,[],some 24,none,false,none,none,none,false,none⟩),
 (184,⟨true,3,none,TQ,[(0,0),(1,0),(2,0)],some 56,some [(0,1),(1,1),(2,1)],false,none,none,none,false,none⟩),
 (187,⟨true,3,none,TS,[(0,0),(1,0),(2,0)],some 40,some [(0,1),(1,1),(2,1)],false,none,none,none,false,none⟩),
 (189,⟨true,3,none,l8,[(0,0),(1,0),(2,0)],some 56,some [(0,1),(1,1),(2,1)],false,none,none,none,false,none⟩),
 (194,⟨false,1,none,.bool,[],none,none,false,none,none,none,true,none⟩),
 (200,⟨false,1,none,.bool,[],none,none,false,none,none,none,true,none⟩),
 (204,⟨false,1,none,.bool,[],none,none,false,none,none,none,true,none⟩),
 (205,⟨false,1,some 9,Ur,[],some 24,none,false,none,none,none,false,none⟩),
 (222,⟨false,1,some 5,Vp,[],some 24,none,false,none,none,none,false,none⟩),
 (230,⟨true,5,none,F7,[(0,0),(1,0),(2,0),(3,0),(4,0)],some 72,some [(0,1),(1,1),(2,1),(3,1),(4,1)],false,none,none,none,false,none⟩),
 (263,⟨true,3,none,U9,[(0,0),(1,0),(2,0)],some 24,some [(0,1),(1,1),(2,1)],false,none,none,none,false,none⟩),
 (272,⟨true,3,none,Va,[(0,0),(1,0),(2,0)],some 24,some [(0,1),(1,1),(2,1)],false,none,none,none,false,none⟩),
 (274,⟨false,1,none,Us,[],some 8,none,false,none,none,none,false,some 302⟩),
 (277,⟨false,1,none,.bool,[],none,none,false,none,none,none,true,none⟩),
 (279,⟨false,1,none,.bool,[],none,none,false,none,none,none,true,none⟩),
 (290,⟨false,1,none,.bool,[],none,none,false,none,none,none,true,none⟩),
 (295,⟨false,1,none,SN,[],some 8,none,false,none,none,some (some .u64),false,none⟩),
 (300,⟨false,1,some 274,TU,[],some 24,none,false,none,none,none,false,none⟩),
 (302,⟨true,5,none,Vq,[(0,3),(4,0)],some 56,some [(0,4),(4,1)],false,none,none,none,false,none⟩),
 (306,⟨false,1,none,.bool,[],none,none,false,none,some ⟨3,3,.int,.int⟩,none,false,none⟩),
 (308,⟨false,1,none,.bool,[],none,none,false,none,none,none,true,none⟩),
 (321,⟨false,1,none,SO,[],some 8,none,false,none,none,some (some .u64),false,none⟩),
 (344,⟨false,1,none,SP,[],some 4,none,false,none,none,some (some .u32),false,none⟩),
 (351,⟨false,1,none,.bool,[],none,none,false,none,none,none,true,none⟩)]
theorem Rg:TTok Tryz.prog tt:=⟨qZ (n:=1) (z:=.int .i64 0) ⟨⟨_,Tryz.underlying3,rfl⟩,by kernel_rfl⟩ rfl (by unfold TZ;kernel_rfl) rfl (bh rfl) (fun h=>by cases h) (fun k h=>by obtain rfl:=ae h;exact Tryz.underlying3),
 qZ (n:=1) (z:=.bool false) ⟨⟨_,Tryz.underlying4,rfl⟩,by kernel_rfl⟩ rfl (by unfold TZ;kernel_rfl) rfl (bh rfl) (fun h=>Tryz.underlying4) (fun k h=>by cases h),
 qZ (n:=1) (z:=.int .u8 0) ⟨⟨_,Tryz.underlying5,rfl⟩,by kernel_rfl⟩ rfl (by unfold TZ;kernel_rfl) rfl (bh rfl) (fun h=>by cases h) (fun k h=>by obtain rfl:=ae h;exact Tryz.underlying5),
 qZ (n:=1) (z:=.string ⟨#[]⟩) ⟨⟨_,Tryz.underlying9,rfl⟩,by kernel_rfl⟩ rfl (by unfold TZ;kernel_rfl) rfl (bh rfl) (fun h=>by cases h) (fun k h=>by obtain rfl:=ae h;exact Tryz.underlying9),
 mw ⟨⟨_,Tryz.underlying22,rfl⟩,by kernel_rfl⟩ Tryz.underlying22 (by unfold TZ;kernel_rfl),
 jo (z:=.agg #[.int .i64 0,.slice none 0 0]) ⟨⟨_,Tryz.underlying24,rfl⟩,by kernel_rfl⟩ rfl ⟨⟨_,_,Tryz.underlying24,rfl,rfl,by kernel_rfl⟩,⟨_,_,Tryz.underlying24,rfl,rfl,by kernel_rfl⟩,trivial⟩ (by unfold TZ;kernel_rfl) rfl (bh rfl) ⟨_,Tryz.underlying24,by kernel_rfl⟩ (fun ks h=>by cases h),
 mw ⟨⟨_,Tryz.underlying25,rfl⟩,by kernel_rfl⟩ Tryz.underlying25 (by unfold TZ;kernel_rfl),
 mw ⟨⟨_,Tryz.underlying26,rfl⟩,by kernel_rfl⟩ Tryz.underlying26 (by unfold TZ;kernel_rfl),
 jo (z:=.agg #[.slice none 0 0,.slice none 0 0]) ⟨⟨_,Tryz.underlying28,rfl⟩,by kernel_rfl⟩ rfl ⟨⟨_,_,Tryz.underlying28,rfl,rfl,by kernel_rfl⟩,⟨_,_,Tryz.underlying28,rfl,rfl,by kernel_rfl⟩,trivial⟩ (by unfold TZ;kernel_rfl) rfl (bh rfl) ⟨_,Tryz.underlying28,by kernel_rfl⟩ (fun ks h=>by cases h),
 mw ⟨⟨_,Tryz.underlying29,rfl⟩,by kernel_rfl⟩ Tryz.underlying29 (by unfold TZ;kernel_rfl),
 jo (z:=.agg #[.int .i64 0,.slice none 0 0,.slice none 0 0,.slice none 0 0,.slice none 0 0,.string ⟨#[]⟩]) ⟨⟨_,Tryz.underlying31,rfl⟩,by kernel_rfl⟩ rfl ⟨⟨_,_,Tryz.underlying31,rfl,rfl,by kernel_rfl⟩,⟨_,_,Tryz.underlying31,rfl,rfl,by kernel_rfl⟩,⟨_,_,Tryz.underlying31,rfl,rfl,by kernel_rfl⟩,⟨_,_,Tryz.underlying31,rfl,rfl,by kernel_rfl⟩,trivial⟩ (by unfold TZ;kernel_rfl) rfl (bh rfl) ⟨_,Tryz.underlying31,by kernel_rfl⟩ (fun ks h=>by cases h),
 mw ⟨⟨_,Tryz.underlying34,rfl⟩,by kernel_rfl⟩ Tryz.underlying34 (by unfold TZ;kernel_rfl),
 jo (z:=.agg #[.int .i64 0,.slice none 0 0]) ⟨⟨_,Tryz.underlying36,rfl⟩,by kernel_rfl⟩ rfl ⟨⟨_,_,Tryz.underlying36,rfl,rfl,by kernel_rfl⟩,⟨_,_,Tryz.underlying36,rfl,rfl,by kernel_rfl⟩,trivial⟩ (by unfold TZ;kernel_rfl) rfl (bh rfl) ⟨_,Tryz.underlying36,by kernel_rfl⟩ (fun ks h=>by cases h),
 mw ⟨⟨_,Tryz.underlying37,rfl⟩,by kernel_rfl⟩ Tryz.underlying37 (by unfold TZ;kernel_rfl),
 mw ⟨⟨_,Tryz.underlying38,rfl⟩,by kernel_rfl⟩ Tryz.underlying38 (by unfold TZ;kernel_rfl),
 jo (z:=.agg #[.slice none 0 0,.slice none 0 0]) ⟨⟨_,Tryz.underlying40,rfl⟩,by kernel_rfl⟩ rfl ⟨⟨_,_,Tryz.underlying40,rfl,rfl,by kernel_rfl⟩,⟨_,_,Tryz.underlying40,rfl,rfl,by kernel_rfl⟩,trivial⟩ (by unfold TZ;kernel_rfl) rfl (bh rfl) ⟨_,Tryz.underlying40,by kernel_rfl⟩ (fun ks h=>by cases h),
 mw ⟨⟨_,Tryz.underlying41,rfl⟩,by kernel_rfl⟩ Tryz.underlying41 (by unfold TZ;kernel_rfl),
 jo (z:=.agg #[.int .i64 0,.slice none 0 0,.slice none 0 0,.slice none 0 0,.slice none 0 0,.string ⟨#[]⟩]) ⟨⟨_,Tryz.underlying43,rfl⟩,by kernel_rfl⟩ rfl ⟨⟨_,_,Tryz.underlying43,rfl,rfl,by kernel_rfl⟩,⟨_,_,Tryz.underlying43,rfl,rfl,by kernel_rfl⟩,⟨_,_,Tryz.underlying43,rfl,rfl,by kernel_rfl⟩,⟨_,_,Tryz.underlying43,rfl,rfl,by kernel_rfl⟩,trivial⟩ (by unfold TZ;kernel_rfl) rfl (bh rfl) ⟨_,Tryz.underlying43,by kernel_rfl⟩ (fun ks h=>by cases h),
 mw ⟨⟨_,Tryz.underlying54,rfl⟩,by kernel_rfl⟩ Tryz.underlying54 (by unfold TZ;kernel_rfl),
 jo (z:=.agg #[.slice none 0 0]) ⟨⟨_,Tryz.underlying56,rfl⟩,by kernel_rfl⟩ rfl ⟨⟨_,_,Tryz.underlying56,rfl,rfl,by kernel_rfl⟩,trivial⟩ (by unfold TZ;kernel_rfl) rfl (bh rfl) ⟨_,Tryz.underlying56,by kernel_rfl⟩ (fun ks h=>by cases h),
 mw ⟨⟨_,Tryz.underlying59,rfl⟩,by kernel_rfl⟩ Tryz.underlying59 (by unfold TZ;kernel_rfl),
 jo (z:=.agg #[.slice none 0 0]) ⟨⟨_,Tryz.underlying61,rfl⟩,by kernel_rfl⟩ rfl ⟨⟨_,_,Tryz.underlying61,rfl,rfl,by kernel_rfl⟩,trivial⟩ (by unfold TZ;kernel_rfl) rfl (bh rfl) ⟨_,Tryz.underlying61,by kernel_rfl⟩ (fun ks h=>by cases h),
 mw ⟨⟨_,Tryz.underlying66,rfl⟩,by kernel_rfl⟩ Tryz.underlying66 (by unfold TZ;kernel_rfl),
 jo (z:=.agg #[.slice none 0 0]) ⟨⟨_,Tryz.underlying68,rfl⟩,by kernel_rfl⟩ rfl ⟨⟨_,_,Tryz.underlying68,rfl,rfl,by kernel_rfl⟩,trivial⟩ (by unfold TZ;kernel_rfl) rfl (bh rfl) ⟨_,Tryz.underlying68,by kernel_rfl⟩ (fun ks h=>by cases h),
 mw ⟨⟨_,Tryz.underlying71,rfl⟩,by kernel_rfl⟩ Tryz.underlying71 (by unfold TZ;kernel_rfl),
 jo (z:=.agg #[.slice none 0 0]) ⟨⟨_,Tryz.underlying73,rfl⟩,by kernel_rfl⟩ rfl ⟨⟨_,_,Tryz.underlying73,rfl,rfl,by kernel_rfl⟩,trivial⟩ (by unfold TZ;kernel_rfl) rfl (bh rfl) ⟨_,Tryz.underlying73,by kernel_rfl⟩ (fun ks h=>by cases h),
 jo (z:=.agg #[.int .i64 0,.int .i64 0,.int .i64 0]) ⟨⟨_,Tryz.underlying88,rfl⟩,by kernel_rfl⟩ rfl ⟨⟨_,_,Tryz.underlying88,rfl,rfl,by kernel_rfl⟩,⟨_,_,Tryz.underlying88,rfl,rfl,by kernel_rfl⟩,⟨_,_,Tryz.underlying88,rfl,rfl,by kernel_rfl⟩,trivial⟩ (by unfold TZ;kernel_rfl) rfl (bh rfl) ⟨_,Tryz.underlying88,by kernel_rfl⟩ (fun ks h=>by cases h),
 mw ⟨⟨_,Tryz.underlying91,rfl⟩,by kernel_rfl⟩ Tryz.underlying91 (by unfold TZ;kernel_rfl),
 mw ⟨⟨_,Tryz.underlying92,rfl⟩,by kernel_rfl⟩ Tryz.underlying92 (by unfold TZ;kernel_rfl),
 wU (ty:=.bool) (b:=8) ⟨⟨_,Tryz.underlying108,rfl⟩,by kernel_rfl⟩ rfl (by unfold TZ;kernel_rfl),
 mw ⟨⟨_,Tryz.underlying124,rfl⟩,by kernel_rfl⟩ Tryz.underlying124 (by unfold TZ;kernel_rfl),
 jo (z:=.agg #[.slice none 0 0,.slice none 0 0]) ⟨⟨_,Tryz.underlying126,rfl⟩,by kernel_rfl⟩ rfl ⟨⟨_,_,Tryz.underlying126,rfl,rfl,by kernel_rfl⟩,⟨_,_,Tryz.underlying126,rfl,rfl,by kernel_rfl⟩,trivial⟩ (by unfold TZ;kernel_rfl) rfl (bh rfl) ⟨_,Tryz.underlying126,by kernel_rfl⟩ (fun ks h=>by cases h),
 jo (z:=.agg #[.int .i64 0,.int .i64 0,.int .i64 0]) ⟨⟨_,Tryz.underlying133,rfl⟩,by kernel_rfl⟩ rfl ⟨⟨_,_,Tryz.underlying133,rfl,rfl,by kernel_rfl⟩,⟨_,_,Tryz.underlying133,rfl,rfl,by kernel_rfl⟩,⟨_,_,Tryz.underlying133,rfl,rfl,by kernel_rfl⟩,trivial⟩ (by unfold TZ;kernel_rfl) rfl (bh rfl) ⟨_,Tryz.underlying133,by kernel_rfl⟩ (fun ks h=>by cases h),
 wU (ty:=.bool) (b:=8) ⟨⟨_,Tryz.underlying134,rfl⟩,by kernel_rfl⟩ rfl (by unfold TZ;kernel_rfl),
 jo (z:=.agg #[.int .i64 0,.slice none 0 0,.int .i64 0]) ⟨⟨_,Tryz.underlying137,rfl⟩,by kernel_rfl⟩ rfl ⟨⟨_,_,Tryz.underlying137,rfl,rfl,by kernel_rfl⟩,⟨_,_,Tryz.underlying137,rfl,rfl,by kernel_rfl⟩,⟨_,_,Tryz.underlying137,rfl,rfl,by kernel_rfl⟩,trivial⟩ (by unfold TZ;kernel_rfl) rfl (bh rfl) ⟨_,Tryz.underlying137,by kernel_rfl⟩ (fun ks h=>by cases h),
 wU (ty:=.bool) (b:=8) ⟨⟨_,Tryz.underlying138,rfl⟩,by kernel_rfl⟩ rfl (by unfold TZ;kernel_rfl),
 jo (z:=.agg #[.int .i64 0,.int .i64 0,.int .i64 0,.int .i64 0]) ⟨⟨_,Tryz.underlying161,rfl⟩,by kernel_rfl⟩ rfl ⟨⟨_,_,Tryz.underlying161,rfl,rfl,by kernel_rfl⟩,⟨_,_,Tryz.underlying161,rfl,rfl,by kernel_rfl⟩,⟨_,_,Tryz.underlying161,rfl,rfl,by kernel_rfl⟩,⟨_,_,Tryz.underlying161,rfl,rfl,by kernel_rfl⟩,trivial⟩ (by unfold TZ;kernel_rfl) rfl (bh rfl) ⟨_,Tryz.underlying161,by kernel_rfl⟩ (fun ks h=>by obtain rfl:=ae h;exact fun w a0 b0 a1 b1 a2 b2 a3 b3=>SQ a0 a1 a2 a3 b0 b1 b2 b3 w),
 jo (z:=.agg #[.int .i64 0,.int .i64 0,.int .i64 0,.int .i64 0]) ⟨⟨_,Tryz.underlying163,rfl⟩,by kernel_rfl⟩ rfl ⟨⟨_,_,Tryz.underlying163,rfl,rfl,by kernel_rfl⟩,⟨_,_,Tryz.underlying163,rfl,rfl,by kernel_rfl⟩,⟨_,_,Tryz.underlying163,rfl,rfl,by kernel_rfl⟩,⟨_,_,Tryz.underlying163,rfl,rfl,by kernel_rfl⟩,trivial⟩ (by unfold TZ;kernel_rfl) rfl (bh rfl) ⟨_,Tryz.underlying163,by kernel_rfl⟩ (fun ks h=>by cases h),
 jo (z:=.agg #[.int .i64 0,.int .i64 0,.int .i64 0,.int .i64 0]) ⟨⟨_,Tryz.underlying168,rfl⟩,by kernel_rfl⟩ rfl ⟨⟨_,_,Tryz.underlying168,rfl,rfl,by kernel_rfl⟩,⟨_,_,Tryz.underlying168,rfl,rfl,by kernel_rfl⟩,⟨_,_,Tryz.underlying168,rfl,rfl,by kernel_rfl⟩,⟨_,_,Tryz.underlying168,rfl,rfl,by kernel_rfl⟩,trivial⟩ (by unfold TZ;kernel_rfl) rfl (bh rfl) ⟨_,Tryz.underlying168,by kernel_rfl⟩ (fun ks h=>by obtain rfl:=ae h;exact fun w a0 b0 a1 b1 a2 b2 a3 b3=>SR a0 a1 a2 a3 b0 b1 b2 b3 w),
 jo (z:=.agg #[.bool false,.int .i64 0,.int .i64 0,.int .i64 0,.int .i64 0]) ⟨⟨_,Tryz.underlying170,rfl⟩,by kernel_rfl⟩ rfl ⟨⟨_,_,Tryz.underlying170,rfl,rfl,by kernel_rfl⟩,⟨_,_,Tryz.underlying170,rfl,rfl,by kernel_rfl⟩,trivial⟩ (by unfold TZ;kernel_rfl) rfl (bh rfl) ⟨_,Tryz.underlying170,by kernel_rfl⟩ (fun ks h=>by cases h),
 jo (z:=.agg #[.int .i64 0,.int .i64 0,.int .i64 0,.int .i64 0]) ⟨⟨_,Tryz.underlying172,rfl⟩,by kernel_rfl⟩ rfl ⟨⟨_,_,Tryz.underlying172,rfl,rfl,by kernel_rfl⟩,⟨_,_,Tryz.underlying172,rfl,rfl,by kernel_rfl⟩,⟨_,_,Tryz.underlying172,rfl,rfl,by kernel_rfl⟩,⟨_,_,Tryz.underlying172,rfl,rfl,by kernel_rfl⟩,trivial⟩ (by unfold TZ;kernel_rfl) rfl (bh rfl) ⟨_,Tryz.underlying172,by kernel_rfl⟩ (fun ks h=>by cases h),
 jo (z:=.agg #[.bool false,.int .i64 0,.int .i64 0,.int .i64 0,.int .i64 0]) ⟨⟨_,Tryz.underlying174,rfl⟩,by kernel_rfl⟩ rfl ⟨⟨_,_,Tryz.underlying174,rfl,rfl,by kernel_rfl⟩,⟨_,_,Tryz.underlying174,rfl,rfl,by kernel_rfl⟩,trivial⟩ (by unfold TZ;kernel_rfl) rfl (bh rfl) ⟨_,Tryz.underlying174,by kernel_rfl⟩ (fun ks h=>by cases h),
 mw ⟨⟨_,Tryz.underlying177,rfl⟩,by kernel_rfl⟩ Tryz.underlying177 (by unfold TZ;kernel_rfl),
 jo (z:=.agg #[.slice none 0 0,.slice none 0 0]) ⟨⟨_,Tryz.underlying179,rfl⟩,by kernel_rfl⟩ rfl ⟨⟨_,_,Tryz.underlying179,rfl,rfl,by kernel_rfl⟩,⟨_,_,Tryz.underlying179,rfl,rfl,by kernel_rfl⟩,trivial⟩ (by unfold TZ;kernel_rfl) rfl (bh rfl) ⟨_,Tryz.underlying179,by kernel_rfl⟩ (fun ks h=>by cases h),
 mw ⟨⟨_,Tryz.underlying181,rfl⟩,by kernel_rfl⟩ Tryz.underlying181 (by unfold TZ;kernel_rfl),
 mw ⟨⟨_,Tryz.underlying182,rfl⟩,by kernel_rfl⟩ Tryz.underlying182 (by unfold TZ;kernel_rfl),
 jo (z:=.agg #[.int .i64 0,.slice none 0 0,.slice none 0 0]) ⟨⟨_,Tryz.underlying184,rfl⟩,by kernel_rfl⟩ rfl ⟨⟨_,_,Tryz.underlying184,rfl,rfl,by kernel_rfl⟩,⟨_,_,Tryz.underlying184,rfl,rfl,by kernel_rfl⟩,⟨_,_,Tryz.underlying184,rfl,rfl,by kernel_rfl⟩,trivial⟩ (by unfold TZ;kernel_rfl) rfl (bh rfl) ⟨_,Tryz.underlying184,by kernel_rfl⟩ (fun ks h=>by cases h),
 jo (z:=.agg #[.int .i64 0,.slice none 0 0,.int .i64 0]) ⟨⟨_,Tryz.underlying187,rfl⟩,by kernel_rfl⟩ rfl ⟨⟨_,_,Tryz.underlying187,rfl,rfl,by kernel_rfl⟩,⟨_,_,Tryz.underlying187,rfl,rfl,by kernel_rfl⟩,⟨_,_,Tryz.underlying187,rfl,rfl,by kernel_rfl⟩,trivial⟩ (by unfold TZ;kernel_rfl) rfl (bh rfl) ⟨_,Tryz.underlying187,by kernel_rfl⟩ (fun ks h=>by cases h),
 jo (z:=.agg #[.int .i64 0,.slice none 0 0,.slice none 0 0]) ⟨⟨_,Tryz.underlying189,rfl⟩,by kernel_rfl⟩ rfl ⟨⟨_,_,Tryz.underlying189,rfl,rfl,by kernel_rfl⟩,⟨_,_,Tryz.underlying189,rfl,rfl,by kernel_rfl⟩,⟨_,_,Tryz.underlying189,rfl,rfl,by kernel_rfl⟩,trivial⟩ (by unfold TZ;kernel_rfl) rfl (bh rfl) ⟨_,Tryz.underlying189,by kernel_rfl⟩ (fun ks h=>by cases h),
 wU (ty:=.bool) (b:=8) ⟨⟨_,Tryz.underlying194,rfl⟩,by kernel_rfl⟩ rfl (by unfold TZ;kernel_rfl),
 wU (ty:=.bool) (b:=8) ⟨⟨_,Tryz.underlying200,rfl⟩,by kernel_rfl⟩ rfl (by unfold TZ;kernel_rfl),
 wU (ty:=.bool) (b:=8) ⟨⟨_,Tryz.underlying204,rfl⟩,by kernel_rfl⟩ rfl (by unfold TZ;kernel_rfl),
 mw ⟨⟨_,Tryz.underlying205,rfl⟩,by kernel_rfl⟩ Tryz.underlying205 (by unfold TZ;kernel_rfl),
 mw ⟨⟨_,Tryz.underlying222,rfl⟩,by kernel_rfl⟩ Tryz.underlying222 (by unfold TZ;kernel_rfl),
 jo (z:=.agg #[.slice none 0 0,.int .i64 0,.int .i64 0,.slice none 0 0,.bool false]) ⟨⟨_,Tryz.underlying230,rfl⟩,by kernel_rfl⟩ rfl ⟨⟨_,_,Tryz.underlying230,rfl,rfl,by kernel_rfl⟩,⟨_,_,Tryz.underlying230,rfl,rfl,by kernel_rfl⟩,⟨_,_,Tryz.underlying230,rfl,rfl,by kernel_rfl⟩,⟨_,_,Tryz.underlying230,rfl,rfl,by kernel_rfl⟩,⟨_,_,Tryz.underlying230,rfl,rfl,by kernel_rfl⟩,trivial⟩ (by unfold TZ;kernel_rfl) rfl (bh rfl) ⟨_,Tryz.underlying230,by kernel_rfl⟩ (fun ks h=>by cases h),
 jo (z:=.agg #[.bool false,.int .i64 0,.int .i64 0]) ⟨⟨_,Tryz.underlying263,rfl⟩,by kernel_rfl⟩ rfl ⟨⟨_,_,Tryz.underlying263,rfl,rfl,by kernel_rfl⟩,⟨_,_,Tryz.underlying263,rfl,rfl,by kernel_rfl⟩,⟨_,_,Tryz.underlying263,rfl,rfl,by kernel_rfl⟩,trivial⟩ (by unfold TZ;kernel_rfl) rfl (bh rfl) ⟨_,Tryz.underlying263,by kernel_rfl⟩ (fun ks h=>by cases h),
 jo (z:=.agg #[.int .i64 0,.int .i64 0,.bool false]) ⟨⟨_,Tryz.underlying272,rfl⟩,by kernel_rfl⟩ rfl ⟨⟨_,_,Tryz.underlying272,rfl,rfl,by kernel_rfl⟩,⟨_,_,Tryz.underlying272,rfl,rfl,by kernel_rfl⟩,⟨_,_,Tryz.underlying272,rfl,rfl,by kernel_rfl⟩,trivial⟩ (by unfold TZ;kernel_rfl) rfl (bh rfl) ⟨_,Tryz.underlying272,by kernel_rfl⟩ (fun ks h=>by cases h),
 Uo (e:=302) (E:=274) (u:=u7) ⟨⟨_,Tryz.underlying274,rfl⟩,by kernel_rfl⟩ Tryz.underlying274 (by unfold TZ;kernel_rfl),
 wU (ty:=.bool) (b:=8) ⟨⟨_,Tryz.underlying277,rfl⟩,by kernel_rfl⟩ rfl (by unfold TZ;kernel_rfl),
 wU (ty:=.bool) (b:=8) ⟨⟨_,Tryz.underlying279,rfl⟩,by kernel_rfl⟩ rfl (by unfold TZ;kernel_rfl),
 wU (ty:=.bool) (b:=8) ⟨⟨_,Tryz.underlying290,rfl⟩,by kernel_rfl⟩ rfl (by unfold TZ;kernel_rfl),
 qZ (n:=1) (z:=.int .u64 0) ⟨⟨_,Tryz.underlying295,rfl⟩,by kernel_rfl⟩ rfl (by unfold TZ;kernel_rfl) rfl (bh rfl) (fun h=>by cases h) (fun k h=>by obtain rfl:=ae h;exact Tryz.underlying295),
 mw ⟨⟨_,Tryz.underlying300,rfl⟩,by kernel_rfl⟩ Tryz.underlying300 (by unfold TZ;kernel_rfl),
 jo (z:=.agg #[.int .i64 0,.int .i64 0,.int .i64 0,.int .i64 0,.slice none 0 0]) ⟨⟨_,Tryz.underlying302,rfl⟩,by kernel_rfl⟩ rfl ⟨⟨_,_,Tryz.underlying302,rfl,rfl,by kernel_rfl⟩,⟨_,_,Tryz.underlying302,rfl,rfl,by kernel_rfl⟩,trivial⟩ (by unfold TZ;kernel_rfl) rfl (bh rfl) ⟨_,Tryz.underlying302,by kernel_rfl⟩ (fun ks h=>by cases h),
 Un (m:=⟨3,3,.int,.int⟩) (ty:=.bool) ⟨⟨_,Tryz.underlying306,rfl⟩,by kernel_rfl⟩ rfl ⟨Tryz.underlying306,kk3,ek3⟩,
 wU (ty:=.bool) (b:=8) ⟨⟨_,Tryz.underlying308,rfl⟩,by kernel_rfl⟩ rfl (by unfold TZ;kernel_rfl),
 qZ (n:=1) (z:=.int .u64 0) ⟨⟨_,Tryz.underlying321,rfl⟩,by kernel_rfl⟩ rfl (by unfold TZ;kernel_rfl) rfl (bh rfl) (fun h=>by cases h) (fun k h=>by obtain rfl:=ae h;exact Tryz.underlying321),
 qZ (n:=1) (z:=.int .u32 0) ⟨⟨_,Tryz.underlying344,rfl⟩,by kernel_rfl⟩ rfl (by unfold TZ;kernel_rfl) rfl (bh rfl) (fun h=>by cases h) (fun k h=>by obtain rfl:=ae h;exact Tryz.underlying344),
 wU (ty:=.bool) (b:=8) ⟨⟨_,Tryz.underlying351,rfl⟩,by kernel_rfl⟩ rfl (by unfold TZ;kernel_rfl),trivial⟩
theorem mixed:Tryz.prog.follows .mixedOrders=true:=by kernel_rfl
def O3 (fn:Func):Code:=match fn.body with
 | some c=>c
 | none=>.skip
theorem fk {k:FuncId} {fn:Func} {f:FS} (ft:FT) (hF:FTok Tryz.prog ft) (hf:Tryz.prog.funcs[k]? =some fn) (ann:Ann) (an:List (Nat×Ty):=[]) (tr:Trs:=[]) (hb:fn.body=some (O3 fn):=by rfl) (he:(fn.name == "runtime.NumGoroutine")=false:=by kernel_rfl) (hcl:f.cl=none:=by rfl) (hm:Nat.ble f.ps.length fn.ntmps=true:=by rfl) (hdp:(B1 f.rs&&wu f.ps)=true:=by rfl)
  (hmod: ∀d,appP f.ps f.m d=iM ⟨tt,ft,an,fn.ntmps,tr⟩ (Ka ⟨tt,ft,an,fn.ntmps,tr⟩ fn.results.toList f.rs f.ps d) (O3 fn) ann (fun r=>some r) (fun _ _=>none) (Ka ⟨tt,ft,an,fn.ntmps,tr⟩ fn.results.toList f.rs f.ps d) (oK (wS f.ps d)):=by intro d;kernel_rfl):FOk Tryz.prog k f:=
 fok (V:=⟨tt,ft,an,fn.ntmps,tr⟩) Rg hF mixed hf hb rfl (enters_of hf he hb) hcl (bh hm) hdp ann hmod
def tD:FS:=⟨[.rd y91,.rd y3],[y3],p9,none⟩
def wW:FS:=⟨[.rd TO,.rd y3],[y3],q7,none⟩
def wX:FS:=⟨[.rd TP,.rd y3],[y3],nI,none⟩
def uw:FS:=⟨[.rd y22,.rd y3],[y3],pb,none⟩
def sk:FS:=⟨[.rd y24,.rd y3],[y3],kI,none⟩
def wY:FS:=⟨[.rd Ee,.rd y3],[y3],q8,none⟩
def wZ:FS:=⟨[.rd Kh,.rd y3],[y3],q9,none⟩
def pf:FS:=⟨[.rd TQ,.rd y3],[y3],iP,none⟩
def oe:FS:=⟨[.rd y25,.rd y3],[y3],kt,none⟩
def uy:FS:=⟨[.rd y54,.rd y3],[y3],pc,none⟩
def zu:FS:=⟨[.rd y56,.rd y3],[y3],qa,none⟩
def oh:FS:=⟨[.rd TS,.rd y3],[y3],gN,none⟩
def mQ:FS:=⟨[.rd y26,.rd y3],[y3],jv,none⟩
def qx:FS:=⟨[.rd y28,.rd y3],[y3],jM,none⟩
def mR:FS:=⟨[.rd y29,.rd y3],[y3],jw,none⟩
def uz:FS:=⟨[.rd y31,.rd y3],[y3],lV,none⟩
def jf:FS:=⟨[.rd y3,.rd y3,.rd y3],[y4],cw,none⟩
def zw:FS:=⟨[.rd Nz,.rd Ed],[y4],zt,none⟩
def oi:FS:=⟨[.rd Nz],[y4],fw,none⟩
def sn:FS:=⟨[.rd y91,.rd y91],[y3],lf,none⟩
def jg:FS:=⟨[.rd y36],[y4],m_s_IsValidHistory,none⟩
def pg:FS:=⟨[.rd y3],[y4],ka,none⟩
def rj:FS:=⟨[.rd u7],[y3],lh,none⟩
def zx:FS:=⟨[.rd y61],[y4],qb,none⟩
def ph:FS:=⟨[.rd y61],[y4],iQ,none⟩
def nU:FS:=⟨[.rd y59],[y3],fQ,none⟩
def nV (n:Nat):FS:=⟨[.rd y59],[y3],dt n,none⟩
def tE:FS:=⟨[.rd y59],[y61],jx,none⟩
def tF:FS:=⟨[.rd y61,.rd y61,.rd u7],[y61],jy,none⟩
def zy:FS:=⟨[.rd y3],[y61],mM,none⟩
def l9 (n:Nat):FS:=⟨[.rd y61,.rd y3,.rd y3],[y61],ij n,none⟩
def kO (n:Nat):FS:=⟨[.rd y59],[y61],cA n,none⟩
def qy:FS:=⟨[.rd y61],[y61,y4],jO,none⟩
def w4:FS:=⟨[.ptr 230 F7,.rd y3,.rd y3],[],lj,none⟩
def ma (n:Nat):FS:=⟨[.ptr 230 F7,.rd y59],[U9],cQ n,none⟩
def mb:FS:=⟨[.rd y61],[F7,y4],fH,none⟩
def uA:FS:=⟨[.rd F7,.rd y3,.rd y3],[y3],lX,none⟩
def rk:FS:=⟨[.rd y91,.rd y3],[y3],ln,none⟩
def qz:FS:=⟨[.rd F7,.rd y3],[y4],jP,none⟩
def qA:FS:=⟨[.rd F7,.rd y3],[l8,y4],gH,none⟩
def qB:FS:=⟨[],[l8],mz,none⟩
def so:FS:=⟨[.rd l8,.rd y91,.rd Ee],[l8],gp,none⟩
def rl:FS:=⟨[.rd l8],[Ee],jz,none⟩
def zz:FS:=⟨[.rd l8,.rd y91,.rd y3],[y91],mN,none⟩
def qC:FS:=⟨[.rd l8],[y91],gK,none⟩
def pj:FS:=⟨[.rd l8],[l8],fT,none⟩
def pn:FS:=⟨[.rd y61],[l8,y4],fU,none⟩
def jD:FS:=⟨[.rd l8,.rd l8],[y4],eO,none⟩
def uB:FS:=⟨[.rd y37,.rd l8],[y3],kc,none⟩
def uC:FS:=⟨[.rd y38],[y40,y4],lY,none⟩
def qD:FS:=⟨[.rd y61,.rd y61],[y4],jR,none⟩
def lr:FS:=⟨[.rd y40,.rd y40],[y4],fb,none⟩
def lu:FS:=⟨[.rd y40],[y4],fc,none⟩
def jE:FS:=⟨[.rd y36],[y3],cg,none⟩
def sp:FS:=⟨[.rd y40,.rd y3],[y3],iR,none⟩
def w5:FS:=⟨[.rd y43],[y4],ra,none⟩
def kP:FS:=⟨[.rd y3],[y9],bS,none⟩
def kz:FS:=⟨[.rd y3],[y9],dH,none⟩
def mA:FS:=⟨[.rd Ed],[y9],gL,none⟩
def lx:FS:=⟨[.rd y73],[y9],cB,none⟩
def uD:FS:=⟨[.rd y9],[y3],eV,none⟩
def oj:FS:=⟨[.rd y3,.rd y73],[y9],dI,none⟩
def sq:FS:=⟨[.rd y9,.rd y5],[Ur],fW,none⟩
def po:FS:=⟨[.rd y9],[y3,y4],eW,none⟩
def pq:FS:=⟨[.rd y9],[y3,y4],eQ,none⟩
def su:FS:=⟨[.rd y9],[Ed,y4],fe,none⟩
def qF:FS:=⟨[.rd y9],[y73,y4],dj,none⟩
def om:FS:=⟨[.rd y9],[y3,y73,y4],gP,none⟩
def rm:FS:=⟨[.rd y9],[y91,.sl 73 (.bag y73),y3],m_s_ScanLog,none⟩
def zA:FS:=⟨[.rd y43],[y4],tC,none⟩
def mS:FS:=⟨[.rd y43],[y4],gr,none⟩
def tG:FS:=⟨[.rd y91],[y91],mO,none⟩
def zB:FS:=⟨[.rd TN],[Ed],qc,none⟩
def w6:FS:=⟨[.rd TO],[SM],nK,none⟩
def w7:FS:=⟨[.rd TP],[Nz],nL,none⟩
def uE:FS:=⟨[.rd y22],[y34],l5,none⟩
def sv:FS:=⟨[.rd y24],[y36],kL,none⟩
def w8:FS:=⟨[.rd Ee],[Ee],nM,none⟩
def w9:FS:=⟨[.rd Kh],[Kh],nN,none⟩
def pv:FS:=⟨[.rd TQ],[l8],iU,none⟩
def oo:FS:=⟨[.rd y25],[y37],gQ,none⟩
def xa:FS:=⟨[.rd Uq],[u7],nO,none⟩
def uF:FS:=⟨[.rd y54],[y59],l6,none⟩
def zC:FS:=⟨[.rd y56],[y61],qd,none⟩
def oq:FS:=⟨[.rd TS],[Dk],gR,none⟩
def mT:FS:=⟨[.rd y26],[y38],gu,none⟩
def qG:FS:=⟨[.rd y28],[y40],jV,none⟩
def ot:FS:=⟨[.rd Up],[y88],gS,none⟩
def mU:FS:=⟨[.rd y29],[y41],gx,none⟩
def uG:FS:=⟨[.rd y31],[y43],il,none⟩
def fD:FS:=⟨[.rd y3,.rd y3,.rd y3],[y4],bQ,none⟩
def tH:FS:=⟨[.rd Ed,.rd y3],[y4],im,none⟩
def ou:FS:=⟨[.rd Nz],[y4],b9,none⟩
def cG:FS:=⟨[.rd y91,.rd y91],[y4],bU,none⟩
def jh:FS:=⟨[.rd y36],[y4],m_i_IsValidHistory,none⟩
def pw:FS:=⟨[.rd y3],[y4],ir,none⟩
def xb:FS:=⟨[.rd u7],[y4],nP,none⟩
def bA:FS:=⟨[.rd TU],[TU],fun _=>none,some (274,8)⟩
def qk:FS:=⟨[.rd y61],[t274],kT,none⟩
def zD:FS:=⟨[.rd y61],[y4],qe,none⟩
def px:FS:=⟨[.rd y61],[y4],iW,none⟩
def j6 (n:Nat):FS:=⟨[.rd t274],[y3],bJ n,none⟩
def F8:FS:=⟨[.rd y3],[t274],AP,none⟩
def mc (n:Nat):FS:=⟨[.eat t274,.rd y3,.rd y3],[t274],iu n,none⟩
def ji (n:Nat):FS:=⟨[.rd t274],[t274],br n,none⟩
def gX (n:Nat):FS:=⟨[.rd t274,.ptr 61 y61],[],bp n,none⟩
def sw:FS:=⟨[.rd t274],[y61],nR,none⟩
def qH:FS:=⟨[.rd y61],[y61,y4],jW,none⟩
def kE:FS:=⟨[.ptr 230 F7,.rd y3,.rd y3],[],db,none⟩
def fp (n:Nat):FS:=⟨[.ptr 230 F7,.rd t274],[Va],bt n,none⟩
def me:FS:=⟨[.rd y61],[F7,y4],fI,none⟩
def kA:FS:=⟨[.rd y3,.rd y3,.fn [y3] [y4],.fn [y3,y3] [y3,y4]],[l8,y4],dJ,none⟩
def kh:FS:=⟨[.rd F7,.rd y3],[y4],cU,none⟩
def lz:FS:=⟨[.rd F7,.rd y3,.rd y3],[y3],fg,none⟩
def mV:FS:=⟨[.rd y3,.rd y3,.cap 230 F7],[y3,y4],cM,none⟩
def py:FS:=⟨[.rd F7,.rd y3],[l8,y4],fY,none⟩
def bE:FS:=⟨[.rd Ee],[Ee],fun _=>none,some (4,1)⟩
def mf:FS:=⟨[.rd l8],[Ee],dO,none⟩
def dD:FS:=⟨[.rd Kh,.fn [y91] [y4]],[y3],bM,none⟩
def jq:FS:=⟨[.rd y91,.cap 91 y91],[y4],fF,none⟩
def kF:FS:=⟨[.rd l8,.rd y91],[y91,y3],de,none⟩
def kj:FS:=⟨[.rd l8],[y91],cX,none⟩
def lA:FS:=⟨[.rd SP,.rd SP],[SP,SP],rb,none⟩
def lB:FS:=⟨[.rd SO,.rd SO],[SO,SO],lp,none⟩
def mW:FS:=⟨[.rd SN,.rd SN],[SN,SN],mP,none⟩
def gf:FS:=⟨[.rd y91,.rd y3],[y91],ga,none⟩
def xc:FS:=⟨[],[l8],re,none⟩
def gC:FS:=⟨[.rd y91,.rd y3],[y3],dE,none⟩
def ix:FS:=⟨[.rd y3,.cap 91 y91],[y3],a7,none⟩
def iy:FS:=⟨[.rd y3,.cap 189 l8,.capf 308 [y3] [y3]],[y4],cn,none⟩
def mg:FS:=⟨[.rd l8,.rd y3,.rd y3],[y3],dP,none⟩
def iz:FS:=⟨[.rd y3,.rd y3,.cap 189 l8,.capf 308 [y3] [y3],.cap 91 y91],[y3,y4],cq,none⟩
def jr:FS:=⟨[.rd l8],[l8],cK,none⟩
def CI:FS:=⟨[.rd l8],[l8,y4],wV,none⟩
def pz:FS:=⟨[.rd y61],[l8,y4],gb,none⟩
def cF:FS:=⟨[.rd y37,.fn [l8] [y4]],[y3],aX,none⟩
def fJ:FS:=⟨[.rd Ee,.rd Ee],[y4],dh,none⟩
def bY:FS:=⟨[.rd Kh,.rd Kh,.fn [y91,y91] [y4]],[y4],bD,none⟩
def lC:FS:=⟨[.rd y91,.rd y91],[y4],fh,none⟩
def jF:FS:=⟨[.rd l8,.rd l8],[y4],dn,none⟩
def uH:FS:=⟨[.rd l8,.cap 189 l8],[y4],ke,none⟩
def uI:FS:=⟨[.rd y61],[y61],kg,none⟩
def zE:FS:=⟨[.rd y38],[y40,y4],qf,none⟩
def bw:FS:=⟨[.rd y37,.rd y37,.fn [l8,l8] [y4]],[y4],aU,none⟩
def bq:FS:=⟨[.rd y38,.rd y38,.fn [Dk,Dk] [y4]],[y4],aR,none⟩
def eY:FS:=⟨[.rd y59,.rd y59],[y4],bX,none⟩
def qI:FS:=⟨[.rd y61,.rd y61],[y4],jX,none⟩
def ox:FS:=⟨[.rd Dk,.rd Dk],[y4],fy,none⟩
def lD:FS:=⟨[.rd y40,.rd y40],[y4],fj,none⟩
def lE:FS:=⟨[.rd y40],[y4],fl,none⟩
def mX:FS:=⟨[.rd y36],[y3],gy,none⟩
def cx:FS:=⟨[.rd y38,.fn [Dk] [y4]],[y3],bL,none⟩
def pA:FS:=⟨[.rd Dk,.cap 3 y3],[y4],iY,none⟩
def sx:FS:=⟨[.rd y40,.rd y3],[y3],iZ,none⟩
def kl:FS:=⟨[.rd y9,.rd y5],[.int .i64],dQ,none⟩
def oy:FS:=⟨[.rd y3],[.str],ku,none⟩
def nW:FS:=⟨[.rd y3],[y9],cN,none⟩
def mB:FS:=⟨[.rd Ed],[y9],gM,none⟩
def oz:FS:=⟨[.rd Ur,.rd y9],[.str],gT,none⟩
def lF:FS:=⟨[.rd y73],[y9],dx,none⟩
def uJ:FS:=⟨[.rd y9],[y3],iw,none⟩
def oA:FS:=⟨[.rd y3,.rd y73],[y9],fA,none⟩
def jG:FS:=⟨[.rd y9,.rd y9],[.sl 9 .str],cr,none⟩
def pB:FS:=⟨[.rd y9],[.int .i64,.bool],eX,none⟩
def pC:FS:=⟨[.rd y9,.rd y9],[.str,.str,.bool],cE,none⟩
def sy:FS:=⟨[.rd y9],[Ed,y4],fm,none⟩
def qJ:FS:=⟨[.rd y9],[y73,y4],dk,none⟩
def oB:FS:=⟨[.rd y9],[y3,y73,y4],gU,none⟩
def rp:FS:=⟨[.rd y9],[y91,.sl 73 (.bag y73),y3],m_i_ScanLog,none⟩
def mY:FS:=⟨[.rd y43],[y4],gz,none⟩
def tI:FS:=⟨[.rd y91,.rd y91],[y4],qg,none⟩
def zF:FS:=⟨[.rd Ed,.rd Ed],[y4],qi,none⟩
def xd:FS:=⟨[.rd SM,.rd SM],[y4],rf,none⟩
def xe:FS:=⟨[.rd Nz,.rd Nz],[y4],nS,none⟩
def uK:FS:=⟨[.rd y34,.rd y34],[y4],pd,none⟩
def sA:FS:=⟨[.rd y36,.rd y36],[y4],kN,none⟩
def xf:FS:=⟨[.rd Ee,.rd Ee],[y4],rh,none⟩
def xg:FS:=⟨[.rd Kh,.rd Kh],[y4],ri,none⟩
def pD:FS:=⟨[.rd l8,.rd l8],[y4],jb,none⟩
def oC:FS:=⟨[.rd y37,.rd y37],[y4],ky,none⟩
def xh:FS:=⟨[.rd u7,.rd u7],[y4],nT,none⟩
def uL:FS:=⟨[.rd y59,.rd y59],[y4],pe,none⟩
def zG:FS:=⟨[.rd y61,.rd y61],[y4],qj,none⟩
def oD:FS:=⟨[.rd Dk,.rd Dk],[y4],gV,none⟩
def mZ:FS:=⟨[.rd y38,.rd y38],[y4],jB,none⟩
def qK:FS:=⟨[.rd y40,.rd y40],[y4],j5,none⟩
def oE:FS:=⟨[.rd y88,.rd y88],[y4],gW,none⟩
def na:FS:=⟨[.rd y41,.rd y41],[y4],jC,none⟩
def uM:FS:=⟨[.rd y43,.rd y43],[y4],l7,none⟩
def pE:FS:=⟨[.rd y43,.rd y3],[y3],jd,none⟩
def pF:FS:=⟨[.rd y43,.rd y3],[y3],je,none⟩
def oN:FS:=⟨[.rd y31,.rd y3],[y4],dC,none⟩
end R
namespace R
open Go.RowKit
open D
theorem zH:FOk Tryz.prog 206 tD:=fk [] trivial Tryz.func206 .no
theorem Ef:FOk Tryz.prog 207 wW:=fk [] trivial Tryz.func207 .no
theorem Eg:FOk Tryz.prog 149 wX:=fk [(206,tD),(207,wW)] ⟨zH,Ef,trivial⟩ Tryz.func149 .no
theorem CJ:FOk Tryz.prog 95 uw:=fk [(149,wX)] ⟨Eg,trivial⟩ Tryz.func95 (.two .no (.two .no (.two .no (.two (.two .no (.loop [.slot 1 (.num .i64),.slot 5 (.num .i64)] .no)) .no))))
theorem AQ:FOk Tryz.prog 40 sk:=fk [(95,uw)] ⟨CJ,trivial⟩ Tryz.func40 .no
theorem Eh:FOk Tryz.prog 208 wY:=fk [] trivial Tryz.func208 .no
theorem Ei:FOk Tryz.prog 209 wZ:=fk [(206,tD)] ⟨zH,trivial⟩ Tryz.func209 (.two .no (.two .no (.two .no (.two (.two .no (.loop [.slot 1 (.num .i64),.slot 5 (.num .i64)] .no)) .no))))
theorem xi:FOk Tryz.prog 150 pf:=fk [(208,wY),(209,wZ)] ⟨Eh,Ei,trivial⟩ Tryz.func150 .no
theorem u9:FOk Tryz.prog 96 oe:=fk [(150,pf)] ⟨xi,trivial⟩ Tryz.func96 (.two .no (.two .no (.two .no (.two (.two .no (.loop [.slot 1 (.num .i64),.slot 5 (.num .i64)] .no)) .no))))
theorem CK:FOk Tryz.prog 82 uy:=fk [] trivial Tryz.func82 .no
theorem Hl:FOk Tryz.prog 28 zu:=fk [(82,uy)] ⟨CK,trivial⟩ Tryz.func28 .no
theorem vc:FOk Tryz.prog 151 oh:=fk [(28,zu)] ⟨Hl,trivial⟩ Tryz.func151 .no
theorem tJ:FOk Tryz.prog 97 mQ:=fk [(151,oh)] ⟨vc,trivial⟩ Tryz.func97 (.two .no (.two .no (.two .no (.two (.two .no (.loop [.slot 1 (.num .i64),.slot 5 (.num .i64)] .no)) .no))))
theorem yr:FOk Tryz.prog 41 qx:=fk [(96,oe),(97,mQ)] ⟨u9,tJ,trivial⟩ Tryz.func41 .no
theorem tK:FOk Tryz.prog 42 mR:=fk [] trivial Tryz.func42 .no
theorem CL:FOk Tryz.prog 11 uz:=fk [(40,sk),(41,qx),(42,mR)] ⟨AQ,yr,tK,trivial⟩ Tryz.func11 .no
theorem j7:FOk Tryz.prog 59 jf:=fk [] trivial Tryz.func59 .no
end R
namespace R
open Go.RowKit
open D
theorem Hm:FOk Tryz.prog 152 zw:=fk [(59,jf)] ⟨j7,trivial⟩ Tryz.func152 .no
theorem vd:FOk Tryz.prog 98 oi:=fk [(59,jf),(152,zw)] ⟨j7,Hm,trivial⟩ Tryz.func98 (.two .no (.two (.two .no (.loop [.slot 3 (.num .i64)] .no)) (.two (.two .no (.loop [.slot 4 (.num .i64)] .no)) .no)))
theorem xj:FOk Tryz.prog 99 sn:=fk [] trivial Tryz.func99 (.two .no (.two (.two .no (.loop [.slot 5 (.num .i64)] .no)) .no))
theorem mi:FOk Tryz.prog 43 jg:=fk [(59,jf),(98,oi),(99,sn)] ⟨j7,vd,xj,trivial⟩ Tryz.func43 (.two .no (.two (.two .no (.loop [.slot 3 (.num .i64)] .no)) .no))
theorem uN:FOk Tryz.prog 276 pg:=fk [(59,jf)] ⟨j7,trivial⟩ Tryz.func276 .no
theorem xk:FOk Tryz.prog 322 rj:=fk [(59,jf),(276,pg)] ⟨j7,uN,trivial⟩ Tryz.func322 (.two .no (.two (.two .no (.join [.slot 5 .boo] .no (.two .no (.two .no (.two .no (.join [.slot 37 .boo] .no .no)))))) .no))
theorem Hn:FOk Tryz.prog 319 zx:=fk [(322,rj)] ⟨xk,trivial⟩ Tryz.func319 (.two .no (.two .no (.two (.two .no (.loop [.slot 3 (.num .i64),.slot 4 (.num .i64)] .no)) .no)))
theorem xl:FOk Tryz.prog 281 ph:=fk [(319,zx)] ⟨Hn,trivial⟩ Tryz.func281 .no
theorem rq:FOk Tryz.prog 284 nU:=fk [(322,rj)] ⟨xk,trivial⟩ Tryz.func284 (.two .no (.two .no (.two .no (.two (.loop [.slot 3 (.num .i64),.slot 4 (.num .i64)] .no) .no))))
theorem xm: ∀n,FOk Tryz.prog 282 (nV n)
 | 0=>iN (f:=nV 0) (enters_of Tryz.func282 (by kernel_rfl) rfl) rfl (fun d=>rfl)
 | n+1=>by
  have ih:=xm n
  exact fk [(282,(nV n)),(284,nU)] ⟨ih,rq,trivial⟩ Tryz.func282 (.two .no (.two .no (.two .no (.two (.two .no (.two (.two .no (.at [.slot 15 .boo] .no)) .no)) .no))))
theorem zI:FOk Tryz.prog 155 tE:=fk [] trivial Tryz.func155 .no
theorem zJ:FOk Tryz.prog 320 tF:=fk [(155,tE)] ⟨zI,trivial⟩ Tryz.func320 .no
theorem Ho:FOk Tryz.prog 343 zy:=fk [] trivial Tryz.func343 .no
theorem uO: ∀n,FOk Tryz.prog 321 (l9 n)
 | 0=>iN (f:=l9 0) (enters_of Tryz.func321 (by kernel_rfl) rfl) rfl (fun d=>rfl)
 | n+1=>by
  have ih:=uO n
  exact fk [(320,tF),(321,(l9 n)),(343,zy)] ⟨zJ,ih,Ho,trivial⟩ Tryz.func321 .no
theorem sB: ∀n,FOk Tryz.prog 283 (kO n)
 | 0=>iN (f:=kO 0) (enters_of Tryz.func283 (by kernel_rfl) rfl) rfl (fun d=>rfl)
 | n+1=>by
  have ih:=sB n
  exact fk [(283,(kO n)),(284,nU),(320,tF),(321,(l9 fu))] ⟨ih,rq,zJ,(uO fu),trivial⟩ Tryz.func283 (.two .no (.two .no (.two .no (.two (.two .no (.two (.two .no (.at [.slot 15 .boo] .no)) .no)) .no))))
theorem yt:FOk Tryz.prog 248 qy:=fk [(281,ph),(282,(nV fu)),(283,(kO fu))] ⟨xl,(xm fu),(sB fu),trivial⟩ Tryz.func248 .no
theorem Ej:FOk Tryz.prog 285 w4:=fk [] trivial Tryz.func285 (.two .no (.loop [.slot 6 (.num .i64),.par 3 [3] 3 y3] (.two .no (.two (.at [.par 3 [3] 3 y3] .no) .no))))
end R
namespace R
open Go.RowKit
open D
theorem uP: ∀n,FOk Tryz.prog 249 (ma n)
 | 0=>iN (f:=ma 0) (enters_of Tryz.func249 (by kernel_rfl) rfl) rfl (fun d=>rfl)
 | n+1=>by
  have ih:=uP n
  exact fk [(249,(ma n)),(284,nU),(285,w4)] ⟨ih,rq,Ej,trivial⟩ Tryz.func249 (.two .no (.two .no (.two .no (.two (.two .no (.two .no (.two .no (.two .no (.two .no (.two .no (.two (.two .no (.two .no (.two .no (.two .no (.two .no (.two (.two .no (.at [.box 11 [.boo,(.num .i64),(.num .i64)]] .no)) (.two (.two .no (.at [.box 11 [.boo,(.num .i64),(.num .i64)]] .no)) .no))))))) .no))))))) .no))))
theorem sC:FOk Tryz.prog 210 mb:=fk [(248,qy),(249,(ma fu))] ⟨yt,(uP fu),trivial⟩ Tryz.func210 (.two .no (.two .no (.two .no (.two .no (.two (.two .no (.loop [.slot 6 (.num .i64),.slot 7 (.num .i64)] (.two .no (.two (.at [.slot 6 (.num .i64)] .no) .no)))) .no)))))
theorem CM:FOk Tryz.prog 250 uA:=fk [] trivial Tryz.func250 (.two .no (.two .no (.join [.slot 7 (.num .i64)] .no (.two (.two .no (.loop [.slot 7 (.num .i64),.slot 8 (.num .i64)] (.two .no (.join [.slot 7 (.num .i64)] .no .no)))) (.two .no (.two (.two .no (.loop [.slot 9 (.num .i64),.slot 10 (.num .i64)] (.two .no (.join [.slot 9 (.num .i64)] .no .no)))) .no))))))
theorem xn:FOk Tryz.prog 251 rk:=fk [] trivial Tryz.func251 (.two .no (.two (.two .no (.loop [.slot 5 (.num .i64)] .no)) .no))
theorem yu:FOk Tryz.prog 252 qz:=fk [] trivial Tryz.func252 .no
theorem yw:FOk Tryz.prog 211 qA:=fk [(250,uA),(251,rk),(252,qz)] ⟨CM,xn,yu,trivial⟩ Tryz.func211 (.two .no (.two .no (.two .no (.two (.two .no (.loop [.slot 7 (.own 3 y3),.slot 8 (.num .i64),.box 6 [(.num .i64),(.own 4 y4),(.own 91 y91)]] (.two .no (.two (.two .no (.two (.two .no (.loop [.slot 7 (.own 3 y3),.slot 9 (.own 3 y3),.slot 10 (.num .i64)] (.two .no (.two (.two .no (.two .no (.join [.slot 7 (.own 3 y3),.slot 12 (.num .i64)] .no .no))) .no)))) .no)) .no)))) .no))))
theorem yx:FOk Tryz.prog 286 qB:=fk [] trivial Tryz.func286 (.two .no (.two .no (.two (.two .no (.loop [.slot 1 (.own 3 y3),.slot 2 (.num .i64)] .no)) .no)))
theorem AR:FOk Tryz.prog 253 so:=fk [(251,rk),(286,qB)] ⟨xn,yx,trivial⟩ Tryz.func253 (.two .no (.two .no (.two .no (.two .no (.two .no (.two (.two .no (.loop [.slot 8 (.own 3 y3),.slot 9 (.own 3 y3),.slot 10 (.num .i64),.box 7 [(.num .i64),(.own 4 y4),(.own 91 y91)]] (.two .no (.two (.two .no (.two (.two .no (.loop [.slot 8 (.own 3 y3),.slot 9 (.own 3 y3),.slot 11 (.own 3 y3),.slot 12 (.num .i64)] (.two .no (.two (.two .no (.two .no (.join [.slot 8 (.own 3 y3),.slot 9 (.own 3 y3),.slot 14 (.num .i64)] .no .no))) .no)))) .no)) .no)))) .no))))))
theorem xo:FOk Tryz.prog 255 rl:=fk [] trivial Tryz.func255 (.two .no (.two .no (.two (.two .no (.loop [.row 3 4 y4,.slot 4 (.num .i64)] (.two .no (.two (.two .no (.loop [.row 3 4 y4,.slot 5 (.num .i64)] (.two .no (.two (.two .no (.loop [.row 3 4 y4,.slot 6 (.num .i64)] (.two .no (.join [.row 3 4 y4] .no .no)))) .no)))) .no)))) .no)))
theorem Hq:FOk Tryz.prog 287 zz:=fk [] trivial Tryz.func287 (.two .no (.two .no (.two (.two .no (.loop [.slot 7 (.own 3 y3),.slot 8 (.num .i64)] (.two .no (.join [.slot 7 (.own 3 y3)] .no .no)))) .no)))
theorem yy:FOk Tryz.prog 254 qC:=fk [(99,sn),(255,rl),(287,zz)] ⟨xj,xo,Hq,trivial⟩ Tryz.func254 (.two .no (.two .no (.two .no (.two (.two .no (.loop [.slot 4 (.own 3 y3),.slot 5 (.num .i64)] (.two .no (.two (.two .no (.two (.two .no (.at [.slot 6 (.num .i64)] .no)) (.two (.two .no (.at [.slot 6 (.num .i64)] .no)) .no))) .no)))) (.two (.two .no (.loop [.slot 4 (.own 3 y3),.slot 7 (.num .i64)] (.two .no (.two (.two .no (.two .no (.two (.two .no (.loop [.slot 8 (.own 91 y91),.slot 9 (.own 3 y3),.slot 10 (.num .i64)] (.two .no (.two (.at [.slot 8 (.own 91 y91),.slot 9 (.own 3 y3)] (.two .no (.two .no (.two .no (.two (.two .no (.loop [.slot 12 (.num .i64),.slot 13 (.num .i64)] (.two .no (.two (.at [.slot 12 (.num .i64)] .no) .no)))) (.two (.two .no (.at [.slot 8 (.own 91 y91),.slot 12 (.num .i64),.gone 11] .no)) .no)))))) .no)))) .no))) .no)))) .no)))))
theorem xp:FOk Tryz.prog 212 pj:=fk [(253,so),(254,qC),(255,rl)] ⟨AR,yy,xo,trivial⟩ Tryz.func212 .no
theorem xq:FOk Tryz.prog 153 pn:=fk [(210,mb),(211,qA),(212,pj)] ⟨sC,yw,xp,trivial⟩ Tryz.func153 .no
theorem nc:FOk Tryz.prog 156 jD:=fk [(99,sn)] ⟨xj,trivial⟩ Tryz.func156 (.two .no (.two .no (.two (.two .no (.loop [.slot 5 (.num .i64)] .no)) (.two (.two .no (.loop [.slot 6 (.num .i64)] .no)) .no))))
theorem CN:FOk Tryz.prog 154 uB:=fk [(156,jD)] ⟨nc,trivial⟩ Tryz.func154 (.two .no (.two (.two .no (.loop [.slot 5 (.num .i64)] .no)) .no))
theorem CO:FOk Tryz.prog 100 uC:=fk [(59,jf),(153,pn),(154,uB),(155,tE)] ⟨j7,xq,CN,zI,trivial⟩ Tryz.func100 (.two .no (.two .no (.two .no (.two (.two .no (.loop [.slot 5 (.num .i64),.box 4 [(.own 189 l8),(.own 137 Dk)]] (.two .no (.two (.two .no (.two .no (.two .no (.join [.slot 8 (.num .i64),.box 4 [(.own 189 l8),(.own 137 Dk)],.gone 6] .no .no)))) .no)))) .no))))
theorem yz:FOk Tryz.prog 157 qD:=fk [] trivial Tryz.func157 (.two .no (.two .no (.two (.two .no (.loop [.slot 5 (.num .i64)] .no)) .no)))
end R
namespace R
open Go.RowKit
open D
theorem rr:FOk Tryz.prog 101 lr:=fk [(156,jD),(157,qD)] ⟨nc,yz,trivial⟩ Tryz.func101 (.two .no (.two .no (.two (.two .no (.loop [.slot 5 (.num .i64)] .no)) (.two (.two .no (.loop [.slot 6 (.num .i64)] .no)) .no))))
theorem ru:FOk Tryz.prog 44 lu:=fk [(100,uC),(101,lr)] ⟨CO,rr,trivial⟩ Tryz.func44 .no
theorem nf:FOk Tryz.prog 63 jE:=fk [(43,jg)] ⟨mi,trivial⟩ Tryz.func63 .no
theorem AS:FOk Tryz.prog 79 sp:=fk [] trivial Tryz.func79 (.two .no (.two (.two .no (.loop [.slot 5 (.num .i64)] .no)) .no))
theorem Ek:FOk Tryz.prog 45 w5:=fk [(59,jf),(63,jE),(79,sp)] ⟨j7,nf,AS,trivial⟩ Tryz.func45 (.two .no (.two (.two .no (.loop [.slot 3 (.num .i64)] .no)) .no))
theorem nX:FOk Tryz.prog 144 kP:=fk [] trivial Tryz.func144 (.two .no (.two .no (.two .no (.two .no (.two (.loop [.slot 0 (.num .i64),.slot 3 .str] (.two .no (.two .no (.two (.two .no (.at [.slot 5 (.num .i64)] .no)) .no)))) .no)))))
theorem oF:FOk Tryz.prog 243 kz:=fk [(276,pg)] ⟨uN,trivial⟩ Tryz.func243 .no
theorem qL:FOk Tryz.prog 200 mA:=fk [(59,jf),(144,kP),(243,kz)] ⟨j7,nX,oF,trivial⟩ Tryz.func200 .no
theorem pG:FOk Tryz.prog 143 lx:=fk [(200,mA)] ⟨qL,trivial⟩ Tryz.func143 (.two .no (.two .no (.two .no (.two (.two .no (.loop [.slot 3 .str,.slot 4 (.num .i64)] (.two .no (.two (.atX [.slot 3 .str] (.two .no (.two .no (.two (.two .no (.at [.slot 3 .str] .no)) .no)))) .no)))) .no))))
theorem CP:FOk Tryz.prog 145 uD:=fk [] trivial Tryz.func145 (.two .no (.two .no (.two (.two .no (.loop [.slot 3 (.num .i64),.slot 4 (.num .i64)] .no)) .no)))
theorem ve:FOk Tryz.prog 90 oj:=fk [(59,jf),(143,lx),(144,kP),(145,uD)] ⟨j7,pG,nX,CP,trivial⟩ Tryz.func90 .no
theorem xr:FOk Tryz.prog 177 sq:=fk [] trivial Tryz.func177 (.two .no (.two .no (.two .no (.two (.two .no (.loop [.slot 5 (.own 9 y9),.slot 6 (.num .i64),.slot 7 (.num .i64)] (.two .no (.two (.at [.slot 5 (.own 9 y9),.slot 6 (.num .i64)] .no) .no)))) .no))))
theorem uQ:FOk Tryz.prog 178 po:=fk [(144,kP)] ⟨nX,trivial⟩ Tryz.func178 (.two .no (.two .no (.two .no (.two (.two .no (.loop [.slot 4 (.num .i64),.slot 5 (.num .i64),.slot 6 (.num .i64)] (.two .no (.two (.at [.slot 4 (.num .i64),.slot 5 (.num .i64)] .no) .no)))) (.two (.two .no (.at [.slot 4 (.num .i64)] .no)) .no)))))
theorem xt:FOk Tryz.prog 271 pq:=fk [(243,kz)] ⟨oF,trivial⟩ Tryz.func271 (.two .no (.two (.two .no (.loop [.slot 4 (.num .i64)] .no)) .no))
theorem AT:FOk Tryz.prog 232 su:=fk [(177,sq),(178,po),(200,mA),(271,pq)] ⟨xr,uQ,qL,xt,trivial⟩ Tryz.func232 .no
theorem yA:FOk Tryz.prog 179 qF:=fk [(143,lx),(177,sq),(232,su)] ⟨pG,xr,AT,trivial⟩ Tryz.func179 (.two .no (.two .no (.two .no (.two .no (.two (.two .no (.loop [.slot 6 (.num .i64),.box 4 [(.own 170 (.prod y4 Ed))]] .no)) .no)))))
theorem vf:FOk Tryz.prog 118 om:=fk [(90,oj),(177,sq),(178,po),(179,qF)] ⟨ve,xr,uQ,yA,trivial⟩ Tryz.func118 .no
end R
namespace R
open Go.RowKit
open D
theorem xu:FOk Tryz.prog 60 rm:=FY (ps:=[.rd y9]) (A:=y91) (E:=73) (t:=y73) (B:=y3) (m:=m_s_ScanLog) (fk [(118,om)] ⟨vf,trivial⟩ Tryz.func60 (.two .no (.two .no (.two .no (.two .no (.two (.two .no (.loop [.slot 5 (.own 3 y3),.slot 6 (.own 73 y73),.slot 7 (.num .i64),.slot 8 (.num .i64)] (.two .no (.two (.atX [.slot 5 (.own 3 y3),.slot 6 (.own 73 y73),.slot 7 (.num .i64)] .no) .no)))) .no))))))
theorem Hr:FOk Tryz.prog 46 zA:=fk [(60,rm),(63,jE)] ⟨xu,nf,trivial⟩ Tryz.func46 .no
theorem tL:FOk Tryz.prog 12 mS:=fk [(43,jg),(44,lu),(45,w5),(46,zA)] ⟨mi,ru,Ek,Hr,trivial⟩ Tryz.func12 .no
theorem zK:FOk Tryz.prog 213 tG:=fk [] trivial Tryz.func213 (.two .no (.two .no (.two (.two .no (.loop [.row 3 3 y3,.slot 4 (.num .i64)] .no)) .no)))
theorem Hs:FOk Tryz.prog 201 zB:=fk [] trivial Tryz.func201 .no
theorem El:FOk Tryz.prog 214 w6:=fk [(201,zB)] ⟨Hs,trivial⟩ Tryz.func214 (.two .no (.two .no (.two (.two .no (.loop [.row 3 168 Ed,.slot 4 (.num .i64)] .no)) .no)))
theorem Em:FOk Tryz.prog 158 w7:=fk [(213,tG),(214,w6)] ⟨zK,El,trivial⟩ Tryz.func158 .no
theorem CQ:FOk Tryz.prog 102 uE:=fk [(158,w7)] ⟨Em,trivial⟩ Tryz.func102 (.two .no (.two .no (.two (.two .no (.loop [.row 3 126 Nz,.slot 4 (.num .i64)] .no)) .no)))
theorem AU:FOk Tryz.prog 47 sv:=fk [(102,uE)] ⟨CQ,trivial⟩ Tryz.func47 .no
theorem En:FOk Tryz.prog 215 w8:=fk [] trivial Tryz.func215 (.two .no (.two .no (.two (.two .no (.loop [.row 3 4 y4,.slot 4 (.num .i64)] .no)) .no)))
theorem Eo:FOk Tryz.prog 216 w9:=fk [(213,tG)] ⟨zK,trivial⟩ Tryz.func216 (.two .no (.two .no (.two (.two .no (.loop [.row 3 91 y91,.slot 4 (.num .i64)] .no)) .no)))
theorem xw:FOk Tryz.prog 159 pv:=fk [(215,w8),(216,w9)] ⟨En,Eo,trivial⟩ Tryz.func159 .no
theorem vh:FOk Tryz.prog 103 oo:=fk [(159,pv)] ⟨xw,trivial⟩ Tryz.func103 (.two .no (.two .no (.two (.two .no (.loop [.row 3 189 l8,.slot 4 (.num .i64)] .no)) .no)))
theorem Ep:FOk Tryz.prog 139 xa:=fk [] trivial Tryz.func139 .no
theorem CR:FOk Tryz.prog 84 uF:=fk [(139,xa)] ⟨Ep,trivial⟩ Tryz.func84 (.two .no (.two .no (.two (.two .no (.loop [.row 3 161 u7,.slot 4 (.num .i64)] .no)) .no)))
theorem Ht:FOk Tryz.prog 30 zC:=fk [(84,uF)] ⟨CR,trivial⟩ Tryz.func30 .no
theorem vi:FOk Tryz.prog 160 oq:=fk [(30,zC)] ⟨Ht,trivial⟩ Tryz.func160 .no
end R
namespace R
open Go.RowKit
open D
theorem tM:FOk Tryz.prog 104 mT:=fk [(160,oq)] ⟨vi,trivial⟩ Tryz.func104 (.two .no (.two .no (.two (.two .no (.loop [.row 3 137 Dk,.slot 4 (.num .i64)] .no)) .no)))
theorem yB:FOk Tryz.prog 48 qG:=fk [(103,oo),(104,mT)] ⟨vh,tM,trivial⟩ Tryz.func48 .no
theorem vj:FOk Tryz.prog 105 ot:=fk [] trivial Tryz.func105 .no
theorem tN:FOk Tryz.prog 49 mU:=fk [(105,ot)] ⟨vj,trivial⟩ Tryz.func49 (.two .no (.two .no (.two (.two .no (.loop [.row 3 88 y88,.slot 4 (.num .i64)] .no)) .no)))
theorem CS:FOk Tryz.prog 13 uG:=fk [(47,sv),(48,qG),(49,mU)] ⟨AU,yB,tN,trivial⟩ Tryz.func13 .no
theorem gA:FOk Tryz.prog 53 fD:=fk [] trivial Tryz.func53 .no
theorem zL:FOk Tryz.prog 161 tH:=fk [(53,fD)] ⟨gA,trivial⟩ Tryz.func161 .no
theorem vk:FOk Tryz.prog 106 ou:=fk [(53,fD),(161,tH)] ⟨gA,zL,trivial⟩ Tryz.func106 (.two .no (.two .no (.two (.two .no (.loop [.slot 14 (.num .i64)] .no)) (.two (.two .no (.loop [.slot 25 (.num .i64)] .no)) .no))))
theorem dF:FOk Tryz.prog 107 cG:=fk [] trivial Tryz.func107 (.two .no (.two .no (.two (.two .no (.loop [.slot 13 (.num .i64)] .no)) .no)))
theorem mj:FOk Tryz.prog 50 jh:=fk [(53,fD),(106,ou),(107,cG)] ⟨gA,vk,dF,trivial⟩ Tryz.func50 (.two .no (.two .no (.two .no (.two (.two .no (.loop [.slot 24 (.num .i64)] .no)) .no))))
theorem uR:FOk Tryz.prog 326 pw:=fk [(53,fD)] ⟨gA,trivial⟩ Tryz.func326 .no
theorem Er:FOk Tryz.prog 293 xb:=fk [(53,fD),(326,pw)] ⟨gA,uR,trivial⟩ Tryz.func293 (.two .no (.two (.two .no (.two .no (.two .no (.two .no (.two .no (.join [.slot 37 .boo] .no .no)))))) .no))
theorem kB:FOk Tryz.prog 294 bA:=CF (f:=bA) (iN (f:=⟨bA.ps,bA.rs,bA.m,none⟩) (enters_of Tryz.func294 (by kernel_rfl) rfl) rfl (fun d=>rfl)) (FW (V:=⟨tt,[],[(5,.raw)],8,[]⟩) Rg trivial mixed Tryz.func294 rfl rfl (enters_of Tryz.func294 (by kernel_rfl) rfl) (bh rfl) .no (fun E bn xs=>by cases bn <;> kernel_rfl))
theorem tO:FOk Tryz.prog 258 qk:=fk [(293,xb),(294,bA)] ⟨Er,kB,trivial⟩ Tryz.func258 (.two .no (.two .no (.two (.two .no (.loop [.slot 3 (.own 274 Us),.slot 13 (.num .i64)] (.two .no (.two .no (.two (.two .no (.two .no (.two (.two .no (.at [.slot 6 (.num .i64)] (.two (.two .no (.at [.slot 19 .boo] .no)) (.two .no (.two (.two .no (.at [.slot 22 .boo] .no)) .no))))) .no))) .no))))) .no))) (tr:=[(302,274,u7)])
theorem Hu:FOk Tryz.prog 323 zD:=fk [(258,qk)] ⟨tO,trivial⟩ Tryz.func323 .no (tr:=[(302,274,u7)])
theorem xx:FOk Tryz.prog 288 px:=fk [(323,zD)] ⟨Hu,trivial⟩ Tryz.func288 .no
theorem qM: ∀n,FOk Tryz.prog 289 (j6 n)
 | 0=>iN (f:=j6 0) (enters_of Tryz.func289 (by kernel_rfl) rfl) rfl (fun d=>rfl)
 | n+1=>by
  have ih:=qM n
  exact fk [(289,(j6 n))] ⟨ih,trivial⟩ Tryz.func289 (.two .no (.two .no (.two (.two .no (.loop [.slot 3 (.num .i64),.slot 11 (.num .i64)] (.two .no (.two .no (.two (.at [.slot 3 (.num .i64)] .no) .no))))) .no))) (tr:=[(302,274,u7)])
end R
end Go.Proofs.YtilionjghdjbdaaGreatDoor
