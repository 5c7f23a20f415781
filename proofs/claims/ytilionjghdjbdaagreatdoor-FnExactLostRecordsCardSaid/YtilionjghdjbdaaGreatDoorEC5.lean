/- FnExactLostRecords: for every input the law returns true and changes nothing that was there. Part 6 of 8. -/
import Derived.Test.YtilionjghdjbdaaGreatDoorEC4
set_option linter.unusedVariables false
set_option linter.unusedSimpArgs false
set_option linter.unnecessarySimpa false
set_option linter.unusedSectionVars false
set_option maxRecDepth 1000000
namespace Go.Proofs.YtilionjghdjbdaaGreatDoor
namespace R
open Go.RowKit
open D
theorem y7 {vs:List Value} : ∀ {ts:List Ty} {i:Nat} {us:List Value} {d:gi ts},us.length=ts.length->(∀j v,us[j]? =some v->vs[i+j]? =some v)->rB i ts d (.tuple vs.toArray)=sX ts us d
 | [],i,us,d,h,_=>by
  cases us with
  | nil=>rfl
  | cons _ _=>cases h
 | t::ts,i,[],d,h,_=>by cases h
 | t::ts,i,u::us,d,h,k=>by
  have h0:vg (.tuple vs.toArray) [i] =u:=by
   show vs.toArray.getD i undef=u
   have:=k 0 u rfl
   rw[Nat.add_zero] at this
   simp[Array.getD_eq_getD_getElem?,this]
  show Ch.own t.rep (gj t.isProd (vg (.tuple vs.toArray) [i])) d.1::rB (i+1) ts d.2 _=Ch.own t.rep (gj t.isProd u) d.1::sX ts us d.2
  rw[h0,y7 (us:=us) (by simpa using h) fun j v hj=>by
   have:=k (j+1) v (by simpa using hj)
   rwa [show i+(j+1)=i+1+j from by omega] at this]
theorem G0 {ts:List Ty} {vs:List Value} {d:gi ts} (h:vs.length=ts.length):resGv ts d (Tq vs)=sX ts vs d:=by
 match ts,vs,d,h with
 | [],[],d,_=>rfl
 | [t],[v],d,_=>rfl
 | t::u::ts,v::w::vs,d,h =>
  show rB 0 _ d (.tuple (v::w::vs).toArray)=_
  exact y7 h fun j x hj=>by rw[Nat.zero_add];exact hj
theorem Nc {ts:List Ty} {vs:List Value} (h:vs.length=ts.length) (k: ∀(i:Nat) t v,ts[i]? =some t->vs[i]? =some v->mn v=t.isProd):resFa ts (Tq vs):=by
 match ts,vs,h with
 | [],[],_=>exact ⟨#[],rfl,rfl,fun i t ht=>by simp at ht⟩
 | [t],[v],_=>exact k 0 t v rfl rfl
 | t::u::ts,v::w::vs,h =>
  refine ⟨(v::w::vs).toArray,rfl,by simpa using h,fun i t' ht=>?_⟩
  have hlt:i<(v::w::vs).length:=by rw[h];exact (List.getElem?_eq_some_iff.1 ht).1
  have:=k i t' ((v::w::vs)[i]) ht (List.getElem?_eq_getElem hlt)
  rw[<-this,Array.getD_eq_getD_getElem?,List.getElem?_toArray,List.getElem?_eq_getElem hlt];rfl
theorem wE {P:Program} {I:Hp} {w0 w:World} {F:Ch} {J:Hp} {θ:Th} {n:Nat} {s:Sg} {a:Act} {tt:TT} (hT:TTok P tt) (hS:Sim P I w0 F n J θ s a w): ∀ {rs:List ResultVar} {vs:List AV},y6 tt s rs=some vs->FD P a w rs (vs.map (·.v θ))/\ ∀v∈vs,v.ok P w0 J θ s.nxt s.chs
 | [],vs,h=>by
  obtain rfl:=aliasOf1 (show some [] =some vs from h)
  exact ⟨rfl,fun v hv=>by cases hv⟩
 | r::rs,vs,h=>by
  obtain ⟨v,hv',h⟩:=bind_some (show (QR tt s r).bind _=some vs from h)
  obtain ⟨us,hus,h⟩:=bind_some h
  obtain rfl:=aliasOf1 h
  obtain ⟨k1,k2⟩:=Na hT hS hv'
  obtain ⟨q1,q2⟩:=wE hT hS hus
  refine ⟨⟨_,_,rfl,k1,q1⟩,fun x hx=>?_⟩
  rcases aliasOf8 hx with rfl | hx
  ·exact k2
  ·exact q2 x hx
theorem JS {J:Hp} {a b c d:List Ch} (h:nc J a b) (k:nc J c d):nc J (a++c) (b++d):=fun w F hs=>by
 obtain ⟨G,K,rfl,e1,e2⟩:=hs.split
 exact (h w G e1).append (k w K e2)
theorem St.sepTo {J:Hp} {w0 w:World} {a b C:List Ch} (h:St J w0 w (a++C)) (k:nc J a b):St J w0 w (b++C):=by
 obtain ⟨h1,h2,F,h3,h4,h5⟩:=h
 obtain ⟨G,K,rfl,e1,e2⟩:=h3.split
 exact ⟨h1,h2,G++K,(k w G e1).append e2,h4,h5⟩
theorem y8 {P:Program} {n:Nat} {I:Hp} {w0:World} {k:FuncId} {fn:Func} {c:Code} {args:Array Value} {rn:List Ch} {fact:Value->Prop} {gv:Value->List Ch} (L:List (Nat×Value)) (hf:P.funcs[k]? =some fn) (hb:fn.body=some c) (hn:fn.ntmps=n) (hm:args.size<=n) (hL: ∀p∈L,args[p.1]? =some p.2)
  (h: ∀F w a,Agr n a L->St I w0 w (rn++ [F])->c.wp P (bodyPost P fn fun e w'=> ∃v,e= .returned v/\fact v/\ ∃J,I.le J/\St J w0 w' (gv v++ [F])) a w) (hd: ∀v,Ch.back (gv v)):Con P k args I w0 rn fact gv:=by
 intro w C hs
 have hs':St I w0 w (rn++ [Ch.fr I C]):=by
  obtain ⟨hb,hi,F,h1,h2,h3⟩:=hs
  obtain ⟨G,K,rfl,e1,e2⟩:=h1.split
  exact ⟨hb,hi,G++K,e1.append ⟨K,[],by simp,e2,rfl⟩,h2,h3⟩
 have:=h (Ch.fr I C) w { tmps:=args++Array.replicate (fn.ntmps - args.size) undef,defers:=[] } (Agr.start L (by omega) hL) hs'
 refine (calls_of_wp hf hb this).mono ?_
 rintro e w' ⟨v,rfl,hv,J,hJ,hs⟩
 exact ⟨v,rfl,hv,hs.back hJ (hd v)⟩
theorem Nd {P:Program} {I:Hp} {w0 w:World} {F:Ch} {n:Nat} {J:Hp} {θ:Th} {s:Sg} {a:Act} {tr:Trs} {vs:List AV} (hS:Sim P I w0 F n J θ s a w): ∃J' θ',J.le J'/\Sim P I w0 F n J' θ' (Nb tr vs s) a w/\Fr s θ (Nb tr vs s) θ':=by
 have key: ∃J' θ',J.le J'/\Sim P I w0 F n J' θ' (Cp tr vs s) a w/\Fr s θ (Cp tr vs s) θ':=by
  unfold Cp
  split
  ·exact ⟨J,θ,Hp.le.rfl,hS,Fr.rfl⟩
  ·exact qH hS
 obtain ⟨J',θ',h1,h2,h3⟩:=key
 obtain ⟨S2,F2⟩:=pH (V:=⟨[],[],[],n,[]⟩) (hs:=DW s vs++vr (Cp tr vs s).chs) h2
 exact ⟨J',θ',h1,S2,h3.trans F2⟩
theorem ON {V:Env} {P:Program} {w0:World} {F:Ch} {J:Hp} {θ:Th} (hT:TTok P V.tt) {fn:Func} {rs:List Ty} {ps:List PM} {d:denP ps} {vs:List Value} {s0:Sg} (k0:vs.length=ps.length) (k5:StF P w0 J θ ps.length 0 ps vs d) (hn0:ps.length<=s0.nxt): ∀r J' θ' s' a' w',JR V fn.results.toList rs ps d s'=some r->Sim P J w0 F V.n J' θ' s' a' w'->J.le J'->Fr s0 θ s' θ'->
  bodyPost P fn (fun e w'=> ∃v,e= .returned v/\(resFa rs v/\(yU 1000000 V.an=true->tS rs (hFst rs (outs ps) (toH _ r)) v))/\ ∃J2,J.le J2/\St J2 w0 w' ((resGv rs (hFst rs (outs ps) (toH _ r)) v++outCh ps vs (hSnd rs (outs ps) (toH _ r)))++ [F])) .ret a' w':=by
 intro r J' θ' s' a' w' hrt hS' hJ hFr
 obtain ⟨vs00,hv00,hrt⟩:=bind_some (show (y6 V.tt s' fn.results.toList).bind _=some r from hrt)
 obtain ⟨s0',hrt,S0,N0⟩:=Fh hrt (wE hT hS' hv00).2 hS'
 obtain ⟨vs0,hv0,hrt⟩:=bind_some hrt
 obtain ⟨J1,θ1,hJ1,S1,F1⟩:=Nd (tr:=V.tr) (vs:=vs0) S0
 generalize Nb V.tr vs0 s0'=s1 at hrt S1 F1
 have hle:s0.nxt<=s'.nxt:=hFr.1
 have hsame:Same ps.length θ θ1:=fun i hi=>(F1.same i (by omega)).trans (hFr.same i (by omega))
 replace hJ:=hJ.trans hJ1
 clear hJ1 F1 hS' S0 hFr
 revert J1 θ1
 clear J' θ'
 intro J' θ' S1 hsame hJ
 obtain ⟨us,hus,hrt⟩:=bind_some hrt
 obtain ⟨q,hq,hrt⟩:=bind_some hrt
 obtain ⟨o,ho,hrt⟩:=bind_some hrt
 obtain ⟨u0,hnl,hrt⟩:=bind_some hrt
 obtain rfl:=aliasOf1 hrt
 obtain ⟨r1,r2⟩:=wE hT S1 hus
 obtain ⟨t1,t2,t3,t4⟩:=yZ (J:=J') (θ:=θ') hq r2
 obtain ⟨o1,o2⟩:=eM (P:=P) (J:=J) (J':=J') (θ:=θ) (θ':=θ') (vs:=vs) (n:=ps.length) (n':=s1.nxt) (chs0:=s1.chs) hJ hsame ho k0 k5 fun e he=>S1.fine.chs e (t1.mem_iff.2 (by simp[he]))
 have hl:(us.map (·.v θ')).length=rs.length:=by rw[List.length_map];exact t2
 refine T7 S1.agr r1 ⟨_,rfl,⟨Nc hl fun i t v ht hv1=>?_,fun han=>?_⟩,J',hJ,?_⟩
 ·rw[List.getElem?_map] at hv1
  obtain ⟨x,hx,rfl⟩:=Option.map_eq_some_iff.1 hv1
  exact t4 i t x ht hx
 ·rw[DV,Aw]
  unfold Su at hnl
  rw[han] at hnl
  have hnl:0<nlN us rs q.1:=bd hnl
  rcases us with _ | ⟨x,us⟩
  ·cases hnl
  ·cases us with
   | nil=>exact Sv (θ:=θ') hnl rfl
   | cons y us=>unfold nlN at hnl;split at hnl <;> first | omega | simp_all
 ·rw[DV,Aw,FE,G0 hl]
  have hp:=t1.trans (o1.append_left _)
  have h1:=S1.st.perm ((hp.map (toCh P θ')).append_right [F])
  have h2:St J' w0 w' ((q.2.1.map (toCh P θ')++o.2.1.map (toCh P θ'))++(o.2.2.map (toCh P θ')++ [F])):=by
   simpa [aliasOf20,aliasOf4] using h1
  have h3:=St.sepTo h2 (JS t3 o2)
  refine St.left (ds:=o.2.2.map (toCh P θ')) (h3.perm ?_)
  simp only[aliasOf4]
  exact List.Perm.append_left _ (List.Perm.append_left _ List.perm_append_comm)
theorem QW {V:Env} {P:Program} (hT:TTok P V.tt) (hF:FTok P V.ft) (hmx:P.follows .mixedOrders=true) {k:FuncId} {fn:Func} {c:Code} {f:FS} (hf:P.funcs[k]? =some fn) (hb:fn.body=some c) (hn:fn.ntmps=V.n) (hen:Enters P k) (hm:f.ps.length<=V.n) (hdp:(BM f.rs&&vY f.ps)=true) (ann:Ann)
  (hmod: ∀d,appP f.ps f.m d=ix V (JR V fn.results.toList f.rs f.ps d) c ann (fun r=>some r) (fun _ _=>none) (JR V fn.results.toList f.rs f.ps d) (oq (wD f.ps d))): ∀w0 J vs (d:denP f.ps) r,Lay P J->PArgs P w0 J f.ps vs d->appP f.ps f.m d=some r->Con P k vs.toArray J w0 (owCh f.ps vs d) (fun v=>resFa f.rs v/\(yU 1000000 V.an=true->tS f.rs (hFst f.rs (outs f.ps) (toH _ r)) v)) (fun v=>resGv f.rs (hFst f.rs (outs f.ps) (toH _ r)) v++outCh f.ps vs (hSnd f.rs (outs f.ps) (toH _ r))):=by
 rw[ae] at hdp
 intro w0 J vs d r hlay ha hr
 rw[hmod] at hr
 let θ:Th:=fun i=>vs.getD i undef
 have hθ: ∀j v,vs[j]? =some v->θ (0+j)=v:=fun j v hj=>by
  show vs.getD (0+j) undef=v
  rw[Nat.zero_add,List.getD_eq_getElem?_getD,hj];rfl
 have k0:=Co ha
 have hzip: ∀p∈(vs.zipIdx.map fun q=>(q.2,q.1)),vs.toArray[p.1]? =some p.2:=fun p hp=>by
  obtain ⟨q,hq,rfl⟩:=List.mem_map.1 hp
  obtain ⟨v,j⟩:=q
  have:=(List.mk_mem_zipIdx_iff_getElem? (x:=v) (i:=j)).1 hq
  simpa using this
 refine y8 (n:=V.n) (vs.zipIdx.map fun q=>(q.2,q.1)) hf hb hn (by rw[List.size_toArray,k0];exact hm) hzip (fun F w a hA hst=>?_) (fun v=>sO (dV _ _ _ hdp.2) _ _ hdp.1)
 ·obtain ⟨k1,k2,k3,k4,k5⟩:=FC (n:=f.ps.length) (C:=[F]) ha hθ (by omega) hst
  have hfine:Fine P w0 J θ (wD f.ps d):=⟨fun e he=>(k1 e he).1 _,fun e he=>by have:=k1 e he;show e.2.1<f.ps.length;omega,k2,fun e he=>k4 e he _,hlay⟩
  have hA':Agr V.n a (envL θ (wD f.ps d)):=hA.pick _ fun p hp=>by
   obtain ⟨e,he,rfl⟩:=List.mem_map.1 hp
   have h5:=(k1 e he).2.2.2.2
   rw[Nat.sub_zero] at h5
   have key: ∀(l:List Value) (k:Nat) (i:Nat) (v:Value),k<=i->l[i - k]? =some v->((l.zipIdx k).map fun q=>(q.2,q.1)).lookup i=some v:=by
    intro l
    induction l with
    | nil=>intro k i v _ h;simp at h
    | cons x l ih =>
     intro k i v hk h
     simp only[List.zipIdx_cons,List.map_cons,List.lookup_cons]
     by_cases e:i=k
     ·subst e
      simp at h
      simp[h]
     ·have:(i==k)=false:=by simpa using e
      rw[this]
      refine ih (k+1) i v (by omega) ?_
      rw[show i - k=(i - (k+1))+1 from by omega] at h
      simpa using h
   exact key vs 0 e.1 _ (Nat.zero_le _) h5
  have hS:Sim P J w0 F V.n J θ (wD f.ps d) a w:=⟨Hp.le.rfl,hA',k3,hfine⟩
  have fin:=ON (rs:=f.rs) (fn:=fn) (F:=F) hT k0 k5 (al (wD f.ps d).nxt)
  obtain ⟨θ0,hS0,hFr0⟩:=vl hS
  exact (wC (I:=J) (w0:=w0) (F:=F) hT hF hmx c).1 ann hr hS0 (fun J' θ' s' a' w' hk S' hJ hFr=>fin r J' θ' s' a' w' hk S' hJ (hFr0.trans hFr)) (fun i J' θ' s' a' w' hk=>by cases hk) (fun r' J' θ' s' a' w' hrt hrr hS' hJ hFr=>by
   obtain rfl:=aliasOf1 hrr
   exact fin _ J' θ' s' a' w' hrt hS' hJ (hFr0.trans hFr))
theorem fok {V:Env} {P:Program} (hT:TTok P V.tt) (hF:FTok P V.ft) (hmx:P.follows .mixedOrders=true) {k:FuncId} {fn:Func} {c:Code} {f:FS} (hf:P.funcs[k]? =some fn) (hb:fn.body=some c) (hn:fn.ntmps=V.n) (hen:Enters P k) (hcl:f.cl=none) (hm:f.ps.length<=V.n) (hdp:(BM f.rs&&vY f.ps)=true) (ann:Ann)
  (hmod: ∀d,appP f.ps f.m d=ix V (JR V fn.results.toList f.rs f.ps d) c ann (fun r=>some r) (fun _ _=>none) (JR V fn.results.toList f.rs f.ps d) (oq (wD f.ps d))):FOk P k f:=
 ⟨fun q hq=>by (rw[hcl] at hq;cases hq),fun _=>hen,fun w0 J vs d r hlay ha hr w C hs=>(QW hT hF hmx hf hb hn hen hm hdp ann hmod w0 J vs d r hlay ha hr w C hs).mono fun e w' ⟨v,h1,h2,h3⟩=>⟨v,h1,h2.1,h3⟩⟩
theorem FF {V:Env} {P:Program} (hT:TTok P V.tt) (hF:FTok P V.ft) (hmx:P.follows .mixedOrders=true) {k:FuncId} {fn:Func} {c:Code} {E b:Nat} (hf:P.funcs[k]? =some fn) (hb:fn.body=some c) (hn:fn.ntmps=V.n) (hen:Enters P k) (hm:1<=V.n) (ann:Ann)
  (hmod: ∀(E':TypeId) (bn:Bool) (xs:List Raw),(match bn with | true=>some ([] :List Raw) | false=>(cS b [] xs).bind fun zs=>some zs)=ix V (JR V fn.results.toList [.sl E .raw] [] ()) c ann (fun r=>some r) (fun _ _=>none) (JR V fn.results.toList [.sl E .raw] [] ()) ⟨[(0,0,.one (.rdn ⟨0,[]⟩ bn (.sl E' .raw) xs))],[],1⟩):sL P k E b:=by
 refine ⟨hen,fun E' J w0 v xs zs hlay hrd uK=>?_⟩
 obtain ⟨bn,hbn⟩: ∃bn,yF v=bn:=⟨_,rfl⟩
 have hr:ix V (JR V fn.results.toList [.sl E .raw] [] ()) c ann (fun r=>some r) (fun _ _=>none) (JR V fn.results.toList [.sl E .raw] [] ()) ⟨[(0,0,.one (.rdn ⟨0,[]⟩ bn (.sl E' .raw) xs))],[],1⟩=some zs:=by
  rw[<-hmod E' bn xs]
  cases bn with
  | false =>
   show (cS b [] xs).bind _=_
   rw[uK];rfl
  | true =>
   obtain ⟨h1,-⟩:=Ag uK
   obtain ⟨ao,cap,e,-,hx⟩:=hrd
   obtain rfl:v= .slice ao xs.length cap:=by simpa using e
   rcases hx with rfl | ⟨b,off,ccs,t,fr,rfl,-⟩
   ·rw[h1];rfl
   ·cases hbn
 let θ:Th:=fun _=>v
 have key:Con P k #[v] J w0 [] (fun v=>resFa [.sl E .raw] v/\(yU 1000000 V.an=true->tS [.sl E .raw] (zs,()) v)) (fun v=>resGv [.sl E .raw] (zs,()) v++ []):=by
  refine y8 (n:=V.n) [(0,v)] hf hb hn hm (fun p hp=>by obtain rfl:=aliasOf7 hp;rfl) (fun F w a hA hst=>?_) (fun u=>sO (D:=[]) trivial [.sl E .raw] (zs,()) rfl)
  have hfine:Fine P w0 J θ ⟨[(0,0,.one (.rdn ⟨0,[]⟩ bn (.sl E' .raw) xs))],[],1⟩:=⟨fun e he=>by obtain rfl:=aliasOf7 he;exact ⟨Nat.one_pos,hrd,hbn⟩,fun e he=>by obtain rfl:=aliasOf7 he;exact Nat.one_pos,List.pairwise_singleton _ _,fun e he=>(by cases he),hlay⟩
  have hS:Sim P J w0 F V.n J θ ⟨[(0,0,.one (.rdn ⟨0,[]⟩ bn (.sl E' .raw) xs))],[],1⟩ a w:=⟨Hp.le.rfl,hA,hst,hfine⟩
  have fin:=ON (V:=V) (θ:=θ) (J:=J) (w0:=w0) (rs:=[.sl E .raw]) (ps:=[]) (d:=()) (vs:=[]) (s0:=⟨[(0,0,.one (.rdn ⟨0,[]⟩ bn (.sl E' .raw) xs))],[],1⟩) (fn:=fn) (F:=F) hT rfl trivial (Nat.zero_le _)
  exact (wC (I:=J) (w0:=w0) (F:=F) hT hF hmx c).1 ann hr hS (fun J' θ' s' a' w' hk S' hJ hFr=>fin _ J' θ' s' a' w' hk S' hJ hFr) (fun i J' θ' s' a' w' hk=>by cases hk) (fun r' J' θ' s' a' w' hrt hrr hS' hJ hFr=>by
   obtain rfl:=aliasOf1 hrr
   exact fin _ J' θ' s' a' w' hrt hS' hJ hFr)
 exact fun w C hs=>(key w C hs).mono fun e w' ⟨v,h1,h2,h3⟩=>⟨v,h1,trivial,h3⟩
theorem iy {P:Program} {k:FuncId} {f:FS} (h:Enters P k) (hc:f.cl=none) (hm: ∀d,appP f.ps f.m d=none):FOk P k f:=
 ⟨fun q hq=>by (rw[hc] at hq;cases hq),fun _=>h,fun _ _ _ d r _ _ hr=>by rw[hm d] at hr;cases hr⟩
theorem Cq {P:Program} {k:FuncId} {f:FS} {E b:Nat} (h:FOk P k ⟨f.ps,f.rs,f.m,none⟩) (hc:sL P k E b) (hb:Nat.beq b 0=false:=by rfl) (h7:Nat.beq b 7=false:=by rfl) (h8:Nat.ble 1000 b=false:=by rfl):FOk P k ⟨f.ps,f.rs,f.m,some (E,b)⟩:=
 ⟨fun q hq=>by obtain rfl:=aliasOf1 hq;exact ⟨⟨fun e=>(by rw[hb] at e;cases e),fun _ _ _=>hc,fun e=>(by rw[h8] at e;cases e)⟩,fun e=>(by rw[h7] at e;cases e)⟩,fun _=>h.en rfl,h.con⟩
end R
namespace R
open Go.RowKit
open D
end R
namespace R
open Go.RowKit Go.Shelf Go.Sort
open D
def Nf (xs:List ByteArray) (sep:ByteArray):Option ByteArray:=(chk (xs.length<=140737488355328/\(Lib.join (xs.map (·.data.toList)) sep.data.toList).length<=140737488355328)).bind fun _=>some ⟨(Lib.join (xs.map (·.data.toList)) sep.data.toList).toArray⟩
def Ng (n:Int):Option ByteArray:=(chk (-9223372036854775808<=n/\n<=9223372036854775807)).bind fun _=>some ⟨(Lib.itoa n).toArray⟩
section
variable {P:Program} {ρ:Ren}
theorem St.grownS {I:Hp} {w0 w:World} {cs:List Ch} (h:St I w0 w cs) (os:Array Obj):St I w0 (grow w os) cs:=by
 refine St.step (w:=w) (c:=[]) (c':=[]) h rfl rfl rfl (by simp[grow]) ?_
 rintro F rfl - -
 exact ⟨fun b hb _=>heap_grow_old w os hb,[],rfl,List.nodup_nil,by simp⟩
theorem St.belowS {I:Hp} {w0 w w':World} {cs:List Ch} (h:St I w0 w cs) (hb:Below w.heap.size w w'):St I w0 w' cs:=by
 refine St.step (w:=w) (c:=[]) (c':=[]) h hb.os hb.tape hb.output hb.size ?_
 rintro F rfl - -
 exact ⟨fun b hb' _=>hb.block b hb',[],rfl,List.nodup_nil,by simp⟩
theorem Nh (L:LaysM.n171 P ρ) (en:Enters P (ρ.f 171)):FOk P (ρ.f 171) ⟨[.rd (.int .i64)],[.str],fun n=>Ng n,none⟩:=by
 refine ⟨fun q hq=>(by cases hq),fun _=>en,fun w0 J vs d r hlay ha uK=>?_⟩
 obtain ⟨v,vs1,rfl,⟨c1,l1,r1⟩,hnil⟩:=ha
 obtain rfl:vs1= []:=hnil
 obtain ⟨n0,un⟩:=d
 let n:Int:=n0
 obtain rfl:c1= [v]:=l1
 obtain rfl:v= .int .i64 n:=(List.cons.inj r1).1
 obtain ⟨u1,hc,hz⟩:=Option.bind_eq_some_iff.1 (show Ng n=some r from uK)
 have hc:=bd hc
 obtain rfl:=aliasOf1 hz
 intro w C hst
 have hst:St J w0 w C:=hst
 refine (Any.strconv_Itoa L n hc.1 hc.2 w (hlay w hst.2.1).tab).mono ?_
 rintro e w' ⟨rfl,k,os,rfl⟩
 have hw:St J w0 (w.drewN k) C:=hst.drawn rfl rfl rfl rfl
 exact ⟨_,rfl,rfl,D.St.free (R:=zE) (c:=[.string _]) (St.grownS hw os) ⟨rfl,rfl⟩⟩
theorem Ni (L:Lays.n156 P ρ) (X:Builder.Extra P ρ) (E:TypeId) (en:Enters P (ρ.f 156)):FOk P (ρ.f 156) ⟨[.rd (.sl E .str),.rd .str],[.str],fun xs s=>Nf xs s,none⟩:=by
 refine ⟨fun q hq=>(by cases hq),fun _=>en,fun w0 J vs d r hlay ha uK=>?_⟩
 obtain ⟨v,vs1,rfl,⟨c1,l1,r1⟩,v2,vs2,rfl,⟨c2,l2,r2⟩,hnil⟩:=ha
 obtain rfl:vs2= []:=hnil
 obtain ⟨xs0,sep,un⟩:=d
 let xs:List ByteArray:=xs0
 obtain rfl:c1= [v]:=l1
 obtain rfl:c2= [v2]:=l2
 obtain rfl:v2= .string sep:=(List.cons.inj r2).1
 obtain ⟨u1,hc,hz⟩:=Option.bind_eq_some_iff.1 (show Nf xs sep=some r from uK)
 have hc:=bd hc
 obtain rfl:=aliasOf1 hz
 obtain ⟨ao,cap,hv,⟨hl,hcap⟩,hx⟩:((aa E zE).rd J [v] xs):=r1
 obtain rfl:=(List.cons.inj hv).1
 intro w C hst
 have hst:St J w0 w C:=hst
 rcases hx with hx | ⟨b,off,ccs,t,fr,rfl,h2,h4⟩
 ·have hx:xs= []:=hx
  rw[hx] at hc⊢
  refine (Any.strings_Join_none L X ao cap sep w).mono ?_
  rintro e w' ⟨rfl,rfl⟩
  refine ⟨_,rfl,rfl,?_⟩
  exact D.St.free (R:=zE) (c:=[.string _]) hst ⟨rfl,rfl⟩
 ·have hg:=hst.2.1 _ _ h2
  have hblk:b<w.heap.size:=(Array.getElem?_eq_some_iff.1 hg).1
  refine (Any.strings_Join L X b off cap xs sep w (fun j x hj=>?_) hblk hc.1 hcap hc.2).mono ?_
  ·obtain ⟨c,e1,e2,e3⟩:=h4 j x hj
   obtain rfl:c= [.string x]:=e3
   have:=e2 0 Nat.one_pos
   have e:off+j*zE.size+0=off+j:=by show off+j*1+0=_;omega
   rw[e] at this
   unfold World.cell?
   have hg:w.heap[b]? =some (.cells ccs t fr):=hg
   simp only[hg]
   rw[<-Array.getElem?_toList,this]
   rfl
  ·rintro e w' ⟨rfl,hb⟩
   exact ⟨_,rfl,rfl,D.St.free (R:=zE) (c:=[.string _]) (St.belowS hst hb) ⟨rfl,rfl⟩⟩
end
end R
namespace D
open Go.RowKit Go.Shelf
theorem QX {I:Hp} {w0 w:World} {cs:List Ch} {α:Type} {E:TypeId} {enc:α->Value} {h1: ∀a,(enc a).oneCell'=true} {b:Nat} {xs:List α} (hl:xs.length<=lim) (h:St I w0 w (Ch.blk b (xs.map enc) E::cs)):St I w0 w (Ch.own (aa E (iY α enc h1)) [.slice (some ⟨b,0,none⟩) xs.length xs.length] xs::cs):=by
 obtain ⟨hb,hi,F,⟨G,K,rfl,⟨rfl,hg⟩,e⟩,h4,h5⟩:=h
 refine ⟨hb,hi,[b] ++K,⟨[b],K,rfl,⟨hl,.inr ⟨b,0,xs.length,_,[],rfl,hg,al _,hl,?_,rfl,?_⟩⟩,e⟩,h4,h5⟩
 ·show 0+xs.length*1<=_
  simp
 ·refine gJ.2 ⟨rfl,[],?_⟩
  simp
end D
namespace R
open Go.RowKit Go.Shelf Go.Sort
open D
def FG (s sep:ByteArray):Option (List ByteArray):=(chk (s.size<4294967281/\1<=sep.size)).bind fun _=>some (Lib.splitB sep 0 (Lib.countB s sep) s)
def Sw (s sep:ByteArray):Option (ByteArray×ByteArray×Bool):=(chk (s.size<4294967281)).bind fun _=>some (⟨(Lib.cut s.data.toList sep.data.toList).1.toArray⟩,⟨(Lib.cut s.data.toList sep.data.toList).2.1.toArray⟩,(Lib.cut s.data.toList sep.data.toList).2.2)
def sY (s:ByteArray) (c:Int):Option Int:=some (Lib.indexByte s.data.toList c.toNat.toUInt8)
def oQ (s:ByteArray):Option (Int×Bool):=
 if 10<s.size then some (0,false) else
 match Lib.atoi s.data.toList with
 | none=>some (0,false)
 | some n=>if (⟨(Lib.itoa n).toArray⟩:ByteArray)=s/\ -999999999<=n/\n<=999999999 then some (n,true) else some (0,false)
section
variable {P:Program} {ρ:Ren}
theorem JT (L:Lays.n146 P ρ) (hi9:(P.info? (ρ.t 9)).map (fun i=>(i.zero,i.size,i.bytes))=some (some (.string ByteArray.empty),1,16)) (m1:P.globalNamed "internal/bytealg.MaxLen" =some (ρ.g 1)) (en:Enters P (ρ.f 146)):FOk P (ρ.f 146) ⟨[.rd .str,.rd .str],[.sl (ρ.t 9) .str],fun s sep=>FG s sep,none⟩:=by
 refine ⟨fun q hq=>(by cases hq),fun _=>en,fun w0 J vs d r hlay ha uK=>?_⟩
 obtain ⟨v,vs1,rfl,⟨c1,l1,r1⟩,v2,vs2,rfl,⟨c2,l2,r2⟩,hnil⟩:=ha
 obtain rfl:vs2= []:=hnil
 obtain ⟨s0,sep0,un⟩:=d
 let s:ByteArray:=s0
 let sep:ByteArray:=sep0
 obtain rfl:c1= [v]:=l1
 obtain rfl:c2= [v2]:=l2
 obtain rfl:v= .string s:=(List.cons.inj r1).1
 obtain rfl:v2= .string sep:=(List.cons.inj r2).1
 obtain ⟨u1,hc,hz⟩:=Option.bind_eq_some_iff.1 (show FG s sep=some r from uK)
 have hc:=bd hc
 obtain rfl:=aliasOf1 hz
 intro w C hst
 have hst:St J w0 w C:=hst
 obtain ⟨g,m,hg,hm⟩:=(hlay w hst.2.1).len
 obtain rfl:=aliasOf1 (m1.symm.trans hg)
 refine (Any.strings_Split L hi9 s sep m w hc.1 hm hc.2).mono ?_
 rintro e w' ⟨rfl,rfl⟩
 refine ⟨_,rfl,rfl,?_⟩
 have hlen:(Lib.splitB sep 0 (Lib.countB s sep) s).length=Lib.countB s sep+1:=Lib.splitB_all sep hc.2 0 _ s rfl
 have hle:=Lib.countB_le sep hc.2 s.size s (al _)
 have h3:=D.QX (E:=ρ.t 9) (enc:=Value.string) (h1:=fun _=>rfl) (b:=w.heap.size) (xs:=Lib.splitB sep 0 (Lib.countB s sep) s) (by rw[hlen];have:lim=9223372036854775807:=rfl;omega) (hst.alloc _ _)
 rw[hlen] at h3
 exact h3
theorem QY (L:Lays.n145 P ρ) (m1:P.globalNamed "internal/bytealg.MaxLen" =some (ρ.g 1)) (en:Enters P (ρ.f 145)):FOk P (ρ.f 145) ⟨[.rd .str,.rd .str],[.str,.str,.bool],fun s sep=>Sw s sep,none⟩:=by
 refine ⟨fun q hq=>(by cases hq),fun _=>en,fun w0 J vs d r hlay ha uK=>?_⟩
 obtain ⟨v,vs1,rfl,⟨c1,l1,r1⟩,v2,vs2,rfl,⟨c2,l2,r2⟩,hnil⟩:=ha
 obtain rfl:vs2= []:=hnil
 obtain ⟨s0,sep0,un⟩:=d
 let s:ByteArray:=s0
 let sep:ByteArray:=sep0
 obtain rfl:c1= [v]:=l1
 obtain rfl:c2= [v2]:=l2
 obtain rfl:v= .string s:=(List.cons.inj r1).1
 obtain rfl:v2= .string sep:=(List.cons.inj r2).1
 obtain ⟨u1,hc,hz⟩:=Option.bind_eq_some_iff.1 (show Sw s sep=some r from uK)
 have hc:=bd hc
 obtain rfl:=aliasOf1 hz
 intro w C hst
 have hst:St J w0 w C:=hst
 obtain ⟨g,m,hg,hm⟩:=(hlay w hst.2.1).len
 obtain rfl:=aliasOf1 (m1.symm.trans hg)
 refine (Any.strings_Cut L s sep m w hc hm).mono ?_
 rintro e w' ⟨rfl,n,rfl⟩
 refine ⟨_,rfl,⟨_,rfl,rfl,fun i t ht=>?_⟩,?_⟩
 ·rcases i with _ | _ | _ | i
  all_goals first | (obtain rfl:=aliasOf1 ht;rfl) | cases ht
 ·have hw:St J w0 (w.drewN n) C:=hst.drawn rfl rfl rfl rfl
  exact D.St.free (R:=zE) (c:=[.string _]) (D.St.free (R:=zE) (c:=[.string _]) (D.St.free (R:=lz) (c:=[.bool _]) hw ⟨rfl,rfl⟩) ⟨rfl,rfl⟩) ⟨rfl,rfl⟩
theorem Ax (L:Lays.n137 P ρ) (en:Enters P (ρ.f 137)):FOk P (ρ.f 137) ⟨[.rd .str,.rd (.int .u8)],[.int .i64],fun s c=>sY s c,none⟩:=by
 refine ⟨fun q hq=>(by cases hq),fun _=>en,fun w0 J vs d r hlay ha uK=>?_⟩
 obtain ⟨v,vs1,rfl,⟨c1,l1,r1⟩,v2,vs2,rfl,⟨c2,l2,r2⟩,hnil⟩:=ha
 obtain rfl:vs2= []:=hnil
 obtain ⟨s0,c0,un⟩:=d
 let s:ByteArray:=s0
 let c:Int:=c0
 obtain rfl:c1= [v]:=l1
 obtain rfl:c2= [v2]:=l2
 obtain rfl:v= .string s:=(List.cons.inj r1).1
 obtain rfl:v2= .int .u8 c:=(List.cons.inj r2).1
 obtain rfl:=aliasOf1 (show sY s c=some r from uK)
 intro w C hst
 have hst:St J w0 w C:=hst
 refine (Any.strings_IndexByte L s c w).mono ?_
 rintro e w' ⟨rfl,rfl⟩
 exact ⟨_,rfl,rfl,D.St.free (R:=aN) (c:=[.int .i64 _]) hst ⟨rfl,rfl⟩⟩
theorem QZ {α:Type} {E:TypeId} {R:Rep α} {I:Hp} {w0 w:World} {v:List Value} {xs:List α} {C:List Ch} (h:St I w0 w (Ch.own (aa E R) v xs::C)):St I w0 w (Ch.own (aa E (HG R)) v xs::C):=by
 obtain ⟨hb,hi,F,⟨G,K,rfl,⟨hl,e2⟩,e3⟩,h4,h5⟩:=h
 rcases e2 with ⟨rfl,rfl,rfl⟩ | ⟨g,ofs,cap,cur,K1,hv,k1,k2,k3,k4,k6,k5⟩
 ·exact ⟨hb,hi,_,⟨_,K,rfl,⟨hl,.inl ⟨rfl,rfl,rfl⟩⟩,e3⟩,h4,h5⟩
 ·exact ⟨hb,hi,_,⟨_,K,rfl,⟨hl,.inr ⟨g,ofs,cap,cur,K1,hv,k1,k2,k3,k4,k6,OwnEls.turn (R:=R) (S:=HG R) rfl (fun c x G hx=>H4 hx) k5⟩⟩,e3⟩,h4,h5⟩
theorem FH {P:Program} {k:FuncId} {ps:List PM} {A B t:Ty} {E:TypeId} {m:curP ps (Option (dens ([A,.sl E t,B] ++outs ps)))} (h:FOk P k ⟨ps,[A,.sl E t,B],m,none⟩):FOk P k ⟨ps,[A,.sl E (.bag t),B],m,none⟩:=by
 refine ⟨fun q hq=>(by cases hq),fun hq=>h.en hq,fun w0 J vs d r hlay ha uK=>?_⟩
 refine (h.con w0 J vs d r hlay ha uK).imp (fun v hv=>?_) (fun v _ w C hs=>?_)
 ·obtain ⟨us,rfl,h1,h2⟩:=hv
  refine ⟨us,rfl,h1,fun i u hu=>?_⟩
  rcases i with _ | _ | _ | i
  ·obtain rfl:=aliasOf1 hu;exact h2 0 _ rfl
  ·obtain rfl:=aliasOf1 hu;exact h2 1 (.sl E t) rfl
  ·obtain rfl:=aliasOf1 hu;exact h2 2 _ rfl
  ·cases hu
 ·exact ((QZ (hs.perm (List.Perm.swap ..))).perm (List.Perm.swap ..))
theorem JU {k:FuncId} {m:ByteArray->Option (Int×Bool)} (en:Enters P k) (h: ∀s r w,m s=some r->LayW P w->Calls P k #[.string s] w fun e w'=>e= .returned (.tuple #[.int .i64 r.1,.bool r.2])/\Below w.heap.size w w'):FOk P k ⟨[.rd .str],[.int .i64,.bool],fun s=>m s,none⟩:=by
 refine ⟨fun q hq=>(by cases hq),fun _=>en,fun w0 J vs d r hlay ha uK=>?_⟩
 obtain ⟨v,vs1,rfl,⟨c1,l1,r1⟩,hnil⟩:=ha
 obtain rfl:vs1= []:=hnil
 obtain ⟨s0,un⟩:=d
 let s:ByteArray:=s0
 obtain rfl:c1= [v]:=l1
 obtain rfl:v= .string s:=(List.cons.inj r1).1
 intro w C hst
 have hst:St J w0 w C:=hst
 refine (h s r w uK (hlay w hst.2.1)).mono ?_
 rintro e w' ⟨rfl,hb⟩
 refine ⟨_,rfl,⟨_,rfl,rfl,fun i t ht=>?_⟩,?_⟩
 ·rcases i with _ | _ | i
  all_goals first | (obtain rfl:=aliasOf1 ht;rfl) | cases ht
 ·exact D.St.free (R:=aN) (c:=[.int .i64 _]) (D.St.free (R:=lz) (c:=[.bool _]) (St.belowS hst hb) ⟨rfl,rfl⟩) ⟨rfl,rfl⟩
end
end R
namespace R
open Go.Shelf
def ub:Go.Shelf.Ren:=⟨fun | 156=>194 | 165=>234 | 166=>235 | 169=>236 | 240=>272 | 241=>273 | 276=>312 | 277=>313 | n=>n,fun | 31=>205 | 9=>9 | 3=>3 | 4=>4 | 0=>0 | 20=>20 | 72=>252 | 76=>244 | 70=>250 | 37=>222 | 75=>243 | 127=>286 | 164=>317 | 5=>5 | 80=>254 | n=>n,fun | n=>n⟩
theorem Nj:Go.Proofs.Lays.n156 Tryz.prog ub:= {
 mixed:=by kernel_rfl
 f156:=Tryz.func194.trans (congrArg some (by kernel_rfl))
 f165:=Tryz.func234.trans (congrArg some (by kernel_rfl))
 f166:=Tryz.func235.trans (congrArg some (by kernel_rfl))
 f169:=Tryz.func236.trans (congrArg some (by kernel_rfl))
 f240:=Tryz.func272.trans (congrArg some (by kernel_rfl))
 f241:=Tryz.func273.trans (congrArg some (by kernel_rfl))
 f276:=Tryz.func312.trans (congrArg some (by kernel_rfl))
 f277:=Tryz.func313.trans (congrArg some (by kernel_rfl))
 t0:=Tryz.underlying0
 a0:=Tryz.isAgg0
 z0:=Tryz.sizeOf0
 v0:=Tryz.zeroValue0
 t3:=Tryz.underlying3
 a3:=Tryz.isAgg3
 z3:=Tryz.sizeOf3
 v3:=Tryz.zeroValue3
 t4:=Tryz.underlying4
 a4:=Tryz.isAgg4
 z4:=Tryz.sizeOf4
 v4:=Tryz.zeroValue4
 t9:=Tryz.underlying9
 a9:=Tryz.isAgg9
 z9:=Tryz.sizeOf9
 v9:=Tryz.zeroValue9
 t20:=Tryz.underlying20
 a20:=Tryz.isAgg20
 z20:=Tryz.sizeOf20
 v20:=Tryz.zeroValue20
 t31:=Tryz.underlying205
 a31:=Tryz.isAgg205
 z31:=Tryz.sizeOf205
 v31:=Tryz.zeroValue205
 t37:=Tryz.underlying222
 a37:=Tryz.isAgg222
 z37:=Tryz.sizeOf222
 v37:=Tryz.zeroValue222
 t70:=Tryz.underlying250
 a70:=Tryz.isAgg250
 z70:=Tryz.sizeOf250
 v70:=Tryz.zeroValue250
 t72:=Tryz.underlying252
 a72:=Tryz.isAgg252
 z72:=Tryz.sizeOf252
 v72:=Tryz.zeroValue252
 t75:=Tryz.underlying243
 a75:=Tryz.isAgg243
 z75:=Tryz.sizeOf243
 v75:=Tryz.zeroValue243
 t76:=Tryz.underlying244
 a76:=Tryz.isAgg244
 z76:=Tryz.sizeOf244
 v76:=Tryz.zeroValue244
 t127:=Tryz.underlying286
 a127:=Tryz.isAgg286
 z127:=Tryz.sizeOf286
 v127:=Tryz.zeroValue286
 t164:=Tryz.underlying317
 a164:=Tryz.isAgg317
 z164:=Tryz.sizeOf317
 v164:=Tryz.zeroValue317 }
def Cr:Go.Shelf.Ren:=⟨fun | 171=>195 | 243=>237 | 246=>274 | 283=>314 | 284=>315 | 285=>316 | 286=>317 | 129=>338 | 317=>337 | 318=>339 | 319=>340 | 320=>341 | 337=>352 | 338=>353 | n=>n,fun | 3=>3 | 9=>9 | 2=>2 | 4=>4 | 171=>320 | 0=>0 | 53=>321 | 37=>222 | 5=>5 | 173=>324 | 212=>343 | 51=>344 | 20=>20 | 213=>345 | 46=>295 | 232=>369 | 233=>370 | n=>n,fun | 17=>3 | 18=>6 | 19=>7 | n=>n⟩
theorem FI:Go.Proofs.LaysM.n171 Tryz.prog Cr:= {
 mixed:=by kernel_rfl
 f129:=Tryz.func338.trans (congrArg some (by kernel_rfl))
 f171:=Tryz.func195.trans (congrArg some (by kernel_rfl))
 f243:=Tryz.func237.trans (congrArg some (by kernel_rfl))
 f246:=Tryz.func274.trans (congrArg some (by kernel_rfl))
 f283:=Tryz.func314.trans (congrArg some (by kernel_rfl))
 f284:=Tryz.func315.trans (congrArg some (by kernel_rfl))
 f285:=Tryz.func316.trans (congrArg some (by kernel_rfl))
 f286:=Tryz.func317.trans (congrArg some (by kernel_rfl))
 f317:=Tryz.func337.trans (congrArg some (by kernel_rfl))
 f318:=Tryz.func339.trans (congrArg some (by kernel_rfl))
 f319:=Tryz.func340.trans (congrArg some (by kernel_rfl))
 f320:=Tryz.func341.trans (congrArg some (by kernel_rfl))
 f337:=Tryz.func352.trans (congrArg some (by kernel_rfl))
 f338:=Tryz.func353.trans (congrArg some (by kernel_rfl))
 t0:=Tryz.underlying0
 a0:=Tryz.isAgg0
 z0:=Tryz.sizeOf0
 v0:=Tryz.zeroValue0
 t2:=Tryz.underlying2
 a2:=Tryz.isAgg2
 z2:=Tryz.sizeOf2
 v2:=Tryz.zeroValue2
 t3:=Tryz.underlying3
 a3:=Tryz.isAgg3
 z3:=Tryz.sizeOf3
 v3:=Tryz.zeroValue3
 t4:=Tryz.underlying4
 a4:=Tryz.isAgg4
 z4:=Tryz.sizeOf4
 v4:=Tryz.zeroValue4
 t5:=Tryz.underlying5
 a5:=Tryz.isAgg5
 z5:=Tryz.sizeOf5
 v5:=Tryz.zeroValue5
 t9:=Tryz.underlying9
 a9:=Tryz.isAgg9
 z9:=Tryz.sizeOf9
 v9:=Tryz.zeroValue9
 t20:=Tryz.underlying20
 a20:=Tryz.isAgg20
 z20:=Tryz.sizeOf20
 v20:=Tryz.zeroValue20
 t37:=Tryz.underlying222
 a37:=Tryz.isAgg222
 z37:=Tryz.sizeOf222
 v37:=Tryz.zeroValue222
 t46:=Tryz.underlying295
 a46:=Tryz.isAgg295
 z46:=Tryz.sizeOf295
 v46:=Tryz.zeroValue295
 t51:=Tryz.underlying344
 a51:=Tryz.isAgg344
 z51:=Tryz.sizeOf344
 v51:=Tryz.zeroValue344
 t53:=Tryz.underlying321
 a53:=Tryz.isAgg321
 z53:=Tryz.sizeOf321
 v53:=Tryz.zeroValue321
 t171:=Tryz.underlying320
 a171:=Tryz.isAgg320
 z171:=Tryz.sizeOf320
 v171:=Tryz.zeroValue320
 t173:=Tryz.underlying324
 a173:=Tryz.isAgg324
 z173:=Tryz.sizeOf324
 v173:=Tryz.zeroValue324
 t212:=Tryz.underlying343
 a212:=Tryz.isAgg343
 z212:=Tryz.sizeOf343
 v212:=Tryz.zeroValue343
 t213:=Tryz.underlying345
 a213:=Tryz.isAgg345
 z213:=Tryz.sizeOf345
 t232:=Tryz.underlying369
 a232:=Tryz.isAgg369
 z232:=Tryz.sizeOf369
 v232:=Tryz.zeroValue369
 t233:=Tryz.underlying370
 a233:=Tryz.isAgg370
 z233:=Tryz.sizeOf370
 v233:=Tryz.zeroValue370
 g17:=by kernel_rfl
 g18:=by kernel_rfl
 g19:=by kernel_rfl
 i0:=by kernel_rfl
 i2:=by kernel_rfl
 i3:=by kernel_rfl
 i4:=by kernel_rfl
 i5:=by kernel_rfl
 i9:=by kernel_rfl
 i20:=by kernel_rfl
 i37:=by kernel_rfl
 i46:=by kernel_rfl
 i51:=by kernel_rfl
 i53:=by kernel_rfl
 i171:=by kernel_rfl
 i173:=by kernel_rfl
 i212:=by kernel_rfl
 i232:=by kernel_rfl
 i233:=by kernel_rfl
 m17:=by kernel_rfl
 m18:=by kernel_rfl
 m19:=by kernel_rfl }
def Ay:Go.Shelf.Ren:=⟨fun | 146=>171 | 221=>225 | 268=>265 | 138=>266 | 143=>267 | 195=>302 | 197=>303 | 218=>304 | 219=>305 | 260=>330 | 217=>170 | 225=>331 | 224=>332 | 267=>333 | 266=>224 | 314=>349 | n=>n,fun | 9=>9 | 31=>205 | 3=>3 | 4=>4 | 0=>0 | 105=>309 | 21=>21 | 5=>5 | 46=>295 | 119=>354 | 139=>357 | 138=>356 | 146=>358 | 51=>344 | n=>n,fun | 1=>0 | 3=>4 | 4=>5 | n=>n⟩
theorem JV:Go.Proofs.Lays.n146 Tryz.prog Ay:= {
 mixed:=by kernel_rfl
 f138:=Tryz.func266.trans (congrArg some (by kernel_rfl))
 f143:=Tryz.func267.trans (congrArg some (by kernel_rfl))
 f146:=Tryz.func171.trans (congrArg some (by kernel_rfl))
 f195:=Tryz.func302.trans (congrArg some (by kernel_rfl))
 f197:=Tryz.func303.trans (congrArg some (by kernel_rfl))
 f217:=Tryz.func170.trans (congrArg some (by kernel_rfl))
 f218:=Tryz.func304.trans (congrArg some (by kernel_rfl))
 f219:=Tryz.func305.trans (congrArg some (by kernel_rfl))
 f221:=Tryz.func225.trans (congrArg some (by kernel_rfl))
 f224:=Tryz.func332.trans (congrArg some (by kernel_rfl))
 f225:=Tryz.func331.trans (congrArg some (by kernel_rfl))
 f260:=Tryz.func330.trans (congrArg some (by kernel_rfl))
 f266:=Tryz.func224.trans (congrArg some (by kernel_rfl))
 f267:=Tryz.func333.trans (congrArg some (by kernel_rfl))
 f268:=Tryz.func265.trans (congrArg some (by kernel_rfl))
 f314:=Tryz.func349.trans (congrArg some (by kernel_rfl))
 t0:=Tryz.underlying0
 a0:=Tryz.isAgg0
 z0:=Tryz.sizeOf0
 v0:=Tryz.zeroValue0
 t3:=Tryz.underlying3
 a3:=Tryz.isAgg3
 z3:=Tryz.sizeOf3
 v3:=Tryz.zeroValue3
 t4:=Tryz.underlying4
 a4:=Tryz.isAgg4
 z4:=Tryz.sizeOf4
 v4:=Tryz.zeroValue4
 t5:=Tryz.underlying5
 a5:=Tryz.isAgg5
 z5:=Tryz.sizeOf5
 v5:=Tryz.zeroValue5
 t9:=Tryz.underlying9
 a9:=Tryz.isAgg9
 z9:=Tryz.sizeOf9
 v9:=Tryz.zeroValue9
 t21:=Tryz.underlying21
 a21:=Tryz.isAgg21
 z21:=Tryz.sizeOf21
 v21:=Tryz.zeroValue21
 t31:=Tryz.underlying205
 a31:=Tryz.isAgg205
 z31:=Tryz.sizeOf205
 v31:=Tryz.zeroValue205
 t46:=Tryz.underlying295
 a46:=Tryz.isAgg295
 z46:=Tryz.sizeOf295
 v46:=Tryz.zeroValue295
 t51:=Tryz.underlying344
 a51:=Tryz.isAgg344
 z51:=Tryz.sizeOf344
 v51:=Tryz.zeroValue344
 t105:=Tryz.underlying309
 a105:=Tryz.isAgg309
 z105:=Tryz.sizeOf309
 v105:=Tryz.zeroValue309
 t119:=Tryz.underlying354
 a119:=Tryz.isAgg354
 z119:=Tryz.sizeOf354
 t138:=Tryz.underlying356
 a138:=Tryz.isAgg356
 z138:=Tryz.sizeOf356
 v138:=Tryz.zeroValue356
 t139:=Tryz.underlying357
 a139:=Tryz.isAgg357
 z139:=Tryz.sizeOf357
 v139:=Tryz.zeroValue357
 t146:=Tryz.underlying358
 a146:=Tryz.isAgg358
 z146:=Tryz.sizeOf358
 v146:=Tryz.zeroValue358
 g1:=by kernel_rfl
 g3:=by kernel_rfl
 g4:=by kernel_rfl }
def DX:Go.Shelf.Ren:=⟨fun | 145=>270 | 220=>311 | 219=>305 | 217=>170 | 225=>331 | 224=>332 | 267=>333 | 266=>224 | 314=>349 | n=>n,fun | 9=>9 | 4=>4 | 59=>284 | 3=>3 | 5=>5 | 46=>295 | 146=>358 | 51=>344 | n=>n,fun | 1=>0 | n=>n⟩
theorem Q0:Go.Proofs.Lays.n145 Tryz.prog DX:= {
 mixed:=by kernel_rfl
 f145:=Tryz.func270.trans (congrArg some (by kernel_rfl))
 f217:=Tryz.func170.trans (congrArg some (by kernel_rfl))
 f219:=Tryz.func305.trans (congrArg some (by kernel_rfl))
 f220:=Tryz.func311.trans (congrArg some (by kernel_rfl))
 f224:=Tryz.func332.trans (congrArg some (by kernel_rfl))
 f225:=Tryz.func331.trans (congrArg some (by kernel_rfl))
 f266:=Tryz.func224.trans (congrArg some (by kernel_rfl))
 f267:=Tryz.func333.trans (congrArg some (by kernel_rfl))
 f314:=Tryz.func349.trans (congrArg some (by kernel_rfl))
 t3:=Tryz.underlying3
 a3:=Tryz.isAgg3
 z3:=Tryz.sizeOf3
 v3:=Tryz.zeroValue3
 t4:=Tryz.underlying4
 a4:=Tryz.isAgg4
 z4:=Tryz.sizeOf4
 v4:=Tryz.zeroValue4
 t5:=Tryz.underlying5
 a5:=Tryz.isAgg5
 z5:=Tryz.sizeOf5
 v5:=Tryz.zeroValue5
 t9:=Tryz.underlying9
 a9:=Tryz.isAgg9
 z9:=Tryz.sizeOf9
 v9:=Tryz.zeroValue9
 t46:=Tryz.underlying295
 a46:=Tryz.isAgg295
 z46:=Tryz.sizeOf295
 v46:=Tryz.zeroValue295
 t51:=Tryz.underlying344
 a51:=Tryz.isAgg344
 z51:=Tryz.sizeOf344
 v51:=Tryz.zeroValue344
 t59:=Tryz.underlying284
 a59:=Tryz.isAgg284
 z59:=Tryz.sizeOf284
 v59:=Tryz.zeroValue284
 t146:=Tryz.underlying358
 a146:=Tryz.isAgg358
 z146:=Tryz.sizeOf358
 v146:=Tryz.zeroValue358
 g1:=by kernel_rfl }
def sZ:Go.Shelf.Ren:=⟨fun | 137=>112 | 217=>170 | 266=>224 | n=>n,fun | 9=>9 | 5=>5 | 3=>3 | n=>n,fun | n=>n⟩
theorem Az:Go.Proofs.Lays.n137 Tryz.prog sZ:= {
 mixed:=by kernel_rfl
 f137:=Tryz.func112.trans (congrArg some (by kernel_rfl))
 f217:=Tryz.func170.trans (congrArg some (by kernel_rfl))
 f266:=Tryz.func224.trans (congrArg some (by kernel_rfl))
 t3:=Tryz.underlying3
 a3:=Tryz.isAgg3
 z3:=Tryz.sizeOf3
 v3:=Tryz.zeroValue3
 t5:=Tryz.underlying5
 a5:=Tryz.isAgg5
 z5:=Tryz.sizeOf5
 v5:=Tryz.zeroValue5
 t9:=Tryz.underlying9
 a9:=Tryz.isAgg9
 z9:=Tryz.sizeOf9
 v9:=Tryz.zeroValue9 }
def Cs:Go.Shelf.Ren:=⟨fun | 172=>226 | 244=>268 | 245=>269 | 247=>306 | 279=>307 | 280=>308 | 281=>309 | 282=>310 | 287=>334 | 316=>335 | 171=>195 | 205=>336 | 321=>350 | 322=>351 | 243=>237 | 246=>274 | 283=>314 | 284=>315 | 285=>316 | 286=>317 | 129=>338 | 317=>337 | 318=>339 | 319=>340 | 320=>341 | 337=>352 | 338=>353 | n=>n,fun | 9=>9 | 3=>3 | 75=>243 | 76=>244 | 4=>4 | 5=>5 | 167=>311 | 37=>222 | 0=>0 | 85=>312 | 2=>2 | 168=>314 | 53=>321 | 175=>336 | 46=>295 | 210=>340 | 127=>286 | 145=>364 | 143=>362 | 21=>21 | 171=>320 | 173=>324 | 212=>343 | 51=>344 | 20=>20 | 213=>345 | 232=>369 | 233=>370 | 80=>254 | n=>n,fun | 15=>1 | 16=>2 | 17=>3 | 18=>6 | 19=>7 | n=>n⟩
theorem FJ:Go.Proofs.LaysC.n172 Tryz.prog Cs:= {
 mixed:=by kernel_rfl
 f129:=Tryz.func338.trans (congrArg some (by kernel_rfl))
 f171:=Tryz.func195.trans (congrArg some (by kernel_rfl))
 f172:=Tryz.func226.trans (congrArg some (by kernel_rfl))
 f205:=Tryz.func336.trans (congrArg some (by kernel_rfl))
 f243:=Tryz.func237.trans (congrArg some (by kernel_rfl))
 f244:=Tryz.func268.trans (congrArg some (by kernel_rfl))
 f245:=Tryz.func269.trans (congrArg some (by kernel_rfl))
 f246:=Tryz.func274.trans (congrArg some (by kernel_rfl))
 f247:=Tryz.func306.trans (congrArg some (by kernel_rfl))
 f279:=Tryz.func307.trans (congrArg some (by kernel_rfl))
 f280:=Tryz.func308.trans (congrArg some (by kernel_rfl))
 f281:=Tryz.func309.trans (congrArg some (by kernel_rfl))
 f282:=Tryz.func310.trans (congrArg some (by kernel_rfl))
 f283:=Tryz.func314.trans (congrArg some (by kernel_rfl))
 f284:=Tryz.func315.trans (congrArg some (by kernel_rfl))
 f285:=Tryz.func316.trans (congrArg some (by kernel_rfl))
 f286:=Tryz.func317.trans (congrArg some (by kernel_rfl))
 f287:=Tryz.func334.trans (congrArg some (by kernel_rfl))
 f316:=Tryz.func335.trans (congrArg some (by kernel_rfl))
 f317:=Tryz.func337.trans (congrArg some (by kernel_rfl))
 f318:=Tryz.func339.trans (congrArg some (by kernel_rfl))
 f319:=Tryz.func340.trans (congrArg some (by kernel_rfl))
 f320:=Tryz.func341.trans (congrArg some (by kernel_rfl))
 f321:=Tryz.func350.trans (congrArg some (by kernel_rfl))
 f322:=Tryz.func351.trans (congrArg some (by kernel_rfl))
 f337:=Tryz.func352.trans (congrArg some (by kernel_rfl))
 f338:=Tryz.func353.trans (congrArg some (by kernel_rfl))
 t0:=Tryz.underlying0
 a0:=Tryz.isAgg0
 z0:=Tryz.sizeOf0
 v0:=Tryz.zeroValue0
 t2:=Tryz.underlying2
 a2:=Tryz.isAgg2
 z2:=Tryz.sizeOf2
 v2:=Tryz.zeroValue2
 t3:=Tryz.underlying3
 a3:=Tryz.isAgg3
 z3:=Tryz.sizeOf3
 v3:=Tryz.zeroValue3
 t4:=Tryz.underlying4
 a4:=Tryz.isAgg4
 z4:=Tryz.sizeOf4
 v4:=Tryz.zeroValue4
 t5:=Tryz.underlying5
 a5:=Tryz.isAgg5
 z5:=Tryz.sizeOf5
 v5:=Tryz.zeroValue5
 t9:=Tryz.underlying9
 a9:=Tryz.isAgg9
 z9:=Tryz.sizeOf9
 v9:=Tryz.zeroValue9
 t20:=Tryz.underlying20
 a20:=Tryz.isAgg20
 z20:=Tryz.sizeOf20
 v20:=Tryz.zeroValue20
 t21:=Tryz.underlying21
 a21:=Tryz.isAgg21
 z21:=Tryz.sizeOf21
 v21:=Tryz.zeroValue21
 t37:=Tryz.underlying222
 a37:=Tryz.isAgg222
 z37:=Tryz.sizeOf222
 v37:=Tryz.zeroValue222
 t46:=Tryz.underlying295
 a46:=Tryz.isAgg295
 z46:=Tryz.sizeOf295
 v46:=Tryz.zeroValue295
 t51:=Tryz.underlying344
 a51:=Tryz.isAgg344
 z51:=Tryz.sizeOf344
 v51:=Tryz.zeroValue344
 t53:=Tryz.underlying321
 a53:=Tryz.isAgg321
 z53:=Tryz.sizeOf321
 v53:=Tryz.zeroValue321
 t75:=Tryz.underlying243
 a75:=Tryz.isAgg243
 z75:=Tryz.sizeOf243
 v75:=Tryz.zeroValue243
 t76:=Tryz.underlying244
 a76:=Tryz.isAgg244
 z76:=Tryz.sizeOf244
 v76:=Tryz.zeroValue244
 t85:=Tryz.underlying312
 a85:=Tryz.isAgg312
 z85:=Tryz.sizeOf312
 v85:=Tryz.zeroValue312
 t127:=Tryz.underlying286
 a127:=Tryz.isAgg286
 z127:=Tryz.sizeOf286
 v127:=Tryz.zeroValue286
 t143:=Tryz.underlying362
 a143:=Tryz.isAgg362
 z143:=Tryz.sizeOf362
 v143:=Tryz.zeroValue362
 t145:=Tryz.underlying364
 a145:=Tryz.isAgg364
 z145:=Tryz.sizeOf364
 v145:=Tryz.zeroValue364
 t167:=Tryz.underlying311
 a167:=Tryz.isAgg311
 z167:=Tryz.sizeOf311
 v167:=Tryz.zeroValue311
 t168:=Tryz.underlying314
 a168:=Tryz.isAgg314
 z168:=Tryz.sizeOf314
 v168:=Tryz.zeroValue314
 t171:=Tryz.underlying320
 a171:=Tryz.isAgg320
 z171:=Tryz.sizeOf320
 v171:=Tryz.zeroValue320
 t173:=Tryz.underlying324
 a173:=Tryz.isAgg324
 z173:=Tryz.sizeOf324
 v173:=Tryz.zeroValue324
 t175:=Tryz.underlying336
 a175:=Tryz.isAgg336
 z175:=Tryz.sizeOf336
 v175:=Tryz.zeroValue336
 t210:=Tryz.underlying340
 a210:=Tryz.isAgg340
 z210:=Tryz.sizeOf340
 v210:=Tryz.zeroValue340
 t212:=Tryz.underlying343
 a212:=Tryz.isAgg343
 z212:=Tryz.sizeOf343
 v212:=Tryz.zeroValue343
 t213:=Tryz.underlying345
 a213:=Tryz.isAgg345
 z213:=Tryz.sizeOf345
 t232:=Tryz.underlying369
 a232:=Tryz.isAgg369
 z232:=Tryz.sizeOf369
 v232:=Tryz.zeroValue369
 t233:=Tryz.underlying370
 a233:=Tryz.isAgg370
 z233:=Tryz.sizeOf370
 v233:=Tryz.zeroValue370
 g15:=by kernel_rfl
 g16:=by kernel_rfl
 g17:=by kernel_rfl
 g18:=by kernel_rfl
 g19:=by kernel_rfl
 t80:=Tryz.underlying254
 a80:=Tryz.isAgg254
 z80:=Tryz.sizeOf254
 v80:=Tryz.zeroValue254
 i0:=by kernel_rfl
 i2:=by kernel_rfl
 i3:=by kernel_rfl
 i4:=by kernel_rfl
 i5:=by kernel_rfl
 i9:=by kernel_rfl
 i20:=by kernel_rfl
 i21:=by kernel_rfl
 i37:=by kernel_rfl
 i46:=by kernel_rfl
 i51:=by kernel_rfl
 i53:=by kernel_rfl
 i75:=by kernel_rfl
 i76:=by kernel_rfl
 i80:=by kernel_rfl
 i85:=by kernel_rfl
 i127:=by kernel_rfl
 i143:=by kernel_rfl
 i145:=by kernel_rfl
 i167:=by kernel_rfl
 i168:=by kernel_rfl
 i171:=by kernel_rfl
 i173:=by kernel_rfl
 i175:=by kernel_rfl
 i210:=by kernel_rfl
 i212:=by kernel_rfl
 i232:=by kernel_rfl
 i233:=by kernel_rfl
 m15:=by kernel_rfl
 m16:=by kernel_rfl
 m17:=by kernel_rfl
 m18:=by kernel_rfl
 m19:=by kernel_rfl
 c0:=by kernel_rfl
 c2:=by kernel_rfl
 c3:=by kernel_rfl
 c4:=by kernel_rfl
 c5:=by kernel_rfl
 c9:=by kernel_rfl
 c20:=by kernel_rfl
 c21:=by kernel_rfl
 c37:=by kernel_rfl
 c46:=by kernel_rfl
 c51:=by kernel_rfl
 c53:=by kernel_rfl
 c75:=by kernel_rfl
 c76:=by kernel_rfl
 c80:=by kernel_rfl
 c85:=by kernel_rfl
 c127:=by kernel_rfl
 c143:=by kernel_rfl
 c145:=by kernel_rfl
 c167:=by kernel_rfl
 c168:=by kernel_rfl
 c171:=by kernel_rfl
 c173:=by kernel_rfl
 c175:=by kernel_rfl
 c210:=by kernel_rfl
 c212:=by kernel_rfl
 c213:=by kernel_rfl
 c232:=by kernel_rfl
 c233:=by kernel_rfl }
theorem JW:Go.Proofs.Builder.Extra Tryz.prog ub where
 sizeBuilder:=by kernel_rfl
 liesBuilder:=by kernel_rfl
 t5:=Tryz.underlying5
 a5:=Tryz.isAgg5
 z5:=Tryz.sizeOf5
 v5:=Tryz.zeroValue5
 infoByte:=by kernel_rfl
 cellsByte:=by kernel_rfl
 sizeByte:=by kernel_rfl
 neB5:=by decide
end R
namespace R
open Go.RowKit
open D
def FldAll (P:Program) (T:TypeId):Nat->List (Nat×Nat)->Prop
 | _,[] =>True
 | i,q::l=>TF P T i q.1 q.2/\FldAll P T (i+1) l
theorem FldAll.get {P:Program} {T:TypeId} : ∀ {l:List (Nat×Nat)} {i:Nat},FldAll P T i l-> ∀f q,l[f]? =some q->TF P T (i+f) q.1 q.2
 | [],_,_,f,q,h=>by simp at h
 | x::l,i,⟨h1,h2⟩,f,q,h=>by
  cases f with
  | zero=>simp at h;subst h;exact h1
  | succ f =>
   have:=FldAll.get h2 f q (by simpa using h)
   rwa [show i+1+f=i+(f+1) from by omega] at this
section
variable {P:Program} {T:TypeId}
theorem qK {n b:Nat} {ty:Ty} {z:Value} {boo:Bool} {ik:Option (Option IntKind)} (h1:TI P T false 1) (h2:ty.size=1) (h3:TZ P T z 1 b) (h4:z.cells=(zeroCells ty).toArray) (h5:1<=b) (h6:boo=true->P.underlying T=some .bool) (h7: ∀k,ik=some k->P.underlying T=some (ikD k)):TDok P T ⟨false,1,none,ty,[],some b,none,boo,none,none,ik,false,none⟩:=
 ⟨h1,rfl,h2,fun E h=>by simp at h,fun f q h=>by simp at h,fun b' h=>by obtain rfl:=aliasOf1 h;exact ⟨z,h3,h4,h5⟩,fun pl h=>by simp at h,h6,(fun ks h=>by cases h),(fun m h=>by cases h),h7,(fun h=>by cases h),fun e h=>by cases h⟩
theorem l8 {E:TypeId} {t:Ty} (h1:TI P T false 1) (h2:P.underlying T=some (.slice E)) (h3:TZ P T (.slice none 0 0) 1 24):TDok P T ⟨false,1,some E,.sl E t,[],some 24,none,false,none,none,none,false,none⟩:=
 ⟨h1,rfl,rfl,fun E' h=>by obtain rfl:=aliasOf1 h;exact h2,fun f q h=>by simp at h,fun b' h=>by obtain rfl:=aliasOf1 h;exact ⟨_,h3,rfl,by decide⟩,fun pl h=>by simp at h,(fun h=>by cases h),(fun ks h=>by cases h),(fun m h=>by cases h),(fun k h=>by cases h),(fun h=>by cases h),fun e h=>by cases h⟩
theorem iZ {n b:Nat} {ty:Ty} {fs pl:List (Nat×Nat)} {z:Value} {eq:Option (List (Option IntKind))} (h1:TI P T true n) (h2:ty.size=n) (h3:FldAll P T 0 fs) (h4:TZ P T z n b) (h5:z.cells=(zeroCells ty).toArray) (h6:1<=b) (h7:TB P T pl) (h8: ∀ks,eq=some ks-> ∀w,Curq ks fun xs ys r=>EqT P T (.agg xs.toArray) (.agg ys.toArray) r w):TDok P T ⟨true,n,none,ty,fs,some b,some pl,false,eq,none,none,false,none⟩:=
 ⟨h1,rfl,h2,fun E h=>by simp at h,fun f q h=>by have:=h3.get f q h;rwa [Nat.zero_add] at this,fun b' h=>by obtain rfl:=aliasOf1 h;exact ⟨z,h4,h5,h6⟩,fun pl' h=>by obtain rfl:=aliasOf1 h;exact h7,(fun h=>by cases h),h8,(fun m h=>by cases h),(fun k h=>by cases h),(fun h=>by cases h),fun e h=>by cases h⟩
theorem wF {ty:Ty} {b:Nat} (h1:TI P T false 1) (h2:ty.size=1) (h3:TZ P T .nilFunc 1 b):TDok P T ⟨false,1,none,ty,[],none,none,false,none,none,none,true,none⟩:=
 ⟨h1,rfl,h2,fun E h=>by simp at h,fun f q h=>by simp at h,(fun b' h=>by cases h),(fun pl h=>by cases h),(fun h=>by cases h),(fun ks h=>by cases h),(fun m' h=>by cases h),(fun k h=>by cases h),(fun _=>⟨b,h3⟩),fun e h=>by cases h⟩
theorem T8 {m:MD} {ty:Ty} (h1:TI P T false 1) (h2:ty.size=1) (h3:MDok P T m):TDok P T ⟨false,1,none,ty,[],none,none,false,none,some m,none,false,none⟩:=
 ⟨h1,rfl,h2,fun E h=>by simp at h,fun f q h=>by simp at h,(fun b' h=>by cases h),(fun pl h=>by cases h),(fun h=>by cases h),(fun ks h=>by cases h),(fun m' h=>by obtain rfl:=aliasOf1 h;exact h3),(fun k h=>by cases h),(fun h=>by cases h),fun e h=>by cases h⟩
theorem T9 {e E:TypeId} {u:Ty} (h1:TI P T false 1) (h2:P.underlying T=some (.pointer e)) (h3:TZ P T (.pointer none) 1 8):TDok P T ⟨false,1,none,.fro (.tree e E u),[],some 8,none,false,none,none,none,false,some e⟩:=
 ⟨h1,rfl,rfl,fun E' h=>by simp at h,fun f q h=>by simp at h,fun b' h=>by obtain rfl:=aliasOf1 h;exact ⟨_,h3,rfl,by decide⟩,fun pl h=>by simp at h,(fun h=>by cases h),(fun ks h=>by cases h),(fun m h=>by cases h),(fun k h=>by cases h),(fun h=>by cases h),fun e' h=>by obtain rfl:=aliasOf1 h;exact h2⟩
end
end R
namespace D
open Go.RowKit
abbrev Yq1:Type:=(Int×Int×Int×Int)
abbrev Yq2:Type:=(Int×(List Bool)×(List (List Int)))
abbrev Yq3:Type:=(Int×((List Yq1))×Int)
abbrev Yq4:Type:=(Bool×Int×Int×Int×Int)
abbrev Yq5:Type:=((List Int)×(List Yq1))
abbrev Yq6:Type:=((List Yq2)×(List Yq3))
abbrev Yq7:Type:=((List Int)×Int×Int×(List Int)×Bool)
abbrev Yq8:Type:=(Int×Int×Int)
abbrev Yq9:Type:=(Out Int (Int×Int))
abbrev FK:Type:=(Int×(List Yq5))
def pN (p0a:List Int) (p1left:Int):Option Int:=
 if decide (IntKind.i64.wrap (p1left - (p0a.length:Int))<0) then (some (-1)) else (some (IntKind.i64.wrap (p1left - (p0a.length:Int))))
def qL (p0a:List Yq1) (p1left:Int):Option Int:=
 if decide (IntKind.i64.wrap (p1left - (p0a.length:Int))<0) then (some (-1)) else (some (IntKind.i64.wrap (p1left - (p0a.length:Int))))
def nl (p0a:(List Int)×(List Yq1)) (p1left:Int):Option Int:=
 (pN p0a.1 p1left).bind fun r1=>if decide (r1<0) then (some (-1)) else ((qL p0a.2 r1).bind fun r2=>if decide (r2<0) then (some (-1)) else (some r2))
def iz (p0a:List Yq5) (s3:Int×Int):Option Yq9:=
 if decide (s3.2<(p0a.length:Int)) then ((aK p0a s3.2).bind fun x3=>(nl (x3.1,x3.2) s3.1).bind fun r9=>if decide (r9<0) then (some (.ret (-1))) else (some (.nxt (r9,IntKind.i64.wrap (s3.2+1))))) else (some (.brk (s3.1,s3.2)))
def oR (p0a:List Yq5) (p1left:Int):Option Int:=
 if decide (IntKind.i64.wrap (p1left - (p0a.length:Int))<0) then (some (-1)) else (aH (aq (iz p0a) aS (IntKind.i64.wrap (p1left - (p0a.length:Int)),0)) (fun r=>some r) (fun s4=>some s4.1))
def ko (p0a:Int×(List Yq5)) (p1left:Int):Option Int:=
 (oR p0a.2 p1left).bind fun r1=>if decide (r1<0) then (some (-1)) else (some r1)
def qM (p0a:List Bool) (p1left:Int):Option Int:=
 if decide (IntKind.i64.wrap (p1left - (p0a.length:Int))<0) then (some (-1)) else (some (IntKind.i64.wrap (p1left - (p0a.length:Int))))
def jw (p0a:List (List Int)) (s3:Int×Int):Option Yq9:=
 if decide (s3.2<(p0a.length:Int)) then ((aK p0a s3.2).bind fun x3=>(pN x3 s3.1).bind fun r6=>if decide (r6<0) then (some (.ret (-1))) else (some (.nxt (r6,IntKind.i64.wrap (s3.2+1))))) else (some (.brk (s3.1,s3.2)))
def qN (p0a:List (List Int)) (p1left:Int):Option Int:=
 if decide (IntKind.i64.wrap (p1left - (p0a.length:Int))<0) then (some (-1)) else (aH (aq (jw p0a) aS (IntKind.i64.wrap (p1left - (p0a.length:Int)),0)) (fun r=>some r) (fun s4=>some s4.1))
def iA (p0a:Int×(List Bool)×(List (List Int))) (p1left:Int):Option Int:=
 (qM p0a.2.1 p1left).bind fun r1=>if decide (r1<0) then (some (-1)) else ((qN p0a.2.2 r1).bind fun r2=>if decide (r2<0) then (some (-1)) else (some r2))
def eN (p0a:List Yq2) (s3:Int×Int):Option Yq9:=
 if decide (s3.2<(p0a.length:Int)) then ((aK p0a s3.2).bind fun x3=>(iA (x3.1,x3.2.1,x3.2.2) s3.1).bind fun r9=>if decide (r9<0) then (some (.ret (-1))) else (some (.nxt (r9,IntKind.i64.wrap (s3.2+1))))) else (some (.brk (s3.1,s3.2)))
def j7 (p0a:List Yq2) (p1left:Int):Option Int:=
 if decide (IntKind.i64.wrap (p1left - (p0a.length:Int))<0) then (some (-1)) else (aH (aq (eN p0a) aS (IntKind.i64.wrap (p1left - (p0a.length:Int)),0)) (fun r=>some r) (fun s4=>some s4.1))
def oS (p0a:List Yq1) (p1left:Int):Option Int:=
 if decide (IntKind.i64.wrap (p1left - (p0a.length:Int))<0) then (some (-1)) else (some (IntKind.i64.wrap (p1left - (p0a.length:Int))))
def pO (p0a:(List Yq1)) (p1left:Int):Option Int:=
 (oS p0a p1left).bind fun r1=>if decide (r1<0) then (some (-1)) else (some r1)
def gy (p0a:Int×((List Yq1))×Int) (p1left:Int):Option Int:=
 (pO p0a.2.1 p1left).bind fun r1=>if decide (r1<0) then (some (-1)) else (some r1)
def dM (p0a:List Yq3) (s3:Int×Int):Option Yq9:=
 if decide (s3.2<(p0a.length:Int)) then ((aK p0a s3.2).bind fun x3=>(gy (x3.1,x3.2.1,x3.2.2) s3.1).bind fun r6=>if decide (r6<0) then (some (.ret (-1))) else (some (.nxt (r6,IntKind.i64.wrap (s3.2+1))))) else (some (.brk (s3.1,s3.2)))
def je (p0a:List Yq3) (p1left:Int):Option Int:=
 if decide (IntKind.i64.wrap (p1left - (p0a.length:Int))<0) then (some (-1)) else (aH (aq (dM p0a) aS (IntKind.i64.wrap (p1left - (p0a.length:Int)),0)) (fun r=>some r) (fun s4=>some s4.1))
def jx (p0a:(List Yq2)×(List Yq3)) (p1left:Int):Option Int:=
 (j7 p0a.1 p1left).bind fun r1=>if decide (r1<0) then (some (-1)) else ((je p0a.2 r1).bind fun r2=>if decide (r2<0) then (some (-1)) else (some r2))
def jf (p0a:List Yq8) (p1left:Int):Option Int:=
 if decide (IntKind.i64.wrap (p1left - (p0a.length:Int))<0) then (some (-1)) else (some (IntKind.i64.wrap (p1left - (p0a.length:Int))))
def lG (p0a:FK×Yq6×(List Yq8)×ByteArray) (p1left:Int):Option Int:=
 (ko (p0a.1.1,p0a.1.2) p1left).bind fun r1=>if decide (r1<0) then (some (-1)) else ((jx (p0a.2.1.1,p0a.2.1.2) r1).bind fun r2=>if decide (r2<0) then (some (-1)) else ((jf p0a.2.2.1 r2).bind fun r3=>if decide (r3<0) then (some (-1)) else (if decide (IntKind.i64.wrap (r3 - (p0a.2.2.2.size:Int))<0) then (some (-1)) else (some (IntKind.i64.wrap (r3 - (p0a.2.2.2.size:Int)))))))
def bY (p0x:Int) (p1low:Int) (p2high:Int):Option Bool:=
 if decide (p0x≥p1low) then (some (decide (p0x<=p2high))) else (some false)
def za (p0g:(List Int)×(List Yq1)) (p1e:Int×Int×Int×Int):Option Bool:=
 (bY p1e.1 1 99).bind fun r1=>if r1 then ((bY p1e.2.1 0 (IntKind.i64.wrap ((p0g.1.length:Int) - 1))).bind fun r2=>if r2 then ((bY p1e.2.2.1 0 (IntKind.i64.wrap ((p0g.1.length:Int) - 1))).bind fun r3=>if r3 then ((bY p1e.2.2.2 0 2).bind fun r4=>some r4) else (some false)) else (some false)) else (some false)
def kO (p0g:(List Int)×(List Yq1)) (s3:Int):Option (Out Bool Int):=
 if decide (s3<(p0g.1.length:Int)) then ((aK p0g.1 s3).bind fun x3=>(bY x3 0 2).bind fun r3=>if r3 then (some (.nxt (IntKind.i64.wrap (s3+1)))) else (some (.ret false))) else (some (.brk s3))
def gO (p0g:(List Int)×(List Yq1)) (s7:Int):Option (Out Bool Int):=
 if decide (s7<(p0g.2.length:Int)) then ((aK p0g.2 s7).bind fun x10=>(za (p0g.1,p0g.2) (x10.1,x10.2.1,x10.2.2.1,x10.2.2.2)).bind fun r6=>if r6 then (if decide (s7>0) then ((aK p0g.2 (IntKind.i64.wrap (s7 - 1))).bind fun x11=>(aK p0g.2 s7).bind fun x12=>if decide (x11.1≥x12.1) then (some (.ret false)) else (some (.nxt (IntKind.i64.wrap (s7+1))))) else (some (.nxt (IntKind.i64.wrap (s7+1))))) else (some (.ret false))) else (some (.brk s7))
def fa (p0g:(List Int)×(List Yq1)):Option Bool:=
 aH (aq (kO p0g) aS 0) (fun r=>some r) (fun s4=>aH (aq (gO p0g) aS 0) (fun r=>some r) (fun s8=>(bY (p0g.1.length:Int) 1 5).bind fun r7=>if r7 then (some (decide ((p0g.2.length:Int)<=12))) else (some false)))
def lH (p0a:List Int) (p1b:List Int) (s3:Int):Option (Out Int Int):=
 if decide (s3<(p0a.length:Int)) then (if decide (s3<(p1b.length:Int)) then ((aK p0a s3).bind fun x9=>(aK p1b s3).bind fun x10=>if decide (x9<x10) then (some (.ret (-1))) else ((aK p0a s3).bind fun x11=>(aK p1b s3).bind fun x12=>if decide (x11>x12) then (some (.ret 1)) else (some (.nxt (IntKind.i64.wrap (s3+1)))))) else (some (.brk s3))) else (some (.brk s3))
def kP (p0a:List Int) (p1b:List Int):Option Int:=
 aH (aq (lH p0a p1b) aS 0) (fun r=>some r) (fun s4=>if decide ((p0a.length:Int)<(p1b.length:Int)) then (some (-1)) else (if decide ((p0a.length:Int)>(p1b.length:Int)) then (some 1) else (some 0)))
def dw (p0h:Int×(List Yq5)) (s3:Int):Option (Out Bool Int):=
 if decide (s3<(p0h.2.length:Int)) then ((aK p0h.2 s3).bind fun x7=>(fa (x7.1,x7.2)).bind fun r15=>if r15 then ((aK p0h.2 s3).bind fun x8=>(aK p0h.2 0).bind fun x9=>(kP x8.1 x9.1).bind fun r18=>if r18 !=0 then (some (.ret false)) else (some (.nxt (IntKind.i64.wrap (s3+1))))) else (some (.ret false))) else (some (.brk s3))
def m_s_IsValidHistory (p0h:Int×(List Yq5)):Option Bool:=
 aH (aq (dw p0h) aS 0) (fun r=>some r) (fun s4=>(bY (p0h.2.length:Int) 1 8).bind fun r19=>if r19 then ((bY p0h.1 1 (IntKind.i64.wrap ((IntKind.i64.wrap (999 - (p0h.2.length:Int)))+1))).bind fun r20=>some r20) else (some false))
def jR (p0n:Int):Option Bool:=
 (bY p0n 0 8).bind fun r1=>some r1
def kQ (p0:Int×Int×Int×Int):Option Int:=
 Option.bind ((if p0.1==1 then (some (p0.1==1)) else (some (p0.1==2)):Option Bool)) (fun s1=>if s1 then (if p0.2.1 !=0 then (some (-1)) else (if p0.2.2.1 !=0 then (some (-1)) else (if p0.2.2.2 !=0 then (some (-1)) else (some 0)))) else (if p0.1==3 then ((jR p0.2.1).bind fun r3=>if r3 then (if p0.2.2.1 !=0 then (some (-1)) else (if p0.2.2.2 !=0 then (some (-1)) else (some 0))) else (some (-1))) else (Option.bind ((if p0.1==4 then (some (p0.1==4)) else (some (p0.1==5)):Option Bool)) (fun s2=>if s2 then (if p0.2.1 !=0 then (some (-1)) else (if p0.2.2.1 !=0 then (some (-1)) else (if p0.2.2.2 !=0 then (some (-1)) else (some 2)))) else (if p0.1==6 then (if p0.2.1 !=0 then (some (-1)) else (if p0.2.2.1 !=0 then (some (-1)) else (if p0.2.2.2 !=0 then (some (-1)) else (some 1)))) else (if p0.1==7 then (if p0.2.1 !=0 then (some (-1)) else ((bY p0.2.2.2 1 3).bind fun r1=>if r1 then ((bY p0.2.2.1 0 p0.2.2.2).bind fun r2=>if r2 then (some 1) else (some (-1))) else (some (-1)))) else (some (-1))))))))
def np (p0e:(List Yq1)) (s3:Int×Int):Option (Out Bool (Int×Int)):=
 if decide (s3.2<(p0e.length:Int)) then ((aK p0e s3.2).bind fun x3=>(kQ (x3.1,x3.2.1,x3.2.2.1,x3.2.2.2)).bind fun r3=>if decide (r3<0) then (some (.ret false)) else (if decide (r3>s3.1) then (some (.ret false)) else (some (.nxt (IntKind.i64.wrap ((IntKind.i64.wrap (s3.1 - r3))+1),IntKind.i64.wrap (s3.2+1)))))) else (some (.brk (s3.1,s3.2)))
def pP (p0e:(List Yq1)):Option Bool:=
 aH (aq (np p0e) aS (0,0)) (fun r=>some r) (fun s4=>some (s4.1==1))
def iB (p0e:(List Yq1)):Option Bool:=
 if decide ((p0e.length:Int)<=24) then ((pP p0e).bind fun r1=>some r1) else (some false)
def jy (p0l:List Yq1) (s3:Int×Int):Option Yq9:=
 if decide (s3.1>0) then ((aK p0l (IntKind.i64.wrap (s3.2 - 1))).bind fun x3=>(kQ (x3.1,x3.2.1,x3.2.2.1,x3.2.2.2)).bind fun r3=>some (.nxt (IntKind.i64.wrap ((IntKind.i64.wrap (s3.1 - 1))+r3),IntKind.i64.wrap (s3.2 - 1)))) else (some (.brk (s3.1,s3.2)))
def fB (p0l:List Yq1):Option Int:=
 aH (aq (jy p0l) aS (1,(p0l.length:Int))) (fun r=>some r) (fun s4=>some s4.2)
def cY:Nat->(List Yq1)->Option Int
 | 0,_=>none
 | n+1,p0l =>
  (aK p0l (IntKind.i64.wrap ((p0l.length:Int) - 1))).bind fun x0=>Option.bind ((if x0.1==4 then (some (x0.1==4)) else (some (x0.1==5)):Option Bool)) (fun s1=>if s1 then ((chk (And (0<=(IntKind.i64.wrap ((p0l.length:Int) - 1))) ((IntKind.i64.wrap ((p0l.length:Int) - 1))<=(p0l.length:Int)))).bind fun _=>(fB (p0l.take ((IntKind.i64.wrap ((p0l.length:Int) - 1)).toNat))).bind fun r3=>(chk (And (0<=r3) (r3<=(p0l.length:Int)))).bind fun _=>((cY n) (p0l.take r3.toNat)).bind fun r9=>(chk (And (0<=r3) (And (r3<=(IntKind.i64.wrap ((p0l.length:Int) - 1))) ((IntKind.i64.wrap ((p0l.length:Int) - 1))<=(p0l.length:Int))))).bind fun _=>((cY n) ((p0l.take ((IntKind.i64.wrap ((p0l.length:Int) - 1)).toNat)).drop r3.toNat)).bind fun r11=>some (Min.min 100000 (IntKind.i64.wrap ((IntKind.i64.wrap (r9+r11))+1)))) else (if x0.1==6 then ((chk (And (0<=(IntKind.i64.wrap ((p0l.length:Int) - 1))) ((IntKind.i64.wrap ((p0l.length:Int) - 1))<=(p0l.length:Int)))).bind fun _=>((cY n) (p0l.take ((IntKind.i64.wrap ((p0l.length:Int) - 1)).toNat))).bind fun r13=>some (Min.min 100000 (IntKind.i64.wrap (r13+1)))) else (if x0.1==7 then ((chk (And (0<=(IntKind.i64.wrap ((p0l.length:Int) - 1))) ((IntKind.i64.wrap ((p0l.length:Int) - 1))<=(p0l.length:Int)))).bind fun _=>((cY n) (p0l.take ((IntKind.i64.wrap ((p0l.length:Int) - 1)).toNat))).bind fun r17=>some (Min.min 100000 (IntKind.i64.wrap ((IntKind.i64.wrap ((IntKind.i64.wrap (r17+3))*x0.2.2.2))+1)))) else (some 1))))
def jg (p0l:List Yq1):Option (List Yq1):=
 (cS 32 ([] :List Yq1) p0l).bind fun z1=>some z1
def jh (p0a:(List Yq1)) (p1b:(List Yq1)) (p2t:Int×Int×Int×Int):Option (List Yq1):=
 (jg p0a).bind fun r1=>(cS 32 r1 p1b).bind fun z1=>(cS 32 z1 ([(p2t.1,p2t.2.1,p2t.2.2.1,p2t.2.2.2)])).bind fun z2=>some z2
def mw (p0kind:Int):Option (List Yq1):=
 some ([(p0kind,0,0,0)])
def gR:Nat->(List Yq1)->Int->Int->Option (List Yq1)
 | 0,_,_,_=>none
 | n+1,p0e,p1low,p2high =>
  if p2high==0 then ((mw 2).bind fun r0=>some r0) else (((gR n) p0e (Max.max 0 (IntKind.i64.wrap (p1low - 1))) (IntKind.i64.wrap (p2high - 1))).bind fun r3=>(jh p0e r3 (4,0,0,0)).bind fun r4=>if decide (p1low>0) then (some r4) else ((mw 2).bind fun r7=>(jh r4 r7 (5,0,0,0)).bind fun r8=>some r8))
def b9:Nat->(List Yq1)->Option (List Yq1)
 | 0,_=>none
 | n+1,p0l =>
  (aK p0l (IntKind.i64.wrap ((p0l.length:Int) - 1))).bind fun x0=>Option.bind ((if x0.1==4 then (some (x0.1==4)) else (some (x0.1==5)):Option Bool)) (fun s1=>if s1 then ((chk (And (0<=(IntKind.i64.wrap ((p0l.length:Int) - 1))) ((IntKind.i64.wrap ((p0l.length:Int) - 1))<=(p0l.length:Int)))).bind fun _=>(fB (p0l.take ((IntKind.i64.wrap ((p0l.length:Int) - 1)).toNat))).bind fun r3=>(chk (And (0<=r3) (r3<=(p0l.length:Int)))).bind fun _=>((b9 n) (p0l.take r3.toNat)).bind fun r10=>(chk (And (0<=r3) (And (r3<=(IntKind.i64.wrap ((p0l.length:Int) - 1))) ((IntKind.i64.wrap ((p0l.length:Int) - 1))<=(p0l.length:Int))))).bind fun _=>((b9 n) ((p0l.take ((IntKind.i64.wrap ((p0l.length:Int) - 1)).toNat)).drop r3.toNat)).bind fun r12=>(jh r10 r12 (x0.1,x0.2.1,x0.2.2.1,x0.2.2.2)).bind fun r13=>some r13) else (if x0.1==6 then ((chk (And (0<=(IntKind.i64.wrap ((p0l.length:Int) - 1))) ((IntKind.i64.wrap ((p0l.length:Int) - 1))<=(p0l.length:Int)))).bind fun _=>((b9 n) (p0l.take ((IntKind.i64.wrap ((p0l.length:Int) - 1)).toNat))).bind fun r18=>(jh r18 ([] :List Yq1) (x0.1,x0.2.1,x0.2.2.1,x0.2.2.2)).bind fun r19=>some r19) else (if x0.1==7 then ((chk (And (0<=(IntKind.i64.wrap ((p0l.length:Int) - 1))) ((IntKind.i64.wrap ((p0l.length:Int) - 1))<=(p0l.length:Int)))).bind fun _=>((b9 n) (p0l.take ((IntKind.i64.wrap ((p0l.length:Int) - 1)).toNat))).bind fun r24=>(gR e7 r24 x0.2.2.1 x0.2.2.2).bind fun r25=>some r25) else (some ([(x0.1,x0.2.1,x0.2.2.1,x0.2.2.2)])))))
def jz (p0e:(List Yq1)):Option (((List Yq1))×Bool):=
 (iB p0e).bind fun r1=>if r1 then ((cY e7 p0e).bind fun r2=>if decide (r2>5000) then (some ([],false)) else ((b9 e7 p0e).bind fun r3=>if decide ((r3.length:Int)>400) then (some ([],false)) else (some (r3,true)))) else (some ([],false))
def gl (p1from:Int) (p2to:Int) (s2:Int×List Int):Option (Out Yq7 (Int×List Int)):=
 if decide (s2.1<(s2.2.length:Int)) then (Option.bind (((chk (0<=s2.1)).bind fun _=>if (vD (qd p1from s2.1) 1)==1 then ((aK s2.2 s2.1).bind fun x6=>(aK s2.2 s2.1).bind fun x7=>some (s2.2.set s2.1.toNat (orI x6 p2to))) else (some s2.2):Option (List Int))) (fun s8=>some (.nxt (IntKind.i64.wrap (s2.1+1),s8)))) else (some (.brk (s2.1,s2.2)))
def kR (p0p:(List Int)×Int×Int×(List Int)×Bool) (p1from:Int) (p2to:Int):Option Yq7:=
 aH (aq (gl p1from p2to) aS (0,p0p.2.2.2.1)) (fun r9=>some r9) (fun s10=>some (p0p.1,p0p.2.1,p0p.2.2.1,s10.2,p0p.2.2.2.2))
def cA:Nat->Yq7->(List Yq1)->Option ((Bool×Int×Int)×(List Int)×Int×Int×(List Int)×Bool)
 | 0,_,_=>none
 | n+1,p0,p1 =>
  (aK p1 (IntKind.i64.wrap ((p1.length:Int) - 1))).bind fun x0=>if x0.1==2 then (some ((true,0,0),p0.1,p0.2.1,p0.2.2.1,p0.2.2.2.1,p0.2.2.2.2)) else (if x0.1==3 then ((cS 8 p0.1 ([x0.2.1])).bind fun z2=>(cS 8 p0.2.2.2.1 ([0])).bind fun z3=>some ((false,EH 1 (p0.1.length:Int),EH 1 (p0.1.length:Int)),z2,p0.2.1,p0.2.2.1,z3,p0.2.2.2.2)) else (if x0.1==4 then ((chk (And (0<=(IntKind.i64.wrap ((p1.length:Int) - 1))) ((IntKind.i64.wrap ((p1.length:Int) - 1))<=(p1.length:Int)))).bind fun _=>(fB (p1.take ((IntKind.i64.wrap ((p1.length:Int) - 1)).toNat))).bind fun r5=>(chk (And (0<=r5) (r5<=(p1.length:Int)))).bind fun _=>((cA n) (p0.1,p0.2.1,p0.2.2.1,p0.2.2.2.1,p0.2.2.2.2) (p1.take r5.toNat)).bind fun r7=>(chk (And (0<=r5) (And (r5<=(IntKind.i64.wrap ((p1.length:Int) - 1))) ((IntKind.i64.wrap ((p1.length:Int) - 1))<=(p1.length:Int))))).bind fun _=>((cA n) (r7.2.1,r7.2.2.1,r7.2.2.2.1,r7.2.2.2.2.1,r7.2.2.2.2.2) ((p1.take ((IntKind.i64.wrap ((p1.length:Int) - 1)).toNat)).drop r5.toNat)).bind fun r9=>(kR (r9.2.1,r9.2.2.1,r9.2.2.2.1,r9.2.2.2.2.1,r9.2.2.2.2.2) r7.1.2.2 r9.1.2.1).bind fun r10=>if r7.1.1 then (Option.bind ((if r7.1.1 then (some (r9.1.1,orI r7.1.2.1 r9.1.2.1,r9.1.2.2)) else (some (r9.1.1,r7.1.2.1,r9.1.2.2)):Option (Bool×Int×Int))) (fun s11=>Option.bind ((if r9.1.1 then (some (s11.1,s11.2.1,orI r7.1.2.2 r9.1.2.2)) else (some (s11.1,s11.2.1,s11.2.2)):Option (Bool×Int×Int))) (fun s12=>some ((s12.1,s12.2.1,s12.2.2),r10.1,r10.2.1,r10.2.2.1,r10.2.2.2.1,r10.2.2.2.2)))) else (Option.bind ((if r7.1.1 then (some (false,orI r7.1.2.1 r9.1.2.1,r9.1.2.2)) else (some (false,r7.1.2.1,r9.1.2.2)):Option (Bool×Int×Int))) (fun s13=>Option.bind ((if r9.1.1 then (some (s13.1,s13.2.1,orI r7.1.2.2 r9.1.2.2)) else (some (s13.1,s13.2.1,s13.2.2)):Option (Bool×Int×Int))) (fun s14=>some ((s14.1,s14.2.1,s14.2.2),r10.1,r10.2.1,r10.2.2.1,r10.2.2.2.1,r10.2.2.2.2))))) else (if x0.1==5 then ((chk (And (0<=(IntKind.i64.wrap ((p1.length:Int) - 1))) ((IntKind.i64.wrap ((p1.length:Int) - 1))<=(p1.length:Int)))).bind fun _=>(fB (p1.take ((IntKind.i64.wrap ((p1.length:Int) - 1)).toNat))).bind fun r16=>(chk (And (0<=r16) (r16<=(p1.length:Int)))).bind fun _=>((cA n) (p0.1,p0.2.1,p0.2.2.1,p0.2.2.2.1,p0.2.2.2.2) (p1.take r16.toNat)).bind fun r18=>(chk (And (0<=r16) (And (r16<=(IntKind.i64.wrap ((p1.length:Int) - 1))) ((IntKind.i64.wrap ((p1.length:Int) - 1))<=(p1.length:Int))))).bind fun _=>((cA n) (r18.2.1,r18.2.2.1,r18.2.2.2.1,r18.2.2.2.2.1,r18.2.2.2.2.2) ((p1.take ((IntKind.i64.wrap ((p1.length:Int) - 1)).toNat)).drop r16.toNat)).bind fun r20=>if r18.1.1 then (some ((true,orI r18.1.2.1 r20.1.2.1,orI r18.1.2.2 r20.1.2.2),r20.2.1,r20.2.2.1,r20.2.2.2.1,r20.2.2.2.2.1,r20.2.2.2.2.2)) else (some ((r20.1.1,orI r18.1.2.1 r20.1.2.1,orI r18.1.2.2 r20.1.2.2),r20.2.1,r20.2.2.1,r20.2.2.2.1,r20.2.2.2.2.1,r20.2.2.2.2.2))) else (if x0.1==6 then ((chk (And (0<=(IntKind.i64.wrap ((p1.length:Int) - 1))) ((IntKind.i64.wrap ((p1.length:Int) - 1))<=(p1.length:Int)))).bind fun _=>((cA n) (p0.1,p0.2.1,p0.2.2.1,p0.2.2.2.1,p0.2.2.2.2) (p1.take ((IntKind.i64.wrap ((p1.length:Int) - 1)).toNat))).bind fun r22=>(kR (r22.2.1,r22.2.2.1,r22.2.2.2.1,r22.2.2.2.2.1,r22.2.2.2.2.2) r22.1.2.2 r22.1.2.1).bind fun r23=>some ((true,r22.1.2.1,r22.1.2.2),r23.1,r23.2.1,r23.2.2.1,r23.2.2.2.1,r23.2.2.2.2)) else (some ((false,0,0),p0.1,p0.2.1,p0.2.2.1,p0.2.2.2.1,p0.2.2.2.2))))))
def cB (r0:(List Yq1)×Bool) (s2:Int×Int):Option (Out (Yq7×Bool) (Int×Int)):=
 if decide (s2.2<(r0.1.length:Int)) then (Option.bind (((aK r0.1 s2.2).bind fun x3=>if x3.1==3 then (some (IntKind.i64.wrap (s2.1+1))) else (some s2.1):Option Int)) (fun s4=>some (.nxt (s4,IntKind.i64.wrap (s2.2+1))))) else (some (.brk (s2.1,s2.2)))
def fo (p0e:List Yq1):Option (Yq7×Bool):=
 (jz p0e).bind fun r0=>if r0.2 then (aH (aq (cB r0) aS (0,0)) (fun r5=>some r5) (fun s6=>if decide (s6.1>20) then (some ((([] :List Int),0,0,([] :List Int),false),false)) else ((cA e7 (([] :List Int),0,0,([] :List Int),false) r0.1).bind fun r7=>some ((r7.2.1,r7.1.2.1,r7.1.2.2,r7.2.2.2.2.1,r7.1.1),true)))) else (some ((([] :List Int),0,0,([] :List Int),false),false))
def fC (p0p:(List Int)×Int×Int×(List Int)×Bool) (p1set:Int) (s6:Int×Int):Option Yq9:=
 if decide (s6.2<(p0p.1.length:Int)) then (Option.bind (((chk (0<=IntKind.i64.wrap (s6.2+1))).bind fun _=>if (vD (qd p1set (IntKind.i64.wrap (s6.2+1))) 1)==1 then ((aK p0p.2.2.2.1 s6.2).bind fun x6=>some (orI s6.1 x6)) else (some s6.1):Option Int)) (fun s8=>some (.nxt (s8,IntKind.i64.wrap (s6.2+1))))) else (some (.brk (s6.1,s6.2)))
def fD (p0p:(List Int)×Int×Int×(List Int)×Bool) (p2letter:Int) (s7:Int×Int) (s13:Int×Int):Option Yq9:=
 if decide (s13.2<(p0p.1.length:Int)) then (Option.bind (((chk (0<=s13.2)).bind fun _=>if (vD (qd s7.1 s13.2) 1)==1 then ((aK p0p.1 s13.2).bind fun x12=>if x12==p2letter then ((chk (0<=IntKind.i64.wrap (s13.2+1))).bind fun _=>some (orI s13.1 (EH 1 (IntKind.i64.wrap (s13.2+1))))) else (some s13.1)) else (some s13.1):Option Int)) (fun s15=>some (.nxt (s15,IntKind.i64.wrap (s13.2+1))))) else (some (.brk (s13.1,s13.2)))
def lI (p0p:(List Int)×Int×Int×(List Int)×Bool) (p1set:Int) (p2letter:Int):Option Int:=
 Option.bind ((if (vD p1set 1)==1 then (some p0p.2.1) else (some 0):Option Int)) (fun s1=>aH (aq (fC p0p p1set) aS (s1,0)) (fun r=>some r) (fun s7=>aH (aq (fD p0p p2letter s7) aS (0,0)) (fun r=>some r) (fun s14=>some s14.1)))
def l9 (p0l:List Int) (p1x:Int) (s3:Int):Option (Out Int Int):=
 if decide (s3<(p0l.length:Int)) then ((aK p0l s3).bind fun x3=>if x3==p1x then (some (.ret s3)) else (some (.nxt (IntKind.i64.wrap (s3+1))))) else (some (.brk s3))
def kS (p0l:List Int) (p1x:Int):Option Int:=
 aH (aq (l9 p0l p1x) aS 0) (fun r=>some r) (fun s4=>some (-1))
def jA (p0p:(List Int)×Int×Int×(List Int)×Bool) (p1set:Int):Option Bool:=
 if (vD p1set 1)==1 then (if p0p.2.2.2.2 then (some true) else (some ((vD (qd p1set 1) p0p.2.2.1) !=0))) else (some ((vD (qd p1set 1) p0p.2.2.1) !=0))
def dX (p0:(List Int)×Int×Int×(List Int)×Bool) (s17:(List Int)×Int×Int×(List Bool)×(List (List Int))) (s23:(List Int)×(List Int)×Int):Option (Out (Yq2×Bool) ((List Int)×(List Int)×Int)):=
 if decide (s23.2.2<9) then ((aK s23.1 s17.2.1).bind fun x11=>(lI (p0.1,p0.2.1,p0.2.2.1,p0.2.2.2.1,p0.2.2.2.2) x11 s23.2.2).bind fun r27=>Option.bind ((if r27 !=0 then ((kS s23.1 r27).bind fun r29=>if decide (r29<0) then ((cS 8 s23.1 ([r27])).bind fun z30=>some (z30,(s23.1.length:Int))) else (some (s23.1,r29))) else (some (s23.1,-1)):Option ((List Int)×Int))) (fun s25=>(cS 8 s23.2.1 ([s25.2])).bind fun z31=>some (.nxt (s25.1,z31,IntKind.i64.wrap (s23.2.2+1))))) else (some (.brk (s23.1,s23.2.1,s23.2.2)))
def dY (p0:(List Int)×Int×Int×(List Int)×Bool) (p1:Int) (s17:(List Int)×Int×Int×(List Bool)×(List (List Int))):Option (Out (Yq2×Bool) ((List Int)×Int×Int×(List Bool)×(List (List Int)))):=
 if decide (s17.2.1<(s17.1.length:Int)) then (aH (aq (dX p0 s17) aS (s17.1,([] :List Int),0)) (fun r=>some (.ret r)) (fun s24=>if decide ((s24.1.length:Int)>p1) then (some (.ret ((0,[],[]),false))) else ((aK s24.1 s17.2.1).bind fun x12=>(jA (p0.1,p0.2.1,p0.2.2.1,p0.2.2.2.1,p0.2.2.2.2) x12).bind fun r30=>(cS 1 s17.2.2.2.1 ([r30])).bind fun z32=>(cS 24 s17.2.2.2.2 ([s24.2.1])).bind fun z33=>some (.nxt (s24.1,IntKind.i64.wrap (s17.2.1+1),s17.2.2.1,z32,z33))))) else (some (.brk (s17.1,s17.2.1,s17.2.2.1,s17.2.2.2.1,s17.2.2.2.2)))
def gm (p0:(List Int)×Int×Int×(List Int)×Bool) (p1:Int):Option (Yq2×Bool):=
 aH (aq (dY p0 p1) aS ([1],0,0,[],[])) (fun r=>some r) (fun s18=>some ((s18.2.2.1,s18.2.2.2.1,s18.2.2.2.2),true))
def ta (s3:(List Int)×Int):Option (Out Yq2 ((List Int)×Int)):=
 if decide (s3.2<9) then ((cS 8 s3.1 ([-1])).bind fun z3=>some (.nxt (z3,IntKind.i64.wrap (s3.2+1)))) else (some (.brk (s3.1,s3.2)))
def ma:Option Yq2:=
 aH (aq (ta) aS (([] :List Int),0)) (fun r=>some r) (fun s4=>some (0,[false],[s4.1]))
def fb (p0:Int×(List Bool)×(List (List Int))) (p1:List Int) (p2:List Bool) (s17:(List Int)×(List Int)×Int×Int×(List Bool)×(List (List Int))) (s23:(List Int)×(List Int)×(List Int)×Int):Option (Out Yq2 ((List Int)×(List Int)×(List Int)×Int)):=
 if decide (s23.2.2.2<9) then ((aK s23.2.1 s17.2.2.1).bind fun x79=>(aK p0.2.2 x79).bind fun x80=>(aK x80 s23.2.2.2).bind fun x81=>Option.bind ((if decide (x81≥0) then ((aK p2 x81).bind fun x85=>if x85 then ((aK p1 x81).bind fun x86=>(kS s23.1 x86).bind fun r28=>if decide (r28<0) then ((aK p1 x81).bind fun x87=>(cS 8 s23.1 ([x87])).bind fun z47=>(cS 8 s23.2.1 ([x81])).bind fun z48=>some (z47,z48,(s23.1.length:Int))) else (some (s23.1,s23.2.1,r28))) else (some (s23.1,s23.2.1,-1))) else (some (s23.1,s23.2.1,-1)):Option ((List Int)×(List Int)×Int))) (fun s25=>(cS 8 s23.2.2.1 ([s25.2.2])).bind fun z49=>some (.nxt (s25.1,s25.2.1,z49,IntKind.i64.wrap (s23.2.2.2+1))))) else (some (.brk (s23.1,s23.2.1,s23.2.2.1,s23.2.2.2)))
def gz (p0:Int×(List Bool)×(List (List Int))) (p1:List Int) (p2:List Bool) (s17:(List Int)×(List Int)×Int×Int×(List Bool)×(List (List Int))):Option (Out Yq2 ((List Int)×(List Int)×Int×Int×(List Bool)×(List (List Int)))):=
 if decide (s17.2.2.1<(s17.1.length:Int)) then (aH (aq (fb p0 p1 p2 s17) aS (s17.1,s17.2.1,([] :List Int),0)) (fun r=>some (.ret r)) (fun s24=>(aK s24.2.1 s17.2.2.1).bind fun x88=>(aK p0.2.1 x88).bind fun x89=>(cS 1 s17.2.2.2.2.1 ([x89])).bind fun z50=>(cS 24 s17.2.2.2.2.2 ([s24.2.2.1])).bind fun z51=>some (.nxt (s24.1,s24.2.1,IntKind.i64.wrap (s17.2.2.1+1),s17.2.2.2.1,z50,z51)))) else (some (.brk (s17.1,s17.2.1,s17.2.2.1,s17.2.2.2.1,s17.2.2.2.2.1,s17.2.2.2.2.2)))
def fV (p0:Int×(List Bool)×(List (List Int))) (p1:List Int) (p2:List Bool):Option Yq2:=
 (aK p2 p0.1).bind fun x1=>if x1 then ((aK p1 p0.1).bind fun x2=>aH (aq (gz p0 p1 p2) aS ([x2],[p0.1],0,0,[],[])) (fun r=>some r) (fun s18=>some (s18.2.2.2.1,s18.2.2.2.2.1,s18.2.2.2.2.2))) else ((ma).bind fun r1=>some (r1.1,r1.2.1,r1.2.2))
def gp (p0a:Int×(List Bool)×(List (List Int))) (s71:(List Bool)×Int) (s77:(List Bool)×Int):Option (Out (List Bool) ((List Bool)×Int)):=
 if decide (s77.2<9) then (Option.bind (((aK p0a.2.2 s71.2).bind fun x319=>(aK x319 s77.2).bind fun x320=>if decide (x320≥0) then ((aK p0a.2.2 s71.2).bind fun x321=>(aK x321 s77.2).bind fun x322=>(aK s77.1 x322).bind fun x323=>if x323 then ((aK s77.1 s71.2).bind fun x324=>some (s77.1.set s71.2.toNat true)) else (some s77.1)) else (some s77.1):Option (List Bool))) (fun s79=>some (.nxt (s79,IntKind.i64.wrap (s77.2+1))))) else (some (.brk (s77.1,s77.2)))
def gq (p0a:Int×(List Bool)×(List (List Int))) (s71:(List Bool)×Int):Option (Out (List Bool) ((List Bool)×Int)):=
 if decide (s71.2<(p0a.2.1.length:Int)) then (aH (aq (gp p0a s71) aS (s71.1,0)) (fun r=>some (.ret r)) (fun s78=>some (.nxt (s78.1,IntKind.i64.wrap (s71.2+1))))) else (some (.brk (s71.1,s71.2)))
def jB (p0a:Int×(List Bool)×(List (List Int))) (s53:(List Bool)×Int):Option (Out (List Bool) ((List Bool)×Int)):=
 if decide (s53.2<(p0a.2.1.length:Int)) then (aH (aq (gq p0a) aS (s53.1,0)) (fun r=>some (.ret r)) (fun s72=>some (.nxt (s72.1,IntKind.i64.wrap (s53.2+1))))) else (some (.brk (s53.1,s53.2)))
def ji (p0a:Int×(List Bool)×(List (List Int))):Option (List Bool):=
 (cS 1 ([] :List Bool) p0a.2.1).bind fun z1=>aH (aq (jB p0a) aS (z1,0)) (fun r=>some r) (fun s54=>some s54.1)
def kp (p0a:Int×(List Bool)×(List (List Int))) (p1classes:List Int) (p2s:Int) (s5:(List Int)×Int):Option (Out (List Int) ((List Int)×Int)):=
 if decide (s5.2<9) then (Option.bind (((aK p0a.2.2 p2s).bind fun x17=>(aK x17 s5.2).bind fun x18=>if decide (x18<0) then ((cS 8 s5.1 ([-1])).bind fun z12=>some z12) else ((aK p1classes x18).bind fun x19=>(cS 8 s5.1 ([x19])).bind fun z11=>some z11):Option (List Int))) (fun s7=>some (.nxt (s7,IntKind.i64.wrap (s5.2+1))))) else (some (.brk (s5.1,s5.2)))
def my (p0a:Int×(List Bool)×(List (List Int))) (p1classes:List Int) (p2s:Int):Option (List Int):=
 (aK p1classes p2s).bind fun x1=>aH (aq (kp p0a p1classes p2s) aS ([x1],0)) (fun r=>some r) (fun s6=>some s6.1)
def dZ (p0:Int×(List Bool)×List (List Int)) (r0:List Bool) (s2:(List Int)×Int):Option (Out (List Int) ((List Int)×Int)):=
 if decide (s2.2<(p0.2.1.length:Int)) then ((aK p0.2.1 s2.2).bind fun x3=>Option.bind ((if x3 then (some 1) else (some 0):Option Int)) (fun s4=>(aK r0 s2.2).bind fun x5=>Option.bind ((if x5 then (some s4) else (some (-1)):Option Int)) (fun s6=>(cS 8 s2.1 ([s6])).bind fun z7=>some (.nxt (z7,IntKind.i64.wrap (s2.2+1)))))) else (some (.brk (s2.1,s2.2)))
def ep (s13:(List (List Int))×(List Int)×Int) (r16:List Int) (s18:Int×Int):Option (Out (List Int) (Int×Int)):=
 if decide (s18.2<(s13.1.length:Int)) then (Option.bind (((aK s13.1 s18.2).bind fun x19=>(kP x19 r16).bind fun r20=>if r20==0 then (some s18.2) else (some s18.1):Option Int)) (fun s21=>some (.nxt (s21,IntKind.i64.wrap (s18.2+1))))) else (some (.brk (s18.1,s18.2)))
def eu (p0:Int×(List Bool)×List (List Int)) (s11:(List Int)×Int) (s13:(List (List Int))×(List Int)×Int):Option (Out (List Int) ((List (List Int))×(List Int)×Int)):=
 if decide (s13.2.2<(p0.2.1.length:Int)) then (Option.bind (((aK s11.1 s13.2.2).bind fun x14=>if decide (x14<0) then ((cS 8 s13.2.1 ([(-1)])).bind fun z15=>some (s13.1,z15)) else ((my (p0.1,p0.2.1,p0.2.2) s11.1 s13.2.2).bind fun r16=>aH (aq (ep s13 r16) aS ((-1),0)) (fun r22=>none) (fun s23=>Option.bind ((if decide (s23.1<0) then ((cS 24 s13.1 ([r16])).bind fun z24=>some (z24,(s13.1.length:Int))) else (some (s13.1,s23.1)):Option ((List (List Int))×Int))) (fun s25=>(cS 8 s13.2.1 ([s25.2])).bind fun z26=>some (s25.1,z26)))):Option ((List (List Int))×List Int))) (fun s27=>some (.nxt (s27.1,s27.2,IntKind.i64.wrap (s13.2.2+1))))) else (some (.brk (s13.1,s13.2.1,s13.2.2)))
def jj (p0:Int×(List Bool)×List (List Int)) (s11:(List Int)×Int):Option (Out (List Int) ((List Int)×Int)):=
 if decide (s11.2<=(p0.2.1.length:Int)) then (aH (aq (eu p0 s11) aS (([] :List (List Int)),([] :List Int),0)) (fun r28=>some (.ret r28)) (fun s29=>(kP s29.2.1 s11.1).bind fun r30=>if r30==0 then (some (.ret s11.1)) else (some (.nxt (s29.2.1,IntKind.i64.wrap (s11.2+1)))))) else (some (.brk (s11.1,s11.2)))
def gr (p0:Int×(List Bool)×List (List Int)):Option (List Int):=
 (ji (p0.1,p0.2.1,p0.2.2)).bind fun r0=>aH (aq (dZ p0 r0) aS (([] :List Int),0)) (fun r8=>some r8) (fun s9=>aH (aq (jj p0) aS (s9.1,0)) (fun r31=>some r31) (fun s32=>some s32.1))
def fE (p0a:Int×(List Bool)×(List (List Int))):Option Yq2:=
 (gr (p0a.1,p0a.2.1,p0a.2.2)).bind fun r1=>(ji (p0a.1,p0a.2.1,p0a.2.2)).bind fun r2=>(fV (p0a.1,p0a.2.1,p0a.2.2) r1 r2).bind fun r3=>some (r3.1,r3.2.1,r3.2.2)
def fF (p0e:(List Yq1)):Option (Yq2×Bool):=
 (fo p0e).bind fun r1=>if r1.2 then ((gm (r1.1.1,r1.1.2.1,r1.1.2.2.1,r1.1.2.2.2.1,r1.1.2.2.2.2) 200).bind fun r2=>if r2.2 then ((fE (r2.1.1,r2.1.2.1,r2.1.2.2)).bind fun r3=>if decide ((r3.2.1.length:Int)>12) then (some ((0,[],[]),false)) else (some ((r3.1,r3.2.1,r3.2.2),true))) else (some ((0,[],[]),false))) else (some ((0,[],[]),false))
def dN (p0:Int×(List Bool)×(List (List Int))) (p1:Int×(List Bool)×(List (List Int))) (s3:Int):Option (Out Bool Int):=
 if decide (s3<(p0.2.1.length:Int)) then ((aK p0.2.1 s3).bind fun x5=>(aK p1.2.1 s3).bind fun x6=>if x5 !=x6 then (some (.ret false)) else (some (.nxt (IntKind.i64.wrap (s3+1))))) else (some (.brk s3))
def dO (p0:Int×(List Bool)×(List (List Int))) (p1:Int×(List Bool)×(List (List Int))) (s7:Int):Option (Out Bool Int):=
 if decide (s7<(p0.2.2.length:Int)) then ((aK p0.2.2 s7).bind fun x11=>(aK p1.2.2 s7).bind fun x12=>(kP x11 x12).bind fun r9=>if r9 !=0 then (some (.ret false)) else (some (.nxt (IntKind.i64.wrap (s7+1))))) else (some (.brk s7))
def ez (p0:Int×(List Bool)×(List (List Int))) (p1:Int×(List Bool)×(List (List Int))):Option Bool:=
 if p0.1 !=p1.1 then (some false) else (if (p0.2.1.length:Int) !=(p1.2.1.length:Int) then (some false) else (if (p0.2.2.length:Int) !=(p1.2.2.length:Int) then (some false) else (aH (aq (dN p0 p1) aS 0) (fun r=>some r) (fun s4=>aH (aq (dO p0 p1) aS 0) (fun r=>some r) (fun s8=>some true)))))
def fG (p0l:List Yq2) (p1a:Int×(List Bool)×(List (List Int))) (s3:Int):Option (Out Int Int):=
 if decide (s3<(p0l.length:Int)) then ((aK p0l s3).bind fun x3=>(ez (x3.1,x3.2.1,x3.2.2) (p1a.1,p1a.2.1,p1a.2.2)).bind fun r9=>if r9 then (some (.ret s3)) else (some (.nxt (IntKind.i64.wrap (s3+1))))) else (some (.brk s3))
def jS (p0l:List Yq2) (p1a:Int×(List Bool)×(List (List Int))):Option Int:=
 aH (aq (fG p0l p1a) aS 0) (fun r=>some r) (fun s4=>some (-1))
def cC (p0:List Yq3) (s7:Int×(List Yq2)×(List Yq3)):Option (Out (Yq6×Bool) (Int×(List Yq2)×(List Yq3))):=
 if decide (s7.1<(p0.length:Int)) then ((aK p0 s7.1).bind fun x17=>(fF x17.2.1).bind fun r20=>if r20.2 then ((aK p0 s7.1).bind fun x18=>(bY x18.1 1 99).bind fun r21=>if r21 then (if decide (s7.1>0) then ((aK p0 (IntKind.i64.wrap (s7.1 - 1))).bind fun x21=>(aK p0 s7.1).bind fun x22=>if decide (x21.1≥x22.1) then (some (.ret (([],[]),false))) else ((jS s7.2.1 (r20.1.1,r20.1.2.1,r20.1.2.2)).bind fun r25=>Option.bind ((if decide (r25<0) then ((cS 56 s7.2.1 ([(r20.1.1,r20.1.2.1,r20.1.2.2)])).bind fun z17=>some ((s7.2.1.length:Int),z17,s7.2.2)) else (some (r25,s7.2.1,s7.2.2)):Option (Int×(List Yq2)×(List Yq3)))) (fun s10=>(aK p0 s7.1).bind fun x23=>(aK p0 s7.1).bind fun x24=>(jg x24.2.1).bind fun r27=>(cS 40 s10.2.2 ([(x23.1,r27,s10.1)])).bind fun z18=>some (.nxt (IntKind.i64.wrap (s7.1+1),s10.2.1,z18))))) else ((jS s7.2.1 (r20.1.1,r20.1.2.1,r20.1.2.2)).bind fun r22=>Option.bind ((if decide (r22<0) then ((cS 56 s7.2.1 ([(r20.1.1,r20.1.2.1,r20.1.2.2)])).bind fun z14=>some ((s7.2.1.length:Int),z14,s7.2.2)) else (some (r22,s7.2.1,s7.2.2)):Option (Int×(List Yq2)×(List Yq3)))) (fun s9=>(aK p0 s7.1).bind fun x19=>(aK p0 s7.1).bind fun x20=>(jg x20.2.1).bind fun r24=>(cS 40 s9.2.2 ([(x19.1,r24,s9.1)])).bind fun z15=>some (.nxt (IntKind.i64.wrap (s7.1+1),s9.2.1,z15))))) else (some (.ret (([],[]),false)))) else (some (.ret (([],[]),false)))) else (some (.brk (s7.1,s7.2.1,s7.2.2)))
def lJ (p0:List Yq3):Option (Yq6×Bool):=
 if decide ((p0.length:Int)>4) then (some (([],[]),false)) else (aH (aq (cC p0) aS (0,[],[])) (fun r=>some r) (fun s8=>some ((s8.2.1,s8.2.2),true)))
def fW (p0a:(List Yq1)) (p1b:(List Yq1)) (s3:Int):Option (Out Bool Int):=
 if decide (s3<(p0a.length:Int)) then ((aK p0a s3).bind fun x5=>(aK p1b s3).bind fun x6=>if (x5.1==x6.1)&&((x5.2.1==x6.2.1)&&((x5.2.2.1==x6.2.2.1)&&((x5.2.2.2==x6.2.2.2)&&true))) then (some (.nxt (IntKind.i64.wrap (s3+1)))) else (some (.ret false))) else (some (.brk s3))
def jC (p0a:(List Yq1)) (p1b:(List Yq1)):Option Bool:=
 if (p0a.length:Int) !=(p1b.length:Int) then (some false) else (aH (aq (fW p0a p1b) aS 0) (fun r=>some r) (fun s4=>some true))
def de (p0:(List Yq2)×(List Yq3)) (p1:(List Yq2)×(List Yq3)) (s3:Int):Option (Out Bool Int):=
 if decide (s3<(p0.1.length:Int)) then ((aK p0.1 s3).bind fun x5=>(aK p1.1 s3).bind fun x6=>(ez (x5.1,x5.2.1,x5.2.2) (x6.1,x6.2.1,x6.2.2)).bind fun r15=>if r15 then (some (.nxt (IntKind.i64.wrap (s3+1)))) else (some (.ret false))) else (some (.brk s3))
def df (p0:(List Yq2)×(List Yq3)) (p1:(List Yq2)×(List Yq3)) (s7:Int):Option (Out Bool Int):=
 if decide (s7<(p0.2.length:Int)) then ((aK p0.2 s7).bind fun x19=>(aK p1.2 s7).bind fun x20=>if x19.1 !=x20.1 then (some (.ret false)) else ((aK p0.2 s7).bind fun x21=>(aK p1.2 s7).bind fun x22=>(jC x21.2.1 x22.2.1).bind fun r24=>if r24 then ((aK p0.2 s7).bind fun x23=>(aK p1.2 s7).bind fun x24=>if x23.2.2 !=x24.2.2 then (some (.ret false)) else (some (.nxt (IntKind.i64.wrap (s7+1))))) else (some (.ret false)))) else (some (.brk s7))
def eO (p0:(List Yq2)×(List Yq3)) (p1:(List Yq2)×(List Yq3)):Option Bool:=
 if (p0.1.length:Int) !=(p1.1.length:Int) then (some false) else (if (p0.2.length:Int) !=(p1.2.length:Int) then (some false) else (aH (aq (de p0 p1) aS 0) (fun r=>some r) (fun s4=>aH (aq (df p0 p1) aS 0) (fun r=>some r) (fun s8=>some true))))
def eP (p0r:(List Yq2)×(List Yq3)):Option Bool:=
 (lJ p0r.2).bind fun r1=>if r1.2 then ((eO (r1.1.1,r1.1.2) (p0r.1,p0r.2)).bind fun r2=>some r2) else (some false)
def bQ (p0h:Int×(List Yq5)):Option Int:=
 (m_s_IsValidHistory (p0h.1,p0h.2)).bind fun r1=>if r1 then (some (IntKind.i64.wrap ((IntKind.i64.wrap (p0h.1+(p0h.2.length:Int))) - 1))) else (some 0)
def dm (p0r:(List Yq2)×(List Yq3)) (p1id:Int) (s3:Int):Option (Out Int Int):=
 if decide (s3<(p0r.2.length:Int)) then ((aK p0r.2 s3).bind fun x3=>if x3.1==p1id then (some (.ret s3)) else (some (.nxt (IntKind.i64.wrap (s3+1))))) else (some (.brk s3))
def iC (p0r:(List Yq2)×(List Yq3)) (p1id:Int):Option Int:=
 aH (aq (dm p0r p1id) aS 0) (fun r=>some r) (fun s4=>some (-1))
def b8 (p0e:FK×Yq6×(List Yq8)×ByteArray) (s3:Int):Option (Out Bool Int):=
 if decide (s3<(p0e.2.2.1.length:Int)) then ((aK p0e.2.2.1 s3).bind fun x5=>(bY x5.1 1 99).bind fun r15=>if r15 then (if decide (s3>0) then ((aK p0e.2.2.1 (IntKind.i64.wrap (s3 - 1))).bind fun x6=>if decide (x6.1≥x5.1) then (some (.ret false)) else ((iC (p0e.2.1.1,p0e.2.1.2) x5.2.1).bind fun r19=>if decide (r19<0) then (some (.ret false)) else ((bQ (p0e.1.1,p0e.1.2)).bind fun r20=>(bY x5.2.2 0 r20).bind fun r21=>if r21 then (some (.nxt (IntKind.i64.wrap (s3+1)))) else (some (.ret false))))) else ((iC (p0e.2.1.1,p0e.2.1.2) x5.2.1).bind fun r16=>if decide (r16<0) then (some (.ret false)) else ((bQ (p0e.1.1,p0e.1.2)).bind fun r17=>(bY x5.2.2 0 r17).bind fun r18=>if r18 then (some (.nxt (IntKind.i64.wrap (s3+1)))) else (some (.ret false))))) else (some (.ret false))) else (some (.brk s3))
def qO (p0e:FK×Yq6×(List Yq8)×ByteArray):Option Bool:=
 aH (aq (b8 p0e) aS 0) (fun r=>some r) (fun s4=>some (decide ((p0e.2.2.1.length:Int)<=4)))
def cL (s1:Int×ByteArray):Option (Out ByteArray (Int×ByteArray)):=
 if s1.1 !=0 then (Option.bind ((if decide ((Int.tmod s1.1 10)<0) then (some (IntKind.i64.wrap (-(Int.tmod s1.1 10)))) else (some (Int.tmod s1.1 10)):Option Int)) (fun s2=>(j5 (tW ([IntKind.u8.wrap (IntKind.i64.wrap (48+s2))])) s1.2).bind fun z3=>some (.nxt (Ln s1.1 10,z3)))) else (some (.brk (s1.1,s1.2)))
def bD (p0n:Int):Option ByteArray:=
 if p0n==0 then (some (⟨#[48]⟩)) else (aH (aq (cL) aS (p0n,(⟨#[]⟩:ByteArray))) (fun r4=>some r4) (fun s5=>if decide (p0n<0) then ((j5 (⟨#[45]⟩) s5.2).bind fun z6=>some z6) else (some s5.2)))
def dn (p0n:Int):Option ByteArray:=
 (jR p0n).bind fun r1=>if r1 then ((aK ([(⟨#[97]⟩:ByteArray),(⟨#[97,45]⟩:ByteArray),(⟨#[98]⟩:ByteArray),(⟨#[98,45]⟩:ByteArray),(⟨#[99]⟩:ByteArray),(⟨#[99,45]⟩:ByteArray),(⟨#[48]⟩:ByteArray),(⟨#[49]⟩:ByteArray),(⟨#[50]⟩:ByteArray)]) p0n).bind fun x1=>some x1) else (some (⟨#[]⟩:ByteArray))
def gu (p0e:Int×Int×Int×Int):Option ByteArray:=
 (bY p0e.1 1 99).bind fun r0=>if r0 then ((bY p0e.2.1 0 4).bind fun r1=>if r1 then ((bY p0e.2.2.1 0 4).bind fun r2=>if r2 then ((bY p0e.2.2.2 0 2).bind fun r3=>if r3 then ((bD p0e.1).bind fun r12=>(j5 r12 (⟨#[58]⟩)).bind fun z13=>(bD p0e.2.1).bind fun r14=>(j5 z13 r14).bind fun z15=>(dn (IntKind.i64.wrap (2*p0e.2.2.2))).bind fun r16=>(j5 z15 r16).bind fun z17=>(bD p0e.2.2.1).bind fun r18=>(j5 z17 r18).bind fun z19=>some z19) else (some ((⟨#[]⟩:ByteArray)))) else (some ((⟨#[]⟩:ByteArray)))) else (some ((⟨#[]⟩:ByteArray)))) else (some ((⟨#[]⟩:ByteArray)))
def dx (p0b:List Yq4) (s1:ByteArray×Int):Option (Out ByteArray (ByteArray×Int)):=
 if decide (s1.2<(p0b.length:Int)) then (De (S:=ByteArray) ((aK p0b s1.2).bind fun x2=>(gu (x2.2.1,x2.2.2.1,x2.2.2.2.1,x2.2.2.2.2)).bind fun r3=>if r3==((⟨#[]⟩:ByteArray)) then (some (.inl (.ret ((⟨#[]⟩:ByteArray))))) else (Option.bind ((if decide (s1.2>0) then ((j5 s1.1 (⟨#[32]⟩)).bind fun z4=>some z4) else (some s1.1):Option ByteArray)) (fun s5=>(aK p0b s1.2).bind fun x6=>if x6.1 then ((j5 s5 (⟨#[43]⟩)).bind fun z7=>(j5 z7 r3).bind fun z8=>some (.inr z8)) else ((j5 s5 (⟨#[45]⟩)).bind fun z9=>(j5 z9 r3).bind fun z10=>some (.inr z10))))) (fun s11=>some (.nxt (s11,IntKind.i64.wrap (s1.2+1))))) else (some (.brk (s1.1,s1.2)))
def cd (p0b:List Yq4):Option ByteArray:=
 if decide ((p0b.length:Int)>6) then (some ((⟨#[]⟩:ByteArray))) else (aH (aq (dx p0b) aS ((⟨#[]⟩:ByteArray),0)) (fun r12=>some r12) (fun s13=>some s13.1))
def eA (p0s:ByteArray) (s1:Int×Int):Option Yq9:=
 if decide (s1.2<((p0s.size:Nat):Int)) then ((gN p0s s1.2).bind fun z2=>some (.nxt (Int.tmod (IntKind.i64.wrap ((IntKind.i64.wrap ((IntKind.i64.wrap (s1.1*257))+(IntKind.i64.wrap z2)))+1)) 9973,IntKind.i64.wrap (s1.2+1)))) else (some (.brk (s1.1,s1.2)))
def eG (p0s:ByteArray):Option Int:=
 aH (aq (eA p0s) aS (1,0)) (fun r3=>some r3) (fun s4=>some s4.1)
def dq (p0version:Int) (p1b:List Yq4):Option ByteArray:=
 (bY p0version 1 999).bind fun r0=>if r0 then (if decide ((p1b.length:Int)>0) then ((cd p1b).bind fun r1=>if r1==((⟨#[]⟩:ByteArray)) then (some ((⟨#[]⟩:ByteArray))) else ((bD p0version).bind fun r7=>(j5 r7 (⟨#[59]⟩)).bind fun z8=>(cd p1b).bind fun r9=>(j5 z8 r9).bind fun z10=>(j5 z10 (⟨#[59]⟩)).bind fun z11=>(eG z11).bind fun r12=>(bD r12).bind fun r13=>(j5 z11 r13).bind fun z14=>(j5 z14 (⟨#[10]⟩)).bind fun z15=>some z15)) else ((bD p0version).bind fun r21=>(j5 r21 (⟨#[59]⟩)).bind fun z22=>(cd p1b).bind fun r23=>(j5 z22 r23).bind fun z24=>(j5 z24 (⟨#[59]⟩)).bind fun z25=>(eG z25).bind fun r26=>(bD r26).bind fun r27=>(j5 z25 r27).bind fun z28=>(j5 z28 (⟨#[10]⟩)).bind fun z29=>some z29)) else (some ((⟨#[]⟩:ByteArray)))
def lK (p0s:ByteArray) (p1sep:Int) (s1:(List ByteArray)×Int×Int):Option (Out (List ByteArray) ((List ByteArray)×Int×Int)):=
 if decide (s1.2.2<((p0s.size:Nat):Int)) then (Option.bind (((gN p0s s1.2.2).bind fun z2=>if z2==p1sep then ((l6 p0s s1.2.1 s1.2.2).bind fun z3=>(cS 16 s1.1 ([z3])).bind fun z4=>some (z4,IntKind.i64.wrap (s1.2.2+1))) else (some (s1.1,s1.2.1)):Option ((List ByteArray)×Int))) (fun s5=>some (.nxt (s5.1,s5.2,IntKind.i64.wrap (s1.2.2+1))))) else (some (.brk (s1.1,s1.2.1,s1.2.2)))
def fH (p0s:ByteArray) (p1sep:Int):Option (List ByteArray):=
 aH (aq (lK p0s p1sep) aS (([] :List ByteArray),0,0)) (fun r6=>some r6) (fun s7=>(l6 p0s s7.2.1 ((p0s.size:Nat):Int)).bind fun z8=>(cS 16 s7.1 ([z8])).bind fun z9=>some z9)
def fI (p0s:ByteArray) (s1:Int×Int×Int):Option (Out (Int×Bool) Yq8):=
 if decide (s1.2.2<((p0s.size:Nat):Int)) then (if decide (s1.2.2<11) then (Option.bind (((gN p0s s1.2.2).bind fun z2=>if decide (z2≥48) then ((gN p0s s1.2.2).bind fun z3=>if decide (z3<=57) then ((gN p0s s1.2.2).bind fun z4=>some (IntKind.i64.wrap ((IntKind.i64.wrap (s1.1*10))+(IntKind.i64.wrap (IntKind.u8.wrap (z4 - 48)))),IntKind.i64.wrap (s1.2.1+1))) else (some (s1.1,s1.2.1))) else (some (s1.1,s1.2.1)):Option (Int×Int))) (fun s5=>some (.nxt (s5.1,s5.2,IntKind.i64.wrap (s1.2.2+1))))) else (some (.brk (s1.1,s1.2.1,s1.2.2)))) else (some (.brk (s1.1,s1.2.1,s1.2.2)))
def eH (p0s:ByteArray):Option (Int×Bool):=
 aH (aq (fI p0s) aS (0,0,0)) (fun r6=>some r6) (fun s7=>if decide (((p0s.size:Nat):Int)>0) then ((gN p0s 0).bind fun z8=>Option.bind ((if z8==45 then (some (IntKind.i64.wrap (-s7.1))) else (some s7.1):Option Int)) (fun s9=>if decide (s7.2.1>9) then (some (0,false)) else (if decide (((p0s.size:Nat):Int)>10) then (some (0,false)) else ((bD s9).bind fun r10=>if r10 !=p0s then (some (0,false)) else (some (s9,true)))))) else (if decide (s7.2.1>9) then (some (0,false)) else (if decide (((p0s.size:Nat):Int)>10) then (some (0,false)) else ((bD s7.1).bind fun r11=>if r11 !=p0s then (some (0,false)) else (some (s7.1,true))))))
def iD (p0s:ByteArray) (s3:Int):Option (Out (Int×Bool) Int):=
 if decide (s3<9) then ((dn s3).bind fun r3=>if r3==p0s then (some (.ret (s3,true))) else (some (.nxt (IntKind.i64.wrap (s3+1))))) else (some (.brk s3))
def eB (p0s:ByteArray):Option (Int×Bool):=
 aH (aq (iD p0s) aS 0) (fun r=>some r) (fun s4=>some (0,false))
def eQ (p0s:ByteArray):Option (Yq1×Bool):=
 (fH p0s 58).bind fun r0=>if (r0.length:Int) !=2 then (some ((0,0,0,0),false)) else ((aK r0 1).bind fun x1=>if ((x1.size:Nat):Int) !=3 then (some ((0,0,0,0),false)) else ((aK r0 0).bind fun x2=>(eH x2).bind fun r3=>(aK r0 1).bind fun x4=>(l6 x4 1 2).bind fun z5=>(eB z5).bind fun r6=>(aK r0 1).bind fun x11=>(gN x11 0).bind fun z12=>(aK r0 1).bind fun x13=>(gN x13 2).bind fun z14=>(gu (r3.1,IntKind.i64.wrap ((IntKind.i64.wrap z12) - 48),IntKind.i64.wrap ((IntKind.i64.wrap z14) - 48),Ln r6.1 2)).bind fun r15=>if r15 !=p0s then (some ((0,0,0,0),false)) else (some ((r3.1,IntKind.i64.wrap ((IntKind.i64.wrap z12) - 48),IntKind.i64.wrap ((IntKind.i64.wrap z14) - 48),Ln r6.1 2),true))))
def bR (r0:List ByteArray) (s3:Int×List Yq4):Option (Out ((List Yq4)×Bool) (Int×List Yq4)):=
 if decide (s3.1<(r0.length:Int)) then (if decide (s3.1<=6) then ((aK r0 s3.1).bind fun x4=>if decide (((x4.size:Nat):Int)<2) then (some (.ret (([] :List Yq4),false))) else ((aK r0 s3.1).bind fun x5=>(l6 x5 1 ((x5.size:Nat):Int)).bind fun z6=>(eQ z6).bind fun r7=>if r7.2 then ((aK r0 s3.1).bind fun x11=>(gN x11 0).bind fun z12=>(cS 40 s3.2 ([(z12==43,r7.1.1,r7.1.2.1,r7.1.2.2.1,r7.1.2.2.2)])).bind fun z13=>some (.nxt (IntKind.i64.wrap (s3.1+1),z13))) else (some (.ret (([] :List Yq4),false))))) else (some (.brk (s3.1,s3.2)))) else (some (.brk (s3.1,s3.2)))
def cT (p0s:ByteArray):Option ((List Yq4)×Bool):=
 if p0s==((⟨#[]⟩:ByteArray)) then (some (([] :List Yq4),true)) else ((fH p0s 32).bind fun r0=>aH (aq (bR r0) aS (0,([] :List Yq4))) (fun r14=>some r14) (fun s15=>(cd s15.2).bind fun r16=>if r16 !=p0s then (some (([] :List Yq4),false)) else (some (s15.2,true))))
def gA (p0s:ByteArray):Option (Int×((List (Bool×Yq1)))×Bool):=
 (fH p0s 59).bind fun r1=>if (r1.length:Int) !=3 then (some (0,[],false)) else ((aK r1 0).bind fun x1=>(eH x1).bind fun r2=>(aK r1 1).bind fun x2=>(cT x2).bind fun r3=>if r2.2 then (if r3.2 then ((dq r2.1 r3.1).bind fun r4=>if r4 !=p0s then (some (0,[],false)) else (some (r2.1,r3.1,true))) else (some (0,[],false))) else (some (0,[],false)))
def aV (p0:ByteArray) (s1:(List Int)×(List (List Yq4))×Int×Int):Option (Out ((List Int)×(List (List Yq4))×Int) ((List Int)×(List (List Yq4))×Int×Int)):=
 if decide (s1.2.2.2<((p0.size:Nat):Int)) then (if decide (((p0.size:Nat):Int)<=4000) then (De (S:=(List Int)×(List (List Yq4))×Int) ((gN p0 s1.2.2.2).bind fun z2=>if z2 !=10 then (some (.inr (s1.1,s1.2.1,s1.2.2.1))) else ((l6 p0 s1.2.2.1 (IntKind.i64.wrap (s1.2.2.2+1))).bind fun z3=>(gA z3).bind fun r4=>if r4.2.2 then (if decide ((s1.1.length:Int)>0) then ((aK s1.1 (IntKind.i64.wrap ((s1.1.length:Int) - 1))).bind fun x5=>if r4.1 !=(IntKind.i64.wrap (x5+1)) then (some (.inl (.ret (s1.1,s1.2.1,s1.2.2.1)))) else ((cS 8 s1.1 ([r4.1])).bind fun z6=>(cS 24 s1.2.1 ([r4.2.1])).bind fun z7=>some (.inr (z6,z7,IntKind.i64.wrap (s1.2.2.2+1))))) else ((cS 8 s1.1 ([r4.1])).bind fun z8=>(cS 24 s1.2.1 ([r4.2.1])).bind fun z9=>some (.inr (z8,z9,IntKind.i64.wrap (s1.2.2.2+1))))) else (some (.inl (.ret (s1.1,s1.2.1,s1.2.2.1)))))) (fun s10=>some (.nxt (s10.1,s10.2.1,s10.2.2,IntKind.i64.wrap (s1.2.2.2+1))))) else (some (.brk (s1.1,s1.2.1,s1.2.2.1,s1.2.2.2)))) else (some (.brk (s1.1,s1.2.1,s1.2.2.1,s1.2.2.2)))
def m_s_ScanLog (p0:ByteArray):Option ((List Int)×(List (List Yq4))×Int):=
 aH (aq (aV p0) aS (([] :List Int),([] :List (List Yq4)),0,0)) (fun r11=>some r11) (fun s12=>some (s12.1,s12.2.1,s12.2.2.1))
def tc (p0e:FK×Yq6×(List Yq8)×ByteArray):Option Bool:=
 (m_s_ScanLog p0e.2.2.2).bind fun r1=>if r1.2.2==(p0e.2.2.2.size:Int) then (if decide ((p0e.2.2.2.size:Int)<=4000) then (if (r1.1.length:Int)==0 then (some true) else ((aK r1.1 (IntKind.i64.wrap ((r1.1.length:Int) - 1))).bind fun x1=>(bQ (p0e.1.1,p0e.1.2)).bind fun r2=>some (x1==r2))) else (some false)) else (some false)
def fX (p0e:FK×Yq6×(List Yq8)×ByteArray):Option Bool:=
 (m_s_IsValidHistory (p0e.1.1,p0e.1.2)).bind fun r1=>if r1 then ((eP (p0e.2.1.1,p0e.2.1.2)).bind fun r2=>if r2 then ((qO ((p0e.1.1,p0e.1.2),(p0e.2.1.1,p0e.2.1.2),p0e.2.2.1,p0e.2.2.2)).bind fun r3=>if r3 then ((tc ((p0e.1.1,p0e.1.2),(p0e.2.1.1,p0e.2.1.2),p0e.2.2.1,p0e.2.2.2)).bind fun r4=>some r4) else (some false)) else (some false)) else (some false)
def kq (p0a:List Int) (s3:(List Int)×Int):Option (Out (List Int) ((List Int)×Int)):=
 if decide (s3.2<(p0a.length:Int)) then ((aK p0a s3.2).bind fun x6=>(aK s3.1 s3.2).bind fun x7=>some (.nxt (s3.1.set s3.2.toNat x6,IntKind.i64.wrap (s3.2+1)))) else (some (.brk (s3.1,s3.2)))
def mz (p0a:List Int):Option (List Int):=
 (mkI 8 (p0a.length:Int) (0:Int)).bind fun x1=>aH (aq (kq p0a) aS (x1,0)) (fun r=>some r) (fun s4=>some s4.1)
def pQ (p0a:Int×Int×Int×Int):Option Yq1:=
 some (p0a.1,p0a.2.1,p0a.2.2.1,p0a.2.2.2)
def jD (p0a:List Yq1) (s3:(List Yq1)×Int):Option (Out (List Yq1) ((List Yq1)×Int)):=
 if decide (s3.2<(p0a.length:Int)) then ((aK p0a s3.2).bind fun x6=>(pQ (x6.1,x6.2.1,x6.2.2.1,x6.2.2.2)).bind fun r3=>(aK s3.1 s3.2).bind fun x7=>some (.nxt (s3.1.set s3.2.toNat (r3.1,r3.2.1,r3.2.2.1,r3.2.2.2),IntKind.i64.wrap (s3.2+1)))) else (some (.brk (s3.1,s3.2)))
def nr (p0a:List Yq1):Option (List Yq1):=
 (mkI 32 (p0a.length:Int) ((0,0,0,0):Int×Int×Int×Int)).bind fun x1=>aH (aq (jD p0a) aS (x1,0)) (fun r=>some r) (fun s4=>some s4.1)
def nt (p0a:(List Int)×(List Yq1)):Option Yq5:=
 (mz p0a.1).bind fun r1=>(nr p0a.2).bind fun r2=>some (r1,r2)
def iE (p0a:List Yq5) (s3:(List Yq5)×Int):Option (Out (List Yq5) ((List Yq5)×Int)):=
 if decide (s3.2<(p0a.length:Int)) then ((aK p0a s3.2).bind fun x6=>(nt (x6.1,x6.2)).bind fun r9=>(aK s3.1 s3.2).bind fun x7=>some (.nxt (s3.1.set s3.2.toNat (r9.1,r9.2),IntKind.i64.wrap (s3.2+1)))) else (some (.brk (s3.1,s3.2)))
def lL (p0a:List Yq5):Option (List Yq5):=
 (mkI 48 (p0a.length:Int) (([],[]):(List Int)×(List Yq1))).bind fun x1=>aH (aq (iE p0a) aS (x1,0)) (fun r=>some r) (fun s4=>some s4.1)
def kt (p0a:Int×(List Yq5)):Option FK:=
 (lL p0a.2).bind fun r1=>some (p0a.1,r1)
def jE (p0a:List Bool) (s3:(List Bool)×Int):Option (Out (List Bool) ((List Bool)×Int)):=
 if decide (s3.2<(p0a.length:Int)) then ((aK p0a s3.2).bind fun x6=>(aK s3.1 s3.2).bind fun x7=>some (.nxt (s3.1.set s3.2.toNat x6,IntKind.i64.wrap (s3.2+1)))) else (some (.brk (s3.1,s3.2)))
def nw (p0a:List Bool):Option (List Bool):=
 (mkI 1 (p0a.length:Int) (false:Bool)).bind fun x1=>aH (aq (jE p0a) aS (x1,0)) (fun r=>some r) (fun s4=>some s4.1)
def jF (p0a:List (List Int)) (s3:(List (List Int))×Int):Option (Out (List (List Int)) ((List (List Int))×Int)):=
 if decide (s3.2<(p0a.length:Int)) then ((aK p0a s3.2).bind fun x6=>(mz x6).bind fun r6=>(aK s3.1 s3.2).bind fun x7=>some (.nxt (s3.1.set s3.2.toNat r6,IntKind.i64.wrap (s3.2+1)))) else (some (.brk (s3.1,s3.2)))
def ny (p0a:List (List Int)):Option (List (List Int)):=
 (mkI 24 (p0a.length:Int) ([] :List Int)).bind fun x1=>aH (aq (jF p0a) aS (x1,0)) (fun r=>some r) (fun s4=>some s4.1)
def iF (p0a:Int×(List Bool)×(List (List Int))):Option Yq2:=
 (nw p0a.2.1).bind fun r1=>(ny p0a.2.2).bind fun r2=>some (p0a.1,r1,r2)
def eR (p0a:List Yq2) (s3:(List Yq2)×Int):Option (Out (List Yq2) ((List Yq2)×Int)):=
 if decide (s3.2<(p0a.length:Int)) then ((aK p0a s3.2).bind fun x6=>(iF (x6.1,x6.2.1,x6.2.2)).bind fun r9=>(aK s3.1 s3.2).bind fun x7=>some (.nxt (s3.1.set s3.2.toNat (r9.1,r9.2.1,r9.2.2),IntKind.i64.wrap (s3.2+1)))) else (some (.brk (s3.1,s3.2)))
def gB (p0a:List Yq2):Option (List Yq2):=
 (mkI 56 (p0a.length:Int) ((0,[],[]):Int×(List Bool)×(List (List Int)))).bind fun x1=>aH (aq (eR p0a) aS (x1,0)) (fun r=>some r) (fun s4=>some s4.1)
def nz (p0a:Int×Int×Int×Int):Option Yq1:=
 some (p0a.1,p0a.2.1,p0a.2.2.1,p0a.2.2.2)
def iG (p0a:List Yq1) (s3:(List Yq1)×Int):Option (Out (List Yq1) ((List Yq1)×Int)):=
 if decide (s3.2<(p0a.length:Int)) then ((aK p0a s3.2).bind fun x6=>(nz (x6.1,x6.2.1,x6.2.2.1,x6.2.2.2)).bind fun r3=>(aK s3.1 s3.2).bind fun x7=>some (.nxt (s3.1.set s3.2.toNat (r3.1,r3.2.1,r3.2.2.1,r3.2.2.2),IntKind.i64.wrap (s3.2+1)))) else (some (.brk (s3.1,s3.2)))
def lM (p0a:List Yq1):Option (List Yq1):=
 (mkI 32 (p0a.length:Int) ((0,0,0,0):Int×Int×Int×Int)).bind fun x1=>aH (aq (iG p0a) aS (x1,0)) (fun r=>some r) (fun s4=>some s4.1)
def pR (p0a:(List Yq1)):Option (List Yq1):=
 (lM p0a).bind fun r1=>some r1
def gC (p0a:Int×((List Yq1))×Int):Option Yq3:=
 (pR p0a.2.1).bind fun r1=>some (p0a.1,r1,p0a.2.2)
def dP (p0a:List Yq3) (s3:(List Yq3)×Int):Option (Out (List Yq3) ((List Yq3)×Int)):=
 if decide (s3.2<(p0a.length:Int)) then ((aK p0a s3.2).bind fun x6=>(gC (x6.1,x6.2.1,x6.2.2)).bind fun r6=>(aK s3.1 s3.2).bind fun x7=>some (.nxt (s3.1.set s3.2.toNat (r6.1,r6.2.1,r6.2.2),IntKind.i64.wrap (s3.2+1)))) else (some (.brk (s3.1,s3.2)))
def fY (p0a:List Yq3):Option (List Yq3):=
 (mkI 40 (p0a.length:Int) ((0,[],0):Int×((List Yq1))×Int)).bind fun x1=>aH (aq (dP p0a) aS (x1,0)) (fun r=>some r) (fun s4=>some s4.1)
def jG (p0a:(List Yq2)×(List Yq3)):Option Yq6:=
 (gB p0a.1).bind fun r1=>(fY p0a.2).bind fun r2=>some (r1,r2)
def gD (p0a:Int×Int×Int):Option Yq8:=
 some (p0a.1,p0a.2.1,p0a.2.2)
def dQ (p0a:List Yq8) (s3:(List Yq8)×Int):Option (Out (List Yq8) ((List Yq8)×Int)):=
 if decide (s3.2<(p0a.length:Int)) then ((aK p0a s3.2).bind fun x6=>(gD (x6.1,x6.2.1,x6.2.2)).bind fun r3=>(aK s3.1 s3.2).bind fun x7=>some (.nxt (s3.1.set s3.2.toNat (r3.1,r3.2.1,r3.2.2),IntKind.i64.wrap (s3.2+1)))) else (some (.brk (s3.1,s3.2)))
def fZ (p0a:List Yq8):Option (List Yq8):=
 (mkI 24 (p0a.length:Int) ((0,0,0):Int×Int×Int)).bind fun x1=>aH (aq (dQ p0a) aS (x1,0)) (fun r=>some r) (fun s4=>some s4.1)
def gS (p0a:FK×Yq6×(List Yq8)×ByteArray):Option (FK×Yq6×(List Yq8)×ByteArray):=
 (kt (p0a.1.1,p0a.1.2)).bind fun r1=>(jG (p0a.2.1.1,p0a.2.1.2)).bind fun r2=>(fZ p0a.2.2.1).bind fun r3=>some ((r1.1,r1.2),(r2.1,r2.2),r3,p0a.2.2.2)
def bB (p0n:Int) (p1a:Int) (p2b:Int):Option Bool:=
 if decide (p0n≥p1a) then (some (decide (p0n<=p2b))) else (some false)
def gT (p0e:Int×Int×Int×Int) (p1nodes:Int):Option Bool:=
 (bB p0e.1 1 99).bind fun r1=>if r1 then ((bB p0e.2.1 0 (IntKind.i64.wrap (p1nodes - 1))).bind fun r2=>if r2 then ((bB p0e.2.2.1 0 (IntKind.i64.wrap (p1nodes - 1))).bind fun r3=>if r3 then ((bB p0e.2.2.2 0 2).bind fun r4=>some r4) else (some false)) else (some false)) else (some false)
def cZ (p0g:(List Int)×(List Yq1)) (s3:Int):Option (Out Bool Int):=
 if decide (s3<(p0g.1.length:Int)) then ((aK p0g.1 s3).bind fun x3=>(bB x3 0 2).bind fun r3=>if r3 then (some (.nxt (IntKind.i64.wrap (s3+1)))) else (some (.ret false))) else (some (.brk s3))
def cv (p0g:(List Int)×(List Yq1)) (s7:Int):Option (Out Bool Int):=
 if decide (s7<(p0g.2.length:Int)) then ((aK p0g.2 s7).bind fun x8=>(gT (x8.1,x8.2.1,x8.2.2.1,x8.2.2.2) (p0g.1.length:Int)).bind fun r6=>if r6 then (if decide (s7>0) then ((aK p0g.2 (IntKind.i64.wrap (s7 - 1))).bind fun x9=>if decide (x9.1≥x8.1) then (some (.ret false)) else (some (.nxt (IntKind.i64.wrap (s7+1))))) else (some (.nxt (IntKind.i64.wrap (s7+1))))) else (some (.ret false))) else (some (.brk s7))
def bN (p0g:(List Int)×(List Yq1)):Option Bool:=
 aH (aq (cZ p0g) aS 0) (fun r=>some r) (fun s4=>aH (aq (cv p0g) aS 0) (fun r=>some r) (fun s8=>(bB (p0g.1.length:Int) 1 5).bind fun r7=>if r7 then (some (decide ((p0g.2.length:Int)<=12))) else (some false)))
def bO (p0s1:List Int) (p1s2:List Int) (s3:Int):Option (Out Bool Int):=
 if decide (s3<(p0s1.length:Int)) then ((aK p0s1 s3).bind fun x5=>(aK p1s2 s3).bind fun x6=>if x5 !=x6 then (some (.ret false)) else (some (.nxt (IntKind.i64.wrap (s3+1))))) else (some (.brk s3))
def bF (p0s1:List Int) (p1s2:List Int):Option Bool:=
 if (p0s1.length:Int) !=(p1s2.length:Int) then (some false) else (aH (aq (bO p0s1 p1s2) aS 0) (fun r=>some r) (fun s4=>some true))
def dy (p0h:Int×(List Yq5)) (s3:Int):Option (Out Bool Int):=
 if decide (s3<(p0h.2.length:Int)) then ((aK p0h.2 s3).bind fun x5=>(bN (x5.1,x5.2)).bind fun r15=>if r15 then ((aK p0h.2 0).bind fun x6=>(bF x5.1 x6.1).bind fun r17=>if r17 then (some (.nxt (IntKind.i64.wrap (s3+1)))) else (some (.ret false))) else (some (.ret false))) else (some (.brk s3))
def m_i_IsValidHistory (p0h:Int×(List Yq5)):Option Bool:=
 (bB (p0h.2.length:Int) 1 8).bind fun r1=>if r1 then ((bB p0h.1 1 (IntKind.i64.wrap ((IntKind.i64.wrap (999 - (p0h.2.length:Int)))+1))).bind fun r2=>if r2 then (aH (aq (dy p0h) aS 0) (fun r=>some r) (fun s4=>some true)) else (some false)) else (some false)
def gU (p0n:Int):Option Bool:=
 (bB p0n 0 8).bind fun r1=>some r1
def nA (p0t:Int×Int×Int×Int):Option Bool:=
 if p0t.1==3 then ((gU p0t.2.1).bind fun r3=>if r3 then (if p0t.2.2.1==0 then (some (p0t.2.2.2==0)) else (some false)) else (some false)) else (if p0t.1==7 then (if p0t.2.1==0 then ((bB p0t.2.2.1 0 p0t.2.2.2).bind fun r1=>if r1 then ((bB p0t.2.2.2 1 3).bind fun r2=>some r2) else (some false)) else (some false)) else (Option.bind ((if p0t.1==1 then (some (p0t.1==1)) else (if p0t.1==2 then (some (p0t.1==2)) else (if p0t.1==4 then (some (p0t.1==4)) else (if p0t.1==5 then (some (p0t.1==5)) else (some (p0t.1==6))))):Option Bool)) (fun s1=>if s1 then (some ((p0t.1==p0t.1)&&((p0t.2.1==0)&&((p0t.2.2.1==0)&&((p0t.2.2.2==0)&&true))))) else (some false))))
def nB (p0e:List Yq1) (s1:(List (Tr Yq1))×Int):Option (Out (Tr Yq1) ((List (Tr Yq1))×Int)):=
 if decide (s1.2<(p0e.length:Int)) then ((aK p0e s1.2).bind fun x2=>Option.bind ((Option.bind ((if x2.1==4 then (some (x2.1==4)) else (some (x2.1==5)):Option Bool)) (fun s3=>if s3 then (some 2) else (Option.bind ((if x2.1==6 then (some (x2.1==6)) else (some (x2.1==7)):Option Bool)) (fun s4=>if s4 then (some 1) else (some 0)))):Option Int)) (fun s5=>(nA (x2.1,x2.2.1,x2.2.2.1,x2.2.2.2)).bind fun r6=>if r6 then (if decide ((IntKind.i64.wrap ((s1.1.length:Int) - s5))<0) then (some (.ret Tr.nil)) else ((chk (And (0<=(IntKind.i64.wrap ((s1.1.length:Int) - s5))) ((IntKind.i64.wrap ((s1.1.length:Int) - s5))<=(s1.1.length:Int)))).bind fun _=>(cS 8 ([] :List (Tr Yq1)) (s1.1.drop ((IntKind.i64.wrap ((s1.1.length:Int) - s5)).toNat))).bind fun z10=>(chk (And (0<=(IntKind.i64.wrap ((s1.1.length:Int) - s5))) ((IntKind.i64.wrap ((s1.1.length:Int) - s5))<=(s1.1.length:Int)))).bind fun _=>(cS 8 (s1.1.take ((IntKind.i64.wrap ((s1.1.length:Int) - s5)).toNat)) ([Tr.node (x2.1,x2.2.1,x2.2.2.1,x2.2.2.2) z10])).bind fun z12=>some (.nxt (z12,IntKind.i64.wrap (s1.2+1))))) else (some (.ret Tr.nil)))) else (some (.brk (s1.1,s1.2)))
def kE (p0e:List Yq1):Option (Tr Yq1):=
 aH (aq (nB p0e) aS (([] :List (Tr Yq1)),0)) (fun r13=>some r13) (fun s14=>if (s14.1.length:Int) !=1 then (some Tr.nil) else ((aK s14.1 0).bind fun x15=>some x15))
def pS (p0e:List Yq1):Option Bool:=
 (kE p0e).bind fun r0=>some (cond.match_1 (fun (u4:Bool)=>Bool) (Tr.isNil r0) (fun (u5:Unit)=>false) (fun (u6:Unit)=>true))
def iH (p0e:(List Yq1)):Option Bool:=
 if decide ((p0e.length:Int)<=24) then ((pS p0e).bind fun r1=>some r1) else (some false)
def ba (mrec:(Tr Yq1)->Option Int) (p0x:Tr Yq1) (z1:Yq1×List (Tr Yq1)) (s3:Int×Int):Option Yq9:=
 if decide (s3.2<(z1.2.length:Int)) then (Option.bind (((aK z1.2 s3.2).bind fun x4=>(Tr.get p0x).bind fun z5=>(Tr.get p0x).bind fun z6=>if z6.1.1==7 then ((mrec x4).bind fun r10=>(Tr.get p0x).bind fun z11=>(Tr.get p0x).bind fun z12=>some (IntKind.i64.wrap (s3.1+(IntKind.i64.wrap ((IntKind.i64.wrap (r10+3))*z12.1.2.2.2))))) else ((mrec x4).bind fun r13=>some (IntKind.i64.wrap (s3.1+r13))):Option Int)) (fun s14=>some (.nxt (s14,IntKind.i64.wrap (s3.2+1))))) else (some (.brk (s3.1,s3.2)))
def bq:Nat->(Tr Yq1)->Option Int
 | 0,_=>none
 | n+1,p0x =>
  (Tr.get p0x).bind fun z0=>(Tr.get p0x).bind fun z1=>aH (aq (ba (bq n) p0x z1) aS (1,0)) (fun r15=>some r15) (fun s16=>some (Min.min s16.1 100000))
def AA (p0kind:Int):Option (Tr Yq1):=
 some (Tr.node (p0kind,0,0,0) ([] :List (Tr Yq1)))
def gV:Nat->(Tr Yq1)->Int->Int->Option (Tr Yq1)
 | 0,_,_,_=>none
 | n+1,p0x,p1low,p2high =>
  if p2high==0 then ((AA 2).bind fun r0=>some r0) else (((gV n) p0x (Max.max 0 (IntKind.i64.wrap (p1low - 1))) (IntKind.i64.wrap (p2high - 1))).bind fun r1=>if decide (p1low>0) then (some (Tr.node (4,0,0,0) ([p0x,r1]))) else ((AA 2).bind fun r2=>some (Tr.node (5,0,0,0) ([Tr.node (4,0,0,0) ([p0x,r1]),r2]))))
def aU (mrec:(Tr Yq1)->Option (Tr Yq1)) (z23:Yq1×List (Tr Yq1)) (s26:Int×Int×Int×Int×Int×List (Tr Yq1)):Option (Out (Tr Yq1) (Int×Int×Int×Int×Int×List (Tr Yq1))):=
 if decide (s26.1<(z23.2.length:Int)) then ((aK z23.2 s26.1).bind fun x27=>(mrec x27).bind fun r30=>(cS 8 s26.2.2.2.2.2 ([r30])).bind fun z31=>some (.nxt (IntKind.i64.wrap (s26.1+1),s26.2.1,s26.2.2.1,s26.2.2.2.1,s26.2.2.2.2.1,z31))) else (some (.brk (s26.1,s26.2.1,s26.2.2.1,s26.2.2.2.1,s26.2.2.2.2.1,s26.2.2.2.2.2)))
def aY:Nat->(Tr Yq1)->Option (Tr Yq1)
 | 0,_=>none
 | n+1,p0x =>
  (Tr.get p0x).bind fun z0=>(Tr.get p0x).bind fun z1=>if z1.1.1==7 then ((Tr.get p0x).bind fun z11=>(Tr.get p0x).bind fun z12=>(aK z12.2 0).bind fun x13=>((aY n) x13).bind fun r14=>(Tr.get p0x).bind fun z15=>(Tr.get p0x).bind fun z16=>(Tr.get p0x).bind fun z17=>(Tr.get p0x).bind fun z18=>(gV e7 r14 z16.1.2.2.1 z18.1.2.2.2).bind fun r19=>some r19) else ((Tr.get p0x).bind fun z20=>(Tr.get p0x).bind fun z21=>(Tr.get p0x).bind fun z22=>(Tr.get p0x).bind fun z23=>aH (aq (aU (aY n) z23) aS (0,z21.1.1,z21.1.2.1,z21.1.2.2.1,z21.1.2.2.2,([] :List (Tr Yq1)))) (fun r32=>some r32) (fun s33=>some (Tr.node (s33.2.1,s33.2.2.1,s33.2.2.2.1,s33.2.2.2.2.1) s33.2.2.2.2.2)))
def aP (mrec:(Tr Yq1)->(List Yq1)->Option (List Yq1)) (z1:Yq1×List (Tr Yq1)) (s4:Int×List Yq1):Option (Out (List Yq1) (Int×List Yq1)):=
 if decide (s4.1<(z1.2.length:Int)) then ((aK z1.2 s4.1).bind fun x5=>(mrec x5 s4.2).bind fun r6=>some (.nxt (IntKind.i64.wrap (s4.1+1),r6))) else (some (.brk (s4.1,s4.2)))
def aW:Nat->(Tr Yq1)->(List Yq1)->Option (List Yq1)
 | 0,_,_=>none
 | n+1,p0x,p1out =>
  (Tr.get p0x).bind fun z0=>(Tr.get p0x).bind fun z1=>aH (aq (aP (aW n) z1) aS (0,p1out)) (fun r7=>some r7) (fun s8=>(Tr.get p0x).bind fun z12=>(Tr.get p0x).bind fun z13=>(cS 32 s8.2 ([(z13.1.1,z13.1.2.1,z13.1.2.2.1,z13.1.2.2.2)])).bind fun z14=>some z14)
def nC (p0x:Tr Yq1):Option (List Yq1):=
 (aW e7 p0x ([] :List Yq1)).bind fun r0=>some r0
def jH (p0e:List Yq1):Option ((List Yq1)×Bool):=
 (iH p0e).bind fun r0=>if r0 then ((kE p0e).bind fun r1=>(bq e7 r1).bind fun r2=>if decide (r2>5000) then (some (([] :List Yq1),false)) else ((aY e7 r1).bind fun r3=>(nC r3).bind fun r4=>if decide ((r4.length:Int)>400) then (some (([] :List Yq1),false)) else (some (r4,true)))) else (some (([] :List Yq1),false))
def cf (p0p:(List Int)×Int×Int×(List Int)×Bool) (p1last:Int) (p2first:Int) (s2:Int×List Int):Option (Out Yq7 (Int×List Int)):=
 if decide (s2.1<(p0p.2.2.2.1.length:Int)) then (Option.bind (((chk (0<=s2.1)).bind fun _=>if (vD (qd p1last s2.1) 1)==1 then ((aK s2.2 s2.1).bind fun x4=>(aK s2.2 s2.1).bind fun x5=>some (s2.2.set s2.1.toNat (orI x4 p2first))) else (some s2.2):Option (List Int))) (fun s6=>some (.nxt (IntKind.i64.wrap (s2.1+1),s6)))) else (some (.brk (s2.1,s2.2)))
def cO (p0p:(List Int)×Int×Int×(List Int)×Bool) (p1last:Int) (p2first:Int):Option Yq7:=
 aH (aq (cf p0p p1last p2first) aS (0,p0p.2.2.2.1)) (fun r7=>some r7) (fun s8=>some (p0p.1,p0p.2.1,p0p.2.2.1,s8.2,p0p.2.2.2.2))
def aZ:Nat->Yq7->(Tr Yq1)->Option ((Int×Int×Bool)×(List Int)×Int×Int×(List Int)×Bool)
 | 0,_,_=>none
 | n+1,p0,p1 =>
  (Tr.get p1).bind fun z0=>(Tr.get p1).bind fun z1=>if z1.1.1==2 then (some ((0,0,true),p0.1,p0.2.1,p0.2.2.1,p0.2.2.2.1,p0.2.2.2.2)) else (if z1.1.1==3 then ((Tr.get p1).bind fun z5=>(Tr.get p1).bind fun z6=>(cS 8 p0.1 ([z6.1.2.1])).bind fun z7=>(cS 8 p0.2.2.2.1 ([0])).bind fun z8=>some ((EH 1 (p0.1.length:Int),EH 1 (p0.1.length:Int),false),z7,p0.2.1,p0.2.2.1,z8,p0.2.2.2.2)) else (if z1.1.1==5 then ((Tr.get p1).bind fun z17=>(Tr.get p1).bind fun z18=>(aK z18.2 0).bind fun x19=>((aZ n) (p0.1,p0.2.1,p0.2.2.1,p0.2.2.2.1,p0.2.2.2.2) x19).bind fun r20=>(Tr.get p1).bind fun z21=>(Tr.get p1).bind fun z22=>(aK z22.2 1).bind fun x23=>((aZ n) r20.2 x23).bind fun r24=>if r20.1.2.2 then (some ((orI r20.1.1 r24.1.1,orI r20.1.2.1 r24.1.2.1,true),r24.2.1,r24.2.2.1,r24.2.2.2.1,r24.2.2.2.2.1,r24.2.2.2.2.2)) else (some ((orI r20.1.1 r24.1.1,orI r20.1.2.1 r24.1.2.1,r24.1.2.2),r24.2.1,r24.2.2.1,r24.2.2.2.1,r24.2.2.2.2.1,r24.2.2.2.2.2))) else (if z1.1.1==4 then ((Tr.get p1).bind fun z33=>(Tr.get p1).bind fun z34=>(aK z34.2 0).bind fun x35=>((aZ n) (p0.1,p0.2.1,p0.2.2.1,p0.2.2.2.1,p0.2.2.2.2) x35).bind fun r36=>(Tr.get p1).bind fun z37=>(Tr.get p1).bind fun z38=>(aK z38.2 1).bind fun x39=>((aZ n) r36.2 x39).bind fun r40=>(cO (r40.2.1,r40.2.2.1,r40.2.2.2.1,r40.2.2.2.2.1,r40.2.2.2.2.2) r36.1.2.1 r40.1.1).bind fun r41=>if r36.1.2.2 then (Option.bind ((if r36.1.2.2 then (some (orI r36.1.1 r40.1.1,r40.1.2.1,r40.1.2.2)) else (some (r36.1.1,r40.1.2.1,r40.1.2.2)):Option (Int×Int×Bool))) (fun s42=>Option.bind ((if r40.1.2.2 then (some (s42.1,orI s42.2.1 r36.1.2.1,s42.2.2)) else (some (s42.1,s42.2.1,s42.2.2)):Option (Int×Int×Bool))) (fun s43=>some ((s43.1,s43.2.1,s43.2.2),r41.1,r41.2.1,r41.2.2.1,r41.2.2.2.1,r41.2.2.2.2)))) else (Option.bind ((if r36.1.2.2 then (some (orI r36.1.1 r40.1.1,r40.1.2.1,false)) else (some (r36.1.1,r40.1.2.1,false)):Option (Int×Int×Bool))) (fun s44=>Option.bind ((if r40.1.2.2 then (some (s44.1,orI s44.2.1 r36.1.2.1,s44.2.2)) else (some (s44.1,s44.2.1,s44.2.2)):Option (Int×Int×Bool))) (fun s45=>some ((s45.1,s45.2.1,s45.2.2),r41.1,r41.2.1,r41.2.2.1,r41.2.2.2.1,r41.2.2.2.2))))) else (if z1.1.1==6 then ((Tr.get p1).bind fun z46=>(Tr.get p1).bind fun z47=>(aK z47.2 0).bind fun x48=>((aZ n) (p0.1,p0.2.1,p0.2.2.1,p0.2.2.2.1,p0.2.2.2.2) x48).bind fun r49=>(cO (r49.2.1,r49.2.2.1,r49.2.2.2.1,r49.2.2.2.2.1,r49.2.2.2.2.2) r49.1.2.1 r49.1.1).bind fun r50=>some ((r49.1.1,r49.1.2.1,true),r50.1,r50.2.1,r50.2.2.1,r50.2.2.2.1,r50.2.2.2.2)) else (some ((0,0,false),p0.1,p0.2.1,p0.2.2.1,p0.2.2.2.1,p0.2.2.2.2))))))
def cD (r0:(List Yq1)×Bool) (s2:Int×Int):Option (Out (Yq7×Bool) (Int×Int)):=
 if decide (s2.2<(r0.1.length:Int)) then (Option.bind (((aK r0.1 s2.2).bind fun x3=>if x3.1==3 then (some (IntKind.i64.wrap (s2.1+1))) else (some s2.1):Option Int)) (fun s4=>some (.nxt (s4,IntKind.i64.wrap (s2.2+1))))) else (some (.brk (s2.1,s2.2)))
def fp (p0e:List Yq1):Option (Yq7×Bool):=
 (jH p0e).bind fun r0=>if r0.2 then (aH (aq (cD r0) aS (0,0)) (fun r5=>some r5) (fun s6=>if decide (s6.1>20) then (some ((([] :List Int),0,0,([] :List Int),false),false)) else ((kE r0.1).bind fun r7=>(aZ e7 (([] :List Int),0,0,([] :List Int),false) r7).bind fun r8=>some ((r8.2.1,r8.1.1,r8.1.2.1,r8.2.2.2.2.1,r8.1.2.2),true)))) else (some ((([] :List Int),0,0,([] :List Int),false),false))
def c7 (p3:Int->Int->Option (Int×Bool)) (s29:(List Int)×(List (Int×Int))×Int×Int×(List Bool)×(List (List Int))) (s39:(List Int)×(List (Int×Int))×(List Int)×Int):Option (Out (Yq2×Bool) ((List Int)×(List (Int×Int))×(List Int)×Int)):=
 if decide (s39.2.2.2<9) then (Option.bind (((aK s39.1 s29.2.2.1).bind fun x20=>(p3 x20 s39.2.2.2).bind fun r20=>if r20.2 then ((chk (iOk r20.1=true)).bind fun _=>Option.bind ((if (lkM s39.2.1 r20.1).isSome then (some (s39.1,s39.2.1,(lkM s39.2.1 r20.1).getD 0)) else ((H3 s39.2.1 iOk iOk r20.1 (s39.1.length:Int)).bind fun m37=>(cS 8 s39.1 ([r20.1])).bind fun z75=>some (z75,m37,(s39.1.length:Int))):Option ((List Int)×(List (Int×Int))×Int))) (fun s43=>(cS 8 s39.2.2.1 ([s43.2.2])).bind fun z76=>some (s43.1,s43.2.1,z76))) else ((cS 8 s39.2.2.1 ([-1])).bind fun z73=>some (s39.1,s39.2.1,z73)):Option ((List Int)×(List (Int×Int))×(List Int)))) (fun s42=>some (.nxt (s42.1,s42.2.1,s42.2.2,IntKind.i64.wrap (s39.2.2.2+1))))) else (some (.brk (s39.1,s39.2.1,s39.2.2.1,s39.2.2.2)))
def bC (p1:Int) (p2:Int->Option Bool) (p3:Int->Int->Option (Int×Bool)) (s29:(List Int)×(List (Int×Int))×Int×Int×(List Bool)×(List (List Int))):Option (Out (Yq2×Bool) ((List Int)×(List (Int×Int))×Int×Int×(List Bool)×(List (List Int)))):=
 if decide (s29.2.2.1<(s29.1.length:Int)) then (aH (aq (c7 p3 s29) aS (s29.1,s29.2.1,([] :List Int),0)) (fun r=>some (.ret r)) (fun s40=>if decide ((s40.1.length:Int)>p1) then (some (.ret ((0,[],[]),false))) else ((aK s40.1 s29.2.2.1).bind fun x21=>(p2 x21).bind fun r21=>(cS 1 s29.2.2.2.2.1 ([r21])).bind fun z77=>(cS 24 s29.2.2.2.2.2 ([s40.2.2.1])).bind fun z78=>some (.nxt (s40.1,s40.2.1,IntKind.i64.wrap (s29.2.2.1+1),s29.2.2.2.1,z77,z78))))) else (some (.brk (s29.1,s29.2.1,s29.2.2.1,s29.2.2.2.1,s29.2.2.2.2.1,s29.2.2.2.2.2)))
def dt (p0:Int) (p1:Int) (p2:Int->Option Bool) (p3:Int->Int->Option (Int×Bool)):Option (Yq2×Bool):=
 (H3 ([] :List (Int×Int)) iOk iOk p0 0).bind fun m1=>aH (aq (bC p1 p2 p3) aS ([p0],m1,0,0,[],[])) (fun r=>some r) (fun s30=>some ((s30.2.2.2.1,s30.2.2.2.2.1,s30.2.2.2.2.2),true))
def cE (p0p:(List Int)×Int×Int×(List Int)×Bool) (p1set:Int):Option Bool:=
 if (vD p1set 1)==1 then (if p0p.2.2.2.2 then (some true) else (some ((vD (qd p1set 1) p0p.2.2.1) !=0))) else (some ((vD (qd p1set 1) p0p.2.2.1) !=0))
def cq (p0p:(List Int)×Int×Int×(List Int)×Bool) (p1set:Int) (s6:Int×Int):Option Yq9:=
 if decide (s6.2<(p0p.2.2.2.1.length:Int)) then (Option.bind (((aK p0p.2.2.2.1 s6.2).bind fun x6=>(chk (0<=IntKind.i64.wrap (s6.2+1))).bind fun _=>if (vD (qd p1set (IntKind.i64.wrap (s6.2+1))) 1)==1 then (some (orI s6.1 x6)) else (some s6.1):Option Int)) (fun s8=>some (.nxt (s8,IntKind.i64.wrap (s6.2+1))))) else (some (.brk (s6.1,s6.2)))
def cr (p0p:(List Int)×Int×Int×(List Int)×Bool) (p2letter:Int) (s7:Int×Int) (s13:Int×Int):Option Yq9:=
 if decide (s13.2<(p0p.1.length:Int)) then (Option.bind (((aK p0p.1 s13.2).bind fun x12=>if x12==p2letter then ((chk (0<=s13.2)).bind fun _=>if (vD (qd s7.1 s13.2) 1)==1 then ((chk (0<=IntKind.i64.wrap (s13.2+1))).bind fun _=>some (orI s13.1 (EH 1 (IntKind.i64.wrap (s13.2+1))))) else (some s13.1)) else (some s13.1):Option Int)) (fun s15=>some (.nxt (s15,IntKind.i64.wrap (s13.2+1))))) else (some (.brk (s13.1,s13.2)))
def eS (p0p:(List Int)×Int×Int×(List Int)×Bool) (p1set:Int) (p2letter:Int):Option Int:=
 Option.bind ((if (vD p1set 1)==1 then (some p0p.2.1) else (some 0):Option Int)) (fun s1=>aH (aq (cq p0p p1set) aS (s1,0)) (fun r=>some r) (fun s7=>aH (aq (cr p0p p2letter s7) aS (0,0)) (fun r=>some r) (fun s14=>some s14.1)))
def cw (p0set:Int) (p1letter:Int) (q0:(List Int)×Int×Int×(List Int)×Bool):Option (Int×Bool):=
 (eS (q0.1,q0.2.1,q0.2.2.1,q0.2.2.2.1,q0.2.2.2.2) p0set p1letter).bind fun r1=>some (r1,r1 !=0)
def fJ (p0p:(List Int)×Int×Int×(List Int)×Bool) (p1most:Int):Option (Yq2×Bool):=
 (dt 1 p1most (fun a0=>cE (p0p.1,p0p.2.1,p0p.2.2.1,p0p.2.2.2.1,p0p.2.2.2.2) a0) (fun a0 a1=>cw a0 a1 (p0p.1,p0p.2.1,p0p.2.2.1,p0p.2.2.2.1,p0p.2.2.2.2))).bind fun r1=>some ((r1.1.1,r1.1.2.1,r1.1.2.2),r1.2)
def cF (s5:Bool×Int×List Bool) (x6:List Int) (s8:Bool×Int×List Bool):Option (Out (List Bool) (Bool×Int×List Bool)):=
 if decide (s8.2.1<(x6.length:Int)) then (Option.bind (((aK x6 s8.2.1).bind fun x9=>if decide (x9≥0) then ((aK s8.2.2 x9).bind fun x10=>if x10 then ((aK s8.2.2 s5.2.1).bind fun x11=>if x11 then (some (s8.1,s8.2.2)) else ((aK s8.2.2 s5.2.1).bind fun x12=>some (true,s8.2.2.set s5.2.1.toNat true))) else (some (s8.1,s8.2.2))) else (some (s8.1,s8.2.2)):Option (Bool×List Bool))) (fun s13=>some (.nxt (s13.1,IntKind.i64.wrap (s8.2.1+1),s13.2)))) else (some (.brk (s8.1,s8.2.1,s8.2.2)))
def cG (p0a:Int×(List Bool)×List (List Int)) (s5:Bool×Int×List Bool):Option (Out (List Bool) (Bool×Int×List Bool)):=
 if decide (s5.2.1<(p0a.2.2.length:Int)) then ((aK p0a.2.2 s5.2.1).bind fun x6=>aH (aq (cF s5 x6) aS (s5.1,0,s5.2.2)) (fun r14=>some (.ret r14)) (fun s15=>some (.nxt (s15.1,IntKind.i64.wrap (s5.2.1+1),s15.2.2)))) else (some (.brk (s5.1,s5.2.1,s5.2.2)))
def fK (p0a:Int×(List Bool)×List (List Int)) (s3:Bool×List Bool):Option (Out (List Bool) (Bool×List Bool)):=
 if s3.1 then (aH (aq (cG p0a) aS (false,0,s3.2)) (fun r16=>some (.ret r16)) (fun s17=>some (.nxt (s17.1,s17.2.2)))) else (some (.brk (s3.1,s3.2)))
def dz (p0a:Int×(List Bool)×List (List Int)):Option (List Bool):=
 (cS 1 ([] :List Bool) p0a.2.1).bind fun z0=>aH (aq (fK p0a) aS (true,z0)) (fun r18=>some r18) (fun s19=>some s19.2)
def bG (p0s:List (List Int)) (p1f:(List Int)->Option Bool) (s3:Int):Option (Out Int Int):=
 if decide (s3<(p0s.length:Int)) then ((aK p0s s3).bind fun x3=>(p1f x3).bind fun r6=>if r6 then (some (.ret s3)) else (some (.nxt (IntKind.i64.wrap (s3+1))))) else (some (.brk s3))
def bu (p0s:List (List Int)) (p1f:(List Int)->Option Bool):Option Int:=
 aH (aq (bG p0s p1f) aS 0) (fun r=>some r) (fun s4=>some (-1))
def fl (p0x:List Int) (q0:List Int):Option Bool:=
 (bF p0x q0).bind fun r1=>some r1
def cg (p1:List Int) (x57:List Int) (s52:Int×(List Int)):Option (Out ((List Int)×Int) (Int×(List Int))):=
 if decide (s52.1<(x57.length:Int)) then ((aK x57 s52.1).bind fun x64=>Option.bind ((if decide (x64≥0) then ((aK p1 x64).bind fun x66=>some x66) else (some x64):Option Int)) (fun s54=>(cS 8 s52.2 ([s54])).bind fun z38=>some (.nxt (IntKind.i64.wrap (s52.1+1),z38)))) else (some (.brk (s52.1,s52.2)))
def cQ (p0:Int×(List Bool)×(List (List Int))) (p1:List Int) (s37:(List (List Int))×(List Int)×Int):Option (Out ((List Int)×Int) ((List (List Int))×(List Int)×Int)):=
 if decide (s37.2.2<(p1.length:Int)) then (Option.bind (((aK p1 s37.2.2).bind fun x56=>if decide (x56<0) then ((cS 8 s37.2.1 ([-1])).bind fun z42=>some (s37.1,z42)) else ((aK p0.2.2 s37.2.2).bind fun x57=>aH (aq (cg p1 x57) aS (0,[x56])) (fun _=>none) (fun s53=>(bu s37.1 (fun a0=>fl a0 s53.2)).bind fun r12=>Option.bind ((if decide (r12<0) then ((cS 24 s37.1 ([s53.2])).bind fun z40=>some (z40,(s37.1.length:Int))) else (some (s37.1,r12)):Option ((List (List Int))×Int))) (fun s55=>(cS 8 s37.2.1 ([s55.2])).bind fun z41=>some (s55.1,z41)))):Option ((List (List Int))×(List Int)))) (fun s47=>some (.nxt (s47.1,s47.2,IntKind.i64.wrap (s37.2.2+1))))) else (some (.brk (s37.1,s37.2.1,s37.2.2)))
def cP (p0:Int×(List Bool)×(List (List Int))) (p1:List Int):Option ((List Int)×Int):=
 aH (aq (cQ p0 p1) aS (([] :List (List Int)),([] :List Int),0)) (fun r=>some r) (fun s38=>some (s38.2.1,(s38.1.length:Int)))
def bS (p0a:Int×(List Bool)×(List (List Int))) (r1:List Bool) (s5:(List Int)×Int):Option (Out (List Int) ((List Int)×Int)):=
 if decide (s5.2<(r1.length:Int)) then (Option.bind (((aK r1 s5.2).bind fun x11=>if x11 then ((aK p0a.2.1 s5.2).bind fun x12=>if x12 then ((cS 8 s5.1 ([1])).bind fun z18=>some z18) else ((cS 8 s5.1 ([0])).bind fun z17=>some z17)) else ((cS 8 s5.1 ([-1])).bind fun z16=>some z16):Option (List Int))) (fun s7=>some (.nxt (s7,IntKind.i64.wrap (s5.2+1))))) else (some (.brk (s5.1,s5.2)))
def eC (p0a:Int×(List Bool)×(List (List Int))) (s10:(List Int)×Int):Option (Out (List Int) ((List Int)×Int)):=
 (cP (p0a.1,p0a.2.1,p0a.2.2) s10.1).bind fun r4=>if r4.2==s10.2 then (some (.ret r4.1)) else (some (.nxt (r4.1,r4.2)))
def cH (p0a:Int×(List Bool)×(List (List Int))):Option (List Int):=
 (dz (p0a.1,p0a.2.1,p0a.2.2)).bind fun r1=>aH (aq (bS p0a r1) aS (([] :List Int),0)) (fun r=>some r) (fun s6=>aH (aq (eC p0a) aS (s6.1,-1)) (fun r=>some r) (fun s11=>none))
def qP (p0x:Int) (p1y:Int):Option (Int×Int):=
 some (IntKind.u32.wrap (qd (IntKind.u64.wrap ((IntKind.u64.wrap p0x)*(IntKind.u64.wrap p1y))) 32),IntKind.u32.wrap (IntKind.u64.wrap ((IntKind.u64.wrap p0x)*(IntKind.u64.wrap p1y))))
def kT (p0x:Int) (p1y:Int):Option (Int×Int):=
 some (IntKind.u64.wrap ((IntKind.u64.wrap ((IntKind.u64.wrap ((qd p0x 32)*(qd p1y 32)))+(qd (IntKind.u64.wrap ((IntKind.u64.wrap ((qd p0x 32)*(Li p1y 4294967295)))+(qd (IntKind.u64.wrap ((Li p0x 4294967295)*(Li p1y 4294967295))) 32))) 32)))+(qd (IntKind.u64.wrap ((Li (IntKind.u64.wrap ((IntKind.u64.wrap ((qd p0x 32)*(Li p1y 4294967295)))+(qd (IntKind.u64.wrap ((Li p0x 4294967295)*(Li p1y 4294967295))) 32))) 4294967295)+(IntKind.u64.wrap ((Li p0x 4294967295)*(qd p1y 32))))) 32)),IntKind.u64.wrap (p0x*p1y))
def mA (p0x:Int) (p1y:Int):Option (Int×Int):=
 (kT p0x p1y).bind fun r1=>some (r1.1,r1.2)
def jT (s4:Int×List Int):Option (Out (List Int) (Int×List Int)):=
 if decide (s4.1<(s4.2.length:Int)) then ((chk (And (0<=s4.1) (s4.1<=(s4.2.length:Int)))).bind fun _=>(chk (And (0<=s4.1) (s4.1<=(s4.2.length:Int)))).bind fun _=>(chk (And (0<=s4.1) (s4.1<=(s4.2.length:Int)))).bind fun _=>(chk (And (0<=s4.1) (s4.1<=(s4.2.length:Int)))).bind fun _=>some (.nxt (IntKind.i64.wrap (s4.1+((Min.min ((s4.2.take s4.1.toNat).length) (s4.2.length - s4.1.toNat):Nat):Int)),xT s4.2 s4.1.toNat (s4.2.take s4.1.toNat)))) else (some (.brk (s4.1,s4.2)))
def fL (p0x:List Int) (p1count:Int):Option (List Int):=
 if decide (p1count<0) then (none) else ((mA (IntKind.u64.wrap (p0x.length:Int)) (IntKind.u64.wrap p1count)).bind fun r0=>if decide (r0.1>0) then (none) else (if decide (r0.2>9223372036854775807) then (none) else ((mkI 8 (IntKind.i64.wrap r0.2) 0).bind fun z1=>aH (aq (jT) aS (((Min.min p0x.length (z1.length - 0):Nat):Int),xT z1 0 p0x)) (fun r13=>some r13) (fun s14=>some s14.2))))
def qQ:Option Yq2:=
 (fL ([-1]) 9).bind fun r1=>some (0,[false],[r1])
def cM (p0s:List Int) (p1v:Int) (s3:Int):Option (Out Int Int):=
 if decide (s3<(p0s.length:Int)) then ((aK p0s s3).bind fun x3=>if p1v==x3 then (some (.ret s3)) else (some (.nxt (IntKind.i64.wrap (s3+1))))) else (some (.brk s3))
def dj (p0s:List Int) (p1v:Int):Option Int:=
 aH (aq (cM p0s p1v) aS 0) (fun r=>some r) (fun s4=>some (-1))
def aM (p0class:Int) (q0:List Int):Option Int:=
 (dj q0 p0class).bind fun r1=>some r1
def bT (p0c:Int) (q0:Int×(List Bool)×(List (List Int))) (q1:Int->Option Int):Option Bool:=
 (q1 p0c).bind fun r1=>(aK q0.2.1 r1).bind fun x1=>some x1
def dA (p0a:Int×(List Bool)×(List (List Int))) (p1s:Int) (p2letter:Int):Option Int:=
 if decide (p1s<0) then (some (-1)) else ((gU p2letter).bind fun r1=>if r1 then ((aK p0a.2.2 p1s).bind fun x1=>(aK x1 p2letter).bind fun x2=>some x2) else (some (-1)))
def bU (p0c:Int) (p1letter:Int) (q0:Int×(List Bool)×(List (List Int))) (q1:Int->Option Int) (q2:List Int):Option (Int×Bool):=
 (q1 p0c).bind fun r1=>(dA (q0.1,q0.2.1,q0.2.2) r1 p1letter).bind fun r2=>if decide (r2<0) then (some (0,false)) else ((aK q2 r2).bind fun x1=>if decide (x1<0) then (some (0,false)) else ((aK q2 r2).bind fun x2=>some (x2,true)))
def ct (p0a:Int×(List Bool)×(List (List Int))):Option Yq2:=
 (cH (p0a.1,p0a.2.1,p0a.2.2)).bind fun r1=>(aK r1 p0a.1).bind fun x1=>if decide (x1<0) then ((qQ).bind fun r3=>some (r3.1,r3.2.1,r3.2.2)) else ((aK r1 p0a.1).bind fun x2=>(dt x2 (r1.length:Int) (fun a0=>bT a0 (p0a.1,p0a.2.1,p0a.2.2) (fun a0=>aM a0 r1)) (fun a0 a1=>bU a0 a1 (p0a.1,p0a.2.1,p0a.2.2) (fun a0=>aM a0 r1) r1)).bind fun r2=>some (r2.1.1,r2.1.2.1,r2.1.2.2))
def wG (p0a:Int×(List Bool)×(List (List Int))):Option (Yq2×Bool):=
 (ct (p0a.1,p0a.2.1,p0a.2.2)).bind fun r1=>if decide ((r1.2.1.length:Int)>12) then (some ((0,[],[]),false)) else (some ((r1.1,r1.2.1,r1.2.2),true))
def fM (p0e:(List Yq1)):Option (Yq2×Bool):=
 (fp p0e).bind fun r1=>if r1.2 then ((fJ (r1.1.1,r1.1.2.1,r1.1.2.2.1,r1.1.2.2.2.1,r1.1.2.2.2.2) 200).bind fun r2=>if r2.2 then ((wG (r2.1.1,r2.1.2.1,r2.1.2.2)).bind fun r3=>some ((r3.1.1,r3.1.2.1,r3.1.2.2),r3.2)) else (some ((0,[],[]),false))) else (some ((0,[],[]),false))
def bm (p0s:List Yq2) (p1f:Yq2->Option Bool) (s3:Int):Option (Out Int Int):=
 if decide (s3<(p0s.length:Int)) then ((aK p0s s3).bind fun x3=>(p1f (x3.1,x3.2.1,x3.2.2)).bind fun r9=>if r9 then (some (.ret s3)) else (some (.nxt (IntKind.i64.wrap (s3+1))))) else (some (.brk s3))
def aJ (p0s:List Yq2) (p1f:Yq2->Option Bool):Option Int:=
 aH (aq (bm p0s p1f) aS 0) (fun r=>some r) (fun s4=>some (-1))
def bE (p0s1:List Bool) (p1s2:List Bool) (s3:Int):Option (Out Bool Int):=
 if decide (s3<(p0s1.length:Int)) then ((aK p0s1 s3).bind fun x5=>(aK p1s2 s3).bind fun x6=>if x5 !=x6 then (some (.ret false)) else (some (.nxt (IntKind.i64.wrap (s3+1))))) else (some (.brk s3))
def cR (p0s1:List Bool) (p1s2:List Bool):Option Bool:=
 if (p0s1.length:Int) !=(p1s2.length:Int) then (some false) else (aH (aq (bE p0s1 p1s2) aS 0) (fun r=>some r) (fun s4=>some true))
def aI (p0s1:List (List Int)) (p1s2:List (List Int)) (p2eq:(List Int)->(List Int)->Option Bool) (s3:Int):Option (Out Bool Int):=
 if decide (s3<(p0s1.length:Int)) then ((aK p0s1 s3).bind fun x5=>(aK p1s2 s3).bind fun x6=>(p2eq x5 x6).bind fun r9=>if r9 then (some (.nxt (IntKind.i64.wrap (s3+1)))) else (some (.ret false))) else (some (.brk s3))
def bf (p0s1:List (List Int)) (p1s2:List (List Int)) (p2eq:(List Int)->(List Int)->Option Bool):Option Bool:=
 if (p0s1.length:Int) !=(p1s2.length:Int) then (some false) else (aH (aq (aI p0s1 p1s2 p2eq) aS 0) (fun r=>some r) (fun s4=>some true))
def eT (p0x:List Int) (p1y:List Int):Option Bool:=
 (bF p0x p1y).bind fun r1=>some r1
def cW (p0a:Int×(List Bool)×(List (List Int))) (p1b:Int×(List Bool)×(List (List Int))):Option Bool:=
 if p0a.1==p1b.1 then ((cR p0a.2.1 p1b.2.1).bind fun r1=>if r1 then ((bf p0a.2.2 p1b.2.2 (fun a0 a1=>eT a0 a1)).bind fun r2=>some r2) else (some false)) else (some false)
def jU (p0b:Int×(List Bool)×(List (List Int))) (q0:Int×(List Bool)×(List (List Int))):Option Bool:=
 (cW (q0.1,q0.2.1,q0.2.2) (p0b.1,p0b.2.1,p0b.2.2)).bind fun r1=>some r1
def jV (p0e:(List Yq1)):Option (List Yq1):=
 (cS 32 ([] :List Yq1) p0e).bind fun z1=>some z1
def iI (p0:List Yq3) (s7:Int×(List Yq2)×(List Yq3)):Option (Out (Yq6×Bool) (Int×(List Yq2)×(List Yq3))):=
 if decide (s7.1<(p0.length:Int)) then ((aK p0 s7.1).bind fun x5=>(fM x5.2.1).bind fun r16=>if r16.2 then ((bB x5.1 1 99).bind fun r17=>if r17 then (if decide (s7.1>0) then ((aK p0 (IntKind.i64.wrap (s7.1 - 1))).bind fun x6=>if decide (x6.1≥x5.1) then (some (.ret (([],[]),false))) else ((aJ s7.2.1 (fun a0=>jU a0 (r16.1.1,r16.1.2.1,r16.1.2.2))).bind fun r20=>Option.bind ((if decide (r20<0) then ((cS 56 s7.2.1 ([(r16.1.1,r16.1.2.1,r16.1.2.2)])).bind fun z17=>some ((s7.2.1.length:Int),z17,s7.2.2)) else (some (r20,s7.2.1,s7.2.2)):Option (Int×(List Yq2)×(List Yq3)))) (fun s10=>(jV x5.2.1).bind fun r21=>(cS 40 s10.2.2 ([(x5.1,r21,s10.1)])).bind fun z18=>some (.nxt (IntKind.i64.wrap (s7.1+1),s10.2.1,z18))))) else ((aJ s7.2.1 (fun a0=>jU a0 (r16.1.1,r16.1.2.1,r16.1.2.2))).bind fun r18=>Option.bind ((if decide (r18<0) then ((cS 56 s7.2.1 ([(r16.1.1,r16.1.2.1,r16.1.2.2)])).bind fun z14=>some ((s7.2.1.length:Int),z14,s7.2.2)) else (some (r18,s7.2.1,s7.2.2)):Option (Int×(List Yq2)×(List Yq3)))) (fun s9=>(jV x5.2.1).bind fun r19=>(cS 40 s9.2.2 ([(x5.1,r19,s9.1)])).bind fun z15=>some (.nxt (IntKind.i64.wrap (s7.1+1),s9.2.1,z15))))) else (some (.ret (([],[]),false)))) else (some (.ret (([],[]),false)))) else (some (.brk (s7.1,s7.2.1,s7.2.2)))
def pT (p0:List Yq3):Option (Yq6×Bool):=
 aH (aq (iI p0) aS (0,[],[])) (fun r=>some r) (fun s8=>some ((s8.2.1,s8.2.2),decide ((p0.length:Int)<=4)))
def aB (p0s1:List Yq2) (p1s2:List Yq2) (p2eq:Yq2->Yq2->Option Bool) (s3:Int):Option (Out Bool Int):=
 if decide (s3<(p0s1.length:Int)) then ((aK p0s1 s3).bind fun x5=>(aK p1s2 s3).bind fun x6=>(p2eq (x5.1,x5.2.1,x5.2.2) (x6.1,x6.2.1,x6.2.2)).bind fun r15=>if r15 then (some (.nxt (IntKind.i64.wrap (s3+1)))) else (some (.ret false))) else (some (.brk s3))
def aG (p0s1:List Yq2) (p1s2:List Yq2) (p2eq:Yq2->Yq2->Option Bool):Option Bool:=
 if (p0s1.length:Int) !=(p1s2.length:Int) then (some false) else (aH (aq (aB p0s1 p1s2 p2eq) aS 0) (fun r=>some r) (fun s4=>some true))
def az (p0s1:List Yq3) (p1s2:List Yq3) (p2eq:Yq3->Yq3->Option Bool) (s3:Int):Option (Out Bool Int):=
 if decide (s3<(p0s1.length:Int)) then ((aK p0s1 s3).bind fun x5=>(aK p1s2 s3).bind fun x6=>(p2eq (x5.1,x5.2.1,x5.2.2) (x6.1,x6.2.1,x6.2.2)).bind fun r9=>if r9 then (some (.nxt (IntKind.i64.wrap (s3+1)))) else (some (.ret false))) else (some (.brk s3))
def aE (p0s1:List Yq3) (p1s2:List Yq3) (p2eq:Yq3->Yq3->Option Bool):Option Bool:=
 if (p0s1.length:Int) !=(p1s2.length:Int) then (some false) else (aH (aq (az p0s1 p1s2 p2eq) aS 0) (fun r=>some r) (fun s4=>some true))
def bw (p0s1:List Yq1) (p1s2:List Yq1) (s3:Int):Option (Out Bool Int):=
 if decide (s3<(p0s1.length:Int)) then ((aK p0s1 s3).bind fun x5=>(aK p1s2 s3).bind fun x6=>if (x5.1==x6.1)&&((x5.2.1==x6.2.1)&&((x5.2.2.1==x6.2.2.1)&&((x5.2.2.2==x6.2.2.2)&&true))) then (some (.nxt (IntKind.i64.wrap (s3+1)))) else (some (.ret false))) else (some (.brk s3))
def bI (p0s1:List Yq1) (p1s2:List Yq1):Option Bool:=
 if (p0s1.length:Int) !=(p1s2.length:Int) then (some false) else (aH (aq (bw p0s1 p1s2) aS 0) (fun r=>some r) (fun s4=>some true))
def jI (p0a:(List Yq1)) (p1b:(List Yq1)):Option Bool:=
 (bI p0a p1b).bind fun r1=>some r1
def fc (p0a:Int×((List Yq1))×Int) (p1b:Int×((List Yq1))×Int):Option Bool:=
 if p0a.1==p1b.1 then ((jI p0a.2.1 p1b.2.1).bind fun r1=>if r1 then (some (p0a.2.2==p1b.2.2)) else (some false)) else (some false)
def eU (p0a:(List Yq2)×(List Yq3)) (p1b:(List Yq2)×(List Yq3)):Option Bool:=
 (aG p0a.1 p1b.1 (fun a0 a1=>cW a0 a1)).bind fun r1=>if r1 then ((aE p0a.2 p1b.2 (fun a0 a1=>fc a0 a1)).bind fun r2=>some r2) else (some false)
def eV (p0r:(List Yq2)×(List Yq3)):Option Bool:=
 (pT p0r.2).bind fun r1=>if r1.2 then ((eU (r1.1.1,r1.1.2) (p0r.1,p0r.2)).bind fun r2=>some r2) else (some false)
def ga (p0h:Int×(List Yq5)):Option Int:=
 (m_i_IsValidHistory (p0h.1,p0h.2)).bind fun r1=>if r1 then (some (IntKind.i64.wrap ((IntKind.i64.wrap (p0h.1+(p0h.2.length:Int))) - 1))) else (some 0)
def aQ (p0s:List Yq3) (p1f:Yq3->Option Bool) (s3:Int):Option (Out Int Int):=
 if decide (s3<(p0s.length:Int)) then ((aK p0s s3).bind fun x3=>(p1f (x3.1,x3.2.1,x3.2.2)).bind fun r6=>if r6 then (some (.ret s3)) else (some (.nxt (IntKind.i64.wrap (s3+1))))) else (some (.brk s3))
def bt (p0s:List Yq3) (p1f:Yq3->Option Bool):Option Int:=
 aH (aq (aQ p0s p1f) aS 0) (fun r=>some r) (fun s4=>some (-1))
def iJ (p0q:Int×((List Yq1))×Int) (q0:Int):Option Bool:=
 some (p0q.1==q0)
def iK (p0r:(List Yq2)×(List Yq3)) (p1id:Int):Option Int:=
 (bt p0r.2 (fun a0=>iJ a0 p1id)).bind fun r1=>some r1
def dB (p0:ByteArray) (p1:Int):Option Int:=R.sY p0 p1
def j8 (p0:Int):Option (ByteArray):=R.Ng p0
def cx (p0n:Int):Option ByteArray:=
 (j8 p0n).bind fun r0=>some r0
def gx (p0e:Int×Int×Int×Int):Option ByteArray:=
 (gT (p0e.1,p0e.2.1,p0e.2.2.1,p0e.2.2.2) 5).bind fun r0=>if r0 then ((cx p0e.1).bind fun r9=>(j5 r9 (⟨#[58]⟩)).bind fun z10=>(cx p0e.2.1).bind fun r11=>(j5 z10 r11).bind fun z12=>(l6 (⟨#[97,98,99]⟩) p0e.2.2.2 (IntKind.i64.wrap (p0e.2.2.2+1))).bind fun z13=>(j5 z12 z13).bind fun z14=>(cx p0e.2.2.1).bind fun r15=>(j5 z14 r15).bind fun z16=>some z16) else (some ((⟨#[]⟩:ByteArray)))
def gE (p0:List ByteArray) (p1:ByteArray):Option (ByteArray):=R.Nf p0 p1
def dC (p0b:List Yq4) (s1:(List ByteArray)×Int):Option (Out ByteArray ((List ByteArray)×Int)):=
 if decide (s1.2<(p0b.length:Int)) then (De (S:=List ByteArray) ((aK p0b s1.2).bind fun x2=>(gx (x2.2.1,x2.2.2.1,x2.2.2.2.1,x2.2.2.2.2)).bind fun r3=>if r3==((⟨#[]⟩:ByteArray)) then (some (.inl (.ret ((⟨#[]⟩:ByteArray))))) else (if x2.1 then ((j5 (⟨#[43]⟩) r3).bind fun z4=>(cS 16 s1.1 ([z4])).bind fun z5=>some (.inr z5)) else ((j5 (⟨#[45]⟩) r3).bind fun z6=>(cS 16 s1.1 ([z6])).bind fun z7=>some (.inr z7)))) (fun s8=>some (.nxt (s8,IntKind.i64.wrap (s1.2+1))))) else (some (.brk (s1.1,s1.2)))
def c8 (p0b:List Yq4):Option ByteArray:=
 if decide ((p0b.length:Int)>6) then (some ((⟨#[]⟩:ByteArray))) else (aH (aq (dC p0b) aS (([] :List ByteArray),0)) (fun r9=>some r9) (fun s10=>(gE s10.1 (⟨#[32]⟩)).bind fun r11=>some r11))
def kU (p0s:ByteArray) (s1:Int×Int):Option Yq9:=
 if decide (s1.2<((p0s.size:Nat):Int)) then ((gN p0s s1.2).bind fun z2=>some (.nxt (Int.tmod (IntKind.i64.wrap ((IntKind.i64.wrap ((IntKind.i64.wrap (257*s1.1))+(IntKind.i64.wrap z2)))+1)) 9973,IntKind.i64.wrap (s1.2+1)))) else (some (.brk (s1.1,s1.2)))
def gW (p0s:ByteArray):Option Int:=
 aH (aq (kU p0s) aS (1,0)) (fun r3=>some r3) (fun s4=>some s4.1)
def fe (p0version:Int) (p1b:List Yq4):Option ByteArray:=
 (c8 p1b).bind fun r0=>(bB p0version 1 999).bind fun r1=>if r1 then (if r0==((⟨#[]⟩:ByteArray)) then (if decide ((p1b.length:Int)>0) then (some ((⟨#[]⟩:ByteArray))) else ((cx p0version).bind fun r2=>(j5 r2 (⟨#[59]⟩)).bind fun z3=>(j5 z3 r0).bind fun z4=>(j5 z4 (⟨#[59]⟩)).bind fun z5=>(gW z5).bind fun r6=>(cx r6).bind fun r7=>(j5 z5 r7).bind fun z8=>(j5 z8 (⟨#[10]⟩)).bind fun z9=>some z9)) else ((cx p0version).bind fun r10=>(j5 r10 (⟨#[59]⟩)).bind fun z11=>(j5 z11 r0).bind fun z12=>(j5 z12 (⟨#[59]⟩)).bind fun z13=>(gW z13).bind fun r14=>(cx r14).bind fun r15=>(j5 z13 r15).bind fun z16=>(j5 z16 (⟨#[10]⟩)).bind fun z17=>some z17)) else (some ((⟨#[]⟩:ByteArray)))
def bV (p0 p1:ByteArray):Option (List ByteArray):=R.FG p0 p1
def eI (p0:ByteArray):Option (Int×Bool):=R.oQ p0
def cj (p0 p1:ByteArray):Option (ByteArray×ByteArray×Bool):=R.Sw p0 p1
def eW (p0s:ByteArray):Option (Yq1×Bool):=
 (cj p0s (⟨#[58]⟩)).bind fun r0=>if ((r0.2.1.size:Nat):Int) !=3 then (some ((0,0,0,0),false)) else ((gN r0.2.1 0).bind fun z4=>(gN r0.2.1 1).bind fun z5=>(gN r0.2.1 2).bind fun z6=>(eI r0.1).bind fun r7=>(gx (r7.1,IntKind.i64.wrap ((IntKind.i64.wrap z4) - 48),IntKind.i64.wrap ((IntKind.i64.wrap z6) - 48),IntKind.i64.wrap ((IntKind.i64.wrap z5) - 97))).bind fun r8=>if r8 !=p0s then (some ((0,0,0,0),false)) else (some ((r7.1,IntKind.i64.wrap ((IntKind.i64.wrap z4) - 48),IntKind.i64.wrap ((IntKind.i64.wrap z6) - 48),IntKind.i64.wrap ((IntKind.i64.wrap z5) - 97)),true)))
def bW (r0:List ByteArray) (s3:Int×List Yq4):Option (Out ((List Yq4)×Bool) (Int×List Yq4)):=
 if decide (s3.1<(r0.length:Int)) then ((aK r0 s3.1).bind fun x4=>if x4==((⟨#[]⟩:ByteArray)) then (some (.ret (([] :List Yq4),false))) else ((l6 x4 1 ((x4.size:Nat):Int)).bind fun z5=>(eW z5).bind fun r6=>if r6.2 then ((gN x4 0).bind fun z9=>(cS 40 s3.2 ([(z9==43,r6.1.1,r6.1.2.1,r6.1.2.2.1,r6.1.2.2.2)])).bind fun z10=>some (.nxt (IntKind.i64.wrap (s3.1+1),z10))) else (some (.ret (([] :List Yq4),false))))) else (some (.brk (s3.1,s3.2)))
def cU (p0s:ByteArray):Option ((List Yq4)×Bool):=
 if p0s==((⟨#[]⟩:ByteArray)) then (some (([] :List Yq4),true)) else ((bV p0s (⟨#[32]⟩)).bind fun r0=>aH (aq (bW r0) aS (0,([] :List Yq4))) (fun r11=>some r11) (fun s12=>(c8 s12.2).bind fun r13=>if r13 !=p0s then (some (([] :List Yq4),false)) else (some (s12.2,true))))
def gF (p0s:ByteArray):Option (Int×(List Yq4)×Bool):=
 (bV p0s (⟨#[59]⟩)).bind fun r0=>if (r0.length:Int) !=3 then (some (0,([] :List Yq4),false)) else ((aK r0 0).bind fun x1=>(eI x1).bind fun r2=>(aK r0 1).bind fun x3=>(cU x3).bind fun r4=>if r2.2 then (if r4.2 then ((fe r2.1 r4.1).bind fun r5=>if r5 !=p0s then (some (0,([] :List Yq4),false)) else (some (r2.1,r4.1,true))) else (some (0,([] :List Yq4),false))) else (some (0,([] :List Yq4),false)))
def bL (p0:ByteArray) (s1:(List Int)×(List (List Yq4))×Int):Option (Out ((List Int)×(List (List Yq4))×Int) ((List Int)×(List (List Yq4))×Int)):=
 if decide (((p0.size:Nat):Int)<=4000) then ((l6 p0 s1.2.2 ((p0.size:Nat):Int)).bind fun z2=>(dB z2 10).bind fun r3=>if decide (r3<0) then (some (.brk (s1.1,s1.2.1,s1.2.2))) else ((l6 p0 s1.2.2 (IntKind.i64.wrap ((IntKind.i64.wrap (s1.2.2+r3))+1))).bind fun z4=>(gF z4).bind fun r5=>if r5.2.2 then (if decide ((s1.1.length:Int)>0) then ((aK s1.1 (IntKind.i64.wrap ((s1.1.length:Int) - 1))).bind fun x6=>if r5.1 !=(IntKind.i64.wrap (x6+1)) then (some (.brk (s1.1,s1.2.1,s1.2.2))) else ((cS 8 s1.1 ([r5.1])).bind fun z7=>(cS 24 s1.2.1 ([r5.2.1])).bind fun z8=>some (.nxt (z7,z8,IntKind.i64.wrap (s1.2.2+(IntKind.i64.wrap (r3+1))))))) else ((cS 8 s1.1 ([r5.1])).bind fun z9=>(cS 24 s1.2.1 ([r5.2.1])).bind fun z10=>some (.nxt (z9,z10,IntKind.i64.wrap (s1.2.2+(IntKind.i64.wrap (r3+1))))))) else (some (.brk (s1.1,s1.2.1,s1.2.2))))) else (some (.brk (s1.1,s1.2.1,s1.2.2)))
def m_i_ScanLog (p0:ByteArray):Option ((List Int)×(List (List Yq4))×Int):=
 aH (aq (bL p0) aS (([] :List Int),([] :List (List Yq4)),0)) (fun r11=>some r11) (fun s12=>some (s12.1,s12.2.1,s12.2.2))
def bH (p0:FK×Yq6×(List Yq8)×ByteArray) (r3:Int) (s3:Int):Option (Out Bool Int):=
 if decide (s3<(p0.2.2.1.length:Int)) then ((aK p0.2.2.1 s3).bind fun x5=>(bB x5.1 1 99).bind fun r14=>if r14 then (if decide (s3>0) then ((aK p0.2.2.1 (IntKind.i64.wrap (s3 - 1))).bind fun x6=>if decide (x6.1≥x5.1) then (some (.ret false)) else ((iK (p0.2.1.1,p0.2.1.2) x5.2.1).bind fun r17=>if decide (r17<0) then (some (.ret false)) else ((bB x5.2.2 0 r3).bind fun r18=>if r18 then (some (.nxt (IntKind.i64.wrap (s3+1)))) else (some (.ret false))))) else ((iK (p0.2.1.1,p0.2.1.2) x5.2.1).bind fun r15=>if decide (r15<0) then (some (.ret false)) else ((bB x5.2.2 0 r3).bind fun r16=>if r16 then (some (.nxt (IntKind.i64.wrap (s3+1)))) else (some (.ret false))))) else (some (.ret false))) else (some (.brk s3))
def gb (p0:FK×Yq6×(List Yq8)×ByteArray):Option Bool:=
 (m_i_IsValidHistory (p0.1.1,p0.1.2)).bind fun r1=>if r1 then ((eV (p0.2.1.1,p0.2.1.2)).bind fun r2=>if r2 then (if decide ((p0.2.2.1.length:Int)>4) then (some false) else (if decide ((p0.2.2.2.size:Int)>4000) then (some false) else ((ga (p0.1.1,p0.1.2)).bind fun r3=>aH (aq (bH p0 r3) aS 0) (fun r=>some r) (fun s4=>(m_i_ScanLog p0.2.2.2).bind fun r19=>if r19.2.2==(p0.2.2.2.size:Int) then (if (r19.1.length:Int)==0 then (some true) else ((aK r19.1 (IntKind.i64.wrap ((r19.1.length:Int) - 1))).bind fun x7=>some (x7==r3))) else (some false))))) else (some false)) else (some false)
def ku (p0a:List Int) (p1b:List Int) (s3:Int):Option (Out Bool Int):=
 if decide (s3<(p0a.length:Int)) then ((aK p0a s3).bind fun x5=>(aK p1b s3).bind fun x6=>if x5 !=x6 then (some (.ret false)) else (some (.nxt (IntKind.i64.wrap (s3+1))))) else (some (.brk s3))
def pU (p0a:List Int) (p1b:List Int):Option Bool:=
 if (p0a.length:Int) !=(p1b.length:Int) then (some false) else (aH (aq (ku p0a p1b) aS 0) (fun r=>some r) (fun s4=>some true))
def pV (p0a:Int×Int×Int×Int) (p1b:Int×Int×Int×Int):Option Bool:=
 if p0a.1 !=p1b.1 then (some false) else (if p0a.2.1 !=p1b.2.1 then (some false) else (if p0a.2.2.1 !=p1b.2.2.1 then (some false) else (if p0a.2.2.2 !=p1b.2.2.2 then (some false) else (some true))))
def jJ (p0a:List Yq1) (p1b:List Yq1) (s3:Int):Option (Out Bool Int):=
 if decide (s3<(p0a.length:Int)) then ((aK p0a s3).bind fun x5=>(aK p1b s3).bind fun x6=>(pV (x5.1,x5.2.1,x5.2.2.1,x5.2.2.2) (x6.1,x6.2.1,x6.2.2.1,x6.2.2.2)).bind fun r3=>if r3 then (some (.nxt (IntKind.i64.wrap (s3+1)))) else (some (.ret false))) else (some (.brk s3))
def qR (p0a:List Yq1) (p1b:List Yq1):Option Bool:=
 if (p0a.length:Int) !=(p1b.length:Int) then (some false) else (aH (aq (jJ p0a p1b) aS 0) (fun r=>some r) (fun s4=>some true))
def nD (p0a:(List Int)×(List Yq1)) (p1b:(List Int)×(List Yq1)):Option Bool:=
 (pU p0a.1 p1b.1).bind fun r1=>if r1 then ((qR p0a.2 p1b.2).bind fun r2=>if r2 then (some true) else (some false)) else (some false)
def iL (p0a:List Yq5) (p1b:List Yq5) (s3:Int):Option (Out Bool Int):=
 if decide (s3<(p0a.length:Int)) then ((aK p0a s3).bind fun x5=>(aK p1b s3).bind fun x6=>(nD (x5.1,x5.2) (x6.1,x6.2)).bind fun r15=>if r15 then (some (.nxt (IntKind.i64.wrap (s3+1)))) else (some (.ret false))) else (some (.brk s3))
def oT (p0a:List Yq5) (p1b:List Yq5):Option Bool:=
 if (p0a.length:Int) !=(p1b.length:Int) then (some false) else (aH (aq (iL p0a p1b) aS 0) (fun r=>some r) (fun s4=>some true))
def ky (p0a:Int×(List Yq5)) (p1b:Int×(List Yq5)):Option Bool:=
 if p0a.1 !=p1b.1 then (some false) else ((oT p0a.2 p1b.2).bind fun r1=>if r1 then (some true) else (some false))
def jK (p0a:List Bool) (p1b:List Bool) (s3:Int):Option (Out Bool Int):=
 if decide (s3<(p0a.length:Int)) then ((aK p0a s3).bind fun x5=>(aK p1b s3).bind fun x6=>if x5 !=x6 then (some (.ret false)) else (some (.nxt (IntKind.i64.wrap (s3+1))))) else (some (.brk s3))
def qS (p0a:List Bool) (p1b:List Bool):Option Bool:=
 if (p0a.length:Int) !=(p1b.length:Int) then (some false) else (aH (aq (jK p0a p1b) aS 0) (fun r=>some r) (fun s4=>some true))
def jL (p0a:List (List Int)) (p1b:List (List Int)) (s3:Int):Option (Out Bool Int):=
 if decide (s3<(p0a.length:Int)) then ((aK p0a s3).bind fun x5=>(aK p1b s3).bind fun x6=>(pU x5 x6).bind fun r9=>if r9 then (some (.nxt (IntKind.i64.wrap (s3+1)))) else (some (.ret false))) else (some (.brk s3))
def qT (p0a:List (List Int)) (p1b:List (List Int)):Option Bool:=
 if (p0a.length:Int) !=(p1b.length:Int) then (some false) else (aH (aq (jL p0a p1b) aS 0) (fun r=>some r) (fun s4=>some true))
def iM (p0a:Int×(List Bool)×(List (List Int))) (p1b:Int×(List Bool)×(List (List Int))):Option Bool:=
 if p0a.1 !=p1b.1 then (some false) else ((qS p0a.2.1 p1b.2.1).bind fun r1=>if r1 then ((qT p0a.2.2 p1b.2.2).bind fun r2=>if r2 then (some true) else (some false)) else (some false))
def eX (p0a:List Yq2) (p1b:List Yq2) (s3:Int):Option (Out Bool Int):=
 if decide (s3<(p0a.length:Int)) then ((aK p0a s3).bind fun x5=>(aK p1b s3).bind fun x6=>(iM (x5.1,x5.2.1,x5.2.2) (x6.1,x6.2.1,x6.2.2)).bind fun r15=>if r15 then (some (.nxt (IntKind.i64.wrap (s3+1)))) else (some (.ret false))) else (some (.brk s3))
def j9 (p0a:List Yq2) (p1b:List Yq2):Option Bool:=
 if (p0a.length:Int) !=(p1b.length:Int) then (some false) else (aH (aq (eX p0a p1b) aS 0) (fun r=>some r) (fun s4=>some true))
def nE (p0a:Int×Int×Int×Int) (p1b:Int×Int×Int×Int):Option Bool:=
 if p0a.1 !=p1b.1 then (some false) else (if p0a.2.1 !=p1b.2.1 then (some false) else (if p0a.2.2.1 !=p1b.2.2.1 then (some false) else (if p0a.2.2.2 !=p1b.2.2.2 then (some false) else (some true))))
def iN (p0a:List Yq1) (p1b:List Yq1) (s3:Int):Option (Out Bool Int):=
 if decide (s3<(p0a.length:Int)) then ((aK p0a s3).bind fun x5=>(aK p1b s3).bind fun x6=>(nE (x5.1,x5.2.1,x5.2.2.1,x5.2.2.2) (x6.1,x6.2.1,x6.2.2.1,x6.2.2.2)).bind fun r3=>if r3 then (some (.nxt (IntKind.i64.wrap (s3+1)))) else (some (.ret false))) else (some (.brk s3))
def oU (p0a:List Yq1) (p1b:List Yq1):Option Bool:=
 if (p0a.length:Int) !=(p1b.length:Int) then (some false) else (aH (aq (iN p0a p1b) aS 0) (fun r=>some r) (fun s4=>some true))
def pW (p0a:(List Yq1)) (p1b:(List Yq1)):Option Bool:=
 (oU p0a p1b).bind fun r1=>if r1 then (some true) else (some false)
def gG (p0a:Int×((List Yq1))×Int) (p1b:Int×((List Yq1))×Int):Option Bool:=
 if p0a.1 !=p1b.1 then (some false) else ((pW p0a.2.1 p1b.2.1).bind fun r1=>if r1 then (if p0a.2.2 !=p1b.2.2 then (some false) else (some true)) else (some false))
def dR (p0a:List Yq3) (p1b:List Yq3) (s3:Int):Option (Out Bool Int):=
 if decide (s3<(p0a.length:Int)) then ((aK p0a s3).bind fun x5=>(aK p1b s3).bind fun x6=>(gG (x5.1,x5.2.1,x5.2.2) (x6.1,x6.2.1,x6.2.2)).bind fun r9=>if r9 then (some (.nxt (IntKind.i64.wrap (s3+1)))) else (some (.ret false))) else (some (.brk s3))
def jk (p0a:List Yq3) (p1b:List Yq3):Option Bool:=
 if (p0a.length:Int) !=(p1b.length:Int) then (some false) else (aH (aq (dR p0a p1b) aS 0) (fun r=>some r) (fun s4=>some true))
def jM (p0a:(List Yq2)×(List Yq3)) (p1b:(List Yq2)×(List Yq3)):Option Bool:=
 (j9 p0a.1 p1b.1).bind fun r1=>if r1 then ((jk p0a.2 p1b.2).bind fun r2=>if r2 then (some true) else (some false)) else (some false)
def gH (p0a:Int×Int×Int) (p1b:Int×Int×Int):Option Bool:=
 if p0a.1 !=p1b.1 then (some false) else (if p0a.2.1 !=p1b.2.1 then (some false) else (if p0a.2.2 !=p1b.2.2 then (some false) else (some true)))
def dS (p0a:List Yq8) (p1b:List Yq8) (s3:Int):Option (Out Bool Int):=
 if decide (s3<(p0a.length:Int)) then ((aK p0a s3).bind fun x5=>(aK p1b s3).bind fun x6=>(gH (x5.1,x5.2.1,x5.2.2) (x6.1,x6.2.1,x6.2.2)).bind fun r3=>if r3 then (some (.nxt (IntKind.i64.wrap (s3+1)))) else (some (.ret false))) else (some (.brk s3))
def jl (p0a:List Yq8) (p1b:List Yq8):Option Bool:=
 if (p0a.length:Int) !=(p1b.length:Int) then (some false) else (aH (aq (dS p0a p1b) aS 0) (fun r=>some r) (fun s4=>some true))
def lN (p0a:FK×Yq6×(List Yq8)×ByteArray) (p1b:FK×Yq6×(List Yq8)×ByteArray):Option Bool:=
 (ky (p0a.1.1,p0a.1.2) (p1b.1.1,p1b.1.2)).bind fun r1=>if r1 then ((jM (p0a.2.1.1,p0a.2.1.2) (p1b.2.1.1,p1b.2.1.2)).bind fun r2=>if r2 then ((jl p0a.2.2.1 p1b.2.2.1).bind fun r3=>if r3 then (if p0a.2.2.2 !=p1b.2.2.2 then (some false) else (some true)) else (some false)) else (some false)) else (some false)
def iO (p0e:(Int×List ((List Int)×List Yq1))×((List (Int×(List Bool)×List (List Int)))×List (Int×(List Yq1)×Int))×(List Yq8)×ByteArray) (p1n:Int):Option Int:=
 (fX ((p0e.1.1,p0e.1.2),(p0e.2.1.1,p0e.2.1.2),p0e.2.2.1,p0e.2.2.2)).bind fun r0=>if r0 then ((bY p1n 0 ((p0e.2.2.2.size:Nat):Int)).bind fun r1=>if r1 then ((m_s_ScanLog p0e.2.2.2).bind fun r2=>(l6 p0e.2.2.2 0 p1n).bind fun z3=>(m_s_ScanLog z3).bind fun r4=>some (IntKind.i64.wrap ((r2.1.length:Int) - (r4.1.length:Int)))) else (some (-1))) else (some (-1))
def iP (p0e:(Int×List ((List Int)×List Yq1))×((List (Int×(List Bool)×List (List Int)))×List (Int×(List Yq1)×Int))×(List Yq8)×ByteArray) (p1bytes:Int):Option Int:=
 (bB p1bytes 0 ((p0e.2.2.2.size:Nat):Int)).bind fun r0=>if r0 then ((gb ((p0e.1.1,p0e.1.2),(p0e.2.1.1,p0e.2.1.2),p0e.2.2.1,p0e.2.2.2)).bind fun r1=>if r1 then ((m_i_ScanLog p0e.2.2.2).bind fun r2=>(l6 p0e.2.2.2 0 p1bytes).bind fun z3=>(m_i_ScanLog z3).bind fun r4=>some (IntKind.i64.wrap ((r2.1.length:Int) - (r4.1.length:Int)))) else (some (-1))) else (some (-1))
def dh (p0aE:FK×Yq6×(List Yq8)×ByteArray) (p1aBytes:Int):Option Bool:=
 (lG ((p0aE.1.1,p0aE.1.2),(p0aE.2.1.1,p0aE.2.1.2),p0aE.2.2.1,p0aE.2.2.2) 1048576).bind fun r1=>if decide (r1<0) then (some true) else ((gS ((p0aE.1.1,p0aE.1.2),(p0aE.2.1.1,p0aE.2.1.2),p0aE.2.2.1,p0aE.2.2.2)).bind fun r2=>(iO ((r2.1.1,r2.1.2),(r2.2.1.1,r2.2.1.2),r2.2.2.1,r2.2.2.2) p1aBytes).bind fun r3=>(gS ((p0aE.1.1,p0aE.1.2),(p0aE.2.1.1,p0aE.2.1.2),p0aE.2.2.1,p0aE.2.2.2)).bind fun r4=>(iP ((r4.1.1,r4.1.2),(r4.2.1.1,r4.2.1.2),r4.2.2.1,r4.2.2.2) p1aBytes).bind fun r5=>if r5 !=r3 then (some false) else ((gS ((p0aE.1.1,p0aE.1.2),(p0aE.2.1.1,p0aE.2.1.2),p0aE.2.2.1,p0aE.2.2.2)).bind fun r6=>(lN ((r4.1.1,r4.1.2),(r4.2.1.1,r4.2.1.2),r4.2.2.1,r4.2.2.2) ((r6.1.1,r6.1.2),(r6.2.1.1,r6.2.1.2),r6.2.2.1,r6.2.2.2)).bind fun r7=>if r7 then (some true) else (some false)))
end D
namespace R
open Go.RowKit
open D
abbrev y3:Ty:=.int .i64
abbrev uL:Ty:=.prod y3 (.prod y3 (.prod y3 y3))
abbrev t274:Ty:=.tree 302 274 uL
abbrev DY:Ty:=.prod y3 (.prod y3 (.prod y3 y3))
abbrev Sx:Ty:=.sl 168 DY
abbrev y91:Ty:=.sl 3 y3
abbrev Nk:Ty:=.prod y91 Sx
abbrev Ua:Ty:=.prod y3 (.prod y3 y3)
abbrev y59:Ty:=.sl 161 uL
abbrev y61:Ty:=.wr y59
abbrev C5:Ty:=.prod y3 (.prod y61 y3)
abbrev Ub:Ty:=.prod y3 (.prod y3 (.prod y3 y3))
abbrev y4:Ty:=.bool
abbrev US:Ty:=.prod y4 DY
abbrev Tt:Ty:=.prod y3 (.prod y3 (.prod y3 y3))
abbrev UT:Ty:=.prod y4 Tt
abbrev Tu:Ty:=.sl 172 Tt
abbrev Tv:Ty:=.prod y91 Tu
abbrev DZ:Ty:=.sl 4 y4
abbrev JX:Ty:=.sl 91 y91
abbrev Tw:Ty:=.prod y3 (.prod DZ JX)
abbrev y54:Ty:=.sl 163 Ub
abbrev y56:Ty:=.wr y54
abbrev Tx:Ty:=.prod y3 (.prod y56 y3)
abbrev lO:Ty:=.prod y3 (.prod DZ JX)
abbrev y9:Ty:=.str
abbrev Uc:Ty:=.sl 9 y9
abbrev y22:Ty:=.sl 179 Tv
abbrev y5:Ty:=.int .u8
abbrev U9:Ty:=.sl 5 y5
abbrev FL:Ty:=.prod y91 (.prod y3 (.prod y3 (.prod y91 y4)))
abbrev y24:Ty:=.prod y3 y22
abbrev y25:Ty:=.sl 184 Tw
abbrev y26:Ty:=.sl 187 Tx
abbrev UU:Ty:=.prod y4 (.prod y3 y3)
abbrev UV:Ty:=.prod y3 (.prod y3 y4)
abbrev Ud:Ty:=.fro t274
abbrev y28:Ty:=.prod y25 y26
abbrev y29:Ty:=.sl 133 Ua
abbrev Sy:Ty:=.int .u64
abbrev Tz:Ty:=.sl 274 Ud
abbrev Va:Ty:=.prod uL Tz
abbrev y31:Ty:=.prod y24 (.prod y28 (.prod y29 y9))
abbrev Sz:Ty:=.int .u64
abbrev y34:Ty:=.sl 126 Nk
abbrev SA:Ty:=.int .u32
abbrev y36:Ty:=.prod y3 y34
abbrev y37:Ty:=.sl 189 lO
abbrev y38:Ty:=.sl 137 C5
abbrev y40:Ty:=.prod y37 y38
abbrev y88:Ty:=.prod y3 (.prod y3 y3)
abbrev y41:Ty:=.sl 88 y88
abbrev y43:Ty:=.prod y36 (.prod y40 (.prod y41 y9))
abbrev y66:Ty:=.sl 174 UT
abbrev y68:Ty:=.wr y66
abbrev y71:Ty:=.sl 170 US
abbrev y73:Ty:=.wr y71
abbrev y92:Ty:=.sl 73 y73
theorem ti3:TI Tryz.prog 3 false 1:=⟨⟨_,Tryz.underlying3,rfl⟩,by kernel_rfl⟩
theorem SB (a0:Int) (a1:Int) (a2:Int) (a3:Int) (b0:Int) (b1:Int) (b2:Int) (b3:Int) (w:World):EqT Tryz.prog 161 (.agg #[.int .i64 a0,.int .i64 a1,.int .i64 a2,.int .i64 a3]) (.agg #[.int .i64 b0,.int .i64 b1,.int .i64 b2,.int .i64 b3]) ((a0==b0)&&((a1==b1)&&((a2==b2)&&((a3==b3)&&true)))) w:=N7 w Tryz.underlying161 (by kernel_rfl) (by kernel_rfl) (lB rfl (kg ti3 rfl) (kg ti3 rfl) (run_equalIn_int w 9998 3 _ _ _ _ Tryz.underlying3) (lB rfl (kg ti3 rfl) (kg ti3 rfl) (run_equalIn_int w 9998 3 _ _ _ _ Tryz.underlying3) (lB rfl (kg ti3 rfl) (kg ti3 rfl) (run_equalIn_int w 9998 3 _ _ _ _ Tryz.underlying3) (lB rfl (kg ti3 rfl) (kg ti3 rfl) (run_equalIn_int w 9998 3 _ _ _ _ Tryz.underlying3) (H0 w)))))
theorem SC (a0:Int) (a1:Int) (a2:Int) (a3:Int) (b0:Int) (b1:Int) (b2:Int) (b3:Int) (w:World):EqT Tryz.prog 168 (.agg #[.int .i64 a0,.int .i64 a1,.int .i64 a2,.int .i64 a3]) (.agg #[.int .i64 b0,.int .i64 b1,.int .i64 b2,.int .i64 b3]) ((a0==b0)&&((a1==b1)&&((a2==b2)&&((a3==b3)&&true)))) w:=N7 w Tryz.underlying168 (by kernel_rfl) (by kernel_rfl) (lB rfl (kg ti3 rfl) (kg ti3 rfl) (run_equalIn_int w 9998 3 _ _ _ _ Tryz.underlying3) (lB rfl (kg ti3 rfl) (kg ti3 rfl) (run_equalIn_int w 9998 3 _ _ _ _ Tryz.underlying3) (lB rfl (kg ti3 rfl) (kg ti3 rfl) (run_equalIn_int w 9998 3 _ _ _ _ Tryz.underlying3) (lB rfl (kg ti3 rfl) (kg ti3 rfl) (run_equalIn_int w 9998 3 _ _ _ _ Tryz.underlying3) (H0 w)))))
theorem mz3 (w:World):(zeroValue 3).run Tryz.prog w= .ok (.int .i64 0) w:=by kernel_rfl
theorem kk3:KeyOk Tryz.prog 3 (fun n:Int=>Value.int .i64 n) PL iOk:=RM Tryz.underlying3
theorem ek3:EltOk Tryz.prog 3 (fun n:Int=>Value.int .i64 n) PL iOk 0:=RN Tryz.underlying3 mz3
def tt:TT:=[(3,⟨false,1,none,y3,[],some 8,none,false,none,none,some (some .i64),false,none⟩),
 (4,⟨false,1,none,y4,[],some 1,none,true,none,none,none,false,none⟩),
 (5,⟨false,1,none,y5,[],some 1,none,false,none,none,some (some .u8),false,none⟩),
 (9,⟨false,1,none,y9,[],some 16,none,false,none,none,some none,false,none⟩),
 (22,⟨false,1,some 179,y22,[],some 24,none,false,none,none,none,false,none⟩),
 (24,⟨true,2,none,y24,[(0,0),(1,0)],some 32,some [(0,1),(1,1)],false,none,none,none,false,none⟩),
 (25,⟨false,1,some 184,y25,[],some 24,none,false,none,none,none,false,none⟩),
 (26,⟨false,1,some 187,y26,[],some 24,none,false,none,none,none,false,none⟩),
 (28,⟨true,2,none,y28,[(0,0),(1,0)],some 48,some [(0,1),(1,1)],false,none,none,none,false,none⟩),
 (29,⟨false,1,some 133,y29,[],some 24,none,false,none,none,none,false,none⟩),
 (31,⟨true,6,none,y31,[(0,1),(2,1),(4,0),(5,0)],some 120,some [(0,2),(2,2),(4,1),(5,1)],false,none,none,none,false,none⟩),
 (34,⟨false,1,some 126,y34,[],some 24,none,false,none,none,none,false,none⟩),
 (36,⟨true,2,none,y36,[(0,0),(1,0)],some 32,some [(0,1),(1,1)],false,none,none,none,false,none⟩),
 (37,⟨false,1,some 189,y37,[],some 24,none,false,none,none,none,false,none⟩),
 (38,⟨false,1,some 137,y38,[],some 24,none,false,none,none,none,false,none⟩),
 (40,⟨true,2,none,y40,[(0,0),(1,0)],some 48,some [(0,1),(1,1)],false,none,none,none,false,none⟩),
 (41,⟨false,1,some 88,y41,[],some 24,none,false,none,none,none,false,none⟩),
 (43,⟨true,6,none,y43,[(0,1),(2,1),(4,0),(5,0)],some 120,some [(0,2),(2,2),(4,1),(5,1)],false,none,none,none,false,none⟩),
 (54,⟨false,1,some 163,y54,[],some 24,none,false,none,none,none,false,none⟩),
 (56,⟨true,1,none,y56,[(0,0)],some 24,some [(0,1)],false,none,none,none,false,none⟩),
 (59,⟨false,1,some 161,y59,[],some 24,none,false,none,none,none,false,none⟩),
 (61,⟨true,1,none,y61,[(0,0)],some 24,some [(0,1)],false,none,none,none,false,none⟩),
 (66,⟨false,1,some 174,y66,[],some 24,none,false,none,none,none,false,none⟩),
 (68,⟨true,1,none,y68,[(0,0)],some 24,some [(0,1)],false,none,none,none,false,none⟩),
 (71,⟨false,1,some 170,y71,[],some 24,none,false,none,none,none,false,none⟩),
 (73,⟨true,1,none,y73,[(0,0)],some 24,some [(0,1)],false,none,none,none,false,none⟩),
 (88,⟨true,3,none,y88,[(0,0),(1,0),(2,0)],some 24,some [(0,1),(1,1),(2,1)],false,none,none,none,false,none⟩),
 (91,⟨false,1,some 3,y91,[],some 24,none,false,none,none,none,false,none⟩),
 (92,⟨false,1,some 73,y92,[],some 24,none,false,none,none,none,false,none⟩),
 (108,⟨false,1,none,.bool,[],none,none,false,none,none,none,true,none⟩),
 (124,⟨false,1,some 168,Sx,[],some 24,none,false,none,none,none,false,none⟩),
 (126,⟨true,2,none,Nk,[(0,0),(1,0)],some 48,some [(0,1),(1,1)],false,none,none,none,false,none⟩),
 (133,⟨true,3,none,Ua,[(0,0),(1,0),(2,0)],some 24,some [(0,1),(1,1),(2,1)],false,none,none,none,false,none⟩),
 (134,⟨false,1,none,.bool,[],none,none,false,none,none,none,true,none⟩),
 (137,⟨true,3,none,C5,[(0,0),(1,0),(2,0)],some 40,some [(0,1),(1,1),(2,1)],false,none,none,none,false,none⟩),
 (138,⟨false,1,none,.bool,[],none,none,false,none,none,none,true,none⟩),
 (161,⟨true,4,none,uL,[(0,0),(1,0),(2,0),(3,0)],some 32,some [(0,1),(1,1),(2,1),(3,1)],false,some [some .i64,some .i64,some .i64,some .i64],none,none,false,none⟩),
 (163,⟨true,4,none,Ub,[(0,0),(1,0),(2,0),(3,0)],some 32,some [(0,1),(1,1),(2,1),(3,1)],false,none,none,none,false,none⟩),
 (168,⟨true,4,none,DY,[(0,0),(1,0),(2,0),(3,0)],some 32,some [(0,1),(1,1),(2,1),(3,1)],false,some [some .i64,some .i64,some .i64,some .i64],none,none,false,none⟩),
 (170,⟨true,5,none,US,[(0,0),(1,3)],some 40,some [(0,1),(1,4)],false,none,none,none,false,none⟩),
 (172,⟨true,4,none,Tt,[(0,0),(1,0),(2,0),(3,0)],some 32,some [(0,1),(1,1),(2,1),(3,1)],false,none,none,none,false,none⟩),
 (174,⟨true,5,none,UT,[(0,0),(1,3)],some 40,some [(0,1),(1,4)],false,none,none,none,false,none⟩),
 (177,⟨false,1,some 172,Tu,[],some 24,none,false,none,none,none,false,none⟩),
 (179,⟨true,2,none,Tv,[(0,0),(1,0)],some 48,some [(0,1),(1,1)],false,none,none,none,false,none⟩),
 (181,⟨false,1,some 4,DZ,[],some 24,none,false,none,none,none,false,none⟩),
 (182,⟨false,1,some 91,JX,[],some 24,none,false,none,none,none,false,none⟩),
 (184,⟨true,3,none,Tw,[(0,0),(1,0),(2,0)],some 56,some [(0,1),(1,1),(2,1)],false,none,none,none,false,none⟩),
 (187,⟨true,3,none,Tx,[(0,0),(1,0),(2,0)],some 40,some [(0,1),(1,1),(2,1)],false,none,none,none,false,none⟩),
 (189,⟨true,3,none,lO,[(0,0),(1,0),(2,0)],some 56,some [(0,1),(1,1),(2,1)],false,none,none,none,false,none⟩),
 (194,⟨false,1,none,.bool,[],none,none,false,none,none,none,true,none⟩),
 (200,⟨false,1,none,.bool,[],none,none,false,none,none,none,true,none⟩),
 (204,⟨false,1,none,.bool,[],none,none,false,none,none,none,true,none⟩),
 (205,⟨false,1,some 9,Uc,[],some 24,none,false,none,none,none,false,none⟩),
 (222,⟨false,1,some 5,U9,[],some 24,none,false,none,none,none,false,none⟩),
 (230,⟨true,5,none,FL,[(0,0),(1,0),(2,0),(3,0),(4,0)],some 72,some [(0,1),(1,1),(2,1),(3,1),(4,1)],false,none,none,none,false,none⟩),
 (263,⟨true,3,none,UU,[(0,0),(1,0),(2,0)],some 24,some [(0,1),(1,1),(2,1)],false,none,none,none,false,none⟩),
 (272,⟨true,3,none,UV,[(0,0),(1,0),(2,0)],some 24,some [(0,1),(1,1),(2,1)],false,none,none,none,false,none⟩),
 (274,⟨false,1,none,Ud,[],some 8,none,false,none,none,none,false,some 302⟩),
 (277,⟨false,1,none,.bool,[],none,none,false,none,none,none,true,none⟩),
 (279,⟨false,1,none,.bool,[],none,none,false,none,none,none,true,none⟩),
 (290,⟨false,1,none,.bool,[],none,none,false,none,none,none,true,none⟩),
 (295,⟨false,1,none,Sy,[],some 8,none,false,none,none,some (some .u64),false,none⟩),
 (300,⟨false,1,some 274,Tz,[],some 24,none,false,none,none,none,false,none⟩),
 (302,⟨true,5,none,Va,[(0,3),(4,0)],some 56,some [(0,4),(4,1)],false,none,none,none,false,none⟩),
 (306,⟨false,1,none,.bool,[],none,none,false,none,some ⟨3,3,.int,.int⟩,none,false,none⟩),
 (308,⟨false,1,none,.bool,[],none,none,false,none,none,none,true,none⟩),
 (321,⟨false,1,none,Sz,[],some 8,none,false,none,none,some (some .u64),false,none⟩),
 (344,⟨false,1,none,SA,[],some 4,none,false,none,none,some (some .u32),false,none⟩),
 (351,⟨false,1,none,.bool,[],none,none,false,none,none,none,true,none⟩)]
theorem Q1:TTok Tryz.prog tt:=⟨qK (n:=1) (z:=.int .i64 0) ⟨⟨_,Tryz.underlying3,rfl⟩,by kernel_rfl⟩ rfl (by unfold TZ;kernel_rfl) rfl (aT rfl) (fun h=>by cases h) (fun k h=>by obtain rfl:=aliasOf1 h;exact Tryz.underlying3),
 qK (n:=1) (z:=.bool false) ⟨⟨_,Tryz.underlying4,rfl⟩,by kernel_rfl⟩ rfl (by unfold TZ;kernel_rfl) rfl (aT rfl) (fun h=>Tryz.underlying4) (fun k h=>by cases h),
 qK (n:=1) (z:=.int .u8 0) ⟨⟨_,Tryz.underlying5,rfl⟩,by kernel_rfl⟩ rfl (by unfold TZ;kernel_rfl) rfl (aT rfl) (fun h=>by cases h) (fun k h=>by obtain rfl:=aliasOf1 h;exact Tryz.underlying5),
 qK (n:=1) (z:=.string ⟨#[]⟩) ⟨⟨_,Tryz.underlying9,rfl⟩,by kernel_rfl⟩ rfl (by unfold TZ;kernel_rfl) rfl (aT rfl) (fun h=>by cases h) (fun k h=>by obtain rfl:=aliasOf1 h;exact Tryz.underlying9),
 l8 ⟨⟨_,Tryz.underlying22,rfl⟩,by kernel_rfl⟩ Tryz.underlying22 (by unfold TZ;kernel_rfl),
 iZ (z:=.agg #[.int .i64 0,.slice none 0 0]) ⟨⟨_,Tryz.underlying24,rfl⟩,by kernel_rfl⟩ rfl ⟨⟨_,_,Tryz.underlying24,rfl,rfl,by kernel_rfl⟩,⟨_,_,Tryz.underlying24,rfl,rfl,by kernel_rfl⟩,trivial⟩ (by unfold TZ;kernel_rfl) rfl (aT rfl) ⟨_,Tryz.underlying24,by kernel_rfl⟩ (fun ks h=>by cases h),
 l8 ⟨⟨_,Tryz.underlying25,rfl⟩,by kernel_rfl⟩ Tryz.underlying25 (by unfold TZ;kernel_rfl),
 l8 ⟨⟨_,Tryz.underlying26,rfl⟩,by kernel_rfl⟩ Tryz.underlying26 (by unfold TZ;kernel_rfl),
 iZ (z:=.agg #[.slice none 0 0,.slice none 0 0]) ⟨⟨_,Tryz.underlying28,rfl⟩,by kernel_rfl⟩ rfl ⟨⟨_,_,Tryz.underlying28,rfl,rfl,by kernel_rfl⟩,⟨_,_,Tryz.underlying28,rfl,rfl,by kernel_rfl⟩,trivial⟩ (by unfold TZ;kernel_rfl) rfl (aT rfl) ⟨_,Tryz.underlying28,by kernel_rfl⟩ (fun ks h=>by cases h),
 l8 ⟨⟨_,Tryz.underlying29,rfl⟩,by kernel_rfl⟩ Tryz.underlying29 (by unfold TZ;kernel_rfl),
 iZ (z:=.agg #[.int .i64 0,.slice none 0 0,.slice none 0 0,.slice none 0 0,.slice none 0 0,.string ⟨#[]⟩]) ⟨⟨_,Tryz.underlying31,rfl⟩,by kernel_rfl⟩ rfl ⟨⟨_,_,Tryz.underlying31,rfl,rfl,by kernel_rfl⟩,⟨_,_,Tryz.underlying31,rfl,rfl,by kernel_rfl⟩,⟨_,_,Tryz.underlying31,rfl,rfl,by kernel_rfl⟩,⟨_,_,Tryz.underlying31,rfl,rfl,by kernel_rfl⟩,trivial⟩ (by unfold TZ;kernel_rfl) rfl (aT rfl) ⟨_,Tryz.underlying31,by kernel_rfl⟩ (fun ks h=>by cases h),
 l8 ⟨⟨_,Tryz.underlying34,rfl⟩,by kernel_rfl⟩ Tryz.underlying34 (by unfold TZ;kernel_rfl),
 iZ (z:=.agg #[.int .i64 0,.slice none 0 0]) ⟨⟨_,Tryz.underlying36,rfl⟩,by kernel_rfl⟩ rfl ⟨⟨_,_,Tryz.underlying36,rfl,rfl,by kernel_rfl⟩,⟨_,_,Tryz.underlying36,rfl,rfl,by kernel_rfl⟩,trivial⟩ (by unfold TZ;kernel_rfl) rfl (aT rfl) ⟨_,Tryz.underlying36,by kernel_rfl⟩ (fun ks h=>by cases h),
 l8 ⟨⟨_,Tryz.underlying37,rfl⟩,by kernel_rfl⟩ Tryz.underlying37 (by unfold TZ;kernel_rfl),
 l8 ⟨⟨_,Tryz.underlying38,rfl⟩,by kernel_rfl⟩ Tryz.underlying38 (by unfold TZ;kernel_rfl),
 iZ (z:=.agg #[.slice none 0 0,.slice none 0 0]) ⟨⟨_,Tryz.underlying40,rfl⟩,by kernel_rfl⟩ rfl ⟨⟨_,_,Tryz.underlying40,rfl,rfl,by kernel_rfl⟩,⟨_,_,Tryz.underlying40,rfl,rfl,by kernel_rfl⟩,trivial⟩ (by unfold TZ;kernel_rfl) rfl (aT rfl) ⟨_,Tryz.underlying40,by kernel_rfl⟩ (fun ks h=>by cases h),
 l8 ⟨⟨_,Tryz.underlying41,rfl⟩,by kernel_rfl⟩ Tryz.underlying41 (by unfold TZ;kernel_rfl),
 iZ (z:=.agg #[.int .i64 0,.slice none 0 0,.slice none 0 0,.slice none 0 0,.slice none 0 0,.string ⟨#[]⟩]) ⟨⟨_,Tryz.underlying43,rfl⟩,by kernel_rfl⟩ rfl ⟨⟨_,_,Tryz.underlying43,rfl,rfl,by kernel_rfl⟩,⟨_,_,Tryz.underlying43,rfl,rfl,by kernel_rfl⟩,⟨_,_,Tryz.underlying43,rfl,rfl,by kernel_rfl⟩,⟨_,_,Tryz.underlying43,rfl,rfl,by kernel_rfl⟩,trivial⟩ (by unfold TZ;kernel_rfl) rfl (aT rfl) ⟨_,Tryz.underlying43,by kernel_rfl⟩ (fun ks h=>by cases h),
 l8 ⟨⟨_,Tryz.underlying54,rfl⟩,by kernel_rfl⟩ Tryz.underlying54 (by unfold TZ;kernel_rfl),
 iZ (z:=.agg #[.slice none 0 0]) ⟨⟨_,Tryz.underlying56,rfl⟩,by kernel_rfl⟩ rfl ⟨⟨_,_,Tryz.underlying56,rfl,rfl,by kernel_rfl⟩,trivial⟩ (by unfold TZ;kernel_rfl) rfl (aT rfl) ⟨_,Tryz.underlying56,by kernel_rfl⟩ (fun ks h=>by cases h),
 l8 ⟨⟨_,Tryz.underlying59,rfl⟩,by kernel_rfl⟩ Tryz.underlying59 (by unfold TZ;kernel_rfl),
 iZ (z:=.agg #[.slice none 0 0]) ⟨⟨_,Tryz.underlying61,rfl⟩,by kernel_rfl⟩ rfl ⟨⟨_,_,Tryz.underlying61,rfl,rfl,by kernel_rfl⟩,trivial⟩ (by unfold TZ;kernel_rfl) rfl (aT rfl) ⟨_,Tryz.underlying61,by kernel_rfl⟩ (fun ks h=>by cases h),
 l8 ⟨⟨_,Tryz.underlying66,rfl⟩,by kernel_rfl⟩ Tryz.underlying66 (by unfold TZ;kernel_rfl),
 iZ (z:=.agg #[.slice none 0 0]) ⟨⟨_,Tryz.underlying68,rfl⟩,by kernel_rfl⟩ rfl ⟨⟨_,_,Tryz.underlying68,rfl,rfl,by kernel_rfl⟩,trivial⟩ (by unfold TZ;kernel_rfl) rfl (aT rfl) ⟨_,Tryz.underlying68,by kernel_rfl⟩ (fun ks h=>by cases h),
 l8 ⟨⟨_,Tryz.underlying71,rfl⟩,by kernel_rfl⟩ Tryz.underlying71 (by unfold TZ;kernel_rfl),
 iZ (z:=.agg #[.slice none 0 0]) ⟨⟨_,Tryz.underlying73,rfl⟩,by kernel_rfl⟩ rfl ⟨⟨_,_,Tryz.underlying73,rfl,rfl,by kernel_rfl⟩,trivial⟩ (by unfold TZ;kernel_rfl) rfl (aT rfl) ⟨_,Tryz.underlying73,by kernel_rfl⟩ (fun ks h=>by cases h),
 iZ (z:=.agg #[.int .i64 0,.int .i64 0,.int .i64 0]) ⟨⟨_,Tryz.underlying88,rfl⟩,by kernel_rfl⟩ rfl ⟨⟨_,_,Tryz.underlying88,rfl,rfl,by kernel_rfl⟩,⟨_,_,Tryz.underlying88,rfl,rfl,by kernel_rfl⟩,⟨_,_,Tryz.underlying88,rfl,rfl,by kernel_rfl⟩,trivial⟩ (by unfold TZ;kernel_rfl) rfl (aT rfl) ⟨_,Tryz.underlying88,by kernel_rfl⟩ (fun ks h=>by cases h),
 l8 ⟨⟨_,Tryz.underlying91,rfl⟩,by kernel_rfl⟩ Tryz.underlying91 (by unfold TZ;kernel_rfl),
 l8 ⟨⟨_,Tryz.underlying92,rfl⟩,by kernel_rfl⟩ Tryz.underlying92 (by unfold TZ;kernel_rfl),
 wF (ty:=.bool) (b:=8) ⟨⟨_,Tryz.underlying108,rfl⟩,by kernel_rfl⟩ rfl (by unfold TZ;kernel_rfl),
 l8 ⟨⟨_,Tryz.underlying124,rfl⟩,by kernel_rfl⟩ Tryz.underlying124 (by unfold TZ;kernel_rfl),
 iZ (z:=.agg #[.slice none 0 0,.slice none 0 0]) ⟨⟨_,Tryz.underlying126,rfl⟩,by kernel_rfl⟩ rfl ⟨⟨_,_,Tryz.underlying126,rfl,rfl,by kernel_rfl⟩,⟨_,_,Tryz.underlying126,rfl,rfl,by kernel_rfl⟩,trivial⟩ (by unfold TZ;kernel_rfl) rfl (aT rfl) ⟨_,Tryz.underlying126,by kernel_rfl⟩ (fun ks h=>by cases h),
 iZ (z:=.agg #[.int .i64 0,.int .i64 0,.int .i64 0]) ⟨⟨_,Tryz.underlying133,rfl⟩,by kernel_rfl⟩ rfl ⟨⟨_,_,Tryz.underlying133,rfl,rfl,by kernel_rfl⟩,⟨_,_,Tryz.underlying133,rfl,rfl,by kernel_rfl⟩,⟨_,_,Tryz.underlying133,rfl,rfl,by kernel_rfl⟩,trivial⟩ (by unfold TZ;kernel_rfl) rfl (aT rfl) ⟨_,Tryz.underlying133,by kernel_rfl⟩ (fun ks h=>by cases h),
 wF (ty:=.bool) (b:=8) ⟨⟨_,Tryz.underlying134,rfl⟩,by kernel_rfl⟩ rfl (by unfold TZ;kernel_rfl),
 iZ (z:=.agg #[.int .i64 0,.slice none 0 0,.int .i64 0]) ⟨⟨_,Tryz.underlying137,rfl⟩,by kernel_rfl⟩ rfl ⟨⟨_,_,Tryz.underlying137,rfl,rfl,by kernel_rfl⟩,⟨_,_,Tryz.underlying137,rfl,rfl,by kernel_rfl⟩,⟨_,_,Tryz.underlying137,rfl,rfl,by kernel_rfl⟩,trivial⟩ (by unfold TZ;kernel_rfl) rfl (aT rfl) ⟨_,Tryz.underlying137,by kernel_rfl⟩ (fun ks h=>by cases h),
 wF (ty:=.bool) (b:=8) ⟨⟨_,Tryz.underlying138,rfl⟩,by kernel_rfl⟩ rfl (by unfold TZ;kernel_rfl),
 iZ (z:=.agg #[.int .i64 0,.int .i64 0,.int .i64 0,.int .i64 0]) ⟨⟨_,Tryz.underlying161,rfl⟩,by kernel_rfl⟩ rfl ⟨⟨_,_,Tryz.underlying161,rfl,rfl,by kernel_rfl⟩,⟨_,_,Tryz.underlying161,rfl,rfl,by kernel_rfl⟩,⟨_,_,Tryz.underlying161,rfl,rfl,by kernel_rfl⟩,⟨_,_,Tryz.underlying161,rfl,rfl,by kernel_rfl⟩,trivial⟩ (by unfold TZ;kernel_rfl) rfl (aT rfl) ⟨_,Tryz.underlying161,by kernel_rfl⟩ (fun ks h=>by obtain rfl:=aliasOf1 h;exact fun w a0 b0 a1 b1 a2 b2 a3 b3=>SB a0 a1 a2 a3 b0 b1 b2 b3 w),
 iZ (z:=.agg #[.int .i64 0,.int .i64 0,.int .i64 0,.int .i64 0]) ⟨⟨_,Tryz.underlying163,rfl⟩,by kernel_rfl⟩ rfl ⟨⟨_,_,Tryz.underlying163,rfl,rfl,by kernel_rfl⟩,⟨_,_,Tryz.underlying163,rfl,rfl,by kernel_rfl⟩,⟨_,_,Tryz.underlying163,rfl,rfl,by kernel_rfl⟩,⟨_,_,Tryz.underlying163,rfl,rfl,by kernel_rfl⟩,trivial⟩ (by unfold TZ;kernel_rfl) rfl (aT rfl) ⟨_,Tryz.underlying163,by kernel_rfl⟩ (fun ks h=>by cases h),
 iZ (z:=.agg #[.int .i64 0,.int .i64 0,.int .i64 0,.int .i64 0]) ⟨⟨_,Tryz.underlying168,rfl⟩,by kernel_rfl⟩ rfl ⟨⟨_,_,Tryz.underlying168,rfl,rfl,by kernel_rfl⟩,⟨_,_,Tryz.underlying168,rfl,rfl,by kernel_rfl⟩,⟨_,_,Tryz.underlying168,rfl,rfl,by kernel_rfl⟩,⟨_,_,Tryz.underlying168,rfl,rfl,by kernel_rfl⟩,trivial⟩ (by unfold TZ;kernel_rfl) rfl (aT rfl) ⟨_,Tryz.underlying168,by kernel_rfl⟩ (fun ks h=>by obtain rfl:=aliasOf1 h;exact fun w a0 b0 a1 b1 a2 b2 a3 b3=>SC a0 a1 a2 a3 b0 b1 b2 b3 w),
 iZ (z:=.agg #[.bool false,.int .i64 0,.int .i64 0,.int .i64 0,.int .i64 0]) ⟨⟨_,Tryz.underlying170,rfl⟩,by kernel_rfl⟩ rfl ⟨⟨_,_,Tryz.underlying170,rfl,rfl,by kernel_rfl⟩,⟨_,_,Tryz.underlying170,rfl,rfl,by kernel_rfl⟩,trivial⟩ (by unfold TZ;kernel_rfl) rfl (aT rfl) ⟨_,Tryz.underlying170,by kernel_rfl⟩ (fun ks h=>by cases h),
 iZ (z:=.agg #[.int .i64 0,.int .i64 0,.int .i64 0,.int .i64 0]) ⟨⟨_,Tryz.underlying172,rfl⟩,by kernel_rfl⟩ rfl ⟨⟨_,_,Tryz.underlying172,rfl,rfl,by kernel_rfl⟩,⟨_,_,Tryz.underlying172,rfl,rfl,by kernel_rfl⟩,⟨_,_,Tryz.underlying172,rfl,rfl,by kernel_rfl⟩,⟨_,_,Tryz.underlying172,rfl,rfl,by kernel_rfl⟩,trivial⟩ (by unfold TZ;kernel_rfl) rfl (aT rfl) ⟨_,Tryz.underlying172,by kernel_rfl⟩ (fun ks h=>by cases h),
 iZ (z:=.agg #[.bool false,.int .i64 0,.int .i64 0,.int .i64 0,.int .i64 0]) ⟨⟨_,Tryz.underlying174,rfl⟩,by kernel_rfl⟩ rfl ⟨⟨_,_,Tryz.underlying174,rfl,rfl,by kernel_rfl⟩,⟨_,_,Tryz.underlying174,rfl,rfl,by kernel_rfl⟩,trivial⟩ (by unfold TZ;kernel_rfl) rfl (aT rfl) ⟨_,Tryz.underlying174,by kernel_rfl⟩ (fun ks h=>by cases h),
 l8 ⟨⟨_,Tryz.underlying177,rfl⟩,by kernel_rfl⟩ Tryz.underlying177 (by unfold TZ;kernel_rfl),
 iZ (z:=.agg #[.slice none 0 0,.slice none 0 0]) ⟨⟨_,Tryz.underlying179,rfl⟩,by kernel_rfl⟩ rfl ⟨⟨_,_,Tryz.underlying179,rfl,rfl,by kernel_rfl⟩,⟨_,_,Tryz.underlying179,rfl,rfl,by kernel_rfl⟩,trivial⟩ (by unfold TZ;kernel_rfl) rfl (aT rfl) ⟨_,Tryz.underlying179,by kernel_rfl⟩ (fun ks h=>by cases h),
 l8 ⟨⟨_,Tryz.underlying181,rfl⟩,by kernel_rfl⟩ Tryz.underlying181 (by unfold TZ;kernel_rfl),
 l8 ⟨⟨_,Tryz.underlying182,rfl⟩,by kernel_rfl⟩ Tryz.underlying182 (by unfold TZ;kernel_rfl),
 iZ (z:=.agg #[.int .i64 0,.slice none 0 0,.slice none 0 0]) ⟨⟨_,Tryz.underlying184,rfl⟩,by kernel_rfl⟩ rfl ⟨⟨_,_,Tryz.underlying184,rfl,rfl,by kernel_rfl⟩,⟨_,_,Tryz.underlying184,rfl,rfl,by kernel_rfl⟩,⟨_,_,Tryz.underlying184,rfl,rfl,by kernel_rfl⟩,trivial⟩ (by unfold TZ;kernel_rfl) rfl (aT rfl) ⟨_,Tryz.underlying184,by kernel_rfl⟩ (fun ks h=>by cases h),
 iZ (z:=.agg #[.int .i64 0,.slice none 0 0,.int .i64 0]) ⟨⟨_,Tryz.underlying187,rfl⟩,by kernel_rfl⟩ rfl ⟨⟨_,_,Tryz.underlying187,rfl,rfl,by kernel_rfl⟩,⟨_,_,Tryz.underlying187,rfl,rfl,by kernel_rfl⟩,⟨_,_,Tryz.underlying187,rfl,rfl,by kernel_rfl⟩,trivial⟩ (by unfold TZ;kernel_rfl) rfl (aT rfl) ⟨_,Tryz.underlying187,by kernel_rfl⟩ (fun ks h=>by cases h),
 iZ (z:=.agg #[.int .i64 0,.slice none 0 0,.slice none 0 0]) ⟨⟨_,Tryz.underlying189,rfl⟩,by kernel_rfl⟩ rfl ⟨⟨_,_,Tryz.underlying189,rfl,rfl,by kernel_rfl⟩,⟨_,_,Tryz.underlying189,rfl,rfl,by kernel_rfl⟩,⟨_,_,Tryz.underlying189,rfl,rfl,by kernel_rfl⟩,trivial⟩ (by unfold TZ;kernel_rfl) rfl (aT rfl) ⟨_,Tryz.underlying189,by kernel_rfl⟩ (fun ks h=>by cases h),
 wF (ty:=.bool) (b:=8) ⟨⟨_,Tryz.underlying194,rfl⟩,by kernel_rfl⟩ rfl (by unfold TZ;kernel_rfl),
 wF (ty:=.bool) (b:=8) ⟨⟨_,Tryz.underlying200,rfl⟩,by kernel_rfl⟩ rfl (by unfold TZ;kernel_rfl),
 wF (ty:=.bool) (b:=8) ⟨⟨_,Tryz.underlying204,rfl⟩,by kernel_rfl⟩ rfl (by unfold TZ;kernel_rfl),
 l8 ⟨⟨_,Tryz.underlying205,rfl⟩,by kernel_rfl⟩ Tryz.underlying205 (by unfold TZ;kernel_rfl),
 l8 ⟨⟨_,Tryz.underlying222,rfl⟩,by kernel_rfl⟩ Tryz.underlying222 (by unfold TZ;kernel_rfl),
 iZ (z:=.agg #[.slice none 0 0,.int .i64 0,.int .i64 0,.slice none 0 0,.bool false]) ⟨⟨_,Tryz.underlying230,rfl⟩,by kernel_rfl⟩ rfl ⟨⟨_,_,Tryz.underlying230,rfl,rfl,by kernel_rfl⟩,⟨_,_,Tryz.underlying230,rfl,rfl,by kernel_rfl⟩,⟨_,_,Tryz.underlying230,rfl,rfl,by kernel_rfl⟩,⟨_,_,Tryz.underlying230,rfl,rfl,by kernel_rfl⟩,⟨_,_,Tryz.underlying230,rfl,rfl,by kernel_rfl⟩,trivial⟩ (by unfold TZ;kernel_rfl) rfl (aT rfl) ⟨_,Tryz.underlying230,by kernel_rfl⟩ (fun ks h=>by cases h),
 iZ (z:=.agg #[.bool false,.int .i64 0,.int .i64 0]) ⟨⟨_,Tryz.underlying263,rfl⟩,by kernel_rfl⟩ rfl ⟨⟨_,_,Tryz.underlying263,rfl,rfl,by kernel_rfl⟩,⟨_,_,Tryz.underlying263,rfl,rfl,by kernel_rfl⟩,⟨_,_,Tryz.underlying263,rfl,rfl,by kernel_rfl⟩,trivial⟩ (by unfold TZ;kernel_rfl) rfl (aT rfl) ⟨_,Tryz.underlying263,by kernel_rfl⟩ (fun ks h=>by cases h),
 iZ (z:=.agg #[.int .i64 0,.int .i64 0,.bool false]) ⟨⟨_,Tryz.underlying272,rfl⟩,by kernel_rfl⟩ rfl ⟨⟨_,_,Tryz.underlying272,rfl,rfl,by kernel_rfl⟩,⟨_,_,Tryz.underlying272,rfl,rfl,by kernel_rfl⟩,⟨_,_,Tryz.underlying272,rfl,rfl,by kernel_rfl⟩,trivial⟩ (by unfold TZ;kernel_rfl) rfl (aT rfl) ⟨_,Tryz.underlying272,by kernel_rfl⟩ (fun ks h=>by cases h),
 T9 (e:=302) (E:=274) (u:=uL) ⟨⟨_,Tryz.underlying274,rfl⟩,by kernel_rfl⟩ Tryz.underlying274 (by unfold TZ;kernel_rfl),
 wF (ty:=.bool) (b:=8) ⟨⟨_,Tryz.underlying277,rfl⟩,by kernel_rfl⟩ rfl (by unfold TZ;kernel_rfl),
 wF (ty:=.bool) (b:=8) ⟨⟨_,Tryz.underlying279,rfl⟩,by kernel_rfl⟩ rfl (by unfold TZ;kernel_rfl),
 wF (ty:=.bool) (b:=8) ⟨⟨_,Tryz.underlying290,rfl⟩,by kernel_rfl⟩ rfl (by unfold TZ;kernel_rfl),
 qK (n:=1) (z:=.int .u64 0) ⟨⟨_,Tryz.underlying295,rfl⟩,by kernel_rfl⟩ rfl (by unfold TZ;kernel_rfl) rfl (aT rfl) (fun h=>by cases h) (fun k h=>by obtain rfl:=aliasOf1 h;exact Tryz.underlying295),
 l8 ⟨⟨_,Tryz.underlying300,rfl⟩,by kernel_rfl⟩ Tryz.underlying300 (by unfold TZ;kernel_rfl),
 iZ (z:=.agg #[.int .i64 0,.int .i64 0,.int .i64 0,.int .i64 0,.slice none 0 0]) ⟨⟨_,Tryz.underlying302,rfl⟩,by kernel_rfl⟩ rfl ⟨⟨_,_,Tryz.underlying302,rfl,rfl,by kernel_rfl⟩,⟨_,_,Tryz.underlying302,rfl,rfl,by kernel_rfl⟩,trivial⟩ (by unfold TZ;kernel_rfl) rfl (aT rfl) ⟨_,Tryz.underlying302,by kernel_rfl⟩ (fun ks h=>by cases h),
 T8 (m:=⟨3,3,.int,.int⟩) (ty:=.bool) ⟨⟨_,Tryz.underlying306,rfl⟩,by kernel_rfl⟩ rfl ⟨Tryz.underlying306,kk3,ek3⟩,
 wF (ty:=.bool) (b:=8) ⟨⟨_,Tryz.underlying308,rfl⟩,by kernel_rfl⟩ rfl (by unfold TZ;kernel_rfl),
 qK (n:=1) (z:=.int .u64 0) ⟨⟨_,Tryz.underlying321,rfl⟩,by kernel_rfl⟩ rfl (by unfold TZ;kernel_rfl) rfl (aT rfl) (fun h=>by cases h) (fun k h=>by obtain rfl:=aliasOf1 h;exact Tryz.underlying321),
 qK (n:=1) (z:=.int .u32 0) ⟨⟨_,Tryz.underlying344,rfl⟩,by kernel_rfl⟩ rfl (by unfold TZ;kernel_rfl) rfl (aT rfl) (fun h=>by cases h) (fun k h=>by obtain rfl:=aliasOf1 h;exact Tryz.underlying344),
 wF (ty:=.bool) (b:=8) ⟨⟨_,Tryz.underlying351,rfl⟩,by kernel_rfl⟩ rfl (by unfold TZ;kernel_rfl),trivial⟩
theorem mixed:Tryz.prog.follows .mixedOrders=true:=by kernel_rfl
def OO (fn:Func):Code:=match fn.body with
 | some c=>c
 | none=>.skip
theorem fk {k:FuncId} {fn:Func} {f:FS} (ft:FT) (hF:FTok Tryz.prog ft) (hf:Tryz.prog.funcs[k]? =some fn) (ann:Ann) (an:List (Nat×Ty):=[]) (tr:Trs:=[]) (hb:fn.body=some (OO fn):=by rfl) (he:(fn.name == "runtime.NumGoroutine")=false:=by kernel_rfl) (hcl:f.cl=none:=by rfl) (hm:Nat.ble f.ps.length fn.ntmps=true:=by rfl) (hdp:(BM f.rs&&vY f.ps)=true:=by rfl)
  (hmod: ∀d,appP f.ps f.m d=ix ⟨tt,ft,an,fn.ntmps,tr⟩ (JR ⟨tt,ft,an,fn.ntmps,tr⟩ fn.results.toList f.rs f.ps d) (OO fn) ann (fun r=>some r) (fun _ _=>none) (JR ⟨tt,ft,an,fn.ntmps,tr⟩ fn.results.toList f.rs f.ps d) (oq (wD f.ps d)):=by intro d;kernel_rfl):FOk Tryz.prog k f:=
 fok (V:=⟨tt,ft,an,fn.ntmps,tr⟩) Q1 hF mixed hf hb rfl (enters_of hf he hb) hcl (aT hm) hdp ann hmod
def tf:FS:=⟨[.rd y91,.rd y3],[y3],pN,none⟩
def wH:FS:=⟨[.rd Tu,.rd y3],[y3],qL,none⟩
def wI:FS:=⟨[.rd Tv,.rd y3],[y3],nl,none⟩
def uc:FS:=⟨[.rd y22,.rd y3],[y3],oR,none⟩
def rT:FS:=⟨[.rd y24,.rd y3],[y3],ko,none⟩
def wJ:FS:=⟨[.rd DZ,.rd y3],[y3],qM,none⟩
def wK:FS:=⟨[.rd JX,.rd y3],[y3],qN,none⟩
def oV:FS:=⟨[.rd Tw,.rd y3],[y3],iA,none⟩
def nQ:FS:=⟨[.rd y25,.rd y3],[y3],j7,none⟩
def ud:FS:=⟨[.rd y54,.rd y3],[y3],oS,none⟩
def zb:FS:=⟨[.rd y56,.rd y3],[y3],pO,none⟩
def nR:FS:=⟨[.rd Tx,.rd y3],[y3],gy,none⟩
def mB:FS:=⟨[.rd y26,.rd y3],[y3],je,none⟩
def qe:FS:=⟨[.rd y28,.rd y3],[y3],jx,none⟩
def mC:FS:=⟨[.rd y29,.rd y3],[y3],jf,none⟩
def ue:FS:=⟨[.rd y31,.rd y3],[y3],lG,none⟩
def iQ:FS:=⟨[.rd y3,.rd y3,.rd y3],[y4],bY,none⟩
def ze:FS:=⟨[.rd Nk,.rd DY],[y4],za,none⟩
def nS:FS:=⟨[.rd Nk],[y4],fa,none⟩
def rU:FS:=⟨[.rd y91,.rd y91],[y3],kP,none⟩
def iR:FS:=⟨[.rd y36],[y4],m_s_IsValidHistory,none⟩
def oW:FS:=⟨[.rd y3],[y4],jR,none⟩
def qU:FS:=⟨[.rd uL],[y3],kQ,none⟩
def zf:FS:=⟨[.rd y61],[y4],pP,none⟩
def oX:FS:=⟨[.rd y61],[y4],iB,none⟩
def nF:FS:=⟨[.rd y59],[y3],fB,none⟩
def nG (n:Nat):FS:=⟨[.rd y59],[y3],cY n,none⟩
def tg:FS:=⟨[.rd y59],[y61],jg,none⟩
def th:FS:=⟨[.rd y61,.rd y61,.rd uL],[y61],jh,none⟩
def zg:FS:=⟨[.rd y3],[y61],mw,none⟩
def lP (n:Nat):FS:=⟨[.rd y61,.rd y3,.rd y3],[y61],gR n,none⟩
def kz (n:Nat):FS:=⟨[.rd y59],[y61],b9 n,none⟩
def qf:FS:=⟨[.rd y61],[y61,y4],jz,none⟩
def wL:FS:=⟨[.ptr 230 FL,.rd y3,.rd y3],[],kR,none⟩
def lQ (n:Nat):FS:=⟨[.ptr 230 FL,.rd y59],[UU],cA n,none⟩
def lR:FS:=⟨[.rd y61],[FL,y4],fo,none⟩
def uf:FS:=⟨[.rd FL,.rd y3,.rd y3],[y3],lI,none⟩
def qV:FS:=⟨[.rd y91,.rd y3],[y3],kS,none⟩
def qg:FS:=⟨[.rd FL,.rd y3],[y4],jA,none⟩
def qi:FS:=⟨[.rd FL,.rd y3],[lO,y4],gm,none⟩
def qj:FS:=⟨[],[lO],ma,none⟩
def rV:FS:=⟨[.rd lO,.rd y91,.rd DZ],[lO],fV,none⟩
def qW:FS:=⟨[.rd lO],[DZ],ji,none⟩
def zh:FS:=⟨[.rd lO,.rd y91,.rd y3],[y91],my,none⟩
def qk:FS:=⟨[.rd lO],[y91],gr,none⟩
def oY:FS:=⟨[.rd lO],[lO],fE,none⟩
def oZ:FS:=⟨[.rd y61],[lO,y4],fF,none⟩
def jm:FS:=⟨[.rd lO,.rd lO],[y4],ez,none⟩
def ug:FS:=⟨[.rd y37,.rd lO],[y3],jS,none⟩
def uh:FS:=⟨[.rd y38],[y40,y4],lJ,none⟩
def ql:FS:=⟨[.rd y61,.rd y61],[y4],jC,none⟩
def kV:FS:=⟨[.rd y40,.rd y40],[y4],eO,none⟩
def kW:FS:=⟨[.rd y40],[y4],eP,none⟩
def jn:FS:=⟨[.rd y36],[y3],bQ,none⟩
def rW:FS:=⟨[.rd y40,.rd y3],[y3],iC,none⟩
def wM:FS:=⟨[.rd y43],[y4],qO,none⟩
def kA:FS:=⟨[.rd y3],[y9],bD,none⟩
def ka:FS:=⟨[.rd y3],[y9],dn,none⟩
def mb:FS:=⟨[.rd DY],[y9],gu,none⟩
def kX:FS:=⟨[.rd y73],[y9],cd,none⟩
def ui:FS:=⟨[.rd y9],[y3],eG,none⟩
def nT:FS:=⟨[.rd y3,.rd y73],[y9],dq,none⟩
def rX:FS:=⟨[.rd y9,.rd y5],[Uc],fH,none⟩
def o0:FS:=⟨[.rd y9],[y3,y4],eH,none⟩
def o6:FS:=⟨[.rd y9],[y3,y4],eB,none⟩
def rY:FS:=⟨[.rd y9],[DY,y4],eQ,none⟩
def qm:FS:=⟨[.rd y9],[y73,y4],cT,none⟩
def nU:FS:=⟨[.rd y9],[y3,y73,y4],gA,none⟩
def qX:FS:=⟨[.rd y9],[y91,.sl 73 (.bag y73),y3],m_s_ScanLog,none⟩
def zi:FS:=⟨[.rd y43],[y4],tc,none⟩
def mD:FS:=⟨[.rd y43],[y4],fX,none⟩
def tj:FS:=⟨[.rd y91],[y91],mz,none⟩
def zj:FS:=⟨[.rd Tt],[DY],pQ,none⟩
def wN:FS:=⟨[.rd Tu],[Sx],nr,none⟩
def wO:FS:=⟨[.rd Tv],[Nk],nt,none⟩
def uj:FS:=⟨[.rd y22],[y34],lL,none⟩
def rZ:FS:=⟨[.rd y24],[y36],kt,none⟩
def wP:FS:=⟨[.rd DZ],[DZ],nw,none⟩
def wQ:FS:=⟨[.rd JX],[JX],ny,none⟩
def o7:FS:=⟨[.rd Tw],[lO],iF,none⟩
def nV:FS:=⟨[.rd y25],[y37],gB,none⟩
def wR:FS:=⟨[.rd Ub],[uL],nz,none⟩
def uk:FS:=⟨[.rd y54],[y59],lM,none⟩
def zk:FS:=⟨[.rd y56],[y61],pR,none⟩
def nW:FS:=⟨[.rd Tx],[C5],gC,none⟩
def mE:FS:=⟨[.rd y26],[y38],fY,none⟩
def qn:FS:=⟨[.rd y28],[y40],jG,none⟩
def nX:FS:=⟨[.rd Ua],[y88],gD,none⟩
def mF:FS:=⟨[.rd y29],[y41],fZ,none⟩
def um:FS:=⟨[.rd y31],[y43],gS,none⟩
def fh:FS:=⟨[.rd y3,.rd y3,.rd y3],[y4],bB,none⟩
def tk:FS:=⟨[.rd DY,.rd y3],[y4],gT,none⟩
def nY:FS:=⟨[.rd Nk],[y4],bN,none⟩
def cn:FS:=⟨[.rd y91,.rd y91],[y4],bF,none⟩
def iS:FS:=⟨[.rd y36],[y4],m_i_IsValidHistory,none⟩
def o8:FS:=⟨[.rd y3],[y4],gU,none⟩
def wS:FS:=⟨[.rd uL],[y4],nA,none⟩
def bc:FS:=⟨[.rd Tz],[Tz],fun _=>none,some (274,8)⟩
def pX:FS:=⟨[.rd y61],[t274],kE,none⟩
def zm:FS:=⟨[.rd y61],[y4],pS,none⟩
def o9:FS:=⟨[.rd y61],[y4],iH,none⟩
def jN (n:Nat):FS:=⟨[.rd t274],[y3],bq n,none⟩
def FM:FS:=⟨[.rd y3],[t274],AA,none⟩
def lS (n:Nat):FS:=⟨[.eat t274,.rd y3,.rd y3],[t274],gV n,none⟩
def iT (n:Nat):FS:=⟨[.rd t274],[t274],aY n,none⟩
def gI (n:Nat):FS:=⟨[.rd t274,.ptr 61 y61],[],aW n,none⟩
def sa:FS:=⟨[.rd t274],[y61],nC,none⟩
def qo:FS:=⟨[.rd y61],[y61,y4],jH,none⟩
def kh:FS:=⟨[.ptr 230 FL,.rd y3,.rd y3],[],cO,none⟩
def eY (n:Nat):FS:=⟨[.ptr 230 FL,.rd t274],[UV],aZ n,none⟩
def lT:FS:=⟨[.rd y61],[FL,y4],fp,none⟩
def kc:FS:=⟨[.rd y3,.rd y3,.fn [y3] [y4],.fn [y3,y3] [y3,y4]],[lO,y4],dt,none⟩
def jW:FS:=⟨[.rd FL,.rd y3],[y4],cE,none⟩
def kY:FS:=⟨[.rd FL,.rd y3,.rd y3],[y3],eS,none⟩
def mG:FS:=⟨[.rd y3,.rd y3,.cap 230 FL],[y3,y4],cw,none⟩
def pa:FS:=⟨[.rd FL,.rd y3],[lO,y4],fJ,none⟩
def bg:FS:=⟨[.rd DZ],[DZ],fun _=>none,some (4,1)⟩
def lU:FS:=⟨[.rd lO],[DZ],dz,none⟩
def di:FS:=⟨[.rd JX,.fn [y91] [y4]],[y3],bu,none⟩
def ja:FS:=⟨[.rd y91,.cap 91 y91],[y4],fl,none⟩
def kj:FS:=⟨[.rd lO,.rd y91],[y91,y3],cP,none⟩
def jX:FS:=⟨[.rd lO],[y91],cH,none⟩
def kZ:FS:=⟨[.rd SA,.rd SA],[SA,SA],qP,none⟩
def k7:FS:=⟨[.rd Sz,.rd Sz],[Sz,Sz],kT,none⟩
def mH:FS:=⟨[.rd Sy,.rd Sy],[Sy,Sy],mA,none⟩
def fN:FS:=⟨[.rd y91,.rd y3],[y91],fL,none⟩
def wT:FS:=⟨[],[lO],qQ,none⟩
def gh:FS:=⟨[.rd y91,.rd y3],[y3],dj,none⟩
def gX:FS:=⟨[.rd y3,.cap 91 y91],[y3],aM,none⟩
def gY:FS:=⟨[.rd y3,.cap 189 lO,.capf 308 [y3] [y3]],[y4],bT,none⟩
def lV:FS:=⟨[.rd lO,.rd y3,.rd y3],[y3],dA,none⟩
def gZ:FS:=⟨[.rd y3,.rd y3,.cap 189 lO,.capf 308 [y3] [y3],.cap 91 y91],[y3,y4],bU,none⟩
def jb:FS:=⟨[.rd lO],[lO],ct,none⟩
def Ct:FS:=⟨[.rd lO],[lO,y4],wG,none⟩
def pb:FS:=⟨[.rd y61],[lO,y4],fM,none⟩
def cm:FS:=⟨[.rd y37,.fn [lO] [y4]],[y3],aJ,none⟩
def fq:FS:=⟨[.rd DZ,.rd DZ],[y4],cR,none⟩
def bJ:FS:=⟨[.rd JX,.rd JX,.fn [y91,y91] [y4]],[y4],bf,none⟩
def k8:FS:=⟨[.rd y91,.rd y91],[y4],eT,none⟩
def jo:FS:=⟨[.rd lO,.rd lO],[y4],cW,none⟩
def uo:FS:=⟨[.rd lO,.cap 189 lO],[y4],jU,none⟩
def uq:FS:=⟨[.rd y61],[y61],jV,none⟩
def zn:FS:=⟨[.rd y38],[y40,y4],pT,none⟩
def a8:FS:=⟨[.rd y37,.rd y37,.fn [lO,lO] [y4]],[y4],aG,none⟩
def aX:FS:=⟨[.rd y38,.rd y38,.fn [C5,C5] [y4]],[y4],aE,none⟩
def eJ:FS:=⟨[.rd y59,.rd y59],[y4],bI,none⟩
def qp:FS:=⟨[.rd y61,.rd y61],[y4],jI,none⟩
def nZ:FS:=⟨[.rd C5,.rd C5],[y4],fc,none⟩
def k9:FS:=⟨[.rd y40,.rd y40],[y4],eU,none⟩
def ld:FS:=⟨[.rd y40],[y4],eV,none⟩
def mI:FS:=⟨[.rd y36],[y3],ga,none⟩
def bZ:FS:=⟨[.rd y38,.fn [C5] [y4]],[y3],bt,none⟩
def pc:FS:=⟨[.rd C5,.cap 3 y3],[y4],iJ,none⟩
def sb:FS:=⟨[.rd y40,.rd y3],[y3],iK,none⟩
def jY:FS:=⟨[.rd y9,.rd y5],[.int .i64],dB,none⟩
def n7:FS:=⟨[.rd y3],[.str],j8,none⟩
def nH:FS:=⟨[.rd y3],[y9],cx,none⟩
def mc:FS:=⟨[.rd DY],[y9],gx,none⟩
def n8:FS:=⟨[.rd Uc,.rd y9],[.str],gE,none⟩
def lf:FS:=⟨[.rd y73],[y9],c8,none⟩
def ur:FS:=⟨[.rd y9],[y3],gW,none⟩
def n9:FS:=⟨[.rd y3,.rd y73],[y9],fe,none⟩
def jq:FS:=⟨[.rd y9,.rd y9],[.sl 9 .str],bV,none⟩
def pd:FS:=⟨[.rd y9],[.int .i64,.bool],eI,none⟩
def pe:FS:=⟨[.rd y9,.rd y9],[.str,.str,.bool],cj,none⟩
def sd:FS:=⟨[.rd y9],[DY,y4],eW,none⟩
def qq:FS:=⟨[.rd y9],[y73,y4],cU,none⟩
def oc:FS:=⟨[.rd y9],[y3,y73,y4],gF,none⟩
def qY:FS:=⟨[.rd y9],[y91,.sl 73 (.bag y73),y3],m_i_ScanLog,none⟩
def mJ:FS:=⟨[.rd y43],[y4],gb,none⟩
def tl:FS:=⟨[.rd y91,.rd y91],[y4],pU,none⟩
def zo:FS:=⟨[.rd DY,.rd DY],[y4],pV,none⟩
def wU:FS:=⟨[.rd Sx,.rd Sx],[y4],qR,none⟩
def wV:FS:=⟨[.rd Nk,.rd Nk],[y4],nD,none⟩
def uu:FS:=⟨[.rd y34,.rd y34],[y4],oT,none⟩
def se:FS:=⟨[.rd y36,.rd y36],[y4],ky,none⟩
def wW:FS:=⟨[.rd DZ,.rd DZ],[y4],qS,none⟩
def wX:FS:=⟨[.rd JX,.rd JX],[y4],qT,none⟩
def pf:FS:=⟨[.rd lO,.rd lO],[y4],iM,none⟩
def od:FS:=⟨[.rd y37,.rd y37],[y4],j9,none⟩
def wY:FS:=⟨[.rd uL,.rd uL],[y4],nE,none⟩
def uv:FS:=⟨[.rd y59,.rd y59],[y4],oU,none⟩
def zp:FS:=⟨[.rd y61,.rd y61],[y4],pW,none⟩
def oe:FS:=⟨[.rd C5,.rd C5],[y4],gG,none⟩
def mK:FS:=⟨[.rd y38,.rd y38],[y4],jk,none⟩
def qu:FS:=⟨[.rd y40,.rd y40],[y4],jM,none⟩
def oh:FS:=⟨[.rd y88,.rd y88],[y4],gH,none⟩
def mL:FS:=⟨[.rd y41,.rd y41],[y4],jl,none⟩
def uw:FS:=⟨[.rd y43,.rd y43],[y4],lN,none⟩
def pg:FS:=⟨[.rd y43,.rd y3],[y3],iO,none⟩
def ph:FS:=⟨[.rd y43,.rd y3],[y3],iP,none⟩
def ox:FS:=⟨[.rd y31,.rd y3],[y4],dh,none⟩
end R
namespace R
open Go.RowKit
open D
theorem zq:FOk Tryz.prog 206 tf:=fk [] trivial Tryz.func206 .no
theorem D0:FOk Tryz.prog 207 wH:=fk [] trivial Tryz.func207 .no
theorem D1:FOk Tryz.prog 149 wI:=fk [(206,tf),(207,wH)] ⟨zq,D0,trivial⟩ Tryz.func149 .no
theorem Cu:FOk Tryz.prog 95 uc:=fk [(149,wI)] ⟨D1,trivial⟩ Tryz.func95 (.two .no (.two .no (.two .no (.two (.two .no (.loop [.slot 1 (.num .i64),.slot 5 (.num .i64)] .no)) .no))))
theorem AB:FOk Tryz.prog 40 rT:=fk [(95,uc)] ⟨Cu,trivial⟩ Tryz.func40 .no
theorem D2:FOk Tryz.prog 208 wJ:=fk [] trivial Tryz.func208 .no
theorem D3:FOk Tryz.prog 209 wK:=fk [(206,tf)] ⟨zq,trivial⟩ Tryz.func209 (.two .no (.two .no (.two .no (.two (.two .no (.loop [.slot 1 (.num .i64),.slot 5 (.num .i64)] .no)) .no))))
theorem wZ:FOk Tryz.prog 150 oV:=fk [(208,wJ),(209,wK)] ⟨D2,D3,trivial⟩ Tryz.func150 .no
theorem uM:FOk Tryz.prog 96 nQ:=fk [(150,oV)] ⟨wZ,trivial⟩ Tryz.func96 (.two .no (.two .no (.two .no (.two (.two .no (.loop [.slot 1 (.num .i64),.slot 5 (.num .i64)] .no)) .no))))
theorem Cv:FOk Tryz.prog 82 ud:=fk [] trivial Tryz.func82 .no
theorem G5:FOk Tryz.prog 28 zb:=fk [(82,ud)] ⟨Cv,trivial⟩ Tryz.func28 .no
theorem uN:FOk Tryz.prog 151 nR:=fk [(28,zb)] ⟨G5,trivial⟩ Tryz.func151 .no
theorem tm:FOk Tryz.prog 97 mB:=fk [(151,nR)] ⟨uN,trivial⟩ Tryz.func97 (.two .no (.two .no (.two .no (.two (.two .no (.loop [.slot 1 (.num .i64),.slot 5 (.num .i64)] .no)) .no))))
theorem ya:FOk Tryz.prog 41 qe:=fk [(96,nQ),(97,mB)] ⟨uM,tm,trivial⟩ Tryz.func41 .no
theorem tn:FOk Tryz.prog 42 mC:=fk [] trivial Tryz.func42 .no
theorem Cw:FOk Tryz.prog 11 ue:=fk [(40,rT),(41,qe),(42,mC)] ⟨AB,ya,tn,trivial⟩ Tryz.func11 .no
theorem jO:FOk Tryz.prog 59 iQ:=fk [] trivial Tryz.func59 .no
end R
namespace R
open Go.RowKit
open D
theorem G6:FOk Tryz.prog 152 ze:=fk [(59,iQ)] ⟨jO,trivial⟩ Tryz.func152 .no
theorem uO:FOk Tryz.prog 98 nS:=fk [(59,iQ),(152,ze)] ⟨jO,G6,trivial⟩ Tryz.func98 (.two .no (.two (.two .no (.loop [.slot 3 (.num .i64)] .no)) (.two (.two .no (.loop [.slot 4 (.num .i64)] .no)) .no)))
theorem w4:FOk Tryz.prog 99 rU:=fk [] trivial Tryz.func99 (.two .no (.two (.two .no (.loop [.slot 5 (.num .i64)] .no)) .no))
theorem lW:FOk Tryz.prog 43 iR:=fk [(59,iQ),(98,nS),(99,rU)] ⟨jO,uO,w4,trivial⟩ Tryz.func43 (.two .no (.two (.two .no (.loop [.slot 3 (.num .i64)] .no)) .no))
theorem uy:FOk Tryz.prog 276 oW:=fk [(59,iQ)] ⟨jO,trivial⟩ Tryz.func276 .no
theorem w5:FOk Tryz.prog 322 qU:=fk [(59,iQ),(276,oW)] ⟨jO,uy,trivial⟩ Tryz.func322 (.two .no (.two (.two .no (.join [.slot 5 .boo] .no (.two .no (.two .no (.two .no (.join [.slot 37 .boo] .no .no)))))) .no))
theorem G7:FOk Tryz.prog 319 zf:=fk [(322,qU)] ⟨w5,trivial⟩ Tryz.func319 (.two .no (.two .no (.two (.two .no (.loop [.slot 3 (.num .i64),.slot 4 (.num .i64)] .no)) .no)))
theorem w6:FOk Tryz.prog 281 oX:=fk [(319,zf)] ⟨G7,trivial⟩ Tryz.func281 .no
theorem qZ:FOk Tryz.prog 284 nF:=fk [(322,qU)] ⟨w5,trivial⟩ Tryz.func284 (.two .no (.two .no (.two .no (.two (.loop [.slot 3 (.num .i64),.slot 4 (.num .i64)] .no) .no))))
theorem w7: ∀n,FOk Tryz.prog 282 (nG n)
 | 0=>iy (f:=nG 0) (enters_of Tryz.func282 (by kernel_rfl) rfl) rfl (fun d=>rfl)
 | n+1=>by
  have ih:=w7 n
  exact fk [(282,(nG n)),(284,nF)] ⟨ih,qZ,trivial⟩ Tryz.func282 (.two .no (.two .no (.two .no (.two (.two .no (.two (.two .no (.at [.slot 15 .boo] .no)) .no)) .no))))
theorem zr:FOk Tryz.prog 155 tg:=fk [] trivial Tryz.func155 .no
theorem zt:FOk Tryz.prog 320 th:=fk [(155,tg)] ⟨zr,trivial⟩ Tryz.func320 .no
theorem G8:FOk Tryz.prog 343 zg:=fk [] trivial Tryz.func343 .no
theorem uz: ∀n,FOk Tryz.prog 321 (lP n)
 | 0=>iy (f:=lP 0) (enters_of Tryz.func321 (by kernel_rfl) rfl) rfl (fun d=>rfl)
 | n+1=>by
  have ih:=uz n
  exact fk [(320,th),(321,(lP n)),(343,zg)] ⟨zt,ih,G8,trivial⟩ Tryz.func321 .no
theorem sf: ∀n,FOk Tryz.prog 283 (kz n)
 | 0=>iy (f:=kz 0) (enters_of Tryz.func283 (by kernel_rfl) rfl) rfl (fun d=>rfl)
 | n+1=>by
  have ih:=sf n
  exact fk [(283,(kz n)),(284,nF),(320,th),(321,(lP e7))] ⟨ih,qZ,zt,(uz e7),trivial⟩ Tryz.func283 (.two .no (.two .no (.two .no (.two (.two .no (.two (.two .no (.at [.slot 15 .boo] .no)) .no)) .no))))
theorem yc:FOk Tryz.prog 248 qf:=fk [(281,oX),(282,(nG e7)),(283,(kz e7))] ⟨w6,(w7 e7),(sf e7),trivial⟩ Tryz.func248 .no
theorem D4:FOk Tryz.prog 285 wL:=fk [] trivial Tryz.func285 (.two .no (.loop [.slot 6 (.num .i64),.par 3 [3] 3 y3] (.two .no (.two (.at [.par 3 [3] 3 y3] .no) .no))))
end R
namespace R
open Go.RowKit
open D
theorem uA: ∀n,FOk Tryz.prog 249 (lQ n)
 | 0=>iy (f:=lQ 0) (enters_of Tryz.func249 (by kernel_rfl) rfl) rfl (fun d=>rfl)
 | n+1=>by
  have ih:=uA n
  exact fk [(249,(lQ n)),(284,nF),(285,wL)] ⟨ih,qZ,D4,trivial⟩ Tryz.func249 (.two .no (.two .no (.two .no (.two (.two .no (.two .no (.two .no (.two .no (.two .no (.two .no (.two (.two .no (.two .no (.two .no (.two .no (.two .no (.two (.two .no (.at [.box 11 [.boo,(.num .i64),(.num .i64)]] .no)) (.two (.two .no (.at [.box 11 [.boo,(.num .i64),(.num .i64)]] .no)) .no))))))) .no))))))) .no))))
theorem sg:FOk Tryz.prog 210 lR:=fk [(248,qf),(249,(lQ e7))] ⟨yc,(uA e7),trivial⟩ Tryz.func210 (.two .no (.two .no (.two .no (.two .no (.two (.two .no (.loop [.slot 6 (.num .i64),.slot 7 (.num .i64)] (.two .no (.two (.at [.slot 6 (.num .i64)] .no) .no)))) .no)))))
theorem Cx:FOk Tryz.prog 250 uf:=fk [] trivial Tryz.func250 (.two .no (.two .no (.join [.slot 7 (.num .i64)] .no (.two (.two .no (.loop [.slot 7 (.num .i64),.slot 8 (.num .i64)] (.two .no (.join [.slot 7 (.num .i64)] .no .no)))) (.two .no (.two (.two .no (.loop [.slot 9 (.num .i64),.slot 10 (.num .i64)] (.two .no (.join [.slot 9 (.num .i64)] .no .no)))) .no))))))
theorem w8:FOk Tryz.prog 251 qV:=fk [] trivial Tryz.func251 (.two .no (.two (.two .no (.loop [.slot 5 (.num .i64)] .no)) .no))
theorem yd:FOk Tryz.prog 252 qg:=fk [] trivial Tryz.func252 .no
theorem ye:FOk Tryz.prog 211 qi:=fk [(250,uf),(251,qV),(252,qg)] ⟨Cx,w8,yd,trivial⟩ Tryz.func211 (.two .no (.two .no (.two .no (.two (.two .no (.loop [.slot 7 (.own 3 y3),.slot 8 (.num .i64),.box 6 [(.num .i64),(.own 4 y4),(.own 91 y91)]] (.two .no (.two (.two .no (.two (.two .no (.loop [.slot 7 (.own 3 y3),.slot 9 (.own 3 y3),.slot 10 (.num .i64)] (.two .no (.two (.two .no (.two .no (.join [.slot 7 (.own 3 y3),.slot 12 (.num .i64)] .no .no))) .no)))) .no)) .no)))) .no))))
theorem yf:FOk Tryz.prog 286 qj:=fk [] trivial Tryz.func286 (.two .no (.two .no (.two (.two .no (.loop [.slot 1 (.own 3 y3),.slot 2 (.num .i64)] .no)) .no)))
theorem AC:FOk Tryz.prog 253 rV:=fk [(251,qV),(286,qj)] ⟨w8,yf,trivial⟩ Tryz.func253 (.two .no (.two .no (.two .no (.two .no (.two .no (.two (.two .no (.loop [.slot 8 (.own 3 y3),.slot 9 (.own 3 y3),.slot 10 (.num .i64),.box 7 [(.num .i64),(.own 4 y4),(.own 91 y91)]] (.two .no (.two (.two .no (.two (.two .no (.loop [.slot 8 (.own 3 y3),.slot 9 (.own 3 y3),.slot 11 (.own 3 y3),.slot 12 (.num .i64)] (.two .no (.two (.two .no (.two .no (.join [.slot 8 (.own 3 y3),.slot 9 (.own 3 y3),.slot 14 (.num .i64)] .no .no))) .no)))) .no)) .no)))) .no))))))
theorem w9:FOk Tryz.prog 255 qW:=fk [] trivial Tryz.func255 (.two .no (.two .no (.two (.two .no (.loop [.row 3 4 y4,.slot 4 (.num .i64)] (.two .no (.two (.two .no (.loop [.row 3 4 y4,.slot 5 (.num .i64)] (.two .no (.two (.two .no (.loop [.row 3 4 y4,.slot 6 (.num .i64)] (.two .no (.join [.row 3 4 y4] .no .no)))) .no)))) .no)))) .no)))
theorem G9:FOk Tryz.prog 287 zh:=fk [] trivial Tryz.func287 (.two .no (.two .no (.two (.two .no (.loop [.slot 7 (.own 3 y3),.slot 8 (.num .i64)] (.two .no (.join [.slot 7 (.own 3 y3)] .no .no)))) .no)))
theorem yg:FOk Tryz.prog 254 qk:=fk [(99,rU),(255,qW),(287,zh)] ⟨w4,w9,G9,trivial⟩ Tryz.func254 (.two .no (.two .no (.two .no (.two (.two .no (.loop [.slot 4 (.own 3 y3),.slot 5 (.num .i64)] (.two .no (.two (.two .no (.two (.two .no (.at [.slot 6 (.num .i64)] .no)) (.two (.two .no (.at [.slot 6 (.num .i64)] .no)) .no))) .no)))) (.two (.two .no (.loop [.slot 4 (.own 3 y3),.slot 7 (.num .i64)] (.two .no (.two (.two .no (.two .no (.two (.two .no (.loop [.slot 8 (.own 91 y91),.slot 9 (.own 3 y3),.slot 10 (.num .i64)] (.two .no (.two (.at [.slot 8 (.own 91 y91),.slot 9 (.own 3 y3)] (.two .no (.two .no (.two .no (.two (.two .no (.loop [.slot 12 (.num .i64),.slot 13 (.num .i64)] (.two .no (.two (.at [.slot 12 (.num .i64)] .no) .no)))) (.two (.two .no (.at [.slot 8 (.own 91 y91),.slot 12 (.num .i64),.gone 11] .no)) .no)))))) .no)))) .no))) .no)))) .no)))))
theorem xa:FOk Tryz.prog 212 oY:=fk [(253,rV),(254,qk),(255,qW)] ⟨AC,yg,w9,trivial⟩ Tryz.func212 .no
theorem xb:FOk Tryz.prog 153 oZ:=fk [(210,lR),(211,qi),(212,oY)] ⟨sg,ye,xa,trivial⟩ Tryz.func153 .no
theorem mM:FOk Tryz.prog 156 jm:=fk [(99,rU)] ⟨w4,trivial⟩ Tryz.func156 (.two .no (.two .no (.two (.two .no (.loop [.slot 5 (.num .i64)] .no)) (.two (.two .no (.loop [.slot 6 (.num .i64)] .no)) .no))))
theorem Cy:FOk Tryz.prog 154 ug:=fk [(156,jm)] ⟨mM,trivial⟩ Tryz.func154 (.two .no (.two (.two .no (.loop [.slot 5 (.num .i64)] .no)) .no))
theorem Cz:FOk Tryz.prog 100 uh:=fk [(59,iQ),(153,oZ),(154,ug),(155,tg)] ⟨jO,xb,Cy,zr,trivial⟩ Tryz.func100 (.two .no (.two .no (.two .no (.two (.two .no (.loop [.slot 5 (.num .i64),.box 4 [(.own 189 lO),(.own 137 C5)]] (.two .no (.two (.two .no (.two .no (.two .no (.join [.slot 8 (.num .i64),.box 4 [(.own 189 lO),(.own 137 C5)],.gone 6] .no .no)))) .no)))) .no))))
theorem yh:FOk Tryz.prog 157 ql:=fk [] trivial Tryz.func157 (.two .no (.two .no (.two (.two .no (.loop [.slot 5 (.num .i64)] .no)) .no)))
end R
namespace R
open Go.RowKit
open D
theorem q7:FOk Tryz.prog 101 kV:=fk [(156,jm),(157,ql)] ⟨mM,yh,trivial⟩ Tryz.func101 (.two .no (.two .no (.two (.two .no (.loop [.slot 5 (.num .i64)] .no)) (.two (.two .no (.loop [.slot 6 (.num .i64)] .no)) .no))))
theorem q8:FOk Tryz.prog 44 kW:=fk [(100,uh),(101,kV)] ⟨Cz,q7,trivial⟩ Tryz.func44 .no
theorem mN:FOk Tryz.prog 63 jn:=fk [(43,iR)] ⟨lW,trivial⟩ Tryz.func63 .no
theorem AD:FOk Tryz.prog 79 rW:=fk [] trivial Tryz.func79 (.two .no (.two (.two .no (.loop [.slot 5 (.num .i64)] .no)) .no))
theorem D5:FOk Tryz.prog 45 wM:=fk [(59,iQ),(63,jn),(79,rW)] ⟨jO,mN,AD,trivial⟩ Tryz.func45 (.two .no (.two (.two .no (.loop [.slot 3 (.num .i64)] .no)) .no))
theorem nI:FOk Tryz.prog 144 kA:=fk [] trivial Tryz.func144 (.two .no (.two .no (.two .no (.two .no (.two (.loop [.slot 0 (.num .i64),.slot 3 .str] (.two .no (.two .no (.two (.two .no (.at [.slot 5 (.num .i64)] .no)) .no)))) .no)))))
theorem oi:FOk Tryz.prog 243 ka:=fk [(276,oW)] ⟨uy,trivial⟩ Tryz.func243 .no
theorem qv:FOk Tryz.prog 200 mb:=fk [(59,iQ),(144,kA),(243,ka)] ⟨jO,nI,oi,trivial⟩ Tryz.func200 .no
theorem pj:FOk Tryz.prog 143 kX:=fk [(200,mb)] ⟨qv,trivial⟩ Tryz.func143 (.two .no (.two .no (.two .no (.two (.two .no (.loop [.slot 3 .str,.slot 4 (.num .i64)] (.two .no (.two (.atX [.slot 3 .str] (.two .no (.two .no (.two (.two .no (.at [.slot 3 .str] .no)) .no)))) .no)))) .no))))
theorem CA:FOk Tryz.prog 145 ui:=fk [] trivial Tryz.func145 (.two .no (.two .no (.two (.two .no (.loop [.slot 3 (.num .i64),.slot 4 (.num .i64)] .no)) .no)))
theorem uP:FOk Tryz.prog 90 nT:=fk [(59,iQ),(143,kX),(144,kA),(145,ui)] ⟨jO,pj,nI,CA,trivial⟩ Tryz.func90 .no
theorem xc:FOk Tryz.prog 177 rX:=fk [] trivial Tryz.func177 (.two .no (.two .no (.two .no (.two (.two .no (.loop [.slot 5 (.own 9 y9),.slot 6 (.num .i64),.slot 7 (.num .i64)] (.two .no (.two (.at [.slot 5 (.own 9 y9),.slot 6 (.num .i64)] .no) .no)))) .no))))
theorem uB:FOk Tryz.prog 178 o0:=fk [(144,kA)] ⟨nI,trivial⟩ Tryz.func178 (.two .no (.two .no (.two .no (.two (.two .no (.loop [.slot 4 (.num .i64),.slot 5 (.num .i64),.slot 6 (.num .i64)] (.two .no (.two (.at [.slot 4 (.num .i64),.slot 5 (.num .i64)] .no) .no)))) (.two (.two .no (.at [.slot 4 (.num .i64)] .no)) .no)))))
theorem xd:FOk Tryz.prog 271 o6:=fk [(243,ka)] ⟨oi,trivial⟩ Tryz.func271 (.two .no (.two (.two .no (.loop [.slot 4 (.num .i64)] .no)) .no))
theorem AE:FOk Tryz.prog 232 rY:=fk [(177,rX),(178,o0),(200,mb),(271,o6)] ⟨xc,uB,qv,xd,trivial⟩ Tryz.func232 .no
theorem yi:FOk Tryz.prog 179 qm:=fk [(143,kX),(177,rX),(232,rY)] ⟨pj,xc,AE,trivial⟩ Tryz.func179 (.two .no (.two .no (.two .no (.two .no (.two (.two .no (.loop [.slot 6 (.num .i64),.box 4 [(.own 170 (.prod y4 DY))]] .no)) .no)))))
theorem uQ:FOk Tryz.prog 118 nU:=fk [(90,nT),(177,rX),(178,o0),(179,qm)] ⟨uP,xc,uB,yi,trivial⟩ Tryz.func118 .no
end R
namespace R
open Go.RowKit
open D
theorem xe:FOk Tryz.prog 60 qX:=FH (ps:=[.rd y9]) (A:=y91) (E:=73) (t:=y73) (B:=y3) (m:=m_s_ScanLog) (fk [(118,nU)] ⟨uQ,trivial⟩ Tryz.func60 (.two .no (.two .no (.two .no (.two .no (.two (.two .no (.loop [.slot 5 (.own 3 y3),.slot 6 (.own 73 y73),.slot 7 (.num .i64),.slot 8 (.num .i64)] (.two .no (.two (.atX [.slot 5 (.own 3 y3),.slot 6 (.own 73 y73),.slot 7 (.num .i64)] .no) .no)))) .no))))))
theorem Ha:FOk Tryz.prog 46 zi:=fk [(60,qX),(63,jn)] ⟨xe,mN,trivial⟩ Tryz.func46 .no
theorem tq:FOk Tryz.prog 12 mD:=fk [(43,iR),(44,kW),(45,wM),(46,zi)] ⟨lW,q8,D5,Ha,trivial⟩ Tryz.func12 .no
theorem zu:FOk Tryz.prog 213 tj:=fk [] trivial Tryz.func213 (.two .no (.two .no (.two (.two .no (.loop [.row 3 3 y3,.slot 4 (.num .i64)] .no)) .no)))
theorem Hb:FOk Tryz.prog 201 zj:=fk [] trivial Tryz.func201 .no
theorem D6:FOk Tryz.prog 214 wN:=fk [(201,zj)] ⟨Hb,trivial⟩ Tryz.func214 (.two .no (.two .no (.two (.two .no (.loop [.row 3 168 DY,.slot 4 (.num .i64)] .no)) .no)))
theorem D7:FOk Tryz.prog 158 wO:=fk [(213,tj),(214,wN)] ⟨zu,D6,trivial⟩ Tryz.func158 .no
theorem CB:FOk Tryz.prog 102 uj:=fk [(158,wO)] ⟨D7,trivial⟩ Tryz.func102 (.two .no (.two .no (.two (.two .no (.loop [.row 3 126 Nk,.slot 4 (.num .i64)] .no)) .no)))
theorem AF:FOk Tryz.prog 47 rZ:=fk [(102,uj)] ⟨CB,trivial⟩ Tryz.func47 .no
theorem D8:FOk Tryz.prog 215 wP:=fk [] trivial Tryz.func215 (.two .no (.two .no (.two (.two .no (.loop [.row 3 4 y4,.slot 4 (.num .i64)] .no)) .no)))
theorem D9:FOk Tryz.prog 216 wQ:=fk [(213,tj)] ⟨zu,trivial⟩ Tryz.func216 (.two .no (.two .no (.two (.two .no (.loop [.row 3 91 y91,.slot 4 (.num .i64)] .no)) .no)))
theorem xf:FOk Tryz.prog 159 o7:=fk [(215,wP),(216,wQ)] ⟨D8,D9,trivial⟩ Tryz.func159 .no
theorem uR:FOk Tryz.prog 103 nV:=fk [(159,o7)] ⟨xf,trivial⟩ Tryz.func103 (.two .no (.two .no (.two (.two .no (.loop [.row 3 189 lO,.slot 4 (.num .i64)] .no)) .no)))
theorem Ea:FOk Tryz.prog 139 wR:=fk [] trivial Tryz.func139 .no
theorem CC:FOk Tryz.prog 84 uk:=fk [(139,wR)] ⟨Ea,trivial⟩ Tryz.func84 (.two .no (.two .no (.two (.two .no (.loop [.row 3 161 uL,.slot 4 (.num .i64)] .no)) .no)))
theorem Hc:FOk Tryz.prog 30 zk:=fk [(84,uk)] ⟨CC,trivial⟩ Tryz.func30 .no
theorem uS:FOk Tryz.prog 160 nW:=fk [(30,zk)] ⟨Hc,trivial⟩ Tryz.func160 .no
end R
end Go.Proofs.YtilionjghdjbdaaGreatDoor
