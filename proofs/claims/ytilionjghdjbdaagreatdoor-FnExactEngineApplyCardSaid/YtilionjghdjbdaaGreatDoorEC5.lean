/- FnExactEngineApply: for every input the law returns true and changes nothing that was there. Part 6 of 9. -/
import Derived.Test.YtilionjghdjbdaaGreatDoorEC4
set_option linter.unusedVariables false
set_option linter.unusedSimpArgs false
set_option linter.unnecessarySimpa false
set_option linter.unusedSectionVars false
set_option maxRecDepth 1000000
namespace Go.Proofs.YtilionjghdjbdaaGreatDoor
namespace R
open Go.RowKit
open D
theorem D2 {vs:List Value} : ∀ {ts:List Ty} {i:Nat} {us:List Value} {d:jl ts},us.length=ts.length->(∀j v,us[j]? =some v->vs[i+j]? =some v)->wt i ts d (.tuple vs.toArray)=xW ts us d
 | [],i,us,d,h,_=>by
  cases us with
  | nil=>rfl
  | cons _ _=>cases h
 | t::ts,i,[],d,h,_=>by cases h
 | t::ts,i,u::us,d,h,k=>by
  have h0:vg (.tuple vs.toArray) [i] =u:=by
   show vs.toArray.getD i undef=u
   have:=k 0 u rfl
   rw[Nat.add_zero] at this
   simp[Array.getD_eq_getD_getElem?,this]
  show Ch.own t.rep (jm t.isProd (vg (.tuple vs.toArray) [i])) d.1::wt (i+1) ts d.2 _=Ch.own t.rep (jm t.isProd u) d.1::xW ts us d.2
  rw[h0,D2 (us:=us) (by simpa using h) fun j v hj=>by
   have:=k (j+1) v (by simpa using hj)
   rwa [show i+(j+1)=i+1+j from by omega] at this]
theorem MN {ts:List Ty} {vs:List Value} {d:jl ts} (h:vs.length=ts.length):resGv ts d (ZM vs)=xW ts vs d:=by
 match ts,vs,d,h with
 | [],[],d,_=>rfl
 | [t],[v],d,_=>rfl
 | t::u::ts,v::w::vs,d,h =>
  show wt 0 _ d (.tuple (v::w::vs).toArray)=_
  exact D2 h fun j x hj=>by rw[Nat.zero_add];exact hj
theorem S8 {ts:List Ty} {vs:List Value} (h:vs.length=ts.length) (k: ∀(i:Nat) t v,ts[i]? =some t->vs[i]? =some v->pS v=t.isProd):resFa ts (ZM vs):=by
 match ts,vs,h with
 | [],[],_=>exact ⟨#[],rfl,rfl,fun i t ht=>by simp at ht⟩
 | [t],[v],_=>exact k 0 t v rfl rfl
 | t::u::ts,v::w::vs,h =>
  refine ⟨(v::w::vs).toArray,rfl,by simpa using h,fun i t' ht=>?_⟩
  have hlt:i<(v::w::vs).length:=by rw[h];exact (List.getElem?_eq_some_iff.1 ht).1
  have:=k i t' ((v::w::vs)[i]) ht (List.getElem?_eq_getElem hlt)
  rw[<-this,Array.getD_eq_getD_getElem?,List.getElem?_toArray,List.getElem?_eq_getElem hlt];rfl
theorem Bh {P:Program} {I:Hp} {w0 w:World} {F:Ch} {J:Hp} {θ:Th} {n:Nat} {s:Sg} {a:Act} {tt:TT} (hT:TTok P tt) (hS:Sim P I w0 F n J θ s a w): ∀ {rs:List ResultVar} {vs:List AV},D1 tt s rs=some vs->Lq P a w rs (vs.map (·.v θ))/\ ∀v∈vs,v.ok P w0 J θ s.nxt s.chs
 | [],vs,h=>by
  obtain rfl:=ae (show some [] =some vs from h)
  exact ⟨rfl,fun v hv=>by cases hv⟩
 | r::rs,vs,h=>by
  obtain ⟨v,hv',h⟩:=bind_some (show (W7 tt s r).bind _=some vs from h)
  obtain ⟨us,hus,h⟩:=bind_some h
  obtain rfl:=ae h
  obtain ⟨k1,k2⟩:=S6 hT hS hv'
  obtain ⟨q1,q2⟩:=Bh hT hS hus
  refine ⟨⟨_,_,rfl,k1,q1⟩,fun x hx=>?_⟩
  rcases aH hx with rfl | hx
  ·exact k2
  ·exact q2 x hx
theorem PL {J:Hp} {a b c d:List Ch} (h:qI J a b) (k:qI J c d):qI J (a++c) (b++d):=fun w F hs=>by
 obtain ⟨G,K,rfl,e1,e2⟩:=hs.split
 exact (h w G e1).append (k w K e2)
theorem St.sepTo {J:Hp} {w0 w:World} {a b C:List Ch} (h:St J w0 w (a++C)) (k:qI J a b):St J w0 w (b++C):=by
 obtain ⟨h1,h2,F,h3,h4,h5⟩:=h
 obtain ⟨G,K,rfl,e1,e2⟩:=h3.split
 exact ⟨h1,h2,G++K,(k w G e1).append e2,h4,h5⟩
theorem D3 {P:Program} {n:Nat} {I:Hp} {w0:World} {k:FuncId} {fn:Func} {c:Code} {args:Array Value} {rn:List Ch} {fact:Value->Prop} {gv:Value->List Ch} (L:List (Nat×Value)) (hf:P.funcs[k]? =some fn) (hb:fn.body=some c) (hn:fn.ntmps=n) (hm:args.size<=n) (hL: ∀p∈L,args[p.1]? =some p.2)
  (h: ∀F w a,Agr n a L->St I w0 w (rn++ [F])->c.wp P (bodyPost P fn fun e w'=> ∃v,e= .returned v/\fact v/\ ∃J,I.le J/\St J w0 w' (gv v++ [F])) a w) (hd: ∀v,Ch.back (gv v)):Con P k args I w0 rn fact gv:=by
 intro w C hs
 have hs':St I w0 w (rn++ [Ch.fr I C]):=by
  obtain ⟨hb,hi,F,h1,h2,h3⟩:=hs
  obtain ⟨G,K,rfl,e1,e2⟩:=h1.split
  exact ⟨hb,hi,G++K,e1.append ⟨K,[],by simp,e2,rfl⟩,h2,h3⟩
 have:=h (Ch.fr I C) w { tmps:=args++Array.replicate (fn.ntmps - args.size) undef,defers:=[] } (Agr.start L (by omega) hL) hs'
 refine (calls_of_wp hf hb this).mono ?_
 rintro e w' ⟨v,rfl,hv,J,hJ,hs⟩
 exact ⟨v,rfl,hv,hs.back hJ (hd v)⟩
theorem S9 {P:Program} {I:Hp} {w0 w:World} {F:Ch} {n:Nat} {J:Hp} {θ:Th} {s:Sg} {a:Act} {tr:Trs} {vs:List AV} (hS:Sim P I w0 F n J θ s a w): ∃J' θ',J.le J'/\Sim P I w0 F n J' θ' (S7 tr vs s) a w/\Fr s θ (S7 tr vs s) θ':=by
 have key: ∃J' θ',J.le J'/\Sim P I w0 F n J' θ' (HK tr vs s) a w/\Fr s θ (HK tr vs s) θ':=by
  unfold HK
  split
  ·exact ⟨J,θ,Hp.le.rfl,hS,Fr.rfl⟩
  ·exact vt hS
 obtain ⟨J',θ',h1,h2,h3⟩:=key
 obtain ⟨S2,F2⟩:=tQ (V:=⟨[],[],[],n,[]⟩) (hs:=Jr s vs++An (HK tr vs s).chs) h2
 exact ⟨J',θ',h1,S2,h3.trans F2⟩
theorem UX {V:Env} {P:Program} {w0:World} {F:Ch} {J:Hp} {θ:Th} (hT:TTok P V.tt) {fn:Func} {rs:List Ty} {ps:List PM} {d:denP ps} {vs:List Value} {s0:Sg} (k0:vs.length=ps.length) (k5:StF P w0 J θ ps.length 0 ps vs d) (hn0:ps.length<=s0.nxt): ∀r J' θ' s' a' w',PK V fn.results.toList rs ps d s'=some r->Sim P J w0 F V.n J' θ' s' a' w'->J.le J'->Fr s0 θ s' θ'->
  bodyPost P fn (fun e w'=> ∃v,e= .returned v/\(resFa rs v/\(DV 1000000 V.an=true->yQ rs (hFst rs (outs ps) (toH _ r)) v))/\ ∃J2,J.le J2/\St J2 w0 w' ((resGv rs (hFst rs (outs ps) (toH _ r)) v++outCh ps vs (hSnd rs (outs ps) (toH _ r)))++ [F])) .ret a' w':=by
 intro r J' θ' s' a' w' hrt hS' hJ hFr
 obtain ⟨vs00,hv00,hrt⟩:=bind_some (show (D1 V.tt s' fn.results.toList).bind _=some r from hrt)
 obtain ⟨s0',hrt,S0,N0⟩:=K7 hrt (Bh hT hS' hv00).2 hS'
 obtain ⟨vs0,hv0,hrt⟩:=bind_some hrt
 obtain ⟨J1,θ1,hJ1,S1,F1⟩:=S9 (tr:=V.tr) (vs:=vs0) S0
 generalize S7 V.tr vs0 s0'=s1 at hrt S1 F1
 have hle:s0.nxt<=s'.nxt:=hFr.1
 have hsame:Same ps.length θ θ1:=fun i hi=>(F1.same i (by omega)).trans (hFr.same i (by omega))
 replace hJ:=hJ.trans hJ1
 clear hJ1 F1 hS' S0 hFr
 revert J1 θ1
 clear J' θ'
 intro J' θ' S1 hsame hJ
 obtain ⟨us,hus,hrt⟩:=bind_some hrt
 obtain ⟨q,hq,hrt⟩:=bind_some hrt
 obtain ⟨o,ho,hrt⟩:=bind_some hrt
 obtain ⟨u0,hnl,hrt⟩:=bind_some hrt
 obtain rfl:=ae hrt
 obtain ⟨r1,r2⟩:=Bh hT S1 hus
 obtain ⟨t1,t2,t3,t4⟩:=D0 (J:=J') (θ:=θ') hq r2
 obtain ⟨o1,o2⟩:=gb (P:=P) (J:=J) (J':=J') (θ:=θ) (θ':=θ') (vs:=vs) (n:=ps.length) (n':=s1.nxt) (chs0:=s1.chs) hJ hsame ho k0 k5 fun e he=>S1.fine.chs e (t1.mem_iff.2 (by simp[he]))
 have hl:(us.map (·.v θ')).length=rs.length:=by rw[List.length_map];exact t2
 refine aao S1.agr r1 ⟨_,rfl,⟨S8 hl fun i t v ht hv1=>?_,fun han=>?_⟩,J',hJ,?_⟩
 ·rw[List.getElem?_map] at hv1
  obtain ⟨x,hx,rfl⟩:=Option.map_eq_some_iff.1 hv1
  exact t4 i t x ht hx
 ·rw[Jq,Fg]
  unfold YR at hnl
  rw[han] at hnl
  have hnl:0<nlN us rs q.1:=bA hnl
  rcases us with _ | ⟨x,us⟩
  ·cases hnl
  ·cases us with
   | nil=>exact YS (θ:=θ') hnl rfl
   | cons y us=>unfold nlN at hnl;split at hnl <;> first | omega | simp_all
 ·rw[Jq,Fg,Lr,MN hl]
  have hp:=t1.trans (o1.append_left _)
  have h1:=S1.st.perm ((hp.map (toCh P θ')).append_right [F])
  have h2:St J' w0 w' ((q.2.1.map (toCh P θ')++o.2.1.map (toCh P θ'))++(o.2.2.map (toCh P θ')++ [F])):=by
   simpa [aP,ai] using h1
  have h3:=St.sepTo h2 (PL t3 o2)
  refine St.left (ds:=o.2.2.map (toCh P θ')) (h3.perm ?_)
  simp only[ai]
  exact List.Perm.append_left _ (List.Perm.append_left _ List.perm_append_comm)
theorem Xb {V:Env} {P:Program} (hT:TTok P V.tt) (hF:FTok P V.ft) (hmx:P.follows .mixedOrders=true) {k:FuncId} {fn:Func} {c:Code} {f:FS} (hf:P.funcs[k]? =some fn) (hb:fn.body=some c) (hn:fn.ntmps=V.n) (hen:Enters P k) (hm:f.ps.length<=V.n) (hdp:(G7 f.rs&&AU f.ps)=true) (ann:Ann)
  (hmod: ∀d,appP f.ps f.m d=kJ V (PK V fn.results.toList f.rs f.ps d) c ann (fun r=>some r) (fun _ _=>none) (PK V fn.results.toList f.rs f.ps d) (rX (Bg f.ps d))): ∀w0 J vs (d:denP f.ps) r,Lay P J->PArgs P w0 J f.ps vs d->appP f.ps f.m d=some r->Con P k vs.toArray J w0 (owCh f.ps vs d) (fun v=>resFa f.rs v/\(DV 1000000 V.an=true->yQ f.rs (hFst f.rs (outs f.ps) (toH _ r)) v)) (fun v=>resGv f.rs (hFst f.rs (outs f.ps) (toH _ r)) v++outCh f.ps vs (hSnd f.rs (outs f.ps) (toH _ r))):=by
 rw[aj] at hdp
 intro w0 J vs d r hlay ha hr
 rw[hmod] at hr
 let θ:Th:=fun i=>vs.getD i undef
 have hθ: ∀j v,vs[j]? =some v->θ (0+j)=v:=fun j v hj=>by
  show vs.getD (0+j) undef=v
  rw[Nat.zero_add,List.getD_eq_getElem?_getD,hj];rfl
 have k0:=HJ ha
 have hzip: ∀p∈(vs.zipIdx.map fun q=>(q.2,q.1)),vs.toArray[p.1]? =some p.2:=fun p hp=>by
  obtain ⟨q,hq,rfl⟩:=List.mem_map.1 hp
  obtain ⟨v,j⟩:=q
  have:=(List.mk_mem_zipIdx_iff_getElem? (x:=v) (i:=j)).1 hq
  simpa using this
 refine D3 (n:=V.n) (vs.zipIdx.map fun q=>(q.2,q.1)) hf hb hn (by rw[List.size_toArray,k0];exact hm) hzip (fun F w a hA hst=>?_) (fun v=>xN (fF _ _ _ hdp.2) _ _ hdp.1)
 ·obtain ⟨k1,k2,k3,k4,k5⟩:=Lp (n:=f.ps.length) (C:=[F]) ha hθ (by omega) hst
  have hfine:Fine P w0 J θ (Bg f.ps d):=⟨fun e he=>(k1 e he).1 _,fun e he=>by have:=k1 e he;show e.2.1<f.ps.length;omega,k2,fun e he=>k4 e he _,hlay⟩
  have hA':Agr V.n a (envL θ (Bg f.ps d)):=hA.pick _ fun p hp=>by
   obtain ⟨e,he,rfl⟩:=List.mem_map.1 hp
   have h5:=(k1 e he).2.2.2.2
   rw[Nat.sub_zero] at h5
   have key: ∀(l:List Value) (k:Nat) (i:Nat) (v:Value),k<=i->l[i - k]? =some v->((l.zipIdx k).map fun q=>(q.2,q.1)).lookup i=some v:=by
    intro l
    induction l with
    | nil=>intro k i v _ h;simp at h
    | cons x l ih =>
     intro k i v hk h
     simp only[List.zipIdx_cons,List.map_cons,List.lookup_cons]
     by_cases e:i=k
     ·subst e
      simp at h
      simp[h]
     ·have:(i==k)=false:=by simpa using e
      rw[this]
      refine ih (k+1) i v (by omega) ?_
      rw[show i - k=(i - (k+1))+1 from by omega] at h
      simpa using h
   exact key vs 0 e.1 _ (Nat.zero_le _) h5
  have hS:Sim P J w0 F V.n J θ (Bg f.ps d) a w:=⟨Hp.le.rfl,hA',k3,hfine⟩
  have fin:=UX (rs:=f.rs) (fn:=fn) (F:=F) hT k0 k5 (aE (Bg f.ps d).nxt)
  obtain ⟨θ0,hS0,hFr0⟩:=Ah hS
  exact (Bf (I:=J) (w0:=w0) (F:=F) hT hF hmx c).1 ann hr hS0 (fun J' θ' s' a' w' hk S' hJ hFr=>fin r J' θ' s' a' w' hk S' hJ (hFr0.trans hFr)) (fun i J' θ' s' a' w' hk=>by cases hk) (fun r' J' θ' s' a' w' hrt hrr hS' hJ hFr=>by
   obtain rfl:=ae hrr
   exact fin _ J' θ' s' a' w' hrt hS' hJ (hFr0.trans hFr))
theorem fok {V:Env} {P:Program} (hT:TTok P V.tt) (hF:FTok P V.ft) (hmx:P.follows .mixedOrders=true) {k:FuncId} {fn:Func} {c:Code} {f:FS} (hf:P.funcs[k]? =some fn) (hb:fn.body=some c) (hn:fn.ntmps=V.n) (hen:Enters P k) (hcl:f.cl=none) (hm:f.ps.length<=V.n) (hdp:(G7 f.rs&&AU f.ps)=true) (ann:Ann)
  (hmod: ∀d,appP f.ps f.m d=kJ V (PK V fn.results.toList f.rs f.ps d) c ann (fun r=>some r) (fun _ _=>none) (PK V fn.results.toList f.rs f.ps d) (rX (Bg f.ps d))):FOk P k f:=
 ⟨fun q hq=>by (rw[hcl] at hq;cases hq),fun _=>hen,fun w0 J vs d r hlay ha hr w C hs=>(Xb hT hF hmx hf hb hn hen hm hdp ann hmod w0 J vs d r hlay ha hr w C hs).mono fun e w' ⟨v,h1,h2,h3⟩=>⟨v,h1,h2.1,h3⟩⟩
theorem Ls {V:Env} {P:Program} (hT:TTok P V.tt) (hF:FTok P V.ft) (hmx:P.follows .mixedOrders=true) {k:FuncId} {fn:Func} {c:Code} {E b:Nat} (hf:P.funcs[k]? =some fn) (hb:fn.body=some c) (hn:fn.ntmps=V.n) (hen:Enters P k) (hm:1<=V.n) (ann:Ann)
  (hmod: ∀(E':TypeId) (bn:Bool) (xs:List Raw),(match bn with | true=>some ([] :List Raw) | false=>(cm b [] xs).bind fun zs=>some zs)=kJ V (PK V fn.results.toList [.sl E .raw] [] ()) c ann (fun r=>some r) (fun _ _=>none) (PK V fn.results.toList [.sl E .raw] [] ()) ⟨[(0,0,.one (.rdn ⟨0,[]⟩ bn (.sl E' .raw) xs))],[],1⟩):xK P k E b:=by
 refine ⟨hen,fun E' J w0 v xs zs hlay hrd uz=>?_⟩
 obtain ⟨bn,hbn⟩: ∃bn,DG v=bn:=⟨_,rfl⟩
 have hr:kJ V (PK V fn.results.toList [.sl E .raw] [] ()) c ann (fun r=>some r) (fun _ _=>none) (PK V fn.results.toList [.sl E .raw] [] ()) ⟨[(0,0,.one (.rdn ⟨0,[]⟩ bn (.sl E' .raw) xs))],[],1⟩=some zs:=by
  rw[<-hmod E' bn xs]
  cases bn with
  | false =>
   show (cm b [] xs).bind _=_
   rw[uz];rfl
  | true =>
   obtain ⟨h1,-⟩:=EW uz
   obtain ⟨ao,cap,e,-,hx⟩:=hrd
   obtain rfl:v= .slice ao xs.length cap:=by simpa using e
   rcases hx with rfl | ⟨b,off,ccs,t,fr,rfl,-⟩
   ·rw[h1];rfl
   ·cases hbn
 let θ:Th:=fun _=>v
 have key:Con P k #[v] J w0 [] (fun v=>resFa [.sl E .raw] v/\(DV 1000000 V.an=true->yQ [.sl E .raw] (zs,()) v)) (fun v=>resGv [.sl E .raw] (zs,()) v++ []):=by
  refine D3 (n:=V.n) [(0,v)] hf hb hn hm (fun p hp=>by obtain rfl:=az hp;rfl) (fun F w a hA hst=>?_) (fun u=>xN (D:=[]) trivial [.sl E .raw] (zs,()) rfl)
  have hfine:Fine P w0 J θ ⟨[(0,0,.one (.rdn ⟨0,[]⟩ bn (.sl E' .raw) xs))],[],1⟩:=⟨fun e he=>by obtain rfl:=az he;exact ⟨Nat.one_pos,hrd,hbn⟩,fun e he=>by obtain rfl:=az he;exact Nat.one_pos,List.pairwise_singleton _ _,fun e he=>(by cases he),hlay⟩
  have hS:Sim P J w0 F V.n J θ ⟨[(0,0,.one (.rdn ⟨0,[]⟩ bn (.sl E' .raw) xs))],[],1⟩ a w:=⟨Hp.le.rfl,hA,hst,hfine⟩
  have fin:=UX (V:=V) (θ:=θ) (J:=J) (w0:=w0) (rs:=[.sl E .raw]) (ps:=[]) (d:=()) (vs:=[]) (s0:=⟨[(0,0,.one (.rdn ⟨0,[]⟩ bn (.sl E' .raw) xs))],[],1⟩) (fn:=fn) (F:=F) hT rfl trivial (Nat.zero_le _)
  exact (Bf (I:=J) (w0:=w0) (F:=F) hT hF hmx c).1 ann hr hS (fun J' θ' s' a' w' hk S' hJ hFr=>fin _ J' θ' s' a' w' hk S' hJ hFr) (fun i J' θ' s' a' w' hk=>by cases hk) (fun r' J' θ' s' a' w' hrt hrr hS' hJ hFr=>by
   obtain rfl:=ae hrr
   exact fin _ J' θ' s' a' w' hrt hS' hJ hFr)
 exact fun w C hs=>(key w C hs).mono fun e w' ⟨v,h1,h2,h3⟩=>⟨v,h1,trivial,h3⟩
def kz:Nat->Ty
 | 0=>.raw
 | n+1=>.prod .raw (kz n)
def rA:(n:Nat)->(kz n).den->List Value
 | 0,p=>[p.1]
 | n+1,p=>p.1.1::rA n p.2
theorem sE: ∀n,(kz n).rep.size=n+1
 | 0=>rfl
 | n+1=>by
  show 1+(kz n).rep.size=_
  rw[sE n];omega
theorem Lt {I:Hp} {w:World} : ∀(n:Nat) {cs:List Value} {p:(kz n).den} {F:List Nat},(kz n).rep.own I w cs p F->F= [] /\cs=rA n p
 | 0,cs,p,F,h=>by
  obtain ⟨h1,h2⟩:=h
  exact ⟨h1,h2⟩
 | n+1,cs,p,F,⟨c,d,G,K,h1,h2,h3,h4⟩=>by
  obtain ⟨rfl,h5⟩:=h3
  obtain ⟨rfl,h6⟩:=Lt n h4
  have h5:c= [p.1.1]:=h5
  subst h1;subst h2;subst h5
  exact ⟨rfl,by rw[h6];rfl⟩
theorem PN: ∀(n:Nat) (cs:List Value),cs.length=n+1->(∀u∈cs,u.oneCell'=true)-> ∃p:(kz n).den,rA n p=cs
 | 0,cs,hl,h1=>by
  obtain ⟨u,rfl⟩:=List.length_eq_one_iff.1 hl
  exact ⟨⟨u,h1 u (by simp)⟩,rfl⟩
 | n+1,u::cs,hl,h1=>by
  obtain ⟨p,hp⟩:=PN n cs (by simpa using hl) (fun v hv=>h1 v (by simp[hv]))
  exact ⟨(⟨u,h1 u (by simp)⟩,p),by show u::rA n p=_;rw[hp]⟩
theorem kK {P:Program} {k:FuncId} {f:FS} (h:Enters P k) (hc:f.cl=none) (hm: ∀d,appP f.ps f.m d=none):FOk P k f:=
 ⟨fun q hq=>by (rw[hc] at hq;cases hq),fun _=>h,fun _ _ _ d r _ _ hr=>by rw[hm d] at hr;cases hr⟩
theorem HL {P:Program} {k:FuncId} {f:FS} {E b:Nat} (h:FOk P k ⟨f.ps,f.rs,f.m,none⟩) (hc:xK P k E b) (hb:Nat.beq b 0=false:=by rfl) (h7:Nat.beq b 7=false:=by rfl) (h8:Nat.ble 1000 b=false:=by rfl):FOk P k ⟨f.ps,f.rs,f.m,some (E,b)⟩:=
 ⟨fun q hq=>by obtain rfl:=ae hq;exact ⟨⟨fun e=>(by rw[hb] at e;cases e),fun _ _ _=>hc,fun e=>(by rw[h8] at e;cases e)⟩,fun e=>(by rw[h7] at e;cases e)⟩,fun _=>h.en rfl,h.con⟩
end R
namespace R
open Go.RowKit
open D
theorem Lu {n:Nat} {α:Type} {R:Rep α} (hR:R.Sh) (h1:R.size=n+1) {I:Hp} {w:World} : ∀ {xs:List α} {cur:List Value} {K:List Nat},OwnEls R I w cur xs K-> ∃ps:List (kz n).den,K= [] /\OwnEls (kz n).rep I w cur ps [] /\All2 (fun p x=>R.rd I (rA n p) x) ps xs
 | [],cur,K,h=>⟨[],h,rfl,.nil⟩
 | x::xs,cur,K,⟨c,rest,G,K1,e1,e2,e3,e4,e5⟩=>by
  obtain ⟨rfl,hrd⟩:=hR e4
  obtain ⟨p,rfl⟩:=PN n c (e2.trans h1) (R.rd_one hrd)
  obtain ⟨ps,rfl,k2,k3⟩:=Lu hR h1 e5
  have hraw: ∀(m:Nat) (q:(kz m).den),(kz m).rep.own I w (rA m q) q []:=by
   intro m
   induction m with
   | zero=>intro q;exact ⟨rfl,rfl⟩
   | succ m ih=>intro q;exact ⟨[q.1.1],rA m q.2,[],[],rfl,rfl,⟨rfl,rfl⟩,ih q.2⟩
  exact ⟨p::ps,e3,⟨rA n p,rest,[],[],e1,by rw[e2,h1,sE],rfl,hraw n p,k2⟩,.cons hrd k3⟩
theorem Fh {n:Nat} {α:Type} {E:TypeId} {R:Rep α} (hR:R.Sh) (h1:R.size=n+1) {I:Hp} {w0 w:World} {C:List Ch} {v:Value} {xs:List α} (h:St I w0 w (Ch.own (ah E R) [v] xs::C)): ∃ps:List (kz n).den,All2 (fun p x=>R.rd I (rA n p) x) ps xs/\St I w0 w (Ch.own (ah E (kz n).rep) [v] ps::C):=by
 obtain ⟨a1,a2,F,⟨G,K,rfl,⟨hl,k⟩,e⟩,a4,a5⟩:=h
 rcases k with ⟨hv',rfl,rfl⟩ | ⟨g,ofs,cap,cur,K1,hv',k1,k2,k3,k4,rfl,k5⟩
 ·exact ⟨[],.nil,a1,a2,[] ++K,⟨[],K,rfl,⟨Nat.zero_le _,.inl ⟨hv',rfl,rfl⟩⟩,e⟩,a4,a5⟩
 ·obtain ⟨ps,rfl,q1,q2⟩:=Lu hR h1 k5
  have hlen:=q2.length_eq
  exact ⟨ps,q2,a1,a2,[g] ++K,⟨[g],K,rfl,⟨by rw[hlen];exact hl,.inr ⟨g,ofs,cap,cur,[],by rw[hlen];exact hv',k1,by rw[hlen];exact k2,k3,by rw[h1] at k4;rw[sE];exact k4,rfl,q1⟩⟩,e⟩,a4,a5⟩
theorem HM {n:Nat} {α:Type} {R:Rep α} (hC:Cpy R R) (h1:R.size=n+1) {I:Hp} {w:World} : ∀ {ps:List (kz n).den} {xs:List α} {cur:List Value} {F:List Nat},OwnEls (kz n).rep I w cur ps F->All2 (fun p x=>R.rd I (rA n p) x) ps xs->OwnEls R I w cur xs F
 | [],[],_,_,h,_=>h
 | p::ps,x::xs,cur,F,⟨c,rest,G,K,e1,e2,e3,e4,e5⟩,hh=>by
  cases hh with
  | cons hp hps =>
   obtain ⟨rfl,rfl⟩:=Lt n e4
   exact ⟨rA n p,rest,[],K,e1,by rw[e2,sE];exact h1.symm,e3,hC hp,HM hC h1 e5 hps⟩
 | [],_::_,_,_,_,hh=>by cases hh
 | _::_,[],_,_,_,hh=>by cases hh
theorem Bi {n:Nat} {α:Type} {E:TypeId} {R:Rep α} (hC:Cpy R R) (h1:R.size=n+1) {I:Hp} {w0 w:World} {C:List Ch} {v:Value} {xs:List α} {ps:List (kz n).den} (hp:All2 (fun p x=>R.rd I (rA n p) x) ps xs) (h:St I w0 w (Ch.own (ah E (kz n).rep) [v] ps::C)):St I w0 w (Ch.own (ah E R) [v] xs::C):=by
 obtain ⟨a1,a2,F,⟨G,K,rfl,⟨hl,k⟩,e⟩,a4,a5⟩:=h
 have hlen:=hp.length_eq
 rcases k with ⟨hv',rfl,rfl⟩ | ⟨g,ofs,cap,cur,K1,hv',k1,k2,k3,k4,rfl,k5⟩
 ·cases hp
  exact ⟨a1,a2,[] ++K,⟨[],K,rfl,⟨Nat.zero_le _,.inl ⟨hv',rfl,rfl⟩⟩,e⟩,a4,a5⟩
 ·exact ⟨a1,a2,(g::K1)++K,⟨g::K1,K,rfl,⟨by rw[<-hlen];exact hl,.inr ⟨g,ofs,cap,cur,K1,by rw[<-hlen];exact hv',k1,by rw[<-hlen];exact k2,k3,by rw[sE] at k4;rw[h1];exact k4,rfl,HM hC h1 k5 hp⟩⟩,e⟩,a4,a5⟩
theorem Bj {α β:Type} {p:α->β->Prop} : ∀ {xs:List α} {ys:List β} (n:Nat),All2 p xs ys->All2 p (xs.take n) (ys.take n)
 | _,_,0,_=>.nil
 | _,_,n+1,.nil=>.nil
 | _,_,n+1,.cons h k=>.cons h (Bj n k)
theorem Ao {α β:Type} {p:α->β->Prop} : ∀ {xs:List α} {ys:List β} {xs':List α} {ys':List β},All2 p xs ys->All2 p xs' ys'->All2 p (xs++xs') (ys++ys')
 | _,_,_,_,.nil,h=>h
 | _,_,_,_,.cons h k,h'=>.cons h (Ao k h')
def ZO {α:Type} (xs:List α) (i j:Int):Option (List α):=(chk (0<=i/\i<=j/\j<=(xs.length:Int))).bind fun _=>some (xs.take i.toNat++xs.drop j.toNat)
def ZP {α:Type} (z:α) (p0s:List α) (p1i p2j:Int):Option (List α):=
 (chk (And (0<=p1i) (And (p1i<=p2j) (And (p2j<=(p0s.length:Int)) ((0+(p0s.length:Int))<=(p0s.length:Int)))))).bind fun _=>if p1i==p2j then (some p0s) else ((chk (And ((0:Int)<=0) (And (0<=p1i) ((0+p1i)<=(p0s.length:Int))))).bind fun _=>(chk (And (0<=p2j) (And (p2j<=((p0s.length:Int) - 0)) ((0+((p0s.length:Int) - 0))<=(p0s.length:Int))))).bind fun _=>(chk (And ((0+0:Int)=0) (And ((0+p1i)<=(0+p2j)) (And ((0+p2j)<=(0+((p0s.length:Int) - 0))) ((0+((p0s.length:Int) - 0))<=(p0s.length:Int)))))).bind fun _=>(chk (And (0<=(((0+p1i)+((0+((p0s.length:Int) - 0)) - (0+p2j))) - 0)) (And ((((0+p1i)+((0+((p0s.length:Int) - 0)) - (0+p2j))) - 0)<=(p0s.length:Int)) ((0+(p0s.length:Int))<=((o9 p0s ((0+p1i).toNat) ((0+p2j).toNat) ((0+((p0s.length:Int) - 0)).toNat)).length:Int))))).bind fun _=>(chk (And ((0+(((0+p1i)+((0+((p0s.length:Int) - 0)) - (0+p2j))) - 0))<=(0+(p0s.length:Int))) ((0+(p0s.length:Int))<=((o9 p0s ((0+p1i).toNat) ((0+p2j).toNat) ((0+((p0s.length:Int) - 0)).toNat)).length:Int)))).bind fun _=>some (((xP (o9 p0s ((0+p1i).toNat) ((0+p2j).toNat) ((0+((p0s.length:Int) - 0)).toNat)) ((0+(((0+p1i)+((0+((p0s.length:Int) - 0)) - (0+p2j))) - 0)).toNat) ((0+(p0s.length:Int)).toNat) z).take (((0+p1i)+((0+((p0s.length:Int) - 0)) - (0+p2j))).toNat)).drop ((0:Int).toNat)))
theorem chk_of {α:Type} {p:Prop} [Decidable p] {k:Unit->Option α} (h:p):(chk p).bind k=k ():=by
 unfold chk
 rw[if_pos h];rfl
theorem Xc {α:Type} {z:α} {xs:List α} {i j:Int} (h1:0<=i) (h2:i<=j) (h3:j<=(xs.length:Int)):ZP z xs i j=some (xs.take i.toNat++xs.drop j.toNat):=by
 have hsl:(o9 xs ((0+i).toNat) ((0+j).toNat) ((0+((xs.length:Int) - 0)).toNat)).length=xs.length:=wG (by omega) (by omega) (by omega)
 unfold ZP
 rw[chk_of (by omega)]
 by_cases hij:i=j
 ·subst hij
  rw[if_pos (by simp),List.take_append_drop]
 ·rw[if_neg (by simpa using hij),chk_of (by omega),chk_of (by omega),chk_of (by omega),chk_of (by rw[hsl];omega),chk_of (by rw[hsl];omega)]
  have hzl:(xP (o9 xs ((0+i).toNat) ((0+j).toNat) ((0+((xs.length:Int) - 0)).toNat)) ((0+(((0+i)+((0+((xs.length:Int) - 0)) - (0+j))) - 0)).toNat) ((0+(xs.length:Int)).toNat) z).length=xs.length:=by
   rw[yT (by omega) (by rw[hsl];omega),hsl]
  congr 1
  rw[show ((0:Int).toNat)=0 from rfl,List.drop_zero]
  apply List.ext_getElem?
  intro q
  have hi:(xs.take i.toNat).length=i.toNat:=by rw[ay];omega
  rw[List.getElem?_take]
  by_cases c:q<((0+i)+((0+((xs.length:Int) - 0)) - (0+j))).toNat
  ·rw[if_pos c,Hh (by omega) (by rw[hsl];omega),if_neg (by omega),DR (by omega) (by omega) (by omega)]
   by_cases c1:q<i.toNat
   ·rw[if_neg (by omega),List.getElem?_append_left (by omega),List.getElem?_take,if_pos c1]
   ·rw[if_pos (by omega),List.getElem?_append_right (by omega),hi,List.getElem?_drop]
    congr 1;omega
  ·rw[if_neg c,List.getElem?_append_right (by omega),List.getElem?_drop,List.getElem?_eq_none (by omega)]
theorem Xd {P:Program} {k:FuncId} {E n:Nat} {u:Ty} {z:(kz n).den} (hu:u.sh=true) (hs:u.size=n+1) (h:FOk P k ⟨[.eat (.sl E (kz n)),.rd (.int .i64),.rd (.int .i64)],[.sl E (kz n)],ZP z,none⟩):FOk P k ⟨[.eat (.sl E u),.rd (.int .i64),.rd (.int .i64)],[.sl E u],ZO,none⟩:=by
 refine ⟨fun q hq=>(by cases hq),fun _=>h.en rfl,fun w0 J vs d r hlay ha uz=>?_⟩
 obtain ⟨v,vs1,rfl,hd,v2,vs2,rfl,hd2,v3,vs3,rfl,hd3,hnil⟩:=ha
 obtain rfl:vs3= []:=hnil
 obtain ⟨xs0,i0,j0,un⟩:=d
 let xs:List u.den:=xs0
 let i:Int:=i0
 let j:Int:=j0
 let zs:List u.den:=r
 have uz:ZO xs i j=some zs:=uz
 obtain ⟨u1,hc,hz⟩:=Option.bind_eq_some_iff.1 uz
 obtain ⟨c1,c2,c3⟩:=bA hc
 have hz:=ae hz
 have hsz:u.rep.size=n+1:=(Ty.rep_size u).trans hs
 intro w C hst
 have hst:St J w0 w (Ch.own (ah E u.rep) [v] xs::C):=hst
 obtain ⟨ps,hp,hst2⟩:=Fh (Ty.sh_ok hu) hsz hst
 have hlen:=hp.length_eq
 have hm:ZP z ps i j=some (ps.take i.toNat++ps.drop j.toNat):=Xc c1 c2 (by rw[hlen];exact c3)
 have key:=h.con w0 J [v,v2,v3] (ps,i,j,()) (show dens ([Ty.sl E (kz n)] ++ []) from ps.take i.toNat++ps.drop j.toNat) hlay ⟨v,_,rfl,hd,v2,_,rfl,hd2,v3,_,rfl,hd3,rfl⟩ hm
 refine (key w C hst2).mono fun e w' ⟨r,a1,a2,a3⟩=>⟨r,a1,a2,?_⟩
 have a3:St J w0 w' (Ch.own (ah E (kz n).rep) [r] (ps.take i.toNat++ps.drop j.toNat)::C):=a3
 show St J w0 w' (Ch.own (ah E u.rep) [r] zs::C)
 rw[<-hz]
 exact Bi (Ty.cpy hu) hsz (Ao (Bj _ hp) (o8 _ hp)) a3
def aba {α:Type} (b:Nat) (z:α) (xs:List α) (i:Int) (v:List α) (c:Nat):Option (List α×List α):=
 (chk ((0:Int)<=0/\0<=i/\0+i<=(xs.length:Int))).bind fun _ =>
 (chk ((0+0:Int)=0/\0+i<=(xs.length:Int)/\0<IntKind.i64.wrap (IntKind.i64.wrap ((xs.length:Int)+(v.length:Int)) - i)/\(c:Int)<(0+i)+IntKind.i64.wrap (IntKind.i64.wrap ((xs.length:Int)+(v.length:Int)) - i)/\((0+i)+IntKind.i64.wrap (IntKind.i64.wrap ((xs.length:Int)+(v.length:Int)) - i))*(b:Int)<=140737488355328)).bind fun _ =>
 (fun s2:List α=>(chk (0<=i/\i<=(s2.length:Int) - 0/\0+((s2.length:Int) - 0)<=(s2.length:Int))).bind fun _ =>
  (chk ((0:Int)<=0/\0<=min ((v.length:Int) - 0) ((0+((s2.length:Int) - 0)) - (0+i))/\0+min ((v.length:Int) - 0) ((0+((s2.length:Int) - 0)) - (0+i))<=(v.length:Int)/\0<=0+i/\0+i<=(s2.length:Int)/\0+((s2.length:Int) - 0)<=(s2.length:Int))).bind fun _ =>
  (fun s3:List α=>(chk (0<=IntKind.i64.wrap (i+(v.length:Int))/\IntKind.i64.wrap (i+(v.length:Int))<=(s3.length:Int) - 0/\0+((s3.length:Int) - 0)<=(s3.length:Int))).bind fun _ =>
   (chk (0<=i/\i<=(xs.length:Int) - 0/\0+((xs.length:Int) - 0)<=(xs.length:Int))).bind fun _ =>
   (chk (0<=0+i/\0<=min ((0+((xs.length:Int) - 0)) - (0+i)) ((0+((s3.length:Int) - 0)) - (0+IntKind.i64.wrap (i+(v.length:Int))))/\(0+i)+min ((0+((xs.length:Int) - 0)) - (0+i)) ((0+((s3.length:Int) - 0)) - (0+IntKind.i64.wrap (i+(v.length:Int))))<=(xs.length:Int)/\0<=0+IntKind.i64.wrap (i+(v.length:Int))/\0+IntKind.i64.wrap (i+(v.length:Int))<=(s3.length:Int)/\0+((s3.length:Int) - 0)<=(s3.length:Int))).bind fun _ =>
   some (xD s3 (0+IntKind.i64.wrap (i+(v.length:Int))).toNat (zK xs (0+i) (min ((0+((xs.length:Int) - 0)) - (0+i)) ((0+((s3.length:Int) - 0)) - (0+IntKind.i64.wrap (i+(v.length:Int)))))),v))
  (xD s2 (0+i).toNat (zK v 0 (min ((v.length:Int) - 0) ((0+((s2.length:Int) - 0)) - (0+i))))))
 (xs.take (0+i).toNat++List.replicate (IntKind.i64.wrap (IntKind.i64.wrap ((xs.length:Int)+(v.length:Int)) - i)).toNat z)
def abb {α:Type} (xs:List α) (i:Int) (v:List α) (c:Nat):Option (List α×List α):=
 (fun w0 w:Int=>(chk ((xs.length:Int)<=w0/\w0<=(c:Int))).bind fun _ =>
  (chk (0<=w/\w<=w0 - 0/\w0 - 0<=w0 - 0)).bind fun _ =>
  (chk (0<v.length/\0+w<0+(w0 - 0))).bind fun _ =>
  (chk (0<=w/\w<=w0 - 0/\w0 - 0<=w0 - 0)).bind fun _ =>
  (chk (0<=i/\i<=w0 - 0/\w0 - 0<=w0 - 0)).bind fun _ =>
  (chk (0<=0+i/\0<=min ((0+(w0 - 0)) - (0+i)) ((0+(w0 - 0)) - (0+w))/\(0+i)+min ((0+(w0 - 0)) - (0+i)) ((0+(w0 - 0)) - (0+w))<=(xs.length:Int)/\0<=0+w/\0+w<=(xs.length:Int))).bind fun _ =>
  (chk ((0+w)+min ((0+(w0 - 0)) - (0+i)) ((0+(w0 - 0)) - (0+w))=w0/\(xs.length:Int)<=w0)).bind fun _ =>
  (fun s2:List α=>(chk (0<=i/\i<=(s2.length:Int) - 0/\0+((s2.length:Int) - 0)<=(s2.length:Int))).bind fun _ =>
   (chk ((0:Int)<=0/\0<=min ((v.length:Int) - 0) ((0+((s2.length:Int) - 0)) - (0+i))/\0+min ((v.length:Int) - 0) ((0+((s2.length:Int) - 0)) - (0+i))<=(v.length:Int)/\0<=0+i/\0+i<=(s2.length:Int)/\0+((s2.length:Int) - 0)<=(s2.length:Int))).bind fun _ =>
   some (xD s2 (0+i).toNat (zK v 0 (min ((v.length:Int) - 0) ((0+((s2.length:Int) - 0)) - (0+i)))),v))
  (xD xs (0+w).toNat (zK xs (0+i) (min ((0+(w0 - 0)) - (0+i)) ((0+(w0 - 0)) - (0+w))))))
 (IntKind.i64.wrap ((xs.length:Int)+(v.length:Int))) (IntKind.i64.wrap (i+(v.length:Int)))
noncomputable def aap {α:Type} (b:Nat) (z:α) (xs:List α) (i:Int) (v:List α):Option (List α×List α):=
 (chk (0<=i/\i<=(xs.length:Int) - 0/\0+((xs.length:Int) - 0)<=(xs.length:Int))).bind fun _ =>
 if (v.length:Int)==0 then some (xs,v) else if i==(xs.length:Int) then (cm b xs v).bind fun zs=>some (zs,v) else
 K8 xs.length fun c=>if Zv .gtr (IntKind.i64.wrap ((xs.length:Int)+(v.length:Int))) (c:Int) then aba b z xs i v c else abb xs i v c
def Xe {α:Type} (b:Nat) (xs:List α) (i:Int) (v:List α):Option (List α×List α):=
 (chk (0<=i/\i<=(xs.length:Int)/\v.length=1/\1<=b/\(xs.length+1)*b<=140737488355328)).bind fun _=>some (xs.take i.toNat++(v++xs.drop i.toNat),v)
theorem PO {α:Type} {xs v:List α} {i q:Nat} (hi:i<=xs.length) (hv:v.length=1):(xs.take i++(v++xs.drop i))[q]? =if q<i then xs[q]? else if q=i then v[0]? else xs[q - 1]? :=by
 have hl:(xs.take i).length=i:=by rw[ay];omega
 by_cases c1:q<i
 ·rw[if_pos c1,List.getElem?_append_left (by omega),List.getElem?_take,if_pos c1]
 ·rw[if_neg c1,List.getElem?_append_right (by omega),hl]
  by_cases c2:q=i
  ·rw[if_pos c2,List.getElem?_append_left (by omega),c2,Nat.sub_self]
  ·rw[if_neg c2,List.getElem?_append_right (by omega),hv,List.getElem?_drop];congr 1;omega
set_option maxHeartbeats 1000000 in
theorem Xf {α:Type} {b:Nat} {z:α} {xs v:List α} {i:Int} {r:List α×List α} (h:Xe b xs i v=some r):aap b z xs i v=some r:=by
 obtain ⟨u,hc,h⟩:=Option.bind_eq_some_iff.1 h
 obtain ⟨h1,h2,hv,hb,hbig⟩:=bA hc
 obtain rfl:=ae h
 have hn:xs.length+1<=140737488355328:=by
  have:(xs.length+1)*1<=(xs.length+1)*b:=Nat.mul_le_mul_left _ hb
  omega
 obtain ⟨k,rfl⟩: ∃k:Nat,i=(k:Int):=⟨i.toNat,by omega⟩
 have hk:k<=xs.length:=by omega
 have w1:IntKind.i64.wrap ((xs.length:Int)+(v.length:Int))=((xs.length+1:Nat):Int):=by rw[hv,IntKind.wrap_i64];omega
 have w2:IntKind.i64.wrap ((k:Int)+(v.length:Int))=((k+1:Nat):Int):=by rw[hv,IntKind.wrap_i64];omega
 have w3:IntKind.i64.wrap (((xs.length+1:Nat):Int) - (k:Int))=((xs.length+1 - k:Nat):Int):=by rw[IntKind.wrap_i64];omega
 unfold aap
 rw[chk_of (by omega)]
 rw[if_neg (by rw[hv];decide)]
 by_cases hkn:k=xs.length
 ·subst hkn
  rw[if_pos (by simp)]
  have:cm b xs v=some (xs++v):=by unfold cm;rw[if_pos (by rw[hv];exact hbig)]
  rw[this]
  simp
 ·rw[if_neg (by simp;omega)]
  have tk:((k:Int)).toNat=k:=rfl
  have t0:(0+(k:Int)).toNat=k:=by omega
  have t1:(0+((k+1:Nat):Int)).toNat=k+1:=by omega
  have sv:zK v 0 1=v:=by
   unfold zK
   rw[show ((0:Int)+1).toNat=1 from rfl,show ((0:Int)).toNat=0 from rfl,List.drop_zero,List.take_of_length_le (by omega)]
  have sx:zK xs (0+(k:Int)) ((xs.length:Int) - (k:Int))=xs.drop k:=by
   unfold zK
   rw[t0,show (0+(k:Int)+((xs.length:Int) - (k:Int))).toNat=xs.length from by omega,List.take_length]
  have hdl:(xs.drop k).length=xs.length - k:=aR
  refine Pb (by unfold maxLen;omega) fun c c1 c2=>?_
  have hcmp:Zv .gtr (IntKind.i64.wrap ((xs.length:Int)+(v.length:Int))) (c:Int)=decide (((xs.length+1:Nat):Int)>(c:Int)):=by rw[w1];rfl
  rw[hcmp]
  by_cases hg:xs.length+1>c
  ·rw[if_pos (by simp;omega)]
   unfold aba
   rw[w1,w2,w3]
   generalize hs2:xs.take (0+(k:Int)).toNat++List.replicate (((xs.length+1 - k:Nat):Int)).toNat z=s2
   have l2:s2.length=xs.length+1:=by rw[<-hs2,t0,al,ay,List.length_replicate];omega
   have m1:min ((v.length:Int) - 0) ((0+((s2.length:Int) - 0)) - (0+(k:Int)))=1:=by rw[hv,l2];omega
   simp only[m1,sv,t0]
   have lc:(xD s2 k v).length=xs.length+1:=by rw[oe (by omega),l2,hv];omega
   have m2:min ((0+((xs.length:Int) - 0)) - (0+(k:Int))) ((0+(((xD s2 k v).length:Int) - 0)) - (0+((k+1:Nat):Int)))=(xs.length:Int) - (k:Int):=by rw[lc];omega
   simp only[m2,sx,t1]
   have hbi:((xs.length+1:Nat):Int)*(b:Int)<=140737488355328:=by rw[<-Int.natCast_mul];omega
   rw[chk_of (by omega),chk_of (by
    refine ⟨by omega,by omega,by omega,by omega,?_⟩
    rw[show (0+(k:Int))+((xs.length+1 - k:Nat):Int)=((xs.length+1:Nat):Int) from by omega]
    exact hbi),chk_of (by rw[l2];omega),chk_of (by rw[l2,hv];omega),chk_of (by rw[lc];omega),chk_of (by omega),chk_of (by rw[lc];omega)]
   congr 2
   apply List.ext_getElem?
   intro q
   rw[wJ (by rw[lc];omega),hdl,tk,PO hk hv]
   by_cases q1:k+1<=q/\q<k+1+(xs.length - k)
   ·rw[if_pos q1,if_neg (by omega),if_neg (by omega),List.getElem?_drop];congr 1;omega
   ·rw[if_neg q1,wJ (by omega),hv]
    by_cases q2:q<k
    ·rw[if_neg (by omega),if_pos q2,<-hs2,t0,List.getElem?_append_left (by rw[ay];omega),List.getElem?_take,if_pos q2]
    ·by_cases q3:q=k
     ·rw[if_pos (by omega),if_neg q2,if_pos q3,q3,Nat.sub_self]
     ·rw[if_neg (by omega),if_neg q2,if_neg q3,List.getElem?_eq_none (by omega),List.getElem?_eq_none (by omega)]
  ·rw[if_neg (by simp;omega)]
   unfold abb
   simp only
   rw[w1,w2]
   have m3:min ((0+((((xs.length+1:Nat):Int)) - 0)) - (0+(k:Int))) ((0+((((xs.length+1:Nat):Int)) - 0)) - (0+((k+1:Nat):Int)))=(xs.length:Int) - (k:Int):=by omega
   simp only[m3,sx,t0,t1]
   have lc:(xD xs (k+1) (xs.drop k)).length=xs.length+1:=by rw[oe (by omega),hdl];omega
   have m4:min ((v.length:Int) - 0) ((0+(((xD xs (k+1) (xs.drop k)).length:Int) - 0)) - (0+(k:Int)))=1:=by rw[lc,hv];omega
   simp only[m4,sv]
   rw[chk_of (by omega),chk_of (by omega),chk_of (by rw[hv];omega),chk_of (by omega),chk_of (by omega),chk_of (by omega),chk_of (by omega),chk_of (by rw[lc];omega),chk_of (by rw[lc,hv];omega)]
   congr 2
   apply List.ext_getElem?
   intro q
   rw[wJ (by rw[lc];omega),hv,tk,PO hk hv]
   by_cases q3:q=k
   ·rw[if_pos (by omega),if_neg (by omega),if_pos q3,q3,Nat.sub_self]
   ·rw[if_neg (by omega),wJ (by omega),hdl]
    by_cases q2:q<k
    ·rw[if_neg (by omega),if_pos q2]
    ·rw[if_neg q2,if_neg q3]
     by_cases q4:q<k+1+(xs.length - k)
     ·rw[if_pos (by omega),List.getElem?_drop];congr 1;omega
     ·rw[if_neg (by omega),List.getElem?_eq_none (by omega),List.getElem?_eq_none (by omega)]
theorem YT {P:Program} {k:FuncId} {E:TypeId} (h:Zz P k):FOk P k ⟨[],[],none,some (E,0)⟩:=
 ⟨fun q hq=>(by obtain rfl:=ae hq;exact ⟨⟨fun _=>h,fun e=>(by cases e),fun e=>(by cases e)⟩,fun e=>(by cases e)⟩),fun e=>(by cases e),fun _ _ _ d r _ _ hr=>(by cases hr)⟩
theorem Xg {P:Program} {k:FuncId} {E n b:Nat} {u:Ty} {z:(kz n).den} (hu:u.sh=true) (hs:u.size=n+1) (h:FOk P k ⟨[.eat (.sl E (kz n)),.rd (.int .i64),.ow (.sl E (kz n))],[.sl E (kz n)],aap b z,none⟩):FOk P k ⟨[.eat (.sl E u),.rd (.int .i64),.ow (.sl E u)],[.sl E u],Xe b,none⟩:=by
 refine ⟨fun q hq=>(by cases hq),fun _=>h.en rfl,fun w0 J vs d r hlay ha uz=>?_⟩
 obtain ⟨v,vs1,rfl,hd,v2,vs2,rfl,hd2,v3,vs3,rfl,hd3,hnil⟩:=ha
 obtain rfl:vs3= []:=hnil
 obtain ⟨xs0,i0,y0,un⟩:=d
 let xs:List u.den:=xs0
 let i:Int:=i0
 let ys:List u.den:=y0
 let zs:List u.den×List u.den:=r
 have uz:Xe b xs i ys=some zs:=uz
 obtain ⟨u1,hc,hz⟩:=Option.bind_eq_some_iff.1 uz
 have hc:=bA hc
 have hz:=ae hz
 have hsz:u.rep.size=n+1:=(Ty.rep_size u).trans hs
 intro w C hst
 have hst:St J w0 w (Ch.own (ah E u.rep) [v] xs::Ch.own (ah E u.rep) [v3] ys::C):=hst
 obtain ⟨ps,hp,hst2⟩:=Fh (Ty.sh_ok hu) hsz hst
 obtain ⟨qs,hq,hst3⟩:=Fh (Ty.sh_ok hu) hsz (hst2.perm (List.Perm.swap _ _ _))
 have hst4:=hst3.perm (List.Perm.swap _ _ _)
 have hlen:=hp.length_eq
 have hlen2:=hq.length_eq
 have hi:Xe b ps i qs=some (ps.take i.toNat++(qs++ps.drop i.toNat),qs):=by
  unfold Xe
  rw[chk_of (by rw[hlen,hlen2];exact hc)]
 have hm:=Xf (z:=z) hi
 have key:=h.con w0 J [v,v2,v3] (ps,i,qs,()) (show dens ([Ty.sl E (kz n)] ++ [Ty.sl E (kz n)]) from (ps.take i.toNat++(qs++ps.drop i.toNat),qs)) hlay ⟨v,_,rfl,hd,v2,_,rfl,hd2,v3,_,rfl,hd3,rfl⟩ hm
 refine (key w C hst4).mono fun e w' ⟨r,a1,a2,a3⟩=>⟨r,a1,a2,?_⟩
 have a3:St J w0 w' (Ch.own (ah E (kz n).rep) [r] (ps.take i.toNat++(qs++ps.drop i.toNat))::Ch.own (ah E (kz n).rep) [v3] qs::C):=a3
 have b1:=Bi (Ty.cpy hu) hsz (Ao (Bj _ hp) (Ao hq (o8 _ hp))) a3
 have b2:=Bi (Ty.cpy hu) hsz hq (b1.perm (List.Perm.swap _ _ _))
 show St J w0 w' (Ch.own (ah E u.rep) [r] zs.1::Ch.own (ah E u.rep) [v3] zs.2::C)
 rw[<-hz]
 exact b2.perm (List.Perm.swap _ _ _)
end R
namespace R
open Go.RowKit Go.Shelf Go.Sort
open D
def Ta (xs:List ByteArray) (sep:ByteArray):Option ByteArray:=(chk (xs.length<=140737488355328/\(Lib.join (xs.map (·.data.toList)) sep.data.toList).length<=140737488355328)).bind fun _=>some ⟨(Lib.join (xs.map (·.data.toList)) sep.data.toList).toArray⟩
def Tb (n:Int):Option ByteArray:=(chk (-9223372036854775808<=n/\n<=9223372036854775807)).bind fun _=>some ⟨(Lib.itoa n).toArray⟩
section
variable {P:Program} {ρ:Ren}
theorem St.grownS {I:Hp} {w0 w:World} {cs:List Ch} (h:St I w0 w cs) (os:Array Obj):St I w0 (grow w os) cs:=by
 refine St.step (w:=w) (c:=[]) (c':=[]) h rfl rfl rfl (by simp[grow]) ?_
 rintro F rfl - -
 exact ⟨fun b hb _=>heap_grow_old w os hb,[],rfl,List.nodup_nil,by simp⟩
theorem St.belowS {I:Hp} {w0 w w':World} {cs:List Ch} (h:St I w0 w cs) (hb:Below w.heap.size w w'):St I w0 w' cs:=by
 refine St.step (w:=w) (c:=[]) (c':=[]) h hb.os hb.tape hb.output hb.size ?_
 rintro F rfl - -
 exact ⟨fun b hb' _=>hb.block b hb',[],rfl,List.nodup_nil,by simp⟩
theorem Tc (L:LaysM.n171 P ρ) (en:Enters P (ρ.f 171)):FOk P (ρ.f 171) ⟨[.rd (.int .i64)],[.str],fun n=>Tb n,none⟩:=by
 refine ⟨fun q hq=>(by cases hq),fun _=>en,fun w0 J vs d r hlay ha uz=>?_⟩
 obtain ⟨v,vs1,rfl,⟨c1,l1,r1⟩,hnil⟩:=ha
 obtain rfl:vs1= []:=hnil
 obtain ⟨n0,un⟩:=d
 let n:Int:=n0
 obtain rfl:c1= [v]:=l1
 obtain rfl:v= .int .i64 n:=(List.cons.inj r1).1
 obtain ⟨u1,hc,hz⟩:=Option.bind_eq_some_iff.1 (show Tb n=some r from uz)
 have hc:=bA hc
 obtain rfl:=ae hz
 intro w C hst
 have hst:St J w0 w C:=hst
 refine (Any.strconv_Itoa L n hc.1 hc.2 w (hlay w hst.2.1).tab).mono ?_
 rintro e w' ⟨rfl,k,os,rfl⟩
 have hw:St J w0 (w.drewN k) C:=hst.drawn rfl rfl rfl rfl
 exact ⟨_,rfl,rfl,D.St.free (R:=Eu) (c:=[.string _]) (St.grownS hw os) ⟨rfl,rfl⟩⟩
theorem Td (L:Lays.n156 P ρ) (X:Builder.Extra P ρ) (E:TypeId) (en:Enters P (ρ.f 156)):FOk P (ρ.f 156) ⟨[.rd (.sl E .str),.rd .str],[.str],fun xs s=>Ta xs s,none⟩:=by
 refine ⟨fun q hq=>(by cases hq),fun _=>en,fun w0 J vs d r hlay ha uz=>?_⟩
 obtain ⟨v,vs1,rfl,⟨c1,l1,r1⟩,v2,vs2,rfl,⟨c2,l2,r2⟩,hnil⟩:=ha
 obtain rfl:vs2= []:=hnil
 obtain ⟨xs0,sep,un⟩:=d
 let xs:List ByteArray:=xs0
 obtain rfl:c1= [v]:=l1
 obtain rfl:c2= [v2]:=l2
 obtain rfl:v2= .string sep:=(List.cons.inj r2).1
 obtain ⟨u1,hc,hz⟩:=Option.bind_eq_some_iff.1 (show Ta xs sep=some r from uz)
 have hc:=bA hc
 obtain rfl:=ae hz
 obtain ⟨ao,cap,hv,⟨hl,hcap⟩,hx⟩:((ah E Eu).rd J [v] xs):=r1
 obtain rfl:=(List.cons.inj hv).1
 intro w C hst
 have hst:St J w0 w C:=hst
 rcases hx with hx | ⟨b,off,ccs,t,fr,rfl,h2,h4⟩
 ·have hx:xs= []:=hx
  rw[hx] at hc⊢
  refine (Any.strings_Join_none L X ao cap sep w).mono ?_
  rintro e w' ⟨rfl,rfl⟩
  refine ⟨_,rfl,rfl,?_⟩
  exact D.St.free (R:=Eu) (c:=[.string _]) hst ⟨rfl,rfl⟩
 ·have hg:=hst.2.1 _ _ h2
  have hblk:b<w.heap.size:=(Array.getElem?_eq_some_iff.1 hg).1
  refine (Any.strings_Join L X b off cap xs sep w (fun j x hj=>?_) hblk hc.1 hcap hc.2).mono ?_
  ·obtain ⟨c,e1,e2,e3⟩:=h4 j x hj
   obtain rfl:c= [.string x]:=e3
   have:=e2 0 Nat.one_pos
   have e:off+j*Eu.size+0=off+j:=by show off+j*1+0=_;omega
   rw[e] at this
   unfold World.cell?
   have hg:w.heap[b]? =some (.cells ccs t fr):=hg
   simp only[hg]
   rw[<-Array.getElem?_toList,this]
   rfl
  ·rintro e w' ⟨rfl,hb⟩
   exact ⟨_,rfl,rfl,D.St.free (R:=Eu) (c:=[.string _]) (St.belowS hst hb) ⟨rfl,rfl⟩⟩
end
end R
namespace D
open Go.RowKit Go.Shelf
theorem Xh {I:Hp} {w0 w:World} {cs:List Ch} {α:Type} {E:TypeId} {enc:α->Value} {h1: ∀a,(enc a).oneCell'=true} {b:Nat} {xs:List α} (hl:xs.length<=lim) (h:St I w0 w (Ch.blk b (xs.map enc) E::cs)):St I w0 w (Ch.own (ah E (lC α enc h1)) [.slice (some ⟨b,0,none⟩) xs.length xs.length] xs::cs):=by
 obtain ⟨hb,hi,F,⟨G,K,rfl,⟨rfl,hg⟩,e⟩,h4,h5⟩:=h
 refine ⟨hb,hi,[b] ++K,⟨[b],K,rfl,⟨hl,.inr ⟨b,0,xs.length,_,[],rfl,hg,aE _,hl,?_,rfl,?_⟩⟩,e⟩,h4,h5⟩
 ·show 0+xs.length*1<=_
  simp
 ·refine jZ.2 ⟨rfl,[],?_⟩
  simp
end D
namespace R
open Go.RowKit Go.Shelf Go.Sort
open D
def Lv (s sep:ByteArray):Option (List ByteArray):=(chk (s.size<4294967281/\1<=sep.size)).bind fun _=>some (Lib.splitB sep 0 (Lib.countB s sep) s)
def YU (s sep:ByteArray):Option (ByteArray×ByteArray×Bool):=(chk (s.size<4294967281)).bind fun _=>some (⟨(Lib.cut s.data.toList sep.data.toList).1.toArray⟩,⟨(Lib.cut s.data.toList sep.data.toList).2.1.toArray⟩,(Lib.cut s.data.toList sep.data.toList).2.2)
def xX (s:ByteArray) (c:Int):Option Int:=some (Lib.indexByte s.data.toList c.toNat.toUInt8)
def sF (s:ByteArray):Option (Int×Bool):=
 if 10<s.size then some (0,false) else
 match Lib.atoi s.data.toList with
 | none=>some (0,false)
 | some n=>if (⟨(Lib.itoa n).toArray⟩:ByteArray)=s/\ -999999999<=n/\n<=999999999 then some (n,true) else some (0,false)
section
variable {P:Program} {ρ:Ren}
theorem PP (L:Lays.n146 P ρ) (hi9:(P.info? (ρ.t 9)).map (fun i=>(i.zero,i.size,i.bytes))=some (some (.string ByteArray.empty),1,16)) (m1:P.globalNamed "internal/bytealg.MaxLen" =some (ρ.g 1)) (en:Enters P (ρ.f 146)):FOk P (ρ.f 146) ⟨[.rd .str,.rd .str],[.sl (ρ.t 9) .str],fun s sep=>Lv s sep,none⟩:=by
 refine ⟨fun q hq=>(by cases hq),fun _=>en,fun w0 J vs d r hlay ha uz=>?_⟩
 obtain ⟨v,vs1,rfl,⟨c1,l1,r1⟩,v2,vs2,rfl,⟨c2,l2,r2⟩,hnil⟩:=ha
 obtain rfl:vs2= []:=hnil
 obtain ⟨s0,sep0,un⟩:=d
 let s:ByteArray:=s0
 let sep:ByteArray:=sep0
 obtain rfl:c1= [v]:=l1
 obtain rfl:c2= [v2]:=l2
 obtain rfl:v= .string s:=(List.cons.inj r1).1
 obtain rfl:v2= .string sep:=(List.cons.inj r2).1
 obtain ⟨u1,hc,hz⟩:=Option.bind_eq_some_iff.1 (show Lv s sep=some r from uz)
 have hc:=bA hc
 obtain rfl:=ae hz
 intro w C hst
 have hst:St J w0 w C:=hst
 obtain ⟨g,m,hg,hm⟩:=(hlay w hst.2.1).len
 obtain rfl:=ae (m1.symm.trans hg)
 refine (Any.strings_Split L hi9 s sep m w hc.1 hm hc.2).mono ?_
 rintro e w' ⟨rfl,rfl⟩
 refine ⟨_,rfl,rfl,?_⟩
 have hlen:(Lib.splitB sep 0 (Lib.countB s sep) s).length=Lib.countB s sep+1:=Lib.splitB_all sep hc.2 0 _ s rfl
 have hle:=Lib.countB_le sep hc.2 s.size s (aE _)
 have h3:=D.Xh (E:=ρ.t 9) (enc:=Value.string) (h1:=fun _=>rfl) (b:=w.heap.size) (xs:=Lib.splitB sep 0 (Lib.countB s sep) s) (by rw[hlen];have:lim=9223372036854775807:=rfl;omega) (hst.alloc _ _)
 rw[hlen] at h3
 exact h3
theorem Xi (L:Lays.n145 P ρ) (m1:P.globalNamed "internal/bytealg.MaxLen" =some (ρ.g 1)) (en:Enters P (ρ.f 145)):FOk P (ρ.f 145) ⟨[.rd .str,.rd .str],[.str,.str,.bool],fun s sep=>YU s sep,none⟩:=by
 refine ⟨fun q hq=>(by cases hq),fun _=>en,fun w0 J vs d r hlay ha uz=>?_⟩
 obtain ⟨v,vs1,rfl,⟨c1,l1,r1⟩,v2,vs2,rfl,⟨c2,l2,r2⟩,hnil⟩:=ha
 obtain rfl:vs2= []:=hnil
 obtain ⟨s0,sep0,un⟩:=d
 let s:ByteArray:=s0
 let sep:ByteArray:=sep0
 obtain rfl:c1= [v]:=l1
 obtain rfl:c2= [v2]:=l2
 obtain rfl:v= .string s:=(List.cons.inj r1).1
 obtain rfl:v2= .string sep:=(List.cons.inj r2).1
 obtain ⟨u1,hc,hz⟩:=Option.bind_eq_some_iff.1 (show YU s sep=some r from uz)
 have hc:=bA hc
 obtain rfl:=ae hz
 intro w C hst
 have hst:St J w0 w C:=hst
 obtain ⟨g,m,hg,hm⟩:=(hlay w hst.2.1).len
 obtain rfl:=ae (m1.symm.trans hg)
 refine (Any.strings_Cut L s sep m w hc hm).mono ?_
 rintro e w' ⟨rfl,n,rfl⟩
 refine ⟨_,rfl,⟨_,rfl,rfl,fun i t ht=>?_⟩,?_⟩
 ·rcases i with _ | _ | _ | i
  all_goals first | (obtain rfl:=ae ht;rfl) | cases ht
 ·have hw:St J w0 (w.drewN n) C:=hst.drawn rfl rfl rfl rfl
  exact D.St.free (R:=Eu) (c:=[.string _]) (D.St.free (R:=Eu) (c:=[.string _]) (D.St.free (R:=kB) (c:=[.bool _]) hw ⟨rfl,rfl⟩) ⟨rfl,rfl⟩) ⟨rfl,rfl⟩
theorem Fi (L:Lays.n137 P ρ) (en:Enters P (ρ.f 137)):FOk P (ρ.f 137) ⟨[.rd .str,.rd (.int .u8)],[.int .i64],fun s c=>xX s c,none⟩:=by
 refine ⟨fun q hq=>(by cases hq),fun _=>en,fun w0 J vs d r hlay ha uz=>?_⟩
 obtain ⟨v,vs1,rfl,⟨c1,l1,r1⟩,v2,vs2,rfl,⟨c2,l2,r2⟩,hnil⟩:=ha
 obtain rfl:vs2= []:=hnil
 obtain ⟨s0,c0,un⟩:=d
 let s:ByteArray:=s0
 let c:Int:=c0
 obtain rfl:c1= [v]:=l1
 obtain rfl:c2= [v2]:=l2
 obtain rfl:v= .string s:=(List.cons.inj r1).1
 obtain rfl:v2= .int .u8 c:=(List.cons.inj r2).1
 obtain rfl:=ae (show xX s c=some r from uz)
 intro w C hst
 have hst:St J w0 w C:=hst
 refine (Any.strings_IndexByte L s c w).mono ?_
 rintro e w' ⟨rfl,rfl⟩
 exact ⟨_,rfl,rfl,D.St.free (R:=aX) (c:=[.int .i64 _]) hst ⟨rfl,rfl⟩⟩
theorem Xj {α:Type} {E:TypeId} {R:Rep α} {I:Hp} {w0 w:World} {v:List Value} {xs:List α} {C:List Ch} (h:St I w0 w (Ch.own (ah E R) v xs::C)):St I w0 w (Ch.own (ah E (Ny R)) v xs::C):=by
 obtain ⟨hb,hi,F,⟨G,K,rfl,⟨hl,e2⟩,e3⟩,h4,h5⟩:=h
 rcases e2 with ⟨rfl,rfl,rfl⟩ | ⟨g,ofs,cap,cur,K1,hv,k1,k2,k3,k4,k6,k5⟩
 ·exact ⟨hb,hi,_,⟨_,K,rfl,⟨hl,.inl ⟨rfl,rfl,rfl⟩⟩,e3⟩,h4,h5⟩
 ·exact ⟨hb,hi,_,⟨_,K,rfl,⟨hl,.inr ⟨g,ofs,cap,cur,K1,hv,k1,k2,k3,k4,k6,OwnEls.turn (R:=R) (S:=Ny R) rfl (fun c x G hx=>NV hx) k5⟩⟩,e3⟩,h4,h5⟩
theorem Lw {P:Program} {k:FuncId} {ps:List PM} {A B t:Ty} {E:TypeId} {m:curP ps (Option (dens ([A,.sl E t,B] ++outs ps)))} (h:FOk P k ⟨ps,[A,.sl E t,B],m,none⟩):FOk P k ⟨ps,[A,.sl E (.bag t),B],m,none⟩:=by
 refine ⟨fun q hq=>(by cases hq),fun hq=>h.en hq,fun w0 J vs d r hlay ha uz=>?_⟩
 refine (h.con w0 J vs d r hlay ha uz).imp (fun v hv=>?_) (fun v _ w C hs=>?_)
 ·obtain ⟨us,rfl,h1,h2⟩:=hv
  refine ⟨us,rfl,h1,fun i u hu=>?_⟩
  rcases i with _ | _ | _ | i
  ·obtain rfl:=ae hu;exact h2 0 _ rfl
  ·obtain rfl:=ae hu;exact h2 1 (.sl E t) rfl
  ·obtain rfl:=ae hu;exact h2 2 _ rfl
  ·cases hu
 ·exact ((Xj (hs.perm (List.Perm.swap ..))).perm (List.Perm.swap ..))
theorem PQ {k:FuncId} {m:ByteArray->Option (Int×Bool)} (en:Enters P k) (h: ∀s r w,m s=some r->LayW P w->Calls P k #[.string s] w fun e w'=>e= .returned (.tuple #[.int .i64 r.1,.bool r.2])/\Below w.heap.size w w'):FOk P k ⟨[.rd .str],[.int .i64,.bool],fun s=>m s,none⟩:=by
 refine ⟨fun q hq=>(by cases hq),fun _=>en,fun w0 J vs d r hlay ha uz=>?_⟩
 obtain ⟨v,vs1,rfl,⟨c1,l1,r1⟩,hnil⟩:=ha
 obtain rfl:vs1= []:=hnil
 obtain ⟨s0,un⟩:=d
 let s:ByteArray:=s0
 obtain rfl:c1= [v]:=l1
 obtain rfl:v= .string s:=(List.cons.inj r1).1
 intro w C hst
 have hst:St J w0 w C:=hst
 refine (h s r w uz (hlay w hst.2.1)).mono ?_
 rintro e w' ⟨rfl,hb⟩
 refine ⟨_,rfl,⟨_,rfl,rfl,fun i t ht=>?_⟩,?_⟩
 ·rcases i with _ | _ | i
  all_goals first | (obtain rfl:=ae ht;rfl) | cases ht
 ·exact D.St.free (R:=aX) (c:=[.int .i64 _]) (D.St.free (R:=kB) (c:=[.bool _]) (St.belowS hst hb) ⟨rfl,rfl⟩) ⟨rfl,rfl⟩
end
end R
namespace R
open Go.Shelf
def yZ:Go.Shelf.Ren:=⟨fun | 156=>194 | 165=>234 | 166=>235 | 169=>236 | 240=>272 | 241=>273 | 276=>312 | 277=>313 | n=>n,fun | 31=>205 | 9=>9 | 3=>3 | 4=>4 | 0=>0 | 20=>20 | 72=>252 | 76=>244 | 70=>250 | 37=>222 | 75=>243 | 127=>286 | 164=>317 | 5=>5 | 80=>254 | n=>n,fun | n=>n⟩
theorem Te:Go.Proofs.Lays.n156 Tryz.prog yZ:= {
 mixed:=by kernel_rfl
 f156:=Tryz.func194.trans (congrArg some (by kernel_rfl))
 f165:=Tryz.func234.trans (congrArg some (by kernel_rfl))
 f166:=Tryz.func235.trans (congrArg some (by kernel_rfl))
 f169:=Tryz.func236.trans (congrArg some (by kernel_rfl))
 f240:=Tryz.func272.trans (congrArg some (by kernel_rfl))
 f241:=Tryz.func273.trans (congrArg some (by kernel_rfl))
 f276:=Tryz.func312.trans (congrArg some (by kernel_rfl))
 f277:=Tryz.func313.trans (congrArg some (by kernel_rfl))
 t0:=Tryz.underlying0
 a0:=Tryz.isAgg0
 z0:=Tryz.sizeOf0
 v0:=Tryz.zeroValue0
 t3:=Tryz.underlying3
 a3:=Tryz.isAgg3
 z3:=Tryz.sizeOf3
 v3:=Tryz.zeroValue3
 t4:=Tryz.underlying4
 a4:=Tryz.isAgg4
 z4:=Tryz.sizeOf4
 v4:=Tryz.zeroValue4
 t9:=Tryz.underlying9
 a9:=Tryz.isAgg9
 z9:=Tryz.sizeOf9
 v9:=Tryz.zeroValue9
 t20:=Tryz.underlying20
 a20:=Tryz.isAgg20
 z20:=Tryz.sizeOf20
 v20:=Tryz.zeroValue20
 t31:=Tryz.underlying205
 a31:=Tryz.isAgg205
 z31:=Tryz.sizeOf205
 v31:=Tryz.zeroValue205
 t37:=Tryz.underlying222
 a37:=Tryz.isAgg222
 z37:=Tryz.sizeOf222
 v37:=Tryz.zeroValue222
 t70:=Tryz.underlying250
 a70:=Tryz.isAgg250
 z70:=Tryz.sizeOf250
 v70:=Tryz.zeroValue250
 t72:=Tryz.underlying252
 a72:=Tryz.isAgg252
 z72:=Tryz.sizeOf252
 v72:=Tryz.zeroValue252
 t75:=Tryz.underlying243
 a75:=Tryz.isAgg243
 z75:=Tryz.sizeOf243
 v75:=Tryz.zeroValue243
 t76:=Tryz.underlying244
 a76:=Tryz.isAgg244
 z76:=Tryz.sizeOf244
 v76:=Tryz.zeroValue244
 t127:=Tryz.underlying286
 a127:=Tryz.isAgg286
 z127:=Tryz.sizeOf286
 v127:=Tryz.zeroValue286
 t164:=Tryz.underlying317
 a164:=Tryz.isAgg317
 z164:=Tryz.sizeOf317
 v164:=Tryz.zeroValue317 }
def HO:Go.Shelf.Ren:=⟨fun | 171=>195 | 243=>237 | 246=>274 | 283=>314 | 284=>315 | 285=>316 | 286=>317 | 129=>338 | 317=>337 | 318=>339 | 319=>340 | 320=>341 | 337=>352 | 338=>353 | n=>n,fun | 3=>3 | 9=>9 | 2=>2 | 4=>4 | 171=>320 | 0=>0 | 53=>321 | 37=>222 | 5=>5 | 173=>324 | 212=>343 | 51=>344 | 20=>20 | 213=>345 | 46=>295 | 232=>369 | 233=>370 | n=>n,fun | 17=>3 | 18=>6 | 19=>7 | n=>n⟩
theorem Lx:Go.Proofs.LaysM.n171 Tryz.prog HO:= {
 mixed:=by kernel_rfl
 f129:=Tryz.func338.trans (congrArg some (by kernel_rfl))
 f171:=Tryz.func195.trans (congrArg some (by kernel_rfl))
 f243:=Tryz.func237.trans (congrArg some (by kernel_rfl))
 f246:=Tryz.func274.trans (congrArg some (by kernel_rfl))
 f283:=Tryz.func314.trans (congrArg some (by kernel_rfl))
 f284:=Tryz.func315.trans (congrArg some (by kernel_rfl))
 f285:=Tryz.func316.trans (congrArg some (by kernel_rfl))
 f286:=Tryz.func317.trans (congrArg some (by kernel_rfl))
 f317:=Tryz.func337.trans (congrArg some (by kernel_rfl))
 f318:=Tryz.func339.trans (congrArg some (by kernel_rfl))
 f319:=Tryz.func340.trans (congrArg some (by kernel_rfl))
 f320:=Tryz.func341.trans (congrArg some (by kernel_rfl))
 f337:=Tryz.func352.trans (congrArg some (by kernel_rfl))
 f338:=Tryz.func353.trans (congrArg some (by kernel_rfl))
 t0:=Tryz.underlying0
 a0:=Tryz.isAgg0
 z0:=Tryz.sizeOf0
 v0:=Tryz.zeroValue0
 t2:=Tryz.underlying2
 a2:=Tryz.isAgg2
 z2:=Tryz.sizeOf2
 v2:=Tryz.zeroValue2
 t3:=Tryz.underlying3
 a3:=Tryz.isAgg3
 z3:=Tryz.sizeOf3
 v3:=Tryz.zeroValue3
 t4:=Tryz.underlying4
 a4:=Tryz.isAgg4
 z4:=Tryz.sizeOf4
 v4:=Tryz.zeroValue4
 t5:=Tryz.underlying5
 a5:=Tryz.isAgg5
 z5:=Tryz.sizeOf5
 v5:=Tryz.zeroValue5
 t9:=Tryz.underlying9
 a9:=Tryz.isAgg9
 z9:=Tryz.sizeOf9
 v9:=Tryz.zeroValue9
 t20:=Tryz.underlying20
 a20:=Tryz.isAgg20
 z20:=Tryz.sizeOf20
 v20:=Tryz.zeroValue20
 t37:=Tryz.underlying222
 a37:=Tryz.isAgg222
 z37:=Tryz.sizeOf222
 v37:=Tryz.zeroValue222
 t46:=Tryz.underlying295
 a46:=Tryz.isAgg295
 z46:=Tryz.sizeOf295
 v46:=Tryz.zeroValue295
 t51:=Tryz.underlying344
 a51:=Tryz.isAgg344
 z51:=Tryz.sizeOf344
 v51:=Tryz.zeroValue344
 t53:=Tryz.underlying321
 a53:=Tryz.isAgg321
 z53:=Tryz.sizeOf321
 v53:=Tryz.zeroValue321
 t171:=Tryz.underlying320
 a171:=Tryz.isAgg320
 z171:=Tryz.sizeOf320
 v171:=Tryz.zeroValue320
 t173:=Tryz.underlying324
 a173:=Tryz.isAgg324
 z173:=Tryz.sizeOf324
 v173:=Tryz.zeroValue324
 t212:=Tryz.underlying343
 a212:=Tryz.isAgg343
 z212:=Tryz.sizeOf343
 v212:=Tryz.zeroValue343
 t213:=Tryz.underlying345
 a213:=Tryz.isAgg345
 z213:=Tryz.sizeOf345
 t232:=Tryz.underlying369
 a232:=Tryz.isAgg369
 z232:=Tryz.sizeOf369
 v232:=Tryz.zeroValue369
 t233:=Tryz.underlying370
 a233:=Tryz.isAgg370
 z233:=Tryz.sizeOf370
 v233:=Tryz.zeroValue370
 g17:=by kernel_rfl
 g18:=by kernel_rfl
 g19:=by kernel_rfl
 i0:=by kernel_rfl
 i2:=by kernel_rfl
 i3:=by kernel_rfl
 i4:=by kernel_rfl
 i5:=by kernel_rfl
 i9:=by kernel_rfl
 i20:=by kernel_rfl
 i37:=by kernel_rfl
 i46:=by kernel_rfl
 i51:=by kernel_rfl
 i53:=by kernel_rfl
 i171:=by kernel_rfl
 i173:=by kernel_rfl
 i212:=by kernel_rfl
 i232:=by kernel_rfl
 i233:=by kernel_rfl
 m17:=by kernel_rfl
 m18:=by kernel_rfl
 m19:=by kernel_rfl }
def Fj:Go.Shelf.Ren:=⟨fun | 146=>171 | 221=>225 | 268=>265 | 138=>266 | 143=>267 | 195=>302 | 197=>303 | 218=>304 | 219=>305 | 260=>330 | 217=>170 | 225=>331 | 224=>332 | 267=>333 | 266=>224 | 314=>349 | n=>n,fun | 9=>9 | 31=>205 | 3=>3 | 4=>4 | 0=>0 | 105=>309 | 21=>21 | 5=>5 | 46=>295 | 119=>354 | 139=>357 | 138=>356 | 146=>358 | 51=>344 | n=>n,fun | 1=>0 | 3=>4 | 4=>5 | n=>n⟩
theorem PR:Go.Proofs.Lays.n146 Tryz.prog Fj:= {
 mixed:=by kernel_rfl
 f138:=Tryz.func266.trans (congrArg some (by kernel_rfl))
 f143:=Tryz.func267.trans (congrArg some (by kernel_rfl))
 f146:=Tryz.func171.trans (congrArg some (by kernel_rfl))
 f195:=Tryz.func302.trans (congrArg some (by kernel_rfl))
 f197:=Tryz.func303.trans (congrArg some (by kernel_rfl))
 f217:=Tryz.func170.trans (congrArg some (by kernel_rfl))
 f218:=Tryz.func304.trans (congrArg some (by kernel_rfl))
 f219:=Tryz.func305.trans (congrArg some (by kernel_rfl))
 f221:=Tryz.func225.trans (congrArg some (by kernel_rfl))
 f224:=Tryz.func332.trans (congrArg some (by kernel_rfl))
 f225:=Tryz.func331.trans (congrArg some (by kernel_rfl))
 f260:=Tryz.func330.trans (congrArg some (by kernel_rfl))
 f266:=Tryz.func224.trans (congrArg some (by kernel_rfl))
 f267:=Tryz.func333.trans (congrArg some (by kernel_rfl))
 f268:=Tryz.func265.trans (congrArg some (by kernel_rfl))
 f314:=Tryz.func349.trans (congrArg some (by kernel_rfl))
 t0:=Tryz.underlying0
 a0:=Tryz.isAgg0
 z0:=Tryz.sizeOf0
 v0:=Tryz.zeroValue0
 t3:=Tryz.underlying3
 a3:=Tryz.isAgg3
 z3:=Tryz.sizeOf3
 v3:=Tryz.zeroValue3
 t4:=Tryz.underlying4
 a4:=Tryz.isAgg4
 z4:=Tryz.sizeOf4
 v4:=Tryz.zeroValue4
 t5:=Tryz.underlying5
 a5:=Tryz.isAgg5
 z5:=Tryz.sizeOf5
 v5:=Tryz.zeroValue5
 t9:=Tryz.underlying9
 a9:=Tryz.isAgg9
 z9:=Tryz.sizeOf9
 v9:=Tryz.zeroValue9
 t21:=Tryz.underlying21
 a21:=Tryz.isAgg21
 z21:=Tryz.sizeOf21
 v21:=Tryz.zeroValue21
 t31:=Tryz.underlying205
 a31:=Tryz.isAgg205
 z31:=Tryz.sizeOf205
 v31:=Tryz.zeroValue205
 t46:=Tryz.underlying295
 a46:=Tryz.isAgg295
 z46:=Tryz.sizeOf295
 v46:=Tryz.zeroValue295
 t51:=Tryz.underlying344
 a51:=Tryz.isAgg344
 z51:=Tryz.sizeOf344
 v51:=Tryz.zeroValue344
 t105:=Tryz.underlying309
 a105:=Tryz.isAgg309
 z105:=Tryz.sizeOf309
 v105:=Tryz.zeroValue309
 t119:=Tryz.underlying354
 a119:=Tryz.isAgg354
 z119:=Tryz.sizeOf354
 t138:=Tryz.underlying356
 a138:=Tryz.isAgg356
 z138:=Tryz.sizeOf356
 v138:=Tryz.zeroValue356
 t139:=Tryz.underlying357
 a139:=Tryz.isAgg357
 z139:=Tryz.sizeOf357
 v139:=Tryz.zeroValue357
 t146:=Tryz.underlying358
 a146:=Tryz.isAgg358
 z146:=Tryz.sizeOf358
 v146:=Tryz.zeroValue358
 g1:=by kernel_rfl
 g3:=by kernel_rfl
 g4:=by kernel_rfl }
def Js:Go.Shelf.Ren:=⟨fun | 145=>270 | 220=>311 | 219=>305 | 217=>170 | 225=>331 | 224=>332 | 267=>333 | 266=>224 | 314=>349 | n=>n,fun | 9=>9 | 4=>4 | 59=>284 | 3=>3 | 5=>5 | 46=>295 | 146=>358 | 51=>344 | n=>n,fun | 1=>0 | n=>n⟩
theorem Xk:Go.Proofs.Lays.n145 Tryz.prog Js:= {
 mixed:=by kernel_rfl
 f145:=Tryz.func270.trans (congrArg some (by kernel_rfl))
 f217:=Tryz.func170.trans (congrArg some (by kernel_rfl))
 f219:=Tryz.func305.trans (congrArg some (by kernel_rfl))
 f220:=Tryz.func311.trans (congrArg some (by kernel_rfl))
 f224:=Tryz.func332.trans (congrArg some (by kernel_rfl))
 f225:=Tryz.func331.trans (congrArg some (by kernel_rfl))
 f266:=Tryz.func224.trans (congrArg some (by kernel_rfl))
 f267:=Tryz.func333.trans (congrArg some (by kernel_rfl))
 f314:=Tryz.func349.trans (congrArg some (by kernel_rfl))
 t3:=Tryz.underlying3
 a3:=Tryz.isAgg3
 z3:=Tryz.sizeOf3
 v3:=Tryz.zeroValue3
 t4:=Tryz.underlying4
 a4:=Tryz.isAgg4
 z4:=Tryz.sizeOf4
 v4:=Tryz.zeroValue4
 t5:=Tryz.underlying5
 a5:=Tryz.isAgg5
 z5:=Tryz.sizeOf5
 v5:=Tryz.zeroValue5
 t9:=Tryz.underlying9
 a9:=Tryz.isAgg9
 z9:=Tryz.sizeOf9
 v9:=Tryz.zeroValue9
 t46:=Tryz.underlying295
 a46:=Tryz.isAgg295
 z46:=Tryz.sizeOf295
 v46:=Tryz.zeroValue295
 t51:=Tryz.underlying344
 a51:=Tryz.isAgg344
 z51:=Tryz.sizeOf344
 v51:=Tryz.zeroValue344
 t59:=Tryz.underlying284
 a59:=Tryz.isAgg284
 z59:=Tryz.sizeOf284
 v59:=Tryz.zeroValue284
 t146:=Tryz.underlying358
 a146:=Tryz.isAgg358
 z146:=Tryz.sizeOf358
 v146:=Tryz.zeroValue358
 g1:=by kernel_rfl }
def xY:Go.Shelf.Ren:=⟨fun | 137=>112 | 217=>170 | 266=>224 | n=>n,fun | 9=>9 | 5=>5 | 3=>3 | n=>n,fun | n=>n⟩
theorem Fk:Go.Proofs.Lays.n137 Tryz.prog xY:= {
 mixed:=by kernel_rfl
 f137:=Tryz.func112.trans (congrArg some (by kernel_rfl))
 f217:=Tryz.func170.trans (congrArg some (by kernel_rfl))
 f266:=Tryz.func224.trans (congrArg some (by kernel_rfl))
 t3:=Tryz.underlying3
 a3:=Tryz.isAgg3
 z3:=Tryz.sizeOf3
 v3:=Tryz.zeroValue3
 t5:=Tryz.underlying5
 a5:=Tryz.isAgg5
 z5:=Tryz.sizeOf5
 v5:=Tryz.zeroValue5
 t9:=Tryz.underlying9
 a9:=Tryz.isAgg9
 z9:=Tryz.sizeOf9
 v9:=Tryz.zeroValue9 }
def HP:Go.Shelf.Ren:=⟨fun | 172=>226 | 244=>268 | 245=>269 | 247=>306 | 279=>307 | 280=>308 | 281=>309 | 282=>310 | 287=>334 | 316=>335 | 171=>195 | 205=>336 | 321=>350 | 322=>351 | 243=>237 | 246=>274 | 283=>314 | 284=>315 | 285=>316 | 286=>317 | 129=>338 | 317=>337 | 318=>339 | 319=>340 | 320=>341 | 337=>352 | 338=>353 | n=>n,fun | 9=>9 | 3=>3 | 75=>243 | 76=>244 | 4=>4 | 5=>5 | 167=>311 | 37=>222 | 0=>0 | 85=>312 | 2=>2 | 168=>314 | 53=>321 | 175=>336 | 46=>295 | 210=>340 | 127=>286 | 145=>364 | 143=>362 | 21=>21 | 171=>320 | 173=>324 | 212=>343 | 51=>344 | 20=>20 | 213=>345 | 232=>369 | 233=>370 | 80=>254 | n=>n,fun | 15=>1 | 16=>2 | 17=>3 | 18=>6 | 19=>7 | n=>n⟩
theorem Ly:Go.Proofs.LaysC.n172 Tryz.prog HP:= {
 mixed:=by kernel_rfl
 f129:=Tryz.func338.trans (congrArg some (by kernel_rfl))
 f171:=Tryz.func195.trans (congrArg some (by kernel_rfl))
 f172:=Tryz.func226.trans (congrArg some (by kernel_rfl))
 f205:=Tryz.func336.trans (congrArg some (by kernel_rfl))
 f243:=Tryz.func237.trans (congrArg some (by kernel_rfl))
 f244:=Tryz.func268.trans (congrArg some (by kernel_rfl))
 f245:=Tryz.func269.trans (congrArg some (by kernel_rfl))
 f246:=Tryz.func274.trans (congrArg some (by kernel_rfl))
 f247:=Tryz.func306.trans (congrArg some (by kernel_rfl))
 f279:=Tryz.func307.trans (congrArg some (by kernel_rfl))
 f280:=Tryz.func308.trans (congrArg some (by kernel_rfl))
 f281:=Tryz.func309.trans (congrArg some (by kernel_rfl))
 f282:=Tryz.func310.trans (congrArg some (by kernel_rfl))
 f283:=Tryz.func314.trans (congrArg some (by kernel_rfl))
 f284:=Tryz.func315.trans (congrArg some (by kernel_rfl))
 f285:=Tryz.func316.trans (congrArg some (by kernel_rfl))
 f286:=Tryz.func317.trans (congrArg some (by kernel_rfl))
 f287:=Tryz.func334.trans (congrArg some (by kernel_rfl))
 f316:=Tryz.func335.trans (congrArg some (by kernel_rfl))
 f317:=Tryz.func337.trans (congrArg some (by kernel_rfl))
 f318:=Tryz.func339.trans (congrArg some (by kernel_rfl))
 f319:=Tryz.func340.trans (congrArg some (by kernel_rfl))
 f320:=Tryz.func341.trans (congrArg some (by kernel_rfl))
 f321:=Tryz.func350.trans (congrArg some (by kernel_rfl))
 f322:=Tryz.func351.trans (congrArg some (by kernel_rfl))
 f337:=Tryz.func352.trans (congrArg some (by kernel_rfl))
 f338:=Tryz.func353.trans (congrArg some (by kernel_rfl))
 t0:=Tryz.underlying0
 a0:=Tryz.isAgg0
 z0:=Tryz.sizeOf0
 v0:=Tryz.zeroValue0
 t2:=Tryz.underlying2
 a2:=Tryz.isAgg2
 z2:=Tryz.sizeOf2
 v2:=Tryz.zeroValue2
 t3:=Tryz.underlying3
 a3:=Tryz.isAgg3
 z3:=Tryz.sizeOf3
 v3:=Tryz.zeroValue3
 t4:=Tryz.underlying4
 a4:=Tryz.isAgg4
 z4:=Tryz.sizeOf4
 v4:=Tryz.zeroValue4
 t5:=Tryz.underlying5
 a5:=Tryz.isAgg5
 z5:=Tryz.sizeOf5
 v5:=Tryz.zeroValue5
 t9:=Tryz.underlying9
 a9:=Tryz.isAgg9
 z9:=Tryz.sizeOf9
 v9:=Tryz.zeroValue9
 t20:=Tryz.underlying20
 a20:=Tryz.isAgg20
 z20:=Tryz.sizeOf20
 v20:=Tryz.zeroValue20
 t21:=Tryz.underlying21
 a21:=Tryz.isAgg21
 z21:=Tryz.sizeOf21
 v21:=Tryz.zeroValue21
 t37:=Tryz.underlying222
 a37:=Tryz.isAgg222
 z37:=Tryz.sizeOf222
 v37:=Tryz.zeroValue222
 t46:=Tryz.underlying295
 a46:=Tryz.isAgg295
 z46:=Tryz.sizeOf295
 v46:=Tryz.zeroValue295
 t51:=Tryz.underlying344
 a51:=Tryz.isAgg344
 z51:=Tryz.sizeOf344
 v51:=Tryz.zeroValue344
 t53:=Tryz.underlying321
 a53:=Tryz.isAgg321
 z53:=Tryz.sizeOf321
 v53:=Tryz.zeroValue321
 t75:=Tryz.underlying243
 a75:=Tryz.isAgg243
 z75:=Tryz.sizeOf243
 v75:=Tryz.zeroValue243
 t76:=Tryz.underlying244
 a76:=Tryz.isAgg244
 z76:=Tryz.sizeOf244
 v76:=Tryz.zeroValue244
 t85:=Tryz.underlying312
 a85:=Tryz.isAgg312
 z85:=Tryz.sizeOf312
 v85:=Tryz.zeroValue312
 t127:=Tryz.underlying286
 a127:=Tryz.isAgg286
 z127:=Tryz.sizeOf286
 v127:=Tryz.zeroValue286
 t143:=Tryz.underlying362
 a143:=Tryz.isAgg362
 z143:=Tryz.sizeOf362
 v143:=Tryz.zeroValue362
 t145:=Tryz.underlying364
 a145:=Tryz.isAgg364
 z145:=Tryz.sizeOf364
 v145:=Tryz.zeroValue364
 t167:=Tryz.underlying311
 a167:=Tryz.isAgg311
 z167:=Tryz.sizeOf311
 v167:=Tryz.zeroValue311
 t168:=Tryz.underlying314
 a168:=Tryz.isAgg314
 z168:=Tryz.sizeOf314
 v168:=Tryz.zeroValue314
 t171:=Tryz.underlying320
 a171:=Tryz.isAgg320
 z171:=Tryz.sizeOf320
 v171:=Tryz.zeroValue320
 t173:=Tryz.underlying324
 a173:=Tryz.isAgg324
 z173:=Tryz.sizeOf324
 v173:=Tryz.zeroValue324
 t175:=Tryz.underlying336
 a175:=Tryz.isAgg336
 z175:=Tryz.sizeOf336
 v175:=Tryz.zeroValue336
 t210:=Tryz.underlying340
 a210:=Tryz.isAgg340
 z210:=Tryz.sizeOf340
 v210:=Tryz.zeroValue340
 t212:=Tryz.underlying343
 a212:=Tryz.isAgg343
 z212:=Tryz.sizeOf343
 v212:=Tryz.zeroValue343
 t213:=Tryz.underlying345
 a213:=Tryz.isAgg345
 z213:=Tryz.sizeOf345
 t232:=Tryz.underlying369
 a232:=Tryz.isAgg369
 z232:=Tryz.sizeOf369
 v232:=Tryz.zeroValue369
 t233:=Tryz.underlying370
 a233:=Tryz.isAgg370
 z233:=Tryz.sizeOf370
 v233:=Tryz.zeroValue370
 g15:=by kernel_rfl
 g16:=by kernel_rfl
 g17:=by kernel_rfl
 g18:=by kernel_rfl
 g19:=by kernel_rfl
 t80:=Tryz.underlying254
 a80:=Tryz.isAgg254
 z80:=Tryz.sizeOf254
 v80:=Tryz.zeroValue254
 i0:=by kernel_rfl
 i2:=by kernel_rfl
 i3:=by kernel_rfl
 i4:=by kernel_rfl
 i5:=by kernel_rfl
 i9:=by kernel_rfl
 i20:=by kernel_rfl
 i21:=by kernel_rfl
 i37:=by kernel_rfl
 i46:=by kernel_rfl
 i51:=by kernel_rfl
 i53:=by kernel_rfl
 i75:=by kernel_rfl
 i76:=by kernel_rfl
 i80:=by kernel_rfl
 i85:=by kernel_rfl
 i127:=by kernel_rfl
 i143:=by kernel_rfl
 i145:=by kernel_rfl
 i167:=by kernel_rfl
 i168:=by kernel_rfl
 i171:=by kernel_rfl
 i173:=by kernel_rfl
 i175:=by kernel_rfl
 i210:=by kernel_rfl
 i212:=by kernel_rfl
 i232:=by kernel_rfl
 i233:=by kernel_rfl
 m15:=by kernel_rfl
 m16:=by kernel_rfl
 m17:=by kernel_rfl
 m18:=by kernel_rfl
 m19:=by kernel_rfl
 c0:=by kernel_rfl
 c2:=by kernel_rfl
 c3:=by kernel_rfl
 c4:=by kernel_rfl
 c5:=by kernel_rfl
 c9:=by kernel_rfl
 c20:=by kernel_rfl
 c21:=by kernel_rfl
 c37:=by kernel_rfl
 c46:=by kernel_rfl
 c51:=by kernel_rfl
 c53:=by kernel_rfl
 c75:=by kernel_rfl
 c76:=by kernel_rfl
 c80:=by kernel_rfl
 c85:=by kernel_rfl
 c127:=by kernel_rfl
 c143:=by kernel_rfl
 c145:=by kernel_rfl
 c167:=by kernel_rfl
 c168:=by kernel_rfl
 c171:=by kernel_rfl
 c173:=by kernel_rfl
 c175:=by kernel_rfl
 c210:=by kernel_rfl
 c212:=by kernel_rfl
 c213:=by kernel_rfl
 c232:=by kernel_rfl
 c233:=by kernel_rfl }
theorem PS:Go.Proofs.Builder.Extra Tryz.prog yZ where
 sizeBuilder:=by kernel_rfl
 liesBuilder:=by kernel_rfl
 t5:=Tryz.underlying5
 a5:=Tryz.isAgg5
 z5:=Tryz.sizeOf5
 v5:=Tryz.zeroValue5
 infoByte:=by kernel_rfl
 cellsByte:=by kernel_rfl
 sizeByte:=by kernel_rfl
 neB5:=by decide
end R
namespace R
open Go.RowKit
open D
def FldAll (P:Program) (T:TypeId):Nat->List (Nat×Nat)->Prop
 | _,[] =>True
 | i,q::l=>TF P T i q.1 q.2/\FldAll P T (i+1) l
theorem FldAll.get {P:Program} {T:TypeId} : ∀ {l:List (Nat×Nat)} {i:Nat},FldAll P T i l-> ∀f q,l[f]? =some q->TF P T (i+f) q.1 q.2
 | [],_,_,f,q,h=>by simp at h
 | x::l,i,⟨h1,h2⟩,f,q,h=>by
  cases f with
  | zero=>simp at h;subst h;exact h1
  | succ f =>
   have:=FldAll.get h2 f q (by simpa using h)
   rwa [show i+1+f=i+(f+1) from by omega] at this
section
variable {P:Program} {T:TypeId}
theorem vv {n b:Nat} {ty:Ty} {z:Value} {boo:Bool} {ik:Option (Option IntKind)} (h1:TI P T false 1) (h2:ty.size=1) (h3:TZ P T z 1 b) (h4:z.cells=(zeroCells ty).toArray) (h5:1<=b) (h6:boo=true->P.underlying T=some .bool) (h7: ∀k,ik=some k->P.underlying T=some (ikD k)):TDok P T ⟨false,1,none,ty,[],some b,none,boo,none,none,ik,false,none⟩:=
 ⟨h1,rfl,h2,fun E h=>by simp at h,fun f q h=>by simp at h,fun b' h=>by obtain rfl:=ae h;exact ⟨z,h3,h4,h5⟩,fun pl h=>by simp at h,h6,(fun ks h=>by cases h),(fun m h=>by cases h),h7,(fun h=>by cases h),fun e h=>by cases h⟩
theorem pH {E:TypeId} {t:Ty} (h1:TI P T false 1) (h2:P.underlying T=some (.slice E)) (h3:TZ P T (.slice none 0 0) 1 24):TDok P T ⟨false,1,some E,.sl E t,[],some 24,none,false,none,none,none,false,none⟩:=
 ⟨h1,rfl,rfl,fun E' h=>by obtain rfl:=ae h;exact h2,fun f q h=>by simp at h,fun b' h=>by obtain rfl:=ae h;exact ⟨_,h3,rfl,by decide⟩,fun pl h=>by simp at h,(fun h=>by cases h),(fun ks h=>by cases h),(fun m h=>by cases h),(fun k h=>by cases h),(fun h=>by cases h),fun e h=>by cases h⟩
theorem lD {n b:Nat} {ty:Ty} {fs pl:List (Nat×Nat)} {z:Value} {eq:Option (List (Option IntKind))} (h1:TI P T true n) (h2:ty.size=n) (h3:FldAll P T 0 fs) (h4:TZ P T z n b) (h5:z.cells=(zeroCells ty).toArray) (h6:1<=b) (h7:TB P T pl) (h8: ∀ks,eq=some ks-> ∀w,Curq ks fun xs ys r=>EqT P T (.agg xs.toArray) (.agg ys.toArray) r w):TDok P T ⟨true,n,none,ty,fs,some b,some pl,false,eq,none,none,false,none⟩:=
 ⟨h1,rfl,h2,fun E h=>by simp at h,fun f q h=>by have:=h3.get f q h;rwa [Nat.zero_add] at this,fun b' h=>by obtain rfl:=ae h;exact ⟨z,h4,h5,h6⟩,fun pl' h=>by obtain rfl:=ae h;exact h7,(fun h=>by cases h),h8,(fun m h=>by cases h),(fun k h=>by cases h),(fun h=>by cases h),fun e h=>by cases h⟩
theorem Bk {ty:Ty} {b:Nat} (h1:TI P T false 1) (h2:ty.size=1) (h3:TZ P T .nilFunc 1 b):TDok P T ⟨false,1,none,ty,[],none,none,false,none,none,none,true,none⟩:=
 ⟨h1,rfl,h2,fun E h=>by simp at h,fun f q h=>by simp at h,(fun b' h=>by cases h),(fun pl h=>by cases h),(fun h=>by cases h),(fun ks h=>by cases h),(fun m' h=>by cases h),(fun k h=>by cases h),(fun _=>⟨b,h3⟩),fun e h=>by cases h⟩
theorem aaq {m:MD} {ty:Ty} (h1:TI P T false 1) (h2:ty.size=1) (h3:MDok P T m):TDok P T ⟨false,1,none,ty,[],none,none,false,none,some m,none,false,none⟩:=
 ⟨h1,rfl,h2,fun E h=>by simp at h,fun f q h=>by simp at h,(fun b' h=>by cases h),(fun pl h=>by cases h),(fun h=>by cases h),(fun ks h=>by cases h),(fun m' h=>by obtain rfl:=ae h;exact h3),(fun k h=>by cases h),(fun h=>by cases h),fun e h=>by cases h⟩
theorem aar {e E:TypeId} {u:Ty} (h1:TI P T false 1) (h2:P.underlying T=some (.pointer e)) (h3:TZ P T (.pointer none) 1 8):TDok P T ⟨false,1,none,.fro (.tree e E u),[],some 8,none,false,none,none,none,false,some e⟩:=
 ⟨h1,rfl,rfl,fun E' h=>by simp at h,fun f q h=>by simp at h,fun b' h=>by obtain rfl:=ae h;exact ⟨_,h3,rfl,by decide⟩,fun pl h=>by simp at h,(fun h=>by cases h),(fun ks h=>by cases h),(fun m h=>by cases h),(fun k h=>by cases h),(fun h=>by cases h),fun e' h=>by obtain rfl:=ae h;exact h2⟩
end
end R
namespace D
open Go.RowKit
abbrev Yq1:Type:=(Int×Int×Int×Int)
abbrev Yq2:Type:=(Int×(List Bool)×(List (List Int)))
abbrev Yq3:Type:=(Int×((List Yq1))×Int)
abbrev Yq4:Type:=((List Int)×(List Yq1))
abbrev Yq5:Type:=(Bool×Int×Int×Int×Int)
abbrev Yq6:Type:=((List Yq2)×(List Yq3))
abbrev Gv:Type:=(Int×Int×Int)
abbrev Yq7:Type:=(List Gv)
abbrev Yq8:Type:=(Int×(List Yq4))
abbrev Yq9:Type:=(List (Bool×Yq1))
abbrev Ri:Type:=((List Int)×Int×Int×(List Int)×Bool)
abbrev Ap:Type:=(Out Int (Int×Int))
abbrev Rj:Type:=(Int×(List Yq2)×(List Yq3))
abbrev ZQ:Type:=((List (Int×(List Bool)×List (List Int)))×List (Int×(List Yq1)×Int))
abbrev UY:Type:=(Int×List ((List Int)×List Yq1))
def tY (p0a:List Int) (p1left:Int):Option Int:=
 if decide (IntKind.i64.wrap (p1left - (p0a.length:Int))<0) then (some (-1)) else (some (IntKind.i64.wrap (p1left - (p0a.length:Int))))
def vx (p0a:List Yq1) (p1left:Int):Option Int:=
 if decide (IntKind.i64.wrap (p1left - (p0a.length:Int))<0) then (some (-1)) else (some (IntKind.i64.wrap (p1left - (p0a.length:Int))))
def qP (p0a:(List Int)×(List Yq1)) (p1left:Int):Option Int:=
 (tY p0a.1 p1left).bind fun r1=>if decide (r1<0) then (some (-1)) else ((vx p0a.2 r1).bind fun r2=>if decide (r2<0) then (some (-1)) else (some r2))
def kL (p0a:List Yq4) (s3:Int×Int):Option Ap:=
 if decide (s3.2<(p0a.length:Int)) then ((aQ p0a s3.2).bind fun x3=>(qP (x3.1,x3.2) s3.1).bind fun r9=>if decide (r9<0) then (some (.ret (-1))) else (some (.nxt (r9,IntKind.i64.wrap (s3.2+1))))) else (some (.brk (s3.1,s3.2)))
def sG (p0a:List Yq4) (p1left:Int):Option Int:=
 if decide (IntKind.i64.wrap (p1left - (p0a.length:Int))<0) then (some (-1)) else (aN (ax (kL p0a) aV (IntKind.i64.wrap (p1left - (p0a.length:Int)),0)) (fun r=>some r) (fun s4=>some s4.1))
def nz (p0a:Int×(List Yq4)) (p1left:Int):Option Int:=
 (sG p0a.2 p1left).bind fun r1=>if decide (r1<0) then (some (-1)) else (some r1)
def vy (p0a:List Bool) (p1left:Int):Option Int:=
 if decide (IntKind.i64.wrap (p1left - (p0a.length:Int))<0) then (some (-1)) else (some (IntKind.i64.wrap (p1left - (p0a.length:Int))))
def l5 (p0a:List (List Int)) (s3:Int×Int):Option Ap:=
 if decide (s3.2<(p0a.length:Int)) then ((aQ p0a s3.2).bind fun x3=>(tY x3 s3.1).bind fun r6=>if decide (r6<0) then (some (.ret (-1))) else (some (.nxt (r6,IntKind.i64.wrap (s3.2+1))))) else (some (.brk (s3.1,s3.2)))
def vz (p0a:List (List Int)) (p1left:Int):Option Int:=
 if decide (IntKind.i64.wrap (p1left - (p0a.length:Int))<0) then (some (-1)) else (aN (ax (l5 p0a) aV (IntKind.i64.wrap (p1left - (p0a.length:Int)),0)) (fun r=>some r) (fun s4=>some s4.1))
def kM (p0a:Int×(List Bool)×(List (List Int))) (p1left:Int):Option Int:=
 (vy p0a.2.1 p1left).bind fun r1=>if decide (r1<0) then (some (-1)) else ((vz p0a.2.2 r1).bind fun r2=>if decide (r2<0) then (some (-1)) else (some r2))
def gf (p0a:List Yq2) (s3:Int×Int):Option Ap:=
 if decide (s3.2<(p0a.length:Int)) then ((aQ p0a s3.2).bind fun x3=>(kM (x3.1,x3.2.1,x3.2.2) s3.1).bind fun r9=>if decide (r9<0) then (some (.ret (-1))) else (some (.nxt (r9,IntKind.i64.wrap (s3.2+1))))) else (some (.brk (s3.1,s3.2)))
def mZ (p0a:List Yq2) (p1left:Int):Option Int:=
 if decide (IntKind.i64.wrap (p1left - (p0a.length:Int))<0) then (some (-1)) else (aN (ax (gf p0a) aV (IntKind.i64.wrap (p1left - (p0a.length:Int)),0)) (fun r=>some r) (fun s4=>some s4.1))
def sH (p0a:List Yq1) (p1left:Int):Option Int:=
 if decide (IntKind.i64.wrap (p1left - (p0a.length:Int))<0) then (some (-1)) else (some (IntKind.i64.wrap (p1left - (p0a.length:Int))))
def tZ (p0a:(List Yq1)) (p1left:Int):Option Int:=
 (sH p0a p1left).bind fun r1=>if decide (r1<0) then (some (-1)) else (some r1)
def jB (p0a:Int×((List Yq1))×Int) (p1left:Int):Option Int:=
 (tZ p0a.2.1 p1left).bind fun r1=>if decide (r1<0) then (some (-1)) else (some r1)
def fw (p0a:List Yq3) (s3:Int×Int):Option Ap:=
 if decide (s3.2<(p0a.length:Int)) then ((aQ p0a s3.2).bind fun x3=>(jB (x3.1,x3.2.1,x3.2.2) s3.1).bind fun r6=>if decide (r6<0) then (some (.ret (-1))) else (some (.nxt (r6,IntKind.i64.wrap (s3.2+1))))) else (some (.brk (s3.1,s3.2)))
def lJ (p0a:List Yq3) (p1left:Int):Option Int:=
 if decide (IntKind.i64.wrap (p1left - (p0a.length:Int))<0) then (some (-1)) else (aN (ax (fw p0a) aV (IntKind.i64.wrap (p1left - (p0a.length:Int)),0)) (fun r=>some r) (fun s4=>some s4.1))
def l6 (p0a:(List Yq2)×(List Yq3)) (p1left:Int):Option Int:=
 (mZ p0a.1 p1left).bind fun r1=>if decide (r1<0) then (some (-1)) else ((lJ p0a.2 r1).bind fun r2=>if decide (r2<0) then (some (-1)) else (some r2))
def lK (p0a:List Gv) (p1left:Int):Option Int:=
 if decide (IntKind.i64.wrap (p1left - (p0a.length:Int))<0) then (some (-1)) else (some (IntKind.i64.wrap (p1left - (p0a.length:Int))))
def pb (p0a:Yq8×Yq6×Yq7×ByteArray) (p1left:Int):Option Int:=
 (nz (p0a.1.1,p0a.1.2) p1left).bind fun r1=>if decide (r1<0) then (some (-1)) else ((l6 (p0a.2.1.1,p0a.2.1.2) r1).bind fun r2=>if decide (r2<0) then (some (-1)) else ((lK p0a.2.2.1 r2).bind fun r3=>if decide (r3<0) then (some (-1)) else (if decide (IntKind.i64.wrap (r3 - (p0a.2.2.2.size:Int))<0) then (some (-1)) else (some (IntKind.i64.wrap (r3 - (p0a.2.2.2.size:Int)))))))
def cR (p0x:Int) (p1low:Int) (p2high:Int):Option Bool:=
 if decide (p0x≥p1low) then (some (decide (p0x<=p2high))) else (some false)
def pX (p0g:(List Int)×(List Yq1)) (p1e:Int×Int×Int×Int):Option Bool:=
 (cR p1e.1 1 99).bind fun r1=>if r1 then ((cR p1e.2.1 0 (IntKind.i64.wrap ((p0g.1.length:Int) - 1))).bind fun r2=>if r2 then ((cR p1e.2.2.1 0 (IntKind.i64.wrap ((p0g.1.length:Int) - 1))).bind fun r3=>if r3 then ((cR p1e.2.2.2 0 2).bind fun r4=>some r4) else (some false)) else (some false)) else (some false)
def oj (p0g:(List Int)×(List Yq1)) (s3:Int):Option (Out Bool Int):=
 if decide (s3<(p0g.1.length:Int)) then ((aQ p0g.1 s3).bind fun x3=>(cR x3 0 2).bind fun r3=>if r3 then (some (.nxt (IntKind.i64.wrap (s3+1)))) else (some (.ret false))) else (some (.brk s3))
def j8 (p0g:(List Int)×(List Yq1)) (s7:Int):Option (Out Bool Int):=
 if decide (s7<(p0g.2.length:Int)) then ((aQ p0g.2 s7).bind fun x10=>(pX (p0g.1,p0g.2) (x10.1,x10.2.1,x10.2.2.1,x10.2.2.2)).bind fun r6=>if r6 then (if decide (s7>0) then ((aQ p0g.2 (IntKind.i64.wrap (s7 - 1))).bind fun x11=>(aQ p0g.2 s7).bind fun x12=>if decide (x11.1≥x12.1) then (some (.ret false)) else (some (.nxt (IntKind.i64.wrap (s7+1))))) else (some (.nxt (IntKind.i64.wrap (s7+1))))) else (some (.ret false))) else (some (.brk s7))
def cX (p0g:(List Int)×(List Yq1)):Option Bool:=
 aN (ax (oj p0g) aV 0) (fun r=>some r) (fun s4=>aN (ax (j8 p0g) aV 0) (fun r=>some r) (fun s8=>(cR (p0g.1.length:Int) 1 5).bind fun r7=>if r7 then (some (decide ((p0g.2.length:Int)<=12))) else (some false)))
def pc (p0a:List Int) (p1b:List Int) (s3:Int):Option (Out Int Int):=
 if decide (s3<(p0a.length:Int)) then (if decide (s3<(p1b.length:Int)) then ((aQ p0a s3).bind fun x9=>(aQ p1b s3).bind fun x10=>if decide (x9<x10) then (some (.ret (-1))) else ((aQ p0a s3).bind fun x11=>(aQ p1b s3).bind fun x12=>if decide (x11>x12) then (some (.ret 1)) else (some (.nxt (IntKind.i64.wrap (s3+1)))))) else (some (.brk s3))) else (some (.brk s3))
def om (p0a:List Int) (p1b:List Int):Option Int:=
 aN (ax (pc p0a p1b) aV 0) (fun r=>some r) (fun s4=>if decide ((p0a.length:Int)<(p1b.length:Int)) then (some (-1)) else (if decide ((p0a.length:Int)>(p1b.length:Int)) then (some 1) else (some 0)))
def eS (p0h:Int×(List Yq4)) (s3:Int):Option (Out Bool Int):=
 if decide (s3<(p0h.2.length:Int)) then ((aQ p0h.2 s3).bind fun x7=>(cX (x7.1,x7.2)).bind fun r15=>if r15 then ((aQ p0h.2 s3).bind fun x8=>(aQ p0h.2 0).bind fun x9=>(om x8.1 x9.1).bind fun r18=>if r18 !=0 then (some (.ret false)) else (some (.nxt (IntKind.i64.wrap (s3+1))))) else (some (.ret false))) else (some (.brk s3))
def m_s_IsValidHistory (p0h:Int×(List Yq4)):Option Bool:=
 aN (ax (eS p0h) aV 0) (fun r=>some r) (fun s4=>(cR (p0h.2.length:Int) 1 8).bind fun r19=>if r19 then ((cR p0h.1 1 (IntKind.i64.wrap ((IntKind.i64.wrap (999 - (p0h.2.length:Int)))+1))).bind fun r20=>some r20) else (some false))
def mL (p0n:Int):Option Bool:=
 (cR p0n 0 8).bind fun r1=>some r1
def oo (p0:Int×Int×Int×Int):Option Int:=
 Option.bind ((if p0.1==1 then (some (p0.1==1)) else (some (p0.1==2)):Option Bool)) (fun s1=>if s1 then (if p0.2.1 !=0 then (some (-1)) else (if p0.2.2.1 !=0 then (some (-1)) else (if p0.2.2.2 !=0 then (some (-1)) else (some 0)))) else (if p0.1==3 then ((mL p0.2.1).bind fun r3=>if r3 then (if p0.2.2.1 !=0 then (some (-1)) else (if p0.2.2.2 !=0 then (some (-1)) else (some 0))) else (some (-1))) else (Option.bind ((if p0.1==4 then (some (p0.1==4)) else (some (p0.1==5)):Option Bool)) (fun s2=>if s2 then (if p0.2.1 !=0 then (some (-1)) else (if p0.2.2.1 !=0 then (some (-1)) else (if p0.2.2.2 !=0 then (some (-1)) else (some 2)))) else (if p0.1==6 then (if p0.2.1 !=0 then (some (-1)) else (if p0.2.2.1 !=0 then (some (-1)) else (if p0.2.2.2 !=0 then (some (-1)) else (some 1)))) else (if p0.1==7 then (if p0.2.1 !=0 then (some (-1)) else ((cR p0.2.2.2 1 3).bind fun r1=>if r1 then ((cR p0.2.2.1 0 p0.2.2.2).bind fun r2=>if r2 then (some 1) else (some (-1))) else (some (-1)))) else (some (-1))))))))
def qQ (p0e:(List Yq1)) (s3:Int×Int):Option (Out Bool (Int×Int)):=
 if decide (s3.2<(p0e.length:Int)) then ((aQ p0e s3.2).bind fun x3=>(oo (x3.1,x3.2.1,x3.2.2.1,x3.2.2.2)).bind fun r3=>if decide (r3<0) then (some (.ret false)) else (if decide (r3>s3.1) then (some (.ret false)) else (some (.nxt (IntKind.i64.wrap ((IntKind.i64.wrap (s3.1 - r3))+1),IntKind.i64.wrap (s3.2+1)))))) else (some (.brk (s3.1,s3.2)))
def ua (p0e:(List Yq1)):Option Bool:=
 aN (ax (qQ p0e) aV (0,0)) (fun r=>some r) (fun s4=>some (s4.1==1))
def kN (p0e:(List Yq1)):Option Bool:=
 if decide ((p0e.length:Int)<=24) then ((ua p0e).bind fun r1=>some r1) else (some false)
def l7 (p0l:List Yq1) (s3:Int×Int):Option Ap:=
 if decide (s3.1>0) then ((aQ p0l (IntKind.i64.wrap (s3.2 - 1))).bind fun x3=>(oo (x3.1,x3.2.1,x3.2.2.1,x3.2.2.2)).bind fun r3=>some (.nxt (IntKind.i64.wrap ((IntKind.i64.wrap (s3.1 - 1))+r3),IntKind.i64.wrap (s3.2 - 1)))) else (some (.brk (s3.1,s3.2)))
def ig (p0l:List Yq1):Option Int:=
 aN (ax (l7 p0l) aV (1,(p0l.length:Int))) (fun r=>some r) (fun s4=>some s4.2)
def dU:Nat->(List Yq1)->Option Int
 | 0,_=>none
 | n+1,p0l =>
  (aQ p0l (IntKind.i64.wrap ((p0l.length:Int) - 1))).bind fun x0=>Option.bind ((if x0.1==4 then (some (x0.1==4)) else (some (x0.1==5)):Option Bool)) (fun s1=>if s1 then ((chk (And (0<=(IntKind.i64.wrap ((p0l.length:Int) - 1))) ((IntKind.i64.wrap ((p0l.length:Int) - 1))<=(p0l.length:Int)))).bind fun _=>(ig (p0l.take ((IntKind.i64.wrap ((p0l.length:Int) - 1)).toNat))).bind fun r3=>(chk (And (0<=r3) (r3<=(p0l.length:Int)))).bind fun _=>((dU n) (p0l.take r3.toNat)).bind fun r9=>(chk (And (0<=r3) (And (r3<=(IntKind.i64.wrap ((p0l.length:Int) - 1))) ((IntKind.i64.wrap ((p0l.length:Int) - 1))<=(p0l.length:Int))))).bind fun _=>((dU n) ((p0l.take ((IntKind.i64.wrap ((p0l.length:Int) - 1)).toNat)).drop r3.toNat)).bind fun r11=>some (Min.min 100000 (IntKind.i64.wrap ((IntKind.i64.wrap (r9+r11))+1)))) else (if x0.1==6 then ((chk (And (0<=(IntKind.i64.wrap ((p0l.length:Int) - 1))) ((IntKind.i64.wrap ((p0l.length:Int) - 1))<=(p0l.length:Int)))).bind fun _=>((dU n) (p0l.take ((IntKind.i64.wrap ((p0l.length:Int) - 1)).toNat))).bind fun r13=>some (Min.min 100000 (IntKind.i64.wrap (r13+1)))) else (if x0.1==7 then ((chk (And (0<=(IntKind.i64.wrap ((p0l.length:Int) - 1))) ((IntKind.i64.wrap ((p0l.length:Int) - 1))<=(p0l.length:Int)))).bind fun _=>((dU n) (p0l.take ((IntKind.i64.wrap ((p0l.length:Int) - 1)).toNat))).bind fun r17=>some (Min.min 100000 (IntKind.i64.wrap ((IntKind.i64.wrap ((IntKind.i64.wrap (r17+3))*x0.2.2.2))+1)))) else (some 1))))
def gN (p0l:List Yq1):Option (List Yq1):=
 (cm 32 ([] :List Yq1) p0l).bind fun z1=>some z1
def lL (p0a:(List Yq1)) (p1b:(List Yq1)) (p2t:Int×Int×Int×Int):Option (List Yq1):=
 (gN p0a).bind fun r1=>(cm 32 r1 p1b).bind fun z1=>(cm 32 z1 ([(p2t.1,p2t.2.1,p2t.2.2.1,p2t.2.2.2)])).bind fun z2=>some z2
def pY (p0kind:Int):Option (List Yq1):=
 some ([(p0kind,0,0,0)])
def kd:Nat->(List Yq1)->Int->Int->Option (List Yq1)
 | 0,_,_,_=>none
 | n+1,p0e,p1low,p2high =>
  if p2high==0 then ((pY 2).bind fun r0=>some r0) else (((kd n) p0e (Max.max 0 (IntKind.i64.wrap (p1low - 1))) (IntKind.i64.wrap (p2high - 1))).bind fun r3=>(lL p0e r3 (4,0,0,0)).bind fun r4=>if decide (p1low>0) then (some r4) else ((pY 2).bind fun r7=>(lL r4 r7 (5,0,0,0)).bind fun r8=>some r8))
def cS:Nat->(List Yq1)->Option (List Yq1)
 | 0,_=>none
 | n+1,p0l =>
  (aQ p0l (IntKind.i64.wrap ((p0l.length:Int) - 1))).bind fun x0=>Option.bind ((if x0.1==4 then (some (x0.1==4)) else (some (x0.1==5)):Option Bool)) (fun s1=>if s1 then ((chk (And (0<=(IntKind.i64.wrap ((p0l.length:Int) - 1))) ((IntKind.i64.wrap ((p0l.length:Int) - 1))<=(p0l.length:Int)))).bind fun _=>(ig (p0l.take ((IntKind.i64.wrap ((p0l.length:Int) - 1)).toNat))).bind fun r3=>(chk (And (0<=r3) (r3<=(p0l.length:Int)))).bind fun _=>((cS n) (p0l.take r3.toNat)).bind fun r10=>(chk (And (0<=r3) (And (r3<=(IntKind.i64.wrap ((p0l.length:Int) - 1))) ((IntKind.i64.wrap ((p0l.length:Int) - 1))<=(p0l.length:Int))))).bind fun _=>((cS n) ((p0l.take ((IntKind.i64.wrap ((p0l.length:Int) - 1)).toNat)).drop r3.toNat)).bind fun r12=>(lL r10 r12 (x0.1,x0.2.1,x0.2.2.1,x0.2.2.2)).bind fun r13=>some r13) else (if x0.1==6 then ((chk (And (0<=(IntKind.i64.wrap ((p0l.length:Int) - 1))) ((IntKind.i64.wrap ((p0l.length:Int) - 1))<=(p0l.length:Int)))).bind fun _=>((cS n) (p0l.take ((IntKind.i64.wrap ((p0l.length:Int) - 1)).toNat))).bind fun r18=>(lL r18 ([] :List Yq1) (x0.1,x0.2.1,x0.2.2.1,x0.2.2.2)).bind fun r19=>some r19) else (if x0.1==7 then ((chk (And (0<=(IntKind.i64.wrap ((p0l.length:Int) - 1))) ((IntKind.i64.wrap ((p0l.length:Int) - 1))<=(p0l.length:Int)))).bind fun _=>((cS n) (p0l.take ((IntKind.i64.wrap ((p0l.length:Int) - 1)).toNat))).bind fun r24=>(kd gB r24 x0.2.2.1 x0.2.2.2).bind fun r25=>some r25) else (some ([(x0.1,x0.2.1,x0.2.2.1,x0.2.2.2)])))))
def l8 (p0e:(List Yq1)):Option (((List Yq1))×Bool):=
 (kN p0e).bind fun r1=>if r1 then ((dU gB p0e).bind fun r2=>if decide (r2>5000) then (some ([],false)) else ((cS gB p0e).bind fun r3=>if decide ((r3.length:Int)>400) then (some ([],false)) else (some (r3,true)))) else (some ([],false))
def jo (p1from:Int) (p2to:Int) (s2:Int×List Int):Option (Out Ri (Int×List Int)):=
 if decide (s2.1<(s2.2.length:Int)) then (Option.bind (((chk (0<=s2.1)).bind fun _=>if (Az (uC p1from s2.1) 1)==1 then ((aQ s2.2 s2.1).bind fun x6=>(aQ s2.2 s2.1).bind fun x7=>some (s2.2.set s2.1.toNat (orI x6 p2to))) else (some s2.2):Option (List Int))) (fun s8=>some (.nxt (IntKind.i64.wrap (s2.1+1),s8)))) else (some (.brk (s2.1,s2.2)))
def oq (p0p:(List Int)×Int×Int×(List Int)×Bool) (p1from:Int) (p2to:Int):Option Ri:=
 aN (ax (jo p1from p2to) aV (0,p0p.2.2.2.1)) (fun r9=>some r9) (fun s10=>some (p0p.1,p0p.2.1,p0p.2.2.1,s10.2,p0p.2.2.2.2))
def dm:Nat->Ri->(List Yq1)->Option ((Bool×Int×Int)×(List Int)×Int×Int×(List Int)×Bool)
 | 0,_,_=>none
 | n+1,p0,p1 =>
  (aQ p1 (IntKind.i64.wrap ((p1.length:Int) - 1))).bind fun x0=>if x0.1==2 then (some ((true,0,0),p0.1,p0.2.1,p0.2.2.1,p0.2.2.2.1,p0.2.2.2.2)) else (if x0.1==3 then ((cm 8 p0.1 ([x0.2.1])).bind fun z2=>(cm 8 p0.2.2.2.1 ([0])).bind fun z3=>some ((false,Kx 1 (p0.1.length:Int),Kx 1 (p0.1.length:Int)),z2,p0.2.1,p0.2.2.1,z3,p0.2.2.2.2)) else (if x0.1==4 then ((chk (And (0<=(IntKind.i64.wrap ((p1.length:Int) - 1))) ((IntKind.i64.wrap ((p1.length:Int) - 1))<=(p1.length:Int)))).bind fun _=>(ig (p1.take ((IntKind.i64.wrap ((p1.length:Int) - 1)).toNat))).bind fun r5=>(chk (And (0<=r5) (r5<=(p1.length:Int)))).bind fun _=>((dm n) (p0.1,p0.2.1,p0.2.2.1,p0.2.2.2.1,p0.2.2.2.2) (p1.take r5.toNat)).bind fun r7=>(chk (And (0<=r5) (And (r5<=(IntKind.i64.wrap ((p1.length:Int) - 1))) ((IntKind.i64.wrap ((p1.length:Int) - 1))<=(p1.length:Int))))).bind fun _=>((dm n) (r7.2.1,r7.2.2.1,r7.2.2.2.1,r7.2.2.2.2.1,r7.2.2.2.2.2) ((p1.take ((IntKind.i64.wrap ((p1.length:Int) - 1)).toNat)).drop r5.toNat)).bind fun r9=>(oq (r9.2.1,r9.2.2.1,r9.2.2.2.1,r9.2.2.2.2.1,r9.2.2.2.2.2) r7.1.2.2 r9.1.2.1).bind fun r10=>if r7.1.1 then (Option.bind ((if r7.1.1 then (some (r9.1.1,orI r7.1.2.1 r9.1.2.1,r9.1.2.2)) else (some (r9.1.1,r7.1.2.1,r9.1.2.2)):Option (Bool×Int×Int))) (fun s11=>Option.bind ((if r9.1.1 then (some (s11.1,s11.2.1,orI r7.1.2.2 r9.1.2.2)) else (some (s11.1,s11.2.1,s11.2.2)):Option (Bool×Int×Int))) (fun s12=>some ((s12.1,s12.2.1,s12.2.2),r10.1,r10.2.1,r10.2.2.1,r10.2.2.2.1,r10.2.2.2.2)))) else (Option.bind ((if r7.1.1 then (some (false,orI r7.1.2.1 r9.1.2.1,r9.1.2.2)) else (some (false,r7.1.2.1,r9.1.2.2)):Option (Bool×Int×Int))) (fun s13=>Option.bind ((if r9.1.1 then (some (s13.1,s13.2.1,orI r7.1.2.2 r9.1.2.2)) else (some (s13.1,s13.2.1,s13.2.2)):Option (Bool×Int×Int))) (fun s14=>some ((s14.1,s14.2.1,s14.2.2),r10.1,r10.2.1,r10.2.2.1,r10.2.2.2.1,r10.2.2.2.2))))) else (if x0.1==5 then ((chk (And (0<=(IntKind.i64.wrap ((p1.length:Int) - 1))) ((IntKind.i64.wrap ((p1.length:Int) - 1))<=(p1.length:Int)))).bind fun _=>(ig (p1.take ((IntKind.i64.wrap ((p1.length:Int) - 1)).toNat))).bind fun r16=>(chk (And (0<=r16) (r16<=(p1.length:Int)))).bind fun _=>((dm n) (p0.1,p0.2.1,p0.2.2.1,p0.2.2.2.1,p0.2.2.2.2) (p1.take r16.toNat)).bind fun r18=>(chk (And (0<=r16) (And (r16<=(IntKind.i64.wrap ((p1.length:Int) - 1))) ((IntKind.i64.wrap ((p1.length:Int) - 1))<=(p1.length:Int))))).bind fun _=>((dm n) (r18.2.1,r18.2.2.1,r18.2.2.2.1,r18.2.2.2.2.1,r18.2.2.2.2.2) ((p1.take ((IntKind.i64.wrap ((p1.length:Int) - 1)).toNat)).drop r16.toNat)).bind fun r20=>if r18.1.1 then (some ((true,orI r18.1.2.1 r20.1.2.1,orI r18.1.2.2 r20.1.2.2),r20.2.1,r20.2.2.1,r20.2.2.2.1,r20.2.2.2.2.1,r20.2.2.2.2.2)) else (some ((r20.1.1,orI r18.1.2.1 r20.1.2.1,orI r18.1.2.2 r20.1.2.2),r20.2.1,r20.2.2.1,r20.2.2.2.1,r20.2.2.2.2.1,r20.2.2.2.2.2))) else (if x0.1==6 then ((chk (And (0<=(IntKind.i64.wrap ((p1.length:Int) - 1))) ((IntKind.i64.wrap ((p1.length:Int) - 1))<=(p1.length:Int)))).bind fun _=>((dm n) (p0.1,p0.2.1,p0.2.2.1,p0.2.2.2.1,p0.2.2.2.2) (p1.take ((IntKind.i64.wrap ((p1.length:Int) - 1)).toNat))).bind fun r22=>(oq (r22.2.1,r22.2.2.1,r22.2.2.2.1,r22.2.2.2.2.1,r22.2.2.2.2.2) r22.1.2.2 r22.1.2.1).bind fun r23=>some ((true,r22.1.2.1,r22.1.2.2),r23.1,r23.2.1,r23.2.2.1,r23.2.2.2.1,r23.2.2.2.2)) else (some ((false,0,0),p0.1,p0.2.1,p0.2.2.1,p0.2.2.2.1,p0.2.2.2.2))))))
def dn (r0:(List Yq1)×Bool) (s2:Int×Int):Option (Out (Ri×Bool) (Int×Int)):=
 if decide (s2.2<(r0.1.length:Int)) then (Option.bind (((aQ r0.1 s2.2).bind fun x3=>if x3.1==3 then (some (IntKind.i64.wrap (s2.1+1))) else (some s2.1):Option Int)) (fun s4=>some (.nxt (s4,IntKind.i64.wrap (s2.2+1))))) else (some (.brk (s2.1,s2.2)))
def gR (p0e:List Yq1):Option (Ri×Bool):=
 (l8 p0e).bind fun r0=>if r0.2 then (aN (ax (dn r0) aV (0,0)) (fun r5=>some r5) (fun s6=>if decide (s6.1>20) then (some ((([] :List Int),0,0,([] :List Int),false),false)) else ((dm gB (([] :List Int),0,0,([] :List Int),false) r0.1).bind fun r7=>some ((r7.2.1,r7.1.2.1,r7.1.2.2,r7.2.2.2.2.1,r7.1.1),true)))) else (some ((([] :List Int),0,0,([] :List Int),false),false))
def ij (p0p:(List Int)×Int×Int×(List Int)×Bool) (p1set:Int) (s6:Int×Int):Option Ap:=
 if decide (s6.2<(p0p.1.length:Int)) then (Option.bind (((chk (0<=IntKind.i64.wrap (s6.2+1))).bind fun _=>if (Az (uC p1set (IntKind.i64.wrap (s6.2+1))) 1)==1 then ((aQ p0p.2.2.2.1 s6.2).bind fun x6=>some (orI s6.1 x6)) else (some s6.1):Option Int)) (fun s8=>some (.nxt (s8,IntKind.i64.wrap (s6.2+1))))) else (some (.brk (s6.1,s6.2)))
def il (p0p:(List Int)×Int×Int×(List Int)×Bool) (p2letter:Int) (s7:Int×Int) (s13:Int×Int):Option Ap:=
 if decide (s13.2<(p0p.1.length:Int)) then (Option.bind (((chk (0<=s13.2)).bind fun _=>if (Az (uC s7.1 s13.2) 1)==1 then ((aQ p0p.1 s13.2).bind fun x12=>if x12==p2letter then ((chk (0<=IntKind.i64.wrap (s13.2+1))).bind fun _=>some (orI s13.1 (Kx 1 (IntKind.i64.wrap (s13.2+1))))) else (some s13.1)) else (some s13.1):Option Int)) (fun s15=>some (.nxt (s15,IntKind.i64.wrap (s13.2+1))))) else (some (.brk (s13.1,s13.2)))
def pd (p0p:(List Int)×Int×Int×(List Int)×Bool) (p1set:Int) (p2letter:Int):Option Int:=
 Option.bind ((if (Az p1set 1)==1 then (some p0p.2.1) else (some 0):Option Int)) (fun s1=>aN (ax (ij p0p p1set) aV (s1,0)) (fun r=>some r) (fun s7=>aN (ax (il p0p p2letter s7) aV (0,0)) (fun r=>some r) (fun s14=>some s14.1)))
def pI (p0l:List Int) (p1x:Int) (s3:Int):Option (Out Int Int):=
 if decide (s3<(p0l.length:Int)) then ((aQ p0l s3).bind fun x3=>if x3==p1x then (some (.ret s3)) else (some (.nxt (IntKind.i64.wrap (s3+1))))) else (some (.brk s3))
def ot (p0l:List Int) (p1x:Int):Option Int:=
 aN (ax (pI p0l p1x) aV 0) (fun r=>some r) (fun s4=>some (-1))
def l9 (p0p:(List Int)×Int×Int×(List Int)×Bool) (p1set:Int):Option Bool:=
 if (Az p1set 1)==1 then (if p0p.2.2.2.2 then (some true) else (some ((Az (uC p1set 1) p0p.2.2.1) !=0))) else (some ((Az (uC p1set 1) p0p.2.2.1) !=0))
def fH (p0:(List Int)×Int×Int×(List Int)×Bool) (s17:(List Int)×Int×Int×(List Bool)×(List (List Int))) (s23:(List Int)×(List Int)×Int):Option (Out (Yq2×Bool) ((List Int)×(List Int)×Int)):=
 if decide (s23.2.2<9) then ((aQ s23.1 s17.2.1).bind fun x11=>(pd (p0.1,p0.2.1,p0.2.2.1,p0.2.2.2.1,p0.2.2.2.2) x11 s23.2.2).bind fun r27=>Option.bind ((if r27 !=0 then ((ot s23.1 r27).bind fun r29=>if decide (r29<0) then ((cm 8 s23.1 ([r27])).bind fun z30=>some (z30,(s23.1.length:Int))) else (some (s23.1,r29))) else (some (s23.1,-1)):Option ((List Int)×Int))) (fun s25=>(cm 8 s23.2.1 ([s25.2])).bind fun z31=>some (.nxt (s25.1,z31,IntKind.i64.wrap (s23.2.2+1))))) else (some (.brk (s23.1,s23.2.1,s23.2.2)))
def fI (p0:(List Int)×Int×Int×(List Int)×Bool) (p1:Int) (s17:(List Int)×Int×Int×(List Bool)×(List (List Int))):Option (Out (Yq2×Bool) ((List Int)×Int×Int×(List Bool)×(List (List Int)))):=
 if decide (s17.2.1<(s17.1.length:Int)) then (aN (ax (fH p0 s17) aV (s17.1,([] :List Int),0)) (fun r=>some (.ret r)) (fun s24=>if decide ((s24.1.length:Int)>p1) then (some (.ret ((0,[],[]),false))) else ((aQ s24.1 s17.2.1).bind fun x12=>(l9 (p0.1,p0.2.1,p0.2.2.1,p0.2.2.2.1,p0.2.2.2.2) x12).bind fun r30=>(cm 1 s17.2.2.2.1 ([r30])).bind fun z32=>(cm 24 s17.2.2.2.2 ([s24.2.1])).bind fun z33=>some (.nxt (s24.1,IntKind.i64.wrap (s17.2.1+1),s17.2.2.1,z32,z33))))) else (some (.brk (s17.1,s17.2.1,s17.2.2.1,s17.2.2.2.1,s17.2.2.2.2)))
def jq (p0:(List Int)×Int×Int×(List Int)×Bool) (p1:Int):Option (Yq2×Bool):=
 aN (ax (fI p0 p1) aV ([1],0,0,[],[])) (fun r=>some r) (fun s18=>some ((s18.2.2.1,s18.2.2.2.1,s18.2.2.2.2),true))
def xZ (s3:(List Int)×Int):Option (Out Yq2 ((List Int)×Int)):=
 if decide (s3.2<9) then ((cm 8 s3.1 ([-1])).bind fun z3=>some (.nxt (z3,IntKind.i64.wrap (s3.2+1)))) else (some (.brk (s3.1,s3.2)))
def pJ:Option Yq2:=
 aN (ax (xZ) aV (([] :List Int),0)) (fun r=>some r) (fun s4=>some (0,[false],[s4.1]))
def gD (p0:Int×(List Bool)×(List (List Int))) (p1:List Int) (p2:List Bool) (s17:(List Int)×(List Int)×Int×Int×(List Bool)×(List (List Int))) (s23:(List Int)×(List Int)×(List Int)×Int):Option (Out Yq2 ((List Int)×(List Int)×(List Int)×Int)):=
 if decide (s23.2.2.2<9) then ((aQ s23.2.1 s17.2.2.1).bind fun x79=>(aQ p0.2.2 x79).bind fun x80=>(aQ x80 s23.2.2.2).bind fun x81=>Option.bind ((if decide (x81≥0) then ((aQ p2 x81).bind fun x85=>if x85 then ((aQ p1 x81).bind fun x86=>(ot s23.1 x86).bind fun r28=>if decide (r28<0) then ((aQ p1 x81).bind fun x87=>(cm 8 s23.1 ([x87])).bind fun z47=>(cm 8 s23.2.1 ([x81])).bind fun z48=>some (z47,z48,(s23.1.length:Int))) else (some (s23.1,s23.2.1,r28))) else (some (s23.1,s23.2.1,-1))) else (some (s23.1,s23.2.1,-1)):Option ((List Int)×(List Int)×Int))) (fun s25=>(cm 8 s23.2.2.1 ([s25.2.2])).bind fun z49=>some (.nxt (s25.1,s25.2.1,z49,IntKind.i64.wrap (s23.2.2.2+1))))) else (some (.brk (s23.1,s23.2.1,s23.2.2.1,s23.2.2.2)))
def jC (p0:Int×(List Bool)×(List (List Int))) (p1:List Int) (p2:List Bool) (s17:(List Int)×(List Int)×Int×Int×(List Bool)×(List (List Int))):Option (Out Yq2 ((List Int)×(List Int)×Int×Int×(List Bool)×(List (List Int)))):=
 if decide (s17.2.2.1<(s17.1.length:Int)) then (aN (ax (gD p0 p1 p2 s17) aV (s17.1,s17.2.1,([] :List Int),0)) (fun r=>some (.ret r)) (fun s24=>(aQ s24.2.1 s17.2.2.1).bind fun x88=>(aQ p0.2.1 x88).bind fun x89=>(cm 1 s17.2.2.2.2.1 ([x89])).bind fun z50=>(cm 24 s17.2.2.2.2.2 ([s24.2.2.1])).bind fun z51=>some (.nxt (s24.1,s24.2.1,IntKind.i64.wrap (s17.2.2.1+1),s17.2.2.2.1,z50,z51)))) else (some (.brk (s17.1,s17.2.1,s17.2.2.1,s17.2.2.2.1,s17.2.2.2.2.1,s17.2.2.2.2.2)))
def iQ (p0:Int×(List Bool)×(List (List Int))) (p1:List Int) (p2:List Bool):Option Yq2:=
 (aQ p2 p0.1).bind fun x1=>if x1 then ((aQ p1 p0.1).bind fun x2=>aN (ax (jC p0 p1 p2) aV ([x2],[p0.1],0,0,[],[])) (fun r=>some r) (fun s18=>some (s18.2.2.2.1,s18.2.2.2.2.1,s18.2.2.2.2.2))) else ((pJ).bind fun r1=>some (r1.1,r1.2.1,r1.2.2))
def jr (p0a:Int×(List Bool)×(List (List Int))) (s71:(List Bool)×Int) (s77:(List Bool)×Int):Option (Out (List Bool) ((List Bool)×Int)):=
 if decide (s77.2<9) then (Option.bind (((aQ p0a.2.2 s71.2).bind fun x319=>(aQ x319 s77.2).bind fun x320=>if decide (x320≥0) then ((aQ p0a.2.2 s71.2).bind fun x321=>(aQ x321 s77.2).bind fun x322=>(aQ s77.1 x322).bind fun x323=>if x323 then ((aQ s77.1 s71.2).bind fun x324=>some (s77.1.set s71.2.toNat true)) else (some s77.1)) else (some s77.1):Option (List Bool))) (fun s79=>some (.nxt (s79,IntKind.i64.wrap (s77.2+1))))) else (some (.brk (s77.1,s77.2)))
def jt (p0a:Int×(List Bool)×(List (List Int))) (s71:(List Bool)×Int):Option (Out (List Bool) ((List Bool)×Int)):=
 if decide (s71.2<(p0a.2.1.length:Int)) then (aN (ax (jr p0a s71) aV (s71.1,0)) (fun r=>some (.ret r)) (fun s78=>some (.nxt (s78.1,IntKind.i64.wrap (s71.2+1))))) else (some (.brk (s71.1,s71.2)))
def ma (p0a:Int×(List Bool)×(List (List Int))) (s53:(List Bool)×Int):Option (Out (List Bool) ((List Bool)×Int)):=
 if decide (s53.2<(p0a.2.1.length:Int)) then (aN (ax (jt p0a) aV (s53.1,0)) (fun r=>some (.ret r)) (fun s72=>some (.nxt (s72.1,IntKind.i64.wrap (s53.2+1))))) else (some (.brk (s53.1,s53.2)))
def lM (p0a:Int×(List Bool)×(List (List Int))):Option (List Bool):=
 (cm 1 ([] :List Bool) p0a.2.1).bind fun z1=>aN (ax (ma p0a) aV (z1,0)) (fun r=>some r) (fun s54=>some s54.1)
def nA (p0a:Int×(List Bool)×(List (List Int))) (p1classes:List Int) (p2s:Int) (s5:(List Int)×Int):Option (Out (List Int) ((List Int)×Int)):=
 if decide (s5.2<9) then (Option.bind (((aQ p0a.2.2 p2s).bind fun x17=>(aQ x17 s5.2).bind fun x18=>if decide (x18<0) then ((cm 8 s5.1 ([-1])).bind fun z12=>some z12) else ((aQ p1classes x18).bind fun x19=>(cm 8 s5.1 ([x19])).bind fun z11=>some z11):Option (List Int))) (fun s7=>some (.nxt (s7,IntKind.i64.wrap (s5.2+1))))) else (some (.brk (s5.1,s5.2)))
def pZ (p0a:Int×(List Bool)×(List (List Int))) (p1classes:List Int) (p2s:Int):Option (List Int):=
 (aQ p1classes p2s).bind fun x1=>aN (ax (nA p0a p1classes p2s) aV ([x1],0)) (fun r=>some r) (fun s6=>some s6.1)
def fJ (p0:Int×(List Bool)×List (List Int)) (r0:List Bool) (s2:(List Int)×Int):Option (Out (List Int) ((List Int)×Int)):=
 if decide (s2.2<(p0.2.1.length:Int)) then ((aQ p0.2.1 s2.2).bind fun x3=>Option.bind ((if x3 then (some 1) else (some 0):Option Int)) (fun s4=>(aQ r0 s2.2).bind fun x5=>Option.bind ((if x5 then (some s4) else (some (-1)):Option Int)) (fun s6=>(cm 8 s2.1 ([s6])).bind fun z7=>some (.nxt (z7,IntKind.i64.wrap (s2.2+1)))))) else (some (.brk (s2.1,s2.2)))
def fK (s13:(List (List Int))×(List Int)×Int) (r16:List Int) (s18:Int×Int):Option (Out (List Int) (Int×Int)):=
 if decide (s18.2<(s13.1.length:Int)) then (Option.bind (((aQ s13.1 s18.2).bind fun x19=>(om x19 r16).bind fun r20=>if r20==0 then (some s18.2) else (some s18.1):Option Int)) (fun s21=>some (.nxt (s21,IntKind.i64.wrap (s18.2+1))))) else (some (.brk (s18.1,s18.2)))
def fL (p0:Int×(List Bool)×List (List Int)) (s11:(List Int)×Int) (s13:(List (List Int))×(List Int)×Int):Option (Out (List Int) ((List (List Int))×(List Int)×Int)):=
 if decide (s13.2.2<(p0.2.1.length:Int)) then (Option.bind (((aQ s11.1 s13.2.2).bind fun x14=>if decide (x14<0) then ((cm 8 s13.2.1 ([(-1)])).bind fun z15=>some (s13.1,z15)) else ((pZ (p0.1,p0.2.1,p0.2.2) s11.1 s13.2.2).bind fun r16=>aN (ax (fK s13 r16) aV ((-1),0)) (fun r22=>none) (fun s23=>Option.bind ((if decide (s23.1<0) then ((cm 24 s13.1 ([r16])).bind fun z24=>some (z24,(s13.1.length:Int))) else (some (s13.1,s23.1)):Option ((List (List Int))×Int))) (fun s25=>(cm 8 s13.2.1 ([s25.2])).bind fun z26=>some (s25.1,z26)))):Option ((List (List Int))×List Int))) (fun s27=>some (.nxt (s27.1,s27.2,IntKind.i64.wrap (s13.2.2+1))))) else (some (.brk (s13.1,s13.2.1,s13.2.2)))
def lN (p0:Int×(List Bool)×List (List Int)) (s11:(List Int)×Int):Option (Out (List Int) ((List Int)×Int)):=
 if decide (s11.2<=(p0.2.1.length:Int)) then (aN (ax (fL p0 s11) aV (([] :List (List Int)),([] :List Int),0)) (fun r28=>some (.ret r28)) (fun s29=>(om s29.2.1 s11.1).bind fun r30=>if r30==0 then (some (.ret s11.1)) else (some (.nxt (s29.2.1,IntKind.i64.wrap (s11.2+1)))))) else (some (.brk (s11.1,s11.2)))
def ju (p0:Int×(List Bool)×List (List Int)):Option (List Int):=
 (lM (p0.1,p0.2.1,p0.2.2)).bind fun r0=>aN (ax (fJ p0 r0) aV (([] :List Int),0)) (fun r8=>some r8) (fun s9=>aN (ax (lN p0) aV (s9.1,0)) (fun r31=>some r31) (fun s32=>some s32.1))
def im (p0a:Int×(List Bool)×(List (List Int))):Option Yq2:=
 (ju (p0a.1,p0a.2.1,p0a.2.2)).bind fun r1=>(lM (p0a.1,p0a.2.1,p0a.2.2)).bind fun r2=>(iQ (p0a.1,p0a.2.1,p0a.2.2) r1 r2).bind fun r3=>some (r3.1,r3.2.1,r3.2.2)
def ir (p0e:(List Yq1)):Option (Yq2×Bool):=
 (gR p0e).bind fun r1=>if r1.2 then ((jq (r1.1.1,r1.1.2.1,r1.1.2.2.1,r1.1.2.2.2.1,r1.1.2.2.2.2) 200).bind fun r2=>if r2.2 then ((im (r2.1.1,r2.1.2.1,r2.1.2.2)).bind fun r3=>if decide ((r3.2.1.length:Int)>12) then (some ((0,[],[]),false)) else (some ((r3.1,r3.2.1,r3.2.2),true))) else (some ((0,[],[]),false))) else (some ((0,[],[]),false))
def fx (p0:Int×(List Bool)×(List (List Int))) (p1:Int×(List Bool)×(List (List Int))) (s3:Int):Option (Out Bool Int):=
 if decide (s3<(p0.2.1.length:Int)) then ((aQ p0.2.1 s3).bind fun x5=>(aQ p1.2.1 s3).bind fun x6=>if x5 !=x6 then (some (.ret false)) else (some (.nxt (IntKind.i64.wrap (s3+1))))) else (some (.brk s3))
def fy (p0:Int×(List Bool)×(List (List Int))) (p1:Int×(List Bool)×(List (List Int))) (s7:Int):Option (Out Bool Int):=
 if decide (s7<(p0.2.2.length:Int)) then ((aQ p0.2.2 s7).bind fun x11=>(aQ p1.2.2 s7).bind fun x12=>(om x11 x12).bind fun r9=>if r9 !=0 then (some (.ret false)) else (some (.nxt (IntKind.i64.wrap (s7+1))))) else (some (.brk s7))
def fM (p0:Int×(List Bool)×(List (List Int))) (p1:Int×(List Bool)×(List (List Int))):Option Bool:=
 if p0.1 !=p1.1 then (some false) else (if (p0.2.1.length:Int) !=(p1.2.1.length:Int) then (some false) else (if (p0.2.2.length:Int) !=(p1.2.2.length:Int) then (some false) else (aN (ax (fx p0 p1) aV 0) (fun r=>some r) (fun s4=>aN (ax (fy p0 p1) aV 0) (fun r=>some r) (fun s8=>some true)))))
def iu (p0l:List Yq2) (p1a:Int×(List Bool)×(List (List Int))) (s3:Int):Option (Out Int Int):=
 if decide (s3<(p0l.length:Int)) then ((aQ p0l s3).bind fun x3=>(fM (x3.1,x3.2.1,x3.2.2) (p1a.1,p1a.2.1,p1a.2.2)).bind fun r9=>if r9 then (some (.ret s3)) else (some (.nxt (IntKind.i64.wrap (s3+1))))) else (some (.brk s3))
def mM (p0l:List Yq2) (p1a:Int×(List Bool)×(List (List Int))):Option Int:=
 aN (ax (iu p0l p1a) aV 0) (fun r=>some r) (fun s4=>some (-1))
def dq (p0:List Yq3) (s7:Int×(List Yq2)×(List Yq3)):Option (Out (Yq6×Bool) Rj):=
 if decide (s7.1<(p0.length:Int)) then ((aQ p0 s7.1).bind fun x17=>(ir x17.2.1).bind fun r20=>if r20.2 then ((aQ p0 s7.1).bind fun x18=>(cR x18.1 1 99).bind fun r21=>if r21 then (if decide (s7.1>0) then ((aQ p0 (IntKind.i64.wrap (s7.1 - 1))).bind fun x21=>(aQ p0 s7.1).bind fun x22=>if decide (x21.1≥x22.1) then (some (.ret (([],[]),false))) else ((mM s7.2.1 (r20.1.1,r20.1.2.1,r20.1.2.2)).bind fun r25=>Option.bind ((if decide (r25<0) then ((cm 56 s7.2.1 ([(r20.1.1,r20.1.2.1,r20.1.2.2)])).bind fun z17=>some ((s7.2.1.length:Int),z17,s7.2.2)) else (some (r25,s7.2.1,s7.2.2)):Option Rj)) (fun s10=>(aQ p0 s7.1).bind fun x23=>(aQ p0 s7.1).bind fun x24=>(gN x24.2.1).bind fun r27=>(cm 40 s10.2.2 ([(x23.1,r27,s10.1)])).bind fun z18=>some (.nxt (IntKind.i64.wrap (s7.1+1),s10.2.1,z18))))) else ((mM s7.2.1 (r20.1.1,r20.1.2.1,r20.1.2.2)).bind fun r22=>Option.bind ((if decide (r22<0) then ((cm 56 s7.2.1 ([(r20.1.1,r20.1.2.1,r20.1.2.2)])).bind fun z14=>some ((s7.2.1.length:Int),z14,s7.2.2)) else (some (r22,s7.2.1,s7.2.2)):Option Rj)) (fun s9=>(aQ p0 s7.1).bind fun x19=>(aQ p0 s7.1).bind fun x20=>(gN x20.2.1).bind fun r24=>(cm 40 s9.2.2 ([(x19.1,r24,s9.1)])).bind fun z15=>some (.nxt (IntKind.i64.wrap (s7.1+1),s9.2.1,z15))))) else (some (.ret (([],[]),false)))) else (some (.ret (([],[]),false)))) else (some (.brk (s7.1,s7.2.1,s7.2.2)))
def pe (p0:List Yq3):Option (Yq6×Bool):=
 if decide ((p0.length:Int)>4) then (some (([],[]),false)) else (aN (ax (dq p0) aV (0,[],[])) (fun r=>some r) (fun s8=>some ((s8.2.1,s8.2.2),true)))
def iR (p0a:(List Yq1)) (p1b:(List Yq1)) (s3:Int):Option (Out Bool Int):=
 if decide (s3<(p0a.length:Int)) then ((aQ p0a s3).bind fun x5=>(aQ p1b s3).bind fun x6=>if (x5.1==x6.1)&&((x5.2.1==x6.2.1)&&((x5.2.2.1==x6.2.2.1)&&((x5.2.2.2==x6.2.2.2)&&true))) then (some (.nxt (IntKind.i64.wrap (s3+1)))) else (some (.ret false))) else (some (.brk s3))
def mb (p0a:(List Yq1)) (p1b:(List Yq1)):Option Bool:=
 if (p0a.length:Int) !=(p1b.length:Int) then (some false) else (aN (ax (iR p0a p1b) aV 0) (fun r=>some r) (fun s4=>some true))
def eA (p0:(List Yq2)×(List Yq3)) (p1:(List Yq2)×(List Yq3)) (s3:Int):Option (Out Bool Int):=
 if decide (s3<(p0.1.length:Int)) then ((aQ p0.1 s3).bind fun x5=>(aQ p1.1 s3).bind fun x6=>(fM (x5.1,x5.2.1,x5.2.2) (x6.1,x6.2.1,x6.2.2)).bind fun r15=>if r15 then (some (.nxt (IntKind.i64.wrap (s3+1)))) else (some (.ret false))) else (some (.brk s3))
def eB (p0:(List Yq2)×(List Yq3)) (p1:(List Yq2)×(List Yq3)) (s7:Int):Option (Out Bool Int):=
 if decide (s7<(p0.2.length:Int)) then ((aQ p0.2 s7).bind fun x19=>(aQ p1.2 s7).bind fun x20=>if x19.1 !=x20.1 then (some (.ret false)) else ((aQ p0.2 s7).bind fun x21=>(aQ p1.2 s7).bind fun x22=>(mb x21.2.1 x22.2.1).bind fun r24=>if r24 then ((aQ p0.2 s7).bind fun x23=>(aQ p1.2 s7).bind fun x24=>if x23.2.2 !=x24.2.2 then (some (.ret false)) else (some (.nxt (IntKind.i64.wrap (s7+1))))) else (some (.ret false)))) else (some (.brk s7))
def gg (p0:(List Yq2)×(List Yq3)) (p1:(List Yq2)×(List Yq3)):Option Bool:=
 if (p0.1.length:Int) !=(p1.1.length:Int) then (some false) else (if (p0.2.length:Int) !=(p1.2.length:Int) then (some false) else (aN (ax (eA p0 p1) aV 0) (fun r=>some r) (fun s4=>aN (ax (eB p0 p1) aV 0) (fun r=>some r) (fun s8=>some true))))
def gh (p0r:(List Yq2)×(List Yq3)):Option Bool:=
 (pe p0r.2).bind fun r1=>if r1.2 then ((gg (r1.1.1,r1.1.2) (p0r.1,p0r.2)).bind fun r2=>some r2) else (some false)
def bJ (p0h:Int×(List Yq4)):Option Int:=
 (m_s_IsValidHistory (p0h.1,p0h.2)).bind fun r1=>if r1 then (some (IntKind.i64.wrap ((IntKind.i64.wrap (p0h.1+(p0h.2.length:Int))) - 1))) else (some 0)
def eM (p0r:(List Yq2)×(List Yq3)) (p1id:Int) (s3:Int):Option (Out Int Int):=
 if decide (s3<(p0r.2.length:Int)) then ((aQ p0r.2 s3).bind fun x3=>if x3.1==p1id then (some (.ret s3)) else (some (.nxt (IntKind.i64.wrap (s3+1))))) else (some (.brk s3))
def kO (p0r:(List Yq2)×(List Yq3)) (p1id:Int):Option Int:=
 aN (ax (eM p0r p1id) aV 0) (fun r=>some r) (fun s4=>some (-1))
def cQ (p0e:Yq8×Yq6×Yq7×ByteArray) (s3:Int):Option (Out Bool Int):=
 if decide (s3<(p0e.2.2.1.length:Int)) then ((aQ p0e.2.2.1 s3).bind fun x5=>(cR x5.1 1 99).bind fun r15=>if r15 then (if decide (s3>0) then ((aQ p0e.2.2.1 (IntKind.i64.wrap (s3 - 1))).bind fun x6=>if decide (x6.1≥x5.1) then (some (.ret false)) else ((kO (p0e.2.1.1,p0e.2.1.2) x5.2.1).bind fun r19=>if decide (r19<0) then (some (.ret false)) else ((bJ (p0e.1.1,p0e.1.2)).bind fun r20=>(cR x5.2.2 0 r20).bind fun r21=>if r21 then (some (.nxt (IntKind.i64.wrap (s3+1)))) else (some (.ret false))))) else ((kO (p0e.2.1.1,p0e.2.1.2) x5.2.1).bind fun r16=>if decide (r16<0) then (some (.ret false)) else ((bJ (p0e.1.1,p0e.1.2)).bind fun r17=>(cR x5.2.2 0 r17).bind fun r18=>if r18 then (some (.nxt (IntKind.i64.wrap (s3+1)))) else (some (.ret false))))) else (some (.ret false))) else (some (.brk s3))
def vA (p0e:Yq8×Yq6×Yq7×ByteArray):Option Bool:=
 aN (ax (cQ p0e) aV 0) (fun r=>some r) (fun s4=>some (decide ((p0e.2.2.1.length:Int)<=4)))
def dC (s1:Int×ByteArray):Option (Out ByteArray (Int×ByteArray)):=
 if s1.1 !=0 then (Option.bind ((if decide ((Int.tmod s1.1 10)<0) then (some (IntKind.i64.wrap (-(Int.tmod s1.1 10)))) else (some (Int.tmod s1.1 10)):Option Int)) (fun s2=>(lZ (yU ([IntKind.u8.wrap (IntKind.i64.wrap (48+s2))])) s1.2).bind fun z3=>some (.nxt (Rn s1.1 10,z3)))) else (some (.brk (s1.1,s1.2)))
def b7 (p0n:Int):Option ByteArray:=
 if p0n==0 then (some (⟨#[48]⟩)) else (aN (ax (dC) aV (p0n,(⟨#[]⟩:ByteArray))) (fun r4=>some r4) (fun s5=>if decide (p0n<0) then ((lZ (⟨#[45]⟩) s5.2).bind fun z6=>some z6) else (some s5.2)))
def eN (p0n:Int):Option ByteArray:=
 (mL p0n).bind fun r1=>if r1 then ((aQ ([(⟨#[97]⟩:ByteArray),(⟨#[97,45]⟩:ByteArray),(⟨#[98]⟩:ByteArray),(⟨#[98,45]⟩:ByteArray),(⟨#[99]⟩:ByteArray),(⟨#[99,45]⟩:ByteArray),(⟨#[48]⟩:ByteArray),(⟨#[49]⟩:ByteArray),(⟨#[50]⟩:ByteArray)]) p0n).bind fun x1=>some x1) else (some (⟨#[]⟩:ByteArray))
def jv (p0e:Int×Int×Int×Int):Option ByteArray:=
 (cR p0e.1 1 99).bind fun r0=>if r0 then ((cR p0e.2.1 0 4).bind fun r1=>if r1 then ((cR p0e.2.2.1 0 4).bind fun r2=>if r2 then ((cR p0e.2.2.2 0 2).bind fun r3=>if r3 then ((b7 p0e.1).bind fun r12=>(lZ r12 (⟨#[58]⟩)).bind fun z13=>(b7 p0e.2.1).bind fun r14=>(lZ z13 r14).bind fun z15=>(eN (IntKind.i64.wrap (2*p0e.2.2.2))).bind fun r16=>(lZ z15 r16).bind fun z17=>(b7 p0e.2.2.1).bind fun r18=>(lZ z17 r18).bind fun z19=>some z19) else (some ((⟨#[]⟩:ByteArray)))) else (some ((⟨#[]⟩:ByteArray)))) else (some ((⟨#[]⟩:ByteArray)))) else (some ((⟨#[]⟩:ByteArray)))
def eT (p0b:List Yq5) (s1:ByteArray×Int):Option (Out ByteArray (ByteArray×Int)):=
 if decide (s1.2<(p0b.length:Int)) then (vl (S:=ByteArray) ((aQ p0b s1.2).bind fun x2=>(jv (x2.2.1,x2.2.2.1,x2.2.2.2.1,x2.2.2.2.2)).bind fun r3=>if r3==((⟨#[]⟩:ByteArray)) then (some (.inl (.ret ((⟨#[]⟩:ByteArray))))) else (Option.bind ((if decide (s1.2>0) then ((lZ s1.1 (⟨#[32]⟩)).bind fun z4=>some z4) else (some s1.1):Option ByteArray)) (fun s5=>(aQ p0b s1.2).bind fun x6=>if x6.1 then ((lZ s5 (⟨#[43]⟩)).bind fun z7=>(lZ z7 r3).bind fun z8=>some (.inr z8)) else ((lZ s5 (⟨#[45]⟩)).bind fun z9=>(lZ z9 r3).bind fun z10=>some (.inr z10))))) (fun s11=>some (.nxt (s11,IntKind.i64.wrap (s1.2+1))))) else (some (.brk (s1.1,s1.2)))
def cT (p0b:List Yq5):Option ByteArray:=
 if decide ((p0b.length:Int)>6) then (some ((⟨#[]⟩:ByteArray))) else (aN (ax (eT p0b) aV ((⟨#[]⟩:ByteArray),0)) (fun r12=>some r12) (fun s13=>some s13.1))
def fN (p0s:ByteArray) (s1:Int×Int):Option Ap:=
 if decide (s1.2<((p0s.size:Nat):Int)) then ((j7 p0s s1.2).bind fun z2=>some (.nxt (Int.tmod (IntKind.i64.wrap ((IntKind.i64.wrap ((IntKind.i64.wrap (s1.1*257))+(IntKind.i64.wrap z2)))+1)) 9973,IntKind.i64.wrap (s1.2+1)))) else (some (.brk (s1.1,s1.2)))
def fU (p0s:ByteArray):Option Int:=
 aN (ax (fN p0s) aV (1,0)) (fun r3=>some r3) (fun s4=>some s4.1)
def dD (p0version:Int) (p1b:List Yq5):Option ByteArray:=
 (cR p0version 1 999).bind fun r0=>if r0 then (if decide ((p1b.length:Int)>0) then ((cT p1b).bind fun r1=>if r1==((⟨#[]⟩:ByteArray)) then (some ((⟨#[]⟩:ByteArray))) else ((b7 p0version).bind fun r7=>(lZ r7 (⟨#[59]⟩)).bind fun z8=>(cT p1b).bind fun r9=>(lZ z8 r9).bind fun z10=>(lZ z10 (⟨#[59]⟩)).bind fun z11=>(fU z11).bind fun r12=>(b7 r12).bind fun r13=>(lZ z11 r13).bind fun z14=>(lZ z14 (⟨#[10]⟩)).bind fun z15=>some z15)) else ((b7 p0version).bind fun r21=>(lZ r21 (⟨#[59]⟩)).bind fun z22=>(cT p1b).bind fun r23=>(lZ z22 r23).bind fun z24=>(lZ z24 (⟨#[59]⟩)).bind fun z25=>(fU z25).bind fun r26=>(b7 r26).bind fun r27=>(lZ z25 r27).bind fun z28=>(lZ z28 (⟨#[10]⟩)).bind fun z29=>some z29)) else (some ((⟨#[]⟩:ByteArray)))
def pf (p0s:ByteArray) (p1sep:Int) (s1:(List ByteArray)×Int×Int):Option (Out (List ByteArray) ((List ByteArray)×Int×Int)):=
 if decide (s1.2.2<((p0s.size:Nat):Int)) then (Option.bind (((j7 p0s s1.2.2).bind fun z2=>if z2==p1sep then ((rY p0s s1.2.1 s1.2.2).bind fun z3=>(cm 16 s1.1 ([z3])).bind fun z4=>some (z4,IntKind.i64.wrap (s1.2.2+1))) else (some (s1.1,s1.2.1)):Option ((List ByteArray)×Int))) (fun s5=>some (.nxt (s5.1,s5.2,IntKind.i64.wrap (s1.2.2+1))))) else (some (.brk (s1.1,s1.2.1,s1.2.2)))
def iw (p0s:ByteArray) (p1sep:Int):Option (List ByteArray):=
 aN (ax (pf p0s p1sep) aV (([] :List ByteArray),0,0)) (fun r6=>some r6) (fun s7=>(rY p0s s7.2.1 ((p0s.size:Nat):Int)).bind fun z8=>(cm 16 s7.1 ([z8])).bind fun z9=>some z9)
def ix (p0s:ByteArray) (s1:Int×Int×Int):Option (Out (Int×Bool) Gv):=
 if decide (s1.2.2<((p0s.size:Nat):Int)) then (if decide (s1.2.2<11) then (Option.bind (((j7 p0s s1.2.2).bind fun z2=>if decide (z2≥48) then ((j7 p0s s1.2.2).bind fun z3=>if decide (z3<=57) then ((j7 p0s s1.2.2).bind fun z4=>some (IntKind.i64.wrap ((IntKind.i64.wrap (s1.1*10))+(IntKind.i64.wrap (IntKind.u8.wrap (z4 - 48)))),IntKind.i64.wrap (s1.2.1+1))) else (some (s1.1,s1.2.1))) else (some (s1.1,s1.2.1)):Option (Int×Int))) (fun s5=>some (.nxt (s5.1,s5.2,IntKind.i64.wrap (s1.2.2+1))))) else (some (.brk (s1.1,s1.2.1,s1.2.2)))) else (some (.brk (s1.1,s1.2.1,s1.2.2)))
def fV (p0s:ByteArray):Option (Int×Bool):=
 aN (ax (ix p0s) aV (0,0,0)) (fun r6=>some r6) (fun s7=>if decide (((p0s.size:Nat):Int)>0) then ((j7 p0s 0).bind fun z8=>Option.bind ((if z8==45 then (some (IntKind.i64.wrap (-s7.1))) else (some s7.1):Option Int)) (fun s9=>if decide (s7.2.1>9) then (some (0,false)) else (if decide (((p0s.size:Nat):Int)>10) then (some (0,false)) else ((b7 s9).bind fun r10=>if r10 !=p0s then (some (0,false)) else (some (s9,true)))))) else (if decide (s7.2.1>9) then (some (0,false)) else (if decide (((p0s.size:Nat):Int)>10) then (some (0,false)) else ((b7 s7.1).bind fun r11=>if r11 !=p0s then (some (0,false)) else (some (s7.1,true))))))
def kP (p0s:ByteArray) (s3:Int):Option (Out (Int×Bool) Int):=
 if decide (s3<9) then ((eN s3).bind fun r3=>if r3==p0s then (some (.ret (s3,true))) else (some (.nxt (IntKind.i64.wrap (s3+1))))) else (some (.brk s3))
def fO (p0s:ByteArray):Option (Int×Bool):=
 aN (ax (kP p0s) aV 0) (fun r=>some r) (fun s4=>some (0,false))
def gi (p0s:ByteArray):Option (Yq1×Bool):=
 (iw p0s 58).bind fun r0=>if (r0.length:Int) !=2 then (some ((0,0,0,0),false)) else ((aQ r0 1).bind fun x1=>if ((x1.size:Nat):Int) !=3 then (some ((0,0,0,0),false)) else ((aQ r0 0).bind fun x2=>(fV x2).bind fun r3=>(aQ r0 1).bind fun x4=>(rY x4 1 2).bind fun z5=>(fO z5).bind fun r6=>(aQ r0 1).bind fun x11=>(j7 x11 0).bind fun z12=>(aQ r0 1).bind fun x13=>(j7 x13 2).bind fun z14=>(jv (r3.1,IntKind.i64.wrap ((IntKind.i64.wrap z12) - 48),IntKind.i64.wrap ((IntKind.i64.wrap z14) - 48),Rn r6.1 2)).bind fun r15=>if r15 !=p0s then (some ((0,0,0,0),false)) else (some ((r3.1,IntKind.i64.wrap ((IntKind.i64.wrap z12) - 48),IntKind.i64.wrap ((IntKind.i64.wrap z14) - 48),Rn r6.1 2),true))))
def cF (r0:List ByteArray) (s3:Int×List Yq5):Option (Out ((List Yq5)×Bool) (Int×List Yq5)):=
 if decide (s3.1<(r0.length:Int)) then (if decide (s3.1<=6) then ((aQ r0 s3.1).bind fun x4=>if decide (((x4.size:Nat):Int)<2) then (some (.ret (([] :List Yq5),false))) else ((aQ r0 s3.1).bind fun x5=>(rY x5 1 ((x5.size:Nat):Int)).bind fun z6=>(gi z6).bind fun r7=>if r7.2 then ((aQ r0 s3.1).bind fun x11=>(j7 x11 0).bind fun z12=>(cm 40 s3.2 ([(z12==43,r7.1.1,r7.1.2.1,r7.1.2.2.1,r7.1.2.2.2)])).bind fun z13=>some (.nxt (IntKind.i64.wrap (s3.1+1),z13))) else (some (.ret (([] :List Yq5),false))))) else (some (.brk (s3.1,s3.2)))) else (some (.brk (s3.1,s3.2)))
def dP (p0s:ByteArray):Option ((List Yq5)×Bool):=
 if p0s==((⟨#[]⟩:ByteArray)) then (some (([] :List Yq5),true)) else ((iw p0s 32).bind fun r0=>aN (ax (cF r0) aV (0,([] :List Yq5))) (fun r14=>some r14) (fun s15=>(cT s15.2).bind fun r16=>if r16 !=p0s then (some (([] :List Yq5),false)) else (some (s15.2,true))))
def jD (p0s:ByteArray):Option (Int×(Yq9)×Bool):=
 (iw p0s 59).bind fun r1=>if (r1.length:Int) !=3 then (some (0,[],false)) else ((aQ r1 0).bind fun x1=>(fV x1).bind fun r2=>(aQ r1 1).bind fun x2=>(dP x2).bind fun r3=>if r2.2 then (if r3.2 then ((dD r2.1 r3.1).bind fun r4=>if r4 !=p0s then (some (0,[],false)) else (some (r2.1,r3.1,true))) else (some (0,[],false))) else (some (0,[],false)))
def bw (p0:ByteArray) (s1:(List Int)×(List (List Yq5))×Int×Int):Option (Out ((List Int)×(List (List Yq5))×Int) ((List Int)×(List (List Yq5))×Int×Int)):=
 if decide (s1.2.2.2<((p0.size:Nat):Int)) then (if decide (((p0.size:Nat):Int)<=4000) then (vl (S:=(List Int)×(List (List Yq5))×Int) ((j7 p0 s1.2.2.2).bind fun z2=>if z2 !=10 then (some (.inr (s1.1,s1.2.1,s1.2.2.1))) else ((rY p0 s1.2.2.1 (IntKind.i64.wrap (s1.2.2.2+1))).bind fun z3=>(jD z3).bind fun r4=>if r4.2.2 then (if decide ((s1.1.length:Int)>0) then ((aQ s1.1 (IntKind.i64.wrap ((s1.1.length:Int) - 1))).bind fun x5=>if r4.1 !=(IntKind.i64.wrap (x5+1)) then (some (.inl (.ret (s1.1,s1.2.1,s1.2.2.1)))) else ((cm 8 s1.1 ([r4.1])).bind fun z6=>(cm 24 s1.2.1 ([r4.2.1])).bind fun z7=>some (.inr (z6,z7,IntKind.i64.wrap (s1.2.2.2+1))))) else ((cm 8 s1.1 ([r4.1])).bind fun z8=>(cm 24 s1.2.1 ([r4.2.1])).bind fun z9=>some (.inr (z8,z9,IntKind.i64.wrap (s1.2.2.2+1))))) else (some (.inl (.ret (s1.1,s1.2.1,s1.2.2.1)))))) (fun s10=>some (.nxt (s10.1,s10.2.1,s10.2.2,IntKind.i64.wrap (s1.2.2.2+1))))) else (some (.brk (s1.1,s1.2.1,s1.2.2.1,s1.2.2.2)))) else (some (.brk (s1.1,s1.2.1,s1.2.2.1,s1.2.2.2)))
def m_s_ScanLog (p0:ByteArray):Option ((List Int)×(List (List Yq5))×Int):=
 aN (ax (bw p0) aV (([] :List Int),([] :List (List Yq5)),0,0)) (fun r11=>some r11) (fun s12=>some (s12.1,s12.2.1,s12.2.2.1))
def ya (p0e:Yq8×Yq6×Yq7×ByteArray):Option Bool:=
 (m_s_ScanLog p0e.2.2.2).bind fun r1=>if r1.2.2==(p0e.2.2.2.size:Int) then (if decide ((p0e.2.2.2.size:Int)<=4000) then (if (r1.1.length:Int)==0 then (some true) else ((aQ r1.1 (IntKind.i64.wrap ((r1.1.length:Int) - 1))).bind fun x1=>(bJ (p0e.1.1,p0e.1.2)).bind fun r2=>some (x1==r2))) else (some false)) else (some false)
def iS (p0e:Yq8×Yq6×Yq7×ByteArray):Option Bool:=
 (m_s_IsValidHistory (p0e.1.1,p0e.1.2)).bind fun r1=>if r1 then ((gh (p0e.2.1.1,p0e.2.1.2)).bind fun r2=>if r2 then ((vA ((p0e.1.1,p0e.1.2),(p0e.2.1.1,p0e.2.1.2),p0e.2.2.1,p0e.2.2.2)).bind fun r3=>if r3 then ((ya ((p0e.1.1,p0e.1.2),(p0e.2.1.1,p0e.2.1.2),p0e.2.2.1,p0e.2.2.2)).bind fun r4=>some r4) else (some false)) else (some false)) else (some false)
def nB (p0a:List Int) (s3:(List Int)×Int):Option (Out (List Int) ((List Int)×Int)):=
 if decide (s3.2<(p0a.length:Int)) then ((aQ p0a s3.2).bind fun x6=>(aQ s3.1 s3.2).bind fun x7=>some (.nxt (s3.1.set s3.2.toNat x6,IntKind.i64.wrap (s3.2+1)))) else (some (.brk (s3.1,s3.2)))
def p7 (p0a:List Int):Option (List Int):=
 (mkI 8 (p0a.length:Int) (0:Int)).bind fun x1=>aN (ax (nB p0a) aV (x1,0)) (fun r=>some r) (fun s4=>some s4.1)
def p8 (p0a:Int×Int×Int×Int):Option Yq1:=
 some (p0a.1,p0a.2.1,p0a.2.2.1,p0a.2.2.2)
def mc (p0a:List Yq1) (s3:(List Yq1)×Int):Option (Out (List Yq1) ((List Yq1)×Int)):=
 if decide (s3.2<(p0a.length:Int)) then ((aQ p0a s3.2).bind fun x6=>(p8 (x6.1,x6.2.1,x6.2.2.1,x6.2.2.2)).bind fun r3=>(aQ s3.1 s3.2).bind fun x7=>some (.nxt (s3.1.set s3.2.toNat (r3.1,r3.2.1,r3.2.2.1,r3.2.2.2),IntKind.i64.wrap (s3.2+1)))) else (some (.brk (s3.1,s3.2)))
def qR (p0a:List Yq1):Option (List Yq1):=
 (mkI 32 (p0a.length:Int) ((0,0,0,0):Int×Int×Int×Int)).bind fun x1=>aN (ax (mc p0a) aV (x1,0)) (fun r=>some r) (fun s4=>some s4.1)
def qS (p0a:(List Int)×(List Yq1)):Option Yq4:=
 (p7 p0a.1).bind fun r1=>(qR p0a.2).bind fun r2=>some (r1,r2)
def kQ (p0a:List Yq4) (s3:(List Yq4)×Int):Option (Out (List Yq4) ((List Yq4)×Int)):=
 if decide (s3.2<(p0a.length:Int)) then ((aQ p0a s3.2).bind fun x6=>(qS (x6.1,x6.2)).bind fun r9=>(aQ s3.1 s3.2).bind fun x7=>some (.nxt (s3.1.set s3.2.toNat (r9.1,r9.2),IntKind.i64.wrap (s3.2+1)))) else (some (.brk (s3.1,s3.2)))
def pg (p0a:List Yq4):Option (List Yq4):=
 (mkI 48 (p0a.length:Int) (([],[]):(List Int)×(List Yq1))).bind fun x1=>aN (ax (kQ p0a) aV (x1,0)) (fun r=>some r) (fun s4=>some s4.1)
def nC (p0a:Int×(List Yq4)):Option Yq8:=
 (pg p0a.2).bind fun r1=>some (p0a.1,r1)
def me (p0a:List Bool) (s3:(List Bool)×Int):Option (Out (List Bool) ((List Bool)×Int)):=
 if decide (s3.2<(p0a.length:Int)) then ((aQ p0a s3.2).bind fun x6=>(aQ s3.1 s3.2).bind fun x7=>some (.nxt (s3.1.set s3.2.toNat x6,IntKind.i64.wrap (s3.2+1)))) else (some (.brk (s3.1,s3.2)))
def qT (p0a:List Bool):Option (List Bool):=
 (mkI 1 (p0a.length:Int) (false:Bool)).bind fun x1=>aN (ax (me p0a) aV (x1,0)) (fun r=>some r) (fun s4=>some s4.1)
def mf (p0a:List (List Int)) (s3:(List (List Int))×Int):Option (Out (List (List Int)) ((List (List Int))×Int)):=
 if decide (s3.2<(p0a.length:Int)) then ((aQ p0a s3.2).bind fun x6=>(p7 x6).bind fun r6=>(aQ s3.1 s3.2).bind fun x7=>some (.nxt (s3.1.set s3.2.toNat r6,IntKind.i64.wrap (s3.2+1)))) else (some (.brk (s3.1,s3.2)))
def qU (p0a:List (List Int)):Option (List (List Int)):=
 (mkI 24 (p0a.length:Int) ([] :List Int)).bind fun x1=>aN (ax (mf p0a) aV (x1,0)) (fun r=>some r) (fun s4=>some s4.1)
def kR (p0a:Int×(List Bool)×(List (List Int))):Option Yq2:=
 (qT p0a.2.1).bind fun r1=>(qU p0a.2.2).bind fun r2=>some (p0a.1,r1,r2)
def gj (p0a:List Yq2) (s3:(List Yq2)×Int):Option (Out (List Yq2) ((List Yq2)×Int)):=
 if decide (s3.2<(p0a.length:Int)) then ((aQ p0a s3.2).bind fun x6=>(kR (x6.1,x6.2.1,x6.2.2)).bind fun r9=>(aQ s3.1 s3.2).bind fun x7=>some (.nxt (s3.1.set s3.2.toNat (r9.1,r9.2.1,r9.2.2),IntKind.i64.wrap (s3.2+1)))) else (some (.brk (s3.1,s3.2)))
def jE (p0a:List Yq2):Option (List Yq2):=
 (mkI 56 (p0a.length:Int) ((0,[],[]):Int×(List Bool)×(List (List Int)))).bind fun x1=>aN (ax (gj p0a) aV (x1,0)) (fun r=>some r) (fun s4=>some s4.1)
def qV (p0a:Int×Int×Int×Int):Option Yq1:=
 some (p0a.1,p0a.2.1,p0a.2.2.1,p0a.2.2.2)
def kS (p0a:List Yq1) (s3:(List Yq1)×Int):Option (Out (List Yq1) ((List Yq1)×Int)):=
 if decide (s3.2<(p0a.length:Int)) then ((aQ p0a s3.2).bind fun x6=>(qV (x6.1,x6.2.1,x6.2.2.1,x6.2.2.2)).bind fun r3=>(aQ s3.1 s3.2).bind fun x7=>some (.nxt (s3.1.set s3.2.toNat (r3.1,r3.2.1,r3.2.2.1,r3.2.2.2),IntKind.i64.wrap (s3.2+1)))) else (some (.brk (s3.1,s3.2)))
def ph (p0a:List Yq1):Option (List Yq1):=
 (mkI 32 (p0a.length:Int) ((0,0,0,0):Int×Int×Int×Int)).bind fun x1=>aN (ax (kS p0a) aV (x1,0)) (fun r=>some r) (fun s4=>some s4.1)
def ub (p0a:(List Yq1)):Option (List Yq1):=
 (ph p0a).bind fun r1=>some r1
def jF (p0a:Int×((List Yq1))×Int):Option Yq3:=
 (ub p0a.2.1).bind fun r1=>some (p0a.1,r1,p0a.2.2)
def fA (p0a:List Yq3) (s3:(List Yq3)×Int):Option (Out (List Yq3) ((List Yq3)×Int)):=
 if decide (s3.2<(p0a.length:Int)) then ((aQ p0a s3.2).bind fun x6=>(jF (x6.1,x6.2.1,x6.2.2)).bind fun r6=>(aQ s3.1 s3.2).bind fun x7=>some (.nxt (s3.1.set s3.2.toNat (r6.1,r6.2.1,r6.2.2),IntKind.i64.wrap (s3.2+1)))) else (some (.brk (s3.1,s3.2)))
def iT (p0a:List Yq3):Option (List Yq3):=
 (mkI 40 (p0a.length:Int) ((0,[],0):Int×((List Yq1))×Int)).bind fun x1=>aN (ax (fA p0a) aV (x1,0)) (fun r=>some r) (fun s4=>some s4.1)
def mg (p0a:(List Yq2)×(List Yq3)):Option Yq6:=
 (jE p0a.1).bind fun r1=>(iT p0a.2).bind fun r2=>some (r1,r2)
def jG (p0a:Int×Int×Int):Option Gv:=
 some (p0a.1,p0a.2.1,p0a.2.2)
def fB (p0a:List Gv) (s3:Yq7×Int):Option (Out Yq7 (Yq7×Int)):=
 if decide (s3.2<(p0a.length:Int)) then ((aQ p0a s3.2).bind fun x6=>(jG (x6.1,x6.2.1,x6.2.2)).bind fun r3=>(aQ s3.1 s3.2).bind fun x7=>some (.nxt (s3.1.set s3.2.toNat (r3.1,r3.2.1,r3.2.2),IntKind.i64.wrap (s3.2+1)))) else (some (.brk (s3.1,s3.2)))
def iU (p0a:List Gv):Option Yq7:=
 (mkI 24 (p0a.length:Int) ((0,0,0):Int×Int×Int)).bind fun x1=>aN (ax (fB p0a) aV (x1,0)) (fun r=>some r) (fun s4=>some s4.1)
def iy (p0a:Yq8×Yq6×Yq7×ByteArray):Option (Yq8×Yq6×Yq7×ByteArray):=
 (nC (p0a.1.1,p0a.1.2)).bind fun r1=>(mg (p0a.2.1.1,p0a.2.1.2)).bind fun r2=>(iU p0a.2.2.1).bind fun r3=>some ((r1.1,r1.2),(r2.1,r2.2),r3,p0a.2.2.2)
def b8 (p0n:Int) (p1a:Int) (p2b:Int):Option Bool:=
 if decide (p0n≥p1a) then (some (decide (p0n<=p2b))) else (some false)
def fP (p0e:Int×Int×Int×Int) (p1nodes:Int):Option Bool:=
 (b8 p0e.1 1 99).bind fun r1=>if r1 then ((b8 p0e.2.1 0 (IntKind.i64.wrap (p1nodes - 1))).bind fun r2=>if r2 then ((b8 p0e.2.2.1 0 (IntKind.i64.wrap (p1nodes - 1))).bind fun r3=>if r3 then ((b8 p0e.2.2.2 0 2).bind fun r4=>some r4) else (some false)) else (some false)) else (some false)
def dV (p0g:(List Int)×(List Yq1)) (s3:Int):Option (Out Bool Int):=
 if decide (s3<(p0g.1.length:Int)) then ((aQ p0g.1 s3).bind fun x3=>(b8 x3 0 2).bind fun r3=>if r3 then (some (.nxt (IntKind.i64.wrap (s3+1)))) else (some (.ret false))) else (some (.brk s3))
def df (p0g:(List Int)×(List Yq1)) (s7:Int):Option (Out Bool Int):=
 if decide (s7<(p0g.2.length:Int)) then ((aQ p0g.2 s7).bind fun x8=>(fP (x8.1,x8.2.1,x8.2.2.1,x8.2.2.2) (p0g.1.length:Int)).bind fun r6=>if r6 then (if decide (s7>0) then ((aQ p0g.2 (IntKind.i64.wrap (s7 - 1))).bind fun x9=>if decide (x9.1≥x8.1) then (some (.ret false)) else (some (.nxt (IntKind.i64.wrap (s7+1))))) else (some (.nxt (IntKind.i64.wrap (s7+1))))) else (some (.ret false))) else (some (.brk s7))
def bK (p0g:(List Int)×(List Yq1)):Option Bool:=
 aN (ax (dV p0g) aV 0) (fun r=>some r) (fun s4=>aN (ax (df p0g) aV 0) (fun r=>some r) (fun s8=>(b8 (p0g.1.length:Int) 1 5).bind fun r7=>if r7 then (some (decide ((p0g.2.length:Int)<=12))) else (some false)))
def cB (p0s1:List Int) (p1s2:List Int) (s3:Int):Option (Out Bool Int):=
 if decide (s3<(p0s1.length:Int)) then ((aQ p0s1 s3).bind fun x5=>(aQ p1s2 s3).bind fun x6=>if x5 !=x6 then (some (.ret false)) else (some (.nxt (IntKind.i64.wrap (s3+1))))) else (some (.brk s3))
def cn (p0s1:List Int) (p1s2:List Int):Option Bool:=
 if (p0s1.length:Int) !=(p1s2.length:Int) then (some false) else (aN (ax (cB p0s1 p1s2) aV 0) (fun r=>some r) (fun s4=>some true))
def eU (p0h:Int×(List Yq4)) (s3:Int):Option (Out Bool Int):=
 if decide (s3<(p0h.2.length:Int)) then ((aQ p0h.2 s3).bind fun x5=>(bK (x5.1,x5.2)).bind fun r15=>if r15 then ((aQ p0h.2 0).bind fun x6=>(cn x5.1 x6.1).bind fun r17=>if r17 then (some (.nxt (IntKind.i64.wrap (s3+1)))) else (some (.ret false))) else (some (.ret false))) else (some (.brk s3))
def m_i_IsValidHistory (p0h:Int×(List Yq4)):Option Bool:=
 (b8 (p0h.2.length:Int) 1 8).bind fun r1=>if r1 then ((b8 p0h.1 1 (IntKind.i64.wrap ((IntKind.i64.wrap (999 - (p0h.2.length:Int)))+1))).bind fun r2=>if r2 then (aN (ax (eU p0h) aV 0) (fun r=>some r) (fun s4=>some true)) else (some false)) else (some false)
def ke (p0n:Int):Option Bool:=
 (b8 p0n 0 8).bind fun r1=>some r1
def qW (p0t:Int×Int×Int×Int):Option Bool:=
 if p0t.1==3 then ((ke p0t.2.1).bind fun r3=>if r3 then (if p0t.2.2.1==0 then (some (p0t.2.2.2==0)) else (some false)) else (some false)) else (if p0t.1==7 then (if p0t.2.1==0 then ((b8 p0t.2.2.1 0 p0t.2.2.2).bind fun r1=>if r1 then ((b8 p0t.2.2.2 1 3).bind fun r2=>some r2) else (some false)) else (some false)) else (Option.bind ((if p0t.1==1 then (some (p0t.1==1)) else (if p0t.1==2 then (some (p0t.1==2)) else (if p0t.1==4 then (some (p0t.1==4)) else (if p0t.1==5 then (some (p0t.1==5)) else (some (p0t.1==6))))):Option Bool)) (fun s1=>if s1 then (some ((p0t.1==p0t.1)&&((p0t.2.1==0)&&((p0t.2.2.1==0)&&((p0t.2.2.2==0)&&true))))) else (some false))))
def qX (p0e:List Yq1) (s1:(List (Tr Yq1))×Int):Option (Out (Tr Yq1) ((List (Tr Yq1))×Int)):=
 if decide (s1.2<(p0e.length:Int)) then ((aQ p0e s1.2).bind fun x2=>Option.bind ((Option.bind ((if x2.1==4 then (some (x2.1==4)) else (some (x2.1==5)):Option Bool)) (fun s3=>if s3 then (some 2) else (Option.bind ((if x2.1==6 then (some (x2.1==6)) else (some (x2.1==7)):Option Bool)) (fun s4=>if s4 then (some 1) else (some 0)))):Option Int)) (fun s5=>(qW (x2.1,x2.2.1,x2.2.2.1,x2.2.2.2)).bind fun r6=>if r6 then (if decide ((IntKind.i64.wrap ((s1.1.length:Int) - s5))<0) then (some (.ret Tr.nil)) else ((chk (And (0<=(IntKind.i64.wrap ((s1.1.length:Int) - s5))) ((IntKind.i64.wrap ((s1.1.length:Int) - s5))<=(s1.1.length:Int)))).bind fun _=>(cm 8 ([] :List (Tr Yq1)) (s1.1.drop ((IntKind.i64.wrap ((s1.1.length:Int) - s5)).toNat))).bind fun z10=>(chk (And (0<=(IntKind.i64.wrap ((s1.1.length:Int) - s5))) ((IntKind.i64.wrap ((s1.1.length:Int) - s5))<=(s1.1.length:Int)))).bind fun _=>(cm 8 (s1.1.take ((IntKind.i64.wrap ((s1.1.length:Int) - s5)).toNat)) ([Tr.node (x2.1,x2.2.1,x2.2.2.1,x2.2.2.2) z10])).bind fun z12=>some (.nxt (z12,IntKind.i64.wrap (s1.2+1))))) else (some (.ret Tr.nil)))) else (some (.brk (s1.1,s1.2)))
def nW (p0e:List Yq1):Option (Tr Yq1):=
 aN (ax (qX p0e) aV (([] :List (Tr Yq1)),0)) (fun r13=>some r13) (fun s14=>if (s14.1.length:Int) !=1 then (some Tr.nil) else ((aQ s14.1 0).bind fun x15=>some x15))
def uc (p0e:List Yq1):Option Bool:=
 (nW p0e).bind fun r0=>some (cond.match_1 (fun (u4:Bool)=>Bool) (Tr.isNil r0) (fun (u5:Unit)=>false) (fun (u6:Unit)=>true))
def kT (p0e:(List Yq1)):Option Bool:=
 if decide ((p0e.length:Int)<=24) then ((uc p0e).bind fun r1=>some r1) else (some false)
def bL (mrec:(Tr Yq1)->Option Int) (p0x:Tr Yq1) (z1:Yq1×List (Tr Yq1)) (s3:Int×Int):Option Ap:=
 if decide (s3.2<(z1.2.length:Int)) then (Option.bind (((aQ z1.2 s3.2).bind fun x4=>(Tr.get p0x).bind fun z5=>(Tr.get p0x).bind fun z6=>if z6.1.1==7 then ((mrec x4).bind fun r10=>(Tr.get p0x).bind fun z11=>(Tr.get p0x).bind fun z12=>some (IntKind.i64.wrap (s3.1+(IntKind.i64.wrap ((IntKind.i64.wrap (r10+3))*z12.1.2.2.2))))) else ((mrec x4).bind fun r13=>some (IntKind.i64.wrap (s3.1+r13))):Option Int)) (fun s14=>some (.nxt (s14,IntKind.i64.wrap (s3.2+1))))) else (some (.brk (s3.1,s3.2)))
def bS:Nat->(Tr Yq1)->Option Int
 | 0,_=>none
 | n+1,p0x =>
  (Tr.get p0x).bind fun z0=>(Tr.get p0x).bind fun z1=>aN (ax (bL (bS n) p0x z1) aV (1,0)) (fun r15=>some r15) (fun s16=>some (Min.min s16.1 100000))
def Fl (p0kind:Int):Option (Tr Yq1):=
 some (Tr.node (p0kind,0,0,0) ([] :List (Tr Yq1)))
def kg:Nat->(Tr Yq1)->Int->Int->Option (Tr Yq1)
 | 0,_,_,_=>none
 | n+1,p0x,p1low,p2high =>
  if p2high==0 then ((Fl 2).bind fun r0=>some r0) else (((kg n) p0x (Max.max 0 (IntKind.i64.wrap (p1low - 1))) (IntKind.i64.wrap (p2high - 1))).bind fun r1=>if decide (p1low>0) then (some (Tr.node (4,0,0,0) ([p0x,r1]))) else ((Fl 2).bind fun r2=>some (Tr.node (5,0,0,0) ([Tr.node (4,0,0,0) ([p0x,r1]),r2]))))
def bq (mrec:(Tr Yq1)->Option (Tr Yq1)) (z23:Yq1×List (Tr Yq1)) (s26:Int×Int×Int×Int×Int×List (Tr Yq1)):Option (Out (Tr Yq1) (Int×Int×Int×Int×Int×List (Tr Yq1))):=
 if decide (s26.1<(z23.2.length:Int)) then ((aQ z23.2 s26.1).bind fun x27=>(mrec x27).bind fun r30=>(cm 8 s26.2.2.2.2.2 ([r30])).bind fun z31=>some (.nxt (IntKind.i64.wrap (s26.1+1),s26.2.1,s26.2.2.1,s26.2.2.2.1,s26.2.2.2.2.1,z31))) else (some (.brk (s26.1,s26.2.1,s26.2.2.1,s26.2.2.2.1,s26.2.2.2.2.1,s26.2.2.2.2.2)))
def bD:Nat->(Tr Yq1)->Option (Tr Yq1)
 | 0,_=>none
 | n+1,p0x =>
  (Tr.get p0x).bind fun z0=>(Tr.get p0x).bind fun z1=>if z1.1.1==7 then ((Tr.get p0x).bind fun z11=>(Tr.get p0x).bind fun z12=>(aQ z12.2 0).bind fun x13=>((bD n) x13).bind fun r14=>(Tr.get p0x).bind fun z15=>(Tr.get p0x).bind fun z16=>(Tr.get p0x).bind fun z17=>(Tr.get p0x).bind fun z18=>(kg gB r14 z16.1.2.2.1 z18.1.2.2.2).bind fun r19=>some r19) else ((Tr.get p0x).bind fun z20=>(Tr.get p0x).bind fun z21=>(Tr.get p0x).bind fun z22=>(Tr.get p0x).bind fun z23=>aN (ax (bq (bD n) z23) aV (0,z21.1.1,z21.1.2.1,z21.1.2.2.1,z21.1.2.2.2,([] :List (Tr Yq1)))) (fun r32=>some r32) (fun s33=>some (Tr.node (s33.2.1,s33.2.2.1,s33.2.2.2.1,s33.2.2.2.2.1) s33.2.2.2.2.2)))
def be (mrec:(Tr Yq1)->(List Yq1)->Option (List Yq1)) (z1:Yq1×List (Tr Yq1)) (s4:Int×List Yq1):Option (Out (List Yq1) (Int×List Yq1)):=
 if decide (s4.1<(z1.2.length:Int)) then ((aQ z1.2 s4.1).bind fun x5=>(mrec x5 s4.2).bind fun r6=>some (.nxt (IntKind.i64.wrap (s4.1+1),r6))) else (some (.brk (s4.1,s4.2)))
def bB:Nat->(Tr Yq1)->(List Yq1)->Option (List Yq1)
 | 0,_,_=>none
 | n+1,p0x,p1out =>
  (Tr.get p0x).bind fun z0=>(Tr.get p0x).bind fun z1=>aN (ax (be (bB n) z1) aV (0,p1out)) (fun r7=>some r7) (fun s8=>(Tr.get p0x).bind fun z12=>(Tr.get p0x).bind fun z13=>(cm 32 s8.2 ([(z13.1.1,z13.1.2.1,z13.1.2.2.1,z13.1.2.2.2)])).bind fun z14=>some z14)
def qY (p0x:Tr Yq1):Option (List Yq1):=
 (bB gB p0x ([] :List Yq1)).bind fun r0=>some r0
def mi (p0e:List Yq1):Option ((List Yq1)×Bool):=
 (kT p0e).bind fun r0=>if r0 then ((nW p0e).bind fun r1=>(bS gB r1).bind fun r2=>if decide (r2>5000) then (some (([] :List Yq1),false)) else ((bD gB r1).bind fun r3=>(qY r3).bind fun r4=>if decide ((r4.length:Int)>400) then (some (([] :List Yq1),false)) else (some (r4,true)))) else (some (([] :List Yq1),false))
def cU (p0p:(List Int)×Int×Int×(List Int)×Bool) (p1last:Int) (p2first:Int) (s2:Int×List Int):Option (Out Ri (Int×List Int)):=
 if decide (s2.1<(p0p.2.2.2.1.length:Int)) then (Option.bind (((chk (0<=s2.1)).bind fun _=>if (Az (uC p1last s2.1) 1)==1 then ((aQ s2.2 s2.1).bind fun x4=>(aQ s2.2 s2.1).bind fun x5=>some (s2.2.set s2.1.toNat (orI x4 p2first))) else (some s2.2):Option (List Int))) (fun s6=>some (.nxt (IntKind.i64.wrap (s2.1+1),s6)))) else (some (.brk (s2.1,s2.2)))
def dG (p0p:(List Int)×Int×Int×(List Int)×Bool) (p1last:Int) (p2first:Int):Option Ri:=
 aN (ax (cU p0p p1last p2first) aV (0,p0p.2.2.2.1)) (fun r7=>some r7) (fun s8=>some (p0p.1,p0p.2.1,p0p.2.2.1,s8.2,p0p.2.2.2.2))
def bE:Nat->Ri->(Tr Yq1)->Option ((Int×Int×Bool)×(List Int)×Int×Int×(List Int)×Bool)
 | 0,_,_=>none
 | n+1,p0,p1 =>
  (Tr.get p1).bind fun z0=>(Tr.get p1).bind fun z1=>if z1.1.1==2 then (some ((0,0,true),p0.1,p0.2.1,p0.2.2.1,p0.2.2.2.1,p0.2.2.2.2)) else (if z1.1.1==3 then ((Tr.get p1).bind fun z5=>(Tr.get p1).bind fun z6=>(cm 8 p0.1 ([z6.1.2.1])).bind fun z7=>(cm 8 p0.2.2.2.1 ([0])).bind fun z8=>some ((Kx 1 (p0.1.length:Int),Kx 1 (p0.1.length:Int),false),z7,p0.2.1,p0.2.2.1,z8,p0.2.2.2.2)) else (if z1.1.1==5 then ((Tr.get p1).bind fun z17=>(Tr.get p1).bind fun z18=>(aQ z18.2 0).bind fun x19=>((bE n) (p0.1,p0.2.1,p0.2.2.1,p0.2.2.2.1,p0.2.2.2.2) x19).bind fun r20=>(Tr.get p1).bind fun z21=>(Tr.get p1).bind fun z22=>(aQ z22.2 1).bind fun x23=>((bE n) r20.2 x23).bind fun r24=>if r20.1.2.2 then (some ((orI r20.1.1 r24.1.1,orI r20.1.2.1 r24.1.2.1,true),r24.2.1,r24.2.2.1,r24.2.2.2.1,r24.2.2.2.2.1,r24.2.2.2.2.2)) else (some ((orI r20.1.1 r24.1.1,orI r20.1.2.1 r24.1.2.1,r24.1.2.2),r24.2.1,r24.2.2.1,r24.2.2.2.1,r24.2.2.2.2.1,r24.2.2.2.2.2))) else (if z1.1.1==4 then ((Tr.get p1).bind fun z33=>(Tr.get p1).bind fun z34=>(aQ z34.2 0).bind fun x35=>((bE n) (p0.1,p0.2.1,p0.2.2.1,p0.2.2.2.1,p0.2.2.2.2) x35).bind fun r36=>(Tr.get p1).bind fun z37=>(Tr.get p1).bind fun z38=>(aQ z38.2 1).bind fun x39=>((bE n) r36.2 x39).bind fun r40=>(dG (r40.2.1,r40.2.2.1,r40.2.2.2.1,r40.2.2.2.2.1,r40.2.2.2.2.2) r36.1.2.1 r40.1.1).bind fun r41=>if r36.1.2.2 then (Option.bind ((if r36.1.2.2 then (some (orI r36.1.1 r40.1.1,r40.1.2.1,r40.1.2.2)) else (some (r36.1.1,r40.1.2.1,r40.1.2.2)):Option (Int×Int×Bool))) (fun s42=>Option.bind ((if r40.1.2.2 then (some (s42.1,orI s42.2.1 r36.1.2.1,s42.2.2)) else (some (s42.1,s42.2.1,s42.2.2)):Option (Int×Int×Bool))) (fun s43=>some ((s43.1,s43.2.1,s43.2.2),r41.1,r41.2.1,r41.2.2.1,r41.2.2.2.1,r41.2.2.2.2)))) else (Option.bind ((if r36.1.2.2 then (some (orI r36.1.1 r40.1.1,r40.1.2.1,false)) else (some (r36.1.1,r40.1.2.1,false)):Option (Int×Int×Bool))) (fun s44=>Option.bind ((if r40.1.2.2 then (some (s44.1,orI s44.2.1 r36.1.2.1,s44.2.2)) else (some (s44.1,s44.2.1,s44.2.2)):Option (Int×Int×Bool))) (fun s45=>some ((s45.1,s45.2.1,s45.2.2),r41.1,r41.2.1,r41.2.2.1,r41.2.2.2.1,r41.2.2.2.2))))) else (if z1.1.1==6 then ((Tr.get p1).bind fun z46=>(Tr.get p1).bind fun z47=>(aQ z47.2 0).bind fun x48=>((bE n) (p0.1,p0.2.1,p0.2.2.1,p0.2.2.2.1,p0.2.2.2.2) x48).bind fun r49=>(dG (r49.2.1,r49.2.2.1,r49.2.2.2.1,r49.2.2.2.2.1,r49.2.2.2.2.2) r49.1.2.1 r49.1.1).bind fun r50=>some ((r49.1.1,r49.1.2.1,true),r50.1,r50.2.1,r50.2.2.1,r50.2.2.2.1,r50.2.2.2.2)) else (some ((0,0,false),p0.1,p0.2.1,p0.2.2.1,p0.2.2.2.1,p0.2.2.2.2))))))
def dt (r0:(List Yq1)×Bool) (s2:Int×Int):Option (Out (Ri×Bool) (Int×Int)):=
 if decide (s2.2<(r0.1.length:Int)) then (Option.bind (((aQ r0.1 s2.2).bind fun x3=>if x3.1==3 then (some (IntKind.i64.wrap (s2.1+1))) else (some s2.1):Option Int)) (fun s4=>some (.nxt (s4,IntKind.i64.wrap (s2.2+1))))) else (some (.brk (s2.1,s2.2)))
def gS (p0e:List Yq1):Option (Ri×Bool):=
 (mi p0e).bind fun r0=>if r0.2 then (aN (ax (dt r0) aV (0,0)) (fun r5=>some r5) (fun s6=>if decide (s6.1>20) then (some ((([] :List Int),0,0,([] :List Int),false),false)) else ((nW r0.1).bind fun r7=>(bE gB (([] :List Int),0,0,([] :List Int),false) r7).bind fun r8=>some ((r8.2.1,r8.1.1,r8.1.2.1,r8.2.2.2.2.1,r8.1.2.2),true)))) else (some ((([] :List Int),0,0,([] :List Int),false),false))
def dW (p3:Int->Int->Option (Int×Bool)) (s29:(List Int)×(List (Int×Int))×Int×Int×(List Bool)×(List (List Int))) (s39:(List Int)×(List (Int×Int))×(List Int)×Int):Option (Out (Yq2×Bool) ((List Int)×(List (Int×Int))×(List Int)×Int)):=
 if decide (s39.2.2.2<9) then (Option.bind (((aQ s39.1 s29.2.2.1).bind fun x20=>(p3 x20 s39.2.2.2).bind fun r20=>if r20.2 then ((chk (iOk r20.1=true)).bind fun _=>Option.bind ((if (lkM s39.2.1 r20.1).isSome then (some (s39.1,s39.2.1,(lkM s39.2.1 r20.1).getD 0)) else ((NU s39.2.1 iOk iOk r20.1 (s39.1.length:Int)).bind fun m37=>(cm 8 s39.1 ([r20.1])).bind fun z75=>some (z75,m37,(s39.1.length:Int))):Option ((List Int)×(List (Int×Int))×Int))) (fun s43=>(cm 8 s39.2.2.1 ([s43.2.2])).bind fun z76=>some (s43.1,s43.2.1,z76))) else ((cm 8 s39.2.2.1 ([-1])).bind fun z73=>some (s39.1,s39.2.1,z73)):Option ((List Int)×(List (Int×Int))×(List Int)))) (fun s42=>some (.nxt (s42.1,s42.2.1,s42.2.2,IntKind.i64.wrap (s39.2.2.2+1))))) else (some (.brk (s39.1,s39.2.1,s39.2.2.1,s39.2.2.2)))
def bZ (p1:Int) (p2:Int->Option Bool) (p3:Int->Int->Option (Int×Bool)) (s29:(List Int)×(List (Int×Int))×Int×Int×(List Bool)×(List (List Int))):Option (Out (Yq2×Bool) ((List Int)×(List (Int×Int))×Int×Int×(List Bool)×(List (List Int)))):=
 if decide (s29.2.2.1<(s29.1.length:Int)) then (aN (ax (dW p3 s29) aV (s29.1,s29.2.1,([] :List Int),0)) (fun r=>some (.ret r)) (fun s40=>if decide ((s40.1.length:Int)>p1) then (some (.ret ((0,[],[]),false))) else ((aQ s40.1 s29.2.2.1).bind fun x21=>(p2 x21).bind fun r21=>(cm 1 s29.2.2.2.2.1 ([r21])).bind fun z77=>(cm 24 s29.2.2.2.2.2 ([s40.2.2.1])).bind fun z78=>some (.nxt (s40.1,s40.2.1,IntKind.i64.wrap (s29.2.2.1+1),s29.2.2.2.1,z77,z78))))) else (some (.brk (s29.1,s29.2.1,s29.2.2.1,s29.2.2.2.1,s29.2.2.2.2.1,s29.2.2.2.2.2)))
def eO (p0:Int) (p1:Int) (p2:Int->Option Bool) (p3:Int->Int->Option (Int×Bool)):Option (Yq2×Bool):=
 (NU ([] :List (Int×Int)) iOk iOk p0 0).bind fun m1=>aN (ax (bZ p1 p2 p3) aV ([p0],m1,0,0,[],[])) (fun r=>some r) (fun s30=>some ((s30.2.2.2.1,s30.2.2.2.2.1,s30.2.2.2.2.2),true))
def du (p0p:(List Int)×Int×Int×(List Int)×Bool) (p1set:Int):Option Bool:=
 if (Az p1set 1)==1 then (if p0p.2.2.2.2 then (some true) else (some ((Az (uC p1set 1) p0p.2.2.1) !=0))) else (some ((Az (uC p1set 1) p0p.2.2.1) !=0))
def da (p0p:(List Int)×Int×Int×(List Int)×Bool) (p1set:Int) (s6:Int×Int):Option Ap:=
 if decide (s6.2<(p0p.2.2.2.1.length:Int)) then (Option.bind (((aQ p0p.2.2.2.1 s6.2).bind fun x6=>(chk (0<=IntKind.i64.wrap (s6.2+1))).bind fun _=>if (Az (uC p1set (IntKind.i64.wrap (s6.2+1))) 1)==1 then (some (orI s6.1 x6)) else (some s6.1):Option Int)) (fun s8=>some (.nxt (s8,IntKind.i64.wrap (s6.2+1))))) else (some (.brk (s6.1,s6.2)))
def db (p0p:(List Int)×Int×Int×(List Int)×Bool) (p2letter:Int) (s7:Int×Int) (s13:Int×Int):Option Ap:=
 if decide (s13.2<(p0p.1.length:Int)) then (Option.bind (((aQ p0p.1 s13.2).bind fun x12=>if x12==p2letter then ((chk (0<=s13.2)).bind fun _=>if (Az (uC s7.1 s13.2) 1)==1 then ((chk (0<=IntKind.i64.wrap (s13.2+1))).bind fun _=>some (orI s13.1 (Kx 1 (IntKind.i64.wrap (s13.2+1))))) else (some s13.1)) else (some s13.1):Option Int)) (fun s15=>some (.nxt (s15,IntKind.i64.wrap (s13.2+1))))) else (some (.brk (s13.1,s13.2)))
def gk (p0p:(List Int)×Int×Int×(List Int)×Bool) (p1set:Int) (p2letter:Int):Option Int:=
 Option.bind ((if (Az p1set 1)==1 then (some p0p.2.1) else (some 0):Option Int)) (fun s1=>aN (ax (da p0p p1set) aV (s1,0)) (fun r=>some r) (fun s7=>aN (ax (db p0p p2letter s7) aV (0,0)) (fun r=>some r) (fun s14=>some s14.1)))
def dh (p0set:Int) (p1letter:Int) (q0:(List Int)×Int×Int×(List Int)×Bool):Option (Int×Bool):=
 (gk (q0.1,q0.2.1,q0.2.2.1,q0.2.2.2.1,q0.2.2.2.2) p0set p1letter).bind fun r1=>some (r1,r1 !=0)
def iz (p0p:(List Int)×Int×Int×(List Int)×Bool) (p1most:Int):Option (Yq2×Bool):=
 (eO 1 p1most (fun a0=>du (p0p.1,p0p.2.1,p0p.2.2.1,p0p.2.2.2.1,p0p.2.2.2.2) a0) (fun a0 a1=>dh a0 a1 (p0p.1,p0p.2.1,p0p.2.2.1,p0p.2.2.2.1,p0p.2.2.2.2))).bind fun r1=>some ((r1.1.1,r1.1.2.1,r1.1.2.2),r1.2)
def dw (s5:Bool×Int×List Bool) (x6:List Int) (s8:Bool×Int×List Bool):Option (Out (List Bool) (Bool×Int×List Bool)):=
 if decide (s8.2.1<(x6.length:Int)) then (Option.bind (((aQ x6 s8.2.1).bind fun x9=>if decide (x9≥0) then ((aQ s8.2.2 x9).bind fun x10=>if x10 then ((aQ s8.2.2 s5.2.1).bind fun x11=>if x11 then (some (s8.1,s8.2.2)) else ((aQ s8.2.2 s5.2.1).bind fun x12=>some (true,s8.2.2.set s5.2.1.toNat true))) else (some (s8.1,s8.2.2))) else (some (s8.1,s8.2.2)):Option (Bool×List Bool))) (fun s13=>some (.nxt (s13.1,IntKind.i64.wrap (s8.2.1+1),s13.2)))) else (some (.brk (s8.1,s8.2.1,s8.2.2)))
def dx (p0a:Int×(List Bool)×List (List Int)) (s5:Bool×Int×List Bool):Option (Out (List Bool) (Bool×Int×List Bool)):=
 if decide (s5.2.1<(p0a.2.2.length:Int)) then ((aQ p0a.2.2 s5.2.1).bind fun x6=>aN (ax (dw s5 x6) aV (s5.1,0,s5.2.2)) (fun r14=>some (.ret r14)) (fun s15=>some (.nxt (s15.1,IntKind.i64.wrap (s5.2.1+1),s15.2.2)))) else (some (.brk (s5.1,s5.2.1,s5.2.2)))
def iA (p0a:Int×(List Bool)×List (List Int)) (s3:Bool×List Bool):Option (Out (List Bool) (Bool×List Bool)):=
 if s3.1 then (aN (ax (dx p0a) aV (false,0,s3.2)) (fun r16=>some (.ret r16)) (fun s17=>some (.nxt (s17.1,s17.2.2)))) else (some (.brk (s3.1,s3.2)))
def eV (p0a:Int×(List Bool)×List (List Int)):Option (List Bool):=
 (cm 1 ([] :List Bool) p0a.2.1).bind fun z0=>aN (ax (iA p0a) aV (true,z0)) (fun r18=>some r18) (fun s19=>some s19.2)
def cr (p0s:List (List Int)) (p1f:(List Int)->Option Bool) (s3:Int):Option (Out Int Int):=
 if decide (s3<(p0s.length:Int)) then ((aQ p0s s3).bind fun x3=>(p1f x3).bind fun r6=>if r6 then (some (.ret s3)) else (some (.nxt (IntKind.i64.wrap (s3+1))))) else (some (.brk s3))
def bU (p0s:List (List Int)) (p1f:(List Int)->Option Bool):Option Int:=
 aN (ax (cr p0s p1f) aV 0) (fun r=>some r) (fun s4=>some (-1))
def gP (p0x:List Int) (q0:List Int):Option Bool:=
 (cn p0x q0).bind fun r1=>some r1
def cV (p1:List Int) (x57:List Int) (s52:Int×(List Int)):Option (Out ((List Int)×Int) (Int×(List Int))):=
 if decide (s52.1<(x57.length:Int)) then ((aQ x57 s52.1).bind fun x64=>Option.bind ((if decide (x64≥0) then ((aQ p1 x64).bind fun x66=>some x66) else (some x64):Option Int)) (fun s54=>(cm 8 s52.2 ([s54])).bind fun z38=>some (.nxt (IntKind.i64.wrap (s52.1+1),z38)))) else (some (.brk (s52.1,s52.2)))
def dJ (p0:Int×(List Bool)×(List (List Int))) (p1:List Int) (s37:(List (List Int))×(List Int)×Int):Option (Out ((List Int)×Int) ((List (List Int))×(List Int)×Int)):=
 if decide (s37.2.2<(p1.length:Int)) then (Option.bind (((aQ p1 s37.2.2).bind fun x56=>if decide (x56<0) then ((cm 8 s37.2.1 ([-1])).bind fun z42=>some (s37.1,z42)) else ((aQ p0.2.2 s37.2.2).bind fun x57=>aN (ax (cV p1 x57) aV (0,[x56])) (fun _=>none) (fun s53=>(bU s37.1 (fun a0=>gP a0 s53.2)).bind fun r12=>Option.bind ((if decide (r12<0) then ((cm 24 s37.1 ([s53.2])).bind fun z40=>some (z40,(s37.1.length:Int))) else (some (s37.1,r12)):Option ((List (List Int))×Int))) (fun s55=>(cm 8 s37.2.1 ([s55.2])).bind fun z41=>some (s55.1,z41)))):Option ((List (List Int))×(List Int)))) (fun s47=>some (.nxt (s47.1,s47.2,IntKind.i64.wrap (s37.2.2+1))))) else (some (.brk (s37.1,s37.2.1,s37.2.2)))
def dH (p0:Int×(List Bool)×(List (List Int))) (p1:List Int):Option ((List Int)×Int):=
 aN (ax (dJ p0 p1) aV (([] :List (List Int)),([] :List Int),0)) (fun r=>some r) (fun s38=>some (s38.2.1,(s38.1.length:Int)))
def cG (p0a:Int×(List Bool)×(List (List Int))) (r1:List Bool) (s5:(List Int)×Int):Option (Out (List Int) ((List Int)×Int)):=
 if decide (s5.2<(r1.length:Int)) then (Option.bind (((aQ r1 s5.2).bind fun x11=>if x11 then ((aQ p0a.2.1 s5.2).bind fun x12=>if x12 then ((cm 8 s5.1 ([1])).bind fun z18=>some z18) else ((cm 8 s5.1 ([0])).bind fun z17=>some z17)) else ((cm 8 s5.1 ([-1])).bind fun z16=>some z16):Option (List Int))) (fun s7=>some (.nxt (s7,IntKind.i64.wrap (s5.2+1))))) else (some (.brk (s5.1,s5.2)))
def fQ (p0a:Int×(List Bool)×(List (List Int))) (s10:(List Int)×Int):Option (Out (List Int) ((List Int)×Int)):=
 (dH (p0a.1,p0a.2.1,p0a.2.2) s10.1).bind fun r4=>if r4.2==s10.2 then (some (.ret r4.1)) else (some (.nxt (r4.1,r4.2)))
def dy (p0a:Int×(List Bool)×(List (List Int))):Option (List Int):=
 (eV (p0a.1,p0a.2.1,p0a.2.2)).bind fun r1=>aN (ax (cG p0a r1) aV (([] :List Int),0)) (fun r=>some r) (fun s6=>aN (ax (fQ p0a) aV (s6.1,-1)) (fun r=>some r) (fun s11=>none))
def vB (p0x:Int) (p1y:Int):Option (Int×Int):=
 some (IntKind.u32.wrap (uC (IntKind.u64.wrap ((IntKind.u64.wrap p0x)*(IntKind.u64.wrap p1y))) 32),IntKind.u32.wrap (IntKind.u64.wrap ((IntKind.u64.wrap p0x)*(IntKind.u64.wrap p1y))))
def ou (p0x:Int) (p1y:Int):Option (Int×Int):=
 some (IntKind.u64.wrap ((IntKind.u64.wrap ((IntKind.u64.wrap ((uC p0x 32)*(uC p1y 32)))+(uC (IntKind.u64.wrap ((IntKind.u64.wrap ((uC p0x 32)*(Rf p1y 4294967295)))+(uC (IntKind.u64.wrap ((Rf p0x 4294967295)*(Rf p1y 4294967295))) 32))) 32)))+(uC (IntKind.u64.wrap ((Rf (IntKind.u64.wrap ((IntKind.u64.wrap ((uC p0x 32)*(Rf p1y 4294967295)))+(uC (IntKind.u64.wrap ((Rf p0x 4294967295)*(Rf p1y 4294967295))) 32))) 4294967295)+(IntKind.u64.wrap ((Rf p0x 4294967295)*(uC p1y 32))))) 32)),IntKind.u64.wrap (p0x*p1y))
def p9 (p0x:Int) (p1y:Int):Option (Int×Int):=
 (ou p0x p1y).bind fun r1=>some (r1.1,r1.2)
def mN (s4:Int×List Int):Option (Out (List Int) (Int×List Int)):=
 if decide (s4.1<(s4.2.length:Int)) then ((chk (And (0<=s4.1) (s4.1<=(s4.2.length:Int)))).bind fun _=>(chk (And (0<=s4.1) (s4.1<=(s4.2.length:Int)))).bind fun _=>(chk (And (0<=s4.1) (s4.1<=(s4.2.length:Int)))).bind fun _=>(chk (And (0<=s4.1) (s4.1<=(s4.2.length:Int)))).bind fun _=>some (.nxt (IntKind.i64.wrap (s4.1+((Min.min ((s4.2.take s4.1.toNat).length) (s4.2.length - s4.1.toNat):Nat):Int)),CL s4.2 s4.1.toNat (s4.2.take s4.1.toNat)))) else (some (.brk (s4.1,s4.2)))
def iB (p0x:List Int) (p1count:Int):Option (List Int):=
 if decide (p1count<0) then (none) else ((p9 (IntKind.u64.wrap (p0x.length:Int)) (IntKind.u64.wrap p1count)).bind fun r0=>if decide (r0.1>0) then (none) else (if decide (r0.2>9223372036854775807) then (none) else ((mkI 8 (IntKind.i64.wrap r0.2) 0).bind fun z1=>aN (ax (mN) aV (((Min.min p0x.length (z1.length - 0):Nat):Int),CL z1 0 p0x)) (fun r13=>some r13) (fun s14=>some s14.2))))
def vC:Option Yq2:=
 (iB ([-1]) 9).bind fun r1=>some (0,[false],[r1])
def dE (p0s:List Int) (p1v:Int) (s3:Int):Option (Out Int Int):=
 if decide (s3<(p0s.length:Int)) then ((aQ p0s s3).bind fun x3=>if p1v==x3 then (some (.ret s3)) else (some (.nxt (IntKind.i64.wrap (s3+1))))) else (some (.brk s3))
def eK (p0s:List Int) (p1v:Int):Option Int:=
 aN (ax (dE p0s p1v) aV 0) (fun r=>some r) (fun s4=>some (-1))
def bc (p0class:Int) (q0:List Int):Option Int:=
 (eK q0 p0class).bind fun r1=>some r1
def cH (p0c:Int) (q0:Int×(List Bool)×(List (List Int))) (q1:Int->Option Int):Option Bool:=
 (q1 p0c).bind fun r1=>(aQ q0.2.1 r1).bind fun x1=>some x1
def eW (p0a:Int×(List Bool)×(List (List Int))) (p1s:Int) (p2letter:Int):Option Int:=
 if decide (p1s<0) then (some (-1)) else ((ke p2letter).bind fun r1=>if r1 then ((aQ p0a.2.2 p1s).bind fun x1=>(aQ x1 p2letter).bind fun x2=>some x2) else (some (-1)))
def cJ (p0c:Int) (p1letter:Int) (q0:Int×(List Bool)×(List (List Int))) (q1:Int->Option Int) (q2:List Int):Option (Int×Bool):=
 (q1 p0c).bind fun r1=>(eW (q0.1,q0.2.1,q0.2.2) r1 p1letter).bind fun r2=>if decide (r2<0) then (some (0,false)) else ((aQ q2 r2).bind fun x1=>if decide (x1<0) then (some (0,false)) else ((aQ q2 r2).bind fun x2=>some (x2,true)))
def de (p0a:Int×(List Bool)×(List (List Int))):Option Yq2:=
 (dy (p0a.1,p0a.2.1,p0a.2.2)).bind fun r1=>(aQ r1 p0a.1).bind fun x1=>if decide (x1<0) then ((vC).bind fun r3=>some (r3.1,r3.2.1,r3.2.2)) else ((aQ r1 p0a.1).bind fun x2=>(eO x2 (r1.length:Int) (fun a0=>cH a0 (p0a.1,p0a.2.1,p0a.2.2) (fun a0=>bc a0 r1)) (fun a0 a1=>cJ a0 a1 (p0a.1,p0a.2.1,p0a.2.2) (fun a0=>bc a0 r1) r1)).bind fun r2=>some (r2.1.1,r2.1.2.1,r2.1.2.2))
def Bl (p0a:Int×(List Bool)×(List (List Int))):Option (Yq2×Bool):=
 (de (p0a.1,p0a.2.1,p0a.2.2)).bind fun r1=>if decide ((r1.2.1.length:Int)>12) then (some ((0,[],[]),false)) else (some ((r1.1,r1.2.1,r1.2.2),true))
def iC (p0e:(List Yq1)):Option (Yq2×Bool):=
 (gS p0e).bind fun r1=>if r1.2 then ((iz (r1.1.1,r1.1.2.1,r1.1.2.2.1,r1.1.2.2.2.1,r1.1.2.2.2.2) 200).bind fun r2=>if r2.2 then ((Bl (r2.1.1,r2.1.2.1,r2.1.2.2)).bind fun r3=>some ((r3.1.1,r3.1.2.1,r3.1.2.2),r3.2)) else (some ((0,[],[]),false))) else (some ((0,[],[]),false))
def bQ (p0s:List Yq2) (p1f:Yq2->Option Bool) (s3:Int):Option (Out Int Int):=
 if decide (s3<(p0s.length:Int)) then ((aQ p0s s3).bind fun x3=>(p1f (x3.1,x3.2.1,x3.2.2)).bind fun r9=>if r9 then (some (.ret s3)) else (some (.nxt (IntKind.i64.wrap (s3+1))))) else (some (.brk s3))
def a8 (p0s:List Yq2) (p1f:Yq2->Option Bool):Option Int:=
 aN (ax (bQ p0s p1f) aV 0) (fun r=>some r) (fun s4=>some (-1))
def b9 (p0s1:List Bool) (p1s2:List Bool) (s3:Int):Option (Out Bool Int):=
 if decide (s3<(p0s1.length:Int)) then ((aQ p0s1 s3).bind fun x5=>(aQ p1s2 s3).bind fun x6=>if x5 !=x6 then (some (.ret false)) else (some (.nxt (IntKind.i64.wrap (s3+1))))) else (some (.brk s3))
def dK (p0s1:List Bool) (p1s2:List Bool):Option Bool:=
 if (p0s1.length:Int) !=(p1s2.length:Int) then (some false) else (aN (ax (b9 p0s1 p1s2) aV 0) (fun r=>some r) (fun s4=>some true))
def a7 (p0s1:List (List Int)) (p1s2:List (List Int)) (p2eq:(List Int)->(List Int)->Option Bool) (s3:Int):Option (Out Bool Int):=
 if decide (s3<(p0s1.length:Int)) then ((aQ p0s1 s3).bind fun x5=>(aQ p1s2 s3).bind fun x6=>(p2eq x5 x6).bind fun r9=>if r9 then (some (.nxt (IntKind.i64.wrap (s3+1)))) else (some (.ret false))) else (some (.brk s3))
def bO (p0s1:List (List Int)) (p1s2:List (List Int)) (p2eq:(List Int)->(List Int)->Option Bool):Option Bool:=
 if (p0s1.length:Int) !=(p1s2.length:Int) then (some false) else (aN (ax (a7 p0s1 p1s2 p2eq) aV 0) (fun r=>some r) (fun s4=>some true))
def gl (p0x:List Int) (p1y:List Int):Option Bool:=
 (cn p0x p1y).bind fun r1=>some r1
def dR (p0a:Int×(List Bool)×(List (List Int))) (p1b:Int×(List Bool)×(List (List Int))):Option Bool:=
 if p0a.1==p1b.1 then ((dK p0a.2.1 p1b.2.1).bind fun r1=>if r1 then ((bO p0a.2.2 p1b.2.2 (fun a0 a1=>gl a0 a1)).bind fun r2=>some r2) else (some false)) else (some false)
def mO (p0b:Int×(List Bool)×(List (List Int))) (q0:Int×(List Bool)×(List (List Int))):Option Bool:=
 (dR (q0.1,q0.2.1,q0.2.2) (p0b.1,p0b.2.1,p0b.2.2)).bind fun r1=>some r1
def fW (p0e:(List Yq1)):Option (List Yq1):=
 (cm 32 ([] :List Yq1) p0e).bind fun z1=>some z1
def kU (p0:List Yq3) (s7:Int×(List Yq2)×(List Yq3)):Option (Out (Yq6×Bool) Rj):=
 if decide (s7.1<(p0.length:Int)) then ((aQ p0 s7.1).bind fun x5=>(iC x5.2.1).bind fun r16=>if r16.2 then ((b8 x5.1 1 99).bind fun r17=>if r17 then (if decide (s7.1>0) then ((aQ p0 (IntKind.i64.wrap (s7.1 - 1))).bind fun x6=>if decide (x6.1≥x5.1) then (some (.ret (([],[]),false))) else ((a8 s7.2.1 (fun a0=>mO a0 (r16.1.1,r16.1.2.1,r16.1.2.2))).bind fun r20=>Option.bind ((if decide (r20<0) then ((cm 56 s7.2.1 ([(r16.1.1,r16.1.2.1,r16.1.2.2)])).bind fun z17=>some ((s7.2.1.length:Int),z17,s7.2.2)) else (some (r20,s7.2.1,s7.2.2)):Option Rj)) (fun s10=>(fW x5.2.1).bind fun r21=>(cm 40 s10.2.2 ([(x5.1,r21,s10.1)])).bind fun z18=>some (.nxt (IntKind.i64.wrap (s7.1+1),s10.2.1,z18))))) else ((a8 s7.2.1 (fun a0=>mO a0 (r16.1.1,r16.1.2.1,r16.1.2.2))).bind fun r18=>Option.bind ((if decide (r18<0) then ((cm 56 s7.2.1 ([(r16.1.1,r16.1.2.1,r16.1.2.2)])).bind fun z14=>some ((s7.2.1.length:Int),z14,s7.2.2)) else (some (r18,s7.2.1,s7.2.2)):Option Rj)) (fun s9=>(fW x5.2.1).bind fun r19=>(cm 40 s9.2.2 ([(x5.1,r19,s9.1)])).bind fun z15=>some (.nxt (IntKind.i64.wrap (s7.1+1),s9.2.1,z15))))) else (some (.ret (([],[]),false)))) else (some (.ret (([],[]),false)))) else (some (.brk (s7.1,s7.2.1,s7.2.2)))
def ud (p0:List Yq3):Option (Yq6×Bool):=
 aN (ax (kU p0) aV (0,[],[])) (fun r=>some r) (fun s8=>some ((s8.2.1,s8.2.2),decide ((p0.length:Int)<=4)))
def aO (p0s1:List Yq2) (p1s2:List Yq2) (p2eq:Yq2->Yq2->Option Bool) (s3:Int):Option (Out Bool Int):=
 if decide (s3<(p0s1.length:Int)) then ((aQ p0s1 s3).bind fun x5=>(aQ p1s2 s3).bind fun x6=>(p2eq (x5.1,x5.2.1,x5.2.2) (x6.1,x6.2.1,x6.2.2)).bind fun r15=>if r15 then (some (.nxt (IntKind.i64.wrap (s3+1)))) else (some (.ret false))) else (some (.brk s3))
def aZ (p0s1:List Yq2) (p1s2:List Yq2) (p2eq:Yq2->Yq2->Option Bool):Option Bool:=
 if (p0s1.length:Int) !=(p1s2.length:Int) then (some false) else (aN (ax (aO p0s1 p1s2 p2eq) aV 0) (fun r=>some r) (fun s4=>some true))
def aM (p0s1:List Yq3) (p1s2:List Yq3) (p2eq:Yq3->Yq3->Option Bool) (s3:Int):Option (Out Bool Int):=
 if decide (s3<(p0s1.length:Int)) then ((aQ p0s1 s3).bind fun x5=>(aQ p1s2 s3).bind fun x6=>(p2eq (x5.1,x5.2.1,x5.2.2) (x6.1,x6.2.1,x6.2.2)).bind fun r9=>if r9 then (some (.nxt (IntKind.i64.wrap (s3+1)))) else (some (.ret false))) else (some (.brk s3))
def aW (p0s1:List Yq3) (p1s2:List Yq3) (p2eq:Yq3->Yq3->Option Bool):Option Bool:=
 if (p0s1.length:Int) !=(p1s2.length:Int) then (some false) else (aN (ax (aM p0s1 p1s2 p2eq) aV 0) (fun r=>some r) (fun s4=>some true))
def bX (p0s1:List Yq1) (p1s2:List Yq1) (s3:Int):Option (Out Bool Int):=
 if decide (s3<(p0s1.length:Int)) then ((aQ p0s1 s3).bind fun x5=>(aQ p1s2 s3).bind fun x6=>if (x5.1==x6.1)&&((x5.2.1==x6.2.1)&&((x5.2.2.1==x6.2.2.1)&&((x5.2.2.2==x6.2.2.2)&&true))) then (some (.nxt (IntKind.i64.wrap (s3+1)))) else (some (.ret false))) else (some (.brk s3))
def cv (p0s1:List Yq1) (p1s2:List Yq1):Option Bool:=
 if (p0s1.length:Int) !=(p1s2.length:Int) then (some false) else (aN (ax (bX p0s1 p1s2) aV 0) (fun r=>some r) (fun s4=>some true))
def mj (p0a:(List Yq1)) (p1b:(List Yq1)):Option Bool:=
 (cv p0a p1b).bind fun r1=>some r1
def gE (p0a:Int×((List Yq1))×Int) (p1b:Int×((List Yq1))×Int):Option Bool:=
 if p0a.1==p1b.1 then ((mj p0a.2.1 p1b.2.1).bind fun r1=>if r1 then (some (p0a.2.2==p1b.2.2)) else (some false)) else (some false)
def gm (p0a:(List Yq2)×(List Yq3)) (p1b:(List Yq2)×(List Yq3)):Option Bool:=
 (aZ p0a.1 p1b.1 (fun a0 a1=>dR a0 a1)).bind fun r1=>if r1 then ((aW p0a.2 p1b.2 (fun a0 a1=>gE a0 a1)).bind fun r2=>some r2) else (some false)
def gp (p0r:(List Yq2)×(List Yq3)):Option Bool:=
 (ud p0r.2).bind fun r1=>if r1.2 then ((gm (r1.1.1,r1.1.2) (p0r.1,p0r.2)).bind fun r2=>some r2) else (some false)
def cd (p0h:Int×(List Yq4)):Option Int:=
 (m_i_IsValidHistory (p0h.1,p0h.2)).bind fun r1=>if r1 then (some (IntKind.i64.wrap ((IntKind.i64.wrap (p0h.1+(p0h.2.length:Int))) - 1))) else (some 0)
def bh (p0s:List Yq3) (p1f:Yq3->Option Bool) (s3:Int):Option (Out Int Int):=
 if decide (s3<(p0s.length:Int)) then ((aQ p0s s3).bind fun x3=>(p1f (x3.1,x3.2.1,x3.2.2)).bind fun r6=>if r6 then (some (.ret s3)) else (some (.nxt (IntKind.i64.wrap (s3+1))))) else (some (.brk s3))
def bT (p0s:List Yq3) (p1f:Yq3->Option Bool):Option Int:=
 aN (ax (bh p0s p1f) aV 0) (fun r=>some r) (fun s4=>some (-1))
def kV (p0q:Int×((List Yq1))×Int) (q0:Int):Option Bool:=
 some (p0q.1==q0)
def kW (p0r:(List Yq2)×(List Yq3)) (p1id:Int):Option Int:=
 (bT p0r.2 (fun a0=>kV a0 p1id)).bind fun r1=>some r1
def eX (p0:ByteArray) (p1:Int):Option Int:=R.xX p0 p1
def na (p0:Int):Option (ByteArray):=R.Tb p0
def dj (p0n:Int):Option ByteArray:=
 (na p0n).bind fun r0=>some r0
def jw (p0e:Int×Int×Int×Int):Option ByteArray:=
 (fP (p0e.1,p0e.2.1,p0e.2.2.1,p0e.2.2.2) 5).bind fun r0=>if r0 then ((dj p0e.1).bind fun r9=>(lZ r9 (⟨#[58]⟩)).bind fun z10=>(dj p0e.2.1).bind fun r11=>(lZ z10 r11).bind fun z12=>(rY (⟨#[97,98,99]⟩) p0e.2.2.2 (IntKind.i64.wrap (p0e.2.2.2+1))).bind fun z13=>(lZ z12 z13).bind fun z14=>(dj p0e.2.2.1).bind fun r15=>(lZ z14 r15).bind fun z16=>some z16) else (some ((⟨#[]⟩:ByteArray)))
def jH (p0:List ByteArray) (p1:ByteArray):Option (ByteArray):=R.Ta p0 p1
def eY (p0b:List Yq5) (s1:(List ByteArray)×Int):Option (Out ByteArray ((List ByteArray)×Int)):=
 if decide (s1.2<(p0b.length:Int)) then (vl (S:=List ByteArray) ((aQ p0b s1.2).bind fun x2=>(jw (x2.2.1,x2.2.2.1,x2.2.2.2.1,x2.2.2.2.2)).bind fun r3=>if r3==((⟨#[]⟩:ByteArray)) then (some (.inl (.ret ((⟨#[]⟩:ByteArray))))) else (if x2.1 then ((lZ (⟨#[43]⟩) r3).bind fun z4=>(cm 16 s1.1 ([z4])).bind fun z5=>some (.inr z5)) else ((lZ (⟨#[45]⟩) r3).bind fun z6=>(cm 16 s1.1 ([z6])).bind fun z7=>some (.inr z7)))) (fun s8=>some (.nxt (s8,IntKind.i64.wrap (s1.2+1))))) else (some (.brk (s1.1,s1.2)))
def dX (p0b:List Yq5):Option ByteArray:=
 if decide ((p0b.length:Int)>6) then (some ((⟨#[]⟩:ByteArray))) else (aN (ax (eY p0b) aV (([] :List ByteArray),0)) (fun r9=>some r9) (fun s10=>(jH s10.1 (⟨#[32]⟩)).bind fun r11=>some r11))
def ox (p0s:ByteArray) (s1:Int×Int):Option Ap:=
 if decide (s1.2<((p0s.size:Nat):Int)) then ((j7 p0s s1.2).bind fun z2=>some (.nxt (Int.tmod (IntKind.i64.wrap ((IntKind.i64.wrap ((IntKind.i64.wrap (257*s1.1))+(IntKind.i64.wrap z2)))+1)) 9973,IntKind.i64.wrap (s1.2+1)))) else (some (.brk (s1.1,s1.2)))
def kh (p0s:ByteArray):Option Int:=
 aN (ax (ox p0s) aV (1,0)) (fun r3=>some r3) (fun s4=>some s4.1)
def eP (p0version:Int) (p1b:List Yq5):Option ByteArray:=
 (dX p1b).bind fun r0=>(b8 p0version 1 999).bind fun r1=>if r1 then (if r0==((⟨#[]⟩:ByteArray)) then (if decide ((p1b.length:Int)>0) then (some ((⟨#[]⟩:ByteArray))) else ((dj p0version).bind fun r2=>(lZ r2 (⟨#[59]⟩)).bind fun z3=>(lZ z3 r0).bind fun z4=>(lZ z4 (⟨#[59]⟩)).bind fun z5=>(kh z5).bind fun r6=>(dj r6).bind fun r7=>(lZ z5 r7).bind fun z8=>(lZ z8 (⟨#[10]⟩)).bind fun z9=>some z9)) else ((dj p0version).bind fun r10=>(lZ r10 (⟨#[59]⟩)).bind fun z11=>(lZ z11 r0).bind fun z12=>(lZ z12 (⟨#[59]⟩)).bind fun z13=>(kh z13).bind fun r14=>(dj r14).bind fun r15=>(lZ z13 r15).bind fun z16=>(lZ z16 (⟨#[10]⟩)).bind fun z17=>some z17)) else (some ((⟨#[]⟩:ByteArray)))
def cK (p0 p1:ByteArray):Option (List ByteArray):=R.Lv p0 p1
def fX (p0:ByteArray):Option (Int×Bool):=R.sF p0
def cW (p0 p1:ByteArray):Option (ByteArray×ByteArray×Bool):=R.YU p0 p1
def gq (p0s:ByteArray):Option (Yq1×Bool):=
 (cW p0s (⟨#[58]⟩)).bind fun r0=>if ((r0.2.1.size:Nat):Int) !=3 then (some ((0,0,0,0),false)) else ((j7 r0.2.1 0).bind fun z4=>(j7 r0.2.1 1).bind fun z5=>(j7 r0.2.1 2).bind fun z6=>(fX r0.1).bind fun r7=>(jw (r7.1,IntKind.i64.wrap ((IntKind.i64.wrap z4) - 48),IntKind.i64.wrap ((IntKind.i64.wrap z6) - 48),IntKind.i64.wrap ((IntKind.i64.wrap z5) - 97))).bind fun r8=>if r8 !=p0s then (some ((0,0,0,0),false)) else (some ((r7.1,IntKind.i64.wrap ((IntKind.i64.wrap z4) - 48),IntKind.i64.wrap ((IntKind.i64.wrap z6) - 48),IntKind.i64.wrap ((IntKind.i64.wrap z5) - 97)),true)))
def cL (r0:List ByteArray) (s3:Int×List Yq5):Option (Out ((List Yq5)×Bool) (Int×List Yq5)):=
 if decide (s3.1<(r0.length:Int)) then ((aQ r0 s3.1).bind fun x4=>if x4==((⟨#[]⟩:ByteArray)) then (some (.ret (([] :List Yq5),false))) else ((rY x4 1 ((x4.size:Nat):Int)).bind fun z5=>(gq z5).bind fun r6=>if r6.2 then ((j7 x4 0).bind fun z9=>(cm 40 s3.2 ([(z9==43,r6.1.1,r6.1.2.1,r6.1.2.2.1,r6.1.2.2.2)])).bind fun z10=>some (.nxt (IntKind.i64.wrap (s3.1+1),z10))) else (some (.ret (([] :List Yq5),false))))) else (some (.brk (s3.1,s3.2)))
def dQ (p0s:ByteArray):Option ((List Yq5)×Bool):=
 if p0s==((⟨#[]⟩:ByteArray)) then (some (([] :List Yq5),true)) else ((cK p0s (⟨#[32]⟩)).bind fun r0=>aN (ax (cL r0) aV (0,([] :List Yq5))) (fun r11=>some r11) (fun s12=>(dX s12.2).bind fun r13=>if r13 !=p0s then (some (([] :List Yq5),false)) else (some (s12.2,true))))
def jI (p0s:ByteArray):Option (Int×(List Yq5)×Bool):=
 (cK p0s (⟨#[59]⟩)).bind fun r0=>if (r0.length:Int) !=3 then (some (0,([] :List Yq5),false)) else ((aQ r0 0).bind fun x1=>(fX x1).bind fun r2=>(aQ r0 1).bind fun x3=>(dQ x3).bind fun r4=>if r2.2 then (if r4.2 then ((eP r2.1 r4.1).bind fun r5=>if r5 !=p0s then (some (0,([] :List Yq5),false)) else (some (r2.1,r4.1,true))) else (some (0,([] :List Yq5),false))) else (some (0,([] :List Yq5),false)))
def cz (p0:ByteArray) (s1:(List Int)×(List (List Yq5))×Int):Option (Out ((List Int)×(List (List Yq5))×Int) ((List Int)×(List (List Yq5))×Int)):=
 if decide (((p0.size:Nat):Int)<=4000) then ((rY p0 s1.2.2 ((p0.size:Nat):Int)).bind fun z2=>(eX z2 10).bind fun r3=>if decide (r3<0) then (some (.brk (s1.1,s1.2.1,s1.2.2))) else ((rY p0 s1.2.2 (IntKind.i64.wrap ((IntKind.i64.wrap (s1.2.2+r3))+1))).bind fun z4=>(jI z4).bind fun r5=>if r5.2.2 then (if decide ((s1.1.length:Int)>0) then ((aQ s1.1 (IntKind.i64.wrap ((s1.1.length:Int) - 1))).bind fun x6=>if r5.1 !=(IntKind.i64.wrap (x6+1)) then (some (.brk (s1.1,s1.2.1,s1.2.2))) else ((cm 8 s1.1 ([r5.1])).bind fun z7=>(cm 24 s1.2.1 ([r5.2.1])).bind fun z8=>some (.nxt (z7,z8,IntKind.i64.wrap (s1.2.2+(IntKind.i64.wrap (r3+1))))))) else ((cm 8 s1.1 ([r5.1])).bind fun z9=>(cm 24 s1.2.1 ([r5.2.1])).bind fun z10=>some (.nxt (z9,z10,IntKind.i64.wrap (s1.2.2+(IntKind.i64.wrap (r3+1))))))) else (some (.brk (s1.1,s1.2.1,s1.2.2))))) else (some (.brk (s1.1,s1.2.1,s1.2.2)))
def m_i_ScanLog (p0:ByteArray):Option ((List Int)×(List (List Yq5))×Int):=
 aN (ax (cz p0) aV (([] :List Int),([] :List (List Yq5)),0)) (fun r11=>some r11) (fun s12=>some (s12.1,s12.2.1,s12.2.2))
def ct (p0:Yq8×Yq6×Yq7×ByteArray) (r3:Int) (s3:Int):Option (Out Bool Int):=
 if decide (s3<(p0.2.2.1.length:Int)) then ((aQ p0.2.2.1 s3).bind fun x5=>(b8 x5.1 1 99).bind fun r14=>if r14 then (if decide (s3>0) then ((aQ p0.2.2.1 (IntKind.i64.wrap (s3 - 1))).bind fun x6=>if decide (x6.1≥x5.1) then (some (.ret false)) else ((kW (p0.2.1.1,p0.2.1.2) x5.2.1).bind fun r17=>if decide (r17<0) then (some (.ret false)) else ((b8 x5.2.2 0 r3).bind fun r18=>if r18 then (some (.nxt (IntKind.i64.wrap (s3+1)))) else (some (.ret false))))) else ((kW (p0.2.1.1,p0.2.1.2) x5.2.1).bind fun r15=>if decide (r15<0) then (some (.ret false)) else ((b8 x5.2.2 0 r3).bind fun r16=>if r16 then (some (.nxt (IntKind.i64.wrap (s3+1)))) else (some (.ret false))))) else (some (.ret false))) else (some (.brk s3))
def iV (p0:Yq8×Yq6×Yq7×ByteArray):Option Bool:=
 (m_i_IsValidHistory (p0.1.1,p0.1.2)).bind fun r1=>if r1 then ((gp (p0.2.1.1,p0.2.1.2)).bind fun r2=>if r2 then (if decide ((p0.2.2.1.length:Int)>4) then (some false) else (if decide ((p0.2.2.2.size:Int)>4000) then (some false) else ((cd (p0.1.1,p0.1.2)).bind fun r3=>aN (ax (ct p0 r3) aV 0) (fun r=>some r) (fun s4=>(m_i_ScanLog p0.2.2.2).bind fun r19=>if r19.2.2==(p0.2.2.2.size:Int) then (if (r19.1.length:Int)==0 then (some true) else ((aQ r19.1 (IntKind.i64.wrap ((r19.1.length:Int) - 1))).bind fun x7=>some (x7==r3))) else (some false))))) else (some false)) else (some false)
def nD (p0a:List Int) (p1b:List Int) (s3:Int):Option (Out Bool Int):=
 if decide (s3<(p0a.length:Int)) then ((aQ p0a s3).bind fun x5=>(aQ p1b s3).bind fun x6=>if x5 !=x6 then (some (.ret false)) else (some (.nxt (IntKind.i64.wrap (s3+1))))) else (some (.brk s3))
def ue (p0a:List Int) (p1b:List Int):Option Bool:=
 if (p0a.length:Int) !=(p1b.length:Int) then (some false) else (aN (ax (nD p0a p1b) aV 0) (fun r=>some r) (fun s4=>some true))
def qa (p0a:Int×Int×Int×Int) (p1b:Int×Int×Int×Int):Option Bool:=
 if p0a.1 !=p1b.1 then (some false) else (if p0a.2.1 !=p1b.2.1 then (some false) else (if p0a.2.2.1 !=p1b.2.2.1 then (some false) else (if p0a.2.2.2 !=p1b.2.2.2 then (some false) else (some true))))
def mn (p0a:List Yq1) (p1b:List Yq1) (s3:Int):Option (Out Bool Int):=
 if decide (s3<(p0a.length:Int)) then ((aQ p0a s3).bind fun x5=>(aQ p1b s3).bind fun x6=>(qa (x5.1,x5.2.1,x5.2.2.1,x5.2.2.2) (x6.1,x6.2.1,x6.2.2.1,x6.2.2.2)).bind fun r3=>if r3 then (some (.nxt (IntKind.i64.wrap (s3+1)))) else (some (.ret false))) else (some (.brk s3))
def vD (p0a:List Yq1) (p1b:List Yq1):Option Bool:=
 if (p0a.length:Int) !=(p1b.length:Int) then (some false) else (aN (ax (mn p0a p1b) aV 0) (fun r=>some r) (fun s4=>some true))
def qZ (p0a:(List Int)×(List Yq1)) (p1b:(List Int)×(List Yq1)):Option Bool:=
 (ue p0a.1 p1b.1).bind fun r1=>if r1 then ((vD p0a.2 p1b.2).bind fun r2=>if r2 then (some true) else (some false)) else (some false)
def kX (p0a:List Yq4) (p1b:List Yq4) (s3:Int):Option (Out Bool Int):=
 if decide (s3<(p0a.length:Int)) then ((aQ p0a s3).bind fun x5=>(aQ p1b s3).bind fun x6=>(qZ (x5.1,x5.2) (x6.1,x6.2)).bind fun r15=>if r15 then (some (.nxt (IntKind.i64.wrap (s3+1)))) else (some (.ret false))) else (some (.brk s3))
def sI (p0a:List Yq4) (p1b:List Yq4):Option Bool:=
 if (p0a.length:Int) !=(p1b.length:Int) then (some false) else (aN (ax (kX p0a p1b) aV 0) (fun r=>some r) (fun s4=>some true))
def nE (p0a:Int×(List Yq4)) (p1b:Int×(List Yq4)):Option Bool:=
 if p0a.1 !=p1b.1 then (some false) else ((sI p0a.2 p1b.2).bind fun r1=>if r1 then (some true) else (some false))
def mo (p0a:List Bool) (p1b:List Bool) (s3:Int):Option (Out Bool Int):=
 if decide (s3<(p0a.length:Int)) then ((aQ p0a s3).bind fun x5=>(aQ p1b s3).bind fun x6=>if x5 !=x6 then (some (.ret false)) else (some (.nxt (IntKind.i64.wrap (s3+1))))) else (some (.brk s3))
def vE (p0a:List Bool) (p1b:List Bool):Option Bool:=
 if (p0a.length:Int) !=(p1b.length:Int) then (some false) else (aN (ax (mo p0a p1b) aV 0) (fun r=>some r) (fun s4=>some true))
def mq (p0a:List (List Int)) (p1b:List (List Int)) (s3:Int):Option (Out Bool Int):=
 if decide (s3<(p0a.length:Int)) then ((aQ p0a s3).bind fun x5=>(aQ p1b s3).bind fun x6=>(ue x5 x6).bind fun r9=>if r9 then (some (.nxt (IntKind.i64.wrap (s3+1)))) else (some (.ret false))) else (some (.brk s3))
def vF (p0a:List (List Int)) (p1b:List (List Int)):Option Bool:=
 if (p0a.length:Int) !=(p1b.length:Int) then (some false) else (aN (ax (mq p0a p1b) aV 0) (fun r=>some r) (fun s4=>some true))
def kY (p0a:Int×(List Bool)×(List (List Int))) (p1b:Int×(List Bool)×(List (List Int))):Option Bool:=
 if p0a.1 !=p1b.1 then (some false) else ((vE p0a.2.1 p1b.2.1).bind fun r1=>if r1 then ((vF p0a.2.2 p1b.2.2).bind fun r2=>if r2 then (some true) else (some false)) else (some false))
def gr (p0a:List Yq2) (p1b:List Yq2) (s3:Int):Option (Out Bool Int):=
 if decide (s3<(p0a.length:Int)) then ((aQ p0a s3).bind fun x5=>(aQ p1b s3).bind fun x6=>(kY (x5.1,x5.2.1,x5.2.2) (x6.1,x6.2.1,x6.2.2)).bind fun r15=>if r15 then (some (.nxt (IntKind.i64.wrap (s3+1)))) else (some (.ret false))) else (some (.brk s3))
def nc (p0a:List Yq2) (p1b:List Yq2):Option Bool:=
 if (p0a.length:Int) !=(p1b.length:Int) then (some false) else (aN (ax (gr p0a p1b) aV 0) (fun r=>some r) (fun s4=>some true))
def q7 (p0a:Int×Int×Int×Int) (p1b:Int×Int×Int×Int):Option Bool:=
 if p0a.1 !=p1b.1 then (some false) else (if p0a.2.1 !=p1b.2.1 then (some false) else (if p0a.2.2.1 !=p1b.2.2.1 then (some false) else (if p0a.2.2.2 !=p1b.2.2.2 then (some false) else (some true))))
def kZ (p0a:List Yq1) (p1b:List Yq1) (s3:Int):Option (Out Bool Int):=
 if decide (s3<(p0a.length:Int)) then ((aQ p0a s3).bind fun x5=>(aQ p1b s3).bind fun x6=>(q7 (x5.1,x5.2.1,x5.2.2.1,x5.2.2.2) (x6.1,x6.2.1,x6.2.2.1,x6.2.2.2)).bind fun r3=>if r3 then (some (.nxt (IntKind.i64.wrap (s3+1)))) else (some (.ret false))) else (some (.brk s3))
def sJ (p0a:List Yq1) (p1b:List Yq1):Option Bool:=
 if (p0a.length:Int) !=(p1b.length:Int) then (some false) else (aN (ax (kZ p0a p1b) aV 0) (fun r=>some r) (fun s4=>some true))
def uf (p0a:(List Yq1)) (p1b:(List Yq1)):Option Bool:=
 (sJ p0a p1b).bind fun r1=>if r1 then (some true) else (some false)
def jJ (p0a:Int×((List Yq1))×Int) (p1b:Int×((List Yq1))×Int):Option Bool:=
 if p0a.1 !=p1b.1 then (some false) else ((uf p0a.2.1 p1b.2.1).bind fun r1=>if r1 then (if p0a.2.2 !=p1b.2.2 then (some false) else (some true)) else (some false))
def fC (p0a:List Yq3) (p1b:List Yq3) (s3:Int):Option (Out Bool Int):=
 if decide (s3<(p0a.length:Int)) then ((aQ p0a s3).bind fun x5=>(aQ p1b s3).bind fun x6=>(jJ (x5.1,x5.2.1,x5.2.2) (x6.1,x6.2.1,x6.2.2)).bind fun r9=>if r9 then (some (.nxt (IntKind.i64.wrap (s3+1)))) else (some (.ret false))) else (some (.brk s3))
def lO (p0a:List Yq3) (p1b:List Yq3):Option Bool:=
 if (p0a.length:Int) !=(p1b.length:Int) then (some false) else (aN (ax (fC p0a p1b) aV 0) (fun r=>some r) (fun s4=>some true))
def mr (p0a:(List Yq2)×(List Yq3)) (p1b:(List Yq2)×(List Yq3)):Option Bool:=
 (nc p0a.1 p1b.1).bind fun r1=>if r1 then ((lO p0a.2 p1b.2).bind fun r2=>if r2 then (some true) else (some false)) else (some false)
def jK (p0a:Int×Int×Int) (p1b:Int×Int×Int):Option Bool:=
 if p0a.1 !=p1b.1 then (some false) else (if p0a.2.1 !=p1b.2.1 then (some false) else (if p0a.2.2 !=p1b.2.2 then (some false) else (some true)))
def fD (p0a:List Gv) (p1b:List Gv) (s3:Int):Option (Out Bool Int):=
 if decide (s3<(p0a.length:Int)) then ((aQ p0a s3).bind fun x5=>(aQ p1b s3).bind fun x6=>(jK (x5.1,x5.2.1,x5.2.2) (x6.1,x6.2.1,x6.2.2)).bind fun r3=>if r3 then (some (.nxt (IntKind.i64.wrap (s3+1)))) else (some (.ret false))) else (some (.brk s3))
def lP (p0a:List Gv) (p1b:List Gv):Option Bool:=
 if (p0a.length:Int) !=(p1b.length:Int) then (some false) else (aN (ax (fD p0a p1b) aV 0) (fun r=>some r) (fun s4=>some true))
def iD (p0a:Yq8×Yq6×Yq7×ByteArray) (p1b:Yq8×Yq6×Yq7×ByteArray):Option Bool:=
 (nE (p0a.1.1,p0a.1.2) (p1b.1.1,p1b.1.2)).bind fun r1=>if r1 then ((mr (p0a.2.1.1,p0a.2.1.2) (p1b.2.1.1,p1b.2.1.2)).bind fun r2=>if r2 then ((lP p0a.2.2.1 p1b.2.2.1).bind fun r3=>if r3 then (if p0a.2.2.2 !=p1b.2.2.2 then (some false) else (some true)) else (some false)) else (some false)) else (some false)
def cx (p0g:(List Int)×(List Yq1)):Option Yq4:=
 (cm 8 ([] :List Int) p0g.1).bind fun z1=>(cm 32 ([] :List Yq1) p0g.2).bind fun z2=>some (z1,z2)
def k7 (p0h:Int×(List Yq4)) (s3:Int×Int×(List Yq4)):Option (Out Yq8 (Int×Int×(List Yq4))):=
 if decide (s3.1<(p0h.2.length:Int)) then ((aQ p0h.2 s3.1).bind fun x3=>(cx (x3.1,x3.2)).bind fun r9=>(cm 48 s3.2.2 ([(r9.1,r9.2)])).bind fun z3=>some (.nxt (IntKind.i64.wrap (s3.1+1),s3.2.1,z3))) else (some (.brk (s3.1,s3.2.1,s3.2.2)))
def qb (p0h:Int×(List Yq4)):Option Yq8:=
 aN (ax (k7 p0h) aV (0,p0h.1,[])) (fun r=>some r) (fun s4=>some (s4.2.1,s4.2.2))
def jx (p0a:Int×(List Bool)×(List (List Int))) (s3:Int×Int×(List Bool)×(List (List Int))):Option (Out Yq2 (Int×Int×(List Bool)×(List (List Int)))):=
 if decide (s3.1<(p0a.2.2.length:Int)) then ((aQ p0a.2.2 s3.1).bind fun x3=>(cm 8 ([] :List Int) x3).bind fun z6=>(cm 24 s3.2.2.2 ([z6])).bind fun z7=>some (.nxt (IntKind.i64.wrap (s3.1+1),s3.2.1,s3.2.2.1,z7))) else (some (.brk (s3.1,s3.2.1,s3.2.2.1,s3.2.2.2)))
def q8 (p0a:Int×(List Bool)×(List (List Int))):Option Yq2:=
 (cm 1 ([] :List Bool) p0a.2.1).bind fun z1=>aN (ax (jx p0a) aV (0,p0a.1,z1,[])) (fun r=>some r) (fun s4=>some (s4.2.1,s4.2.2.1,s4.2.2.2))
def jy (p0r:(List Yq2)×(List Yq3)) (s3:Int×(List Yq2)×(List Yq3)):Option (Out Yq6 Rj):=
 if decide (s3.1<(p0r.1.length:Int)) then ((aQ p0r.1 s3.1).bind fun x3=>(q8 (x3.1,x3.2.1,x3.2.2)).bind fun r9=>(cm 56 s3.2.1 ([(r9.1,r9.2.1,r9.2.2)])).bind fun z3=>some (.nxt (IntKind.i64.wrap (s3.1+1),z3,s3.2.2))) else (some (.brk (s3.1,s3.2.1,s3.2.2)))
def jz (p0r:(List Yq2)×(List Yq3)) (s7:Int×(List Yq2)×(List Yq3)):Option (Out Yq6 Rj):=
 if decide (s7.1<(p0r.2.length:Int)) then ((aQ p0r.2 s7.1).bind fun x6=>(gN x6.2.1).bind fun r15=>(cm 40 s7.2.2 ([(x6.1,r15,x6.2.2)])).bind fun z6=>some (.nxt (IntKind.i64.wrap (s7.1+1),s7.2.1,z6))) else (some (.brk (s7.1,s7.2.1,s7.2.2)))
def q9 (p0r:(List Yq2)×(List Yq3)):Option Yq6:=
 aN (ax (jy p0r) aV (0,[],[])) (fun r=>some r) (fun s4=>aN (ax (jz p0r) aV (0,s4.2.1,s4.2.2)) (fun r=>some r) (fun s8=>some (s8.2.1,s8.2.2)))
def ra (p0e:Yq8×Yq6×Yq7×ByteArray):Option (Yq8×Yq6×Yq7×ByteArray):=
 (qb (p0e.1.1,p0e.1.2)).bind fun r1=>(q9 (p0e.2.1.1,p0e.2.1.2)).bind fun r2=>(cm 24 ([] :List Gv) p0e.2.2.1).bind fun z1=>some ((r1.1,r1.2),(r2.1,r2.2),z1,p0e.2.2.2)
def mP (p0l:List Int):Option (List Int):=
 (cm 8 ([] :List Int) p0l).bind fun z1=>some z1
def dL (p0g:(List Int)×(List Yq1)):Option Yq4:=
 (mP p0g.1).bind fun r1=>(cm 32 ([] :List Yq1) p0g.2).bind fun z1=>some (r1,z1)
def eZ (p0h:Int×(List Yq4)) (s3:Int×Int×(List Yq4)):Option (Out Yq8 (Int×Int×(List Yq4))):=
 if decide (s3.1<(p0h.2.length:Int)) then ((aQ p0h.2 s3.1).bind fun x3=>(dL (x3.1,x3.2)).bind fun r9=>(cm 48 s3.2.2 ([(r9.1,r9.2)])).bind fun z3=>some (.nxt (IntKind.i64.wrap (s3.1+1),s3.2.1,z3))) else (some (.brk (s3.1,s3.2.1,s3.2.2)))
def iE (p0h:Int×(List Yq4)):Option Yq8:=
 aN (ax (eZ p0h) aV (0,p0h.1,[])) (fun r=>some r) (fun s4=>some (s4.2.1,s4.2.2))
def dI (p0a:Int×(List Bool)×(List (List Int))) (s3:Int×Int×(List Bool)×(List (List Int))):Option (Out Yq2 (Int×Int×(List Bool)×(List (List Int)))):=
 if decide (s3.1<(p0a.2.2.length:Int)) then ((aQ p0a.2.2 s3.1).bind fun x3=>(mP x3).bind fun r6=>(cm 24 s3.2.2.2 ([r6])).bind fun z4=>some (.nxt (IntKind.i64.wrap (s3.1+1),s3.2.1,s3.2.2.1,z4))) else (some (.brk (s3.1,s3.2.1,s3.2.2.1,s3.2.2.2)))
def iW (p0a:Int×(List Bool)×(List (List Int))):Option Yq2:=
 (cm 1 ([] :List Bool) p0a.2.1).bind fun z1=>aN (ax (dI p0a) aV (0,p0a.1,z1,[])) (fun r=>some r) (fun s4=>some (s4.2.1,s4.2.2.1,s4.2.2.2))
def dY (p0r:(List Yq2)×(List Yq3)) (s3:Int×(List Yq2)×(List Yq3)):Option (Out Yq6 Rj):=
 if decide (s3.1<(p0r.1.length:Int)) then ((aQ p0r.1 s3.1).bind fun x3=>(iW (x3.1,x3.2.1,x3.2.2)).bind fun r9=>(cm 56 s3.2.1 ([(r9.1,r9.2.1,r9.2.2)])).bind fun z3=>some (.nxt (IntKind.i64.wrap (s3.1+1),z3,s3.2.2))) else (some (.brk (s3.1,s3.2.1,s3.2.2)))
def dZ (p0r:(List Yq2)×(List Yq3)) (s7:Int×(List Yq2)×(List Yq3)):Option (Out Yq6 Rj):=
 if decide (s7.1<(p0r.2.length:Int)) then ((aQ p0r.2 s7.1).bind fun x6=>(fW x6.2.1).bind fun r15=>(cm 40 s7.2.2 ([(x6.1,r15,x6.2.2)])).bind fun z6=>some (.nxt (IntKind.i64.wrap (s7.1+1),s7.2.1,z6))) else (some (.brk (s7.1,s7.2.1,s7.2.2)))
def jL (p0r:(List Yq2)×(List Yq3)):Option Yq6:=
 aN (ax (dY p0r) aV (0,[],[])) (fun r=>some r) (fun s4=>aN (ax (dZ p0r) aV (0,s4.2.1,s4.2.2)) (fun r=>some r) (fun s8=>some (s8.2.1,s8.2.2)))
def mu (p0e:Yq8×Yq6×Yq7×ByteArray):Option (Yq8×Yq6×Yq7×ByteArray):=
 (iE (p0e.1.1,p0e.1.2)).bind fun r1=>(jL (p0e.2.1.1,p0e.2.1.2)).bind fun r2=>(cm 24 ([] :List Gv) p0e.2.2.1).bind fun z1=>some ((r1.1,r1.2),(r2.1,r2.2),z1,p0e.2.2.2)
def k8 (s3:(List Int)×Int×Int):Option (Out (Int×(List Int)) ((List Int)×Int×Int)):=
 if decide (s3.2.2<(s3.1.length:Int)) then ((aQ s3.1 s3.2.2).bind fun x3=>some (.nxt (s3.1.set s3.2.2.toNat s3.2.1,IntKind.i64.wrap (s3.2.1+1),IntKind.i64.wrap (s3.2.2+1)))) else (some (.brk (s3.1,s3.2.1,s3.2.2)))
def mQ (p0a:List Int) (p1k:Int):Option (Int×(List Int)):=
 aN (ax (k8) aV (p0a,p1k,0)) (fun r=>some r) (fun s4=>some (s4.2.1,s4.1))
def jM (s3:(List Yq1)×Int×Int):Option (Out (Int×(List Yq1)) ((List Yq1)×Int×Int)):=
 if decide (s3.2.2<(s3.1.length:Int)) then ((aQ s3.1 s3.2.2).bind fun x9=>(aQ (s3.1.set s3.2.2.toNat (s3.2.1,x9.2.1,x9.2.2.1,x9.2.2.2)) s3.2.2).bind fun x10=>(aQ ((s3.1.set s3.2.2.toNat (s3.2.1,x9.2.1,x9.2.2.1,x9.2.2.2)).set s3.2.2.toNat (x10.1,IntKind.i64.wrap (s3.2.1+1),x10.2.2.1,x10.2.2.2)) s3.2.2).bind fun x11=>(aQ (((s3.1.set s3.2.2.toNat (s3.2.1,x9.2.1,x9.2.2.1,x9.2.2.2)).set s3.2.2.toNat (x10.1,IntKind.i64.wrap (s3.2.1+1),x10.2.2.1,x10.2.2.2)).set s3.2.2.toNat (x11.1,x11.2.1,IntKind.i64.wrap ((IntKind.i64.wrap (s3.2.1+1))+1),x11.2.2.2)) s3.2.2).bind fun x12=>some (.nxt ((((s3.1.set s3.2.2.toNat (s3.2.1,x9.2.1,x9.2.2.1,x9.2.2.2)).set s3.2.2.toNat (x10.1,IntKind.i64.wrap (s3.2.1+1),x10.2.2.1,x10.2.2.2)).set s3.2.2.toNat (x11.1,x11.2.1,IntKind.i64.wrap ((IntKind.i64.wrap (s3.2.1+1))+1),x11.2.2.2)).set s3.2.2.toNat (x12.1,x12.2.1,x12.2.2.1,IntKind.i64.wrap ((IntKind.i64.wrap ((IntKind.i64.wrap (s3.2.1+1))+1))+1)),IntKind.i64.wrap ((IntKind.i64.wrap ((IntKind.i64.wrap ((IntKind.i64.wrap (s3.2.1+1))+1))+1))+1),IntKind.i64.wrap (s3.2.2+1)))) else (some (.brk (s3.1,s3.2.1,s3.2.2)))
def nF (p0a:List Yq1) (p1k:Int):Option (Int×(List Yq1)):=
 aN (ax (jM) aV (p0a,p1k,0)) (fun r=>some r) (fun s4=>some (s4.2.1,s4.1))
def iX (s3:(List Yq4)×Int×Int):Option (Out Yq8 ((List Yq4)×Int×Int)):=
 if decide (s3.2.2<(s3.1.length:Int)) then ((aQ s3.1 s3.2.2).bind fun x5=>(mQ x5.1 s3.2.1).bind fun r10=>(aQ (s3.1.set s3.2.2.toNat (r10.2,x5.2)) s3.2.2).bind fun x6=>(nF x6.2 r10.1).bind fun r12=>some (.nxt ((s3.1.set s3.2.2.toNat (r10.2,x5.2)).set s3.2.2.toNat (x6.1,r12.2),r12.1,IntKind.i64.wrap (s3.2.2+1)))) else (some (.brk (s3.1,s3.2.1,s3.2.2)))
def mw (p0a:List Yq4) (p1k:Int):Option Yq8:=
 aN (ax (iX) aV (p0a,p1k,0)) (fun r=>some r) (fun s4=>some (s4.2.1,s4.1))
def k9 (p0a:Int×(List Yq4)) (p1k:Int):Option (Int×Yq8):=
 (mw p0a.2 p1k).bind fun r1=>some (r1.1,(p0a.1,r1.2))
def jN (s3:(List Bool)×Int×Int):Option (Out (Int×(List Bool)) ((List Bool)×Int×Int)):=
 if decide (s3.2.2<(s3.1.length:Int)) then ((aQ s3.1 s3.2.2).bind fun x3=>some (.nxt (s3.1.set s3.2.2.toNat ((Int.tmod s3.2.1 3)==0),IntKind.i64.wrap (s3.2.1+1),IntKind.i64.wrap (s3.2.2+1)))) else (some (.brk (s3.1,s3.2.1,s3.2.2)))
def nG (p0a:List Bool) (p1k:Int):Option (Int×(List Bool)):=
 aN (ax (jN) aV (p0a,p1k,0)) (fun r=>some r) (fun s4=>some (s4.2.1,s4.1))
def jO (s3:(List (List Int))×Int×Int):Option (Out (Int×(List (List Int))) ((List (List Int))×Int×Int)):=
 if decide (s3.2.2<(s3.1.length:Int)) then ((aQ s3.1 s3.2.2).bind fun x3=>(mQ x3 s3.2.1).bind fun r6=>some (.nxt (s3.1.set s3.2.2.toNat r6.2,r6.1,IntKind.i64.wrap (s3.2.2+1)))) else (some (.brk (s3.1,s3.2.1,s3.2.2)))
def nH (p0a:List (List Int)) (p1k:Int):Option (Int×(List (List Int))):=
 aN (ax (jO) aV (p0a,p1k,0)) (fun r=>some r) (fun s4=>some (s4.2.1,s4.1))
def e7 (s3:(List Yq2)×Int×Int):Option (Out (Int×(List Yq2)) ((List Yq2)×Int×Int)):=
 if decide (s3.2.2<(s3.1.length:Int)) then ((aQ s3.1 s3.2.2).bind fun x7=>(aQ (s3.1.set s3.2.2.toNat (s3.2.1,x7.2.1,x7.2.2)) s3.2.2).bind fun x8=>(nG x8.2.1 (IntKind.i64.wrap (s3.2.1+1))).bind fun r10=>(aQ ((s3.1.set s3.2.2.toNat (s3.2.1,x7.2.1,x7.2.2)).set s3.2.2.toNat (x8.1,r10.2,x8.2.2)) s3.2.2).bind fun x9=>(nH x9.2.2 r10.1).bind fun r12=>some (.nxt (((s3.1.set s3.2.2.toNat (s3.2.1,x7.2.1,x7.2.2)).set s3.2.2.toNat (x8.1,r10.2,x8.2.2)).set s3.2.2.toNat (x9.1,x9.2.1,r12.2),r12.1,IntKind.i64.wrap (s3.2.2+1)))) else (some (.brk (s3.1,s3.2.1,s3.2.2)))
def gT (p0a:List Yq2) (p1k:Int):Option (Int×(List Yq2)):=
 aN (ax (e7) aV (p0a,p1k,0)) (fun r=>some r) (fun s4=>some (s4.2.1,s4.1))
def iY (s3:(List Yq1)×Int×Int):Option (Out (Int×(List Yq1)) ((List Yq1)×Int×Int)):=
 if decide (s3.2.2<(s3.1.length:Int)) then ((aQ s3.1 s3.2.2).bind fun x9=>(aQ (s3.1.set s3.2.2.toNat (s3.2.1,x9.2.1,x9.2.2.1,x9.2.2.2)) s3.2.2).bind fun x10=>(aQ ((s3.1.set s3.2.2.toNat (s3.2.1,x9.2.1,x9.2.2.1,x9.2.2.2)).set s3.2.2.toNat (x10.1,IntKind.i64.wrap (s3.2.1+1),x10.2.2.1,x10.2.2.2)) s3.2.2).bind fun x11=>(aQ (((s3.1.set s3.2.2.toNat (s3.2.1,x9.2.1,x9.2.2.1,x9.2.2.2)).set s3.2.2.toNat (x10.1,IntKind.i64.wrap (s3.2.1+1),x10.2.2.1,x10.2.2.2)).set s3.2.2.toNat (x11.1,x11.2.1,IntKind.i64.wrap ((IntKind.i64.wrap (s3.2.1+1))+1),x11.2.2.2)) s3.2.2).bind fun x12=>some (.nxt ((((s3.1.set s3.2.2.toNat (s3.2.1,x9.2.1,x9.2.2.1,x9.2.2.2)).set s3.2.2.toNat (x10.1,IntKind.i64.wrap (s3.2.1+1),x10.2.2.1,x10.2.2.2)).set s3.2.2.toNat (x11.1,x11.2.1,IntKind.i64.wrap ((IntKind.i64.wrap (s3.2.1+1))+1),x11.2.2.2)).set s3.2.2.toNat (x12.1,x12.2.1,x12.2.2.1,IntKind.i64.wrap ((IntKind.i64.wrap ((IntKind.i64.wrap (s3.2.1+1))+1))+1)),IntKind.i64.wrap ((IntKind.i64.wrap ((IntKind.i64.wrap ((IntKind.i64.wrap (s3.2.1+1))+1))+1))+1),IntKind.i64.wrap (s3.2.2+1)))) else (some (.brk (s3.1,s3.2.1,s3.2.2)))
def my (p0a:List Yq1) (p1k:Int):Option (Int×(List Yq1)):=
 aN (ax (iY) aV (p0a,p1k,0)) (fun r=>some r) (fun s4=>some (s4.2.1,s4.1))
def eC (s3:(List Yq3)×Int×Int):Option (Out (Int×(List Yq3)) ((List Yq3)×Int×Int)):=
 if decide (s3.2.2<(s3.1.length:Int)) then ((aQ s3.1 s3.2.2).bind fun x7=>(aQ (s3.1.set s3.2.2.toNat (s3.2.1,x7.2.1,x7.2.2)) s3.2.2).bind fun x8=>(my x8.2.1 (IntKind.i64.wrap (s3.2.1+1))).bind fun r6=>(aQ ((s3.1.set s3.2.2.toNat (s3.2.1,x7.2.1,x7.2.2)).set s3.2.2.toNat (x8.1,(r6.2),x8.2.2)) s3.2.2).bind fun x9=>some (.nxt (((s3.1.set s3.2.2.toNat (s3.2.1,x7.2.1,x7.2.2)).set s3.2.2.toNat (x8.1,(r6.2),x8.2.2)).set s3.2.2.toNat (x9.1,x9.2.1,r6.1),IntKind.i64.wrap (r6.1+1),IntKind.i64.wrap (s3.2.2+1)))) else (some (.brk (s3.1,s3.2.1,s3.2.2)))
def gu (p0a:List Yq3) (p1k:Int):Option (Int×(List Yq3)):=
 aN (ax (eC) aV (p0a,p1k,0)) (fun r=>some r) (fun s4=>some (s4.2.1,s4.1))
def jP (p0a:(List Yq2)×(List Yq3)) (p1k:Int):Option (Int×Yq6):=
 (gT p0a.1 p1k).bind fun r1=>(gu p0a.2 r1.1).bind fun r2=>some (r2.1,(r1.2,r2.2))
def eD (s3:Yq7×Int×Int):Option (Out (Int×Yq7) (Yq7×Int×Int)):=
 if decide (s3.2.2<(s3.1.length:Int)) then ((aQ s3.1 s3.2.2).bind fun x7=>(aQ (s3.1.set s3.2.2.toNat (s3.2.1,x7.2.1,x7.2.2)) s3.2.2).bind fun x8=>(aQ ((s3.1.set s3.2.2.toNat (s3.2.1,x7.2.1,x7.2.2)).set s3.2.2.toNat (x8.1,IntKind.i64.wrap (s3.2.1+1),x8.2.2)) s3.2.2).bind fun x9=>some (.nxt (((s3.1.set s3.2.2.toNat (s3.2.1,x7.2.1,x7.2.2)).set s3.2.2.toNat (x8.1,IntKind.i64.wrap (s3.2.1+1),x8.2.2)).set s3.2.2.toNat (x9.1,x9.2.1,IntKind.i64.wrap ((IntKind.i64.wrap (s3.2.1+1))+1)),IntKind.i64.wrap ((IntKind.i64.wrap ((IntKind.i64.wrap (s3.2.1+1))+1))+1),IntKind.i64.wrap (s3.2.2+1)))) else (some (.brk (s3.1,s3.2.1,s3.2.2)))
def gx (p0a:List Gv) (p1k:Int):Option (Int×Yq7):=
 aN (ax (eD) aV (p0a,p1k,0)) (fun r=>some r) (fun s4=>some (s4.2.1,s4.1))
def ff (p0a:Yq8×Yq6×Yq7×ByteArray) (p1k:Int):Option (Int×(Yq8×Yq6×Yq7×ByteArray)):=
 (k9 (p0a.1.1,p0a.1.2) p1k).bind fun r1=>(jP (p0a.2.1.1,p0a.2.1.2) r1.1).bind fun r2=>(gx p0a.2.2.1 r2.1).bind fun r3=>some (r3.1,((p0a.1.1,r1.2.2),(r2.2.1,r2.2.2),r3.2,p0a.2.2.2))
def ld (p0a:List Int) (s3:Int×Int):Option Ap:=
 if decide (s3.2<(p0a.length:Int)) then ((aQ p0a s3.2).bind fun x3=>if x3 !=s3.1 then (some (.ret (-1))) else (some (.nxt (IntKind.i64.wrap (s3.1+1),IntKind.i64.wrap (s3.2+1))))) else (some (.brk (s3.1,s3.2)))
def mR (p0a:List Int) (p1k:Int):Option Int:=
 aN (ax (ld p0a) aV (p1k,0)) (fun r=>some r) (fun s4=>some s4.1)
def jQ (p0a:List Yq1) (s3:Int×Int):Option Ap:=
 if decide (s3.2<(p0a.length:Int)) then ((aQ p0a s3.2).bind fun x9=>if x9.1 !=s3.1 then (some (.ret (-1))) else ((aQ p0a s3.2).bind fun x10=>if x10.2.1 !=(IntKind.i64.wrap (s3.1+1)) then (some (.ret (-1))) else ((aQ p0a s3.2).bind fun x11=>if x11.2.2.1 !=(IntKind.i64.wrap ((IntKind.i64.wrap (s3.1+1))+1)) then (some (.ret (-1))) else ((aQ p0a s3.2).bind fun x12=>if x12.2.2.2 !=(IntKind.i64.wrap ((IntKind.i64.wrap ((IntKind.i64.wrap (s3.1+1))+1))+1)) then (some (.ret (-1))) else (some (.nxt (IntKind.i64.wrap ((IntKind.i64.wrap ((IntKind.i64.wrap ((IntKind.i64.wrap (s3.1+1))+1))+1))+1),IntKind.i64.wrap (s3.2+1)))))))) else (some (.brk (s3.1,s3.2)))
def nI (p0a:List Yq1) (p1k:Int):Option Int:=
 aN (ax (jQ p0a) aV (p1k,0)) (fun r=>some r) (fun s4=>some s4.1)
def iZ (p0a:List Yq4) (s3:Int×Int):Option Ap:=
 if decide (s3.2<(p0a.length:Int)) then ((aQ p0a s3.2).bind fun x5=>(mR x5.1 s3.1).bind fun r10=>if decide (r10<0) then (some (.ret (-1))) else ((aQ p0a s3.2).bind fun x6=>(nI x6.2 r10).bind fun r12=>if decide (r12<0) then (some (.ret (-1))) else (some (.nxt (r12,IntKind.i64.wrap (s3.2+1)))))) else (some (.brk (s3.1,s3.2)))
def mz (p0a:List Yq4) (p1k:Int):Option Int:=
 aN (ax (iZ p0a) aV (p1k,0)) (fun r=>some r) (fun s4=>some s4.1)
def lf (p0a:Int×(List Yq4)) (p1k:Int):Option Int:=
 (mz p0a.2 p1k).bind fun r1=>if decide (r1<0) then (some (-1)) else (some r1)
def jR (p0a:List Bool) (s3:Int×Int):Option Ap:=
 if decide (s3.2<(p0a.length:Int)) then ((aQ p0a s3.2).bind fun x3=>if x3 !=((Int.tmod s3.1 3)==0) then (some (.ret (-1))) else (some (.nxt (IntKind.i64.wrap (s3.1+1),IntKind.i64.wrap (s3.2+1))))) else (some (.brk (s3.1,s3.2)))
def nJ (p0a:List Bool) (p1k:Int):Option Int:=
 aN (ax (jR p0a) aV (p1k,0)) (fun r=>some r) (fun s4=>some s4.1)
def jS (p0a:List (List Int)) (s3:Int×Int):Option Ap:=
 if decide (s3.2<(p0a.length:Int)) then ((aQ p0a s3.2).bind fun x3=>(mR x3 s3.1).bind fun r6=>if decide (r6<0) then (some (.ret (-1))) else (some (.nxt (r6,IntKind.i64.wrap (s3.2+1))))) else (some (.brk (s3.1,s3.2)))
def nK (p0a:List (List Int)) (p1k:Int):Option Int:=
 aN (ax (jS p0a) aV (p1k,0)) (fun r=>some r) (fun s4=>some s4.1)
def e8 (p0a:List Yq2) (s3:Int×Int):Option Ap:=
 if decide (s3.2<(p0a.length:Int)) then ((aQ p0a s3.2).bind fun x7=>if x7.1 !=s3.1 then (some (.ret (-1))) else ((aQ p0a s3.2).bind fun x8=>(nJ x8.2.1 (IntKind.i64.wrap (s3.1+1))).bind fun r10=>if decide (r10<0) then (some (.ret (-1))) else ((aQ p0a s3.2).bind fun x9=>(nK x9.2.2 r10).bind fun r12=>if decide (r12<0) then (some (.ret (-1))) else (some (.nxt (r12,IntKind.i64.wrap (s3.2+1))))))) else (some (.brk (s3.1,s3.2)))
def gU (p0a:List Yq2) (p1k:Int):Option Int:=
 aN (ax (e8 p0a) aV (p1k,0)) (fun r=>some r) (fun s4=>some s4.1)
def ja (p0a:List Yq1) (s3:Int×Int):Option Ap:=
 if decide (s3.2<(p0a.length:Int)) then ((aQ p0a s3.2).bind fun x9=>if x9.1 !=s3.1 then (some (.ret (-1))) else ((aQ p0a s3.2).bind fun x10=>if x10.2.1 !=(IntKind.i64.wrap (s3.1+1)) then (some (.ret (-1))) else ((aQ p0a s3.2).bind fun x11=>if x11.2.2.1 !=(IntKind.i64.wrap ((IntKind.i64.wrap (s3.1+1))+1)) then (some (.ret (-1))) else ((aQ p0a s3.2).bind fun x12=>if x12.2.2.2 !=(IntKind.i64.wrap ((IntKind.i64.wrap ((IntKind.i64.wrap (s3.1+1))+1))+1)) then (some (.ret (-1))) else (some (.nxt (IntKind.i64.wrap ((IntKind.i64.wrap ((IntKind.i64.wrap ((IntKind.i64.wrap (s3.1+1))+1))+1))+1),IntKind.i64.wrap (s3.2+1)))))))) else (some (.brk (s3.1,s3.2)))
def mA (p0a:List Yq1) (p1k:Int):Option Int:=
 aN (ax (ja p0a) aV (p1k,0)) (fun r=>some r) (fun s4=>some s4.1)
def eE (p0a:List Yq3) (s3:Int×Int):Option Ap:=
 if decide (s3.2<(p0a.length:Int)) then ((aQ p0a s3.2).bind fun x7=>if x7.1 !=s3.1 then (some (.ret (-1))) else ((aQ p0a s3.2).bind fun x8=>(mA x8.2.1 (IntKind.i64.wrap (s3.1+1))).bind fun r6=>if decide (r6<0) then (some (.ret (-1))) else ((aQ p0a s3.2).bind fun x9=>if x9.2.2 !=r6 then (some (.ret (-1))) else (some (.nxt (IntKind.i64.wrap (r6+1),IntKind.i64.wrap (s3.2+1))))))) else (some (.brk (s3.1,s3.2)))
def gy (p0a:List Yq3) (p1k:Int):Option Int:=
 aN (ax (eE p0a) aV (p1k,0)) (fun r=>some r) (fun s4=>some s4.1)
def jT (p0a:(List Yq2)×(List Yq3)) (p1k:Int):Option Int:=
 (gU p0a.1 p1k).bind fun r1=>if decide (r1<0) then (some (-1)) else ((gy p0a.2 r1).bind fun r2=>if decide (r2<0) then (some (-1)) else (some r2))
def eF (p0a:List Gv) (s3:Int×Int):Option Ap:=
 if decide (s3.2<(p0a.length:Int)) then ((aQ p0a s3.2).bind fun x7=>if x7.1 !=s3.1 then (some (.ret (-1))) else ((aQ p0a s3.2).bind fun x8=>if x8.2.1 !=(IntKind.i64.wrap (s3.1+1)) then (some (.ret (-1))) else ((aQ p0a s3.2).bind fun x9=>if x9.2.2 !=(IntKind.i64.wrap ((IntKind.i64.wrap (s3.1+1))+1)) then (some (.ret (-1))) else (some (.nxt (IntKind.i64.wrap ((IntKind.i64.wrap ((IntKind.i64.wrap (s3.1+1))+1))+1),IntKind.i64.wrap (s3.2+1))))))) else (some (.brk (s3.1,s3.2)))
def gz (p0a:List Gv) (p1k:Int):Option Int:=
 aN (ax (eF p0a) aV (p1k,0)) (fun r=>some r) (fun s4=>some s4.1)
def gO (p0a:Yq8×Yq6×Yq7×ByteArray) (p1k:Int):Option Int:=
 (lf (p0a.1.1,p0a.1.2) p1k).bind fun r1=>if decide (r1<0) then (some (-1)) else ((jT (p0a.2.1.1,p0a.2.1.2) r1).bind fun r2=>if decide (r2<0) then (some (-1)) else ((gz p0a.2.2.1 r2).bind fun r3=>if decide (r3<0) then (some (-1)) else (some r3)))
def rb (p0a:List (Bool×Yq1)) (p1left:Int):Option Int:=
 if decide (IntKind.i64.wrap (p1left - (p0a.length:Int))<0) then (some (-1)) else (some (IntKind.i64.wrap (p1left - (p0a.length:Int))))
def re (p0a:Yq9) (p1left:Int):Option Int:=
 (rb p0a p1left).bind fun r1=>if decide (r1<0) then (some (-1)) else (some r1)
def gF (p0g:(List Int)×(List Yq1)) (p1id:Int) (s3:Int):Option (Out Int Int):=
 if decide (s3<(p0g.2.length:Int)) then ((aQ p0g.2 s3).bind fun x3=>if x3.1==p1id then (some (.ret s3)) else (some (.nxt (IntKind.i64.wrap (s3+1))))) else (some (.brk s3))
def jb (p0g:(List Int)×(List Yq1)) (p1id:Int):Option Int:=
 aN (ax (gF p0g p1id) aV 0) (fun r=>some r) (fun s4=>some (-1))
def jc (p0:(List Int)×(List Yq1)) (p1:Int×Int×Int×Int) (s3:Int):Option (Out (Yq4×Bool) Int):=
 if decide (s3<(p0.2.length:Int)) then ((aQ p0.2 s3).bind fun x3=>if decide (x3.1<p1.1) then (some (.nxt (IntKind.i64.wrap (s3+1)))) else (some (.brk s3))) else (some (.brk s3))
def mB (p0:(List Int)×(List Yq1)) (p1:Int×Int×Int×Int):Option (Yq4×Bool):=
 (cX (p0.1,p0.2)).bind fun r1=>if r1 then ((pX (p0.1,p0.2) (p1.1,p1.2.1,p1.2.2.1,p1.2.2.2)).bind fun r3=>if r3 then ((jb (p0.1,p0.2) p1.1).bind fun r5=>if decide (r5≥0) then ((cx (p0.1,p0.2)).bind fun r7=>some ((r7.1,r7.2),false)) else (if (p0.2.length:Int)==12 then ((cx (p0.1,p0.2)).bind fun r6=>some ((r6.1,r6.2),false)) else (aN (ax (jc p0 p1) aV 0) (fun r=>some r) (fun s4=>(cm 8 ([] :List Int) p0.1).bind fun z1=>(chk (0<=s4/\s4<=(p0.2.length:Int))).bind fun _=>(cm 32 ([] :List Yq1) (p0.2.take s4.toNat)).bind fun z2=>(cm 32 z2 ([(p1.1,p1.2.1,p1.2.2.1,p1.2.2.2)])).bind fun z3=>(chk (0<=s4/\s4<=(p0.2.length:Int))).bind fun _=>(cm 32 z3 (p0.2.drop s4.toNat)).bind fun z4=>some ((z1,z4),true))))) else ((cx (p0.1,p0.2)).bind fun r4=>some ((r4.1,r4.2),false))) else ((cx (p0.1,p0.2)).bind fun r2=>some ((r2.1,r2.2),false))
def mC (p0g:(List Int)×(List Yq1)) (p1id:Int):Option (Yq4×Bool):=
 (jb (p0g.1,p0g.2) p1id).bind fun r1=>(cX (p0g.1,p0g.2)).bind fun r2=>if r2 then (if decide (r1<0) then ((cx (p0g.1,p0g.2)).bind fun r4=>some ((r4.1,r4.2),false)) else ((cm 8 ([] :List Int) p0g.1).bind fun z1=>(chk (0<=r1/\r1<=(p0g.2.length:Int))).bind fun _=>(cm 32 ([] :List Yq1) (p0g.2.take r1.toNat)).bind fun z2=>(chk (0<=IntKind.i64.wrap (r1+1)/\IntKind.i64.wrap (r1+1)<=(p0g.2.length:Int))).bind fun _=>(cm 32 z2 (p0g.2.drop (IntKind.i64.wrap (r1+1)).toNat)).bind fun z3=>some ((z1,z3),true))) else ((cx (p0g.1,p0g.2)).bind fun r3=>some ((r3.1,r3.2),false))
def fg (p0:(List Int)×(List Yq1)) (p1:Yq9) (s5:Int×(List Int)×(List Yq1)):Option (Out (Yq4×Bool) (Int×(List Int)×(List Yq1))):=
 if decide (s5.1<(p1.length:Int)) then (if decide (s5.1<=6) then (vl (S:=(List Int)×(List Yq1)) ((aQ p1 s5.1).bind fun x16=>(aQ p1 s5.1).bind fun x17=>if x17.1 then ((mB (s5.2.1,s5.2.2) (x16.2.1,x16.2.2.1,x16.2.2.2.1,x16.2.2.2.2)).bind fun r42=>if r42.2 then (some (.inr (r42.1.1,r42.1.2))) else ((cx (p0.1,p0.2)).bind fun r43=>some (.inl (.ret ((r43.1,r43.2),false))))) else ((jb (s5.2.1,s5.2.2) x16.2.1).bind fun r37=>if decide (r37<0) then ((cx (p0.1,p0.2)).bind fun r41=>some (.inl (.ret ((r41.1,r41.2),false)))) else ((aQ s5.2.2 r37).bind fun x18=>if (x18.1==x16.2.1)&&((x18.2.1==x16.2.2.1)&&((x18.2.2.1==x16.2.2.2.1)&&((x18.2.2.2==x16.2.2.2.2)&&true))) then ((mC (s5.2.1,s5.2.2) x16.2.1).bind fun r39=>if r39.2 then (some (.inr (r39.1.1,r39.1.2))) else ((cx (p0.1,p0.2)).bind fun r40=>some (.inl (.ret ((r40.1,r40.2),false))))) else ((cx (p0.1,p0.2)).bind fun r38=>some (.inl (.ret ((r38.1,r38.2),false))))))) (fun s7=>some (.nxt (IntKind.i64.wrap (s5.1+1),s7.1,s7.2)))) else (some (.brk (s5.1,s5.2.1,s5.2.2)))) else (some (.brk (s5.1,s5.2.1,s5.2.2)))
def vG (p0:(List Int)×(List Yq1)) (p1:Yq9):Option (Yq4×Bool):=
 (cx (p0.1,p0.2)).bind fun r1=>aN (ax (fg p0 p1) aV (0,r1.1,r1.2)) (fun r=>some r) (fun s6=>some ((s6.2.1,s6.2.2),true))
def mD (p0g:(List Int)×(List Yq1)) (p1b:Yq9):Option (Yq4×Bool):=
 (cX (p0g.1,p0g.2)).bind fun r1=>if r1 then (if decide ((p1b.length:Int)>6) then ((cx (p0g.1,p0g.2)).bind fun r4=>some ((r4.1,r4.2),false)) else ((vG (p0g.1,p0g.2) p1b).bind fun r3=>some ((r3.1.1,r3.1.2),r3.2))) else ((cx (p0g.1,p0g.2)).bind fun r2=>some ((r2.1,r2.2),false))
def iF (p0h:Int×List ((List Int)×List Yq1)) (p1b:List Yq5):Option (UY×Bool):=
 (qb (p0h.1,p0h.2)).bind fun r0=>(m_s_IsValidHistory (p0h.1,p0h.2)).bind fun r1=>if r1 then ((bJ (p0h.1,p0h.2)).bind fun r2=>if r2==999 then (some ((r0.1,r0.2),false)) else ((aQ p0h.2 (IntKind.i64.wrap ((p0h.2.length:Int) - 1))).bind fun x5=>(mD (x5.1,x5.2) p1b).bind fun r6=>if r6.2 then ((cm 48 r0.2 ([(r6.1.1,r6.1.2)])).bind fun z7=>Option.bind ((if decide ((z7.length:Int)>8) then ((chk (And ((0:Int)<=1) (1<=(z7.length:Int)))).bind fun _=>some (IntKind.i64.wrap (r0.1+1),z7.drop 1)) else (some (r0.1,z7)):Option UY)) (fun s9=>some ((s9.1,s9.2),true))) else (some ((r0.1,r0.2),false)))) else (some ((r0.1,r0.2),false))
def lh (p0e:UY×ZQ×Yq7×ByteArray) (p1b:List Yq5):Option ((UY×ZQ×Yq7×ByteArray)×Bool):=
 (ra ((p0e.1.1,p0e.1.2),(p0e.2.1.1,p0e.2.1.2),p0e.2.2.1,p0e.2.2.2)).bind fun r0=>(iS ((p0e.1.1,p0e.1.2),(p0e.2.1.1,p0e.2.1.2),p0e.2.2.1,p0e.2.2.2)).bind fun r1=>if r1 then ((iF (p0e.1.1,p0e.1.2) p1b).bind fun r2=>if r2.2 then ((bJ (r2.1.1,r2.1.2)).bind fun r5=>(dD r5 p1b).bind fun r6=>if decide ((IntKind.i64.wrap (((p0e.2.2.2.size:Nat):Int)+((r6.size:Nat):Int)))>4000) then (some (((r0.1.1,r0.1.2),(r0.2.1.1,r0.2.1.2),r0.2.2.1,r0.2.2.2),false)) else ((lZ p0e.2.2.2 r6).bind fun z7=>some (((r2.1.1,r2.1.2),(r0.2.1.1,r0.2.1.2),r0.2.2.1,z7),true))) else (some (((r0.1.1,r0.1.2),(r0.2.1.1,r0.2.1.2),r0.2.2.1,r0.2.2.2),false))) else (some (((r0.1.1,r0.1.2),(r0.2.1.1,r0.2.1.2),r0.2.2.1,r0.2.2.2),false))
def pj (p0a:Bool×Yq1):Option (Bool×Yq1):=
 (p8 (p0a.2.1,p0a.2.2.1,p0a.2.2.2.1,p0a.2.2.2.2)).bind fun r1=>some (p0a.1,(r1.1,r1.2.1,r1.2.2.1,r1.2.2.2))
def jU (p0a:List (Bool×Yq1)) (s3:Yq9×Int):Option (Out Yq9 (Yq9×Int)):=
 if decide (s3.2<(p0a.length:Int)) then ((aQ p0a s3.2).bind fun x6=>(pj (x6.1,(x6.2.1,x6.2.2.1,x6.2.2.2.1,x6.2.2.2.2))).bind fun r3=>(aQ s3.1 s3.2).bind fun x7=>some (.nxt (s3.1.set s3.2.toNat (r3.1,(r3.2.1,r3.2.2.1,r3.2.2.2.1,r3.2.2.2.2)),IntKind.i64.wrap (s3.2+1)))) else (some (.brk (s3.1,s3.2)))
def nL (p0a:List (Bool×Yq1)):Option Yq9:=
 (mkI 40 (p0a.length:Int) ((false,(0,0,0,0)):Bool×Yq1)).bind fun x1=>aN (ax (jU p0a) aV (x1,0)) (fun r=>some r) (fun s4=>some s4.1)
def j9 (p0a:Yq9):Option Yq9:=
 (nL p0a).bind fun r1=>some r1
def ep (p0s:List Yq1) (p1f:Yq1->Option Bool) (s3:Int):Option (Out Int Int):=
 if decide (s3<(p0s.length:Int)) then ((aQ p0s s3).bind fun x3=>(p1f (x3.1,x3.2.1,x3.2.2.1,x3.2.2.2)).bind fun r3=>if r3 then (some (.ret s3)) else (some (.nxt (IntKind.i64.wrap (s3+1))))) else (some (.brk s3))
def c7 (p0s:List Yq1) (p1f:Yq1->Option Bool):Option Int:=
 aN (ax (ep p0s p1f) aV 0) (fun r=>some r) (fun s4=>some (-1))
def oy (p0e:Int×Int×Int×Int) (q0:Int):Option Bool:=
 some (p0e.1==q0)
def lj (p0g:(List Int)×(List Yq1)) (p1id:Int):Option Int:=
 (c7 p0g.2 (fun a0=>oy a0 p1id)).bind fun r1=>some r1
def cC (p0:List Yq1) (p1:Int) (p2:List Yq1):Option ((List Yq1)×(List Yq1)):=R.Xe 32 p0 p1 p2
def qc (p1e:Int×Int×Int×Int) (r0:(List Int)×List Yq1) (s5:Int):Option (Out (((List Int)×List Yq1)×Bool) Int):=
 if decide (s5<(r0.2.length:Int)) then ((aQ r0.2 s5).bind fun x7=>if decide (x7.1<p1e.1) then (some (.nxt (IntKind.i64.wrap (s5+1)))) else (some (.brk s5))) else (some (.brk s5))
def mE (p0g:(List Int)×List Yq1) (p1e:Int×Int×Int×Int):Option (((List Int)×List Yq1)×Bool):=
 (dL (p0g.1,p0g.2)).bind fun r0=>(bK (p0g.1,p0g.2)).bind fun r1=>if r1 then ((fP (p1e.1,p1e.2.1,p1e.2.2.1,p1e.2.2.2) (p0g.1.length:Int)).bind fun r2=>if r2 then ((lj (p0g.1,p0g.2) p1e.1).bind fun r3=>if decide (r3≥0) then (some ((r0.1,r0.2),false)) else (if (p0g.2.length:Int)==12 then (some ((r0.1,r0.2),false)) else (aN (ax (qc p1e r0) aV 0) (fun r8=>some r8) (fun s9=>(cC r0.2 s9 ([(p1e.1,p1e.2.1,p1e.2.2.1,p1e.2.2.2)])).bind fun r10=>some ((r0.1,r10.1),true))))) else (some ((r0.1,r0.2),false))) else (some ((r0.1,r0.2),false))
def bz (p0s:List Yq1) (p1v:Int×Int×Int×Int) (s3:Int):Option (Out Int Int):=
 if decide (s3<(p0s.length:Int)) then ((aQ p0s s3).bind fun x3=>if ((p1v.1==x3.1)&&((p1v.2.1==x3.2.1)&&((p1v.2.2.1==x3.2.2.1)&&((p1v.2.2.2==x3.2.2.2)&&true)))) then (some (.ret s3)) else (some (.nxt (IntKind.i64.wrap (s3+1))))) else (some (.brk s3))
def dM (p0s:List Yq1) (p1v:Int×Int×Int×Int):Option Int:=
 aN (ax (bz p0s p1v) aV 0) (fun r=>some r) (fun s4=>some (-1))
def cf (p0s:List Yq1) (p1v:Int×Int×Int×Int):Option Bool:=
 (dM p0s (p1v.1,p1v.2.1,p1v.2.2.1,p1v.2.2.2)).bind fun r1=>some (decide (r1≥0))
def cD (p0:List Yq1) (p1 p2:Int):Option (List Yq1):=R.ZO p0 p1 p2
def mF (p0g:(List Int)×List Yq1) (p1id:Int):Option (((List Int)×List Yq1)×Bool):=
 (dL (p0g.1,p0g.2)).bind fun r0=>(lj (p0g.1,p0g.2) p1id).bind fun r1=>if decide (r1<0) then (some ((r0.1,r0.2),false)) else ((bK (p0g.1,p0g.2)).bind fun r2=>if r2 then ((cD r0.2 r1 (IntKind.i64.wrap (r1+1))).bind fun r3=>some ((r0.1,r3),true)) else (some ((r0.1,r0.2),false)))
def bV (p0g:(List Int)×(List Yq1)) (p1b:Yq9) (s5:Int×(List Int)×(List Yq1)):Option (Out (Yq4×Bool) (Int×(List Int)×(List Yq1))):=
 if decide (s5.1<(p1b.length:Int)) then ((aQ p1b s5.1).bind fun x3=>Option.bind ((if x3.1 then ((mE (s5.2.1,s5.2.2) (x3.2.1,x3.2.2.1,x3.2.2.2.1,x3.2.2.2.2)).bind fun r22=>some (r22.2,r22.1.1,r22.1.2)) else ((cf s5.2.2 (x3.2.1,x3.2.2.1,x3.2.2.2.1,x3.2.2.2.2)).bind fun r20=>if r20 then ((mF (s5.2.1,s5.2.2) x3.2.1).bind fun r21=>some (r21.2,r21.1.1,r21.1.2)) else (some (false,s5.2.1,s5.2.2))):Option (Bool×(List Int)×(List Yq1)))) (fun s7=>if s7.1 then (some (.nxt (IntKind.i64.wrap (s5.1+1),s7.2.1,s7.2.2))) else ((dL (p0g.1,p0g.2)).bind fun r23=>some (.ret ((r23.1,r23.2),false))))) else (some (.brk (s5.1,s5.2.1,s5.2.2)))
def mG (p0g:(List Int)×(List Yq1)) (p1b:Yq9):Option (Yq4×Bool):=
 (dL (p0g.1,p0g.2)).bind fun r1=>(bK (p0g.1,p0g.2)).bind fun r2=>if r2 then (if decide ((p1b.length:Int)>6) then (some ((r1.1,r1.2),false)) else (aN (ax (bV p0g p1b) aV (0,r1.1,r1.2)) (fun r=>some r) (fun s6=>some ((s6.2.1,s6.2.2),true)))) else (some ((r1.1,r1.2),false))
def iG (p0h:Int×List ((List Int)×List Yq1)) (p1b:List Yq5):Option (UY×Bool):=
 (iE (p0h.1,p0h.2)).bind fun r0=>(cd (p0h.1,p0h.2)).bind fun r1=>if r1==0 then (some ((r0.1,r0.2),false)) else (if r1==999 then (some ((r0.1,r0.2),false)) else ((aQ p0h.2 (IntKind.i64.wrap ((p0h.2.length:Int) - 1))).bind fun x4=>(mG (x4.1,x4.2) p1b).bind fun r5=>if r5.2 then ((cm 48 r0.2 ([(r5.1.1,r5.1.2)])).bind fun z6=>Option.bind ((if decide ((z6.length:Int)>8) then ((chk (And ((0:Int)<=1) (1<=(z6.length:Int)))).bind fun _=>some (IntKind.i64.wrap (r0.1+1),z6.drop 1)) else (some (r0.1,z6)):Option UY)) (fun s8=>some ((s8.1,s8.2),true))) else (some ((r0.1,r0.2),false))))
def iH (p0e:UY×ZQ×Yq7×ByteArray) (p1b:List Yq5):Option ((UY×ZQ×Yq7×ByteArray)×Bool):=
 (mu ((p0e.1.1,p0e.1.2),(p0e.2.1.1,p0e.2.1.2),p0e.2.2.1,p0e.2.2.2)).bind fun r0=>(iV ((p0e.1.1,p0e.1.2),(p0e.2.1.1,p0e.2.1.2),p0e.2.2.1,p0e.2.2.2)).bind fun r1=>if r1 then ((iG (p0e.1.1,p0e.1.2) p1b).bind fun r2=>if r2.2 then ((cd (r2.1.1,r2.1.2)).bind fun r6=>(eP r6 p1b).bind fun r7=>(lZ p0e.2.2.2 r7).bind fun z8=>if decide (((z8.size:Nat):Int)>4000) then (some (((r0.1.1,r0.1.2),(r0.2.1.1,r0.2.1.2),r0.2.2.1,r0.2.2.2),false)) else (some (((r2.1.1,r2.1.2),(r0.2.1.1,r0.2.1.2),r0.2.2.1,z8),true))) else (some (((r0.1.1,r0.1.2),(r0.2.1.1,r0.2.1.2),r0.2.2.1,r0.2.2.2),false))) else (some (((r0.1.1,r0.1.2),(r0.2.1.1,r0.2.1.2),r0.2.2.1,r0.2.2.2),false))
def pn (p0a:Bool×Yq1) (p1b:Bool×Yq1):Option Bool:=
 if p0a.1 !=p1b.1 then (some false) else ((qa (p0a.2.1,p0a.2.2.1,p0a.2.2.2.1,p0a.2.2.2.2) (p1b.2.1,p1b.2.2.1,p1b.2.2.2.1,p1b.2.2.2.2)).bind fun r1=>if r1 then (some true) else (some false))
def jV (p0a:List (Bool×Yq1)) (p1b:List (Bool×Yq1)) (s3:Int):Option (Out Bool Int):=
 if decide (s3<(p0a.length:Int)) then ((aQ p0a s3).bind fun x5=>(aQ p1b s3).bind fun x6=>(pn (x5.1,(x5.2.1,x5.2.2.1,x5.2.2.2.1,x5.2.2.2.2)) (x6.1,(x6.2.1,x6.2.2.1,x6.2.2.2.1,x6.2.2.2.2))).bind fun r3=>if r3 then (some (.nxt (IntKind.i64.wrap (s3+1)))) else (some (.ret false))) else (some (.brk s3))
def rf (p0a:List (Bool×Yq1)) (p1b:List (Bool×Yq1)):Option Bool:=
 if (p0a.length:Int) !=(p1b.length:Int) then (some false) else (aN (ax (jV p0a p1b) aV 0) (fun r=>some r) (fun s4=>some true))
def rh (p0a:Yq9) (p1b:Yq9):Option Bool:=
 (rf p0a p1b).bind fun r1=>if r1 then (some true) else (some false)
def gV (s3:Yq9×Int×Int):Option (Out (Int×Yq9) (Yq9×Int×Int)):=
 if decide (s3.2.2<(s3.1.length:Int)) then ((aQ s3.1 s3.2.2).bind fun x11=>(aQ (s3.1.set s3.2.2.toNat ((Int.tmod s3.2.1 3)==0,x11.2)) s3.2.2).bind fun x12=>(aQ ((s3.1.set s3.2.2.toNat ((Int.tmod s3.2.1 3)==0,x11.2)).set s3.2.2.toNat (x12.1,(IntKind.i64.wrap (s3.2.1+1),x12.2.2.1,x12.2.2.2.1,x12.2.2.2.2))) s3.2.2).bind fun x13=>(aQ (((s3.1.set s3.2.2.toNat ((Int.tmod s3.2.1 3)==0,x11.2)).set s3.2.2.toNat (x12.1,(IntKind.i64.wrap (s3.2.1+1),x12.2.2.1,x12.2.2.2.1,x12.2.2.2.2))).set s3.2.2.toNat (x13.1,(x13.2.1,IntKind.i64.wrap ((IntKind.i64.wrap (s3.2.1+1))+1),x13.2.2.2.1,x13.2.2.2.2))) s3.2.2).bind fun x14=>(aQ ((((s3.1.set s3.2.2.toNat ((Int.tmod s3.2.1 3)==0,x11.2)).set s3.2.2.toNat (x12.1,(IntKind.i64.wrap (s3.2.1+1),x12.2.2.1,x12.2.2.2.1,x12.2.2.2.2))).set s3.2.2.toNat (x13.1,(x13.2.1,IntKind.i64.wrap ((IntKind.i64.wrap (s3.2.1+1))+1),x13.2.2.2.1,x13.2.2.2.2))).set s3.2.2.toNat (x14.1,(x14.2.1,x14.2.2.1,IntKind.i64.wrap ((IntKind.i64.wrap ((IntKind.i64.wrap (s3.2.1+1))+1))+1),x14.2.2.2.2))) s3.2.2).bind fun x15=>some (.nxt (((((s3.1.set s3.2.2.toNat ((Int.tmod s3.2.1 3)==0,x11.2)).set s3.2.2.toNat (x12.1,(IntKind.i64.wrap (s3.2.1+1),x12.2.2.1,x12.2.2.2.1,x12.2.2.2.2))).set s3.2.2.toNat (x13.1,(x13.2.1,IntKind.i64.wrap ((IntKind.i64.wrap (s3.2.1+1))+1),x13.2.2.2.1,x13.2.2.2.2))).set s3.2.2.toNat (x14.1,(x14.2.1,x14.2.2.1,IntKind.i64.wrap ((IntKind.i64.wrap ((IntKind.i64.wrap (s3.2.1+1))+1))+1),x14.2.2.2.2))).set s3.2.2.toNat (x15.1,(x15.2.1,x15.2.2.1,x15.2.2.2.1,IntKind.i64.wrap ((IntKind.i64.wrap ((IntKind.i64.wrap ((IntKind.i64.wrap (s3.2.1+1))+1))+1))+1))),IntKind.i64.wrap ((IntKind.i64.wrap ((IntKind.i64.wrap ((IntKind.i64.wrap ((IntKind.i64.wrap (s3.2.1+1))+1))+1))+1))+1),IntKind.i64.wrap (s3.2.2+1)))) else (some (.brk (s3.1,s3.2.1,s3.2.2)))
def ln (p0a:List (Bool×Yq1)) (p1k:Int):Option (Int×Yq9):=
 aN (ax (gV) aV (p0a,p1k,0)) (fun r=>some r) (fun s4=>some (s4.2.1,s4.1))
def nM (p0a:Yq9) (p1k:Int):Option (Int×(Yq9)):=
 (ln p0a p1k).bind fun r1=>some (r1.1,r1.2)
def eG (p0:Yq8×Yq6×Yq7×ByteArray) (p1:Yq9):Option Bool:=
 (pb ((p0.1.1,p0.1.2),(p0.2.1.1,p0.2.1.2),p0.2.2.1,p0.2.2.2) 1048576).bind fun r1=>if decide (r1<0) then (some true) else ((re p1 r1).bind fun r2=>if decide (r2<0) then (some true) else ((iy ((p0.1.1,p0.1.2),(p0.2.1.1,p0.2.1.2),p0.2.2.1,p0.2.2.2)).bind fun r3=>(j9 p1).bind fun r4=>(lh ((r3.1.1,r3.1.2),(r3.2.1.1,r3.2.1.2),r3.2.2.1,r3.2.2.2) r4).bind fun r5=>(iy ((p0.1.1,p0.1.2),(p0.2.1.1,p0.2.1.2),p0.2.2.1,p0.2.2.2)).bind fun r6=>(j9 p1).bind fun r7=>(iH ((r6.1.1,r6.1.2),(r6.2.1.1,r6.2.1.2),r6.2.2.1,r6.2.2.2) r7).bind fun r8=>(iD ((r8.1.1.1,r8.1.1.2),(r8.1.2.1.1,r8.1.2.1.2),r8.1.2.2.1,r8.1.2.2.2) ((r5.1.1.1,r5.1.1.2),(r5.1.2.1.1,r5.1.2.1.2),r5.1.2.2.1,r5.1.2.2.2)).bind fun r9=>if r9 then (if r8.2 !=r5.2 then (some false) else ((iy ((p0.1.1,p0.1.2),(p0.2.1.1,p0.2.1.2),p0.2.2.1,p0.2.2.2)).bind fun r10=>(iD ((r6.1.1,r6.1.2),(r6.2.1.1,r6.2.1.2),r6.2.2.1,r6.2.2.2) ((r10.1.1,r10.1.2),(r10.2.1.1,r10.2.1.2),r10.2.2.1,r10.2.2.2)).bind fun r11=>if r11 then ((j9 p1).bind fun r12=>(rh r7 r12).bind fun r13=>if r13 then ((ff ((r6.1.1,r6.1.2),(r6.2.1.1,r6.2.1.2),r6.2.2.1,r6.2.2.2) 1).bind fun r14=>(nM r7 r14.1).bind fun r15=>if decide (r15.1<0) then (some false) else ((iD ((r8.1.1.1,r8.1.1.2),(r8.1.2.1.1,r8.1.2.1.2),r8.1.2.2.1,r8.1.2.2.2) ((r5.1.1.1,r5.1.1.2),(r5.1.2.1.1,r5.1.2.1.2),r5.1.2.2.1,r5.1.2.2.2)).bind fun r16=>if r16 then (if r8.2 !=r5.2 then (some false) else ((ff ((r8.1.1.1,r8.1.1.2),(r8.1.2.1.1,r8.1.2.1.2),r8.1.2.2.1,r8.1.2.2.2) 1).bind fun r17=>(gO ((r8.1.1.1,r17.2.1.2),(r17.2.2.1.1,r17.2.2.1.2),r17.2.2.2.1,r8.1.2.2.2) 1).bind fun r18=>if decide (r18<0) then (some false) else (if r18 !=r17.1 then (some false) else ((iy ((p0.1.1,p0.1.2),(p0.2.1.1,p0.2.1.2),p0.2.2.1,p0.2.2.2)).bind fun r19=>(j9 p1).bind fun r20=>(iH ((r19.1.1,r19.1.2),(r19.2.1.1,r19.2.1.2),r19.2.2.1,r19.2.2.2) r20).bind fun r21=>(iD ((r21.1.1.1,r21.1.1.2),(r21.1.2.1.1,r21.1.2.1.2),r21.1.2.2.1,r21.1.2.2.2) ((r5.1.1.1,r5.1.1.2),(r5.1.2.1.1,r5.1.2.1.2),r5.1.2.2.1,r5.1.2.2.2)).bind fun r22=>if r22 then (if r21.2 !=r5.2 then (some false) else ((gO ((r8.1.1.1,r17.2.1.2),(r17.2.2.1.1,r17.2.2.1.2),r17.2.2.2.1,r8.1.2.2.2) 1).bind fun r23=>if decide (r23<0) then (some false) else (if r23 !=r17.1 then (some false) else (some true)))) else (some false))))) else (some false))) else (some false)) else (some false))) else (some false)))
end D
end Go.Proofs.YtilionjghdjbdaaGreatDoor
