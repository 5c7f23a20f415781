/- FnExactAuditAnswers: for every input the law returns true and changes nothing that was there. Part 5 of 8. -/
import Derived.Test.YtcmpdlhbliolaaaGreatAC3
set_option linter.unusedVariables false
set_option linter.unusedSimpArgs false
set_option linter.unnecessarySimpa false
set_option linter.unusedSectionVars false
set_option maxRecDepth 1000000
namespace Go.Proofs.YtcmpdlhbliolaaaGreat
namespace R
open Go.RowKit
open D
def KS (i:Nat):(p:PM)→p.den→AV
 | .rd t,d=>Je i t d
 | .ow t,d=>Jy (iY i [] t d)
 | .fn a b,d=>.one (.fn ⟨i,[]⟩ a b d)
 | .cap T t,d=>.one (.fz ⟨i,[]⟩ T t d 0)
 | .capf T a b,d=>.one (.fzf ⟨i,[]⟩ T a b d)
 | .ptr _ _,_=>.one (.ptr ⟨i,[]⟩ 0)
 | .eat t,d=>Jy (iY i [] t d)
 | .fk g,_=>.one (.val (.func (.func g) #[] #[]))
def Gi (i:Nat):(p:PM)→p.den→List (Hdr×Chk)
 | .ow t,d=>jO i [] t d
 | .ptr T t,d=>[(⟨i,[]⟩,.box T t d)]
 | .eat t,d=>jO i [] t d
 | _,_=>[]
def Gj:(i:Nat)→(ps:List PM)→denP ps→List (Nat×Nat×AV)
 | _,[],_=>[]
 | i,p::ps,d=>(i,i,KS i p d.1)::Gj (i+1) ps d.2
def CC:(i:Nat)→(ps:List PM)→denP ps→List Ent
 | _,[],_=>[]
 | i,p::ps,d=>(Gi i p d.1).map (fun g=>(g.1,i,g.2))++CC (i+1) ps d.2
def za (ps:List PM) (d:denP ps):Sg:=⟨Gj 0 ps d,CC 0 ps d,ps.length⟩
def W6 (P:Program) (w0:World) (J:Hp) (θ:Th) (n i:Nat):(p:PM)→Value→p.den→Prop
 | .ow t,v,d=>(iY i [] t d).2.map (·.v θ)=gR t.isProd v∧ ∀x∈(iY i [] t d).2,x.ok P w0 J θ n
 | .ptr _ _,v,_=>hv θ ⟨i,[]⟩=v∧i<n
 | _,_,_=>True
def StF (P:Program) (w0:World) (J:Hp) (θ:Th) (n:Nat):(i:Nat)→(ps:List PM)→List Value→denP ps→Prop
 | i,p::ps,v::vs,d=>W6 P w0 J θ n i p v d.1∧StF P w0 J θ n (i+1) ps vs d.2
 | _,_,_,_=>True
section
variable {P:Program} {w0 w:World} {J:Hp} {θ:Th} {n:Nat} {C:List Ch}
theorem uU {id:Nat} {pre:List Nat} {t:Ty} {d:t.den} : ∀g∈jO id pre t d,IM g.2:=fP t d 0
theorem KT {p:PM} {i:Nat} {v:Value} {d:p.den} {ps:List PM} {vs:List Value} {e:denP ps} (hi:i<n) (hθ:θ i=v) (h:VH P w0 J p v d) (hS:St J w0 w (owCh (p::ps) (v::vs) (d,e)++C)) :
  (∀chs,(KS i p d).ok P w0 J θ n chs)∧(KS i p d).v θ=v∧St J w0 w ((Gi i p d).map (fun g=>toCh P θ (g.1,i,g.2))++(owCh ps vs e++C))∧(∀g∈Gi i p d,IM g.2∧g.1.id=i)∧W6 P w0 J θ n i p v d:=by
 cases p with
 | rd t =>
  obtain ⟨cs,h1,h2⟩:=h
  have hav:=fun chs=>nE (P:=P) (w0:=w0) (J:=J) (chs:=chs) hi hθ t d cs h2 h1
  exact ⟨fun chs=>(hav chs).1,(hav []).2,hS,fun g hg=>(by cases hg),trivial⟩
 | fn a b =>
  have hh:hv θ ⟨i,[]⟩=v:=hθ
  exact ⟨fun chs=>⟨hi,by rw[hh];exact h⟩,hh,hS,fun g hg=>(by cases hg),trivial⟩
 | cap T t =>
  obtain ⟨b,rfl,cells,h1,h2⟩:=h
  have hh:hv θ ⟨i,[]⟩= .pointer (some ⟨b,0,none⟩):=hθ
  refine ⟨fun chs=>⟨hi,cells,by rw[hh];exact h1,h2⟩,?_,hS,fun g hg=>(by cases hg),trivial⟩
  show Value.pointer (some ⟨bk (hv θ ⟨i,[]⟩),0,none⟩)=_
  rw[hh];rfl
 | capf T x y =>
  obtain ⟨b,rfl,u,h1,h2⟩:=h
  have hh:hv θ ⟨i,[]⟩= .pointer (some ⟨b,0,none⟩):=hθ
  refine ⟨fun chs=>⟨hi,u,by rw[hh];exact h1,h2⟩,?_,hS,fun g hg=>(by cases hg),trivial⟩
  show Value.pointer (some ⟨bk (hv θ ⟨i,[]⟩),0,none⟩)=_
  rw[hh];rfl
 | ptr T t =>
  obtain ⟨b,rfl⟩:=h
  have hh:hv θ ⟨i,[]⟩= .pointer (some ⟨b,0,none⟩):=hθ
  refine ⟨fun chs=>hi,?_,?_,fun g hg=>by obtain rfl:=List.mem_singleton.1 hg;exact ⟨trivial,rfl⟩,hh,hi⟩
  ·show Value.pointer (some ⟨bk (hv θ ⟨i,[]⟩),0,none⟩)=_
   rw[hh];rfl
  ·show St J w0 w (Ch.box (bk (hv θ ⟨i,[]⟩)) T t.rep d::_)
   rw[hh];exact hS
 | ow t =>
  have hS:St J w0 w (Ch.own t.rep (gR t.isProd v) d::(owCh ps vs e++C)):=hS
  obtain ⟨k1,k2,k3,k4,k5⟩:=sM (P:=P) (m:=i) (pre:=[]) (id:=i) (n:=n) hi (show hv θ ⟨i,[]⟩=v from hθ) h hS
  have q:=fun chs=>As (P:=P) (w0:=w0) (J:=J) (θ:=θ) (n:=n) (chs:=chs) (iY i [] t d) (fun e=>pI e) k1
  exact ⟨fun chs=>(q chs).1,(q []).2.trans k3,k5,fun g hg=>⟨uU g hg,k4 g hg⟩,k2,k1⟩
 | eat t =>
  have hS:St J w0 w (Ch.own t.rep (gR t.isProd v) d::(owCh ps vs e++C)):=hS
  obtain ⟨k1,k2,k3,k4,k5⟩:=sM (P:=P) (m:=i) (pre:=[]) (id:=i) (n:=n) hi (show hv θ ⟨i,[]⟩=v from hθ) h hS
  have q:=fun chs=>As (P:=P) (w0:=w0) (J:=J) (θ:=θ) (n:=n) (chs:=chs) (iY i [] t d) (fun e=>pI e) k1
  exact ⟨fun chs=>(q chs).1,(q []).2.trans k3,k5,fun g hg=>⟨uU g hg,k4 g hg⟩,trivial⟩
 | fk g =>
  obtain rfl:=h
  exact ⟨fun chs=>rfl,rfl,hS,fun g hg=>(by cases hg),trivial⟩
theorem Gk: ∀ {ps:List PM} {i:Nat} {vs:List Value} {d:denP ps} {C:List Ch},PArgs P w0 J ps vs d→(∀j v,vs[j]? =some v→θ (i+j)=v)→i+ps.length≤n→St J w0 w (owCh ps vs d++C)→
  (∀e∈Gj i ps d,(∀chs,e.2.2.ok P w0 J θ n chs)∧i≤e.1∧e.2.1=e.1∧e.1<i+ps.length∧vs[e.1 - i]? =some (e.2.2.v θ))∧((Gj i ps d).Pairwise fun a b=>a.2.1≠b.2.1)∧St J w0 w ((CC i ps d).map (toCh P θ)++C)∧(∀e∈CC i ps d,∀chs,okE P w0 J θ n chs e)∧StF P w0 J θ n i ps vs d
 | [],i,vs,d,C,h,_,_,hS=>by
  have h:vs= []:=h
  subst h
  exact ⟨fun e he=>(by cases he),List.Pairwise.nil,hS,fun e he=>(by cases he),trivial⟩
 | p::ps,i,vs,d,C,h,hθ,hn,hS=>by
  obtain ⟨v,r,rfl,h1,h3⟩:=h
  rw[List.length_cons] at hn
  obtain ⟨a1,a2,a3,a4,a5⟩:=KT (n:=n) (i:=i) (θ:=θ) (e:=d.2) (show i<n by omega) (hθ 0 v rfl) h1 hS
  obtain ⟨k1,k2,k3,k4,k5⟩:=Gk (i:=i+1) h3 (fun j u hj=>by
   have:=hθ (j+1) u hj
   rwa [show i+(j+1)=i+1+j from by omega] at this) (by omega) (a3.perm (List.perm_append_comm_assoc _ _ _))
  refine ⟨fun e he=>?_,List.pairwise_cons.2 ⟨fun e he hh=>?_,k2⟩,?_,fun e he chs=>?_,a5,k5⟩
  ·rcases List.mem_cons.1 he with rfl | he
   ·exact ⟨a1,Nat.le_refl _,rfl,by rw[List.length_cons];show i<_;omega,by show (v::r)[i - i]? =_;rw[Nat.sub_self,a2];rfl⟩
   ·obtain ⟨q1,q2,q3,q4,q5⟩:=k1 e he
    refine ⟨q1,by omega,q3,by rw[List.length_cons];omega,?_⟩
    rw[show e.1 - i=(e.1 - (i+1))+1 from by omega];exact q5
  ·have:=k1 e he
   have hh:i=e.2.1:=hh
   omega
  ·show St J w0 w (((Gi i p d.1).map _++CC (i+1) ps d.2).map (toCh P θ)++C)
   rw[List.map_append,List.map_map]
   refine k3.perm ?_
   rw[List.append_assoc]
   exact List.perm_append_comm_assoc _ _ _
  ·rcases List.mem_append.1 he with he | he
   ·obtain ⟨g,hg,rfl⟩:=List.mem_map.1 he
    obtain ⟨g1,g2⟩:=a4 g hg
    exact wx g1 (by omega) (by omega)
   ·exact k4 e he chs
theorem CD: ∀ {ps:List PM} {vs:List Value} {d:denP ps},PArgs P w0 J ps vs d→vs.length=ps.length
 | [],vs,d,h=>by
  have h:vs= []:=h
  subst h;rfl
 | p::ps,vs,d,h=>by
  obtain ⟨v,r,rfl,h1,h3⟩:=h
  simpa using CD h3
end
def Sd (tt:TT) (s:Sg):ResultVar→Option AV
 | .tmp t=>look s.env t
 | .cell p T=>(Ta (look s.env p)).bind fun h=>(td tt T).bind fun d=>(sI h s.chs).bind fun b=>bp (Nat.beq b.cells.length d.n) (VF d.agg b.cells)
theorem Se {v:Option AV} {h:Hdr} (k:Ta v=some h):v=some (.one (.ptr h 0)):=by
 unfold Ta at k
 split at k
 ·rename_i h' off
  split at k
  ·rename_i ho
   rw[Nat.eq_of_beq_eq_true ho,Option.some.inj k]
  ·cases k
 ·cases k
section
variable {P:Program} {I:Hp} {w0 w:World} {F:Ch} {J:Hp} {θ:Th} {n:Nat} {s:Sg} {a:Act} {tt:TT}
theorem Sf (ha:Agr n a (envL θ s)) {t g:Nat} {T E:TypeId} {v:Value} {cs:List Ch} (h:(envL θ s).lookup t=some (.pointer (some ⟨g,0,none⟩))) (hs:St J w0 w cs) (i:Nat) (hi:cs[i]? =some (Ch.blk g [v] E)) (hT:TI P T false 1):Dx P a w (.cell t T) v:=by
 refine ⟨_,ha.2.2 t _ h,?_⟩
 have hg:=hs.heap i hi
 have hc:w.cell? ⟨g,0,none⟩=some v:=by simp[World.cell?,hg]
 simp[loadVar,Sem.run_bind,hT.run_agg,load,Sem.run,hc,Result.andThen]
theorem Ol (hT:TTok P tt) (hS:Sim P I w0 F n J θ s a w) {r:ResultVar} {v:AV} (h:Sd tt s r=some v):Dx P a w r (v.v θ)∧v.ok P w0 J θ s.nxt s.chs:=by
 cases r with
 | tmp t=>exact ⟨QR hS.agr (fh h),aR (x:=.tmp t) hS.fine h⟩
 | cell p T =>
  obtain ⟨hh,h1,h⟩:=bind_some (show (Ta (look s.env p)).bind _=some v from h)
  obtain ⟨d,hd,h⟩:=bind_some h
  obtain ⟨b,hb,h⟩:=bind_some h
  obtain ⟨hl,h⟩:=ah h
  have hl:=Nat.eq_of_beq_eq_true hl
  have hp:=kd hb
  have hok:=hS.fine.chs _ (hp.mem_iff.2 (List.mem_cons_self ..))
  obtain ⟨k1,k2⟩:=Js (chs:=s.chs) h hok.2.2
  refine ⟨?_,k1⟩
  have hlk:(envL θ s).lookup p=some (.pointer (some ⟨bk (hv θ hh),0,none⟩)):=fh (Se h1)
  have hst:=hS.st.perm ((hp.map (toCh P θ)).append_right [F])
  have hti:=(hT.get hd).ti
  cases hagg:d.agg with
  | true =>
   rw[hagg] at k2 hti
   rw[←k2]
   exact MH hS.agr hlk hst 0 rfl hti (by rw[List.length_map];exact hl)
  | false =>
   rw[hagg] at k2 hti h
   have h1':d.n=1:=by
    have:=(hT.get hd).one
    rw[hagg] at this
    simpa using this
   obtain ⟨x,hx⟩:=List.length_eq_one_iff.1 (hl.trans h1')
   rw[h1'] at hti
   rw[hx] at k2
   rw[←k2]
   have hst2:St J w0 w (Ch.blk (bk (hv θ hh)) [x.v θ] b.T::(b.rest.map (toCh P θ)++ [F])):=by
    have:(toCh P θ (b.ent hh))=Ch.blk (bk (hv θ hh)) (b.cells.map (·.v θ)) b.T:=rfl
    rw[hx] at this
    rw[←show toCh P θ (b.ent hh)=Ch.blk (bk (hv θ hh)) [x.v θ] b.T from this]
    exact hst
   exact Sf hS.agr hlk hst2 0 rfl hti
end
def Eg:(ts:List Ty)→List AV→List Ent→Option (gQ ts×List Ent×List Ent)
 | [],[],chs=>some ((),[],chs)
 | t::ts,v::vs,chs=>bp (sP v==t.isProd) ((iB v).bind fun cs=>(cT t cs chs).bind fun q=>bp q.cells.isEmpty ((Eg ts vs q.rest).bind fun r=>some ((q.d,r.1),q.used++r.2.1,r.2.2)))
 | _,_,_=>none
def uf:(ts:List Ty)→List Value→gQ ts→List Ch
 | t::ts,v::vs,d=>Ch.own t.rep (gR t.isProd v) d.1::uf ts vs d.2
 | _,_,_=>[]
theorem zb {P:Program} {w0:World} {J:Hp} {θ:Th} {n:Nat} {chs0:List Ent} : ∀ {ts:List Ty} {vs:List AV} {chs:List Ent} {r:gQ ts×List Ent×List Ent},Eg ts vs chs=some r→(∀v∈vs,v.ok P w0 J θ n chs0)→
  chs.Perm (r.2.1++r.2.2)∧vs.length=ts.length∧oq J (r.2.1.map (toCh P θ)) (uf ts (vs.map (·.v θ)) r.1)∧ ∀(i:Nat) t v,ts[i]? =some t→vs[i]? =some v→mF (v.v θ)=t.isProd
 | [],[],chs,r,h,_=>by
  obtain rfl:=Option.some.inj (show some _=some r from h)
  exact ⟨List.Perm.refl _,rfl,sE,fun i t v ht=>by simp at ht⟩
 | t::ts,v::vs,chs,r,h,hv'=>by
  obtain ⟨ha,h⟩:=ah (show bp (sP v==t.isProd) _=some r from h)
  have ha:sP v=t.isProd:=by simpa using ha
  obtain ⟨cs,hcs,h⟩:=bind_some h
  obtain ⟨q,hq,h⟩:=bind_some h
  obtain ⟨he,h⟩:=ah h
  obtain ⟨r',hr,h⟩:=bind_some h
  obtain rfl:=Option.some.inj h
  obtain ⟨c1,c2⟩:=gu hcs (hv' v (by simp))
  obtain ⟨p,cc,e1,e2⟩:=iC (J:=J) (θ:=θ) hq c1
  rw[List.isEmpty_iff.1 he,List.append_nil] at e1
  subst e1
  obtain ⟨k1,k2,k3,k4⟩:=zb hr fun x hx=>hv' x (by simp[hx])
  have hcell:gR t.isProd (v.v θ)=cs.map (·.v θ)∧mF (v.v θ)=t.isProd:=by
   rw[←ha]
   cases v with
   | agg xs =>
    obtain rfl:=Option.some.inj (show some xs=some cs from hcs)
    exact ⟨rfl,rfl⟩
   | one x =>
    obtain rfl:=Option.some.inj (show some [x] =some cs from hcs)
    refine ⟨rfl,?_⟩
    have h1:(x.v θ).oneCell'=true:=LV.one (show LV.ok P w0 J θ n x from hv' (.one x) (by simp))
    show mF (x.v θ)=false
    generalize x.v θ=u at h1
    cases u <;> first | rfl | cases h1
   | _=>cases hcs
  refine ⟨by rw[List.append_assoc];exact p.trans (k1.append_left _),by rw[List.length_cons,List.length_cons,k2],?_,fun i t' v' ht hv0=>?_⟩
  ·show oq J ((q.used++r'.2.1).map _) (Ch.own t.rep (gR t.isProd (v.v θ)) q.d::uf ts (vs.map _) r'.1)
   rw[List.map_append,hcell.1]
   exact pG e2 k3
  ·cases i with
   | zero =>
    obtain rfl:t=t':=by simpa using ht
    obtain rfl:v=v':=by simpa using hv0
    exact hcell.2
   | succ i=>exact k4 i t' v' (by simpa using ht) (by simpa using hv0)
 | [],_::_,chs,r,h,_=>by cases h
 | _::_,[],chs,r,h,_=>by cases h
def Vp:List Value→Value
 | [v] =>v
 | vs=>.tuple vs.toArray
def Gl (P:Program) (a:Act) (w:World):List ResultVar→List Value→Prop
 | [],vs=>vs= []
 | r::rs,vs=> ∃v us,vs=v::us∧Dx P a w r v∧Gl P a w rs us
theorem uV {P:Program} {a:Act} {w:World} {f:ResultVar→Sem Value} (hf: ∀r v,Dx P a w r v→(f r).run P w= .ok v w): ∀ {l:List ResultVar} {vs:List Value},Gl P a w l vs→(l.mapM f).run P w= .ok vs w
 | [],vs,h=>by
  have h:vs= []:=h
  subst h
  rw[List.mapM_nil];rfl
 | r::l,vs,h=>by
  obtain ⟨v,us,rfl,h1,h2⟩:=h
  rw[List.mapM_cons,Sem.run_bind,hf r v h1]
  simp only[Result.andThen_ok,Sem.run_bind,uV hf h2]
  rfl
def Vq (a:Act) (r:ResultVar):Sem Value:=match r with
 | .tmp t=>pure (a.tmps.getD t undef)
 | .cell p t=>do loadVar t (←asAddr (a.tmps.getD p undef))
theorem Si {P:Program} {a:Act} {w:World} {r:ResultVar} {v:Value} (h:Dx P a w r v):(Vq a r).run P w= .ok v w:=by
 cases r with
 | tmp t =>
  have h:a.tmps.getD t undef=v:=h
  show (pure (a.tmps.getD t undef):Sem Value).run P w=_
  rw[h];rfl
 | cell p T =>
  obtain ⟨A,h1,h2⟩:=h
  show ((asAddr (a.tmps.getD p undef)) >>=fun x=>loadVar T x).run P w=_
  rw[h1,Sem.run_bind]
  show Result.andThen (.ok A w) _=_
  rw[Result.andThen_ok];exact h2
theorem VX {P:Program} {n:Nat} {a:Act} {w:World} {L:List (Nat×Value)} {fn:Func} {R:Ending→World→Prop} {vs:List Value} (ha:Agr n a L) (h:Gl P a w fn.results.toList vs) (hR:R (.returned (Vp vs)) w):bodyPost P fn R .ret a w:=by
 refine ⟨ha.1,Vp vs,?_,hR⟩
 have hr:((fn.results.mapM (Vq a)):Sem (Array Value)).run P w= .ok vs.toArray w:=by
  rw[Array.mapM_eq_mapM_toList]
  have:=uV (f:=Vq a) (fun r v=>Si) h
  simp[this,Sem.run_map]
 show ((fn.results.mapM (Vq a)) >>=fun vs=>pure (if h:vs.size=1 then vs[0] else .tuple vs):Sem Value).run P w=_
 rw[Sem.run_bind,hr,Result.andThen_ok]
 match vs with
 | [] =>rfl
 | [v] =>rfl
 | _::_::_=>rfl
def dV:(i:Nat)→(ps:List PM)→denP ps→List Ent→Option (gQ (outs ps)×List Ent×List Ent)
 | _,[],_,chs=>some ((),[],chs)
 | i,.ow t::ps,d,chs=>(cT t (iY i [] t d.1).2 chs).bind fun q=>bp q.cells.isEmpty ((dV (i+1) ps d.2 q.rest).bind fun r=>some ((q.d,r.1),q.used++r.2.1,r.2.2))
 | i,.ptr T t::ps,d,chs=>(wv ⟨i,[]⟩ T t chs).bind fun q=>(dV (i+1) ps d.2 q.2.2).bind fun r=>some ((q.1,r.1),q.2.1++r.2.1,r.2.2)
 | i,.rd _::ps,d,chs=>dV (i+1) ps d.2 chs
 | i,.fn _ _::ps,d,chs=>dV (i+1) ps d.2 chs
 | i,.eat _::ps,d,chs=>dV (i+1) ps d.2 chs
 | i,.cap _ _::ps,d,chs=>dV (i+1) ps d.2 chs
 | i,.capf _ _ _::ps,d,chs=>dV (i+1) ps d.2 chs
 | i,.fk _::ps,d,chs=>dV (i+1) ps d.2 chs
theorem eY {P:Program} {w0:World} {J J':Hp} {θ θ':Th} {n n':Nat} {chs0:List Ent} (hJ:J.le J') (hs:Same n θ θ'): ∀ {ps:List PM} {i:Nat} {d:denP ps} {chs:List Ent} {vs:List Value} {r:gQ (outs ps)×List Ent×List Ent},dV i ps d chs=some r→vs.length=ps.length→StF P w0 J θ n i ps vs d→(∀e∈chs,okE P w0 J' θ' n' chs0 e)→
  chs.Perm (r.2.1++r.2.2)∧oq J' (r.2.1.map (toCh P θ')) (outCh ps vs r.1)
 | [],i,d,chs,vs,r,h,_,_,_=>by
  obtain rfl:=Option.some.inj (show some _=some r from h)
  exact ⟨List.Perm.refl _,sE⟩
 | p::ps,i,d,chs,[],r,h,hl,_,_=>by cases hl
 | .ow t::ps,i,d,chs,v::vs,r,h,hl,hF,hc=>by
  obtain ⟨q,hq,h⟩:=bind_some (show (cT t (iY i [] t d.1).2 chs).bind _=some r from h)
  obtain ⟨he,h⟩:=ah h
  obtain ⟨r',hr,h⟩:=bind_some h
  obtain rfl:=Option.some.inj h
  obtain ⟨⟨k1,k2⟩,k3⟩:=hF
  obtain ⟨p,cc,e1,e2⟩:=iC (P:=P) (w0:=w0) (J:=J') (θ:=θ') (n:=n) hq fun x hx=>LV.ok_same hs (Nat.le_refl _) (k2 x hx) hJ
  rw[List.isEmpty_iff.1 he,List.append_nil] at e1
  subst e1
  rw[fq hs k2,k1] at e2
  obtain ⟨q1,q2⟩:=eY hJ hs hr (by simpa using hl) k3 fun e he=>hc e (p.mem_iff.2 (by simp[he]))
  refine ⟨by rw[List.append_assoc];exact p.trans (q1.append_left _),?_⟩
  show oq J' ((q.used++r'.2.1).map _) (Ch.own t.rep (gR t.isProd v) q.d::outCh ps vs r'.1)
  rw[List.map_append]
  exact pG e2 q2
 | .ptr T t::ps,i,d,chs,v::vs,r,h,hl,hF,hc=>by
  obtain ⟨q,hq,h⟩:=bind_some (show (wv ⟨i,[]⟩ T t chs).bind _=some r from h)
  obtain ⟨r',hr,h⟩:=bind_some h
  obtain rfl:=Option.some.inj h
  obtain ⟨⟨k1,k2⟩,k3⟩:=hF
  obtain ⟨p,hb⟩:=yQ (P:=P) (w0:=w0) (J:=J') (J':=J') (θ:=θ') hq Hp.le.rfl hc
  obtain ⟨q1,q2⟩:=eY hJ hs hr (by simpa using hl) k3 fun e he=>hc e (p.mem_iff.2 (by simp[he]))
  refine ⟨by rw[List.append_assoc];exact p.trans (q1.append_left _),?_⟩
  show oq J' ((q.2.1++r'.2.1).map _) (Ch.box (bk v) T t.rep q.1::outCh ps vs r'.1)
  rw[List.map_append]
  have hh:hv θ' ⟨i,[]⟩=v:=(aD hs (show (⟨i,[]⟩:Hdr).id<n from k2)).trans k1
  rw[hh] at hb
  intro w F hsp
  obtain ⟨G,K,rfl,h1,h2⟩:=hsp.split
  exact ⟨G,K,rfl,hb w G h1,q2 w K h2⟩
 | .rd t::ps,i,d,chs,v::vs,r,h,hl,hF,hc=>eY (ps:=ps) hJ hs (show dV (i+1) ps d.2 chs=some r from h) (by simpa using hl) hF.2 hc
 | .fn _ _::ps,i,d,chs,v::vs,r,h,hl,hF,hc=>eY (ps:=ps) hJ hs (show dV (i+1) ps d.2 chs=some r from h) (by simpa using hl) hF.2 hc
 | .eat _::ps,i,d,chs,v::vs,r,h,hl,hF,hc=>eY (ps:=ps) hJ hs (show dV (i+1) ps d.2 chs=some r from h) (by simpa using hl) hF.2 hc
 | .cap _ _::ps,i,d,chs,v::vs,r,h,hl,hF,hc=>eY (ps:=ps) hJ hs (show dV (i+1) ps d.2 chs=some r from h) (by simpa using hl) hF.2 hc
 | .capf _ _ _::ps,i,d,chs,v::vs,r,h,hl,hF,hc=>eY (ps:=ps) hJ hs (show dV (i+1) ps d.2 chs=some r from h) (by simpa using hl) hF.2 hc
 | .fk _::ps,i,d,chs,v::vs,r,h,hl,hF,hc=>eY (ps:=ps) hJ hs (show dV (i+1) ps d.2 chs=some r from h) (by simpa using hl) hF.2 hc
def ofH:(ts:List Ty)→gQ ts→dens ts
 | [],_=>()
 | [_],d=>d.1
 | _::u::ts,d=>(d.1,ofH (u::ts) d.2)
theorem Eh: ∀(ts:List Ty) (d:gQ ts),toH ts (ofH ts d)=d
 | [],_=>rfl
 | [_],_=>rfl
 | _::u::ts,d=>congrArg (Prod.mk d.1) (Eh (u::ts) d.2)
def Dr:(ts us:List Ty)→gQ ts→gQ us→gQ (ts++us)
 | [],_,_,e=>e
 | _::ts,us,d,e=>(d.1,Dr ts us d.2 e)
theorem AR: ∀(ts us:List Ty) (d:gQ ts) (e:gQ us),hFst ts us (Dr ts us d e)=d
 | [],_,_,_=>rfl
 | _::ts,us,d,e=>congrArg (Prod.mk d.1) (AR ts us d.2 e)
theorem Gn: ∀(ts us:List Ty) (d:gQ ts) (e:gQ us),hSnd ts us (Dr ts us d e)=e
 | [],_,_,_=>rfl
 | _::ts,us,d,e=>Gn ts us d.2 e
def ze (tt:TT) (s:Sg):List ResultVar→Option (List AV)
 | [] =>some []
 | r::rs=>(Sd tt s r).bind fun v=>(ze tt s rs).bind fun vs=>some (v::vs)
def Ei (s:Sg):List AV→List Hdr
 | [] =>[]
 | v::vs=>wH v++Ei s vs
def vL:List Ent→List Hdr
 | [] =>[]
 | e::l=>match e.2.2 with
  | .hole _ _ _ _ _ _ _ _ _ _=>e.1::vL l
  | _=>vL l
def Uk:List AV→List (Bool×Hdr)
 | [] =>[]
 | v::vs=>W4 true v++Uk vs
def CE (tr:Trs) (vs:List AV) (s:Sg):Sg:=match tr with
 | [] =>s
 | _=>Nt tr (Uk vs) s
def Om (tr:Trs) (vs:List AV) (s0:Sg):Sg:=match CE tr vs s0 with
 | s=>sV (Ei s0 vs++vL s.chs) s
def nlN:List AV→(ts:List Ty)→gQ ts→Int
 | [.one (.own _)],[.sl _ t],d=>((List.length (α:=t.den) d.1:Nat):Int)
 | [.one (.val v)],[.sl _ _],_=>match isNil v with
  | true=>1
  | false=>0
 | _,_,_=>0
def Ul (an:List (Nat×Ty)) (vs:List AV) (ts:List Ty) (d:gQ ts):Option Unit:=match y5 1000000 an with
 | true=>chk (0<nlN vs ts d)
 | false=>some ()
theorem Um {vs:List AV} {ts:List Ty} {d:gQ ts} {θ:Th} (h:0<nlN vs ts d) {v:Value} (hv:vs.map (·.v θ)= [v]):uN ts d v:=by
 unfold nlN at h
 split at h
 ·intro h0
  omega
 ·split at h
  ·rename_i h1
   intro _
   have:=lh h1
   subst this
   simpa [AV.v,LV.v] using hv.symm
  ·omega
 ·omega
def On (V:Env) (rvs:List ResultVar) (rs:List Ty) (ps:List PM) (d:denP ps) (s00:Sg):Option (dens (rs++outs ps)):=(ze V.tt s00 rvs).bind fun vs00=>NB vs00 s00 fun s0=>(ze V.tt s0 rvs).bind fun vs0=>match Om V.tr vs0 s0 with
 | s=>(ze V.tt s rvs).bind fun vs=>(Eg rs vs s.chs).bind fun r=>(dV 0 ps d r.2.2).bind fun o=>(Ul V.an vs rs r.1).bind fun _=>some (ofH _ (Dr rs (outs ps) r.1 o.1))
end R
namespace R
open Go.RowKit
open D
theorem zf {vs:List Value} : ∀ {ts:List Ty} {i:Nat} {us:List Value} {d:gQ ts},us.length=ts.length→(∀j v,us[j]? =some v→vs[i+j]? =some v)→sG i ts d (.tuple vs.toArray)=uf ts us d
 | [],i,us,d,h,_=>by
  cases us with
  | nil=>rfl
  | cons _ _=>cases h
 | t::ts,i,[],d,h,_=>by cases h
 | t::ts,i,u::us,d,h,k=>by
  have h0:vg (.tuple vs.toArray) [i] =u:=by
   show vs.toArray.getD i undef=u
   have:=k 0 u rfl
   rw[Nat.add_zero] at this
   simp[Array.getD_eq_getD_getElem?,this]
  show Ch.own t.rep (gR t.isProd (vg (.tuple vs.toArray) [i])) d.1::sG (i+1) ts d.2 _=Ch.own t.rep (gR t.isProd u) d.1::uf ts us d.2
  rw[h0,zf (us:=us) (by simpa using h) fun j v hj=>by
   have:=k (j+1) v (by simpa using hj)
   rwa [show i+(j+1)=i+1+j from by omega] at this]
theorem HL {ts:List Ty} {vs:List Value} {d:gQ ts} (h:vs.length=ts.length):resGv ts d (Vp vs)=uf ts vs d:=by
 match ts,vs,d,h with
 | [],[],d,_=>rfl
 | [t],[v],d,_=>rfl
 | t::u::ts,v::w::vs,d,h =>
  show sG 0 _ d (.tuple (v::w::vs).toArray)=_
  exact zf h fun j x hj=>by rw[Nat.zero_add];exact hj
theorem Oo {ts:List Ty} {vs:List Value} (h:vs.length=ts.length) (k: ∀(i:Nat) t v,ts[i]? =some t→vs[i]? =some v→mF v=t.isProd):resFa ts (Vp vs):=by
 match ts,vs,h with
 | [],[],_=>exact ⟨#[],rfl,rfl,fun i t ht=>by simp at ht⟩
 | [t],[v],_=>exact k 0 t v rfl rfl
 | t::u::ts,v::w::vs,h =>
  refine ⟨(v::w::vs).toArray,rfl,by simpa using h,fun i t' ht=>?_⟩
  have hlt:i<(v::w::vs).length:=by rw[h];exact (List.getElem?_eq_some_iff.1 ht).1
  have:=k i t' ((v::w::vs)[i]) ht (List.getElem?_eq_getElem hlt)
  rw[←this,Array.getD_eq_getD_getElem?,List.getElem?_toArray,List.getElem?_eq_getElem hlt];rfl
theorem wT {P:Program} {I:Hp} {w0 w:World} {F:Ch} {J:Hp} {θ:Th} {n:Nat} {s:Sg} {a:Act} {tt:TT} (hT:TTok P tt) (hS:Sim P I w0 F n J θ s a w): ∀ {rs:List ResultVar} {vs:List AV},ze tt s rs=some vs→Gl P a w rs (vs.map (·.v θ))∧ ∀v∈vs,v.ok P w0 J θ s.nxt s.chs
 | [],vs,h=>by
  obtain rfl:=Option.some.inj (show some [] =some vs from h)
  exact ⟨rfl,fun v hv=>by cases hv⟩
 | r::rs,vs,h=>by
  obtain ⟨v,hv',h⟩:=bind_some (show (Sd tt s r).bind _=some vs from h)
  obtain ⟨us,hus,h⟩:=bind_some h
  obtain rfl:=Option.some.inj h
  obtain ⟨k1,k2⟩:=Ol hT hS hv'
  obtain ⟨q1,q2⟩:=wT hT hS hus
  refine ⟨⟨_,_,rfl,k1,q1⟩,fun x hx=>?_⟩
  rcases List.mem_cons.1 hx with rfl | hx
  ·exact k2
  ·exact q2 x hx
theorem KU {J:Hp} {a b c d:List Ch} (h:oq J a b) (k:oq J c d):oq J (a++c) (b++d):=fun w F hs=>by
 obtain ⟨G,K,rfl,e1,e2⟩:=hs.split
 exact (h w G e1).append (k w K e2)
theorem St.sepTo {J:Hp} {w0 w:World} {a b C:List Ch} (h:St J w0 w (a++C)) (k:oq J a b):St J w0 w (b++C):=by
 obtain ⟨h1,h2,F,h3,h4,h5⟩:=h
 obtain ⟨G,K,rfl,e1,e2⟩:=h3.split
 exact ⟨h1,h2,G++K,(k w G e1).append e2,h4,h5⟩
theorem zg {P:Program} {n:Nat} {I:Hp} {w0:World} {k:FuncId} {fn:Func} {c:Code} {args:Array Value} {rn:List Ch} {fact:Value→Prop} {gv:Value→List Ch} (L:List (Nat×Value)) (hf:P.funcs[k]? =some fn) (hb:fn.body=some c) (hn:fn.ntmps=n) (hm:args.size≤n) (hL: ∀p∈L,args[p.1]? =some p.2)
  (h: ∀F w a,Agr n a L→St I w0 w (rn++ [F])→c.wp P (bodyPost P fn fun e w'=> ∃v,e= .returned v∧fact v∧ ∃J,I.le J∧St J w0 w' (gv v++ [F])) a w) (hd: ∀v,Ch.back (gv v)):Con P k args I w0 rn fact gv:=by
 intro w C hs
 have hs':St I w0 w (rn++ [Ch.fr I C]):=by
  obtain ⟨hb,hi,F,h1,h2,h3⟩:=hs
  obtain ⟨G,K,rfl,e1,e2⟩:=h1.split
  exact ⟨hb,hi,G++K,e1.append ⟨K,[],by simp,e2,rfl⟩,h2,h3⟩
 have:=h (Ch.fr I C) w { tmps:=args++Array.replicate (fn.ntmps - args.size) undef,defers:=[] } (Agr.start L (by omega) hL) hs'
 refine (calls_of_wp hf hb this).mono ?_
 rintro e w' ⟨v,rfl,hv,J,hJ,hs⟩
 exact ⟨v,rfl,hv,hs.back hJ (hd v)⟩
theorem Oq {P:Program} {I:Hp} {w0 w:World} {F:Ch} {n:Nat} {J:Hp} {θ:Th} {s:Sg} {a:Act} {tr:Trs} {vs:List AV} (hS:Sim P I w0 F n J θ s a w): ∃J' θ',J.le J'∧Sim P I w0 F n J' θ' (Om tr vs s) a w∧Fr s θ (Om tr vs s) θ':=by
 have key: ∃J' θ',J.le J'∧Sim P I w0 F n J' θ' (CE tr vs s) a w∧Fr s θ (CE tr vs s) θ':=by
  unfold CE
  split
  ·exact ⟨J,θ,Hp.le.rfl,hS,Fr.rfl⟩
  ·exact rJ hS
 obtain ⟨J',θ',h1,h2,h3⟩:=key
 obtain ⟨S2,F2⟩:=qA (V:=⟨[],[],[],n,[]⟩) (hs:=Ei s vs++vL (CE tr vs s).chs) h2
 exact ⟨J',θ',h1,S2,h3.trans F2⟩
theorem Qf {V:Env} {P:Program} {w0:World} {F:Ch} {J:Hp} {θ:Th} (hT:TTok P V.tt) {fn:Func} {rs:List Ty} {ps:List PM} {d:denP ps} {vs:List Value} {s0:Sg} (k0:vs.length=ps.length) (k5:StF P w0 J θ ps.length 0 ps vs d) (hn0:ps.length≤s0.nxt): ∀r J' θ' s' a' w',On V fn.results.toList rs ps d s'=some r→Sim P J w0 F V.n J' θ' s' a' w'→J.le J'→Fr s0 θ s' θ'→
  bodyPost P fn (fun e w'=> ∃v,e= .returned v∧(resFa rs v∧(y5 1000000 V.an=true→uN rs (hFst rs (outs ps) (toH _ r)) v))∧ ∃J2,J.le J2∧St J2 w0 w' ((resGv rs (hFst rs (outs ps) (toH _ r)) v++outCh ps vs (hSnd rs (outs ps) (toH _ r)))++ [F])) .ret a' w':=by
 intro r J' θ' s' a' w' hrt hS' hJ hFr
 obtain ⟨vs00,hv00,hrt⟩:=bind_some (show (ze V.tt s' fn.results.toList).bind _=some r from hrt)
 obtain ⟨s0',hrt,S0,N0⟩:=FU hrt (wT hT hS' hv00).2 hS'
 obtain ⟨vs0,hv0,hrt⟩:=bind_some hrt
 obtain ⟨J1,θ1,hJ1,S1,F1⟩:=Oq (tr:=V.tr) (vs:=vs0) S0
 generalize Om V.tr vs0 s0'=s1 at hrt S1 F1
 have hle:s0.nxt≤s'.nxt:=hFr.1
 have hsame:Same ps.length θ θ1:=fun i hi=>(F1.same i (by omega)).trans (hFr.same i (by omega))
 replace hJ:=hJ.trans hJ1
 clear hJ1 F1 hS' S0 hFr
 revert J1 θ1
 clear J' θ'
 intro J' θ' S1 hsame hJ
 obtain ⟨us,hus,hrt⟩:=bind_some hrt
 obtain ⟨q,hq,hrt⟩:=bind_some hrt
 obtain ⟨o,ho,hrt⟩:=bind_some hrt
 obtain ⟨u0,hnl,hrt⟩:=bind_some hrt
 obtain rfl:=Option.some.inj hrt
 obtain ⟨r1,r2⟩:=wT hT S1 hus
 obtain ⟨t1,t2,t3,t4⟩:=zb (J:=J') (θ:=θ') hq r2
 obtain ⟨o1,o2⟩:=eY (P:=P) (J:=J) (J':=J') (θ:=θ) (θ':=θ') (vs:=vs) (n:=ps.length) (n':=s1.nxt) (chs0:=s1.chs) hJ hsame ho k0 k5 fun e he=>S1.fine.chs e (t1.mem_iff.2 (by simp[he]))
 have hl:(us.map (·.v θ')).length=rs.length:=by rw[List.length_map];exact t2
 refine VX S1.agr r1 ⟨_,rfl,⟨Oo hl fun i t v ht hv1=>?_,fun han=>?_⟩,J',hJ,?_⟩
 ·rw[List.getElem?_map] at hv1
  obtain ⟨x,hx,rfl⟩:=Option.map_eq_some_iff.1 hv1
  exact t4 i t x ht hx
 ·rw[Eh,AR]
  unfold Ul at hnl
  rw[han] at hnl
  have hnl:0<nlN us rs q.1:=a7 hnl
  rcases us with _ | ⟨x,us⟩
  ·cases hnl
  ·cases us with
   | nil=>exact Um (θ:=θ') hnl rfl
   | cons y us=>unfold nlN at hnl;split at hnl <;> first | omega | simp_all
 ·rw[Eh,AR,Gn,HL hl]
  have hp:=t1.trans (o1.append_left _)
  have h1:=S1.st.perm ((hp.map (toCh P θ')).append_right [F])
  have h2:St J' w0 w' ((q.2.1.map (toCh P θ')++o.2.1.map (toCh P θ'))++(o.2.2.map (toCh P θ')++ [F])):=by
   simpa [List.map_append,List.append_assoc] using h1
  have h3:=St.sepTo h2 (KU t3 o2)
  refine St.left (ds:=o.2.2.map (toCh P θ')) (h3.perm ?_)
  simp only[List.append_assoc]
  exact List.Perm.append_left _ (List.Perm.append_left _ List.perm_append_comm)
theorem Sj {V:Env} {P:Program} (hT:TTok P V.tt) (hF:FTok P V.ft) (hmx:P.follows .mixedOrders=true) {k:FuncId} {fn:Func} {c:Code} {f:FS} (hf:P.funcs[k]? =some fn) (hb:fn.body=some c) (hn:fn.ntmps=V.n) (hen:Enters P k) (hm:f.ps.length≤V.n) (hdp:(DS f.rs&&yq f.ps)=true) (ann:Ann)
  (hmod: ∀d,appP f.ps f.m d=jI V (On V fn.results.toList f.rs f.ps d) c ann (fun r=>some r) (fun _ _=>none) (On V fn.results.toList f.rs f.ps d) (pK (za f.ps d))): ∀w0 J vs (d:denP f.ps) r,Lay P J→PArgs P w0 J f.ps vs d→appP f.ps f.m d=some r→Con P k vs.toArray J w0 (owCh f.ps vs d) (fun v=>resFa f.rs v∧(y5 1000000 V.an=true→uN f.rs (hFst f.rs (outs f.ps) (toH _ r)) v)) (fun v=>resGv f.rs (hFst f.rs (outs f.ps) (toH _ r)) v++outCh f.ps vs (hSnd f.rs (outs f.ps) (toH _ r))):=by
 rw[Bool.and_eq_true] at hdp
 intro w0 J vs d r hlay ha hr
 rw[hmod] at hr
 let θ:Th:=fun i=>vs.getD i undef
 have hθ: ∀j v,vs[j]? =some v→θ (0+j)=v:=fun j v hj=>by
  show vs.getD (0+j) undef=v
  rw[Nat.zero_add,List.getD_eq_getElem?_getD,hj];rfl
 have k0:=CD ha
 have hzip: ∀p∈(vs.zipIdx.map fun q=>(q.2,q.1)),vs.toArray[p.1]? =some p.2:=fun p hp=>by
  obtain ⟨q,hq,rfl⟩:=List.mem_map.1 hp
  obtain ⟨v,j⟩:=q
  have:=(List.mk_mem_zipIdx_iff_getElem? (x:=v) (i:=j)).1 hq
  simpa using this
 refine zg (n:=V.n) (vs.zipIdx.map fun q=>(q.2,q.1)) hf hb hn (by rw[List.size_toArray,k0];exact hm) hzip (fun F w a hA hst=>?_) (fun v=>tX (ez _ _ _ hdp.2) _ _ hdp.1)
 ·obtain ⟨k1,k2,k3,k4,k5⟩:=Gk (n:=f.ps.length) (C:=[F]) ha hθ (by omega) hst
  have hfine:Fine P w0 J θ (za f.ps d):=⟨fun e he=>(k1 e he).1 _,fun e he=>by have:=k1 e he;show e.2.1<f.ps.length;omega,k2,fun e he=>k4 e he _,hlay⟩
  have hA':Agr V.n a (envL θ (za f.ps d)):=hA.pick _ fun p hp=>by
   obtain ⟨e,he,rfl⟩:=List.mem_map.1 hp
   have h5:=(k1 e he).2.2.2.2
   rw[Nat.sub_zero] at h5
   have key: ∀(l:List Value) (k:Nat) (i:Nat) (v:Value),k≤i→l[i - k]? =some v→((l.zipIdx k).map fun q=>(q.2,q.1)).lookup i=some v:=by
    intro l
    induction l with
    | nil=>intro k i v _ h;simp at h
    | cons x l ih =>
     intro k i v hk h
     simp only[List.zipIdx_cons,List.map_cons,List.lookup_cons]
     by_cases e:i=k
     ·subst e
      simp at h
      simp[h]
     ·have:(i==k)=false:=by simpa using e
      rw[this]
      refine ih (k+1) i v (by omega) ?_
      rw[show i - k=(i - (k+1))+1 from by omega] at h
      simpa using h
   exact key vs 0 e.1 _ (Nat.zero_le _) h5
  have hS:Sim P J w0 F V.n J θ (za f.ps d) a w:=⟨Hp.le.rfl,hA',k3,hfine⟩
  have fin:=Qf (rs:=f.rs) (fn:=fn) (F:=F) hT k0 k5 (Nat.le_refl (za f.ps d).nxt)
  obtain ⟨θ0,hS0,hFr0⟩:=vF hS
  exact (wS (I:=J) (w0:=w0) (F:=F) hT hF hmx c).1 ann hr hS0 (fun J' θ' s' a' w' hk S' hJ hFr=>fin r J' θ' s' a' w' hk S' hJ (hFr0.trans hFr)) (fun i J' θ' s' a' w' hk=>by cases hk) (fun r' J' θ' s' a' w' hrt hrr hS' hJ hFr=>by
   obtain rfl:=Option.some.inj hrr
   exact fin _ J' θ' s' a' w' hrt hS' hJ (hFr0.trans hFr))
theorem fok {V:Env} {P:Program} (hT:TTok P V.tt) (hF:FTok P V.ft) (hmx:P.follows .mixedOrders=true) {k:FuncId} {fn:Func} {c:Code} {f:FS} (hf:P.funcs[k]? =some fn) (hb:fn.body=some c) (hn:fn.ntmps=V.n) (hen:Enters P k) (hcl:f.cl=none) (hm:f.ps.length≤V.n) (hdp:(DS f.rs&&yq f.ps)=true) (ann:Ann)
  (hmod: ∀d,appP f.ps f.m d=jI V (On V fn.results.toList f.rs f.ps d) c ann (fun r=>some r) (fun _ _=>none) (On V fn.results.toList f.rs f.ps d) (pK (za f.ps d))):FOk P k f:=
 ⟨fun q hq=>by (rw[hcl] at hq;cases hq),fun _=>hen,fun w0 J vs d r hlay ha hr w C hs=>(Sj hT hF hmx hf hb hn hen hm hdp ann hmod w0 J vs d r hlay ha hr w C hs).mono fun e w' ⟨v,h1,h2,h3⟩=>⟨v,h1,h2.1,h3⟩⟩
theorem Gp {V:Env} {P:Program} (hT:TTok P V.tt) (hF:FTok P V.ft) (hmx:P.follows .mixedOrders=true) {k:FuncId} {fn:Func} {c:Code} {E b:Nat} (hf:P.funcs[k]? =some fn) (hb:fn.body=some c) (hn:fn.ntmps=V.n) (hen:Enters P k) (hm:1≤V.n) (ann:Ann)
  (hmod: ∀(E':TypeId) (bn:Bool) (xs:List Raw),(match bn with | true=>some ([] :List Raw) | false=>(da b [] xs).bind fun zs=>some zs)=jI V (On V fn.results.toList [.sl E .raw] [] ()) c ann (fun r=>some r) (fun _ _=>none) (On V fn.results.toList [.sl E .raw] [] ()) ⟨[(0,0,.one (.rdn ⟨0,[]⟩ bn (.sl E' .raw) xs))],[],1⟩):tU P k E b:=by
 refine ⟨hen,fun E' J w0 v xs zs hlay hrd Dr=>?_⟩
 obtain ⟨bn,hbn⟩: ∃bn,yL v=bn:=⟨_,rfl⟩
 have hr:jI V (On V fn.results.toList [.sl E .raw] [] ()) c ann (fun r=>some r) (fun _ _=>none) (On V fn.results.toList [.sl E .raw] [] ()) ⟨[(0,0,.one (.rdn ⟨0,[]⟩ bn (.sl E' .raw) xs))],[],1⟩=some zs:=by
  rw[←hmod E' bn xs]
  cases bn with
  | false =>
   show (da b [] xs).bind _=_
   rw[Dr];rfl
  | true =>
   obtain ⟨h1,-⟩:=AA Dr
   obtain ⟨ao,cap,e,-,hx⟩:=hrd
   obtain rfl:v= .slice ao xs.length cap:=by simpa using e
   rcases hx with rfl | ⟨b,off,ccs,t,fr,rfl,-⟩
   ·rw[h1];rfl
   ·cases hbn
 let θ:Th:=fun _=>v
 have key:Con P k #[v] J w0 [] (fun v=>resFa [.sl E .raw] v∧(y5 1000000 V.an=true→uN [.sl E .raw] (zs,()) v)) (fun v=>resGv [.sl E .raw] (zs,()) v++ []):=by
  refine zg (n:=V.n) [(0,v)] hf hb hn hm (fun p hp=>by obtain rfl:=List.mem_singleton.1 hp;rfl) (fun F w a hA hst=>?_) (fun u=>tX (D:=[]) trivial [.sl E .raw] (zs,()) rfl)
  have hfine:Fine P w0 J θ ⟨[(0,0,.one (.rdn ⟨0,[]⟩ bn (.sl E' .raw) xs))],[],1⟩:=⟨fun e he=>by obtain rfl:=List.mem_singleton.1 he;exact ⟨Nat.one_pos,hrd,hbn⟩,fun e he=>by obtain rfl:=List.mem_singleton.1 he;exact Nat.one_pos,List.pairwise_singleton _ _,fun e he=>(by cases he),hlay⟩
  have hS:Sim P J w0 F V.n J θ ⟨[(0,0,.one (.rdn ⟨0,[]⟩ bn (.sl E' .raw) xs))],[],1⟩ a w:=⟨Hp.le.rfl,hA,hst,hfine⟩
  have fin:=Qf (V:=V) (θ:=θ) (J:=J) (w0:=w0) (rs:=[.sl E .raw]) (ps:=[]) (d:=()) (vs:=[]) (s0:=⟨[(0,0,.one (.rdn ⟨0,[]⟩ bn (.sl E' .raw) xs))],[],1⟩) (fn:=fn) (F:=F) hT rfl trivial (Nat.zero_le _)
  exact (wS (I:=J) (w0:=w0) (F:=F) hT hF hmx c).1 ann hr hS (fun J' θ' s' a' w' hk S' hJ hFr=>fin _ J' θ' s' a' w' hk S' hJ hFr) (fun i J' θ' s' a' w' hk=>by cases hk) (fun r' J' θ' s' a' w' hrt hrr hS' hJ hFr=>by
   obtain rfl:=Option.some.inj hrr
   exact fin _ J' θ' s' a' w' hrt hS' hJ hFr)
 exact fun w C hs=>(key w C hs).mono fun e w' ⟨v,h1,h2,h3⟩=>⟨v,h1,trivial,h3⟩
theorem gz {P:Program} {k:FuncId} {f:FS} (h:Enters P k) (hc:f.cl=none) (hm: ∀d,appP f.ps f.m d=none):FOk P k f:=
 ⟨fun q hq=>by (rw[hc] at hq;cases hq),fun _=>h,fun _ _ _ d r _ _ hr=>by rw[hm d] at hr;cases hr⟩
theorem CF {P:Program} {k:FuncId} {f:FS} {E b:Nat} (h:FOk P k ⟨f.ps,f.rs,f.m,none⟩) (hc:tU P k E b) (hb:Nat.beq b 0=false:=by rfl) (h7:Nat.beq b 7=false:=by rfl) (h8:Nat.ble 1000 b=false:=by rfl):FOk P k ⟨f.ps,f.rs,f.m,some (E,b)⟩:=
 ⟨fun q hq=>by obtain rfl:=Option.some.inj hq;exact ⟨⟨fun e=>(by rw[hb] at e;cases e),fun _ _ _=>hc,fun e=>(by rw[h8] at e;cases e)⟩,fun e=>(by rw[h7] at e;cases e)⟩,fun _=>h.en rfl,h.con⟩
end R
namespace R
open Go.RowKit
open D
end R
namespace R
open Go.RowKit Go.Shelf Go.Sort
open D
abbrev PT:Ty:=.prod (.int .i64) (.int .i64)
def vr (x:Int×Int):List Value:=[.int .i64 x.1,.int .i64 x.2]
theorem Gq (x:Int×Int):(vr x).length=2:=rfl
theorem Ot (x:Int×Int): ∀v∈vr x,v.oneCell'=true:=by
 intro v hv
 simp only[vr,List.mem_cons,List.not_mem_nil,or_false] at hv
 rcases hv with rfl | rfl <;> rfl
def HM (cf:Int×Int→Int×Int→Int) (xs:List (Int×Int)):List (Int×Int):=xs.mergeSort fun x y=> !(ltOf cf) y x
def Ou (cf:Int×Int→Int×Int→Int) (xs:List (Int×Int)):Option (List (Int×Int)):=(chk (xs.length<4611686018427387904)).bind fun _=>some (HM cf xs)
theorem CG (cf:Int×Int→Int×Int→Int) (xs:List (Int×Int)):(HM cf xs).length=xs.length:=List.length_mergeSort _
theorem St.grown {I:Hp} {w0 w:World} {cs:List Ch} (h:St I w0 w cs) (os:Array Obj):St I w0 (grow w os) cs:=by
 refine St.step (w:=w) (c:=[]) (c':=[]) h rfl rfl rfl (by simp[grow]) ?_
 rintro F rfl - -
 exact ⟨fun b hb _=>heap_grow_old w os hb,[],rfl,List.nodup_nil,by simp⟩
theorem KV (d:Array (Int×Int)) {i j:Nat} {z:Int×Int} (h:d.toList[i]? =some z) (hj:j<2):(flatK vr 2 d)[i*2+j]? =(vr z)[j]? :=by
 have hi:i<d.size:=by
  rcases Nat.lt_or_ge i d.size with c | c
  ·exact c
  ·rw[List.getElem?_eq_none (by simpa using c)] at h;cases h
 have hlt:i*2+j<d.size*2:=by omega
 have hb:=get_flatK vr 2 d (i*2+j) hlt
 have hs:i*2+j<(flatK vr 2 d).size:=by rw[size_flatK];exact hlt
 rw[getElem!_pos (flatK vr 2 d) _ hs] at hb
 rw[Array.getElem?_eq_getElem hs,hb,show (i*2+j) / 2=i from by omega,show (i*2+j) % 2=j from by omega]
 have hz:d[i]! =z:=by
  rw[getElem!_pos d _ hi]
  rw[List.getElem?_eq_getElem (by simpa using hi)] at h
  simpa using Option.some.inj h
 rw[hz,getElem!_pos (vr z) _ (by rw[Gq];exact hj),List.getElem?_eq_getElem]
theorem Sk {I:Hp} {c:List Value} {x:Int×Int} (h:PT.rep.rd I c x):c=vr x:=by
 obtain ⟨c1,c2,rfl,h1,h2⟩:=h
 obtain rfl:c1= [_]:=h1
 obtain rfl:c2= [_]:=h2
 rfl
theorem Sl {I:Hp} (x:Int×Int):PT.rep.rd I (vr x) x:=⟨[_],[_],rfl,rfl,rfl⟩
theorem KW {P:Program} {ρ:Ren} (L:SlLaysF0.n6 P ρ) (aE: ∀w,(isAgg (ρ.t 24)).run P w= .ok true w) (zE: ∀w,(Go.sizeOf (ρ.t 24)).run P w= .ok 2 w) {cf:Int×Int→Int×Int→Int} (hO:SWO (ltOf cf)) (hT: ∀x y,(ltOf cf) x y=false→(ltOf cf) y x=false→x=y) {g:FuncId} (eg:Enters P g) (hcmp: ∀blk off size w,CmpLays P g #[] vr 2 cf blk off size w) (en:Enters P (ρ.f 6)) (E:TypeId) :
  FOk P (ρ.f 6) ⟨[.ow (.sl E PT),.fk g],[],fun xs _=>Ou cf xs,none⟩:=by
 refine ⟨fun q hq=>(by cases hq),fun _=>en,fun w0 J vs d r hlay ha Dr=>?_⟩
 obtain ⟨v,vs1,rfl,hd,v2,vs2,rfl,rfl,hnil⟩:=ha
 obtain rfl:vs2= []:=hnil
 obtain ⟨xs0,u1,un⟩:=d
 let xs:List (Int×Int):=xs0
 let zs:List (Int×Int):=r
 have Dr:Ou cf xs=some zs:=Dr
 obtain ⟨u1,hc,hz⟩:=Option.bind_eq_some_iff.1 Dr
 have hc:=a7 hc
 have hz:=Option.some.inj hz
 intro w C hst
 have hst:St J w0 w (Ch.own (af E PT.rep) [v] xs::C):=hst
 clear Dr
 rename_i happ0
 clear happ0 hd
 clear_value xs
 have hfin: ∀ {e:Ending} {w':World},(∃W,e= .returned (.tuple #[])∧w'=W∧St J w0 W (Ch.own (af E PT.rep) [v] zs::C))→ ∃v':Value,e= .returned v'∧(∃vs:Array Value,v'= .tuple vs∧vs.size=0∧ ∀(i:Nat) (t:Ty),([] :List Ty)[i]? =some t→mF (vs.getD i undef)=t.isProd)∧St J w0 w' (Ch.own (af E PT.rep) [v] zs::C):=by
  rintro e w' ⟨W,rfl,rfl,h⟩
  exact ⟨_,rfl,⟨#[],rfl,rfl,fun i t h=>(by simp at h)⟩,h⟩
 have hcase:(v= .slice none 0 0∧xs= [])∨ ∃g' ofs n cap,v= .slice (some ⟨g',ofs,none⟩) n cap:=by
  obtain ⟨hb,hi,F,⟨G,K,rfl,⟨hl,e2⟩,e3⟩,h4,h5⟩:=hst
  rcases e2 with ⟨hv,h1,_⟩ | ⟨g',ofs',cap',cur,K1,hv,_⟩
  ·exact .inl ⟨List.cons.inj hv |>.1,h1⟩
  ·exact .inr ⟨_,_,_,_,List.cons.inj hv |>.1⟩
 rcases hcase with ⟨rfl,hx⟩ | ⟨g',ofs,n,cap,rfl⟩
 ·refine (AnyF.slices_SortFunc_none L none 0 (.func (.func g) #[] #[]) w).mono fun e w' ⟨he,hw⟩=>hfin ⟨_,he,hw,?_⟩
  rw[←hz,hx,show HM cf [] = [] from List.mergeSort_nil ..]
  rw[hx] at hst
  exact hst
 ·obtain ⟨hn,h1,h2,cur,hg,hroom,hat⟩:=wA (R:=PT.rep) (k:=2) (Ty.sh_ok (t:=PT) rfl) rfl hst
  obtain rfl:=hn
  have hH:HoldsK vr 2 w g' ofs xs.toArray:=by
   intro j hj
   rw[size_flatK] at hj
   have hj:j<xs.length*2:=by simpa using hj
   have hi:j / 2<xs.length:=by omega
   obtain ⟨c,e1,e2,e3⟩:=hat (j / 2) _ (List.getElem?_eq_getElem hi)
   have hcj:=e2 (j % 2) (Nat.mod_lt _ (by omega))
   rw[show j / 2*2+j % 2=j from by omega,Sk e3] at hcj
   have hf:=KV xs.toArray (i:=j / 2) (j:=j % 2) (z:=xs[j / 2]) (by simpa using List.getElem?_eq_getElem hi) (Nat.mod_lt _ (by omega))
   rw[show j / 2*2+j % 2=j from by omega] at hf
   have hs:j<(flatK vr 2 xs.toArray).size:=by rw[size_flatK];simpa using hj
   refine ⟨?_,?_⟩
   ·unfold World.cell?
    simp only[hg]
    rw[List.getElem?_drop] at hcj
    rw[getElem!_pos (flatK vr 2 xs.toArray) _ hs,←Array.getElem?_toList,hcj,←hf,Array.getElem?_eq_getElem hs]
    rfl
   ·unfold World.frozen?
    simp only[hg]
    simp
  have hblk:g'<w.heap.size:=by
   rcases Nat.lt_or_ge g' w.heap.size with c | c
   ·exact c
   ·rw[Array.getElem?_eq_none c] at hg;cases hg
  have key:=AnyQ.slices_SortFunc_total L 2 aE zE vr Gq Ot cf hO g #[] g' ofs cap xs.toArray w eg (hcmp _ _ _ _) hH hblk (by simpa using hc) hT
  rw[show xs.toArray.size=xs.length from List.size_toArray] at key
  refine key.mono ?_
  rintro e w' ⟨he,m,os,rfl⟩
  refine hfin ⟨_,he,rfl,?_⟩
  show St J w0 (grow (putRow id (Sort.ahead w m) g' ofs (flatK vr 2 (HM cf xs).toArray)) os) _
  rw[hz]
  have hlen:zs.length=xs.length:=by rw[←hz];exact CG _ _
  have hfl:(flatK vr 2 zs.toArray).toList.length=(flatK vr 2 xs.toArray).size:=by rw[Array.length_toList,size_flatK,size_flatK];simp[hlen]
  have hq:=Go.Lib.putRow_eq_setCells id w g' ofs (flatK vr 2 xs.toArray) (flatK vr 2 zs.toArray).toList m hH hfl
  rw[Array.toArray_toList] at hq
  rw[hq,List.map_id]
  refine St.grown ?_ os
  have hst2:St J w0 (w.drewN m) (Ch.own (af E PT.rep) [.slice (some ⟨g',ofs,none⟩) xs.length cap] xs::C):=hst.drawn rfl rfl rfl rfl
  have hcapz:zs.length≤cap:=by rw[hlen];exact h1
  have hlimz:zs.length≤lim:=by
   have:lim=2 ^ 63 - 1:=rfl
   have:maxLen=2 ^ 63 - 1:=rfl
   omega
  have hlt: ∀(i:Nat) (z:Int×Int),zs[i]? =some z→i<xs.length:=fun i z hi=>by
   rcases Nat.lt_or_ge i zs.length with c | c
   ·omega
   ·rw[List.getElem?_eq_none c] at hi;cases hi
  have hnw: ∀(i:Nat) (z:Int×Int),zs[i]? =some z→ ∀j,j<2→(flatK vr 2 zs.toArray).toList[(i - 0)*2+j]? =(vr z)[j]? :=fun i z hi j hj=>by
   rw[Nat.sub_zero,Array.getElem?_toList]
   exact KV zs.toArray (by simpa using hi) hj
  have h3:=AC (p:=0) (cnt:=xs.length) (zs:=zs) (news:=(flatK vr 2 zs.toArray).toList) (Ty.sh_ok (t:=PT) rfl) (Ty.cpy (t:=PT) rfl) (k:=2) rfl (by rw[hfl,size_flatK];simp) (by omega) hcapz hlimz (fun i z hi=>.inl ⟨Nat.zero_le _,(by have:=hlt i z hi;omega),vr z,rfl,hnw i z hi,Sl z⟩) hst2
  rw[Nat.zero_mul,Nat.add_zero,show @List.length PT.den zs=xs.length from hlen] at h3
  exact h3
def cmpI (a b:Int):Int:=if a<b then -1 else if b<a then 1 else 0
def HO (x y:Int×Int):Int:=if x.1=y.1 then cmpI x.2 y.2 else cmpI x.1 y.1
theorem KX {a b:Int} :cmpI a b<0↔a<b:=by
 unfold cmpI
 split
 ·simp_all
 ·split <;> simp_all
theorem KY {x y:Int×Int} :ltOf HO x y=true↔x.1<y.1∨x.1=y.1∧x.2<y.2:=by
 unfold ltOf HO
 rw[decide_eq_true_iff]
 split
 ·rw[KX];omega
 ·rw[KX];omega
theorem vM {x y:Int×Int} :ltOf HO x y=false↔ ¬(x.1<y.1∨x.1=y.1∧x.2<y.2):=by
 rw[←KY,Bool.not_eq_true]
theorem Ov:SWO (ltOf HO) where
 irrefl x:=by rw[vM];omega
 trans x y z h k:=by rw[KY] at *;omega
 ntrans x y z h k:=by rw[vM] at *;omega
theorem Ow (x y:Int×Int) (h:ltOf HO x y=false) (k:ltOf HO y x=false):x=y:=by
 rw[vM] at h k
 exact Prod.ext (by omega) (by omega)
end R
namespace R
open Go.Shelf
def sZ:Go.Shelf.Ren:=⟨fun | 6=>259 | 15=>279 | 14=>313 | 28=>331 | 29=>332 | 20=>345 | 21=>346 | 22=>347 | 23=>348 | 24=>349 | 25=>350 | 26=>351 | 27=>352 | 46=>363 | 47=>355 | 48=>356 | 49=>364 | 50=>365 | 57=>368 | n=>n,fun | 22=>75 | 24=>128 | 25=>201 | 3=>3 | 39=>283 | 0=>0 | 53=>319 | 55=>322 | 4=>4 | 46=>327 | 45=>326 | 50=>221 | 5=>5 | 9=>9 | 66=>348 | 70=>352 | 76=>358 | 77=>306 | n=>n,fun | n=>n⟩
theorem yx:Go.Proofs.SlLaysF0.n6 Tryz.prog sZ:= {
 mixed:=by kernel_rfl
 f6:=⟨Tryz.f259.name,by decide,Tryz.func259.trans (congrArg some (by kernel_rfl))⟩
 f14:=⟨Tryz.f313.name,by decide,Tryz.func313.trans (congrArg some (by kernel_rfl))⟩
 f15:=Tryz.func279.trans (congrArg some (by kernel_rfl))
 f20:=⟨Tryz.f345.name,by decide,Tryz.func345.trans (congrArg some (by kernel_rfl))⟩
 f21:=⟨Tryz.f346.name,by decide,Tryz.func346.trans (congrArg some (by kernel_rfl))⟩
 f22:=⟨Tryz.f347.name,by decide,Tryz.func347.trans (congrArg some (by kernel_rfl))⟩
 f23:=⟨Tryz.f348.name,by decide,Tryz.func348.trans (congrArg some (by kernel_rfl))⟩
 f24:=⟨Tryz.f349.name,by decide,Tryz.func349.trans (congrArg some (by kernel_rfl))⟩
 f25:=⟨Tryz.f350.name,by decide,Tryz.func350.trans (congrArg some (by kernel_rfl))⟩
 f26:=⟨Tryz.f351.name,by decide,Tryz.func351.trans (congrArg some (by kernel_rfl))⟩
 f27:=⟨Tryz.f352.name,by decide,Tryz.func352.trans (congrArg some (by kernel_rfl))⟩
 f28:=Tryz.func331.trans (congrArg some (by kernel_rfl))
 f29:=Tryz.func332.trans (congrArg some (by kernel_rfl))
 f46:=⟨Tryz.f363.name,by decide,Tryz.func363.trans (congrArg some (by kernel_rfl))⟩
 f47:=Tryz.func355.trans (congrArg some (by kernel_rfl))
 f48:=Tryz.func356.trans (congrArg some (by kernel_rfl))
 f49:=⟨Tryz.f364.name,by decide,Tryz.func364.trans (congrArg some (by kernel_rfl))⟩
 f50:=⟨Tryz.f365.name,by decide,Tryz.func365.trans (congrArg some (by kernel_rfl))⟩
 f57:=⟨Tryz.f368.name,by decide,Tryz.func368.trans (congrArg some (by kernel_rfl))⟩
 t0:=Tryz.underlying0
 a0:=Tryz.isAgg0
 z0:=Tryz.sizeOf0
 v0:=Tryz.zeroValue0
 t3:=Tryz.underlying3
 a3:=Tryz.isAgg3
 z3:=Tryz.sizeOf3
 v3:=Tryz.zeroValue3
 t4:=Tryz.underlying4
 a4:=Tryz.isAgg4
 z4:=Tryz.sizeOf4
 v4:=Tryz.zeroValue4
 t5:=Tryz.underlying5
 a5:=Tryz.isAgg5
 z5:=Tryz.sizeOf5
 v5:=Tryz.zeroValue5
 t9:=Tryz.underlying9
 a9:=Tryz.isAgg9
 z9:=Tryz.sizeOf9
 v9:=Tryz.zeroValue9
 t22:=Tryz.underlying75
 a22:=Tryz.isAgg75
 z22:=Tryz.sizeOf75
 v22:=Tryz.zeroValue75
 t25:=Tryz.underlying201
 a25:=Tryz.isAgg201
 z25:=Tryz.sizeOf201
 v25:=Tryz.zeroValue201
 t39:=Tryz.underlying283
 a39:=Tryz.isAgg283
 z39:=Tryz.sizeOf283
 v39:=Tryz.zeroValue283
 t45:=Tryz.underlying326
 a45:=Tryz.isAgg326
 z45:=Tryz.sizeOf326
 v45:=Tryz.zeroValue326
 t46:=Tryz.underlying327
 a46:=Tryz.isAgg327
 z46:=Tryz.sizeOf327
 v46:=Tryz.zeroValue327
 t50:=Tryz.underlying221
 a50:=Tryz.isAgg221
 z50:=Tryz.sizeOf221
 v50:=Tryz.zeroValue221
 t53:=Tryz.underlying319
 a53:=Tryz.isAgg319
 z53:=Tryz.sizeOf319
 v53:=Tryz.zeroValue319
 t55:=Tryz.underlying322
 a55:=Tryz.isAgg322
 z55:=Tryz.sizeOf322
 v55:=Tryz.zeroValue322
 t66:=Tryz.underlying348
 a66:=Tryz.isAgg348
 z66:=Tryz.sizeOf348
 v66:=Tryz.zeroValue348
 t70:=Tryz.underlying352
 a70:=Tryz.isAgg352
 z70:=Tryz.sizeOf352
 v70:=Tryz.zeroValue352
 t76:=Tryz.underlying358
 a76:=Tryz.isAgg358
 z76:=Tryz.sizeOf358
 v76:=Tryz.zeroValue358
 t77:=Tryz.underlying306
 a77:=Tryz.isAgg306
 z77:=Tryz.sizeOf306
 v77:=Tryz.zeroValue306 }
end R
namespace R
open Go.RowKit
open D
def FldAll (P:Program) (T:TypeId):Nat→List (Nat×Nat)→Prop
 | _,[] =>True
 | i,q::l=>TF P T i q.1 q.2∧FldAll P T (i+1) l
theorem FldAll.get {P:Program} {T:TypeId} : ∀ {l:List (Nat×Nat)} {i:Nat},FldAll P T i l→ ∀f q,l[f]? =some q→TF P T (i+f) q.1 q.2
 | [],_,_,f,q,h=>by simp at h
 | x::l,i,⟨h1,h2⟩,f,q,h=>by
  cases f with
  | zero=>simp at h;subst h;exact h1
  | succ f =>
   have:=FldAll.get h2 f q (by simpa using h)
   rwa [show i+1+f=i+(f+1) from by omega] at this
section
variable {P:Program} {T:TypeId}
theorem wU {n b:Nat} {ty:Ty} {z:Value} {boo:Bool} {ik:Option (Option IntKind)} (h1:TI P T false 1) (h2:ty.size=1) (h3:TZ P T z 1 b) (h4:z.cells=(zeroCells ty).toArray) (h5:1≤b) (h6:boo=true→P.underlying T=some .bool) (h7: ∀k,ik=some k→P.underlying T=some (ikD k)):TDok P T ⟨false,1,none,ty,[],some b,none,boo,none,none,ik,false,none⟩:=
 ⟨h1,rfl,h2,fun E h=>by simp at h,fun f q h=>by simp at h,fun b' h=>by obtain rfl:=Option.some.inj h;exact ⟨z,h3,h4,h5⟩,fun pl h=>by simp at h,h6,(fun ks h=>by cases h),(fun m h=>by cases h),h7,(fun h=>by cases h),fun e h=>by cases h⟩
theorem px {E:TypeId} {t:Ty} (h1:TI P T false 1) (h2:P.underlying T=some (.slice E)) (h3:TZ P T (.slice none 0 0) 1 24):TDok P T ⟨false,1,some E,.sl E t,[],some 24,none,false,none,none,none,false,none⟩:=
 ⟨h1,rfl,rfl,fun E' h=>by obtain rfl:=Option.some.inj h;exact h2,fun f q h=>by simp at h,fun b' h=>by obtain rfl:=Option.some.inj h;exact ⟨_,h3,rfl,by decide⟩,fun pl h=>by simp at h,(fun h=>by cases h),(fun ks h=>by cases h),(fun m h=>by cases h),(fun k h=>by cases h),(fun h=>by cases h),fun e h=>by cases h⟩
theorem nl {n b:Nat} {ty:Ty} {fs pl:List (Nat×Nat)} {z:Value} {eq:Option (List (Option IntKind))} (h1:TI P T true n) (h2:ty.size=n) (h3:FldAll P T 0 fs) (h4:TZ P T z n b) (h5:z.cells=(zeroCells ty).toArray) (h6:1≤b) (h7:TB P T pl) (h8: ∀ks,eq=some ks→ ∀w,Curq ks fun xs ys r=>EqT P T (.agg xs.toArray) (.agg ys.toArray) r w):TDok P T ⟨true,n,none,ty,fs,some b,some pl,false,eq,none,none,false,none⟩:=
 ⟨h1,rfl,h2,fun E h=>by simp at h,fun f q h=>by have:=h3.get f q h;rwa [Nat.zero_add] at this,fun b' h=>by obtain rfl:=Option.some.inj h;exact ⟨z,h4,h5,h6⟩,fun pl' h=>by obtain rfl:=Option.some.inj h;exact h7,(fun h=>by cases h),h8,(fun m h=>by cases h),(fun k h=>by cases h),(fun h=>by cases h),fun e h=>by cases h⟩
theorem Ej {ty:Ty} {b:Nat} (h1:TI P T false 1) (h2:ty.size=1) (h3:TZ P T .nilFunc 1 b):TDok P T ⟨false,1,none,ty,[],none,none,false,none,none,none,true,none⟩:=
 ⟨h1,rfl,h2,fun E h=>by simp at h,fun f q h=>by simp at h,(fun b' h=>by cases h),(fun pl h=>by cases h),(fun h=>by cases h),(fun ks h=>by cases h),(fun m' h=>by cases h),(fun k h=>by cases h),(fun _=>⟨b,h3⟩),fun e h=>by cases h⟩
theorem VY {m:MD} {ty:Ty} (h1:TI P T false 1) (h2:ty.size=1) (h3:MDok P T m):TDok P T ⟨false,1,none,ty,[],none,none,false,none,some m,none,false,none⟩:=
 ⟨h1,rfl,h2,fun E h=>by simp at h,fun f q h=>by simp at h,(fun b' h=>by cases h),(fun pl h=>by cases h),(fun h=>by cases h),(fun ks h=>by cases h),(fun m' h=>by obtain rfl:=Option.some.inj h;exact h3),(fun k h=>by cases h),(fun h=>by cases h),fun e h=>by cases h⟩
theorem VZ {e E:TypeId} {u:Ty} (h1:TI P T false 1) (h2:P.underlying T=some (.pointer e)) (h3:TZ P T (.pointer none) 1 8):TDok P T ⟨false,1,none,.fro (.tree e E u),[],some 8,none,false,none,none,none,false,some e⟩:=
 ⟨h1,rfl,rfl,fun E' h=>by simp at h,fun f q h=>by simp at h,fun b' h=>by obtain rfl:=Option.some.inj h;exact ⟨_,h3,rfl,by decide⟩,fun pl h=>by simp at h,(fun h=>by cases h),(fun ks h=>by cases h),(fun m h=>by cases h),(fun k h=>by cases h),(fun h=>by cases h),fun e' h=>by obtain rfl:=Option.some.inj h;exact h2⟩
end
end R
namespace D
open Go.RowKit
def pQ (p0a:List (Int×Int×Int×Int)) (p1left:Int):Option Int:=
 if decide (IntKind.i64.wrap (p1left - (p0a.length:Int))<0) then (some (-1)) else (some (IntKind.i64.wrap (p1left - (p0a.length:Int))))
def qH (p0a:(List (Int×Int×Int×Int))) (p1left:Int):Option Int:=
 (pQ p0a p1left).bind fun r1=>if decide (r1<0) then (some (-1)) else (some r1)
def oB (p0a:Int×Int×Int×Int):Option (Int×Int×Int×Int):=
 some (p0a.1,p0a.2.1,p0a.2.2.1,p0a.2.2.2)
def jc (p0a:List (Int×Int×Int×Int)) (s3:(List (Int×Int×Int×Int))×Int):Option (Out (List (Int×Int×Int×Int)) ((List (Int×Int×Int×Int))×Int)):=
 if decide (s3.2<(p0a.length:Int)) then ((aw p0a s3.2).bind fun x6=>(oB (x6.1,x6.2.1,x6.2.2.1,x6.2.2.2)).bind fun r3=>(aw s3.1 s3.2).bind fun x7=>some (.nxt (s3.1.set s3.2.toNat (r3.1,r3.2.1,r3.2.2.1,r3.2.2.2),IntKind.i64.wrap (s3.2+1)))) else (some (.brk (s3.1,s3.2)))
def mJ (p0a:List (Int×Int×Int×Int)):Option (List (Int×Int×Int×Int)):=
 (mkI 32 (p0a.length:Int) ((0,0,0,0):Int×Int×Int×Int)).bind fun x1=>az (ai (jc p0a) aB (x1,0)) (fun r=>some r) (fun s4=>some s4.1)
def lG (p0a:(List (Int×Int×Int×Int))):Option (List (Int×Int×Int×Int)):=
 (mJ p0a).bind fun r1=>some r1
def oC (p0a:Int×Int×Int×Int) (p1b:Int×Int×Int×Int):Option Bool:=
 if p0a.1 !=p1b.1 then (some false) else (if p0a.2.1 !=p1b.2.1 then (some false) else (if p0a.2.2.1 !=p1b.2.2.1 then (some false) else (if p0a.2.2.2 !=p1b.2.2.2 then (some false) else (some true))))
def jd (p0a:List (Int×Int×Int×Int)) (p1b:List (Int×Int×Int×Int)) (s3:Int):Option (Out Bool Int):=
 if decide (s3<(p0a.length:Int)) then ((aw p0a s3).bind fun x5=>(aw p1b s3).bind fun x6=>(oC (x5.1,x5.2.1,x5.2.2.1,x5.2.2.2) (x6.1,x6.2.1,x6.2.2.1,x6.2.2.2)).bind fun r3=>if r3 then (some (.nxt (IntKind.i64.wrap (s3+1)))) else (some (.ret false))) else (some (.brk s3))
def pR (p0a:List (Int×Int×Int×Int)) (p1b:List (Int×Int×Int×Int)):Option Bool:=
 if (p0a.length:Int) !=(p1b.length:Int) then (some false) else (az (ai (jd p0a p1b) aB 0) (fun r=>some r) (fun s4=>some true))
def qI (p0a:(List (Int×Int×Int×Int))) (p1b:(List (Int×Int×Int×Int))):Option Bool:=
 (pR p0a p1b).bind fun r1=>if r1 then (some true) else (some false)
def ug (p0a:List Int) (p1left:Int):Option Int:=
 if decide (IntKind.i64.wrap (p1left - (p0a.length:Int))<0) then (some (-1)) else (some (IntKind.i64.wrap (p1left - (p0a.length:Int))))
def rM (p0a:List (Int×Int×Int×Int)) (p1left:Int):Option Int:=
 if decide (IntKind.i64.wrap (p1left - (p0a.length:Int))<0) then (some (-1)) else (some (IntKind.i64.wrap (p1left - (p0a.length:Int))))
def oD (p0a:(List Int)×(List (Int×Int×Int×Int))) (p1left:Int):Option Int:=
 (ug p0a.1 p1left).bind fun r1=>if decide (r1<0) then (some (-1)) else ((rM p0a.2 r1).bind fun r2=>if decide (r2<0) then (some (-1)) else (some r2))
def rN (p0a:List (Int×Int)) (p1left:Int):Option Int:=
 if decide (IntKind.i64.wrap (p1left - (p0a.length:Int))<0) then (some (-1)) else (some (IntKind.i64.wrap (p1left - (p0a.length:Int))))
def rO (p0a:List (Int×Bool)) (p1left:Int):Option Int:=
 if decide (IntKind.i64.wrap (p1left - (p0a.length:Int))<0) then (some (-1)) else (some (IntKind.i64.wrap (p1left - (p0a.length:Int))))
def qJ (p0a:Int×(List (Int×Bool))) (p1left:Int):Option Int:=
 (rO p0a.2 p1left).bind fun r1=>if decide (r1<0) then (some (-1)) else (some r1)
def ke (p0a:List (Int×(List (Int×Bool)))) (s3:Int×Int):Option (Out Int (Int×Int)):=
 if decide (s3.2<(p0a.length:Int)) then ((aw p0a s3.2).bind fun x3=>(qJ (x3.1,x3.2) s3.1).bind fun r6=>if decide (r6<0) then (some (.ret (-1))) else (some (.nxt (r6,IntKind.i64.wrap (s3.2+1))))) else (some (.brk (s3.1,s3.2)))
def rP (p0a:List (Int×(List (Int×Bool)))) (p1left:Int):Option Int:=
 if decide (IntKind.i64.wrap (p1left - (p0a.length:Int))<0) then (some (-1)) else (az (ai (ke p0a) aB (IntKind.i64.wrap (p1left - (p0a.length:Int)),0)) (fun r=>some r) (fun s4=>some s4.1))
def nm (p0l:List Int) (p1x:Int) (s3:Int):Option (Out Int Int):=
 if decide (s3<(p0l.length:Int)) then ((aw p0l s3).bind fun x3=>if x3==p1x then (some (.ret s3)) else (some (.nxt (IntKind.i64.wrap (s3+1))))) else (some (.brk s3))
def lS (p0l:List Int) (p1x:Int):Option Int:=
 az (ai (nm p0l p1x) aB 0) (fun r=>some r) (fun s4=>some (-1))
def uh (s3:(List Int)×Int):Option (Out (Int×(List Bool)×(List (List Int))) ((List Int)×Int)):=
 if decide (s3.2<9) then ((da 8 s3.1 ([-1])).bind fun z3=>some (.nxt (z3,IntKind.i64.wrap (s3.2+1)))) else (some (.brk (s3.1,s3.2)))
def np:Option (Int×(List Bool)×(List (List Int))):=
 az (ai (uh) aB (([] :List Int),0)) (fun r=>some r) (fun s4=>some (0,[false],[s4.1]))
def fj (p0:Int×(List Bool)×(List (List Int))) (p1:List Int) (p2:List Bool) (s17:(List Int)×(List Int)×Int×Int×(List Bool)×(List (List Int))) (s23:(List Int)×(List Int)×(List Int)×Int):Option (Out (Int×(List Bool)×(List (List Int))) ((List Int)×(List Int)×(List Int)×Int)):=
 if decide (s23.2.2.2<9) then ((aw s23.2.1 s17.2.2.1).bind fun x79=>(aw p0.2.2 x79).bind fun x80=>(aw x80 s23.2.2.2).bind fun x81=>Option.bind ((if decide (x81≥0) then ((aw p2 x81).bind fun x85=>if x85 then ((aw p1 x81).bind fun x86=>(lS s23.1 x86).bind fun r28=>if decide (r28<0) then ((aw p1 x81).bind fun x87=>(da 8 s23.1 ([x87])).bind fun z47=>(da 8 s23.2.1 ([x81])).bind fun z48=>some (z47,z48,(s23.1.length:Int))) else (some (s23.1,s23.2.1,r28))) else (some (s23.1,s23.2.1,-1))) else (some (s23.1,s23.2.1,-1)):Option ((List Int)×(List Int)×Int))) (fun s25=>(da 8 s23.2.2.1 ([s25.2.2])).bind fun z49=>some (.nxt (s25.1,s25.2.1,z49,IntKind.i64.wrap (s23.2.2.2+1))))) else (some (.brk (s23.1,s23.2.1,s23.2.2.1,s23.2.2.2)))
def iq (p0:Int×(List Bool)×(List (List Int))) (p1:List Int) (p2:List Bool) (s17:(List Int)×(List Int)×Int×Int×(List Bool)×(List (List Int))):Option (Out (Int×(List Bool)×(List (List Int))) ((List Int)×(List Int)×Int×Int×(List Bool)×(List (List Int)))):=
 if decide (s17.2.2.1<(s17.1.length:Int)) then (az (ai (fj p0 p1 p2 s17) aB (s17.1,s17.2.1,([] :List Int),0)) (fun r=>some (.ret r)) (fun s24=>(aw s24.2.1 s17.2.2.1).bind fun x88=>(aw p0.2.1 x88).bind fun x89=>(da 1 s17.2.2.2.2.1 ([x89])).bind fun z50=>(da 24 s17.2.2.2.2.2 ([s24.2.2.1])).bind fun z51=>some (.nxt (s24.1,s24.2.1,IntKind.i64.wrap (s17.2.2.1+1),s17.2.2.2.1,z50,z51)))) else (some (.brk (s17.1,s17.2.1,s17.2.2.1,s17.2.2.2.1,s17.2.2.2.2.1,s17.2.2.2.2.2)))
def gA (p0:Int×(List Bool)×(List (List Int))) (p1:List Int) (p2:List Bool):Option (Int×(List Bool)×(List (List Int))):=
 (aw p2 p0.1).bind fun x1=>if x1 then ((aw p1 p0.1).bind fun x2=>az (ai (iq p0 p1 p2) aB ([x2],[p0.1],0,0,[],[])) (fun r=>some r) (fun s18=>some (s18.2.2.2.1,s18.2.2.2.2.1,s18.2.2.2.2.2))) else ((np).bind fun r1=>some (r1.1,r1.2.1,r1.2.2))
def gT (p0a:Int×(List Bool)×(List (List Int))) (s71:(List Bool)×Int) (s77:(List Bool)×Int):Option (Out (List Bool) ((List Bool)×Int)):=
 if decide (s77.2<9) then (Option.bind (((aw p0a.2.2 s71.2).bind fun x319=>(aw x319 s77.2).bind fun x320=>if decide (x320≥0) then ((aw p0a.2.2 s71.2).bind fun x321=>(aw x321 s77.2).bind fun x322=>(aw s77.1 x322).bind fun x323=>if x323 then ((aw s77.1 s71.2).bind fun x324=>some (s77.1.set s71.2.toNat true)) else (some s77.1)) else (some s77.1):Option (List Bool))) (fun s79=>some (.nxt (s79,IntKind.i64.wrap (s77.2+1))))) else (some (.brk (s77.1,s77.2)))
def gU (p0a:Int×(List Bool)×(List (List Int))) (s71:(List Bool)×Int):Option (Out (List Bool) ((List Bool)×Int)):=
 if decide (s71.2<(p0a.2.1.length:Int)) then (az (ai (gT p0a s71) aB (s71.1,0)) (fun r=>some (.ret r)) (fun s78=>some (.nxt (s78.1,IntKind.i64.wrap (s71.2+1))))) else (some (.brk (s71.1,s71.2)))
def kg (p0a:Int×(List Bool)×(List (List Int))) (s53:(List Bool)×Int):Option (Out (List Bool) ((List Bool)×Int)):=
 if decide (s53.2<(p0a.2.1.length:Int)) then (az (ai (gU p0a) aB (s53.1,0)) (fun r=>some (.ret r)) (fun s72=>some (.nxt (s72.1,IntKind.i64.wrap (s53.2+1))))) else (some (.brk (s53.1,s53.2)))
def jQ (p0a:Int×(List Bool)×(List (List Int))):Option (List Bool):=
 (da 1 ([] :List Bool) p0a.2.1).bind fun z1=>az (ai (kg p0a) aB (z1,0)) (fun r=>some r) (fun s54=>some s54.1)
def lj (p0a:Int×(List Bool)×(List (List Int))) (p1classes:List Int) (p2s:Int) (s5:(List Int)×Int):Option (Out (List Int) ((List Int)×Int)):=
 if decide (s5.2<9) then (Option.bind (((aw p0a.2.2 p2s).bind fun x17=>(aw x17 s5.2).bind fun x18=>if decide (x18<0) then ((da 8 s5.1 ([-1])).bind fun z12=>some z12) else ((aw p1classes x18).bind fun x19=>(da 8 s5.1 ([x19])).bind fun z11=>some z11):Option (List Int))) (fun s7=>some (.nxt (s7,IntKind.i64.wrap (s5.2+1))))) else (some (.brk (s5.1,s5.2)))
def nI (p0a:Int×(List Bool)×(List (List Int))) (p1classes:List Int) (p2s:Int):Option (List Int):=
 (aw p1classes p2s).bind fun x1=>az (ai (lj p0a p1classes p2s) aB ([x1],0)) (fun r=>some r) (fun s6=>some s6.1)
def mK (p0a:List Int) (p1b:List Int) (s3:Int):Option (Out Int Int):=
 if decide (s3<(p0a.length:Int)) then (if decide (s3<(p1b.length:Int)) then ((aw p0a s3).bind fun x9=>(aw p1b s3).bind fun x10=>if decide (x9<x10) then (some (.ret (-1))) else ((aw p0a s3).bind fun x11=>(aw p1b s3).bind fun x12=>if decide (x11>x12) then (some (.ret 1)) else (some (.nxt (IntKind.i64.wrap (s3+1)))))) else (some (.brk s3))) else (some (.brk s3))
def pS (p0a:List Int) (p1b:List Int):Option Int:=
 az (ai (mK p0a p1b) aB 0) (fun r=>some r) (fun s4=>if decide ((p0a.length:Int)<(p1b.length:Int)) then (some (-1)) else (if decide ((p0a.length:Int)>(p1b.length:Int)) then (some 1) else (some 0)))
def eB (p0:Int×(List Bool)×List (List Int)) (r0:List Bool) (s2:(List Int)×Int):Option (Out (List Int) ((List Int)×Int)):=
 if decide (s2.2<(p0.2.1.length:Int)) then ((aw p0.2.1 s2.2).bind fun x3=>Option.bind ((if x3 then (some 1) else (some 0):Option Int)) (fun s4=>(aw r0 s2.2).bind fun x5=>Option.bind ((if x5 then (some s4) else (some (-1)):Option Int)) (fun s6=>(da 8 s2.1 ([s6])).bind fun z7=>some (.nxt (z7,IntKind.i64.wrap (s2.2+1)))))) else (some (.brk (s2.1,s2.2)))
def eC (s13:(List (List Int))×(List Int)×Int) (r16:List Int) (s18:Int×Int):Option (Out (List Int) (Int×Int)):=
 if decide (s18.2<(s13.1.length:Int)) then (Option.bind (((aw s13.1 s18.2).bind fun x19=>(pS x19 r16).bind fun r20=>if r20==0 then (some s18.2) else (some s18.1):Option Int)) (fun s21=>some (.nxt (s21,IntKind.i64.wrap (s18.2+1))))) else (some (.brk (s18.1,s18.2)))
def eD (p0:Int×(List Bool)×List (List Int)) (s11:(List Int)×Int) (s13:(List (List Int))×(List Int)×Int):Option (Out (List Int) ((List (List Int))×(List Int)×Int)):=
 if decide (s13.2.2<(p0.2.1.length:Int)) then (Option.bind (((aw s11.1 s13.2.2).bind fun x14=>if decide (x14<0) then ((da 8 s13.2.1 ([(-1)])).bind fun z15=>some (s13.1,z15)) else ((nI (p0.1,p0.2.1,p0.2.2) s11.1 s13.2.2).bind fun r16=>az (ai (eC s13 r16) aB ((-1),0)) (fun r22=>none) (fun s23=>Option.bind ((if decide (s23.1<0) then ((da 24 s13.1 ([r16])).bind fun z24=>some (z24,(s13.1.length:Int))) else (some (s13.1,s23.1)):Option ((List (List Int))×Int))) (fun s25=>(da 8 s13.2.1 ([s25.2])).bind fun z26=>some (s25.1,z26)))):Option ((List (List Int))×List Int))) (fun s27=>some (.nxt (s27.1,s27.2,IntKind.i64.wrap (s13.2.2+1))))) else (some (.brk (s13.1,s13.2.1,s13.2.2)))
def jR (p0:Int×(List Bool)×List (List Int)) (s11:(List Int)×Int):Option (Out (List Int) ((List Int)×Int)):=
 if decide (s11.2≤(p0.2.1.length:Int)) then (az (ai (eD p0 s11) aB (([] :List (List Int)),([] :List Int),0)) (fun r28=>some (.ret r28)) (fun s29=>(pS s29.2.1 s11.1).bind fun r30=>if r30==0 then (some (.ret s11.1)) else (some (.nxt (s29.2.1,IntKind.i64.wrap (s11.2+1)))))) else (some (.brk (s11.1,s11.2)))
def gV (p0:Int×(List Bool)×List (List Int)):Option (List Int):=
 (jQ (p0.1,p0.2.1,p0.2.2)).bind fun r0=>az (ai (eB p0 r0) aB (([] :List Int),0)) (fun r8=>some r8) (fun s9=>az (ai (jR p0) aB (s9.1,0)) (fun r31=>some r31) (fun s32=>some s32.1))
def fR (p0a:Int×(List Bool)×(List (List Int))):Option (Int×(List Bool)×(List (List Int))):=
 (gV (p0a.1,p0a.2.1,p0a.2.2)).bind fun r1=>(jQ (p0a.1,p0a.2.1,p0a.2.2)).bind fun r2=>(gA (p0a.1,p0a.2.1,p0a.2.2) r1 r2).bind fun r3=>some (r3.1,r3.2.1,r3.2.2)
def bG (p0x:Int) (p1low:Int) (p2high:Int):Option Bool:=
 if decide (p0x≥p1low) then (some (decide (p0x≤p2high))) else (some false)
def mL (p0n:Int):Option Bool:=
 (bG p0n 0 8).bind fun r1=>some r1
def lT (p0:Int×Int×Int×Int):Option Int:=
 Option.bind ((if p0.1==1 then (some (p0.1==1)) else (some (p0.1==2)):Option Bool)) (fun s1=>if s1 then (if p0.2.1 !=0 then (some (-1)) else (if p0.2.2.1 !=0 then (some (-1)) else (if p0.2.2.2 !=0 then (some (-1)) else (some 0)))) else (if p0.1==3 then ((mL p0.2.1).bind fun r3=>if r3 then (if p0.2.2.1 !=0 then (some (-1)) else (if p0.2.2.2 !=0 then (some (-1)) else (some 0))) else (some (-1))) else (Option.bind ((if p0.1==4 then (some (p0.1==4)) else (some (p0.1==5)):Option Bool)) (fun s2=>if s2 then (if p0.2.1 !=0 then (some (-1)) else (if p0.2.2.1 !=0 then (some (-1)) else (if p0.2.2.2 !=0 then (some (-1)) else (some 2)))) else (if p0.1==6 then (if p0.2.1 !=0 then (some (-1)) else (if p0.2.2.1 !=0 then (some (-1)) else (if p0.2.2.2 !=0 then (some (-1)) else (some 1)))) else (if p0.1==7 then (if p0.2.1 !=0 then (some (-1)) else ((bG p0.2.2.2 1 3).bind fun r1=>if r1 then ((bG p0.2.2.1 0 p0.2.2.2).bind fun r2=>if r2 then (some 1) else (some (-1))) else (some (-1)))) else (some (-1))))))))
def oE (p0e:(List (Int×Int×Int×Int))) (s3:Int×Int):Option (Out Bool (Int×Int)):=
 if decide (s3.2<(p0e.length:Int)) then ((aw p0e s3.2).bind fun x3=>(lT (x3.1,x3.2.1,x3.2.2.1,x3.2.2.2)).bind fun r3=>if decide (r3<0) then (some (.ret false)) else (if decide (r3>s3.1) then (some (.ret false)) else (some (.nxt (IntKind.i64.wrap ((IntKind.i64.wrap (s3.1 - r3))+1),IntKind.i64.wrap (s3.2+1)))))) else (some (.brk (s3.1,s3.2)))
def qK (p0e:(List (Int×Int×Int×Int))):Option Bool:=
 az (ai (oE p0e) aB (0,0)) (fun r=>some r) (fun s4=>some (s4.1==1))
def fS (p0e:(List (Int×Int×Int×Int))):Option Bool:=
 if decide ((p0e.length:Int)≤24) then ((qK p0e).bind fun r1=>some r1) else (some false)
def kh (p0l:List (Int×Int×Int×Int)) (s3:Int×Int):Option (Out Int (Int×Int)):=
 if decide (s3.1>0) then ((aw p0l (IntKind.i64.wrap (s3.2 - 1))).bind fun x3=>(lT (x3.1,x3.2.1,x3.2.2.1,x3.2.2.2)).bind fun r3=>some (.nxt (IntKind.i64.wrap ((IntKind.i64.wrap (s3.1 - 1))+r3),IntKind.i64.wrap (s3.2 - 1)))) else (some (.brk (s3.1,s3.2)))
def dN (p0l:List (Int×Int×Int×Int)):Option Int:=
 az (ai (kh p0l) aB (1,(p0l.length:Int))) (fun r=>some r) (fun s4=>some s4.2)
def dj:Nat→(List (Int×Int×Int×Int))→Option Int
 | 0,_=>none
 | n+1,p0l =>
  (aw p0l (IntKind.i64.wrap ((p0l.length:Int) - 1))).bind fun x0=>Option.bind ((if x0.1==4 then (some (x0.1==4)) else (some (x0.1==5)):Option Bool)) (fun s1=>if s1 then ((chk (And (0≤(IntKind.i64.wrap ((p0l.length:Int) - 1))) ((IntKind.i64.wrap ((p0l.length:Int) - 1))≤(p0l.length:Int)))).bind fun _=>(dN (p0l.take ((IntKind.i64.wrap ((p0l.length:Int) - 1)).toNat))).bind fun r3=>(chk (And (0≤r3) (r3≤(p0l.length:Int)))).bind fun _=>((dj n) (p0l.take r3.toNat)).bind fun r9=>(chk (And (0≤r3) (And (r3≤(IntKind.i64.wrap ((p0l.length:Int) - 1))) ((IntKind.i64.wrap ((p0l.length:Int) - 1))≤(p0l.length:Int))))).bind fun _=>((dj n) ((p0l.take ((IntKind.i64.wrap ((p0l.length:Int) - 1)).toNat)).drop r3.toNat)).bind fun r11=>some (Min.min 100000 (IntKind.i64.wrap ((IntKind.i64.wrap (r9+r11))+1)))) else (if x0.1==6 then ((chk (And (0≤(IntKind.i64.wrap ((p0l.length:Int) - 1))) ((IntKind.i64.wrap ((p0l.length:Int) - 1))≤(p0l.length:Int)))).bind fun _=>((dj n) (p0l.take ((IntKind.i64.wrap ((p0l.length:Int) - 1)).toNat))).bind fun r13=>some (Min.min 100000 (IntKind.i64.wrap (r13+1)))) else (if x0.1==7 then ((chk (And (0≤(IntKind.i64.wrap ((p0l.length:Int) - 1))) ((IntKind.i64.wrap ((p0l.length:Int) - 1))≤(p0l.length:Int)))).bind fun _=>((dj n) (p0l.take ((IntKind.i64.wrap ((p0l.length:Int) - 1)).toNat))).bind fun r17=>some (Min.min 100000 (IntKind.i64.wrap ((IntKind.i64.wrap ((IntKind.i64.wrap (r17+3))*x0.2.2.2))+1)))) else (some 1))))
def ui (p0l:List (Int×Int×Int×Int)):Option (List (Int×Int×Int×Int)):=
 (da 32 ([] :List (Int×Int×Int×Int)) p0l).bind fun z1=>some z1
def jS (p0a:(List (Int×Int×Int×Int))) (p1b:(List (Int×Int×Int×Int))) (p2t:Int×Int×Int×Int):Option (List (Int×Int×Int×Int)):=
 (ui p0a).bind fun r1=>(da 32 r1 p1b).bind fun z1=>(da 32 z1 ([(p2t.1,p2t.2.1,p2t.2.2.1,p2t.2.2.2)])).bind fun z2=>some z2
def nJ (p0kind:Int):Option (List (Int×Int×Int×Int)):=
 some ([(p0kind,0,0,0)])
def iK:Nat→(List (Int×Int×Int×Int))→Int→Int→Option (List (Int×Int×Int×Int))
 | 0,_,_,_=>none
 | n+1,p0e,p1low,p2high =>
  if p2high==0 then ((nJ 2).bind fun r0=>some r0) else (((iK n) p0e (Max.max 0 (IntKind.i64.wrap (p1low - 1))) (IntKind.i64.wrap (p2high - 1))).bind fun r3=>(jS p0e r3 (4,0,0,0)).bind fun r4=>if decide (p1low>0) then (some r4) else ((nJ 2).bind fun r7=>(jS r4 r7 (5,0,0,0)).bind fun r8=>some r8))
def bQ:Nat→(List (Int×Int×Int×Int))→Option (List (Int×Int×Int×Int))
 | 0,_=>none
 | n+1,p0l =>
  (aw p0l (IntKind.i64.wrap ((p0l.length:Int) - 1))).bind fun x0=>Option.bind ((if x0.1==4 then (some (x0.1==4)) else (some (x0.1==5)):Option Bool)) (fun s1=>if s1 then ((chk (And (0≤(IntKind.i64.wrap ((p0l.length:Int) - 1))) ((IntKind.i64.wrap ((p0l.length:Int) - 1))≤(p0l.length:Int)))).bind fun _=>(dN (p0l.take ((IntKind.i64.wrap ((p0l.length:Int) - 1)).toNat))).bind fun r3=>(chk (And (0≤r3) (r3≤(p0l.length:Int)))).bind fun _=>((bQ n) (p0l.take r3.toNat)).bind fun r10=>(chk (And (0≤r3) (And (r3≤(IntKind.i64.wrap ((p0l.length:Int) - 1))) ((IntKind.i64.wrap ((p0l.length:Int) - 1))≤(p0l.length:Int))))).bind fun _=>((bQ n) ((p0l.take ((IntKind.i64.wrap ((p0l.length:Int) - 1)).toNat)).drop r3.toNat)).bind fun r12=>(jS r10 r12 (x0.1,x0.2.1,x0.2.2.1,x0.2.2.2)).bind fun r13=>some r13) else (if x0.1==6 then ((chk (And (0≤(IntKind.i64.wrap ((p0l.length:Int) - 1))) ((IntKind.i64.wrap ((p0l.length:Int) - 1))≤(p0l.length:Int)))).bind fun _=>((bQ n) (p0l.take ((IntKind.i64.wrap ((p0l.length:Int) - 1)).toNat))).bind fun r18=>(jS r18 ([] :List (Int×Int×Int×Int)) (x0.1,x0.2.1,x0.2.2.1,x0.2.2.2)).bind fun r19=>some r19) else (if x0.1==7 then ((chk (And (0≤(IntKind.i64.wrap ((p0l.length:Int) - 1))) ((IntKind.i64.wrap ((p0l.length:Int) - 1))≤(p0l.length:Int)))).bind fun _=>((bQ n) (p0l.take ((IntKind.i64.wrap ((p0l.length:Int) - 1)).toNat))).bind fun r24=>(iK dy r24 x0.2.2.1 x0.2.2.2).bind fun r25=>some r25) else (some ([(x0.1,x0.2.1,x0.2.2.1,x0.2.2.2)])))))
def kj (p0e:(List (Int×Int×Int×Int))):Option (((List (Int×Int×Int×Int)))×Bool):=
 (fS p0e).bind fun r1=>if r1 then ((dj dy p0e).bind fun r2=>if decide (r2>5000) then (some ([],false)) else ((bQ dy p0e).bind fun r3=>if decide ((r3.length:Int)>400) then (some ([],false)) else (some (r3,true)))) else (some ([],false))
def gW (p1from:Int) (p2to:Int) (s2:Int×List Int):Option (Out ((List Int)×Int×Int×(List Int)×Bool) (Int×List Int)):=
 if decide (s2.1<(s2.2.length:Int)) then (Option.bind (((chk (0≤s2.1)).bind fun _=>if (pB (lI p1from s2.1) 1)==1 then ((aw s2.2 s2.1).bind fun x6=>(aw s2.2 s2.1).bind fun x7=>some (s2.2.set s2.1.toNat (orI x6 p2to))) else (some s2.2):Option (List Int))) (fun s8=>some (.nxt (IntKind.i64.wrap (s2.1+1),s8)))) else (some (.brk (s2.1,s2.2)))
def lU (p0p:(List Int)×Int×Int×(List Int)×Bool) (p1from:Int) (p2to:Int):Option ((List Int)×Int×Int×(List Int)×Bool):=
 az (ai (gW p1from p2to) aB (0,p0p.2.2.2.1)) (fun r9=>some r9) (fun s10=>some (p0p.1,p0p.2.1,p0p.2.2.1,s10.2,p0p.2.2.2.2))
def cD:Nat→((List Int)×Int×Int×(List Int)×Bool)→(List (Int×Int×Int×Int))→Option ((Bool×Int×Int)×(List Int)×Int×Int×(List Int)×Bool)
 | 0,_,_=>none
 | n+1,p0,p1 =>
  (aw p1 (IntKind.i64.wrap ((p1.length:Int) - 1))).bind fun x0=>if x0.1==2 then (some ((true,0,0),p0.1,p0.2.1,p0.2.2.1,p0.2.2.2.1,p0.2.2.2.2)) else (if x0.1==3 then ((da 8 p0.1 ([x0.2.1])).bind fun z2=>(da 8 p0.2.2.2.1 ([0])).bind fun z3=>some ((false,pA 1 (p0.1.length:Int),pA 1 (p0.1.length:Int)),z2,p0.2.1,p0.2.2.1,z3,p0.2.2.2.2)) else (if x0.1==4 then ((chk (And (0≤(IntKind.i64.wrap ((p1.length:Int) - 1))) ((IntKind.i64.wrap ((p1.length:Int) - 1))≤(p1.length:Int)))).bind fun _=>(dN (p1.take ((IntKind.i64.wrap ((p1.length:Int) - 1)).toNat))).bind fun r5=>(chk (And (0≤r5) (r5≤(p1.length:Int)))).bind fun _=>((cD n) (p0.1,p0.2.1,p0.2.2.1,p0.2.2.2.1,p0.2.2.2.2) (p1.take r5.toNat)).bind fun r7=>(chk (And (0≤r5) (And (r5≤(IntKind.i64.wrap ((p1.length:Int) - 1))) ((IntKind.i64.wrap ((p1.length:Int) - 1))≤(p1.length:Int))))).bind fun _=>((cD n) (r7.2.1,r7.2.2.1,r7.2.2.2.1,r7.2.2.2.2.1,r7.2.2.2.2.2) ((p1.take ((IntKind.i64.wrap ((p1.length:Int) - 1)).toNat)).drop r5.toNat)).bind fun r9=>(lU (r9.2.1,r9.2.2.1,r9.2.2.2.1,r9.2.2.2.2.1,r9.2.2.2.2.2) r7.1.2.2 r9.1.2.1).bind fun r10=>if r7.1.1 then (Option.bind ((if r7.1.1 then (some (r9.1.1,orI r7.1.2.1 r9.1.2.1,r9.1.2.2)) else (some (r9.1.1,r7.1.2.1,r9.1.2.2)):Option (Bool×Int×Int))) (fun s11=>Option.bind ((if r9.1.1 then (some (s11.1,s11.2.1,orI r7.1.2.2 r9.1.2.2)) else (some (s11.1,s11.2.1,s11.2.2)):Option (Bool×Int×Int))) (fun s12=>some ((s12.1,s12.2.1,s12.2.2),r10.1,r10.2.1,r10.2.2.1,r10.2.2.2.1,r10.2.2.2.2)))) else (Option.bind ((if r7.1.1 then (some (false,orI r7.1.2.1 r9.1.2.1,r9.1.2.2)) else (some (false,r7.1.2.1,r9.1.2.2)):Option (Bool×Int×Int))) (fun s13=>Option.bind ((if r9.1.1 then (some (s13.1,s13.2.1,orI r7.1.2.2 r9.1.2.2)) else (some (s13.1,s13.2.1,s13.2.2)):Option (Bool×Int×Int))) (fun s14=>some ((s14.1,s14.2.1,s14.2.2),r10.1,r10.2.1,r10.2.2.1,r10.2.2.2.1,r10.2.2.2.2))))) else (if x0.1==5 then ((chk (And (0≤(IntKind.i64.wrap ((p1.length:Int) - 1))) ((IntKind.i64.wrap ((p1.length:Int) - 1))≤(p1.length:Int)))).bind fun _=>(dN (p1.take ((IntKind.i64.wrap ((p1.length:Int) - 1)).toNat))).bind fun r16=>(chk (And (0≤r16) (r16≤(p1.length:Int)))).bind fun _=>((cD n) (p0.1,p0.2.1,p0.2.2.1,p0.2.2.2.1,p0.2.2.2.2) (p1.take r16.toNat)).bind fun r18=>(chk (And (0≤r16) (And (r16≤(IntKind.i64.wrap ((p1.length:Int) - 1))) ((IntKind.i64.wrap ((p1.length:Int) - 1))≤(p1.length:Int))))).bind fun _=>((cD n) (r18.2.1,r18.2.2.1,r18.2.2.2.1,r18.2.2.2.2.1,r18.2.2.2.2.2) ((p1.take ((IntKind.i64.wrap ((p1.length:Int) - 1)).toNat)).drop r16.toNat)).bind fun r20=>if r18.1.1 then (some ((true,orI r18.1.2.1 r20.1.2.1,orI r18.1.2.2 r20.1.2.2),r20.2.1,r20.2.2.1,r20.2.2.2.1,r20.2.2.2.2.1,r20.2.2.2.2.2)) else (some ((r20.1.1,orI r18.1.2.1 r20.1.2.1,orI r18.1.2.2 r20.1.2.2),r20.2.1,r20.2.2.1,r20.2.2.2.1,r20.2.2.2.2.1,r20.2.2.2.2.2))) else (if x0.1==6 then ((chk (And (0≤(IntKind.i64.wrap ((p1.length:Int) - 1))) ((IntKind.i64.wrap ((p1.length:Int) - 1))≤(p1.length:Int)))).bind fun _=>((cD n) (p0.1,p0.2.1,p0.2.2.1,p0.2.2.2.1,p0.2.2.2.2) (p1.take ((IntKind.i64.wrap ((p1.length:Int) - 1)).toNat))).bind fun r22=>(lU (r22.2.1,r22.2.2.1,r22.2.2.2.1,r22.2.2.2.2.1,r22.2.2.2.2.2) r22.1.2.2 r22.1.2.1).bind fun r23=>some ((true,r22.1.2.1,r22.1.2.2),r23.1,r23.2.1,r23.2.2.1,r23.2.2.2.1,r23.2.2.2.2)) else (some ((false,0,0),p0.1,p0.2.1,p0.2.2.1,p0.2.2.2.1,p0.2.2.2.2))))))
def cE (r0:(List (Int×Int×Int×Int))×Bool) (s2:Int×Int):Option (Out (((List Int)×Int×Int×(List Int)×Bool)×Bool) (Int×Int)):=
 if decide (s2.2<(r0.1.length:Int)) then (Option.bind (((aw r0.1 s2.2).bind fun x3=>if x3.1==3 then (some (IntKind.i64.wrap (s2.1+1))) else (some s2.1):Option Int)) (fun s4=>some (.nxt (s4,IntKind.i64.wrap (s2.2+1))))) else (some (.brk (s2.1,s2.2)))
def fD (p0e:List (Int×Int×Int×Int)):Option (((List Int)×Int×Int×(List Int)×Bool)×Bool):=
 (kj p0e).bind fun r0=>if r0.2 then (az (ai (cE r0) aB (0,0)) (fun r5=>some r5) (fun s6=>if decide (s6.1>20) then (some ((([] :List Int),0,0,([] :List Int),false),false)) else ((cD dy (([] :List Int),0,0,([] :List Int),false) r0.1).bind fun r7=>some ((r7.2.1,r7.1.2.1,r7.1.2.2,r7.2.2.2.2.1,r7.1.1),true)))) else (some ((([] :List Int),0,0,([] :List Int),false),false))
def fT (p0p:(List Int)×Int×Int×(List Int)×Bool) (p1set:Int) (s6:Int×Int):Option (Out Int (Int×Int)):=
 if decide (s6.2<(p0p.1.length:Int)) then (Option.bind (((chk (0≤IntKind.i64.wrap (s6.2+1))).bind fun _=>if (pB (lI p1set (IntKind.i64.wrap (s6.2+1))) 1)==1 then ((aw p0p.2.2.2.1 s6.2).bind fun x6=>some (orI s6.1 x6)) else (some s6.1):Option Int)) (fun s8=>some (.nxt (s8,IntKind.i64.wrap (s6.2+1))))) else (some (.brk (s6.1,s6.2)))
def fU (p0p:(List Int)×Int×Int×(List Int)×Bool) (p2letter:Int) (s7:Int×Int) (s13:Int×Int):Option (Out Int (Int×Int)):=
 if decide (s13.2<(p0p.1.length:Int)) then (Option.bind (((chk (0≤s13.2)).bind fun _=>if (pB (lI s7.1 s13.2) 1)==1 then ((aw p0p.1 s13.2).bind fun x12=>if x12==p2letter then ((chk (0≤IntKind.i64.wrap (s13.2+1))).bind fun _=>some (orI s13.1 (pA 1 (IntKind.i64.wrap (s13.2+1))))) else (some s13.1)) else (some s13.1):Option Int)) (fun s15=>some (.nxt (s15,IntKind.i64.wrap (s13.2+1))))) else (some (.brk (s13.1,s13.2)))
def mM (p0p:(List Int)×Int×Int×(List Int)×Bool) (p1set:Int) (p2letter:Int):Option Int:=
 Option.bind ((if (pB p1set 1)==1 then (some p0p.2.1) else (some 0):Option Int)) (fun s1=>az (ai (fT p0p p1set) aB (s1,0)) (fun r=>some r) (fun s7=>az (ai (fU p0p p2letter s7) aB (0,0)) (fun r=>some r) (fun s14=>some s14.1)))
def kl (p0p:(List Int)×Int×Int×(List Int)×Bool) (p1set:Int):Option Bool:=
 if (pB p1set 1)==1 then (if p0p.2.2.2.2 then (some true) else (some ((pB (lI p1set 1) p0p.2.2.1) !=0))) else (some ((pB (lI p1set 1) p0p.2.2.1) !=0))
def eE (p0:(List Int)×Int×Int×(List Int)×Bool) (s17:(List Int)×Int×Int×(List Bool)×(List (List Int))) (s23:(List Int)×(List Int)×Int):Option (Out ((Int×(List Bool)×(List (List Int)))×Bool) ((List Int)×(List Int)×Int)):=
 if decide (s23.2.2<9) then ((aw s23.1 s17.2.1).bind fun x11=>(mM (p0.1,p0.2.1,p0.2.2.1,p0.2.2.2.1,p0.2.2.2.2) x11 s23.2.2).bind fun r27=>Option.bind ((if r27 !=0 then ((lS s23.1 r27).bind fun r29=>if decide (r29<0) then ((da 8 s23.1 ([r27])).bind fun z30=>some (z30,(s23.1.length:Int))) else (some (s23.1,r29))) else (some (s23.1,-1)):Option ((List Int)×Int))) (fun s25=>(da 8 s23.2.1 ([s25.2])).bind fun z31=>some (.nxt (s25.1,z31,IntKind.i64.wrap (s23.2.2+1))))) else (some (.brk (s23.1,s23.2.1,s23.2.2)))
def eG (p0:(List Int)×Int×Int×(List Int)×Bool) (p1:Int) (s17:(List Int)×Int×Int×(List Bool)×(List (List Int))):Option (Out ((Int×(List Bool)×(List (List Int)))×Bool) ((List Int)×Int×Int×(List Bool)×(List (List Int)))):=
 if decide (s17.2.1<(s17.1.length:Int)) then (az (ai (eE p0 s17) aB (s17.1,([] :List Int),0)) (fun r=>some (.ret r)) (fun s24=>if decide ((s24.1.length:Int)>p1) then (some (.ret ((0,[],[]),false))) else ((aw s24.1 s17.2.1).bind fun x12=>(kl (p0.1,p0.2.1,p0.2.2.1,p0.2.2.2.1,p0.2.2.2.2) x12).bind fun r30=>(da 1 s17.2.2.2.1 ([r30])).bind fun z32=>(da 24 s17.2.2.2.2 ([s24.2.1])).bind fun z33=>some (.nxt (s24.1,IntKind.i64.wrap (s17.2.1+1),s17.2.2.1,z32,z33))))) else (some (.brk (s17.1,s17.2.1,s17.2.2.1,s17.2.2.2.1,s17.2.2.2.2)))
def gX (p0:(List Int)×Int×Int×(List Int)×Bool) (p1:Int):Option ((Int×(List Bool)×(List (List Int)))×Bool):=
 az (ai (eG p0 p1) aB ([1],0,0,[],[])) (fun r=>some r) (fun s18=>some ((s18.2.2.1,s18.2.2.2.1,s18.2.2.2.2),true))
def je (p0e:(List (Int×Int×Int×Int))):Option ((Int×(List Bool)×(List (List Int)))×Bool):=
 (fD p0e).bind fun r1=>if r1.2 then ((gX (r1.1.1,r1.1.2.1,r1.1.2.2.1,r1.1.2.2.2.1,r1.1.2.2.2.2) 200).bind fun r2=>if r2.2 then ((fR (r2.1.1,r2.1.2.1,r2.1.2.2)).bind fun r3=>if decide ((r3.2.1.length:Int)>12) then (some ((0,[],[]),false)) else (some ((r3.1,r3.2.1,r3.2.2),true))) else (some ((0,[],[]),false))) else (some ((0,[],[]),false))
def zh (p0g:(List Int)×(List (Int×Int×Int×Int))) (p1e:Int×Int×Int×Int):Option Bool:=
 (bG p1e.1 1 99).bind fun r1=>if r1 then ((bG p1e.2.1 0 (IntKind.i64.wrap ((p0g.1.length:Int) - 1))).bind fun r2=>if r2 then ((bG p1e.2.2.1 0 (IntKind.i64.wrap ((p0g.1.length:Int) - 1))).bind fun r3=>if r3 then ((bG p1e.2.2.2 0 2).bind fun r4=>some r4) else (some false)) else (some false)) else (some false)
def lV (p0g:(List Int)×(List (Int×Int×Int×Int))) (s3:Int):Option (Out Bool Int):=
 if decide (s3<(p0g.1.length:Int)) then ((aw p0g.1 s3).bind fun x3=>(bG x3 0 2).bind fun r3=>if r3 then (some (.nxt (IntKind.i64.wrap (s3+1)))) else (some (.ret false))) else (some (.brk s3))
def iE (p0g:(List Int)×(List (Int×Int×Int×Int))) (s7:Int):Option (Out Bool Int):=
 if decide (s7<(p0g.2.length:Int)) then ((aw p0g.2 s7).bind fun x10=>(zh (p0g.1,p0g.2) (x10.1,x10.2.1,x10.2.2.1,x10.2.2.2)).bind fun r6=>if r6 then (if decide (s7>0) then ((aw p0g.2 (IntKind.i64.wrap (s7 - 1))).bind fun x11=>(aw p0g.2 s7).bind fun x12=>if decide (x11.1≥x12.1) then (some (.ret false)) else (some (.nxt (IntKind.i64.wrap (s7+1))))) else (some (.nxt (IntKind.i64.wrap (s7+1))))) else (some (.ret false))) else (some (.brk s7))
def aI (p0g:(List Int)×(List (Int×Int×Int×Int))):Option Bool:=
 az (ai (lV p0g) aB 0) (fun r=>some r) (fun s4=>az (ai (iE p0g) aB 0) (fun r=>some r) (fun s8=>(bG (p0g.1.length:Int) 1 5).bind fun r7=>if r7 then (some (decide ((p0g.2.length:Int)≤12))) else (some false)))
def bR (p0n:Int) (s3:(List (Int×Int))×Int):Option (Out (List (Int×Int)) ((List (Int×Int))×Int)):=
 if decide (s3.2<p0n) then (if decide (p0n≤5) then ((da 16 s3.1 ([(s3.2,s3.2)])).bind fun z3=>some (.nxt (z3,IntKind.i64.wrap (s3.2+1)))) else (some (.brk (s3.1,s3.2)))) else (some (.brk (s3.1,s3.2)))
def b7 (p0n:Int):Option (List (Int×Int)):=
 az (ai (bR p0n) aB (([] :List (Int×Int)),0)) (fun r=>some r) (fun s4=>some s4.1)
def jT (p0a:Int×Int) (p1b:Int×Int):Option Bool:=
 if decide (p0a.1<p1b.1) then (some true) else (if p0a.1==p1b.1 then (some (decide (p0a.2<p1b.2))) else (some false))
def ln (p0l:List (Int×Int)) (p1p:Int×Int) (s1:Int):Option (Out (List (Int×Int)) Int):=
 if decide (s1<(p0l.length:Int)) then ((aw p0l s1).bind fun x4=>(jT (x4.1,x4.2) (p1p.1,p1p.2)).bind fun r5=>if r5 then (some (.nxt (IntKind.i64.wrap (s1+1)))) else (some (.brk s1))) else (some (.brk s1))
def fu (p0l:List (Int×Int)) (p1p:Int×Int):Option (List (Int×Int)):=
 az (ai (ln p0l p1p) aB 0) (fun r6=>some r6) (fun s7=>if decide (s7<(p0l.length:Int)) then ((aw p0l s7).bind fun x9=>if Bool.and.match_1 (fun (u10:Bool)=>Bool) (x9.1==p1p.1) (fun (u11:Unit)=>false) (fun (u12:Unit)=>Bool.and.match_1 (fun (u13:Bool)=>Bool) (x9.2==p1p.2) (fun (u14:Unit)=>false) (fun (u15:Unit)=>true)) then (some p0l) else ((chk (And (0≤s7) (s7≤(p0l.length:Int)))).bind fun _=>(da 16 ([] :List (Int×Int)) ((p0l.take s7.toNat).drop 0)).bind fun z22=>(da 16 z22 ([(p1p.1,p1p.2)])).bind fun z23=>(chk (And (0≤s7) (s7≤(p0l.length:Int)))).bind fun _=>(da 16 z23 ((p0l.take p0l.length).drop s7.toNat)).bind fun z25=>some z25)) else ((chk (And (0≤s7) (s7≤(p0l.length:Int)))).bind fun _=>(da 16 ([] :List (Int×Int)) ((p0l.take s7.toNat).drop 0)).bind fun z32=>(da 16 z32 ([(p1p.1,p1p.2)])).bind fun z33=>(chk (And (0≤s7) (s7≤(p0l.length:Int)))).bind fun _=>(da 16 z33 ((p0l.take p0l.length).drop s7.toNat)).bind fun z35=>some z35))
def oF (p0g:(List Int)×(List (Int×Int×Int×Int))) (p1node:Int) (p2letter:Int):Option Bool:=
 (aI (p0g.1,p0g.2)).bind fun r1=>if r1 then ((bG p1node 0 (IntKind.i64.wrap ((p0g.1.length:Int) - 1))).bind fun r2=>if r2 then ((bG p2letter 6 8).bind fun r3=>if r3 then ((aw p0g.1 p1node).bind fun x1=>some (x1==(IntKind.i64.wrap (p2letter - 6)))) else (some false)) else (some false)) else (some false)
def cF (p0:(List Int)×(List (Int×Int×Int×Int))) (p1:Int) (s5:(List (Int×Int))×Int):Option (Out (List (Int×Int)) ((List (Int×Int))×Int)):=
 if decide (s5.2<(p0.1.length:Int)) then (Option.bind (((oF (p0.1,p0.2) s5.2 p1).bind fun r12=>if r12 then ((fu s5.1 (s5.2,s5.2)).bind fun r13=>some r13) else (some s5.1):Option (List (Int×Int)))) (fun s7=>some (.nxt (s7,IntKind.i64.wrap (s5.2+1))))) else (some (.brk (s5.1,s5.2)))
def cG (p0:(List Int)×(List (Int×Int×Int×Int))) (p1:Int) (s16:(List (Int×Int))×Int):Option (Out (List (Int×Int)) ((List (Int×Int))×Int)):=
 if decide (s16.2<(p0.2.length:Int)) then (Option.bind (((aw p0.2 s16.2).bind fun x6=>Option.bind ((if (IntKind.i64.wrap (2*x6.2.2.2))==p1 then ((fu s16.1 (x6.2.1,x6.2.2.1)).bind fun r30=>some r30) else (some s16.1):Option (List (Int×Int)))) (fun s20=>if (IntKind.i64.wrap ((IntKind.i64.wrap (2*x6.2.2.2))+1))==p1 then ((fu s20 (x6.2.2.1,x6.2.1)).bind fun r31=>some r31) else (some s20)):Option (List (Int×Int)))) (fun s19=>some (.nxt (s19,IntKind.i64.wrap (s16.2+1))))) else (some (.brk (s16.1,s16.2)))
def fE (p0:(List Int)×(List (Int×Int×Int×Int))) (p1:Int):Option (List (Int×Int)):=
 (aI (p0.1,p0.2)).bind fun r1=>if r1 then (az (ai (cF p0 p1) aB (([] :List (Int×Int)),0)) (fun r=>some r) (fun s6=>az (ai (cG p0 p1) aB (s6.1,0)) (fun r=>some r) (fun s17=>some s17.1))) else (some ([] :List (Int×Int)))
def bS (p0a:List (Int×Int)) (p1b:List (Int×Int)) (s17:(List (Int×Int))×Int) (s23:(List (Int×Int))×Int):Option (Out (List (Int×Int)) ((List (Int×Int))×Int)):=
 if decide (s23.2<(p1b.length:Int)) then (Option.bind (((aw p0a s17.2).bind fun x69=>(aw p1b s23.2).bind fun x70=>if x69.2==x70.1 then ((aw p0a s17.2).bind fun x71=>(aw p1b s23.2).bind fun x72=>(fu s23.1 (x71.1,x72.2)).bind fun r18=>some r18) else (some s23.1):Option (List (Int×Int)))) (fun s25=>some (.nxt (s25,IntKind.i64.wrap (s23.2+1))))) else (some (.brk (s23.1,s23.2)))
def bT (p0a:List (Int×Int)) (p1b:List (Int×Int)) (s17:(List (Int×Int))×Int):Option (Out (List (Int×Int)) ((List (Int×Int))×Int)):=
 if decide (s17.2<(p0a.length:Int)) then (az (ai (bS p0a p1b s17) aB (s17.1,0)) (fun r=>some (.ret r)) (fun s24=>some (.nxt (s24.1,IntKind.i64.wrap (s17.2+1))))) else (some (.brk (s17.1,s17.2)))
def b8 (p0a:List (Int×Int)) (p1b:List (Int×Int)):Option (List (Int×Int)):=
 az (ai (bT p0a p1b) aB (([] :List (Int×Int)),0)) (fun r=>some r) (fun s18=>some s18.1)
def gB (p0a:List (Int×Int)) (s3:(List (Int×Int))×Int):Option (Out (List (Int×Int)) ((List (Int×Int))×Int)):=
 if decide (s3.2<(p0a.length:Int)) then ((aw p0a s3.2).bind fun x3=>(fu s3.1 (x3.1,x3.2)).bind fun r3=>some (.nxt (r3,IntKind.i64.wrap (s3.2+1)))) else (some (.brk (s3.1,s3.2)))
def gC (p1b:List (Int×Int)) (s7:(List (Int×Int))×Int):Option (Out (List (Int×Int)) ((List (Int×Int))×Int)):=
 if decide (s7.2<(p1b.length:Int)) then ((aw p1b s7.2).bind fun x6=>(fu s7.1 (x6.1,x6.2)).bind fun r6=>some (.nxt (r6,IntKind.i64.wrap (s7.2+1)))) else (some (.brk (s7.1,s7.2)))
def fv (p0a:List (Int×Int)) (p1b:List (Int×Int)):Option (List (Int×Int)):=
 az (ai (gB p0a) aB (([] :List (Int×Int)),0)) (fun r=>some r) (fun s4=>az (ai (gC p1b) aB (s4.1,0)) (fun r=>some r) (fun s8=>some s8.1))
def lW (p0l:List (Int×Int)) (s3:Int):Option (Out Bool Int):=
 if decide (s3<(p0l.length:Int)) then ((aw p0l s3).bind fun x9=>(bG x9.1 0 4).bind fun r7=>if r7 then ((aw p0l s3).bind fun x10=>(bG x10.2 0 4).bind fun r8=>if r8 then (if decide (s3>0) then ((aw p0l (IntKind.i64.wrap (s3 - 1))).bind fun x11=>(aw p0l s3).bind fun x12=>(jT (x11.1,x11.2) (x12.1,x12.2)).bind fun r9=>if r9 then (some (.nxt (IntKind.i64.wrap (s3+1)))) else (some (.ret false))) else (some (.nxt (IntKind.i64.wrap (s3+1))))) else (some (.ret false))) else (some (.ret false))) else (some (.brk s3))
def dI (p0l:List (Int×Int)):Option Bool:=
 az (ai (lW p0l) aB 0) (fun r=>some r) (fun s4=>some true)
def cn (p1l:List (Int×Int)) (s3:(List (Int×Int))×Int):Option (Out (List (Int×Int)) ((List (Int×Int))×Int)):=
 if decide (s3.2<5) then ((b8 s3.1 p1l).bind fun r8=>(fv s3.1 r8).bind fun r9=>some (.nxt (r9,IntKind.i64.wrap (s3.2+1)))) else (some (.brk (s3.1,s3.2)))
def eZ (p0n:Int) (p1l:List (Int×Int)):Option (List (Int×Int)):=
 (bG p0n 1 5).bind fun r1=>if r1 then ((dI p1l).bind fun r2=>if r2 then ((b7 p0n).bind fun r3=>az (ai (cn p1l) aB (r3,0)) (fun r=>some r) (fun s4=>some s4.1)) else (some ([] :List (Int×Int)))) else (some ([] :List (Int×Int)))
def bB (p1l:List (Int×Int)) (p2low:Int) (p3high:Int) (s5:(List (Int×Int))×(List (Int×Int))×Int):Option (Out (List (Int×Int)) ((List (Int×Int))×(List (Int×Int))×Int)):=
 if decide (s5.2.2≤p3high) then (Option.bind ((if decide (s5.2.2≥p2low) then ((fv s5.1 s5.2.1).bind fun r12=>some r12) else (some s5.1):Option (List (Int×Int)))) (fun s7=>(b8 s5.2.1 p1l).bind fun r13=>some (.nxt (s7,r13,IntKind.i64.wrap (s5.2.2+1))))) else (some (.brk (s5.1,s5.2.1,s5.2.2)))
def gD (p0n:Int) (p1l:List (Int×Int)) (p2low:Int) (p3high:Int):Option (List (Int×Int)):=
 (bG p0n 1 5).bind fun r1=>if r1 then ((dI p1l).bind fun r2=>if r2 then ((bG p3high 0 3).bind fun r3=>if r3 then (if decide (p2low<0) then (some ([] :List (Int×Int))) else ((b7 p0n).bind fun r4=>az (ai (bB p1l p2low p3high) aB (([] :List (Int×Int)),r4,0)) (fun r=>some r) (fun s6=>some s6.1))) else (some ([] :List (Int×Int)))) else (some ([] :List (Int×Int)))) else (some ([] :List (Int×Int)))
def cv:Nat→((List Int)×List (Int×Int×Int×Int))→(List (Int×Int×Int×Int))→Option (List (Int×Int))
 | 0,_,_=>none
 | n+1,p0,p1 =>
  (aw p1 (IntKind.i64.wrap ((p1.length:Int) - 1))).bind fun x0=>if x0.1==2 then ((b7 (p0.1.length:Int)).bind fun r1=>some r1) else (if x0.1==3 then ((fE (p0.1,p0.2) x0.2.1).bind fun r2=>some r2) else (if x0.1==4 then ((chk (And (0≤(IntKind.i64.wrap ((p1.length:Int) - 1))) ((IntKind.i64.wrap ((p1.length:Int) - 1))≤(p1.length:Int)))).bind fun _=>(dN (p1.take ((IntKind.i64.wrap ((p1.length:Int) - 1)).toNat))).bind fun r4=>(chk (And (0≤r4) (r4≤(p1.length:Int)))).bind fun _=>((cv n) (p0.1,p0.2) (p1.take r4.toNat)).bind fun r11=>(chk (And (0≤r4) (And (r4≤(IntKind.i64.wrap ((p1.length:Int) - 1))) ((IntKind.i64.wrap ((p1.length:Int) - 1))≤(p1.length:Int))))).bind fun _=>((cv n) (p0.1,p0.2) ((p1.take ((IntKind.i64.wrap ((p1.length:Int) - 1)).toNat)).drop r4.toNat)).bind fun r13=>(b8 r11 r13).bind fun r14=>some r14) else (if x0.1==5 then ((chk (And (0≤(IntKind.i64.wrap ((p1.length:Int) - 1))) ((IntKind.i64.wrap ((p1.length:Int) - 1))≤(p1.length:Int)))).bind fun _=>(dN (p1.take ((IntKind.i64.wrap ((p1.length:Int) - 1)).toNat))).bind fun r16=>(chk (And (0≤r16) (r16≤(p1.length:Int)))).bind fun _=>((cv n) (p0.1,p0.2) (p1.take r16.toNat)).bind fun r23=>(chk (And (0≤r16) (And (r16≤(IntKind.i64.wrap ((p1.length:Int) - 1))) ((IntKind.i64.wrap ((p1.length:Int) - 1))≤(p1.length:Int))))).bind fun _=>((cv n) (p0.1,p0.2) ((p1.take ((IntKind.i64.wrap ((p1.length:Int) - 1)).toNat)).drop r16.toNat)).bind fun r25=>(fv r23 r25).bind fun r26=>some r26) else (if x0.1==6 then ((chk (And (0≤(IntKind.i64.wrap ((p1.length:Int) - 1))) ((IntKind.i64.wrap ((p1.length:Int) - 1))≤(p1.length:Int)))).bind fun _=>((cv n) (p0.1,p0.2) (p1.take ((IntKind.i64.wrap ((p1.length:Int) - 1)).toNat))).bind fun r31=>(eZ (p0.1.length:Int) r31).bind fun r32=>some r32) else (if x0.1==7 then ((chk (And (0≤(IntKind.i64.wrap ((p1.length:Int) - 1))) ((IntKind.i64.wrap ((p1.length:Int) - 1))≤(p1.length:Int)))).bind fun _=>((cv n) (p0.1,p0.2) (p1.take ((IntKind.i64.wrap ((p1.length:Int) - 1)).toNat))).bind fun r37=>(gD (p0.1.length:Int) r37 x0.2.2.1 x0.2.2.2).bind fun r38=>some r38) else (some ([] :List (Int×Int))))))))
def ir (p0g:(List Int)×(List (Int×Int×Int×Int))) (p1e:(List (Int×Int×Int×Int))):Option ((List (Int×Int))×Bool):=
 (aI (p0g.1,p0g.2)).bind fun r1=>if r1 then ((fS p1e).bind fun r2=>if r2 then ((cv dy (p0g.1,p0g.2) p1e).bind fun r3=>some (r3,true)) else (some (([] :List (Int×Int)),false))) else (some (([] :List (Int×Int)),false))
def lp (p0l:List (Int×Int)) (p1p:Int×Int) (s3:Int):Option (Out Bool Int):=
 if decide (s3<(p0l.length:Int)) then ((aw p0l s3).bind fun x3=>if ((x3.1==p1p.1)&&((x3.2==p1p.2)&&true)) then (some (.ret true)) else (some (.nxt (IntKind.i64.wrap (s3+1))))) else (some (.brk s3))
def qL (p0l:List (Int×Int)) (p1p:Int×Int):Option Bool:=
 az (ai (lp p0l p1p) aB 0) (fun r=>some r) (fun s4=>some false)
def dW (p0a:List (Int×Int)) (p1b:List (Int×Int)) (s5:(List (Int×Int))×Int):Option (Out (List (Int×Int)) ((List (Int×Int))×Int)):=
 if decide (s5.2<(p0a.length:Int)) then (Option.bind (((aw p0a s5.2).bind fun x11=>(qL p1b (x11.1,x11.2)).bind fun r11=>if r11 then (some s5.1) else ((aw p0a s5.2).bind fun x12=>(fu s5.1 (x12.1,x12.2)).bind fun r12=>some r12):Option (List (Int×Int)))) (fun s7=>some (.nxt (s7,IntKind.i64.wrap (s5.2+1))))) else (some (.brk (s5.1,s5.2)))
def eH (p0a:List (Int×Int)) (p1b:List (Int×Int)):Option (List (Int×Int)):=
 az (ai (dW p0a p1b) aB (([] :List (Int×Int)),0)) (fun r=>some r) (fun s6=>some s6.1)
def fw (p0a:Int×(List Bool)×(List (List Int))) (s11:Int) (s15:Int):Option (Out Bool Int):=
 if decide (s15<9) then ((aw p0a.2.2 s11).bind fun x20=>(aw x20 s15).bind fun x21=>(bG x21 (-1) (IntKind.i64.wrap ((p0a.2.1.length:Int) - 1))).bind fun r22=>if r22 then (some (.nxt (IntKind.i64.wrap (s15+1)))) else (some (.ret false))) else (some (.brk s15))
def km (p0a:Int×(List Bool)×(List (List Int))) (s11:Int):Option (Out Bool Int):=
 if decide (s11<(p0a.2.1.length:Int)) then ((aw p0a.2.2 s11).bind fun x15=>if (x15.length:Int) !=9 then (some (.ret false)) else (az (ai (fw p0a s11) aB 0) (fun r=>some (.ret r)) (fun s16=>some (.nxt (IntKind.i64.wrap (s11+1)))))) else (some (.brk s11))
def lX (p0a:Int×(List Bool)×(List (List Int))):Option Bool:=
 (bG p0a.1 0 (IntKind.i64.wrap ((p0a.2.1.length:Int) - 1))).bind fun r1=>if r1 then (if (p0a.2.2.length:Int) !=(p0a.2.1.length:Int) then (some false) else (az (ai (km p0a) aB 0) (fun r=>some r) (fun s12=>some true))) else (some false)
def bC (p0a:Int×(List Bool)×(List (List Int))):Option Bool:=
 if decide ((p0a.2.1.length:Int)≤12) then ((lX (p0a.1,p0a.2.1,p0a.2.2)).bind fun r1=>some r1) else (some false)
def cj (p0g:(List Int)×(List (Int×Int×Int×Int))) (p1id:Int) (s3:Int):Option (Out Int Int):=
 if decide (s3<(p0g.2.length:Int)) then ((aw p0g.2 s3).bind fun x3=>if x3.1==p1id then (some (.ret s3)) else (some (.nxt (IntKind.i64.wrap (s3+1))))) else (some (.brk s3))
def bd (p0g:(List Int)×(List (Int×Int×Int×Int))) (p1id:Int):Option Int:=
 az (ai (cj p0g p1id) aB 0) (fun r=>some r) (fun s4=>some (-1))
def dO (p0:(List Int)×(List (Int×Int×Int×Int))) (p1:Int×(List (Int×Bool))) (s5:(List Int)×Int):Option (Out ((List Int)×Bool) ((List Int)×Int)):=
 if decide (s5.2<(p1.2.length:Int)) then ((aw p1.2 s5.2).bind fun x21=>(bd (p0.1,p0.2) x21.1).bind fun r5=>if decide (r5<0) then (some (.ret (([] :List Int),false))) else ((aw p0.2 r5).bind fun x22=>(aw p0.2 r5).bind fun x23=>Option.bind (((aw p1.2 s5.2).bind fun x27=>if x27.2 then ((aw p0.2 r5).bind fun x28=>(aw p0.2 r5).bind fun x29=>some (x28.2.2.1,x29.2.1)) else (some (x22.2.1,x23.2.2.1)):Option (Int×Int))) (fun s7=>(aw s5.1 (IntKind.i64.wrap ((s5.1.length:Int) - 1))).bind fun x30=>if s7.1 !=x30 then (some (.ret (([] :List Int),false))) else ((da 8 s5.1 ([s7.2])).bind fun z3=>some (.nxt (z3,IntKind.i64.wrap (s5.2+1))))))) else (some (.brk (s5.1,s5.2)))
def iF (p0:(List Int)×(List (Int×Int×Int×Int))) (p1:Int×(List (Int×Bool))):Option ((List Int)×Bool):=
 (aI (p0.1,p0.2)).bind fun r1=>if r1 then ((bG p1.1 0 (IntKind.i64.wrap ((p0.1.length:Int) - 1))).bind fun r2=>if r2 then (if decide ((p1.2.length:Int)>60) then (some (([] :List Int),false)) else (az (ai (dO p0 p1) aB ([p1.1],0)) (fun r=>some r) (fun s6=>some (s6.1,true)))) else (some (([] :List Int),false))) else (some (([] :List Int),false))
def oG (p0g:(List Int)×(List (Int×Int×Int×Int))) (p1w:Int×(List (Int×Bool))):Option Int:=
 (iF (p0g.1,p0g.2) (p1w.1,p1w.2)).bind fun r1=>if r1.2 then ((aw r1.1 (IntKind.i64.wrap ((r1.1.length:Int) - 1))).bind fun x1=>some x1) else (some (-1))
def lY (p0g:(List Int)×(List (Int×Int×Int×Int))) (p1w:Int×(List (Int×Bool))):Option Bool:=
 (iF (p0g.1,p0g.2) (p1w.1,p1w.2)).bind fun r1=>some r1.2
def jU (p0a:Int×(List Bool)×(List (List Int))) (p2v:Int) (s3:Int×Int):Option (Out Int (Int×Int)):=
 if decide (s3.1≥0) then ((chk (0≤s3.1)).bind fun _=>if (pB (lI s3.2 s3.1) 1)==0 then ((chk (0≤s3.1)).bind fun _=>(aw p0a.2.2 s3.1).bind fun x5=>(aw x5 (IntKind.i64.wrap (6+p2v))).bind fun x6=>some (.nxt (x6,orI s3.2 (pA 1 s3.1)))) else (some (.brk (s3.1,s3.2)))) else (some (.brk (s3.1,s3.2)))
def cA (p0a:Int×(List Bool)×(List (List Int))) (p1s:Int) (p2v:Int):Option Int:=
 az (ai (jU p0a p2v) aB (p1s,0)) (fun r=>some r) (fun s4=>some s4.2)
def bt (p0e:Int×Int×Int×Int) (p1inverse:Bool):Option Int:=
 if p1inverse then (some (IntKind.i64.wrap ((IntKind.i64.wrap (2*p0e.2.2.2))+1))) else (some (IntKind.i64.wrap (2*p0e.2.2.2)))
def fl (p0e:Int×Int×Int×Int) (p1inverse:Bool):Option Int:=
 if p1inverse then (some p0e.2.1) else (some p0e.2.2.1)
def gY (p1:Int×(List Bool)×(List (List Int))) (p4:Int×Bool) (x1:Int×Int×Int×Int) (r67:Int) (s47:Int×Int):Option (Out (Int×Int) (Int×Int)):=
 if decide (s47.2<(p1.2.1.length:Int)) then (Option.bind (((aw p1.2.2 s47.2).bind fun x78=>(bt (x1.1,x1.2.1,x1.2.2.1,x1.2.2.2) p4.2).bind fun r79=>(aw x78 r79).bind fun x79=>(chk (0≤s47.2)).bind fun _=>if (pB (lI r67 s47.2) 1)==1 then (if decide (x79≥0) then ((chk (0≤x79)).bind fun _=>some (orI s47.1 (pA 1 x79))) else (some s47.1)) else (some s47.1):Option Int)) (fun s49=>some (.nxt (s49,IntKind.i64.wrap (s47.2+1))))) else (some (.brk (s47.1,s47.2)))
def gZ (p0:(List Int)×(List (Int×Int×Int×Int))) (p1:Int×(List Bool)×(List (List Int))) (p2:Int) (p3:Int) (p4:Int×Bool) (x1:Int×Int×Int×Int) (s33:Int×Int):Option (Out (Int×Int) (Int×Int)):=
 if decide (s33.2<(p1.2.1.length:Int)) then (Option.bind (((chk (0≤s33.2)).bind fun _=>if (pB (lI p3 s33.2) 1)==0 then (some s33.1) else ((aw p0.1 p2).bind fun x67=>(cA (p1.1,p1.2.1,p1.2.2) s33.2 x67).bind fun r67=>az (ai (gY p1 p4 x1 r67) aB (s33.1,0)) (fun _=>none) (fun s48=>some s48.1)):Option Int)) (fun s42=>some (.nxt (s42,IntKind.i64.wrap (s33.2+1))))) else (some (.brk (s33.1,s33.2)))
def lZ (p0:(List Int)×(List (Int×Int×Int×Int))) (p1:Int×(List Bool)×(List (List Int))) (p2:Int) (p3:Int) (p4:Int×Bool):Option (Int×Int):=
 (bd (p0.1,p0.2) p4.1).bind fun r1=>(aw p0.2 r1).bind fun x1=>az (ai (gZ p0 p1 p2 p3 p4 x1) aB (0,0)) (fun r=>some r) (fun s34=>(fl (x1.1,x1.2.1,x1.2.2.1,x1.2.2.2) p4.2).bind fun r80=>some (r80,s34.1))
def fV (p0g:(List Int)×(List (Int×Int×Int×Int))) (p1a:Int×(List Bool)×(List (List Int))) (p2w:Int×(List (Int×Bool))) (s3:(List Int)×Int×Int):Option (Out (List Int) ((List Int)×Int×Int)):=
 if decide (s3.2.2<(p2w.2.length:Int)) then ((aw s3.1 s3.2.2).bind fun x5=>(aw p2w.2 s3.2.2).bind fun x6=>(lZ (p0g.1,p0g.2) (p1a.1,p1a.2.1,p1a.2.2) s3.2.1 x5 (x6.1,x6.2)).bind fun r3=>(da 8 s3.1 ([r3.2])).bind fun z3=>some (.nxt (z3,r3.1,IntKind.i64.wrap (s3.2.2+1)))) else (some (.brk (s3.1,s3.2.1,s3.2.2)))
def pT (p0g:(List Int)×(List (Int×Int×Int×Int))) (p1a:Int×(List Bool)×(List (List Int))) (p2w:Int×(List (Int×Bool))):Option (List Int):=
 (chk (0≤p1a.1)).bind fun _=>az (ai (fV p0g p1a p2w) aB ([pA 1 p1a.1],p2w.1,0)) (fun r=>some r) (fun s4=>some s4.1)
def eJ (p1a:Int×(List Bool)×(List (List Int))) (r1:Int) (s3:Int):Option (Out Bool Int):=
 if decide (s3<(p1a.2.1.length:Int)) then ((chk (0≤s3)).bind fun _=>if (pB (lI r1 s3) 1)==1 then ((aw p1a.2.1 s3).bind fun x4=>if x4 then (some (.ret true)) else (some (.nxt (IntKind.i64.wrap (s3+1))))) else (some (.nxt (IntKind.i64.wrap (s3+1))))) else (some (.brk s3))
def fx (p0g:(List Int)×(List (Int×Int×Int×Int))) (p1a:Int×(List Bool)×(List (List Int))) (p2node:Int) (p3s:Int):Option Bool:=
 (aw p0g.1 p2node).bind fun x1=>(cA (p1a.1,p1a.2.1,p1a.2.2) p3s x1).bind fun r1=>az (ai (eJ p1a r1) aB 0) (fun r=>some r) (fun s4=>some false)
def ko (p0g:(List Int)×(List (Int×Int×Int×Int))) (p1a:Int×(List Bool)×(List (List Int))) (p2node:Int) (p3set:Int) (s3:Int):Option (Out Bool Int):=
 if decide (s3<(p1a.2.1.length:Int)) then ((chk (0≤s3)).bind fun _=>if (pB (lI p3set s3) 1)==1 then ((fx (p0g.1,p0g.2) (p1a.1,p1a.2.1,p1a.2.2) p2node s3).bind fun r3=>if r3 then (some (.ret true)) else (some (.nxt (IntKind.i64.wrap (s3+1))))) else (some (.nxt (IntKind.i64.wrap (s3+1))))) else (some (.brk s3))
def l5 (p0g:(List Int)×(List (Int×Int×Int×Int))) (p1a:Int×(List Bool)×(List (List Int))) (p2node:Int) (p3set:Int):Option Bool:=
 az (ai (ko p0g p1a p2node p3set) aB 0) (fun r=>some r) (fun s4=>some false)
def l6 (p0g:(List Int)×(List (Int×Int×Int×Int))) (p1a:Int×(List Bool)×(List (List Int))) (p2w:Int×(List (Int×Bool))):Option Bool:=
 (lY (p0g.1,p0g.2) (p2w.1,p2w.2)).bind fun r1=>if r1 then ((bC (p1a.1,p1a.2.1,p1a.2.2)).bind fun r2=>if r2 then ((pT (p0g.1,p0g.2) (p1a.1,p1a.2.1,p1a.2.2) (p2w.1,p2w.2)).bind fun r3=>(oG (p0g.1,p0g.2) (p2w.1,p2w.2)).bind fun r4=>(aw r3 (IntKind.i64.wrap ((r3.length:Int) - 1))).bind fun x1=>(l5 (p0g.1,p0g.2) (p1a.1,p1a.2.1,p1a.2.2) r4 x1).bind fun r5=>some r5) else (some false)) else (some false)
def lq (p0g:(List Int)×(List (Int×Int×Int×Int))) (p1a:Int×(List Bool)×(List (List Int))) (p2x:Int) (p3y:Int) (p4w:Int×(List (Int×Bool))):Option Bool:=
 (l6 (p0g.1,p0g.2) (p1a.1,p1a.2.1,p1a.2.2) (p4w.1,p4w.2)).bind fun r1=>if r1 then (if p4w.1==p2x then ((oG (p0g.1,p0g.2) (p4w.1,p4w.2)).bind fun r2=>some (r2==p3y)) else (some false)) else (some false)
def jV (p0g:(List Int)×(List (Int×Int×Int×Int))) (p1a:Int×(List Bool)×(List (List Int))) (p2node:Int) (p3s:Int):Option Bool:=
 (aI (p0g.1,p0g.2)).bind fun r1=>if r1 then ((bC (p1a.1,p1a.2.1,p1a.2.2)).bind fun r2=>if r2 then ((bG p2node 0 (IntKind.i64.wrap ((p0g.1.length:Int) - 1))).bind fun r3=>if r3 then ((bG p3s 0 (IntKind.i64.wrap ((p1a.2.1.length:Int) - 1))).bind fun r4=>some r4) else (some false)) else (some false)) else (some false)
def jf (p0g:(List Int)×(List (Int×Int×Int×Int))) (p1node:Int) (s9:(List (Int×Bool))×Int):Option (Out (List (Int×Bool)) ((List (Int×Bool))×Int)):=
 if decide (s9.2<(p0g.2.length:Int)) then (Option.bind ((Option.bind (((aw p0g.2 s9.2).bind fun x33=>if x33.2.1==p1node then ((aw p0g.2 s9.2).bind fun x34=>(da 16 s9.1 ([(x34.1,false)])).bind fun z17=>some z17) else (some s9.1):Option (List (Int×Bool)))) (fun s13=>(aw p0g.2 s9.2).bind fun x35=>if x35.2.2.1==p1node then ((aw p0g.2 s9.2).bind fun x36=>(da 16 s13 ([(x36.1,true)])).bind fun z18=>some z18) else (some s13)):Option (List (Int×Bool)))) (fun s12=>some (.nxt (s12,IntKind.i64.wrap (s9.2+1))))) else (some (.brk (s9.1,s9.2)))
def nK (p0g:(List Int)×(List (Int×Int×Int×Int))) (p1node:Int):Option (List (Int×Bool)):=
 az (ai (jf p0g p1node) aB (([] :List (Int×Bool)),0)) (fun r=>some r) (fun s10=>some s10.1)
def fW (p1:Int×(List Bool)×(List (List Int))) (r1:Int) (r2:List (Int×Bool)) (s31:(List ((Int×Bool)×Int×Int))×Int) (x67:Int×Int×Int×Int) (s37:Int×Int):Option (Out (List ((Int×Bool)×Int×Int)) (Int×Int)):=
 if decide (s37.2<(p1.2.1.length:Int)) then (Option.bind (((aw p1.2.2 s37.2).bind fun x83=>(aw r2 s31.2).bind fun x84=>(bt (x67.1,x67.2.1,x67.2.2.1,x67.2.2.2) x84.2).bind fun r53=>(aw x83 r53).bind fun x85=>(chk (0≤s37.2)).bind fun _=>if (pB (lI r1 s37.2) 1)==1 then (if decide (x85≥0) then ((chk (0≤x85)).bind fun _=>some (orI s37.1 (pA 1 x85))) else (some s37.1)) else (some s37.1):Option Int)) (fun s39=>some (.nxt (s39,IntKind.i64.wrap (s37.2+1))))) else (some (.brk (s37.1,s37.2)))
def fX (p1:Int×(List Bool)×(List (List Int))) (r2:List (Int×Bool)) (s31:(List ((Int×Bool)×Int×Int))×Int) (x67:Int×Int×Int×Int) (s38:Int×Int) (s44:(List ((Int×Bool)×Int×Int))×Int):Option (Out (List ((Int×Bool)×Int×Int)) ((List ((Int×Bool)×Int×Int))×Int)):=
 if decide (s44.2<(p1.2.1.length:Int)) then (Option.bind (((chk (0≤s44.2)).bind fun _=>if (pB (lI s38.1 s44.2) 1)==1 then ((aw r2 s31.2).bind fun x96=>(aw r2 s31.2).bind fun x97=>(fl (x67.1,x67.2.1,x67.2.2.1,x67.2.2.2) x97.2).bind fun r59=>(da 32 s44.1 ([((x96.1,x96.2),r59,s44.2)])).bind fun z18=>some z18) else (some s44.1):Option (List ((Int×Bool)×Int×Int)))) (fun s46=>some (.nxt (s46,IntKind.i64.wrap (s44.2+1))))) else (some (.brk (s44.1,s44.2)))
def fY (p0:(List Int)×(List (Int×Int×Int×Int))) (p1:Int×(List Bool)×(List (List Int))) (r1:Int) (r2:List (Int×Bool)) (s31:(List ((Int×Bool)×Int×Int))×Int):Option (Out (List ((Int×Bool)×Int×Int)) ((List ((Int×Bool)×Int×Int))×Int)):=
 if decide (s31.2<(r2.length:Int)) then ((aw r2 s31.2).bind fun x66=>(bd (p0.1,p0.2) x66.1).bind fun r41=>(aw p0.2 r41).bind fun x67=>az (ai (fW p1 r1 r2 s31 x67) aB (0,0)) (fun r=>some (.ret r)) (fun s38=>az (ai (fX p1 r2 s31 x67 s38) aB (s31.1,0)) (fun r=>some (.ret r)) (fun s45=>some (.nxt (s45.1,IntKind.i64.wrap (s31.2+1)))))) else (some (.brk (s31.1,s31.2)))
def kK (p0:(List Int)×(List (Int×Int×Int×Int))) (p1:Int×(List Bool)×(List (List Int))) (p2:Int) (p3:Int):Option (List ((Int×Bool)×Int×Int)):=
 (aw p0.1 p2).bind fun x1=>(cA (p1.1,p1.2.1,p1.2.2) p3 x1).bind fun r1=>(nK (p0.1,p0.2) p2).bind fun r2=>az (ai (fY p0 p1 r1 r2) aB (([] :List ((Int×Bool)×Int×Int)),0)) (fun r=>some r) (fun s32=>some s32.1)
def hY (p0:(List Int)×List (Int×Int×Int×Int)) (p1:Int×(List Bool)×List (List Int)) (p2:Int) (s1:(List Int)×Int):Option (Out (List Int) ((List Int)×Int)):=
 if decide (s1.2<(IntKind.i64.wrap ((p0.1.length:Int)*(p1.2.1.length:Int)))) then ((chk ((p1.2.1.length:Int)≠0)).bind fun _=>if (MB s1.2 (p1.2.1.length:Int))==p2 then ((chk ((p1.2.1.length:Int)≠0)).bind fun _=>(chk ((p1.2.1.length:Int)≠0)).bind fun _=>(fx (p0.1,p0.2) (p1.1,p1.2.1,p1.2.2) (MB s1.2 (p1.2.1.length:Int)) (Int.tmod s1.2 (p1.2.1.length:Int))).bind fun r9=>Option.bind ((if r9 then (some 0) else (some (-1)):Option Int)) (fun s10=>(da 8 s1.1 ([s10])).bind fun z11=>some (.nxt (z11,IntKind.i64.wrap (s1.2+1))))) else ((da 8 s1.1 ([(-1)])).bind fun z12=>some (.nxt (z12,IntKind.i64.wrap (s1.2+1))))) else (some (.brk (s1.1,s1.2)))
def hZ (p0:(List Int)×List (Int×Int×Int×Int)) (p1:Int×(List Bool)×List (List Int)) (s14:(List Int)×Int) (s16:(List (List ((Int×Bool)×Int×Int)))×Int):Option (Out (List Int) ((List (List ((Int×Bool)×Int×Int)))×Int)):=
 if decide (s16.2<(s14.1.length:Int)) then ((chk ((p1.2.1.length:Int)≠0)).bind fun _=>(chk ((p1.2.1.length:Int)≠0)).bind fun _=>(kK (p0.1,p0.2) (p1.1,p1.2.1,p1.2.2) (MB s16.2 (p1.2.1.length:Int)) (Int.tmod s16.2 (p1.2.1.length:Int))).bind fun r23=>(da 24 s16.1 ([r23])).bind fun z24=>some (.nxt (z24,IntKind.i64.wrap (s16.2+1)))) else (some (.brk (s16.1,s16.2)))
def ic (p1:Int×(List Bool)×List (List Int)) (s29:Bool×Int×(List (List ((Int×Bool)×Int×Int)))×List Int) (s31:Bool×Int×(List (List ((Int×Bool)×Int×Int)))×List Int) (s33:Bool×Int×(List Int)×List (List ((Int×Bool)×Int×Int))):Option (Out (List Int) (Bool×Int×(List Int)×List (List ((Int×Bool)×Int×Int)))):=
 (aw s33.2.2.2 s31.2.1).bind fun x34=>if decide (s33.2.1<(x34.length:Int)) then ((aw s33.2.2.1 s31.2.1).bind fun x35=>if decide (x35<0) then (Option.bind (((aw s33.2.2.2 s31.2.1).bind fun x41=>(aw x41 s33.2.1).bind fun x42=>(aw s33.2.2.2 s31.2.1).bind fun x43=>(aw x43 s33.2.1).bind fun x44=>(aw s33.2.2.1 (IntKind.i64.wrap ((IntKind.i64.wrap (x42.2.1*(p1.2.1.length:Int)))+x44.2.2))).bind fun x45=>if x45==(IntKind.i64.wrap (s29.2.1 - 1)) then ((aw s33.2.2.1 s31.2.1).bind fun x46=>some (true,s33.2.2.1.set s31.2.1.toNat s29.2.1,s33.2.2.2)) else (some (s33.1,s33.2.2.1,s33.2.2.2)):Option (Bool×(List Int)×List (List ((Int×Bool)×Int×Int))))) (fun s47=>some (.nxt (s47.1,IntKind.i64.wrap (s33.2.1+1),s47.2.1,s47.2.2)))) else (some (.brk (s33.1,s33.2.1,s33.2.2.1,s33.2.2.2)))) else (some (.brk (s33.1,s33.2.1,s33.2.2.1,s33.2.2.2)))
def ig (p1:Int×(List Bool)×List (List Int)) (s29:Bool×Int×(List (List ((Int×Bool)×Int×Int)))×List Int) (s31:Bool×Int×(List (List ((Int×Bool)×Int×Int)))×List Int):Option (Out (List Int) (Bool×Int×(List (List ((Int×Bool)×Int×Int)))×List Int)):=
 if decide (s31.2.1<(s31.2.2.2.length:Int)) then (az (ai (ic p1 s29 s31) aB (s31.1,0,s31.2.2.2,s31.2.2.1)) (fun r48=>some (.ret r48)) (fun s49=>some (.nxt (s49.1,IntKind.i64.wrap (s31.2.1+1),s49.2.2.2,s49.2.2.1)))) else (some (.brk (s31.1,s31.2.1,s31.2.2.1,s31.2.2.2)))
def nq (p1:Int×(List Bool)×List (List Int)) (s29:Bool×Int×(List (List ((Int×Bool)×Int×Int)))×List Int):Option (Out (List Int) (Bool×Int×(List (List ((Int×Bool)×Int×Int)))×List Int)):=
 if s29.1 then (az (ai (ig p1 s29) aB (false,0,s29.2.2.1,s29.2.2.2)) (fun r50=>some (.ret r50)) (fun s51=>some (.nxt (s51.1,IntKind.i64.wrap (s29.2.1+1),s51.2.2.1,s51.2.2.2)))) else (some (.brk (s29.1,s29.2.1,s29.2.2.1,s29.2.2.2)))
def oH (p0:(List Int)×List (Int×Int×Int×Int)) (p1:Int×(List Bool)×List (List Int)) (p2:Int):Option (List Int):=
 az (ai (hY p0 p1 p2) aB (([] :List Int),0)) (fun r13=>some r13) (fun s14=>az (ai (hZ p0 p1 s14) aB (([] :List (List ((Int×Bool)×Int×Int))),0)) (fun r25=>some r25) (fun s26=>az (ai (nq p1) aB (true,1,s26.1,s14.1)) (fun r52=>some r52) (fun s53=>some s53.2.2.2)))
def fF (p0g:(List Int)×(List (Int×Int×Int×Int))) (p1a:Int×(List Bool)×(List (List Int))) (p2x:Int) (p3y:Int):Option Int:=
 (jV (p0g.1,p0g.2) (p1a.1,p1a.2.1,p1a.2.2) p2x 0).bind fun r1=>if r1 then ((jV (p0g.1,p0g.2) (p1a.1,p1a.2.1,p1a.2.2) p3y 0).bind fun r2=>if r2 then ((oH (p0g.1,p0g.2) (p1a.1,p1a.2.1,p1a.2.2) p3y).bind fun r3=>(aw r3 (IntKind.i64.wrap ((IntKind.i64.wrap (p2x*(p1a.2.1.length:Int)))+p1a.1))).bind fun x1=>some x1) else (some (-1))) else (some (-1))
def e7 (p0:(List Int)×(List (Int×Int×Int×Int))) (p2:List (Int×Int)) (p3:List (Int×(List (Int×Bool)))) (r2:(Int×(List Bool)×(List (List Int)))×Bool) (s3:Int):Option (Out Int Int):=
 if decide (s3<(p2.length:Int)) then ((aw p2 s3).bind fun x13=>(aw p2 s3).bind fun x14=>(aw p3 s3).bind fun x15=>(lq (p0.1,p0.2) (r2.1.1,r2.1.2.1,r2.1.2.2) x13.1 x14.2 (x15.1,x15.2)).bind fun r15=>if r15 then ((aw p3 s3).bind fun x16=>(aw p2 s3).bind fun x17=>(aw p2 s3).bind fun x18=>(fF (p0.1,p0.2) (r2.1.1,r2.1.2.1,r2.1.2.2) x17.1 x18.2).bind fun r17=>if (x16.2.length:Int) !=r17 then (some (.ret 5)) else (some (.nxt (IntKind.i64.wrap (s3+1))))) else (some (.ret 4))) else (some (.brk s3))
def iu (p0:(List Int)×(List (Int×Int×Int×Int))) (p1:(List (Int×Int×Int×Int))) (p2:List (Int×Int)) (p3:List (Int×(List (Int×Bool)))):Option Int:=
 (ir (p0.1,p0.2) p1).bind fun r1=>(je p1).bind fun r2=>if r1.2 then (if r2.2 then ((dI p2).bind fun r3=>if r3 then (if (p2.length:Int) !=(p3.length:Int) then (some 1) else ((eH r1.1 p2).bind fun r4=>if decide ((r4.length:Int)>0) then (some 2) else ((eH p2 r1.1).bind fun r5=>if decide ((r5.length:Int)>0) then (some 3) else (az (ai (e7 p0 p2 p3 r2) aB 0) (fun r=>some r) (fun s4=>some 0))))) else (some 1)) else (some 1)) else (some 1)
def lr (p0a:List Int) (s3:(List Int)×Int):Option (Out (List Int) ((List Int)×Int)):=
 if decide (s3.2<(p0a.length:Int)) then ((aw p0a s3.2).bind fun x6=>(aw s3.1 s3.2).bind fun x7=>some (.nxt (s3.1.set s3.2.toNat x6,IntKind.i64.wrap (s3.2+1)))) else (some (.brk (s3.1,s3.2)))
def qM (p0a:List Int):Option (List Int):=
 (mkI 8 (p0a.length:Int) (0:Int)).bind fun x1=>az (ai (lr p0a) aB (x1,0)) (fun r=>some r) (fun s4=>some s4.1)
def qN (p0a:Int×Int×Int×Int):Option (Int×Int×Int×Int):=
 some (p0a.1,p0a.2.1,p0a.2.2.1,p0a.2.2.2)
def kp (p0a:List (Int×Int×Int×Int)) (s3:(List (Int×Int×Int×Int))×Int):Option (Out (List (Int×Int×Int×Int)) ((List (Int×Int×Int×Int))×Int)):=
 if decide (s3.2<(p0a.length:Int)) then ((aw p0a s3.2).bind fun x6=>(qN (x6.1,x6.2.1,x6.2.2.1,x6.2.2.2)).bind fun r3=>(aw s3.1 s3.2).bind fun x7=>some (.nxt (s3.1.set s3.2.toNat (r3.1,r3.2.1,r3.2.2.1,r3.2.2.2),IntKind.i64.wrap (s3.2+1)))) else (some (.brk (s3.1,s3.2)))
def oJ (p0a:List (Int×Int×Int×Int)):Option (List (Int×Int×Int×Int)):=
 (mkI 32 (p0a.length:Int) ((0,0,0,0):Int×Int×Int×Int)).bind fun x1=>az (ai (kp p0a) aB (x1,0)) (fun r=>some r) (fun s4=>some s4.1)
def jW (p0a:(List Int)×(List (Int×Int×Int×Int))):Option ((List Int)×(List (Int×Int×Int×Int))):=
 (qM p0a.1).bind fun r1=>(oJ p0a.2).bind fun r2=>some (r1,r2)
def qO (p0a:Int×Int):Option (Int×Int):=
 some (p0a.1,p0a.2)
def kq (p0a:List (Int×Int)) (s3:(List (Int×Int))×Int):Option (Out (List (Int×Int)) ((List (Int×Int))×Int)):=
 if decide (s3.2<(p0a.length:Int)) then ((aw p0a s3.2).bind fun x6=>(qO (x6.1,x6.2)).bind fun r3=>(aw s3.1 s3.2).bind fun x7=>some (.nxt (s3.1.set s3.2.toNat (r3.1,r3.2),IntKind.i64.wrap (s3.2+1)))) else (some (.brk (s3.1,s3.2)))
def jX (p0a:List (Int×Int)):Option (List (Int×Int)):=
 (mkI 16 (p0a.length:Int) ((0,0):Int×Int)).bind fun x1=>az (ai (kq p0a) aB (x1,0)) (fun r=>some r) (fun s4=>some s4.1)
def qP (p0a:Int×Bool):Option (Int×Bool):=
 some (p0a.1,p0a.2)
def kt (p0a:List (Int×Bool)) (s3:(List (Int×Bool))×Int):Option (Out (List (Int×Bool)) ((List (Int×Bool))×Int)):=
 if decide (s3.2<(p0a.length:Int)) then ((aw p0a s3.2).bind fun x6=>(qP (x6.1,x6.2)).bind fun r3=>(aw s3.1 s3.2).bind fun x7=>some (.nxt (s3.1.set s3.2.toNat (r3.1,r3.2),IntKind.i64.wrap (s3.2+1)))) else (some (.brk (s3.1,s3.2)))
def oK (p0a:List (Int×Bool)):Option (List (Int×Bool)):=
 (mkI 16 (p0a.length:Int) ((0,false):Int×Bool)).bind fun x1=>az (ai (kt p0a) aB (x1,0)) (fun r=>some r) (fun s4=>some s4.1)
def qQ (p0a:Int×(List (Int×Bool))):Option (Int×(List (Int×Bool))):=
 (oK p0a.2).bind fun r1=>some (p0a.1,r1)
def ku (p0a:List (Int×(List (Int×Bool)))) (s3:(List (Int×(List (Int×Bool))))×Int):Option (Out (List (Int×(List (Int×Bool)))) ((List (Int×(List (Int×Bool))))×Int)):=
 if decide (s3.2<(p0a.length:Int)) then ((aw p0a s3.2).bind fun x6=>(qQ (x6.1,x6.2)).bind fun r6=>(aw s3.1 s3.2).bind fun x7=>some (.nxt (s3.1.set s3.2.toNat (r6.1,r6.2),IntKind.i64.wrap (s3.2+1)))) else (some (.brk (s3.1,s3.2)))
def jY (p0a:List (Int×(List (Int×Bool)))):Option (List (Int×(List (Int×Bool)))):=
 (mkI 32 (p0a.length:Int) ((0,[]):Int×(List (Int×Bool)))).bind fun x1=>az (ai (ku p0a) aB (x1,0)) (fun r=>some r) (fun s4=>some s4.1)
def aS (p0n:Int) (p1a:Int) (p2b:Int):Option Bool:=
 if decide (p0n≥p1a) then (some (decide (p0n≤p2b))) else (some false)
def eS (p0n:Int):Option Bool:=
 (aS p0n 0 8).bind fun r1=>some r1
def oL (p0t:Int×Int×Int×Int):Option Bool:=
 if p0t.1==3 then ((eS p0t.2.1).bind fun r3=>if r3 then (if p0t.2.2.1==0 then (some (p0t.2.2.2==0)) else (some false)) else (some false)) else (if p0t.1==7 then (if p0t.2.1==0 then ((aS p0t.2.2.1 0 p0t.2.2.2).bind fun r1=>if r1 then ((aS p0t.2.2.2 1 3).bind fun r2=>some r2) else (some false)) else (some false)) else (Option.bind ((if p0t.1==1 then (some (p0t.1==1)) else (if p0t.1==2 then (some (p0t.1==2)) else (if p0t.1==4 then (some (p0t.1==4)) else (if p0t.1==5 then (some (p0t.1==5)) else (some (p0t.1==6))))):Option Bool)) (fun s1=>if s1 then (some ((p0t.1==p0t.1)&&((p0t.2.1==0)&&((p0t.2.2.1==0)&&((p0t.2.2.2==0)&&true))))) else (some false))))
def oM (p0e:List (Int×Int×Int×Int)) (s1:(List (Tr (Int×Int×Int×Int)))×Int):Option (Out (Tr (Int×Int×Int×Int)) ((List (Tr (Int×Int×Int×Int)))×Int)):=
 if decide (s1.2<(p0e.length:Int)) then ((aw p0e s1.2).bind fun x2=>Option.bind ((Option.bind ((if x2.1==4 then (some (x2.1==4)) else (some (x2.1==5)):Option Bool)) (fun s3=>if s3 then (some 2) else (Option.bind ((if x2.1==6 then (some (x2.1==6)) else (some (x2.1==7)):Option Bool)) (fun s4=>if s4 then (some 1) else (some 0)))):Option Int)) (fun s5=>(oL (x2.1,x2.2.1,x2.2.2.1,x2.2.2.2)).bind fun r6=>if r6 then (if decide ((IntKind.i64.wrap ((s1.1.length:Int) - s5))<0) then (some (.ret Tr.nil)) else ((chk (And (0≤(IntKind.i64.wrap ((s1.1.length:Int) - s5))) ((IntKind.i64.wrap ((s1.1.length:Int) - s5))≤(s1.1.length:Int)))).bind fun _=>(da 8 ([] :List (Tr (Int×Int×Int×Int))) (s1.1.drop ((IntKind.i64.wrap ((s1.1.length:Int) - s5)).toNat))).bind fun z10=>(chk (And (0≤(IntKind.i64.wrap ((s1.1.length:Int) - s5))) ((IntKind.i64.wrap ((s1.1.length:Int) - s5))≤(s1.1.length:Int)))).bind fun _=>(da 8 (s1.1.take ((IntKind.i64.wrap ((s1.1.length:Int) - s5)).toNat)) ([Tr.node (x2.1,x2.2.1,x2.2.2.1,x2.2.2.2) z10])).bind fun z12=>some (.nxt (z12,IntKind.i64.wrap (s1.2+1))))) else (some (.ret Tr.nil)))) else (some (.brk (s1.1,s1.2)))
def jZ (p0e:List (Int×Int×Int×Int)):Option (Tr (Int×Int×Int×Int)):=
 az (ai (oM p0e) aB (([] :List (Tr (Int×Int×Int×Int))),0)) (fun r13=>some r13) (fun s14=>if (s14.1.length:Int) !=1 then (some Tr.nil) else ((aw s14.1 0).bind fun x15=>some x15))
def qR (p0e:List (Int×Int×Int×Int)):Option Bool:=
 (jZ p0e).bind fun r0=>some (cond.match_1 (fun (u4:Bool)=>Bool) (Tr.isNil r0) (fun (u5:Unit)=>false) (fun (u6:Unit)=>true))
def fZ (p0e:(List (Int×Int×Int×Int))):Option Bool:=
 if decide ((p0e.length:Int)≤24) then ((qR p0e).bind fun r1=>some r1) else (some false)
def aT (mrec:(Tr (Int×Int×Int×Int))→Option Int) (p0x:Tr (Int×Int×Int×Int)) (z1:(Int×Int×Int×Int)×List (Tr (Int×Int×Int×Int))) (s3:Int×Int):Option (Out Int (Int×Int)):=
 if decide (s3.2<(z1.2.length:Int)) then (Option.bind (((aw z1.2 s3.2).bind fun x4=>(Tr.get p0x).bind fun z5=>(Tr.get p0x).bind fun z6=>if z6.1.1==7 then ((mrec x4).bind fun r10=>(Tr.get p0x).bind fun z11=>(Tr.get p0x).bind fun z12=>some (IntKind.i64.wrap (s3.1+(IntKind.i64.wrap ((IntKind.i64.wrap (r10+3))*z12.1.2.2.2))))) else ((mrec x4).bind fun r13=>some (IntKind.i64.wrap (s3.1+r13))):Option Int)) (fun s14=>some (.nxt (s14,IntKind.i64.wrap (s3.2+1))))) else (some (.brk (s3.1,s3.2)))
def a8:Nat→(Tr (Int×Int×Int×Int))→Option Int
 | 0,_=>none
 | n+1,p0x =>
  (Tr.get p0x).bind fun z0=>(Tr.get p0x).bind fun z1=>az (ai (aT (a8 n) p0x z1) aB (1,0)) (fun r15=>some r15) (fun s16=>some (Min.min s16.1 100000))
def AS (p0kind:Int):Option (Tr (Int×Int×Int×Int)):=
 some (Tr.node (p0kind,0,0,0) ([] :List (Tr (Int×Int×Int×Int))))
def iL:Nat→(Tr (Int×Int×Int×Int))→Int→Int→Option (Tr (Int×Int×Int×Int))
 | 0,_,_,_=>none
 | n+1,p0x,p1low,p2high =>
  if p2high==0 then ((AS 2).bind fun r0=>some r0) else (((iL n) p0x (Max.max 0 (IntKind.i64.wrap (p1low - 1))) (IntKind.i64.wrap (p2high - 1))).bind fun r1=>if decide (p1low>0) then (some (Tr.node (4,0,0,0) ([p0x,r1]))) else ((AS 2).bind fun r2=>some (Tr.node (5,0,0,0) ([Tr.node (4,0,0,0) ([p0x,r1]),r2]))))
def aG (mrec:(Tr (Int×Int×Int×Int))→Option (Tr (Int×Int×Int×Int))) (z23:(Int×Int×Int×Int)×List (Tr (Int×Int×Int×Int))) (s26:Int×Int×Int×Int×Int×List (Tr (Int×Int×Int×Int))):Option (Out (Tr (Int×Int×Int×Int)) (Int×Int×Int×Int×Int×List (Tr (Int×Int×Int×Int)))):=
 if decide (s26.1<(z23.2.length:Int)) then ((aw z23.2 s26.1).bind fun x27=>(mrec x27).bind fun r30=>(da 8 s26.2.2.2.2.2 ([r30])).bind fun z31=>some (.nxt (IntKind.i64.wrap (s26.1+1),s26.2.1,s26.2.2.1,s26.2.2.2.1,s26.2.2.2.2.1,z31))) else (some (.brk (s26.1,s26.2.1,s26.2.2.1,s26.2.2.2.1,s26.2.2.2.2.1,s26.2.2.2.2.2)))
def aP:Nat→(Tr (Int×Int×Int×Int))→Option (Tr (Int×Int×Int×Int))
 | 0,_=>none
 | n+1,p0x =>
  (Tr.get p0x).bind fun z0=>(Tr.get p0x).bind fun z1=>if z1.1.1==7 then ((Tr.get p0x).bind fun z11=>(Tr.get p0x).bind fun z12=>(aw z12.2 0).bind fun x13=>((aP n) x13).bind fun r14=>(Tr.get p0x).bind fun z15=>(Tr.get p0x).bind fun z16=>(Tr.get p0x).bind fun z17=>(Tr.get p0x).bind fun z18=>(iL dy r14 z16.1.2.2.1 z18.1.2.2.2).bind fun r19=>some r19) else ((Tr.get p0x).bind fun z20=>(Tr.get p0x).bind fun z21=>(Tr.get p0x).bind fun z22=>(Tr.get p0x).bind fun z23=>az (ai (aG (aP n) z23) aB (0,z21.1.1,z21.1.2.1,z21.1.2.2.1,z21.1.2.2.2,([] :List (Tr (Int×Int×Int×Int))))) (fun r32=>some r32) (fun s33=>some (Tr.node (s33.2.1,s33.2.2.1,s33.2.2.2.1,s33.2.2.2.2.1) s33.2.2.2.2.2)))
def aF (mrec:(Tr (Int×Int×Int×Int))→(List (Int×Int×Int×Int))→Option (List (Int×Int×Int×Int))) (z1:(Int×Int×Int×Int)×List (Tr (Int×Int×Int×Int))) (s4:Int×List (Int×Int×Int×Int)):Option (Out (List (Int×Int×Int×Int)) (Int×List (Int×Int×Int×Int))):=
 if decide (s4.1<(z1.2.length:Int)) then ((aw z1.2 s4.1).bind fun x5=>(mrec x5 s4.2).bind fun r6=>some (.nxt (IntKind.i64.wrap (s4.1+1),r6))) else (some (.brk (s4.1,s4.2)))
def aN:Nat→(Tr (Int×Int×Int×Int))→(List (Int×Int×Int×Int))→Option (List (Int×Int×Int×Int))
 | 0,_,_=>none
 | n+1,p0x,p1out =>
  (Tr.get p0x).bind fun z0=>(Tr.get p0x).bind fun z1=>az (ai (aF (aN n) z1) aB (0,p1out)) (fun r7=>some r7) (fun s8=>(Tr.get p0x).bind fun z12=>(Tr.get p0x).bind fun z13=>(da 32 s8.2 ([(z13.1.1,z13.1.2.1,z13.1.2.2.1,z13.1.2.2.2)])).bind fun z14=>some z14)
def oN (p0x:Tr (Int×Int×Int×Int)):Option (List (Int×Int×Int×Int)):=
 (aN dy p0x ([] :List (Int×Int×Int×Int))).bind fun r0=>some r0
def ky (p0e:List (Int×Int×Int×Int)):Option ((List (Int×Int×Int×Int))×Bool):=
 (fZ p0e).bind fun r0=>if r0 then ((jZ p0e).bind fun r1=>(a8 dy r1).bind fun r2=>if decide (r2>5000) then (some (([] :List (Int×Int×Int×Int)),false)) else ((aP dy r1).bind fun r3=>(oN r3).bind fun r4=>if decide ((r4.length:Int)>400) then (some (([] :List (Int×Int×Int×Int)),false)) else (some (r4,true)))) else (some (([] :List (Int×Int×Int×Int)),false))
def bU (p0p:(List Int)×Int×Int×(List Int)×Bool) (p1last:Int) (p2first:Int) (s2:Int×List Int):Option (Out ((List Int)×Int×Int×(List Int)×Bool) (Int×List Int)):=
 if decide (s2.1<(p0p.2.2.2.1.length:Int)) then (Option.bind (((chk (0≤s2.1)).bind fun _=>if (pB (lI p1last s2.1) 1)==1 then ((aw s2.2 s2.1).bind fun x4=>(aw s2.2 s2.1).bind fun x5=>some (s2.2.set s2.1.toNat (orI x4 p2first))) else (some s2.2):Option (List Int))) (fun s6=>some (.nxt (IntKind.i64.wrap (s2.1+1),s6)))) else (some (.brk (s2.1,s2.2)))
def c8 (p0p:(List Int)×Int×Int×(List Int)×Bool) (p1last:Int) (p2first:Int):Option ((List Int)×Int×Int×(List Int)×Bool):=
 az (ai (bU p0p p1last p2first) aB (0,p0p.2.2.2.1)) (fun r7=>some r7) (fun s8=>some (p0p.1,p0p.2.1,p0p.2.2.1,s8.2,p0p.2.2.2.2))
def aQ:Nat→((List Int)×Int×Int×(List Int)×Bool)→(Tr (Int×Int×Int×Int))→Option ((Int×Int×Bool)×(List Int)×Int×Int×(List Int)×Bool)
 | 0,_,_=>none
 | n+1,p0,p1 =>
  (Tr.get p1).bind fun z0=>(Tr.get p1).bind fun z1=>if z1.1.1==2 then (some ((0,0,true),p0.1,p0.2.1,p0.2.2.1,p0.2.2.2.1,p0.2.2.2.2)) else (if z1.1.1==3 then ((Tr.get p1).bind fun z5=>(Tr.get p1).bind fun z6=>(da 8 p0.1 ([z6.1.2.1])).bind fun z7=>(da 8 p0.2.2.2.1 ([0])).bind fun z8=>some ((pA 1 (p0.1.length:Int),pA 1 (p0.1.length:Int),false),z7,p0.2.1,p0.2.2.1,z8,p0.2.2.2.2)) else (if z1.1.1==5 then ((Tr.get p1).bind fun z17=>(Tr.get p1).bind fun z18=>(aw z18.2 0).bind fun x19=>((aQ n) (p0.1,p0.2.1,p0.2.2.1,p0.2.2.2.1,p0.2.2.2.2) x19).bind fun r20=>(Tr.get p1).bind fun z21=>(Tr.get p1).bind fun z22=>(aw z22.2 1).bind fun x23=>((aQ n) r20.2 x23).bind fun r24=>if r20.1.2.2 then (some ((orI r20.1.1 r24.1.1,orI r20.1.2.1 r24.1.2.1,true),r24.2.1,r24.2.2.1,r24.2.2.2.1,r24.2.2.2.2.1,r24.2.2.2.2.2)) else (some ((orI r20.1.1 r24.1.1,orI r20.1.2.1 r24.1.2.1,r24.1.2.2),r24.2.1,r24.2.2.1,r24.2.2.2.1,r24.2.2.2.2.1,r24.2.2.2.2.2))) else (if z1.1.1==4 then ((Tr.get p1).bind fun z33=>(Tr.get p1).bind fun z34=>(aw z34.2 0).bind fun x35=>((aQ n) (p0.1,p0.2.1,p0.2.2.1,p0.2.2.2.1,p0.2.2.2.2) x35).bind fun r36=>(Tr.get p1).bind fun z37=>(Tr.get p1).bind fun z38=>(aw z38.2 1).bind fun x39=>((aQ n) r36.2 x39).bind fun r40=>(c8 (r40.2.1,r40.2.2.1,r40.2.2.2.1,r40.2.2.2.2.1,r40.2.2.2.2.2) r36.1.2.1 r40.1.1).bind fun r41=>if r36.1.2.2 then (Option.bind ((if r36.1.2.2 then (some (orI r36.1.1 r40.1.1,r40.1.2.1,r40.1.2.2)) else (some (r36.1.1,r40.1.2.1,r40.1.2.2)):Option (Int×Int×Bool))) (fun s42=>Option.bind ((if r40.1.2.2 then (some (s42.1,orI s42.2.1 r36.1.2.1,s42.2.2)) else (some (s42.1,s42.2.1,s42.2.2)):Option (Int×Int×Bool))) (fun s43=>some ((s43.1,s43.2.1,s43.2.2),r41.1,r41.2.1,r41.2.2.1,r41.2.2.2.1,r41.2.2.2.2)))) else (Option.bind ((if r36.1.2.2 then (some (orI r36.1.1 r40.1.1,r40.1.2.1,false)) else (some (r36.1.1,r40.1.2.1,false)):Option (Int×Int×Bool))) (fun s44=>Option.bind ((if r40.1.2.2 then (some (s44.1,orI s44.2.1 r36.1.2.1,s44.2.2)) else (some (s44.1,s44.2.1,s44.2.2)):Option (Int×Int×Bool))) (fun s45=>some ((s45.1,s45.2.1,s45.2.2),r41.1,r41.2.1,r41.2.2.1,r41.2.2.2.1,r41.2.2.2.2))))) else (if z1.1.1==6 then ((Tr.get p1).bind fun z46=>(Tr.get p1).bind fun z47=>(aw z47.2 0).bind fun x48=>((aQ n) (p0.1,p0.2.1,p0.2.2.1,p0.2.2.2.1,p0.2.2.2.2) x48).bind fun r49=>(c8 (r49.2.1,r49.2.2.1,r49.2.2.2.1,r49.2.2.2.2.1,r49.2.2.2.2.2) r49.1.2.1 r49.1.1).bind fun r50=>some ((r49.1.1,r49.1.2.1,true),r50.1,r50.2.1,r50.2.2.1,r50.2.2.2.1,r50.2.2.2.2)) else (some ((0,0,false),p0.1,p0.2.1,p0.2.2.1,p0.2.2.2.1,p0.2.2.2.2))))))
def cH (r0:(List (Int×Int×Int×Int))×Bool) (s2:Int×Int):Option (Out (((List Int)×Int×Int×(List Int)×Bool)×Bool) (Int×Int)):=
 if decide (s2.2<(r0.1.length:Int)) then (Option.bind (((aw r0.1 s2.2).bind fun x3=>if x3.1==3 then (some (IntKind.i64.wrap (s2.1+1))) else (some s2.1):Option Int)) (fun s4=>some (.nxt (s4,IntKind.i64.wrap (s2.2+1))))) else (some (.brk (s2.1,s2.2)))
def fG (p0e:List (Int×Int×Int×Int)):Option (((List Int)×Int×Int×(List Int)×Bool)×Bool):=
 (ky p0e).bind fun r0=>if r0.2 then (az (ai (cH r0) aB (0,0)) (fun r5=>some r5) (fun s6=>if decide (s6.1>20) then (some ((([] :List Int),0,0,([] :List Int),false),false)) else ((jZ r0.1).bind fun r7=>(aQ dy (([] :List Int),0,0,([] :List Int),false) r7).bind fun r8=>some ((r8.2.1,r8.1.1,r8.1.2.1,r8.2.2.2.2.1,r8.1.2.2),true)))) else (some ((([] :List Int),0,0,([] :List Int),false),false))
def dk (p3:Int→Int→Option (Int×Bool)) (s29:(List Int)×(List (Int×Int))×Int×Int×(List Bool)×(List (List Int))) (s39:(List Int)×(List (Int×Int))×(List Int)×Int):Option (Out ((Int×(List Bool)×(List (List Int)))×Bool) ((List Int)×(List (Int×Int))×(List Int)×Int)):=
 if decide (s39.2.2.2<9) then (Option.bind (((aw s39.1 s29.2.2.1).bind fun x20=>(p3 x20 s39.2.2.2).bind fun r20=>if r20.2 then ((chk (iOk r20.1=true)).bind fun _=>Option.bind ((if (lkM s39.2.1 r20.1).isSome then (some (s39.1,s39.2.1,(lkM s39.2.1 r20.1).getD 0)) else ((I5 s39.2.1 iOk iOk r20.1 (s39.1.length:Int)).bind fun m37=>(da 8 s39.1 ([r20.1])).bind fun z75=>some (z75,m37,(s39.1.length:Int))):Option ((List Int)×(List (Int×Int))×Int))) (fun s43=>(da 8 s39.2.2.1 ([s43.2.2])).bind fun z76=>some (s43.1,s43.2.1,z76))) else ((da 8 s39.2.2.1 ([-1])).bind fun z73=>some (s39.1,s39.2.1,z73)):Option ((List Int)×(List (Int×Int))×(List Int)))) (fun s42=>some (.nxt (s42.1,s42.2.1,s42.2.2,IntKind.i64.wrap (s39.2.2.2+1))))) else (some (.brk (s39.1,s39.2.1,s39.2.2.1,s39.2.2.2)))
def br (p1:Int) (p2:Int→Option Bool) (p3:Int→Int→Option (Int×Bool)) (s29:(List Int)×(List (Int×Int))×Int×Int×(List Bool)×(List (List Int))):Option (Out ((Int×(List Bool)×(List (List Int)))×Bool) ((List Int)×(List (Int×Int))×Int×Int×(List Bool)×(List (List Int)))):=
 if decide (s29.2.2.1<(s29.1.length:Int)) then (az (ai (dk p3 s29) aB (s29.1,s29.2.1,([] :List Int),0)) (fun r=>some (.ret r)) (fun s40=>if decide ((s40.1.length:Int)>p1) then (some (.ret ((0,[],[]),false))) else ((aw s40.1 s29.2.2.1).bind fun x21=>(p2 x21).bind fun r21=>(da 1 s29.2.2.2.2.1 ([r21])).bind fun z77=>(da 24 s29.2.2.2.2.2 ([s40.2.2.1])).bind fun z78=>some (.nxt (s40.1,s40.2.1,IntKind.i64.wrap (s29.2.2.1+1),s29.2.2.2.1,z77,z78))))) else (some (.brk (s29.1,s29.2.1,s29.2.2.1,s29.2.2.2.1,s29.2.2.2.2.1,s29.2.2.2.2.2)))
def dC (p0:Int) (p1:Int) (p2:Int→Option Bool) (p3:Int→Int→Option (Int×Bool)):Option ((Int×(List Bool)×(List (List Int)))×Bool):=
 (I5 ([] :List (Int×Int)) iOk iOk p0 0).bind fun m1=>az (ai (br p1 p2 p3) aB ([p0],m1,0,0,[],[])) (fun r=>some r) (fun s30=>some ((s30.2.2.2.1,s30.2.2.2.2.1,s30.2.2.2.2.2),true))
def cJ (p0p:(List Int)×Int×Int×(List Int)×Bool) (p1set:Int):Option Bool:=
 if (pB p1set 1)==1 then (if p0p.2.2.2.2 then (some true) else (some ((pB (lI p1set 1) p0p.2.2.1) !=0))) else (some ((pB (lI p1set 1) p0p.2.2.1) !=0))
def cq (p0p:(List Int)×Int×Int×(List Int)×Bool) (p1set:Int) (s6:Int×Int):Option (Out Int (Int×Int)):=
 if decide (s6.2<(p0p.2.2.2.1.length:Int)) then (Option.bind (((aw p0p.2.2.2.1 s6.2).bind fun x6=>(chk (0≤IntKind.i64.wrap (s6.2+1))).bind fun _=>if (pB (lI p1set (IntKind.i64.wrap (s6.2+1))) 1)==1 then (some (orI s6.1 x6)) else (some s6.1):Option Int)) (fun s8=>some (.nxt (s8,IntKind.i64.wrap (s6.2+1))))) else (some (.brk (s6.1,s6.2)))
def cr (p0p:(List Int)×Int×Int×(List Int)×Bool) (p2letter:Int) (s7:Int×Int) (s13:Int×Int):Option (Out Int (Int×Int)):=
 if decide (s13.2<(p0p.1.length:Int)) then (Option.bind (((aw p0p.1 s13.2).bind fun x12=>if x12==p2letter then ((chk (0≤s13.2)).bind fun _=>if (pB (lI s7.1 s13.2) 1)==1 then ((chk (0≤IntKind.i64.wrap (s13.2+1))).bind fun _=>some (orI s13.1 (pA 1 (IntKind.i64.wrap (s13.2+1))))) else (some s13.1)) else (some s13.1):Option Int)) (fun s15=>some (.nxt (s15,IntKind.i64.wrap (s13.2+1))))) else (some (.brk (s13.1,s13.2)))
def fa (p0p:(List Int)×Int×Int×(List Int)×Bool) (p1set:Int) (p2letter:Int):Option Int:=
 Option.bind ((if (pB p1set 1)==1 then (some p0p.2.1) else (some 0):Option Int)) (fun s1=>az (ai (cq p0p p1set) aB (s1,0)) (fun r=>some r) (fun s7=>az (ai (cr p0p p2letter s7) aB (0,0)) (fun r=>some r) (fun s14=>some s14.1)))
def cw (p0set:Int) (p1letter:Int) (q0:(List Int)×Int×Int×(List Int)×Bool):Option (Int×Bool):=
 (fa (q0.1,q0.2.1,q0.2.2.1,q0.2.2.2.1,q0.2.2.2.2) p0set p1letter).bind fun r1=>some (r1,r1 !=0)
def ga (p0p:(List Int)×Int×Int×(List Int)×Bool) (p1most:Int):Option ((Int×(List Bool)×(List (List Int)))×Bool):=
 (dC 1 p1most (fun a0=>cJ (p0p.1,p0p.2.1,p0p.2.2.1,p0p.2.2.2.1,p0p.2.2.2.2) a0) (fun a0 a1=>cw a0 a1 (p0p.1,p0p.2.1,p0p.2.2.1,p0p.2.2.2.1,p0p.2.2.2.2))).bind fun r1=>some ((r1.1.1,r1.1.2.1,r1.1.2.2),r1.2)
def cK (s5:Bool×Int×List Bool) (x6:List Int) (s8:Bool×Int×List Bool):Option (Out (List Bool) (Bool×Int×List Bool)):=
 if decide (s8.2.1<(x6.length:Int)) then (Option.bind (((aw x6 s8.2.1).bind fun x9=>if decide (x9≥0) then ((aw s8.2.2 x9).bind fun x10=>if x10 then ((aw s8.2.2 s5.2.1).bind fun x11=>if x11 then (some (s8.1,s8.2.2)) else ((aw s8.2.2 s5.2.1).bind fun x12=>some (true,s8.2.2.set s5.2.1.toNat true))) else (some (s8.1,s8.2.2))) else (some (s8.1,s8.2.2)):Option (Bool×List Bool))) (fun s13=>some (.nxt (s13.1,IntKind.i64.wrap (s8.2.1+1),s13.2)))) else (some (.brk (s8.1,s8.2.1,s8.2.2)))
def cL (p0a:Int×(List Bool)×List (List Int)) (s5:Bool×Int×List Bool):Option (Out (List Bool) (Bool×Int×List Bool)):=
 if decide (s5.2.1<(p0a.2.2.length:Int)) then ((aw p0a.2.2 s5.2.1).bind fun x6=>az (ai (cK s5 x6) aB (s5.1,0,s5.2.2)) (fun r14=>some (.ret r14)) (fun s15=>some (.nxt (s15.1,IntKind.i64.wrap (s5.2.1+1),s15.2.2)))) else (some (.brk (s5.1,s5.2.1,s5.2.2)))
def gb (p0a:Int×(List Bool)×List (List Int)) (s3:Bool×List Bool):Option (Out (List Bool) (Bool×List Bool)):=
 if s3.1 then (az (ai (cL p0a) aB (false,0,s3.2)) (fun r16=>some (.ret r16)) (fun s17=>some (.nxt (s17.1,s17.2.2)))) else (some (.brk (s3.1,s3.2)))
def dJ (p0a:Int×(List Bool)×List (List Int)):Option (List Bool):=
 (da 1 ([] :List Bool) p0a.2.1).bind fun z0=>az (ai (gb p0a) aB (true,z0)) (fun r18=>some r18) (fun s19=>some s19.2)
def bD (p0s:List (List Int)) (p1f:(List Int)→Option Bool) (s3:Int):Option (Out Int Int):=
 if decide (s3<(p0s.length:Int)) then ((aw p0s s3).bind fun x3=>(p1f x3).bind fun r6=>if r6 then (some (.ret s3)) else (some (.nxt (IntKind.i64.wrap (s3+1))))) else (some (.brk s3))
def bf (p0s:List (List Int)) (p1f:(List Int)→Option Bool):Option Int:=
 az (ai (bD p0s p1f) aB 0) (fun r=>some r) (fun s4=>some (-1))
def bH (p0s1:List Int) (p1s2:List Int) (s3:Int):Option (Out Bool Int):=
 if decide (s3<(p0s1.length:Int)) then ((aw p0s1 s3).bind fun x5=>(aw p1s2 s3).bind fun x6=>if x5 !=x6 then (some (.ret false)) else (some (.nxt (IntKind.i64.wrap (s3+1))))) else (some (.brk s3))
def dA (p0s1:List Int) (p1s2:List Int):Option Bool:=
 if (p0s1.length:Int) !=(p1s2.length:Int) then (some false) else (az (ai (bH p0s1 p1s2) aB 0) (fun r=>some r) (fun s4=>some true))
def fB (p0x:List Int) (q0:List Int):Option Bool:=
 (dA p0x q0).bind fun r1=>some r1
def bV (p1:List Int) (x57:List Int) (s52:Int×(List Int)):Option (Out ((List Int)×Int) (Int×(List Int))):=
 if decide (s52.1<(x57.length:Int)) then ((aw x57 s52.1).bind fun x64=>Option.bind ((if decide (x64≥0) then ((aw p1 x64).bind fun x66=>some x66) else (some x64):Option Int)) (fun s54=>(da 8 s52.2 ([s54])).bind fun z38=>some (.nxt (IntKind.i64.wrap (s52.1+1),z38)))) else (some (.brk (s52.1,s52.2)))
def db (p0:Int×(List Bool)×(List (List Int))) (p1:List Int) (s37:(List (List Int))×(List Int)×Int):Option (Out ((List Int)×Int) ((List (List Int))×(List Int)×Int)):=
 if decide (s37.2.2<(p1.length:Int)) then (Option.bind (((aw p1 s37.2.2).bind fun x56=>if decide (x56<0) then ((da 8 s37.2.1 ([-1])).bind fun z42=>some (s37.1,z42)) else ((aw p0.2.2 s37.2.2).bind fun x57=>az (ai (bV p1 x57) aB (0,[x56])) (fun _=>none) (fun s53=>(bf s37.1 (fun a0=>fB a0 s53.2)).bind fun r12=>Option.bind ((if decide (r12<0) then ((da 24 s37.1 ([s53.2])).bind fun z40=>some (z40,(s37.1.length:Int))) else (some (s37.1,r12)):Option ((List (List Int))×Int))) (fun s55=>(da 8 s37.2.1 ([s55.2])).bind fun z41=>some (s55.1,z41)))):Option ((List (List Int))×(List Int)))) (fun s47=>some (.nxt (s47.1,s47.2,IntKind.i64.wrap (s37.2.2+1))))) else (some (.brk (s37.1,s37.2.1,s37.2.2)))
def c9 (p0:Int×(List Bool)×(List (List Int))) (p1:List Int):Option ((List Int)×Int):=
 az (ai (db p0 p1) aB (([] :List (List Int)),([] :List Int),0)) (fun r=>some r) (fun s38=>some (s38.2.1,(s38.1.length:Int)))
def bL (p0a:Int×(List Bool)×(List (List Int))) (r1:List Bool) (s5:(List Int)×Int):Option (Out (List Int) ((List Int)×Int)):=
 if decide (s5.2<(r1.length:Int)) then (Option.bind (((aw r1 s5.2).bind fun x11=>if x11 then ((aw p0a.2.1 s5.2).bind fun x12=>if x12 then ((da 8 s5.1 ([1])).bind fun z18=>some z18) else ((da 8 s5.1 ([0])).bind fun z17=>some z17)) else ((da 8 s5.1 ([-1])).bind fun z16=>some z16):Option (List Int))) (fun s7=>some (.nxt (s7,IntKind.i64.wrap (s5.2+1))))) else (some (.brk (s5.1,s5.2)))
def eK (p0a:Int×(List Bool)×(List (List Int))) (s10:(List Int)×Int):Option (Out (List Int) ((List Int)×Int)):=
 (c9 (p0a.1,p0a.2.1,p0a.2.2) s10.1).bind fun r4=>if r4.2==s10.2 then (some (.ret r4.1)) else (some (.nxt (r4.1,r4.2)))
def cM (p0a:Int×(List Bool)×(List (List Int))):Option (List Int):=
 (dJ (p0a.1,p0a.2.1,p0a.2.2)).bind fun r1=>az (ai (bL p0a r1) aB (([] :List Int),0)) (fun r=>some r) (fun s6=>az (ai (eK p0a) aB (s6.1,-1)) (fun r=>some r) (fun s11=>none))
def rQ (p0x:Int) (p1y:Int):Option (Int×Int):=
 some (IntKind.u32.wrap (lI (IntKind.u64.wrap ((IntKind.u64.wrap p0x)*(IntKind.u64.wrap p1y))) 32),IntKind.u32.wrap (IntKind.u64.wrap ((IntKind.u64.wrap p0x)*(IntKind.u64.wrap p1y))))
def l7 (p0x:Int) (p1y:Int):Option (Int×Int):=
 some (IntKind.u64.wrap ((IntKind.u64.wrap ((IntKind.u64.wrap ((lI p0x 32)*(lI p1y 32)))+(lI (IntKind.u64.wrap ((IntKind.u64.wrap ((lI p0x 32)*(Mt p1y 4294967295)))+(lI (IntKind.u64.wrap ((Mt p0x 4294967295)*(Mt p1y 4294967295))) 32))) 32)))+(lI (IntKind.u64.wrap ((Mt (IntKind.u64.wrap ((IntKind.u64.wrap ((lI p0x 32)*(Mt p1y 4294967295)))+(lI (IntKind.u64.wrap ((Mt p0x 4294967295)*(Mt p1y 4294967295))) 32))) 4294967295)+(IntKind.u64.wrap ((Mt p0x 4294967295)*(lI p1y 32))))) 32)),IntKind.u64.wrap (p0x*p1y))
def nL (p0x:Int) (p1y:Int):Option (Int×Int):=
 (l7 p0x p1y).bind fun r1=>some (r1.1,r1.2)
def kL (s4:Int×List Int):Option (Out (List Int) (Int×List Int)):=
 if decide (s4.1<(s4.2.length:Int)) then ((chk (And (0≤s4.1) (s4.1≤(s4.2.length:Int)))).bind fun _=>(chk (And (0≤s4.1) (s4.1≤(s4.2.length:Int)))).bind fun _=>(chk (And (0≤s4.1) (s4.1≤(s4.2.length:Int)))).bind fun _=>(chk (And (0≤s4.1) (s4.1≤(s4.2.length:Int)))).bind fun _=>some (.nxt (IntKind.i64.wrap (s4.1+((Min.min ((s4.2.take s4.1.toNat).length) (s4.2.length - s4.1.toNat):Nat):Int)),yn s4.2 s4.1.toNat (s4.2.take s4.1.toNat)))) else (some (.brk (s4.1,s4.2)))
def bs (p0x:List Int) (p1count:Int):Option (List Int):=
 if decide (p1count<0) then (none) else ((nL (IntKind.u64.wrap (p0x.length:Int)) (IntKind.u64.wrap p1count)).bind fun r0=>if decide (r0.1>0) then (none) else (if decide (r0.2>9223372036854775807) then (none) else ((mkI 8 (IntKind.i64.wrap r0.2) 0).bind fun z1=>az (ai (kL) aB (((Min.min p0x.length (z1.length - 0):Nat):Int),yn z1 0 p0x)) (fun r13=>some r13) (fun s14=>some s14.2))))
def rR:Option (Int×(List Bool)×(List (List Int))):=
 (bs ([-1]) 9).bind fun r1=>some (0,[false],[r1])
def cV (p0s:List Int) (p1v:Int) (s3:Int):Option (Out Int Int):=
 if decide (s3<(p0s.length:Int)) then ((aw p0s s3).bind fun x3=>if p1v==x3 then (some (.ret s3)) else (some (.nxt (IntKind.i64.wrap (s3+1))))) else (some (.brk s3))
def dB (p0s:List Int) (p1v:Int):Option Int:=
 az (ai (cV p0s p1v) aB 0) (fun r=>some r) (fun s4=>some (-1))
def aC (p0class:Int) (q0:List Int):Option Int:=
 (dB q0 p0class).bind fun r1=>some r1
def bM (p0c:Int) (q0:Int×(List Bool)×(List (List Int))) (q1:Int→Option Int):Option Bool:=
 (q1 p0c).bind fun r1=>(aw q0.2.1 r1).bind fun x1=>some x1
def aO (p0a:Int×(List Bool)×(List (List Int))) (p1s:Int) (p2letter:Int):Option Int:=
 if decide (p1s<0) then (some (-1)) else ((eS p2letter).bind fun r1=>if r1 then ((aw p0a.2.2 p1s).bind fun x1=>(aw x1 p2letter).bind fun x2=>some x2) else (some (-1)))
def bN (p0c:Int) (p1letter:Int) (q0:Int×(List Bool)×(List (List Int))) (q1:Int→Option Int) (q2:List Int):Option (Int×Bool):=
 (q1 p0c).bind fun r1=>(aO (q0.1,q0.2.1,q0.2.2) r1 p1letter).bind fun r2=>if decide (r2<0) then (some (0,false)) else ((aw q2 r2).bind fun x1=>if decide (x1<0) then (some (0,false)) else ((aw q2 r2).bind fun x2=>some (x2,true)))
def ct (p0a:Int×(List Bool)×(List (List Int))):Option (Int×(List Bool)×(List (List Int))):=
 (cM (p0a.1,p0a.2.1,p0a.2.2)).bind fun r1=>(aw r1 p0a.1).bind fun x1=>if decide (x1<0) then ((rR).bind fun r3=>some (r3.1,r3.2.1,r3.2.2)) else ((aw r1 p0a.1).bind fun x2=>(dC x2 (r1.length:Int) (fun a0=>bM a0 (p0a.1,p0a.2.1,p0a.2.2) (fun a0=>aC a0 r1)) (fun a0 a1=>bN a0 a1 (p0a.1,p0a.2.1,p0a.2.2) (fun a0=>aC a0 r1) r1)).bind fun r2=>some (r2.1.1,r2.1.2.1,r2.1.2.2))
def wV (p0a:Int×(List Bool)×(List (List Int))):Option ((Int×(List Bool)×(List (List Int)))×Bool):=
 (ct (p0a.1,p0a.2.1,p0a.2.2)).bind fun r1=>if decide ((r1.2.1.length:Int)>12) then (some ((0,[],[]),false)) else (some ((r1.1,r1.2.1,r1.2.2),true))
def jg (p0e:(List (Int×Int×Int×Int))):Option ((Int×(List Bool)×(List (List Int)))×Bool):=
 (fG p0e).bind fun r1=>if r1.2 then ((ga (r1.1.1,r1.1.2.1,r1.1.2.2.1,r1.1.2.2.2.1,r1.1.2.2.2.2) 200).bind fun r2=>if r2.2 then ((wV (r2.1.1,r2.1.2.1,r2.1.2.2)).bind fun r3=>some ((r3.1.1,r3.1.2.1,r3.1.2.2),r3.2)) else (some ((0,[],[]),false))) else (some ((0,[],[]),false))
def nM (p0e:Int×Int×Int×Int) (p1nodes:Int):Option Bool:=
 (aS p0e.1 1 99).bind fun r1=>if r1 then ((aS p0e.2.1 0 (IntKind.i64.wrap (p1nodes - 1))).bind fun r2=>if r2 then ((aS p0e.2.2.1 0 (IntKind.i64.wrap (p1nodes - 1))).bind fun r3=>if r3 then ((aS p0e.2.2.2 0 2).bind fun r4=>some r4) else (some false)) else (some false)) else (some false)
def dm (p0g:(List Int)×(List (Int×Int×Int×Int))) (s3:Int):Option (Out Bool Int):=
 if decide (s3<(p0g.1.length:Int)) then ((aw p0g.1 s3).bind fun x3=>(aS x3 0 2).bind fun r3=>if r3 then (some (.nxt (IntKind.i64.wrap (s3+1)))) else (some (.ret false))) else (some (.brk s3))
def cx (p0g:(List Int)×(List (Int×Int×Int×Int))) (s7:Int):Option (Out Bool Int):=
 if decide (s7<(p0g.2.length:Int)) then ((aw p0g.2 s7).bind fun x8=>(nM (x8.1,x8.2.1,x8.2.2.1,x8.2.2.2) (p0g.1.length:Int)).bind fun r6=>if r6 then (if decide (s7>0) then ((aw p0g.2 (IntKind.i64.wrap (s7 - 1))).bind fun x9=>if decide (x9.1≥x8.1) then (some (.ret false)) else (some (.nxt (IntKind.i64.wrap (s7+1))))) else (some (.nxt (IntKind.i64.wrap (s7+1))))) else (some (.ret false))) else (some (.brk s7))
def ay (p0g:(List Int)×(List (Int×Int×Int×Int))):Option Bool:=
 az (ai (dm p0g) aB 0) (fun r=>some r) (fun s4=>az (ai (cx p0g) aB 0) (fun r=>some r) (fun s8=>(aS (p0g.1.length:Int) 1 5).bind fun r7=>if r7 then (some (decide ((p0g.2.length:Int)≤12))) else (some false)))
def bW (p0n:Int) (s3:(List (Int×Int))×Int):Option (Out (List (Int×Int)) ((List (Int×Int))×Int)):=
 if decide (s3.2<p0n) then ((da 16 s3.1 ([(s3.2,s3.2)])).bind fun z3=>some (.nxt (z3,IntKind.i64.wrap (s3.2+1)))) else (some (.brk (s3.1,s3.2)))
def b9 (p0n:Int):Option (List (Int×Int)):=
 if decide (p0n>5) then (some ([])) else (az (ai (bW p0n) aB (([] :List (Int×Int)),0)) (fun r=>some r) (fun s4=>some s4.1))
def jh (p0a:Int) (p1b:Int):Option Int:=
 if decide (p0a<p1b) then (some (-1)) else (if decide (p0a>p1b) then (some 1) else (some 0))
def fm (p0a:Int×Int) (p1b:Int×Int):Option Int:=
 if p0a.1 !=p1b.1 then ((jh p0a.1 p1b.1).bind fun r2=>some r2) else ((jh p0a.2 p1b.2).bind fun r1=>some r1)
def cy (p0:List (Int×Int)) (p1:Unit):Option (List (Int×Int)):=R.Ou R.HO p0
def bj (p0s:List (Int×Int)) (s1:Int) (s14:Int×Int×List (Int×Int)):Option (Out (List (Int×Int)) (Int×Int×List (Int×Int))):=
 if decide (s14.2.1<((0+((p0s.length:Int) - 0)) - (0+s1))) then (Option.bind (((chk (And (0≤s14.2.1) (s14.2.1<((0+((p0s.length:Int) - 0)) - (0+s1))))).bind fun _=>(aw s14.2.2 ((0+s1)+s14.2.1)).bind fun x20=>(chk (And (0≤(IntKind.i64.wrap (s14.2.1 - 1))) ((IntKind.i64.wrap (s14.2.1 - 1))<((0+((p0s.length:Int) - 0)) - (0+s1))))).bind fun _=>(aw s14.2.2 ((0+s1)+(IntKind.i64.wrap (s14.2.1 - 1)))).bind fun x22=>if Bool.and.match_1 (fun (u23:Bool)=>Bool) (x20.1==x22.1) (fun (u24:Unit)=>false) (fun (u25:Unit)=>Bool.and.match_1 (fun (u26:Bool)=>Bool) (x20.2==x22.2) (fun (u27:Unit)=>false) (fun (u28:Unit)=>true)) then (some (s14.1,s14.2.2)) else ((chk (And (0≤s14.2.1) (s14.2.1<((0+((p0s.length:Int) - 0)) - (0+s1))))).bind fun _=>(aw s14.2.2 ((0+s1)+s14.2.1)).bind fun x30=>(aw s14.2.2 s14.1).bind fun x31=>some (IntKind.i64.wrap (s14.1+1),s14.2.2.set s14.1.toNat (x30.1,x30.2))):Option (Int×List (Int×Int)))) (fun s32=>some (.nxt (s32.1,IntKind.i64.wrap (s14.2.1+1),s32.2)))) else (some (.brk (s14.1,s14.2.1,s14.2.2)))
def aW (p0s:List (Int×Int)) (s1:Int):Option (Out (List (Int×Int)) Int):=
 if decide (s1<(p0s.length:Int)) then ((aw p0s s1).bind fun x4=>(aw p0s (IntKind.i64.wrap (s1 - 1))).bind fun x5=>if Bool.and.match_1 (fun (u6:Bool)=>Bool) (x4.1==x5.1) (fun (u7:Unit)=>false) (fun (u8:Unit)=>Bool.and.match_1 (fun (u9:Bool)=>Bool) (x4.2==x5.2) (fun (u10:Unit)=>false) (fun (u11:Unit)=>true)) then ((chk (And (0≤s1) (And (s1≤((p0s.length:Int) - 0)) ((0+((p0s.length:Int) - 0))≤(p0s.length:Int))))).bind fun _=>az (ai (bj p0s s1) aB (s1,1,p0s)) (fun r33=>some (.ret r33)) (fun s34=>(chk (And (0≤s34.1) (And (s34.1≤((s34.2.2.length:Int) - 0)) ((0+((s34.2.2.length:Int) - 0))≤(s34.2.2.length:Int))))).bind fun _=>(chk (And ((0+s34.1)≤(0+((s34.2.2.length:Int) - 0))) ((0+((s34.2.2.length:Int) - 0))≤(s34.2.2.length:Int)))).bind fun _=>(chk (And ((0:Int)≤0) (And (0≤s34.1) ((0+s34.1)≤((pq s34.2.2 ((0+s34.1).toNat) ((0+((s34.2.2.length:Int) - 0)).toNat) (0,0)).length:Int))))).bind fun _=>some (.ret (((pq s34.2.2 ((0+s34.1).toNat) ((0+((s34.2.2.length:Int) - 0)).toNat) (0,0)).take ((0+s34.1).toNat)).drop 0)))) else (some (.nxt (IntKind.i64.wrap (s1+1))))) else (some (.brk s1))
def bE (p0s:List (Int×Int)):Option (List (Int×Int)):=
 if decide ((p0s.length:Int)<2) then (some p0s) else (az (ai (aW p0s) aB 1) (fun r38=>some r38) (fun s39=>some p0s))
def gf (p0l:List (Int×Int)):Option (List (Int×Int)):=
 (da 16 ([] :List (Int×Int)) p0l).bind fun z0=>(cy z0 ()).bind fun r1=>(bE r1).bind fun r2=>some r2
def l8 (p0e:Int×Int×Int×Int) (p1inverse:Bool):Option Int:=
 if p1inverse then (some (IntKind.i64.wrap ((IntKind.i64.wrap (2*p0e.2.2.2))+1))) else (some (IntKind.i64.wrap (2*p0e.2.2.2)))
def l9 (p0g:(List Int)×List (Int×Int×Int×Int)) (s3:Int×List (List ((Int×Bool)×Int×Int))):Option (Out (List (List ((Int×Bool)×Int×Int))) (Int×List (List ((Int×Bool)×Int×Int)))):=
 if decide (s3.1<(p0g.2.length:Int)) then ((aw p0g.2 s3.1).bind fun x4=>(aw s3.2 x4.2.1).bind fun x11=>(l8 (x4.1,x4.2.1,x4.2.2.1,x4.2.2.2) false).bind fun r12=>(da 32 x11 ([((x4.1,false),r12,x4.2.2.1)])).bind fun z13=>(aw s3.2 x4.2.1).bind fun x14=>(chk (x4.2.1<((s3.2.set x4.2.1.toNat ([] :List ((Int×Bool)×Int×Int))).length:Int))).bind fun _=>(chk (x4.2.1=x4.2.1)).bind fun _=>(aw (s3.2.set x4.2.1.toNat z13) x4.2.2.1).bind fun x23=>(l8 (x4.1,x4.2.1,x4.2.2.1,x4.2.2.2) true).bind fun r24=>(da 32 x23 ([((x4.1,true),r24,x4.2.1)])).bind fun z25=>(aw (s3.2.set x4.2.1.toNat z13) x4.2.2.1).bind fun x26=>(chk (x4.2.2.1<(((s3.2.set x4.2.1.toNat z13).set x4.2.2.1.toNat ([] :List ((Int×Bool)×Int×Int))).length:Int))).bind fun _=>(chk (x4.2.2.1=x4.2.2.1)).bind fun _=>some (.nxt (IntKind.i64.wrap (s3.1+1),(s3.2.set x4.2.1.toNat z13).set x4.2.2.1.toNat z25))) else (some (.brk (s3.1,s3.2)))
def qS (p0g:(List Int)×List (Int×Int×Int×Int)):Option (List (List ((Int×Bool)×Int×Int))):=
 (mkI 24 (p0g.1.length:Int) ([] :List ((Int×Bool)×Int×Int))).bind fun z0=>az (ai (l9 p0g) aB (0,z0)) (fun r29=>some r29) (fun s30=>some s30.2)
def oO (p0g:(List Int)×(List (Int×Int×Int×Int))) (p1node:Int) (p2letter:Int):Option Bool:=
 (ay (p0g.1,p0g.2)).bind fun r1=>if r1 then ((aS p1node 0 (IntKind.i64.wrap ((p0g.1.length:Int) - 1))).bind fun r2=>if r2 then ((eS p2letter).bind fun r3=>if r3 then ((aw p0g.1 p1node).bind fun x1=>some (p2letter==(IntKind.i64.wrap (6+x1)))) else (some false)) else (some false)) else (some false)
def cO (p1letter:Int) (s4:(List (Int×Int))×Int) (x5:List ((Int×Bool)×Int×Int)) (s7:(List (Int×Int))×Int):Option (Out (List (Int×Int)) ((List (Int×Int))×Int)):=
 if decide (s7.2<(x5.length:Int)) then (Option.bind (((aw x5 s7.2).bind fun x8=>if x8.2.1==p1letter then ((da 16 s7.1 ([(s4.2,x8.2.2)])).bind fun z9=>some z9) else (some s7.1):Option (List (Int×Int)))) (fun s10=>some (.nxt (s10,IntKind.i64.wrap (s7.2+1))))) else (some (.brk (s7.1,s7.2)))
def cP (p0g:(List Int)×List (Int×Int×Int×Int)) (p1letter:Int) (r2:List (List ((Int×Bool)×Int×Int))) (s4:(List (Int×Int))×Int):Option (Out (List (Int×Int)) ((List (Int×Int))×Int)):=
 if decide (s4.2<(r2.length:Int)) then (Option.bind (((aw r2 s4.2).bind fun x5=>az (ai (cO p1letter s4 x5) aB (s4.1,0)) (fun r11=>none) (fun s12=>(oO (p0g.1,p0g.2) s4.2 p1letter).bind fun r13=>if r13 then ((da 16 s12.1 ([(s4.2,s4.2)])).bind fun z14=>some z14) else (some s12.1)):Option (List (Int×Int)))) (fun s15=>some (.nxt (s15,IntKind.i64.wrap (s4.2+1))))) else (some (.brk (s4.1,s4.2)))
def fH (p0g:(List Int)×List (Int×Int×Int×Int)) (p1letter:Int):Option (List (Int×Int)):=
 (ay (p0g.1,p0g.2)).bind fun r0=>if r0 then ((eS p1letter).bind fun r1=>if r1 then ((qS (p0g.1,p0g.2)).bind fun r2=>az (ai (cP p0g p1letter r2) aB (([] :List (Int×Int)),0)) (fun r16=>some r16) (fun s17=>(gf s17.1).bind fun r18=>some r18)) else (some ([] :List (Int×Int)))) else (some ([] :List (Int×Int)))
def bX (p1b:List (Int×Int)) (x15:Int×Int) (s23:(List (Int×Int))×Int):Option (Out (List (Int×Int)) ((List (Int×Int))×Int)):=
 if decide (s23.2<(p1b.length:Int)) then (Option.bind (((aw p1b s23.2).bind fun x21=>if x15.2==x21.1 then ((da 16 s23.1 ([(x15.1,x21.2)])).bind fun z18=>some z18) else (some s23.1):Option (List (Int×Int)))) (fun s25=>some (.nxt (s25,IntKind.i64.wrap (s23.2+1))))) else (some (.brk (s23.1,s23.2)))
def bY (p1b:List (Int×Int)) (r1:List (Int×Int)) (s17:(List (Int×Int))×Int):Option (Out (List (Int×Int)) ((List (Int×Int))×Int)):=
 if decide (s17.2<(r1.length:Int)) then ((aw r1 s17.2).bind fun x15=>az (ai (bX p1b x15) aB (s17.1,0)) (fun r=>some (.ret r)) (fun s24=>some (.nxt (s24.1,IntKind.i64.wrap (s17.2+1))))) else (some (.brk (s17.1,s17.2)))
def cd (p0a:List (Int×Int)) (p1b:List (Int×Int)):Option (List (Int×Int)):=
 (gf p0a).bind fun r1=>az (ai (bY p1b r1) aB (([] :List (Int×Int)),0)) (fun r=>some r) (fun s18=>(gf s18.1).bind fun r2=>some r2)
def fy (p0a:List (Int×Int)) (p1b:List (Int×Int)):Option (List (Int×Int)):=
 (da 16 ([] :List (Int×Int)) p0a).bind fun z1=>(da 16 z1 p1b).bind fun z2=>(gf z2).bind fun r1=>some r1
def gg (p0l:List (Int×Int)) (s3:Int):Option (Out Bool Int):=
 if decide (s3<(p0l.length:Int)) then ((aw p0l s3).bind fun x5=>(aS x5.1 0 4).bind fun r7=>if r7 then ((aS x5.2 0 4).bind fun r8=>if r8 then (if decide (s3>0) then ((aw p0l (IntKind.i64.wrap (s3 - 1))).bind fun x6=>(fm (x6.1,x6.2) (x5.1,x5.2)).bind fun r9=>if decide (r9≥0) then (some (.ret false)) else (some (.nxt (IntKind.i64.wrap (s3+1))))) else (some (.nxt (IntKind.i64.wrap (s3+1))))) else (some (.ret false))) else (some (.ret false))) else (some (.brk s3))
def eU (p0l:List (Int×Int)):Option Bool:=
 az (ai (gg p0l) aB 0) (fun r=>some r) (fun s4=>some true)
def dx (p1l:List (Int×Int)) (s3:(List (Int×Int))):Option (Out (List (Int×Int)) (List (Int×Int))):=
 (cd s3 p1l).bind fun r8=>(fy s3 r8).bind fun r9=>if (r9.length:Int)==(s3.length:Int) then (some (.ret s3)) else (some (.nxt r9))
def fb (p0n:Int) (p1l:List (Int×Int)):Option (List (Int×Int)):=
 (aS p0n 1 5).bind fun r1=>if r1 then ((eU p1l).bind fun r2=>if r2 then ((b9 p0n).bind fun r3=>az (ai (dx p1l) aB r3) (fun r=>some r) (fun s4=>none)) else (some ([]))) else (some ([]))
def cg (p1l:List (Int×Int)) (p2low:Int) (p3high:Int) (s5:(List (Int×Int))×(List (Int×Int))×Int):Option (Out (List (Int×Int)) ((List (Int×Int))×(List (Int×Int))×Int)):=
 if decide (s5.2.2≤p3high) then (Option.bind ((if decide (s5.2.2≥p2low) then ((fy s5.1 s5.2.1).bind fun r12=>some r12) else (some s5.1):Option (List (Int×Int)))) (fun s7=>(cd s5.2.1 p1l).bind fun r13=>some (.nxt (s7,r13,IntKind.i64.wrap (s5.2.2+1))))) else (some (.brk (s5.1,s5.2.1,s5.2.2)))
def gE (p0n:Int) (p1l:List (Int×Int)) (p2low:Int) (p3high:Int):Option (List (Int×Int)):=
 (aS p0n 1 5).bind fun r1=>if r1 then ((eU p1l).bind fun r2=>if r2 then (if decide (p2low<0) then (some ([])) else ((aS p3high 0 3).bind fun r3=>if r3 then ((b9 p0n).bind fun r4=>az (ai (cg p1l p2low p3high) aB (([] :List (Int×Int)),r4,0)) (fun r=>some r) (fun s6=>some s6.1)) else (some ([])))) else (some ([]))) else (some ([]))
def aL:Nat→(Tr (Int×Int×Int×Int))→((List Int)×List (Int×Int×Int×Int))→Option (List (Int×Int))
 | 0,_,_=>none
 | n+1,p0,p1 =>
  (Tr.get p0).bind fun z0=>(Tr.get p0).bind fun z1=>if z1.1.1==2 then ((b9 (p1.1.length:Int)).bind fun r2=>some r2) else (if z1.1.1==3 then ((Tr.get p0).bind fun z6=>(Tr.get p0).bind fun z7=>(fH (p1.1,p1.2) z7.1.2.1).bind fun r8=>some r8) else (if z1.1.1==4 then ((Tr.get p0).bind fun z18=>(Tr.get p0).bind fun z19=>(aw z19.2 0).bind fun x20=>((aL n) x20 (p1.1,p1.2)).bind fun r21=>(Tr.get p0).bind fun z22=>(Tr.get p0).bind fun z23=>(aw z23.2 1).bind fun x24=>((aL n) x24 (p1.1,p1.2)).bind fun r25=>(cd r21 r25).bind fun r26=>some r26) else (if z1.1.1==5 then ((Tr.get p0).bind fun z36=>(Tr.get p0).bind fun z37=>(aw z37.2 0).bind fun x38=>((aL n) x38 (p1.1,p1.2)).bind fun r39=>(Tr.get p0).bind fun z40=>(Tr.get p0).bind fun z41=>(aw z41.2 1).bind fun x42=>((aL n) x42 (p1.1,p1.2)).bind fun r43=>(fy r39 r43).bind fun r44=>some r44) else (if z1.1.1==6 then ((Tr.get p0).bind fun z50=>(Tr.get p0).bind fun z51=>(aw z51.2 0).bind fun x52=>((aL n) x52 (p1.1,p1.2)).bind fun r53=>(fb (p1.1.length:Int) r53).bind fun r54=>some r54) else (if z1.1.1==7 then ((Tr.get p0).bind fun z64=>(Tr.get p0).bind fun z65=>(aw z65.2 0).bind fun x66=>((aL n) x66 (p1.1,p1.2)).bind fun r67=>(Tr.get p0).bind fun z68=>(Tr.get p0).bind fun z69=>(Tr.get p0).bind fun z70=>(Tr.get p0).bind fun z71=>(gE (p1.1.length:Int) r67 z69.1.2.2.1 z71.1.2.2.2).bind fun r72=>some r72) else (some ([] :List (Int×Int))))))))
def iw (p0g:(List Int)×List (Int×Int×Int×Int)) (p1e:List (Int×Int×Int×Int)):Option ((List (Int×Int))×Bool):=
 (ay (p0g.1,p0g.2)).bind fun r0=>if r0 then ((fZ p1e).bind fun r1=>if r1 then ((jZ p1e).bind fun r4=>(aL dy r4 (p0g.1,p0g.2)).bind fun r5=>some (r5,true)) else (some (([] :List (Int×Int)),false))) else (some (([] :List (Int×Int)),false))
def be (p0s:List (Int×Int)) (p1f:(Int×Int)→Option Bool) (s3:Int):Option (Out Int Int):=
 if decide (s3<(p0s.length:Int)) then ((aw p0s s3).bind fun x3=>(p1f (x3.1,x3.2)).bind fun r3=>if r3 then (some (.ret s3)) else (some (.nxt (IntKind.i64.wrap (s3+1))))) else (some (.brk s3))
def aZ (p0s:List (Int×Int)) (p1f:(Int×Int)→Option Bool):Option Int:=
 az (ai (be p0s p1f) aB 0) (fun r=>some r) (fun s4=>some (-1))
def ba (p1del:(Int×Int)→Option Bool) (s3:Int×Int×List (Int×Int)):Option (Out (List (Int×Int)) (Int×Int×List (Int×Int))):=
 if decide (s3.2.1<(s3.2.2.length:Int)) then (Option.bind (((aw s3.2.2 s3.2.1).bind fun x4=>(p1del (x4.1,x4.2)).bind fun r5=>if r5 then (some (s3.1,s3.2.2)) else ((aw s3.2.2 s3.1).bind fun x6=>some (IntKind.i64.wrap (s3.1+1),s3.2.2.set s3.1.toNat (x4.1,x4.2))):Option (Int×List (Int×Int)))) (fun s7=>some (.nxt (s7.1,IntKind.i64.wrap (s3.2.1+1),s7.2)))) else (some (.brk (s3.1,s3.2.1,s3.2.2)))
def bm (p0s:List (Int×Int)) (p1del:(Int×Int)→Option Bool):Option (List (Int×Int)):=
 (aZ p0s p1del).bind fun r0=>if r0==(-1) then (some p0s) else (az (ai (ba p1del) aB (r0,IntKind.i64.wrap (r0+1),p0s)) (fun r8=>some r8) (fun s9=>(chk (And (0≤s9.1) (And (s9.1≤((s9.2.2.length:Int) - 0)) ((0+((s9.2.2.length:Int) - 0))≤(s9.2.2.length:Int))))).bind fun _=>(chk (And ((0+s9.1)≤(0+((s9.2.2.length:Int) - 0))) ((0+((s9.2.2.length:Int) - 0))≤(s9.2.2.length:Int)))).bind fun _=>(chk (And ((0:Int)≤0) (And (0≤s9.1) ((0+s9.1)≤((pq s9.2.2 ((0+s9.1).toNat) ((0+((s9.2.2.length:Int) - 0)).toNat) (0,0)).length:Int))))).bind fun _=>some (((pq s9.2.2 ((0+s9.1).toNat) ((0+((s9.2.2.length:Int) - 0)).toNat) (0,0)).take ((0+s9.1).toNat)).drop 0)))
def bu (p0s:List (Int×Int)) (p1v:Int×Int) (s3:Int):Option (Out Int Int):=
 if decide (s3<(p0s.length:Int)) then ((aw p0s s3).bind fun x3=>if ((p1v.1==x3.1)&&((p1v.2==x3.2)&&true)) then (some (.ret s3)) else (some (.nxt (IntKind.i64.wrap (s3+1))))) else (some (.brk s3))
def bO (p0s:List (Int×Int)) (p1v:Int×Int):Option Int:=
 az (ai (bu p0s p1v) aB 0) (fun r=>some r) (fun s4=>some (-1))
def bw (p0s:List (Int×Int)) (p1v:Int×Int):Option Bool:=
 (bO p0s (p1v.1,p1v.2)).bind fun r1=>some (decide (r1≥0))
def iG (p0p:Int×Int) (q0:List (Int×Int)):Option Bool:=
 (bw q0 (p0p.1,p0p.2)).bind fun r1=>some r1
def eL (p0a:List (Int×Int)) (p1b:List (Int×Int)):Option (List (Int×Int)):=
 (gf p0a).bind fun r0=>(bm r0 (fun (u1:Int×Int)=>iG u1 p1b)).bind fun r2=>some r2
def bK (p0s:List (Int×Int×Int×Int)) (p1f:(Int×Int×Int×Int)→Option Bool) (s3:Int):Option (Out Int Int):=
 if decide (s3<(p0s.length:Int)) then ((aw p0s s3).bind fun x3=>(p1f (x3.1,x3.2.1,x3.2.2.1,x3.2.2.2)).bind fun r3=>if r3 then (some (.ret s3)) else (some (.nxt (IntKind.i64.wrap (s3+1))))) else (some (.brk s3))
def cm (p0s:List (Int×Int×Int×Int)) (p1f:(Int×Int×Int×Int)→Option Bool):Option Int:=
 az (ai (bK p0s p1f) aB 0) (fun r=>some r) (fun s4=>some (-1))
def ji (p0e:Int×Int×Int×Int) (q0:Int):Option Bool:=
 some (p0e.1==q0)
def gF (p0g:(List Int)×(List (Int×Int×Int×Int))) (p1id:Int):Option Int:=
 (cm p0g.2 (fun a0=>ji a0 p1id)).bind fun r1=>some r1
def gh (p0g:(List Int)×(List (Int×Int×Int×Int))) (p1s:Int×Bool):Option ((Int×Int×Int×Int)×Bool):=
 (gF (p0g.1,p0g.2) p1s.1).bind fun r1=>if decide (r1<0) then (some ((0,0,0,0),false)) else ((ay (p0g.1,p0g.2)).bind fun r2=>if r2 then ((aw p0g.2 r1).bind fun x1=>some ((x1.1,x1.2.1,x1.2.2.1,x1.2.2.2),true)) else (some ((0,0,0,0),false)))
def gi (p0g:(List Int)×(List (Int×Int×Int×Int))) (p1s:Int×Bool):Option Int:=
 (gh (p0g.1,p0g.2) (p1s.1,p1s.2)).bind fun r1=>if r1.2 then (if p1s.2 then (some r1.1.2.2.1) else (some r1.1.2.1)) else (some (-1))
def nO (p0g:(List Int)×(List (Int×Int×Int×Int))) (p1s:Int×Bool):Option Int:=
 (gi (p0g.1,p0g.2) (p1s.1,!p1s.2)).bind fun r1=>some r1
def bP (p0g:(List Int)×(List (Int×Int×Int×Int))) (p1w:Int×(List (Int×Bool))) (s3:(List Int)×Int):Option (Out ((List Int)×Bool) ((List Int)×Int)):=
 if decide (s3.2<(p1w.2.length:Int)) then ((aw p1w.2 s3.2).bind fun x5=>(gi (p0g.1,p0g.2) (x5.1,x5.2)).bind fun r7=>(aw s3.1 (IntKind.i64.wrap ((s3.1.length:Int) - 1))).bind fun x6=>if r7 !=x6 then (some (.ret ([],false))) else ((nO (p0g.1,p0g.2) (x5.1,x5.2)).bind fun r8=>(da 8 s3.1 ([r8])).bind fun z3=>some (.nxt (z3,IntKind.i64.wrap (s3.2+1))))) else (some (.brk (s3.1,s3.2)))
def iH (p0g:(List Int)×(List (Int×Int×Int×Int))) (p1w:Int×(List (Int×Bool))):Option ((List Int)×Bool):=
 (ay (p0g.1,p0g.2)).bind fun r1=>if r1 then ((aS p1w.1 0 (IntKind.i64.wrap ((p0g.1.length:Int) - 1))).bind fun r2=>if r2 then (if decide ((p1w.2.length:Int)>60) then (some ([],false)) else (az (ai (bP p0g p1w) aB ([p1w.1],0)) (fun r=>some r) (fun s4=>some (s4.1,true)))) else (some ([],false))) else (some ([],false))
def rS (p0g:(List Int)×(List (Int×Int×Int×Int))) (p1w:Int×(List (Int×Bool))):Option Int:=
 (iH (p0g.1,p0g.2) (p1w.1,p1w.2)).bind fun r1=>if r1.2 then ((aw r1.1 (IntKind.i64.wrap ((r1.1.length:Int) - 1))).bind fun x1=>some x1) else (some (-1))
def bz (p0a:Int×(List Bool)×(List (List Int))) (x9:List Int) (s15:Int):Option (Out Bool Int):=
 if decide (s15<(x9.length:Int)) then ((aw x9 s15).bind fun x12=>(aS x12 (-1) (IntKind.i64.wrap ((p0a.2.1.length:Int) - 1))).bind fun r14=>if r14 then (some (.nxt (IntKind.i64.wrap (s15+1)))) else (some (.ret false))) else (some (.brk s15))
def de (p0a:Int×(List Bool)×(List (List Int))) (s11:Int):Option (Out Bool Int):=
 if decide (s11<(p0a.2.2.length:Int)) then ((aw p0a.2.2 s11).bind fun x9=>az (ai (bz p0a x9) aB 0) (fun r=>some (.ret r)) (fun s16=>if (x9.length:Int) !=9 then (some (.ret false)) else (some (.nxt (IntKind.i64.wrap (s11+1)))))) else (some (.brk s11))
def bg (p0a:Int×(List Bool)×(List (List Int))):Option Bool:=
 (aS (p0a.2.1.length:Int) 1 12).bind fun r1=>if r1 then ((aS p0a.1 0 (IntKind.i64.wrap ((p0a.2.1.length:Int) - 1))).bind fun r2=>if r2 then (if (p0a.2.2.length:Int) !=(p0a.2.1.length:Int) then (some false) else (az (ai (de p0a) aB 0) (fun r=>some r) (fun s12=>some true))) else (some false)) else (some false)
def nr (p0set:Int) (s5:(List Int)×Int):Option (Out (List Int) ((List Int)×Int)):=
 (chk (0≤s5.2)).bind fun _=>if (lI p0set s5.2) !=0 then (Option.bind (((chk (0≤s5.2)).bind fun _=>if (pB (lI p0set s5.2) 1)==1 then ((da 8 s5.1 ([s5.2])).bind fun z6=>some z6) else (some s5.1):Option (List Int))) (fun s7=>some (.nxt (s7,IntKind.i64.wrap (s5.2+1))))) else (some (.brk (s5.1,s5.2)))
def gj (p0set:Int):Option (List Int):=
 az (ai (nr p0set) aB (([] :List Int),0)) (fun r=>some r) (fun s6=>some s6.1)
def cB (p0a:Int×(List Bool)×(List (List Int))) (p2value:Int) (s3:Int×Int):Option (Out Int (Int×Int)):=
 if decide (s3.2≥0) then ((chk (0≤s3.2)).bind fun _=>if (pB (lI s3.1 s3.2) 1)==0 then ((chk (0≤s3.2)).bind fun _=>(aO (p0a.1,p0a.2.1,p0a.2.2) s3.2 (IntKind.i64.wrap (6+p2value))).bind fun r3=>some (.nxt (orI s3.1 (pA 1 s3.2),r3))) else (some (.brk (s3.1,s3.2)))) else (some (.brk (s3.1,s3.2)))
def cW (p0a:Int×(List Bool)×(List (List Int))) (p1state:Int) (p2value:Int):Option Int:=
 az (ai (cB p0a p2value) aB (0,p1state)) (fun r=>some r) (fun s4=>some s4.1)
def dK (p0a:Int×(List Bool)×(List (List Int))) (p3letter:Int) (r19:List Int) (s23:Int×Int):Option (Out Int (Int×Int)):=
 if decide (s23.2<(r19.length:Int)) then (Option.bind (((aw r19 s23.2).bind fun x21=>(aO (p0a.1,p0a.2.1,p0a.2.2) x21 p3letter).bind fun r25=>if decide (r25≥0) then ((chk (0≤r25)).bind fun _=>some (orI s23.1 (pA 1 r25))) else (some s23.1):Option Int)) (fun s25=>some (.nxt (s25,IntKind.i64.wrap (s23.2+1))))) else (some (.brk (s23.1,s23.2)))
def cQ (p0a:Int×(List Bool)×(List (List Int))) (p2value:Int) (p3letter:Int) (r1:List Int) (s17:Int×Int):Option (Out Int (Int×Int)):=
 if decide (s17.2<(r1.length:Int)) then ((aw r1 s17.2).bind fun x15=>(cW (p0a.1,p0a.2.1,p0a.2.2) x15 p2value).bind fun r18=>(gj r18).bind fun r19=>az (ai (dK p0a p3letter r19) aB (s17.1,0)) (fun r=>some (.ret r)) (fun s24=>some (.nxt (s24.1,IntKind.i64.wrap (s17.2+1))))) else (some (.brk (s17.1,s17.2)))
def gk (p0a:Int×(List Bool)×(List (List Int))) (p1set:Int) (p2value:Int) (p3letter:Int):Option Int:=
 (gj p1set).bind fun r1=>az (ai (cQ p0a p2value p3letter r1) aB (0,0)) (fun r=>some r) (fun s18=>some s18.1)
def ij (p0g:(List Int)×(List (Int×Int×Int×Int))) (p1s:Int×Bool):Option Int:=
 (gh (p0g.1,p0g.2) (p1s.1,p1s.2)).bind fun r1=>if r1.2 then ((l8 (r1.1.1,r1.1.2.1,r1.1.2.2.1,r1.1.2.2.2) p1s.2).bind fun r2=>some r2) else (some (-1))
def kM (p0g:(List Int)×(List (Int×Int×Int×Int))) (p1a:Int×(List Bool)×(List (List Int))) (p2w:Int×(List (Int×Bool))) (r1:(List Int)×Bool) (s3:(List Int)×Int):Option (Out ((List Int)×(List Int)×Bool) ((List Int)×Int)):=
 if decide (s3.2<(p2w.2.length:Int)) then ((aw p2w.2 s3.2).bind fun x9=>(aw s3.1 s3.2).bind fun x10=>(aw r1.1 s3.2).bind fun x11=>(aw p0g.1 x11).bind fun x12=>(ij (p0g.1,p0g.2) (x9.1,x9.2)).bind fun r7=>(gk (p1a.1,p1a.2.1,p1a.2.2) x10 x12 r7).bind fun r8=>(da 8 s3.1 ([r8])).bind fun z3=>some (.nxt (z3,IntKind.i64.wrap (s3.2+1)))) else (some (.brk (s3.1,s3.2)))
def wW (p0g:(List Int)×(List (Int×Int×Int×Int))) (p1a:Int×(List Bool)×(List (List Int))) (p2w:Int×(List (Int×Bool))):Option ((List Int)×(List Int)×Bool):=
 (iH (p0g.1,p0g.2) (p2w.1,p2w.2)).bind fun r1=>if r1.2 then ((bg (p1a.1,p1a.2.1,p1a.2.2)).bind fun r2=>if r2 then ((chk (0≤p1a.1)).bind fun _=>az (ai (kM p0g p1a p2w r1) aB ([pA 1 p1a.1],0)) (fun r=>some r) (fun s4=>some (s4.1,r1.1,true))) else (some ([],[],false))) else (some ([],[],false))
def cX (p0a:Int×(List Bool)×(List (List Int))) (r7:List Int) (s15:Int):Option (Out Bool Int):=
 if decide (s15<(r7.length:Int)) then ((aw r7 s15).bind fun x20=>(aw p0a.2.1 x20).bind fun x21=>if x21 then (some (.ret true)) else (some (.nxt (IntKind.i64.wrap (s15+1))))) else (some (.brk s15))
def bI (p0a:Int×(List Bool)×(List (List Int))) (p2value:Int) (r1:List Int) (s11:Int):Option (Out Bool Int):=
 if decide (s11<(r1.length:Int)) then ((aw r1 s11).bind fun x15=>(cW (p0a.1,p0a.2.1,p0a.2.2) x15 p2value).bind fun r6=>(gj r6).bind fun r7=>az (ai (cX p0a r7) aB 0) (fun r=>some (.ret r)) (fun s16=>some (.nxt (IntKind.i64.wrap (s11+1))))) else (some (.brk s11))
def df (p0a:Int×(List Bool)×(List (List Int))) (p1set:Int) (p2value:Int):Option Bool:=
 (gj p1set).bind fun r1=>az (ai (bI p0a p2value r1) aB 0) (fun r=>some r) (fun s12=>some false)
def ma (p0g:(List Int)×(List (Int×Int×Int×Int))) (p1a:Int×(List Bool)×(List (List Int))) (p2w:Int×(List (Int×Bool))):Option Bool:=
 (wW (p0g.1,p0g.2) (p1a.1,p1a.2.1,p1a.2.2) (p2w.1,p2w.2)).bind fun r1=>if r1.2.2 then ((aw r1.1 (IntKind.i64.wrap ((r1.1.length:Int) - 1))).bind fun x1=>(aw r1.2.1 (IntKind.i64.wrap ((r1.2.1.length:Int) - 1))).bind fun x2=>(aw p0g.1 x2).bind fun x3=>(df (p1a.1,p1a.2.1,p1a.2.2) x1 x3).bind fun r2=>some r2) else (some false)
def lu (p0g:(List Int)×(List (Int×Int×Int×Int))) (p1a:Int×(List Bool)×(List (List Int))) (p2x:Int) (p3y:Int) (p4w:Int×(List (Int×Bool))):Option Bool:=
 if p4w.1==p2x then ((rS (p0g.1,p0g.2) (p4w.1,p4w.2)).bind fun r1=>if r1==p3y then ((ma (p0g.1,p0g.2) (p1a.1,p1a.2.1,p1a.2.2) (p4w.1,p4w.2)).bind fun r2=>some r2) else (some false)) else (some false)
def fc (p0g:(List Int)×(List (Int×Int×Int×Int))) (p2nodes:List Int) (s3:Int):Option (Out Bool Int):=
 if decide (s3<(p2nodes.length:Int)) then ((aw p2nodes s3).bind fun x3=>(aS x3 0 (IntKind.i64.wrap ((p0g.1.length:Int) - 1))).bind fun r3=>if r3 then (some (.nxt (IntKind.i64.wrap (s3+1)))) else (some (.ret false))) else (some (.brk s3))
def eM (p0g:(List Int)×(List (Int×Int×Int×Int))) (p1a:Int×(List Bool)×(List (List Int))) (p2nodes:List Int):Option Bool:=
 az (ai (fc p0g p2nodes) aB 0) (fun r=>some r) (fun s4=>(ay (p0g.1,p0g.2)).bind fun r4=>if r4 then ((bg (p1a.1,p1a.2.1,p1a.2.2)).bind fun r5=>some r5) else (some false))
def jj (p1:List Int) (s3:(List Int)×Int×List Int):Option (Out (List Int) ((List Int)×Int×List Int)):=
 if decide (s3.2.1<(p1.length:Int)) then ((aw p1 s3.2.1).bind fun x4=>(aw s3.2.2 x4).bind fun x5=>(da 8 s3.1 ([x4])).bind fun z6=>some (.nxt (z6,IntKind.i64.wrap (s3.2.1+1),s3.2.2.set x4.toNat 0))) else (some (.brk (s3.1,s3.2.1,s3.2.2)))
def jk (x13:List Int) (s15:(List Int)×Int×List Int):Option (Out (List Int) ((List Int)×Int×List Int)):=
 if decide (s15.2.1<(x13.length:Int)) then (Option.bind (((aw x13 s15.2.1).bind fun x16=>(aw s15.2.2 x16).bind fun x17=>if decide (x17<0) then ((aw s15.1 0).bind fun x18=>(aw s15.2.2 x18).bind fun x19=>(aw s15.2.2 x16).bind fun x20=>(da 8 s15.1 ([x16])).bind fun z21=>some (z21,s15.2.2.set x16.toNat (IntKind.i64.wrap (x19+1)))) else (some (s15.1,s15.2.2)):Option ((List Int)×List Int))) (fun s22=>some (.nxt (s22.1,IntKind.i64.wrap (s15.2.1+1),s22.2)))) else (some (.brk (s15.1,s15.2.1,s15.2.2)))
def lx (p0:List (List Int)) (s11:(List Int)×List Int):Option (Out (List Int) ((List Int)×List Int)):=
 if decide ((s11.1.length:Int)>0) then ((aw s11.1 0).bind fun x12=>(aw p0 x12).bind fun x13=>az (ai (jk x13) aB (s11.1,0,s11.2)) (fun r23=>some (.ret r23)) (fun s24=>(chk (And ((0:Int)≤1) (1≤(s24.1.length:Int)))).bind fun _=>some (.nxt (s24.1.drop 1,s24.2.2)))) else (some (.brk (s11.1,s11.2)))
def qT (p0:List (List Int)) (p1:List Int):Option (List Int):=
 (bs ([(-1)]) (p0.length:Int)).bind fun r0=>az (ai (jj p1) aB (([] :List Int),0,r0)) (fun r7=>some r7) (fun s8=>az (ai (lx p0) aB (s8.1,s8.2.2)) (fun r26=>some r26) (fun s27=>some s27.2))
def jl (s3:Int×List (List Int)) (x4:List Int) (s6:Int×List (List Int)):Option (Out (List (List Int)) (Int×List (List Int))):=
 if decide (s6.1<(x4.length:Int)) then ((aw x4 s6.1).bind fun x7=>(aw s6.2 x7).bind fun x8=>(da 8 x8 ([s3.1])).bind fun z9=>(aw s6.2 x7).bind fun x10=>(chk (x7<((s6.2.set x7.toNat ([] :List Int)).length:Int))).bind fun _=>(chk (x7=x7)).bind fun _=>some (.nxt (IntKind.i64.wrap (s6.1+1),s6.2.set x7.toNat z9))) else (some (.brk (s6.1,s6.2)))
def jm (p0next:List (List Int)) (s3:Int×List (List Int)):Option (Out (List (List Int)) (Int×List (List Int))):=
 if decide (s3.1<(p0next.length:Int)) then ((aw p0next s3.1).bind fun x4=>az (ai (jl s3 x4) aB (0,s3.2)) (fun r13=>some (.ret r13)) (fun s14=>some (.nxt (IntKind.i64.wrap (s3.1+1),s14.2)))) else (some (.brk (s3.1,s3.2)))
def qU (p0next:List (List Int)):Option (List (List Int)):=
 (mkI 24 (p0next.length:Int) ([] :List Int)).bind fun z0=>az (ai (jm p0next) aB (0,z0)) (fun r15=>some r15) (fun s16=>some s16.2)
def cz (p1:Int×(List Bool)×List (List Int)) (s4:Int×List (List Int)) (s7:Int×List (List Int)) (x10:(Int×Bool)×Int×Int) (r18:List Int) (s20:Int×List (List Int)):Option (Out (List (List Int)) (Int×List (List Int))):=
 if decide (s20.1<(r18.length:Int)) then ((aw r18 s20.1).bind fun x21=>(aw s20.2 (IntKind.i64.wrap ((IntKind.i64.wrap (s4.1*(p1.2.1.length:Int)))+s7.1))).bind fun x27=>(da 8 x27 ([IntKind.i64.wrap ((IntKind.i64.wrap (x10.2.2*(p1.2.1.length:Int)))+x21)])).bind fun z28=>(aw s20.2 (IntKind.i64.wrap ((IntKind.i64.wrap (s4.1*(p1.2.1.length:Int)))+s7.1))).bind fun x29=>(chk ((IntKind.i64.wrap ((IntKind.i64.wrap (s4.1*(p1.2.1.length:Int)))+s7.1))<((s20.2.set ((IntKind.i64.wrap ((IntKind.i64.wrap (s4.1*(p1.2.1.length:Int)))+s7.1)).toNat) ([] :List Int)).length:Int))).bind fun _=>(chk ((IntKind.i64.wrap ((IntKind.i64.wrap (s4.1*(p1.2.1.length:Int)))+s7.1))=(IntKind.i64.wrap ((IntKind.i64.wrap (s4.1*(p1.2.1.length:Int)))+s7.1)))).bind fun _=>some (.nxt (IntKind.i64.wrap (s20.1+1),s20.2.set ((IntKind.i64.wrap ((IntKind.i64.wrap (s4.1*(p1.2.1.length:Int)))+s7.1)).toNat) z28))) else (some (.brk (s20.1,s20.2)))
def dn (p0:(List Int)×List (Int×Int×Int×Int)) (p1:Int×(List Bool)×List (List Int)) (s4:Int×List (List Int)) (x5:List ((Int×Bool)×Int×Int)) (s7:Int×List (List Int)) (s9:Int×List (List Int)):Option (Out (List (List Int)) (Int×List (List Int))):=
 if decide (s9.1<(x5.length:Int)) then ((aw x5 s9.1).bind fun x10=>(chk (0≤s7.1)).bind fun _=>(aw p0.1 s4.1).bind fun x16=>(gk (p1.1,p1.2.1,p1.2.2) (pA 1 s7.1) x16 x10.2.1).bind fun r17=>(gj r17).bind fun r18=>az (ai (cz p1 s4 s7 x10 r18) aB (0,s9.2)) (fun r32=>some (.ret r32)) (fun s33=>some (.nxt (IntKind.i64.wrap (s9.1+1),s33.2)))) else (some (.brk (s9.1,s9.2)))
def dq (p0:(List Int)×List (Int×Int×Int×Int)) (p1:Int×(List Bool)×List (List Int)) (s4:Int×List (List Int)) (x5:List ((Int×Bool)×Int×Int)) (s7:Int×List (List Int)):Option (Out (List (List Int)) (Int×List (List Int))):=
 if decide (s7.1<(p1.2.1.length:Int)) then (az (ai (dn p0 p1 s4 x5 s7) aB (0,s7.2)) (fun r34=>some (.ret r34)) (fun s35=>some (.nxt (IntKind.i64.wrap (s7.1+1),s35.2)))) else (some (.brk (s7.1,s7.2)))
def fe (p0:(List Int)×List (Int×Int×Int×Int)) (p1:Int×(List Bool)×List (List Int)) (r1:List (List ((Int×Bool)×Int×Int))) (s4:Int×List (List Int)):Option (Out (List (List Int)) (Int×List (List Int))):=
 if decide (s4.1<(r1.length:Int)) then ((aw r1 s4.1).bind fun x5=>az (ai (dq p0 p1 s4 x5) aB (0,s4.2)) (fun r36=>some (.ret r36)) (fun s37=>some (.nxt (IntKind.i64.wrap (s4.1+1),s37.2)))) else (some (.brk (s4.1,s4.2)))
def dD (p0:(List Int)×List (Int×Int×Int×Int)) (p1:Int×(List Bool)×List (List Int)):Option (List (List Int)):=
 (mkI 24 (IntKind.i64.wrap ((p1.2.1.length:Int)*(p0.1.length:Int))) ([] :List Int)).bind fun z0=>(qS (p0.1,p0.2)).bind fun r1=>az (ai (fe p0 p1 r1) aB (0,z0)) (fun r38=>some r38) (fun s39=>some s39.2)
def kN (p0g:(List Int)×(List (Int×Int×Int×Int))) (p1a:Int×(List Bool)×(List (List Int))) (p2target:Int) (s5:(List Int)×Int):Option (Out (List Int) ((List Int)×Int)):=
 if decide (s5.2<(p1a.2.1.length:Int)) then (Option.bind (((chk (0≤s5.2)).bind fun _=>(aw p0g.1 p2target).bind fun x6=>(df (p1a.1,p1a.2.1,p1a.2.2) (pA 1 s5.2) x6).bind fun r6=>if r6 then ((da 8 s5.1 ([IntKind.i64.wrap ((IntKind.i64.wrap (p2target*(p1a.2.1.length:Int)))+s5.2)])).bind fun z6=>some z6) else (some s5.1):Option (List Int))) (fun s7=>some (.nxt (s7,IntKind.i64.wrap (s5.2+1))))) else (some (.brk (s5.1,s5.2)))
def pU (p0g:(List Int)×(List (Int×Int×Int×Int))) (p1a:Int×(List Bool)×(List (List Int))) (p2target:Int):Option (List Int):=
 az (ai (kN p0g p1a p2target) aB (([] :List Int),0)) (fun r=>some r) (fun s6=>some s6.1)
def jn (p0g:(List Int)×(List (Int×Int×Int×Int))) (p1a:Int×(List Bool)×(List (List Int))) (p2target:Int):Option (List Int):=
 (eM (p0g.1,p0g.2) (p1a.1,p1a.2.1,p1a.2.2) ([p2target])).bind fun r1=>if r1 then ((dD (p0g.1,p0g.2) (p1a.1,p1a.2.1,p1a.2.2)).bind fun r2=>(qU r2).bind fun r3=>(pU (p0g.1,p0g.2) (p1a.1,p1a.2.1,p1a.2.2) p2target).bind fun r4=>(qT r3 r4).bind fun r5=>some r5) else (some ([]))
def fI (p0g:(List Int)×(List (Int×Int×Int×Int))) (p1a:Int×(List Bool)×(List (List Int))) (p2x:Int) (p3y:Int):Option Int:=
 (eM (p0g.1,p0g.2) (p1a.1,p1a.2.1,p1a.2.2) ([p2x,p3y])).bind fun r1=>if r1 then ((jn (p0g.1,p0g.2) (p1a.1,p1a.2.1,p1a.2.2) p3y).bind fun r2=>(aw r2 (IntKind.i64.wrap ((IntKind.i64.wrap (p2x*(p1a.2.1.length:Int)))+p1a.1))).bind fun x1=>some x1) else (some (-1))
def ff (p0:(List Int)×(List (Int×Int×Int×Int))) (p2:List (Int×Int)) (p3:List (Int×(List (Int×Bool)))) (r2:(Int×(List Bool)×(List (List Int)))×Bool) (s3:Int):Option (Out Int Int):=
 if decide (s3<(p2.length:Int)) then ((aw p2 s3).bind fun x7=>(aw p3 s3).bind fun x8=>(lu (p0.1,p0.2) (r2.1.1,r2.1.2.1,r2.1.2.2) x7.1 x7.2 (x8.1,x8.2)).bind fun r15=>if r15 then ((aw p3 s3).bind fun x9=>(fI (p0.1,p0.2) (r2.1.1,r2.1.2.1,r2.1.2.2) x7.1 x7.2).bind fun r17=>if (x9.2.length:Int) !=r17 then (some (.ret 5)) else (some (.nxt (IntKind.i64.wrap (s3+1))))) else (some (.ret 4))) else (some (.brk s3))
def ix (p0:(List Int)×(List (Int×Int×Int×Int))) (p1:(List (Int×Int×Int×Int))) (p2:List (Int×Int)) (p3:List (Int×(List (Int×Bool)))):Option Int:=
 (iw (p0.1,p0.2) p1).bind fun r1=>(jg p1).bind fun r2=>if r1.2 then (if r2.2 then ((eU p2).bind fun r3=>if r3 then (if (p3.length:Int) !=(p2.length:Int) then (some 1) else ((eL r1.1 p2).bind fun r4=>if decide ((r4.length:Int)>0) then (some 2) else ((eL p2 r1.1).bind fun r5=>if decide ((r5.length:Int)>0) then (some 3) else (az (ai (ff p0 p2 p3 r2) aB 0) (fun r=>some r) (fun s4=>some 0))))) else (some 1)) else (some 1)) else (some 1)
def lz (p0a:List Int) (p1b:List Int) (s3:Int):Option (Out Bool Int):=
 if decide (s3<(p0a.length:Int)) then ((aw p0a s3).bind fun x5=>(aw p1b s3).bind fun x6=>if x5 !=x6 then (some (.ret false)) else (some (.nxt (IntKind.i64.wrap (s3+1))))) else (some (.brk s3))
def uj (p0a:List Int) (p1b:List Int):Option Bool:=
 if (p0a.length:Int) !=(p1b.length:Int) then (some false) else (az (ai (lz p0a p1b) aB 0) (fun r=>some r) (fun s4=>some true))
def qV (p0a:Int×Int×Int×Int) (p1b:Int×Int×Int×Int):Option Bool:=
 if p0a.1 !=p1b.1 then (some false) else (if p0a.2.1 !=p1b.2.1 then (some false) else (if p0a.2.2.1 !=p1b.2.2.1 then (some false) else (if p0a.2.2.2 !=p1b.2.2.2 then (some false) else (some true))))
def kz (p0a:List (Int×Int×Int×Int)) (p1b:List (Int×Int×Int×Int)) (s3:Int):Option (Out Bool Int):=
 if decide (s3<(p0a.length:Int)) then ((aw p0a s3).bind fun x5=>(aw p1b s3).bind fun x6=>(qV (x5.1,x5.2.1,x5.2.2.1,x5.2.2.2) (x6.1,x6.2.1,x6.2.2.1,x6.2.2.2)).bind fun r3=>if r3 then (some (.nxt (IntKind.i64.wrap (s3+1)))) else (some (.ret false))) else (some (.brk s3))
def rT (p0a:List (Int×Int×Int×Int)) (p1b:List (Int×Int×Int×Int)):Option Bool:=
 if (p0a.length:Int) !=(p1b.length:Int) then (some false) else (az (ai (kz p0a p1b) aB 0) (fun r=>some r) (fun s4=>some true))
def oP (p0a:(List Int)×(List (Int×Int×Int×Int))) (p1b:(List Int)×(List (Int×Int×Int×Int))):Option Bool:=
 (uj p0a.1 p1b.1).bind fun r1=>if r1 then ((rT p0a.2 p1b.2).bind fun r2=>if r2 then (some true) else (some false)) else (some false)
def qW (p0a:Int×Int) (p1b:Int×Int):Option Bool:=
 if p0a.1 !=p1b.1 then (some false) else (if p0a.2 !=p1b.2 then (some false) else (some true))
def kA (p0a:List (Int×Int)) (p1b:List (Int×Int)) (s3:Int):Option (Out Bool Int):=
 if decide (s3<(p0a.length:Int)) then ((aw p0a s3).bind fun x5=>(aw p1b s3).bind fun x6=>(qW (x5.1,x5.2) (x6.1,x6.2)).bind fun r3=>if r3 then (some (.nxt (IntKind.i64.wrap (s3+1)))) else (some (.ret false))) else (some (.brk s3))
def rU (p0a:List (Int×Int)) (p1b:List (Int×Int)):Option Bool:=
 if (p0a.length:Int) !=(p1b.length:Int) then (some false) else (az (ai (kA p0a p1b) aB 0) (fun r=>some r) (fun s4=>some true))
def qX (p0a:Int×Bool) (p1b:Int×Bool):Option Bool:=
 if p0a.1 !=p1b.1 then (some false) else (if p0a.2 !=p1b.2 then (some false) else (some true))
def kB (p0a:List (Int×Bool)) (p1b:List (Int×Bool)) (s3:Int):Option (Out Bool Int):=
 if decide (s3<(p0a.length:Int)) then ((aw p0a s3).bind fun x5=>(aw p1b s3).bind fun x6=>(qX (x5.1,x5.2) (x6.1,x6.2)).bind fun r3=>if r3 then (some (.nxt (IntKind.i64.wrap (s3+1)))) else (some (.ret false))) else (some (.brk s3))
def rV (p0a:List (Int×Bool)) (p1b:List (Int×Bool)):Option Bool:=
 if (p0a.length:Int) !=(p1b.length:Int) then (some false) else (az (ai (kB p0a p1b) aB 0) (fun r=>some r) (fun s4=>some true))
def qY (p0a:Int×(List (Int×Bool))) (p1b:Int×(List (Int×Bool))):Option Bool:=
 if p0a.1 !=p1b.1 then (some false) else ((rV p0a.2 p1b.2).bind fun r1=>if r1 then (some true) else (some false))
def kC (p0a:List (Int×(List (Int×Bool)))) (p1b:List (Int×(List (Int×Bool)))) (s3:Int):Option (Out Bool Int):=
 if decide (s3<(p0a.length:Int)) then ((aw p0a s3).bind fun x5=>(aw p1b s3).bind fun x6=>(qY (x5.1,x5.2) (x6.1,x6.2)).bind fun r9=>if r9 then (some (.nxt (IntKind.i64.wrap (s3+1)))) else (some (.ret false))) else (some (.brk s3))
def rW (p0a:List (Int×(List (Int×Bool)))) (p1b:List (Int×(List (Int×Bool)))):Option Bool:=
 if (p0a.length:Int) !=(p1b.length:Int) then (some false) else (az (ai (kC p0a p1b) aB 0) (fun r=>some r) (fun s4=>some true))
def dg (p0:(List Int)×(List (Int×Int×Int×Int))) (p1:(List (Int×Int×Int×Int))) (p2:List (Int×Int)) (p3:List (Int×(List (Int×Bool)))):Option Bool:=
 (oD (p0.1,p0.2) 1048576).bind fun r1=>if decide (r1<0) then (some true) else ((qH p1 r1).bind fun r2=>if decide (r2<0) then (some true) else ((rN p2 r2).bind fun r3=>if decide (r3<0) then (some true) else ((rP p3 r3).bind fun r4=>if decide (r4<0) then (some true) else ((jW (p0.1,p0.2)).bind fun r5=>(lG p1).bind fun r6=>(jX p2).bind fun r7=>(jY p3).bind fun r8=>(iu (r5.1,r5.2) r6 r7 r8).bind fun r9=>(jW (p0.1,p0.2)).bind fun r10=>(lG p1).bind fun r11=>(jX p2).bind fun r12=>(jY p3).bind fun r13=>(ix (r10.1,r10.2) r11 r12 r13).bind fun r14=>if r14 !=r9 then (some false) else ((jW (p0.1,p0.2)).bind fun r15=>(oP (r10.1,r10.2) (r15.1,r15.2)).bind fun r16=>if r16 then ((lG p1).bind fun r17=>(qI r11 r17).bind fun r18=>if r18 then ((jX p2).bind fun r19=>(rU r12 r19).bind fun r20=>if r20 then ((jY p3).bind fun r21=>(rW r13 r21).bind fun r22=>if r22 then (some true) else (some false)) else (some false)) else (some false)) else (some false))))))
end D
end Go.Proofs.YtcmpdlhbliolaaaGreat
