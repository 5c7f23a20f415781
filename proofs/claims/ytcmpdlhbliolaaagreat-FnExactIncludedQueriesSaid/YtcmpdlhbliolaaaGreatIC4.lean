/- FnExactIncludedQueries: for every input the law returns true and changes nothing that was there. Part 5 of 7. -/
import Derived.Test.YtcmpdlhbliolaaaGreatIC3
set_option linter.unusedVariables false
set_option linter.unusedSimpArgs false
set_option linter.unnecessarySimpa false
set_option linter.unusedSectionVars false
set_option maxRecDepth 1000000
namespace Go.Proofs.YtcmpdlhbliolaaaGreat
namespace R
open Go.RowKit
open D
def F5 (i:Nat):(p:PM)→p.den→AV
 | .rd t,d=>Ej i t d
 | .ow t,d=>EE (gy i [] t d)
 | .fn a b,d=>.one (.fn ⟨i,[]⟩ a b d)
 | .cap T t,d=>.one (.fz ⟨i,[]⟩ T t d 0)
 | .capf T a b,d=>.one (.fzf ⟨i,[]⟩ T a b d)
 | .ptr _ _,_=>.one (.ptr ⟨i,[]⟩ 0)
 | .eat t,d=>EE (gy i [] t d)
 | .fk g,_=>.one (.val (.func (.func g) #[] #[]))
def Cl (i:Nat):(p:PM)→p.den→List (Hdr×Chk)
 | .ow t,d=>gZ i [] t d
 | .ptr T t,d=>[(⟨i,[]⟩,.box T t d)]
 | .eat t,d=>gZ i [] t d
 | _,_=>[]
def Cm:(i:Nat)→(ps:List PM)→denP ps→List (Nat×Nat×AV)
 | _,[],_=>[]
 | i,p::ps,d=>(i,i,F5 i p d.1)::Cm (i+1) ps d.2
def zm:(i:Nat)→(ps:List PM)→denP ps→List Ent
 | _,[],_=>[]
 | i,p::ps,d=>(Cl i p d.1).map (fun g=>(g.1,i,g.2))++zm (i+1) ps d.2
def vW (ps:List PM) (d:denP ps):Sg:=⟨Cm 0 ps d,zm 0 ps d,ps.length⟩
def P8 (P:Program) (w0:World) (J:Hp) (θ:Th) (n i:Nat):(p:PM)→Value→p.den→Prop
 | .ow t,v,d=>(gy i [] t d).2.map (·.v θ)=fq t.isProd v∧ ∀x∈(gy i [] t d).2,x.ok P w0 J θ n
 | .ptr _ _,v,_=>hv θ ⟨i,[]⟩=v∧i<n
 | _,_,_=>True
def StF (P:Program) (w0:World) (J:Hp) (θ:Th) (n:Nat):(i:Nat)→(ps:List PM)→List Value→denP ps→Prop
 | i,p::ps,v::vs,d=>P8 P w0 J θ n i p v d.1∧StF P w0 J θ n (i+1) ps vs d.2
 | _,_,_,_=>True
section
variable {P:Program} {w0 w:World} {J:Hp} {θ:Th} {n:Nat} {C:List Ch}
theorem rz {id:Nat} {pre:List Nat} {t:Ty} {d:t.den} : ∀g∈gZ id pre t d,DV g.2:=eG t d 0
theorem F6 {p:PM} {i:Nat} {v:Value} {d:p.den} {ps:List PM} {vs:List Value} {e:denP ps} (hi:i<n) (hθ:θ i=v) (h:Ph P w0 J p v d) (hS:St J w0 w (owCh (p::ps) (v::vs) (d,e)++C)) :
  (∀chs,(F5 i p d).ok P w0 J θ n chs)∧(F5 i p d).v θ=v∧St J w0 w ((Cl i p d).map (fun g=>toCh P θ (g.1,i,g.2))++(owCh ps vs e++C))∧(∀g∈Cl i p d,DV g.2∧g.1.id=i)∧P8 P w0 J θ n i p v d:=by
 cases p with
 | rd t =>
  obtain ⟨cs,h1,h2⟩:=h
  have hav:=fun chs=>k9 (P:=P) (w0:=w0) (J:=J) (chs:=chs) hi hθ t d cs h2 h1
  exact ⟨fun chs=>(hav chs).1,(hav []).2,hS,fun g hg=>(by cases hg),trivial⟩
 | fn a b =>
  have hh:hv θ ⟨i,[]⟩=v:=hθ
  exact ⟨fun chs=>⟨hi,by rw[hh];exact h⟩,hh,hS,fun g hg=>(by cases hg),trivial⟩
 | cap T t =>
  obtain ⟨b,rfl,cells,h1,h2⟩:=h
  have hh:hv θ ⟨i,[]⟩= .pointer (some ⟨b,0,none⟩):=hθ
  refine ⟨fun chs=>⟨hi,cells,by rw[hh];exact h1,h2⟩,?_,hS,fun g hg=>(by cases hg),trivial⟩
  show Value.pointer (some ⟨bk (hv θ ⟨i,[]⟩),0,none⟩)=_
  rw[hh];rfl
 | capf T x y =>
  obtain ⟨b,rfl,u,h1,h2⟩:=h
  have hh:hv θ ⟨i,[]⟩= .pointer (some ⟨b,0,none⟩):=hθ
  refine ⟨fun chs=>⟨hi,u,by rw[hh];exact h1,h2⟩,?_,hS,fun g hg=>(by cases hg),trivial⟩
  show Value.pointer (some ⟨bk (hv θ ⟨i,[]⟩),0,none⟩)=_
  rw[hh];rfl
 | ptr T t =>
  obtain ⟨b,rfl⟩:=h
  have hh:hv θ ⟨i,[]⟩= .pointer (some ⟨b,0,none⟩):=hθ
  refine ⟨fun chs=>hi,?_,?_,fun g hg=>by obtain rfl:=List.mem_singleton.1 hg;exact ⟨trivial,rfl⟩,hh,hi⟩
  ·show Value.pointer (some ⟨bk (hv θ ⟨i,[]⟩),0,none⟩)=_
   rw[hh];rfl
  ·show St J w0 w (Ch.box (bk (hv θ ⟨i,[]⟩)) T t.rep d::_)
   rw[hh];exact hS
 | ow t =>
  have hS:St J w0 w (Ch.own t.rep (fq t.isProd v) d::(owCh ps vs e++C)):=hS
  obtain ⟨k1,k2,k3,k4,k5⟩:=pM (P:=P) (m:=i) (pre:=[]) (id:=i) (n:=n) hi (show hv θ ⟨i,[]⟩=v from hθ) h hS
  have q:=fun chs=>wR (P:=P) (w0:=w0) (J:=J) (θ:=θ) (n:=n) (chs:=chs) (gy i [] t d) (fun e=>mT e) k1
  exact ⟨fun chs=>(q chs).1,(q []).2.trans k3,k5,fun g hg=>⟨rz g hg,k4 g hg⟩,k2,k1⟩
 | eat t =>
  have hS:St J w0 w (Ch.own t.rep (fq t.isProd v) d::(owCh ps vs e++C)):=hS
  obtain ⟨k1,k2,k3,k4,k5⟩:=pM (P:=P) (m:=i) (pre:=[]) (id:=i) (n:=n) hi (show hv θ ⟨i,[]⟩=v from hθ) h hS
  have q:=fun chs=>wR (P:=P) (w0:=w0) (J:=J) (θ:=θ) (n:=n) (chs:=chs) (gy i [] t d) (fun e=>mT e) k1
  exact ⟨fun chs=>(q chs).1,(q []).2.trans k3,k5,fun g hg=>⟨rz g hg,k4 g hg⟩,trivial⟩
 | fk g =>
  obtain rfl:=h
  exact ⟨fun chs=>rfl,rfl,hS,fun g hg=>(by cases hg),trivial⟩
theorem Cn: ∀ {ps:List PM} {i:Nat} {vs:List Value} {d:denP ps} {C:List Ch},PArgs P w0 J ps vs d→(∀j v,vs[j]? =some v→θ (i+j)=v)→i+ps.length≤n→St J w0 w (owCh ps vs d++C)→
  (∀e∈Cm i ps d,(∀chs,e.2.2.ok P w0 J θ n chs)∧i≤e.1∧e.2.1=e.1∧e.1<i+ps.length∧vs[e.1 - i]? =some (e.2.2.v θ))∧((Cm i ps d).Pairwise fun a b=>a.2.1≠b.2.1)∧St J w0 w ((zm i ps d).map (toCh P θ)++C)∧(∀e∈zm i ps d,∀chs,okE P w0 J θ n chs e)∧StF P w0 J θ n i ps vs d
 | [],i,vs,d,C,h,_,_,hS=>by
  have h:vs= []:=h
  subst h
  exact ⟨fun e he=>(by cases he),List.Pairwise.nil,hS,fun e he=>(by cases he),trivial⟩
 | p::ps,i,vs,d,C,h,hθ,hn,hS=>by
  obtain ⟨v,r,rfl,h1,h3⟩:=h
  rw[List.length_cons] at hn
  obtain ⟨a1,a2,a3,a4,a5⟩:=F6 (n:=n) (i:=i) (θ:=θ) (e:=d.2) (show i<n by omega) (hθ 0 v rfl) h1 hS
  obtain ⟨k1,k2,k3,k4,k5⟩:=Cn (i:=i+1) h3 (fun j u hj=>by
   have:=hθ (j+1) u hj
   rwa [show i+(j+1)=i+1+j from by omega] at this) (by omega) (a3.perm (List.perm_append_comm_assoc _ _ _))
  refine ⟨fun e he=>?_,List.pairwise_cons.2 ⟨fun e he hh=>?_,k2⟩,?_,fun e he chs=>?_,a5,k5⟩
  ·rcases List.mem_cons.1 he with rfl | he
   ·exact ⟨a1,Nat.le_refl _,rfl,by rw[List.length_cons];show i<_;omega,by show (v::r)[i - i]? =_;rw[Nat.sub_self,a2];rfl⟩
   ·obtain ⟨q1,q2,q3,q4,q5⟩:=k1 e he
    refine ⟨q1,by omega,q3,by rw[List.length_cons];omega,?_⟩
    rw[show e.1 - i=(e.1 - (i+1))+1 from by omega];exact q5
  ·have:=k1 e he
   have hh:i=e.2.1:=hh
   omega
  ·show St J w0 w (((Cl i p d.1).map _++zm (i+1) ps d.2).map (toCh P θ)++C)
   rw[List.map_append,List.map_map]
   refine k3.perm ?_
   rw[List.append_assoc]
   exact List.perm_append_comm_assoc _ _ _
  ·rcases List.mem_append.1 he with he | he
   ·obtain ⟨g,hg,rfl⟩:=List.mem_map.1 he
    obtain ⟨g1,g2⟩:=a4 g hg
    exact te g1 (by omega) (by omega)
   ·exact k4 e he chs
theorem zn: ∀ {ps:List PM} {vs:List Value} {d:denP ps},PArgs P w0 J ps vs d→vs.length=ps.length
 | [],vs,d,h=>by
  have h:vs= []:=h
  subst h;rfl
 | p::ps,vs,d,h=>by
  obtain ⟨v,r,rfl,h1,h3⟩:=h
  simpa using zn h3
end
def Mw (tt:TT) (s:Sg):ResultVar→Option AV
 | .tmp t=>look s.env t
 | .cell p T=>(Nb (look s.env p)).bind fun h=>(td tt T).bind fun d=>(qD h s.chs).bind fun b=>bm (Nat.beq b.cells.length d.n) (Pf d.agg b.cells)
theorem Mx {v:Option AV} {h:Hdr} (k:Nb v=some h):v=some (.one (.ptr h 0)):=by
 unfold Nb at k
 split at k
 ·rename_i h' off
  split at k
  ·rename_i ho
   rw[Nat.eq_of_beq_eq_true ho,Option.some.inj k]
  ·cases k
 ·cases k
section
variable {P:Program} {I:Hp} {w0 w:World} {F:Ch} {J:Hp} {θ:Th} {n:Nat} {s:Sg} {a:Act} {tt:TT}
theorem My (ha:Agr n a (envL θ s)) {t g:Nat} {T E:TypeId} {v:Value} {cs:List Ch} (h:(envL θ s).lookup t=some (.pointer (some ⟨g,0,none⟩))) (hs:St J w0 w cs) (i:Nat) (hi:cs[i]? =some (Ch.blk g [v] E)) (hT:TI P T false 1):Aa P a w (.cell t T) v:=by
 refine ⟨_,ha.2.2 t _ h,?_⟩
 have hg:=hs.heap i hi
 have hc:w.cell? ⟨g,0,none⟩=some v:=by simp[World.cell?,hg]
 simp[loadVar,Sem.run_bind,hT.run_agg,load,Sem.run,hc,Result.andThen]
theorem I1 (hT:TTok P tt) (hS:Sim P I w0 F n J θ s a w) {r:ResultVar} {v:AV} (h:Mw tt s r=some v):Aa P a w r (v.v θ)∧v.ok P w0 J θ s.nxt s.chs:=by
 cases r with
 | tmp t=>exact ⟨K4 hS.agr (dU h),aS (x:=.tmp t) hS.fine h⟩
 | cell p T =>
  obtain ⟨hh,h1,h⟩:=bind_some (show (Nb (look s.env p)).bind _=some v from h)
  obtain ⟨d,hd,h⟩:=bind_some h
  obtain ⟨b,hb,h⟩:=bind_some h
  obtain ⟨hl,h⟩:=af h
  have hl:=Nat.eq_of_beq_eq_true hl
  have hp:=jq hb
  have hok:=hS.fine.chs _ (hp.mem_iff.2 (List.mem_cons_self ..))
  obtain ⟨k1,k2⟩:=Ey (chs:=s.chs) h hok.2.2
  refine ⟨?_,k1⟩
  have hlk:(envL θ s).lookup p=some (.pointer (some ⟨bk (hv θ hh),0,none⟩)):=dU (Mx h1)
  have hst:=hS.st.perm ((hp.map (toCh P θ)).append_right [F])
  have hti:=(hT.get hd).ti
  cases hagg:d.agg with
  | true =>
   rw[hagg] at k2 hti
   rw[←k2]
   exact Hj hS.agr hlk hst 0 rfl hti (by rw[List.length_map];exact hl)
  | false =>
   rw[hagg] at k2 hti h
   have h1':d.n=1:=by
    have:=(hT.get hd).one
    rw[hagg] at this
    simpa using this
   obtain ⟨x,hx⟩:=List.length_eq_one_iff.1 (hl.trans h1')
   rw[h1'] at hti
   rw[hx] at k2
   rw[←k2]
   have hst2:St J w0 w (Ch.blk (bk (hv θ hh)) [x.v θ] b.T::(b.rest.map (toCh P θ)++ [F])):=by
    have:(toCh P θ (b.ent hh))=Ch.blk (bk (hv θ hh)) (b.cells.map (·.v θ)) b.T:=rfl
    rw[hx] at this
    rw[←show toCh P θ (b.ent hh)=Ch.blk (bk (hv θ hh)) [x.v θ] b.T from this]
    exact hst
   exact My hS.agr hlk hst2 0 rfl hti
end
def AS:(ts:List Ty)→List AV→List Ent→Option (fp ts×List Ent×List Ent)
 | [],[],chs=>some ((),[],chs)
 | t::ts,v::vs,chs=>bm (pP v==t.isProd) ((fP v).bind fun cs=>(cf t cs chs).bind fun q=>bm q.cells.isEmpty ((AS ts vs q.rest).bind fun r=>some ((q.d,r.1),q.used++r.2.1,r.2.2)))
 | _,_,_=>none
def qQ:(ts:List Ty)→List Value→fp ts→List Ch
 | t::ts,v::vs,d=>Ch.own t.rep (fq t.isProd v) d.1::qQ ts vs d.2
 | _,_,_=>[]
theorem vX {P:Program} {w0:World} {J:Hp} {θ:Th} {n:Nat} {chs0:List Ent} : ∀ {ts:List Ty} {vs:List AV} {chs:List Ent} {r:fp ts×List Ent×List Ent},AS ts vs chs=some r→(∀v∈vs,v.ok P w0 J θ n chs0)→
  chs.Perm (r.2.1++r.2.2)∧vs.length=ts.length∧lS J (r.2.1.map (toCh P θ)) (qQ ts (vs.map (·.v θ)) r.1)∧ ∀(i:Nat) t v,ts[i]? =some t→vs[i]? =some v→k8 (v.v θ)=t.isProd
 | [],[],chs,r,h,_=>by
  obtain rfl:=Option.some.inj (show some _=some r from h)
  exact ⟨List.Perm.refl _,rfl,pF,fun i t v ht=>by simp at ht⟩
 | t::ts,v::vs,chs,r,h,hv'=>by
  obtain ⟨ha,h⟩:=af (show bm (pP v==t.isProd) _=some r from h)
  have ha:pP v=t.isProd:=by simpa using ha
  obtain ⟨cs,hcs,h⟩:=bind_some h
  obtain ⟨q,hq,h⟩:=bind_some h
  obtain ⟨he,h⟩:=af h
  obtain ⟨r',hr,h⟩:=bind_some h
  obtain rfl:=Option.some.inj h
  obtain ⟨c1,c2⟩:=eW hcs (hv' v (by simp))
  obtain ⟨p,cc,e1,e2⟩:=fQ (J:=J) (θ:=θ) hq c1
  rw[List.isEmpty_iff.1 he,List.append_nil] at e1
  subst e1
  obtain ⟨k1,k2,k3,k4⟩:=vX hr fun x hx=>hv' x (by simp[hx])
  have hcell:fq t.isProd (v.v θ)=cs.map (·.v θ)∧k8 (v.v θ)=t.isProd:=by
   rw[←ha]
   cases v with
   | agg xs =>
    obtain rfl:=Option.some.inj (show some xs=some cs from hcs)
    exact ⟨rfl,rfl⟩
   | one x =>
    obtain rfl:=Option.some.inj (show some [x] =some cs from hcs)
    refine ⟨rfl,?_⟩
    have h1:(x.v θ).oneCell'=true:=LV.one (show LV.ok P w0 J θ n x from hv' (.one x) (by simp))
    show k8 (x.v θ)=false
    generalize x.v θ=u at h1
    cases u <;> first | rfl | cases h1
   | _=>cases hcs
  refine ⟨by rw[List.append_assoc];exact p.trans (k1.append_left _),by rw[List.length_cons,List.length_cons,k2],?_,fun i t' v' ht hv0=>?_⟩
  ·show lS J ((q.used++r'.2.1).map _) (Ch.own t.rep (fq t.isProd (v.v θ)) q.d::qQ ts (vs.map _) r'.1)
   rw[List.map_append,hcell.1]
   exact mR e2 k3
  ·cases i with
   | zero =>
    obtain rfl:t=t':=by simpa using ht
    obtain rfl:v=v':=by simpa using hv0
    exact hcell.2
   | succ i=>exact k4 i t' v' (by simpa using ht) (by simpa using hv0)
 | [],_::_,chs,r,h,_=>by cases h
 | _::_,[],chs,r,h,_=>by cases h
def O2:List Value→Value
 | [v] =>v
 | vs=>.tuple vs.toArray
def Co (P:Program) (a:Act) (w:World):List ResultVar→List Value→Prop
 | [],vs=>vs= []
 | r::rs,vs=> ∃v us,vs=v::us∧Aa P a w r v∧Co P a w rs us
theorem rA {P:Program} {a:Act} {w:World} {f:ResultVar→Sem Value} (hf: ∀r v,Aa P a w r v→(f r).run P w= .ok v w): ∀ {l:List ResultVar} {vs:List Value},Co P a w l vs→(l.mapM f).run P w= .ok vs w
 | [],vs,h=>by
  have h:vs= []:=h
  subst h
  rw[List.mapM_nil];rfl
 | r::l,vs,h=>by
  obtain ⟨v,us,rfl,h1,h2⟩:=h
  rw[List.mapM_cons,Sem.run_bind,hf r v h1]
  simp only[Result.andThen_ok,Sem.run_bind,rA hf h2]
  rfl
def O3 (a:Act) (r:ResultVar):Sem Value:=match r with
 | .tmp t=>pure (a.tmps.getD t undef)
 | .cell p t=>do loadVar t (←asAddr (a.tmps.getD p undef))
theorem Mz {P:Program} {a:Act} {w:World} {r:ResultVar} {v:Value} (h:Aa P a w r v):(O3 a r).run P w= .ok v w:=by
 cases r with
 | tmp t =>
  have h:a.tmps.getD t undef=v:=h
  show (pure (a.tmps.getD t undef):Sem Value).run P w=_
  rw[h];rfl
 | cell p T =>
  obtain ⟨A,h1,h2⟩:=h
  show ((asAddr (a.tmps.getD p undef)) >>=fun x=>loadVar T x).run P w=_
  rw[h1,Sem.run_bind]
  show Result.andThen (.ok A w) _=_
  rw[Result.andThen_ok];exact h2
theorem Py {P:Program} {n:Nat} {a:Act} {w:World} {L:List (Nat×Value)} {fn:Func} {R:Ending→World→Prop} {vs:List Value} (ha:Agr n a L) (h:Co P a w fn.results.toList vs) (hR:R (.returned (O2 vs)) w):bodyPost P fn R .ret a w:=by
 refine ⟨ha.1,O2 vs,?_,hR⟩
 have hr:((fn.results.mapM (O3 a)):Sem (Array Value)).run P w= .ok vs.toArray w:=by
  rw[Array.mapM_eq_mapM_toList]
  have:=rA (f:=O3 a) (fun r v=>Mz) h
  simp[this,Sem.run_map]
 show ((fn.results.mapM (O3 a)) >>=fun vs=>pure (if h:vs.size=1 then vs[0] else .tuple vs):Sem Value).run P w=_
 rw[Sem.run_bind,hr,Result.andThen_ok]
 match vs with
 | [] =>rfl
 | [v] =>rfl
 | _::_::_=>rfl
def c9:(i:Nat)→(ps:List PM)→denP ps→List Ent→Option (fp (outs ps)×List Ent×List Ent)
 | _,[],_,chs=>some ((),[],chs)
 | i,.ow t::ps,d,chs=>(cf t (gy i [] t d.1).2 chs).bind fun q=>bm q.cells.isEmpty ((c9 (i+1) ps d.2 q.rest).bind fun r=>some ((q.d,r.1),q.used++r.2.1,r.2.2))
 | i,.ptr T t::ps,d,chs=>(tc ⟨i,[]⟩ T t chs).bind fun q=>(c9 (i+1) ps d.2 q.2.2).bind fun r=>some ((q.1,r.1),q.2.1++r.2.1,r.2.2)
 | i,.rd _::ps,d,chs=>c9 (i+1) ps d.2 chs
 | i,.fn _ _::ps,d,chs=>c9 (i+1) ps d.2 chs
 | i,.eat _::ps,d,chs=>c9 (i+1) ps d.2 chs
 | i,.cap _ _::ps,d,chs=>c9 (i+1) ps d.2 chs
 | i,.capf _ _ _::ps,d,chs=>c9 (i+1) ps d.2 chs
 | i,.fk _::ps,d,chs=>c9 (i+1) ps d.2 chs
theorem dD {P:Program} {w0:World} {J J':Hp} {θ θ':Th} {n n':Nat} {chs0:List Ent} (hJ:J.le J') (hs:Same n θ θ'): ∀ {ps:List PM} {i:Nat} {d:denP ps} {chs:List Ent} {vs:List Value} {r:fp (outs ps)×List Ent×List Ent},c9 i ps d chs=some r→vs.length=ps.length→StF P w0 J θ n i ps vs d→(∀e∈chs,okE P w0 J' θ' n' chs0 e)→
  chs.Perm (r.2.1++r.2.2)∧lS J' (r.2.1.map (toCh P θ')) (outCh ps vs r.1)
 | [],i,d,chs,vs,r,h,_,_,_=>by
  obtain rfl:=Option.some.inj (show some _=some r from h)
  exact ⟨List.Perm.refl _,pF⟩
 | p::ps,i,d,chs,[],r,h,hl,_,_=>by cases hl
 | .ow t::ps,i,d,chs,v::vs,r,h,hl,hF,hc=>by
  obtain ⟨q,hq,h⟩:=bind_some (show (cf t (gy i [] t d.1).2 chs).bind _=some r from h)
  obtain ⟨he,h⟩:=af h
  obtain ⟨r',hr,h⟩:=bind_some h
  obtain rfl:=Option.some.inj h
  obtain ⟨⟨k1,k2⟩,k3⟩:=hF
  obtain ⟨p,cc,e1,e2⟩:=fQ (P:=P) (w0:=w0) (J:=J') (θ:=θ') (n:=n) hq fun x hx=>LV.ok_same hs (Nat.le_refl _) (k2 x hx) hJ
  rw[List.isEmpty_iff.1 he,List.append_nil] at e1
  subst e1
  rw[eb hs k2,k1] at e2
  obtain ⟨q1,q2⟩:=dD hJ hs hr (by simpa using hl) k3 fun e he=>hc e (p.mem_iff.2 (by simp[he]))
  refine ⟨by rw[List.append_assoc];exact p.trans (q1.append_left _),?_⟩
  show lS J' ((q.used++r'.2.1).map _) (Ch.own t.rep (fq t.isProd v) q.d::outCh ps vs r'.1)
  rw[List.map_append]
  exact mR e2 q2
 | .ptr T t::ps,i,d,chs,v::vs,r,h,hl,hF,hc=>by
  obtain ⟨q,hq,h⟩:=bind_some (show (tc ⟨i,[]⟩ T t chs).bind _=some r from h)
  obtain ⟨r',hr,h⟩:=bind_some h
  obtain rfl:=Option.some.inj h
  obtain ⟨⟨k1,k2⟩,k3⟩:=hF
  obtain ⟨p,hb⟩:=vG (P:=P) (w0:=w0) (J:=J') (J':=J') (θ:=θ') hq Hp.le.rfl hc
  obtain ⟨q1,q2⟩:=dD hJ hs hr (by simpa using hl) k3 fun e he=>hc e (p.mem_iff.2 (by simp[he]))
  refine ⟨by rw[List.append_assoc];exact p.trans (q1.append_left _),?_⟩
  show lS J' ((q.2.1++r'.2.1).map _) (Ch.box (bk v) T t.rep q.1::outCh ps vs r'.1)
  rw[List.map_append]
  have hh:hv θ' ⟨i,[]⟩=v:=(aG hs (show (⟨i,[]⟩:Hdr).id<n from k2)).trans k1
  rw[hh] at hb
  intro w F hsp
  obtain ⟨G,K,rfl,h1,h2⟩:=hsp.split
  exact ⟨G,K,rfl,hb w G h1,q2 w K h2⟩
 | .rd t::ps,i,d,chs,v::vs,r,h,hl,hF,hc=>dD (ps:=ps) hJ hs (show c9 (i+1) ps d.2 chs=some r from h) (by simpa using hl) hF.2 hc
 | .fn _ _::ps,i,d,chs,v::vs,r,h,hl,hF,hc=>dD (ps:=ps) hJ hs (show c9 (i+1) ps d.2 chs=some r from h) (by simpa using hl) hF.2 hc
 | .eat _::ps,i,d,chs,v::vs,r,h,hl,hF,hc=>dD (ps:=ps) hJ hs (show c9 (i+1) ps d.2 chs=some r from h) (by simpa using hl) hF.2 hc
 | .cap _ _::ps,i,d,chs,v::vs,r,h,hl,hF,hc=>dD (ps:=ps) hJ hs (show c9 (i+1) ps d.2 chs=some r from h) (by simpa using hl) hF.2 hc
 | .capf _ _ _::ps,i,d,chs,v::vs,r,h,hl,hF,hc=>dD (ps:=ps) hJ hs (show c9 (i+1) ps d.2 chs=some r from h) (by simpa using hl) hF.2 hc
 | .fk _::ps,i,d,chs,v::vs,r,h,hl,hF,hc=>dD (ps:=ps) hJ hs (show c9 (i+1) ps d.2 chs=some r from h) (by simpa using hl) hF.2 hc
def ofH:(ts:List Ty)→fp ts→dens ts
 | [],_=>()
 | [_],d=>d.1
 | _::u::ts,d=>(d.1,ofH (u::ts) d.2)
theorem AT: ∀(ts:List Ty) (d:fp ts),toH ts (ofH ts d)=d
 | [],_=>rfl
 | [_],_=>rfl
 | _::u::ts,d=>congrArg (Prod.mk d.1) (AT (u::ts) d.2)
def F7:(ts us:List Ty)→fp ts→fp us→fp (ts++us)
 | [],_,_,e=>e
 | _::ts,us,d,e=>(d.1,F7 ts us d.2 e)
theorem xi: ∀(ts us:List Ty) (d:fp ts) (e:fp us),hFst ts us (F7 ts us d e)=d
 | [],_,_,_=>rfl
 | _::ts,us,d,e=>congrArg (Prod.mk d.1) (xi ts us d.2 e)
theorem Cp: ∀(ts us:List Ty) (d:fp ts) (e:fp us),hSnd ts us (F7 ts us d e)=e
 | [],_,_,_=>rfl
 | _::ts,us,d,e=>Cp ts us d.2 e
def vY (tt:TT) (s:Sg):List ResultVar→Option (List AV)
 | [] =>some []
 | r::rs=>(Mw tt s r).bind fun v=>(vY tt s rs).bind fun vs=>some (v::vs)
def AU (s:Sg):List AV→List Hdr
 | [] =>[]
 | v::vs=>tp v++AU s vs
def sy:List Ent→List Hdr
 | [] =>[]
 | e::l=>match e.2.2 with
  | .hole _ _ _ _ _ _ _ _ _ _=>e.1::sy l
  | _=>sy l
def N9:List AV→List (Bool×Hdr)
 | [] =>[]
 | v::vs=>P6 true v++N9 vs
def zo (tr:Trs) (vs:List AV) (s:Sg):Sg:=match tr with
 | [] =>s
 | _=>H7 tr (N9 vs) s
def I2 (tr:Trs) (vs:List AV) (s0:Sg):Sg:=match zo tr vs s0 with
 | s=>pU (AU s0 vs++sy s.chs) s
def nlN:List AV→(ts:List Ty)→fp ts→Int
 | [.one (.own _)],[.sl _ t],d=>((List.length (α:=t.den) d.1:Nat):Int)
 | [.one (.val v)],[.sl _ _],_=>match isNil v with
  | true=>1
  | false=>0
 | _,_,_=>0
def Oa (an:List (Nat×Ty)) (vs:List AV) (ts:List Ty) (d:fp ts):Option Unit:=match vR 1000000 an with
 | true=>chk (0<nlN vs ts d)
 | false=>some ()
theorem Ob {vs:List AV} {ts:List Ty} {d:fp ts} {θ:Th} (h:0<nlN vs ts d) {v:Value} (hv:vs.map (·.v θ)= [v]):rp ts d v:=by
 unfold nlN at h
 split at h
 ·intro h0
  omega
 ·split at h
  ·rename_i h1
   intro _
   have:=jr h1
   subst this
   simpa [AV.v,LV.v] using hv.symm
  ·omega
 ·omega
def I3 (V:Env) (rvs:List ResultVar) (rs:List Ty) (ps:List PM) (d:denP ps) (s00:Sg):Option (dens (rs++outs ps)):=(vY V.tt s00 rvs).bind fun vs00=>Ig vs00 s00 fun s0=>(vY V.tt s0 rvs).bind fun vs0=>match I2 V.tr vs0 s0 with
 | s=>(vY V.tt s rvs).bind fun vs=>(AS rs vs s.chs).bind fun r=>(c9 0 ps d r.2.2).bind fun o=>(Oa V.an vs rs r.1).bind fun _=>some (ofH _ (F7 rs (outs ps) r.1 o.1))
end R
namespace R
open Go.RowKit
open D
theorem vZ {vs:List Value} : ∀ {ts:List Ty} {i:Nat} {us:List Value} {d:fp ts},us.length=ts.length→(∀j v,us[j]? =some v→vs[i+j]? =some v)→pH i ts d (.tuple vs.toArray)=qQ ts us d
 | [],i,us,d,h,_=>by
  cases us with
  | nil=>rfl
  | cons _ _=>cases h
 | t::ts,i,[],d,h,_=>by cases h
 | t::ts,i,u::us,d,h,k=>by
  have h0:vg (.tuple vs.toArray) [i] =u:=by
   show vs.toArray.getD i undef=u
   have:=k 0 u rfl
   rw[Nat.add_zero] at this
   simp[Array.getD_eq_getD_getElem?,this]
  show Ch.own t.rep (fq t.isProd (vg (.tuple vs.toArray) [i])) d.1::pH (i+1) ts d.2 _=Ch.own t.rep (fq t.isProd u) d.1::qQ ts us d.2
  rw[h0,vZ (us:=us) (by simpa using h) fun j v hj=>by
   have:=k (j+1) v (by simpa using hj)
   rwa [show i+(j+1)=i+1+j from by omega] at this]
theorem Do {ts:List Ty} {vs:List Value} {d:fp ts} (h:vs.length=ts.length):resGv ts d (O2 vs)=qQ ts vs d:=by
 match ts,vs,d,h with
 | [],[],d,_=>rfl
 | [t],[v],d,_=>rfl
 | t::u::ts,v::w::vs,d,h =>
  show pH 0 _ d (.tuple (v::w::vs).toArray)=_
  exact vZ h fun j x hj=>by rw[Nat.zero_add];exact hj
theorem I4 {ts:List Ty} {vs:List Value} (h:vs.length=ts.length) (k: ∀(i:Nat) t v,ts[i]? =some t→vs[i]? =some v→k8 v=t.isProd):resFa ts (O2 vs):=by
 match ts,vs,h with
 | [],[],_=>exact ⟨#[],rfl,rfl,fun i t ht=>by simp at ht⟩
 | [t],[v],_=>exact k 0 t v rfl rfl
 | t::u::ts,v::w::vs,h =>
  refine ⟨(v::w::vs).toArray,rfl,by simpa using h,fun i t' ht=>?_⟩
  have hlt:i<(v::w::vs).length:=by rw[h];exact (List.getElem?_eq_some_iff.1 ht).1
  have:=k i t' ((v::w::vs)[i]) ht (List.getElem?_eq_getElem hlt)
  rw[←this,Array.getD_eq_getD_getElem?,List.getElem?_toArray,List.getElem?_eq_getElem hlt];rfl
theorem tH {P:Program} {I:Hp} {w0 w:World} {F:Ch} {J:Hp} {θ:Th} {n:Nat} {s:Sg} {a:Act} {tt:TT} (hT:TTok P tt) (hS:Sim P I w0 F n J θ s a w): ∀ {rs:List ResultVar} {vs:List AV},vY tt s rs=some vs→Co P a w rs (vs.map (·.v θ))∧ ∀v∈vs,v.ok P w0 J θ s.nxt s.chs
 | [],vs,h=>by
  obtain rfl:=Option.some.inj (show some [] =some vs from h)
  exact ⟨rfl,fun v hv=>by cases hv⟩
 | r::rs,vs,h=>by
  obtain ⟨v,hv',h⟩:=bind_some (show (Mw tt s r).bind _=some vs from h)
  obtain ⟨us,hus,h⟩:=bind_some h
  obtain rfl:=Option.some.inj h
  obtain ⟨k1,k2⟩:=I1 hT hS hv'
  obtain ⟨q1,q2⟩:=tH hT hS hus
  refine ⟨⟨_,_,rfl,k1,q1⟩,fun x hx=>?_⟩
  rcases List.mem_cons.1 hx with rfl | hx
  ·exact k2
  ·exact q2 x hx
theorem F8 {J:Hp} {a b c d:List Ch} (h:lS J a b) (k:lS J c d):lS J (a++c) (b++d):=fun w F hs=>by
 obtain ⟨G,K,rfl,e1,e2⟩:=hs.split
 exact (h w G e1).append (k w K e2)
theorem St.sepTo {J:Hp} {w0 w:World} {a b C:List Ch} (h:St J w0 w (a++C)) (k:lS J a b):St J w0 w (b++C):=by
 obtain ⟨h1,h2,F,h3,h4,h5⟩:=h
 obtain ⟨G,K,rfl,e1,e2⟩:=h3.split
 exact ⟨h1,h2,G++K,(k w G e1).append e2,h4,h5⟩
theorem v3 {P:Program} {n:Nat} {I:Hp} {w0:World} {k:FuncId} {fn:Func} {c:Code} {args:Array Value} {rn:List Ch} {fact:Value→Prop} {gv:Value→List Ch} (L:List (Nat×Value)) (hf:P.funcs[k]? =some fn) (hb:fn.body=some c) (hn:fn.ntmps=n) (hm:args.size≤n) (hL: ∀p∈L,args[p.1]? =some p.2)
  (h: ∀F w a,Agr n a L→St I w0 w (rn++ [F])→c.wp P (bodyPost P fn fun e w'=> ∃v,e= .returned v∧fact v∧ ∃J,I.le J∧St J w0 w' (gv v++ [F])) a w) (hd: ∀v,Ch.back (gv v)):Con P k args I w0 rn fact gv:=by
 intro w C hs
 have hs':St I w0 w (rn++ [Ch.fr I C]):=by
  obtain ⟨hb,hi,F,h1,h2,h3⟩:=hs
  obtain ⟨G,K,rfl,e1,e2⟩:=h1.split
  exact ⟨hb,hi,G++K,e1.append ⟨K,[],by simp,e2,rfl⟩,h2,h3⟩
 have:=h (Ch.fr I C) w { tmps:=args++Array.replicate (fn.ntmps - args.size) undef,defers:=[] } (Agr.start L (by omega) hL) hs'
 refine (calls_of_wp hf hb this).mono ?_
 rintro e w' ⟨v,rfl,hv,J,hJ,hs⟩
 exact ⟨v,rfl,hv,hs.back hJ (hd v)⟩
theorem I5 {P:Program} {I:Hp} {w0 w:World} {F:Ch} {n:Nat} {J:Hp} {θ:Th} {s:Sg} {a:Act} {tr:Trs} {vs:List AV} (hS:Sim P I w0 F n J θ s a w): ∃J' θ',J.le J'∧Sim P I w0 F n J' θ' (I2 tr vs s) a w∧Fr s θ (I2 tr vs s) θ':=by
 have key: ∃J' θ',J.le J'∧Sim P I w0 F n J' θ' (zo tr vs s) a w∧Fr s θ (zo tr vs s) θ':=by
  unfold zo
  split
  ·exact ⟨J,θ,Hp.le.rfl,hS,Fr.rfl⟩
  ·exact oR hS
 obtain ⟨J',θ',h1,h2,h3⟩:=key
 obtain ⟨S2,F2⟩:=nL (V:=⟨[],[],[],n,[]⟩) (hs:=AU s vs++sy (zo tr vs s).chs) h2
 exact ⟨J',θ',h1,S2,h3.trans F2⟩
theorem Ks {V:Env} {P:Program} {w0:World} {F:Ch} {J:Hp} {θ:Th} (hT:TTok P V.tt) {fn:Func} {rs:List Ty} {ps:List PM} {d:denP ps} {vs:List Value} {s0:Sg} (k0:vs.length=ps.length) (k5:StF P w0 J θ ps.length 0 ps vs d) (hn0:ps.length≤s0.nxt): ∀r J' θ' s' a' w',I3 V fn.results.toList rs ps d s'=some r→Sim P J w0 F V.n J' θ' s' a' w'→J.le J'→Fr s0 θ s' θ'→
  bodyPost P fn (fun e w'=> ∃v,e= .returned v∧(resFa rs v∧(vR 1000000 V.an=true→rp rs (hFst rs (outs ps) (toH _ r)) v))∧ ∃J2,J.le J2∧St J2 w0 w' ((resGv rs (hFst rs (outs ps) (toH _ r)) v++outCh ps vs (hSnd rs (outs ps) (toH _ r)))++ [F])) .ret a' w':=by
 intro r J' θ' s' a' w' hrt hS' hJ hFr
 obtain ⟨vs00,hv00,hrt⟩:=bind_some (show (vY V.tt s' fn.results.toList).bind _=some r from hrt)
 obtain ⟨s0',hrt,S0,N0⟩:=B5 hrt (tH hT hS' hv00).2 hS'
 obtain ⟨vs0,hv0,hrt⟩:=bind_some hrt
 obtain ⟨J1,θ1,hJ1,S1,F1⟩:=I5 (tr:=V.tr) (vs:=vs0) S0
 generalize I2 V.tr vs0 s0'=s1 at hrt S1 F1
 have hle:s0.nxt≤s'.nxt:=hFr.1
 have hsame:Same ps.length θ θ1:=fun i hi=>(F1.same i (by omega)).trans (hFr.same i (by omega))
 replace hJ:=hJ.trans hJ1
 clear hJ1 F1 hS' S0 hFr
 revert J1 θ1
 clear J' θ'
 intro J' θ' S1 hsame hJ
 obtain ⟨us,hus,hrt⟩:=bind_some hrt
 obtain ⟨q,hq,hrt⟩:=bind_some hrt
 obtain ⟨o,ho,hrt⟩:=bind_some hrt
 obtain ⟨u0,hnl,hrt⟩:=bind_some hrt
 obtain rfl:=Option.some.inj hrt
 obtain ⟨r1,r2⟩:=tH hT S1 hus
 obtain ⟨t1,t2,t3,t4⟩:=vX (J:=J') (θ:=θ') hq r2
 obtain ⟨o1,o2⟩:=dD (P:=P) (J:=J) (J':=J') (θ:=θ) (θ':=θ') (vs:=vs) (n:=ps.length) (n':=s1.nxt) (chs0:=s1.chs) hJ hsame ho k0 k5 fun e he=>S1.fine.chs e (t1.mem_iff.2 (by simp[he]))
 have hl:(us.map (·.v θ')).length=rs.length:=by rw[List.length_map];exact t2
 refine Py S1.agr r1 ⟨_,rfl,⟨I4 hl fun i t v ht hv1=>?_,fun han=>?_⟩,J',hJ,?_⟩
 ·rw[List.getElem?_map] at hv1
  obtain ⟨x,hx,rfl⟩:=Option.map_eq_some_iff.1 hv1
  exact t4 i t x ht hx
 ·rw[AT,xi]
  unfold Oa at hnl
  rw[han] at hnl
  have hnl:0<nlN us rs q.1:=be hnl
  rcases us with _ | ⟨x,us⟩
  ·cases hnl
  ·cases us with
   | nil=>exact Ob (θ:=θ') hnl rfl
   | cons y us=>unfold nlN at hnl;split at hnl <;> first | omega | simp_all
 ·rw[AT,xi,Cp,Do hl]
  have hp:=t1.trans (o1.append_left _)
  have h1:=S1.st.perm ((hp.map (toCh P θ')).append_right [F])
  have h2:St J' w0 w' ((q.2.1.map (toCh P θ')++o.2.1.map (toCh P θ'))++(o.2.2.map (toCh P θ')++ [F])):=by
   simpa [List.map_append,List.append_assoc] using h1
  have h3:=St.sepTo h2 (F8 t3 o2)
  refine St.left (ds:=o.2.2.map (toCh P θ')) (h3.perm ?_)
  simp only[List.append_assoc]
  exact List.Perm.append_left _ (List.Perm.append_left _ List.perm_append_comm)
theorem MA {V:Env} {P:Program} (hT:TTok P V.tt) (hF:FTok P V.ft) (hmx:P.follows .mixedOrders=true) {k:FuncId} {fn:Func} {c:Code} {f:FS} (hf:P.funcs[k]? =some fn) (hb:fn.body=some c) (hn:fn.ntmps=V.n) (hen:Enters P k) (hm:f.ps.length≤V.n) (hdp:(Av f.rs&&uT f.ps)=true) (ann:Ann)
  (hmod: ∀d,appP f.ps f.m d=gU V (I3 V fn.results.toList f.rs f.ps d) c ann (fun r=>some r) (fun _ _=>none) (I3 V fn.results.toList f.rs f.ps d) (mV (vW f.ps d))): ∀w0 J vs (d:denP f.ps) r,Lay P J→PArgs P w0 J f.ps vs d→appP f.ps f.m d=some r→Con P k vs.toArray J w0 (owCh f.ps vs d) (fun v=>resFa f.rs v∧(vR 1000000 V.an=true→rp f.rs (hFst f.rs (outs f.ps) (toH _ r)) v)) (fun v=>resGv f.rs (hFst f.rs (outs f.ps) (toH _ r)) v++outCh f.ps vs (hSnd f.rs (outs f.ps) (toH _ r))):=by
 rw[Bool.and_eq_true] at hdp
 intro w0 J vs d r hlay ha hr
 rw[hmod] at hr
 let θ:Th:=fun i=>vs.getD i undef
 have hθ: ∀j v,vs[j]? =some v→θ (0+j)=v:=fun j v hj=>by
  show vs.getD (0+j) undef=v
  rw[Nat.zero_add,List.getD_eq_getElem?_getD,hj];rfl
 have k0:=zn ha
 have hzip: ∀p∈(vs.zipIdx.map fun q=>(q.2,q.1)),vs.toArray[p.1]? =some p.2:=fun p hp=>by
  obtain ⟨q,hq,rfl⟩:=List.mem_map.1 hp
  obtain ⟨v,j⟩:=q
  have:=(List.mk_mem_zipIdx_iff_getElem? (x:=v) (i:=j)).1 hq
  simpa using this
 refine v3 (n:=V.n) (vs.zipIdx.map fun q=>(q.2,q.1)) hf hb hn (by rw[List.size_toArray,k0];exact hm) hzip (fun F w a hA hst=>?_) (fun v=>qJ (dk _ _ _ hdp.2) _ _ hdp.1)
 ·obtain ⟨k1,k2,k3,k4,k5⟩:=Cn (n:=f.ps.length) (C:=[F]) ha hθ (by omega) hst
  have hfine:Fine P w0 J θ (vW f.ps d):=⟨fun e he=>(k1 e he).1 _,fun e he=>by have:=k1 e he;show e.2.1<f.ps.length;omega,k2,fun e he=>k4 e he _,hlay⟩
  have hA':Agr V.n a (envL θ (vW f.ps d)):=hA.pick _ fun p hp=>by
   obtain ⟨e,he,rfl⟩:=List.mem_map.1 hp
   have h5:=(k1 e he).2.2.2.2
   rw[Nat.sub_zero] at h5
   have key: ∀(l:List Value) (k:Nat) (i:Nat) (v:Value),k≤i→l[i - k]? =some v→((l.zipIdx k).map fun q=>(q.2,q.1)).lookup i=some v:=by
    intro l
    induction l with
    | nil=>intro k i v _ h;simp at h
    | cons x l ih =>
     intro k i v hk h
     simp only[List.zipIdx_cons,List.map_cons,List.lookup_cons]
     by_cases e:i=k
     ·subst e
      simp at h
      simp[h]
     ·have:(i==k)=false:=by simpa using e
      rw[this]
      refine ih (k+1) i v (by omega) ?_
      rw[show i - k=(i - (k+1))+1 from by omega] at h
      simpa using h
   exact key vs 0 e.1 _ (Nat.zero_le _) h5
  have hS:Sim P J w0 F V.n J θ (vW f.ps d) a w:=⟨Hp.le.rfl,hA',k3,hfine⟩
  have fin:=Ks (rs:=f.rs) (fn:=fn) (F:=F) hT k0 k5 (Nat.le_refl (vW f.ps d).nxt)
  obtain ⟨θ0,hS0,hFr0⟩:=sq hS
  exact (tG (I:=J) (w0:=w0) (F:=F) hT hF hmx c).1 ann hr hS0 (fun J' θ' s' a' w' hk S' hJ hFr=>fin r J' θ' s' a' w' hk S' hJ (hFr0.trans hFr)) (fun i J' θ' s' a' w' hk=>by cases hk) (fun r' J' θ' s' a' w' hrt hrr hS' hJ hFr=>by
   obtain rfl:=Option.some.inj hrr
   exact fin _ J' θ' s' a' w' hrt hS' hJ (hFr0.trans hFr))
theorem fok {V:Env} {P:Program} (hT:TTok P V.tt) (hF:FTok P V.ft) (hmx:P.follows .mixedOrders=true) {k:FuncId} {fn:Func} {c:Code} {f:FS} (hf:P.funcs[k]? =some fn) (hb:fn.body=some c) (hn:fn.ntmps=V.n) (hen:Enters P k) (hcl:f.cl=none) (hm:f.ps.length≤V.n) (hdp:(Av f.rs&&uT f.ps)=true) (ann:Ann)
  (hmod: ∀d,appP f.ps f.m d=gU V (I3 V fn.results.toList f.rs f.ps d) c ann (fun r=>some r) (fun _ _=>none) (I3 V fn.results.toList f.rs f.ps d) (mV (vW f.ps d))):FOk P k f:=
 ⟨fun q hq=>by (rw[hcl] at hq;cases hq),fun _=>hen,fun w0 J vs d r hlay ha hr w C hs=>(MA hT hF hmx hf hb hn hen hm hdp ann hmod w0 J vs d r hlay ha hr w C hs).mono fun e w' ⟨v,h1,h2,h3⟩=>⟨v,h1,h2.1,h3⟩⟩
theorem Cq {V:Env} {P:Program} (hT:TTok P V.tt) (hF:FTok P V.ft) (hmx:P.follows .mixedOrders=true) {k:FuncId} {fn:Func} {c:Code} {E b:Nat} (hf:P.funcs[k]? =some fn) (hb:fn.body=some c) (hn:fn.ntmps=V.n) (hen:Enters P k) (hm:1≤V.n) (ann:Ann)
  (hmod: ∀(E':TypeId) (bn:Bool) (xs:List Raw),(match bn with | true=>some ([] :List Raw) | false=>(cP b [] xs).bind fun zs=>some zs)=gU V (I3 V fn.results.toList [.sl E .raw] [] ()) c ann (fun r=>some r) (fun _ _=>none) (I3 V fn.results.toList [.sl E .raw] [] ()) ⟨[(0,0,.one (.rdn ⟨0,[]⟩ bn (.sl E' .raw) xs))],[],1⟩):qG P k E b:=by
 refine ⟨hen,fun E' J w0 v xs zs hlay hrd F7=>?_⟩
 obtain ⟨bn,hbn⟩: ∃bn,vB v=bn:=⟨_,rfl⟩
 have hr:gU V (I3 V fn.results.toList [.sl E .raw] [] ()) c ann (fun r=>some r) (fun _ _=>none) (I3 V fn.results.toList [.sl E .raw] [] ()) ⟨[(0,0,.one (.rdn ⟨0,[]⟩ bn (.sl E' .raw) xs))],[],1⟩=some zs:=by
  rw[←hmod E' bn xs]
  cases bn with
  | false =>
   show (cP b [] xs).bind _=_
   rw[F7];rfl
  | true =>
   obtain ⟨h1,-⟩:=wY F7
   obtain ⟨ao,cap,e,-,hx⟩:=hrd
   obtain rfl:v= .slice ao xs.length cap:=by simpa using e
   rcases hx with rfl | ⟨b,off,ccs,t,fr,rfl,-⟩
   ·rw[h1];rfl
   ·cases hbn
 let θ:Th:=fun _=>v
 have key:Con P k #[v] J w0 [] (fun v=>resFa [.sl E .raw] v∧(vR 1000000 V.an=true→rp [.sl E .raw] (zs,()) v)) (fun v=>resGv [.sl E .raw] (zs,()) v++ []):=by
  refine v3 (n:=V.n) [(0,v)] hf hb hn hm (fun p hp=>by obtain rfl:=List.mem_singleton.1 hp;rfl) (fun F w a hA hst=>?_) (fun u=>qJ (D:=[]) trivial [.sl E .raw] (zs,()) rfl)
  have hfine:Fine P w0 J θ ⟨[(0,0,.one (.rdn ⟨0,[]⟩ bn (.sl E' .raw) xs))],[],1⟩:=⟨fun e he=>by obtain rfl:=List.mem_singleton.1 he;exact ⟨Nat.one_pos,hrd,hbn⟩,fun e he=>by obtain rfl:=List.mem_singleton.1 he;exact Nat.one_pos,List.pairwise_singleton _ _,fun e he=>(by cases he),hlay⟩
  have hS:Sim P J w0 F V.n J θ ⟨[(0,0,.one (.rdn ⟨0,[]⟩ bn (.sl E' .raw) xs))],[],1⟩ a w:=⟨Hp.le.rfl,hA,hst,hfine⟩
  have fin:=Ks (V:=V) (θ:=θ) (J:=J) (w0:=w0) (rs:=[.sl E .raw]) (ps:=[]) (d:=()) (vs:=[]) (s0:=⟨[(0,0,.one (.rdn ⟨0,[]⟩ bn (.sl E' .raw) xs))],[],1⟩) (fn:=fn) (F:=F) hT rfl trivial (Nat.zero_le _)
  exact (tG (I:=J) (w0:=w0) (F:=F) hT hF hmx c).1 ann hr hS (fun J' θ' s' a' w' hk S' hJ hFr=>fin _ J' θ' s' a' w' hk S' hJ hFr) (fun i J' θ' s' a' w' hk=>by cases hk) (fun r' J' θ' s' a' w' hrt hrr hS' hJ hFr=>by
   obtain rfl:=Option.some.inj hrr
   exact fin _ J' θ' s' a' w' hrt hS' hJ hFr)
 exact fun w C hs=>(key w C hs).mono fun e w' ⟨v,h1,h2,h3⟩=>⟨v,h1,trivial,h3⟩
theorem fE {P:Program} {k:FuncId} {f:FS} (h:Enters P k) (hc:f.cl=none) (hm: ∀d,appP f.ps f.m d=none):FOk P k f:=
 ⟨fun q hq=>by (rw[hc] at hq;cases hq),fun _=>h,fun _ _ _ d r _ _ hr=>by rw[hm d] at hr;cases hr⟩
theorem zp {P:Program} {k:FuncId} {f:FS} {E b:Nat} (h:FOk P k ⟨f.ps,f.rs,f.m,none⟩) (hc:qG P k E b) (hb:Nat.beq b 0=false:=by rfl) (h7:Nat.beq b 7=false:=by rfl) (h8:Nat.ble 1000 b=false:=by rfl):FOk P k ⟨f.ps,f.rs,f.m,some (E,b)⟩:=
 ⟨fun q hq=>by obtain rfl:=Option.some.inj hq;exact ⟨⟨fun e=>(by rw[hb] at e;cases e),fun _ _ _=>hc,fun e=>(by rw[h8] at e;cases e)⟩,fun e=>(by rw[h7] at e;cases e)⟩,fun _=>h.en rfl,h.con⟩
theorem MB {P:Program} {k:FuncId} {f:FS} {E b:Nat} (h:FOk P k ⟨f.ps,f.rs,f.m,none⟩) (hc:HH P k E (b - 1000)) (h8:Nat.ble 1000 b=true:=by rfl) (h0:Nat.beq b 0=false:=by rfl) (h7:Nat.beq b 7=false:=by rfl):FOk P k ⟨f.ps,f.rs,f.m,some (E,b)⟩:=
 ⟨fun q hq=>by obtain rfl:=Option.some.inj hq;exact ⟨⟨fun e=>(by rw[h0] at e;cases e),fun _ _ e=>(by rw[h8] at e;cases e),fun _=>hc⟩,fun e=>(by rw[h7] at e;cases e)⟩,fun _=>h.en rfl,h.con⟩
theorem Oc {P:Program} {k:FuncId} {T f:Nat} (he:Enters P k) (h: ∀(c d:List Value) (w:World),Calls P k #[.agg c.toArray,.agg d.toArray] w fun e w'=>e= .returned (.func (.func f) #[] #[.pointer (some ⟨w.heap.size,0,none⟩),.pointer (some ⟨w.heap.size+1,0,none⟩)])∧w'=(w.alloc (.cells c.toArray T)).alloc (.cells d.toArray T)):HH P k T f:=by
 refine ⟨he,fun I w0 c d w C hs=>(h c d w).mono ?_⟩
 rintro e w' ⟨rfl,rfl⟩
 refine ⟨_,rfl,⟨_,_,rfl⟩,?_⟩
 have h1:=(hs.alloc c T).alloc d T
 have hsz:(w.alloc (.cells c.toArray T)).heap.size=w.heap.size+1:=by simp
 rw[hsz] at h1
 exact St.emp.2 (h1.perm (List.Perm.swap _ _ _))
end R
namespace R
open Go.RowKit
open D
end R
namespace R
open Go.RowKit
open D
def FldAll (P:Program) (T:TypeId):Nat→List (Nat×Nat)→Prop
 | _,[] =>True
 | i,q::l=>TF P T i q.1 q.2∧FldAll P T (i+1) l
theorem FldAll.get {P:Program} {T:TypeId} : ∀ {l:List (Nat×Nat)} {i:Nat},FldAll P T i l→ ∀f q,l[f]? =some q→TF P T (i+f) q.1 q.2
 | [],_,_,f,q,h=>by simp at h
 | x::l,i,⟨h1,h2⟩,f,q,h=>by
  cases f with
  | zero=>simp at h;subst h;exact h1
  | succ f =>
   have:=FldAll.get h2 f q (by simpa using h)
   rwa [show i+1+f=i+(f+1) from by omega] at this
section
variable {P:Program} {T:TypeId}
theorem tI {n b:Nat} {ty:Ty} {z:Value} {boo:Bool} {ik:Option (Option IntKind)} (h1:TI P T false 1) (h2:ty.size=1) (h3:TZ P T z 1 b) (h4:z.cells=(zeroCells ty).toArray) (h5:1≤b) (h6:boo=true→P.underlying T=some .bool) (h7: ∀k,ik=some k→P.underlying T=some (ikD k)):TDok P T ⟨false,1,none,ty,[],some b,none,boo,none,none,ik,false,none⟩:=
 ⟨h1,rfl,h2,fun E h=>by simp at h,fun f q h=>by simp at h,fun b' h=>by obtain rfl:=Option.some.inj h;exact ⟨z,h3,h4,h5⟩,fun pl h=>by simp at h,h6,(fun ks h=>by cases h),(fun m h=>by cases h),h7,(fun h=>by cases h),fun e h=>by cases h⟩
theorem rW {E:TypeId} {t:Ty} (h1:TI P T false 1) (h2:P.underlying T=some (.slice E)) (h3:TZ P T (.slice none 0 0) 1 24):TDok P T ⟨false,1,some E,.sl E t,[],some 24,none,false,none,none,none,false,none⟩:=
 ⟨h1,rfl,rfl,fun E' h=>by obtain rfl:=Option.some.inj h;exact h2,fun f q h=>by simp at h,fun b' h=>by obtain rfl:=Option.some.inj h;exact ⟨_,h3,rfl,by decide⟩,fun pl h=>by simp at h,(fun h=>by cases h),(fun ks h=>by cases h),(fun m h=>by cases h),(fun k h=>by cases h),(fun h=>by cases h),fun e h=>by cases h⟩
theorem m8 {n b:Nat} {ty:Ty} {fs pl:List (Nat×Nat)} {z:Value} {eq:Option (List (Option IntKind))} (h1:TI P T true n) (h2:ty.size=n) (h3:FldAll P T 0 fs) (h4:TZ P T z n b) (h5:z.cells=(zeroCells ty).toArray) (h6:1≤b) (h7:TB P T pl) (h8: ∀ks,eq=some ks→ ∀w,Curq ks fun xs ys r=>EqT P T (.agg xs.toArray) (.agg ys.toArray) r w):TDok P T ⟨true,n,none,ty,fs,some b,some pl,false,eq,none,none,false,none⟩:=
 ⟨h1,rfl,h2,fun E h=>by simp at h,fun f q h=>by have:=h3.get f q h;rwa [Nat.zero_add] at this,fun b' h=>by obtain rfl:=Option.some.inj h;exact ⟨z,h4,h5,h6⟩,fun pl' h=>by obtain rfl:=Option.some.inj h;exact h7,(fun h=>by cases h),h8,(fun m h=>by cases h),(fun k h=>by cases h),(fun h=>by cases h),fun e h=>by cases h⟩
theorem tJ {ty:Ty} {b:Nat} (h1:TI P T false 1) (h2:ty.size=1) (h3:TZ P T .nilFunc 1 b):TDok P T ⟨false,1,none,ty,[],none,none,false,none,none,none,true,none⟩:=
 ⟨h1,rfl,h2,fun E h=>by simp at h,fun f q h=>by simp at h,(fun b' h=>by cases h),(fun pl h=>by cases h),(fun h=>by cases h),(fun ks h=>by cases h),(fun m' h=>by cases h),(fun k h=>by cases h),(fun _=>⟨b,h3⟩),fun e h=>by cases h⟩
theorem Od {m:MD} {ty:Ty} (h1:TI P T false 1) (h2:ty.size=1) (h3:MDok P T m):TDok P T ⟨false,1,none,ty,[],none,none,false,none,some m,none,false,none⟩:=
 ⟨h1,rfl,h2,fun E h=>by simp at h,fun f q h=>by simp at h,(fun b' h=>by cases h),(fun pl h=>by cases h),(fun h=>by cases h),(fun ks h=>by cases h),(fun m' h=>by obtain rfl:=Option.some.inj h;exact h3),(fun k h=>by cases h),(fun h=>by cases h),fun e h=>by cases h⟩
theorem Pz {e E:TypeId} {u:Ty} (h1:TI P T false 1) (h2:P.underlying T=some (.pointer e)) (h3:TZ P T (.pointer none) 1 8):TDok P T ⟨false,1,none,.fro (.tree e E u),[],some 8,none,false,none,none,none,false,some e⟩:=
 ⟨h1,rfl,rfl,fun E' h=>by simp at h,fun f q h=>by simp at h,fun b' h=>by obtain rfl:=Option.some.inj h;exact ⟨_,h3,rfl,by decide⟩,fun pl h=>by simp at h,(fun h=>by cases h),(fun ks h=>by cases h),(fun m h=>by cases h),(fun k h=>by cases h),(fun h=>by cases h),fun e' h=>by obtain rfl:=Option.some.inj h;exact h2⟩
end
end R
namespace D
open Go.RowKit
def oU (p0a:List Bool) (p1left:Int):Option Int:=
 if decide (IntKind.i64.wrap (p1left - (p0a.length:Int))<0) then (some (-1)) else (some (IntKind.i64.wrap (p1left - (p0a.length:Int))))
def qR (p0a:List Int) (p1left:Int):Option Int:=
 if decide (IntKind.i64.wrap (p1left - (p0a.length:Int))<0) then (some (-1)) else (some (IntKind.i64.wrap (p1left - (p0a.length:Int))))
def iw (p0a:List (List Int)) (s3:Int×Int):Option (Out Int (Int×Int)):=
 if decide (s3.2<(p0a.length:Int)) then ((aI p0a s3.2).bind fun x3=>(qR x3 s3.1).bind fun r6=>if decide (r6<0) then (some (.ret (-1))) else (some (.nxt (r6,IntKind.i64.wrap (s3.2+1))))) else (some (.brk (s3.1,s3.2)))
def oV (p0a:List (List Int)) (p1left:Int):Option Int:=
 if decide (IntKind.i64.wrap (p1left - (p0a.length:Int))<0) then (some (-1)) else (aE (ak (iw p0a) aN (IntKind.i64.wrap (p1left - (p0a.length:Int)),0)) (fun r=>some r) (fun s4=>some s4.1))
def gC (p0a:Int×(List Bool)×(List (List Int))) (p1left:Int):Option Int:=
 (oU p0a.2.1 p1left).bind fun r1=>if decide (r1<0) then (some (-1)) else ((oV p0a.2.2 r1).bind fun r2=>if decide (r2<0) then (some (-1)) else (some r2))
def dE (p0a:List (Int×(List Bool)×(List (List Int)))) (s3:Int×Int):Option (Out Int (Int×Int)):=
 if decide (s3.2<(p0a.length:Int)) then ((aI p0a s3.2).bind fun x3=>(gC (x3.1,x3.2.1,x3.2.2) s3.1).bind fun r9=>if decide (r9<0) then (some (.ret (-1))) else (some (.nxt (r9,IntKind.i64.wrap (s3.2+1))))) else (some (.brk (s3.1,s3.2)))
def jc (p0a:List (Int×(List Bool)×(List (List Int)))) (p1left:Int):Option Int:=
 if decide (IntKind.i64.wrap (p1left - (p0a.length:Int))<0) then (some (-1)) else (aE (ak (dE p0a) aN (IntKind.i64.wrap (p1left - (p0a.length:Int)),0)) (fun r=>some r) (fun s4=>some s4.1))
def m9 (p0a:List (Int×Int×Int×Int)) (p1left:Int):Option Int:=
 if decide (IntKind.i64.wrap (p1left - (p0a.length:Int))<0) then (some (-1)) else (some (IntKind.i64.wrap (p1left - (p0a.length:Int))))
def nR (p0a:(List (Int×Int×Int×Int))) (p1left:Int):Option Int:=
 (m9 p0a p1left).bind fun r1=>if decide (r1<0) then (some (-1)) else (some r1)
def fF (p0a:Int×((List (Int×Int×Int×Int)))×Int) (p1left:Int):Option Int:=
 (nR p0a.2.1 p1left).bind fun r1=>if decide (r1<0) then (some (-1)) else (some r1)
def da (p0a:List (Int×((List (Int×Int×Int×Int)))×Int)) (s3:Int×Int):Option (Out Int (Int×Int)):=
 if decide (s3.2<(p0a.length:Int)) then ((aI p0a s3.2).bind fun x3=>(fF (x3.1,x3.2.1,x3.2.2) s3.1).bind fun r6=>if decide (r6<0) then (some (.ret (-1))) else (some (.nxt (r6,IntKind.i64.wrap (s3.2+1))))) else (some (.brk (s3.1,s3.2)))
def hH (p0a:List (Int×((List (Int×Int×Int×Int)))×Int)) (p1left:Int):Option Int:=
 if decide (IntKind.i64.wrap (p1left - (p0a.length:Int))<0) then (some (-1)) else (aE (ak (da p0a) aN (IntKind.i64.wrap (p1left - (p0a.length:Int)),0)) (fun r=>some r) (fun s4=>some s4.1))
def ix (p0a:(List (Int×(List Bool)×(List (List Int))))×(List (Int×((List (Int×Int×Int×Int)))×Int))) (p1left:Int):Option Int:=
 (jc p0a.1 p1left).bind fun r1=>if decide (r1<0) then (some (-1)) else ((hH p0a.2 r1).bind fun r2=>if decide (r2<0) then (some (-1)) else (some r2))
def cQ (p0r:(List (Int×(List Bool)×(List (List Int))))×(List (Int×((List (Int×Int×Int×Int)))×Int))) (p1id:Int) (s3:Int):Option (Out Int Int):=
 if decide (s3<(p0r.2.length:Int)) then ((aI p0r.2 s3).bind fun x3=>if x3.1==p1id then (some (.ret s3)) else (some (.nxt (IntKind.i64.wrap (s3+1))))) else (some (.brk s3))
def jt (p0r:(List (Int×(List Bool)×(List (List Int))))×(List (Int×((List (Int×Int×Int×Int)))×Int))) (p1id:Int):Option Int:=
 aE (ak (cQ p0r p1id) aN 0) (fun r=>some r) (fun s4=>some (-1))
def ju (p0x:Int) (p1low:Int) (p2high:Int):Option Bool:=
 if decide (p0x≥p1low) then (some (decide (p0x≤p2high))) else (some false)
def kV (p0l:List Int) (p1x:Int) (s3:Int):Option (Out Int Int):=
 if decide (s3<(p0l.length:Int)) then ((aI p0l s3).bind fun x3=>if x3==p1x then (some (.ret s3)) else (some (.nxt (IntKind.i64.wrap (s3+1))))) else (some (.brk s3))
def jQ (p0l:List Int) (p1x:Int):Option Int:=
 aE (ak (kV p0l p1x) aN 0) (fun r=>some r) (fun s4=>some (-1))
def qS (s3:(List Int)×Int):Option (Out (Int×(List Bool)×(List (List Int))) ((List Int)×Int)):=
 if decide (s3.2<9) then ((cP 8 s3.1 ([-1])).bind fun z3=>some (.nxt (z3,IntKind.i64.wrap (s3.2+1)))) else (some (.brk (s3.1,s3.2)))
def kW:Option (Int×(List Bool)×(List (List Int))):=
 aE (ak (qS) aN (([] :List Int),0)) (fun r=>some r) (fun s4=>some (0,[false],[s4.1]))
def dV (p0:Int×(List Bool)×(List (List Int))) (p1:List Int) (p2:List Bool) (s17:(List Int)×(List Int)×Int×Int×(List Bool)×(List (List Int))) (s23:(List Int)×(List Int)×(List Int)×Int):Option (Out (Int×(List Bool)×(List (List Int))) ((List Int)×(List Int)×(List Int)×Int)):=
 if decide (s23.2.2.2<9) then ((aI s23.2.1 s17.2.2.1).bind fun x79=>(aI p0.2.2 x79).bind fun x80=>(aI x80 s23.2.2.2).bind fun x81=>Option.bind ((if decide (x81≥0) then ((aI p2 x81).bind fun x85=>if x85 then ((aI p1 x81).bind fun x86=>(jQ s23.1 x86).bind fun r28=>if decide (r28<0) then ((aI p1 x81).bind fun x87=>(cP 8 s23.1 ([x87])).bind fun z47=>(cP 8 s23.2.1 ([x81])).bind fun z48=>some (z47,z48,(s23.1.length:Int))) else (some (s23.1,s23.2.1,r28))) else (some (s23.1,s23.2.1,-1))) else (some (s23.1,s23.2.1,-1)):Option ((List Int)×(List Int)×Int))) (fun s25=>(cP 8 s23.2.2.1 ([s25.2.2])).bind fun z49=>some (.nxt (s25.1,s25.2.1,z49,IntKind.i64.wrap (s23.2.2.2+1))))) else (some (.brk (s23.1,s23.2.1,s23.2.2.1,s23.2.2.2)))
def fG (p0:Int×(List Bool)×(List (List Int))) (p1:List Int) (p2:List Bool) (s17:(List Int)×(List Int)×Int×Int×(List Bool)×(List (List Int))):Option (Out (Int×(List Bool)×(List (List Int))) ((List Int)×(List Int)×Int×Int×(List Bool)×(List (List Int)))):=
 if decide (s17.2.2.1<(s17.1.length:Int)) then (aE (ak (dV p0 p1 p2 s17) aN (s17.1,s17.2.1,([] :List Int),0)) (fun r=>some (.ret r)) (fun s24=>(aI s24.2.1 s17.2.2.1).bind fun x88=>(aI p0.2.1 x88).bind fun x89=>(cP 1 s17.2.2.2.2.1 ([x89])).bind fun z50=>(cP 24 s17.2.2.2.2.2 ([s24.2.2.1])).bind fun z51=>some (.nxt (s24.1,s24.2.1,IntKind.i64.wrap (s17.2.2.1+1),s17.2.2.2.1,z50,z51)))) else (some (.brk (s17.1,s17.2.1,s17.2.2.1,s17.2.2.2.1,s17.2.2.2.2.1,s17.2.2.2.2.2)))
def eZ (p0:Int×(List Bool)×(List (List Int))) (p1:List Int) (p2:List Bool):Option (Int×(List Bool)×(List (List Int))):=
 (aI p2 p0.1).bind fun x1=>if x1 then ((aI p1 p0.1).bind fun x2=>aE (ak (fG p0 p1 p2) aN ([x2],[p0.1],0,0,[],[])) (fun r=>some r) (fun s18=>some (s18.2.2.2.1,s18.2.2.2.2.1,s18.2.2.2.2.2))) else ((kW).bind fun r1=>some (r1.1,r1.2.1,r1.2.2))
def fv (p0a:Int×(List Bool)×(List (List Int))) (s71:(List Bool)×Int) (s77:(List Bool)×Int):Option (Out (List Bool) ((List Bool)×Int)):=
 if decide (s77.2<9) then (Option.bind (((aI p0a.2.2 s71.2).bind fun x319=>(aI x319 s77.2).bind fun x320=>if decide (x320≥0) then ((aI p0a.2.2 s71.2).bind fun x321=>(aI x321 s77.2).bind fun x322=>(aI s77.1 x322).bind fun x323=>if x323 then ((aI s77.1 s71.2).bind fun x324=>some (s77.1.set s71.2.toNat true)) else (some s77.1)) else (some s77.1):Option (List Bool))) (fun s79=>some (.nxt (s79,IntKind.i64.wrap (s77.2+1))))) else (some (.brk (s77.1,s77.2)))
def fw (p0a:Int×(List Bool)×(List (List Int))) (s71:(List Bool)×Int):Option (Out (List Bool) ((List Bool)×Int)):=
 if decide (s71.2<(p0a.2.1.length:Int)) then (aE (ak (fv p0a s71) aN (s71.1,0)) (fun r=>some (.ret r)) (fun s78=>some (.nxt (s78.1,IntKind.i64.wrap (s71.2+1))))) else (some (.brk (s71.1,s71.2)))
def iy (p0a:Int×(List Bool)×(List (List Int))) (s53:(List Bool)×Int):Option (Out (List Bool) ((List Bool)×Int)):=
 if decide (s53.2<(p0a.2.1.length:Int)) then (aE (ak (fw p0a) aN (s53.1,0)) (fun r=>some (.ret r)) (fun s72=>some (.nxt (s72.1,IntKind.i64.wrap (s53.2+1))))) else (some (.brk (s53.1,s53.2)))
def hO (p0a:Int×(List Bool)×(List (List Int))):Option (List Bool):=
 (cP 1 ([] :List Bool) p0a.2.1).bind fun z1=>aE (ak (iy p0a) aN (z1,0)) (fun r=>some r) (fun s54=>some s54.1)
def jv (p0a:Int×(List Bool)×(List (List Int))) (p1classes:List Int) (p2s:Int) (s5:(List Int)×Int):Option (Out (List Int) ((List Int)×Int)):=
 if decide (s5.2<9) then (Option.bind (((aI p0a.2.2 p2s).bind fun x17=>(aI x17 s5.2).bind fun x18=>if decide (x18<0) then ((cP 8 s5.1 ([-1])).bind fun z12=>some z12) else ((aI p1classes x18).bind fun x19=>(cP 8 s5.1 ([x19])).bind fun z11=>some z11):Option (List Int))) (fun s7=>some (.nxt (s7,IntKind.i64.wrap (s5.2+1))))) else (some (.brk (s5.1,s5.2)))
def lh (p0a:Int×(List Bool)×(List (List Int))) (p1classes:List Int) (p2s:Int):Option (List Int):=
 (aI p1classes p2s).bind fun x1=>aE (ak (jv p0a p1classes p2s) aN ([x1],0)) (fun r=>some r) (fun s6=>some s6.1)
def kC (p0a:List Int) (p1b:List Int) (s3:Int):Option (Out Int Int):=
 if decide (s3<(p0a.length:Int)) then (if decide (s3<(p1b.length:Int)) then ((aI p0a s3).bind fun x9=>(aI p1b s3).bind fun x10=>if decide (x9<x10) then (some (.ret (-1))) else ((aI p0a s3).bind fun x11=>(aI p1b s3).bind fun x12=>if decide (x11>x12) then (some (.ret 1)) else (some (.nxt (IntKind.i64.wrap (s3+1)))))) else (some (.brk s3))) else (some (.brk s3))
def lj (p0a:List Int) (p1b:List Int):Option Int:=
 aE (ak (kC p0a p1b) aN 0) (fun r=>some r) (fun s4=>if decide ((p0a.length:Int)<(p1b.length:Int)) then (some (-1)) else (if decide ((p0a.length:Int)>(p1b.length:Int)) then (some 1) else (some 0)))
def dn (p0:Int×(List Bool)×List (List Int)) (r0:List Bool) (s2:(List Int)×Int):Option (Out (List Int) ((List Int)×Int)):=
 if decide (s2.2<(p0.2.1.length:Int)) then ((aI p0.2.1 s2.2).bind fun x3=>Option.bind ((if x3 then (some 1) else (some 0):Option Int)) (fun s4=>(aI r0 s2.2).bind fun x5=>Option.bind ((if x5 then (some s4) else (some (-1)):Option Int)) (fun s6=>(cP 8 s2.1 ([s6])).bind fun z7=>some (.nxt (z7,IntKind.i64.wrap (s2.2+1)))))) else (some (.brk (s2.1,s2.2)))
def dq (s13:(List (List Int))×(List Int)×Int) (r16:List Int) (s18:Int×Int):Option (Out (List Int) (Int×Int)):=
 if decide (s18.2<(s13.1.length:Int)) then (Option.bind (((aI s13.1 s18.2).bind fun x19=>(lj x19 r16).bind fun r20=>if r20==0 then (some s18.2) else (some s18.1):Option Int)) (fun s21=>some (.nxt (s21,IntKind.i64.wrap (s18.2+1))))) else (some (.brk (s18.1,s18.2)))
def dt (p0:Int×(List Bool)×List (List Int)) (s11:(List Int)×Int) (s13:(List (List Int))×(List Int)×Int):Option (Out (List Int) ((List (List Int))×(List Int)×Int)):=
 if decide (s13.2.2<(p0.2.1.length:Int)) then (Option.bind (((aI s11.1 s13.2.2).bind fun x14=>if decide (x14<0) then ((cP 8 s13.2.1 ([(-1)])).bind fun z15=>some (s13.1,z15)) else ((lh (p0.1,p0.2.1,p0.2.2) s11.1 s13.2.2).bind fun r16=>aE (ak (dq s13 r16) aN ((-1),0)) (fun r22=>none) (fun s23=>Option.bind ((if decide (s23.1<0) then ((cP 24 s13.1 ([r16])).bind fun z24=>some (z24,(s13.1.length:Int))) else (some (s13.1,s23.1)):Option ((List (List Int))×Int))) (fun s25=>(cP 8 s13.2.1 ([s25.2])).bind fun z26=>some (s25.1,z26)))):Option ((List (List Int))×List Int))) (fun s27=>some (.nxt (s27.1,s27.2,IntKind.i64.wrap (s13.2.2+1))))) else (some (.brk (s13.1,s13.2.1,s13.2.2)))
def hY (p0:Int×(List Bool)×List (List Int)) (s11:(List Int)×Int):Option (Out (List Int) ((List Int)×Int)):=
 if decide (s11.2≤(p0.2.1.length:Int)) then (aE (ak (dt p0 s11) aN (([] :List (List Int)),([] :List Int),0)) (fun r28=>some (.ret r28)) (fun s29=>(lj s29.2.1 s11.1).bind fun r30=>if r30==0 then (some (.ret s11.1)) else (some (.nxt (s29.2.1,IntKind.i64.wrap (s11.2+1)))))) else (some (.brk (s11.1,s11.2)))
def fx (p0:Int×(List Bool)×List (List Int)):Option (List Int):=
 (hO (p0.1,p0.2.1,p0.2.2)).bind fun r0=>aE (ak (dn p0 r0) aN (([] :List Int),0)) (fun r8=>some r8) (fun s9=>aE (ak (hY p0) aN (s9.1,0)) (fun r31=>some r31) (fun s32=>some s32.1))
def gD (p0a:Int×(List Bool)×(List (List Int))):Option (Int×(List Bool)×(List (List Int))):=
 (fx (p0a.1,p0a.2.1,p0a.2.2)).bind fun r1=>(hO (p0a.1,p0a.2.1,p0a.2.2)).bind fun r2=>(eZ (p0a.1,p0a.2.1,p0a.2.2) r1 r2).bind fun r3=>some (r3.1,r3.2.1,r3.2.2)
def kD (p0n:Int):Option Bool:=
 (ju p0n 0 8).bind fun r1=>some r1
def jR (p0:Int×Int×Int×Int):Option Int:=
 Option.bind ((if p0.1==1 then (some (p0.1==1)) else (some (p0.1==2)):Option Bool)) (fun s1=>if s1 then (if p0.2.1 !=0 then (some (-1)) else (if p0.2.2.1 !=0 then (some (-1)) else (if p0.2.2.2 !=0 then (some (-1)) else (some 0)))) else (if p0.1==3 then ((kD p0.2.1).bind fun r3=>if r3 then (if p0.2.2.1 !=0 then (some (-1)) else (if p0.2.2.2 !=0 then (some (-1)) else (some 0))) else (some (-1))) else (Option.bind ((if p0.1==4 then (some (p0.1==4)) else (some (p0.1==5)):Option Bool)) (fun s2=>if s2 then (if p0.2.1 !=0 then (some (-1)) else (if p0.2.2.1 !=0 then (some (-1)) else (if p0.2.2.2 !=0 then (some (-1)) else (some 2)))) else (if p0.1==6 then (if p0.2.1 !=0 then (some (-1)) else (if p0.2.2.1 !=0 then (some (-1)) else (if p0.2.2.2 !=0 then (some (-1)) else (some 1)))) else (if p0.1==7 then (if p0.2.1 !=0 then (some (-1)) else ((ju p0.2.2.2 1 3).bind fun r1=>if r1 then ((ju p0.2.2.1 0 p0.2.2.2).bind fun r2=>if r2 then (some 1) else (some (-1))) else (some (-1)))) else (some (-1))))))))
def lZ (p0e:(List (Int×Int×Int×Int))) (s3:Int×Int):Option (Out Bool (Int×Int)):=
 if decide (s3.2<(p0e.length:Int)) then ((aI p0e s3.2).bind fun x3=>(jR (x3.1,x3.2.1,x3.2.2.1,x3.2.2.2)).bind fun r3=>if decide (r3<0) then (some (.ret false)) else (if decide (r3>s3.1) then (some (.ret false)) else (some (.nxt (IntKind.i64.wrap ((IntKind.i64.wrap (s3.1 - r3))+1),IntKind.i64.wrap (s3.2+1)))))) else (some (.brk (s3.1,s3.2)))
def nS (p0e:(List (Int×Int×Int×Int))):Option Bool:=
 aE (ak (lZ p0e) aN (0,0)) (fun r=>some r) (fun s4=>some (s4.1==1))
def gE (p0e:(List (Int×Int×Int×Int))):Option Bool:=
 if decide ((p0e.length:Int)≤24) then ((nS p0e).bind fun r1=>some r1) else (some false)
def iz (p0l:List (Int×Int×Int×Int)) (s3:Int×Int):Option (Out Int (Int×Int)):=
 if decide (s3.1>0) then ((aI p0l (IntKind.i64.wrap (s3.2 - 1))).bind fun x3=>(jR (x3.1,x3.2.1,x3.2.2.1,x3.2.2.2)).bind fun r3=>some (.nxt (IntKind.i64.wrap ((IntKind.i64.wrap (s3.1 - 1))+r3),IntKind.i64.wrap (s3.2 - 1)))) else (some (.brk (s3.1,s3.2)))
def eI (p0l:List (Int×Int×Int×Int)):Option Int:=
 aE (ak (iz p0l) aN (1,(p0l.length:Int))) (fun r=>some r) (fun s4=>some s4.2)
def cC:Nat→(List (Int×Int×Int×Int))→Option Int
 | 0,_=>none
 | n+1,p0l =>
  (aI p0l (IntKind.i64.wrap ((p0l.length:Int) - 1))).bind fun x0=>Option.bind ((if x0.1==4 then (some (x0.1==4)) else (some (x0.1==5)):Option Bool)) (fun s1=>if s1 then ((chk (And (0≤(IntKind.i64.wrap ((p0l.length:Int) - 1))) ((IntKind.i64.wrap ((p0l.length:Int) - 1))≤(p0l.length:Int)))).bind fun _=>(eI (p0l.take ((IntKind.i64.wrap ((p0l.length:Int) - 1)).toNat))).bind fun r3=>(chk (And (0≤r3) (r3≤(p0l.length:Int)))).bind fun _=>((cC n) (p0l.take r3.toNat)).bind fun r9=>(chk (And (0≤r3) (And (r3≤(IntKind.i64.wrap ((p0l.length:Int) - 1))) ((IntKind.i64.wrap ((p0l.length:Int) - 1))≤(p0l.length:Int))))).bind fun _=>((cC n) ((p0l.take ((IntKind.i64.wrap ((p0l.length:Int) - 1)).toNat)).drop r3.toNat)).bind fun r11=>some (Min.min 100000 (IntKind.i64.wrap ((IntKind.i64.wrap (r9+r11))+1)))) else (if x0.1==6 then ((chk (And (0≤(IntKind.i64.wrap ((p0l.length:Int) - 1))) ((IntKind.i64.wrap ((p0l.length:Int) - 1))≤(p0l.length:Int)))).bind fun _=>((cC n) (p0l.take ((IntKind.i64.wrap ((p0l.length:Int) - 1)).toNat))).bind fun r13=>some (Min.min 100000 (IntKind.i64.wrap (r13+1)))) else (if x0.1==7 then ((chk (And (0≤(IntKind.i64.wrap ((p0l.length:Int) - 1))) ((IntKind.i64.wrap ((p0l.length:Int) - 1))≤(p0l.length:Int)))).bind fun _=>((cC n) (p0l.take ((IntKind.i64.wrap ((p0l.length:Int) - 1)).toNat))).bind fun r17=>some (Min.min 100000 (IntKind.i64.wrap ((IntKind.i64.wrap ((IntKind.i64.wrap (r17+3))*x0.2.2.2))+1)))) else (some 1))))
def hZ (p0l:List (Int×Int×Int×Int)):Option (List (Int×Int×Int×Int)):=
 (cP 32 ([] :List (Int×Int×Int×Int)) p0l).bind fun z1=>some z1
def ic (p0a:(List (Int×Int×Int×Int))) (p1b:(List (Int×Int×Int×Int))) (p2t:Int×Int×Int×Int):Option (List (Int×Int×Int×Int)):=
 (hZ p0a).bind fun r1=>(cP 32 r1 p1b).bind fun z1=>(cP 32 z1 ([(p2t.1,p2t.2.1,p2t.2.2.1,p2t.2.2.2)])).bind fun z2=>some z2
def ln (p0kind:Int):Option (List (Int×Int×Int×Int)):=
 some ([(p0kind,0,0,0)])
def fW:Nat→(List (Int×Int×Int×Int))→Int→Int→Option (List (Int×Int×Int×Int))
 | 0,_,_,_=>none
 | n+1,p0e,p1low,p2high =>
  if p2high==0 then ((ln 2).bind fun r0=>some r0) else (((fW n) p0e (Max.max 0 (IntKind.i64.wrap (p1low - 1))) (IntKind.i64.wrap (p2high - 1))).bind fun r3=>(ic p0e r3 (4,0,0,0)).bind fun r4=>if decide (p1low>0) then (some r4) else ((ln 2).bind fun r7=>(ic r4 r7 (5,0,0,0)).bind fun r8=>some r8))
def bJ:Nat→(List (Int×Int×Int×Int))→Option (List (Int×Int×Int×Int))
 | 0,_=>none
 | n+1,p0l =>
  (aI p0l (IntKind.i64.wrap ((p0l.length:Int) - 1))).bind fun x0=>Option.bind ((if x0.1==4 then (some (x0.1==4)) else (some (x0.1==5)):Option Bool)) (fun s1=>if s1 then ((chk (And (0≤(IntKind.i64.wrap ((p0l.length:Int) - 1))) ((IntKind.i64.wrap ((p0l.length:Int) - 1))≤(p0l.length:Int)))).bind fun _=>(eI (p0l.take ((IntKind.i64.wrap ((p0l.length:Int) - 1)).toNat))).bind fun r3=>(chk (And (0≤r3) (r3≤(p0l.length:Int)))).bind fun _=>((bJ n) (p0l.take r3.toNat)).bind fun r10=>(chk (And (0≤r3) (And (r3≤(IntKind.i64.wrap ((p0l.length:Int) - 1))) ((IntKind.i64.wrap ((p0l.length:Int) - 1))≤(p0l.length:Int))))).bind fun _=>((bJ n) ((p0l.take ((IntKind.i64.wrap ((p0l.length:Int) - 1)).toNat)).drop r3.toNat)).bind fun r12=>(ic r10 r12 (x0.1,x0.2.1,x0.2.2.1,x0.2.2.2)).bind fun r13=>some r13) else (if x0.1==6 then ((chk (And (0≤(IntKind.i64.wrap ((p0l.length:Int) - 1))) ((IntKind.i64.wrap ((p0l.length:Int) - 1))≤(p0l.length:Int)))).bind fun _=>((bJ n) (p0l.take ((IntKind.i64.wrap ((p0l.length:Int) - 1)).toNat))).bind fun r18=>(ic r18 ([] :List (Int×Int×Int×Int)) (x0.1,x0.2.1,x0.2.2.1,x0.2.2.2)).bind fun r19=>some r19) else (if x0.1==7 then ((chk (And (0≤(IntKind.i64.wrap ((p0l.length:Int) - 1))) ((IntKind.i64.wrap ((p0l.length:Int) - 1))≤(p0l.length:Int)))).bind fun _=>((bJ n) (p0l.take ((IntKind.i64.wrap ((p0l.length:Int) - 1)).toNat))).bind fun r24=>(fW dS r24 x0.2.2.1 x0.2.2.2).bind fun r25=>some r25) else (some ([(x0.1,x0.2.1,x0.2.2.1,x0.2.2.2)])))))
def iA (p0e:(List (Int×Int×Int×Int))):Option (((List (Int×Int×Int×Int)))×Bool):=
 (gE p0e).bind fun r1=>if r1 then ((cC dS p0e).bind fun r2=>if decide (r2>5000) then (some ([],false)) else ((bJ dS p0e).bind fun r3=>if decide ((r3.length:Int)>400) then (some ([],false)) else (some (r3,true)))) else (some ([],false))
def fy (p1from:Int) (p2to:Int) (s2:Int×List Int):Option (Out ((List Int)×Int×Int×(List Int)×Bool) (Int×List Int)):=
 if decide (s2.1<(s2.2.length:Int)) then (Option.bind (((chk (0≤s2.1)).bind fun _=>if (sG (om p1from s2.1) 1)==1 then ((aI s2.2 s2.1).bind fun x6=>(aI s2.2 s2.1).bind fun x7=>some (s2.2.set s2.1.toNat (orI x6 p2to))) else (some s2.2):Option (List Int))) (fun s8=>some (.nxt (IntKind.i64.wrap (s2.1+1),s8)))) else (some (.brk (s2.1,s2.2)))
def jS (p0p:(List Int)×Int×Int×(List Int)×Bool) (p1from:Int) (p2to:Int):Option ((List Int)×Int×Int×(List Int)×Bool):=
 aE (ak (fy p1from p2to) aN (0,p0p.2.2.2.1)) (fun r9=>some r9) (fun s10=>some (p0p.1,p0p.2.1,p0p.2.2.1,s10.2,p0p.2.2.2.2))
def bV:Nat→((List Int)×Int×Int×(List Int)×Bool)→(List (Int×Int×Int×Int))→Option ((Bool×Int×Int)×(List Int)×Int×Int×(List Int)×Bool)
 | 0,_,_=>none
 | n+1,p0,p1 =>
  (aI p1 (IntKind.i64.wrap ((p1.length:Int) - 1))).bind fun x0=>if x0.1==2 then (some ((true,0,0),p0.1,p0.2.1,p0.2.2.1,p0.2.2.2.1,p0.2.2.2.2)) else (if x0.1==3 then ((cP 8 p0.1 ([x0.2.1])).bind fun z2=>(cP 8 p0.2.2.2.1 ([0])).bind fun z3=>some ((false,By 1 (p0.1.length:Int),By 1 (p0.1.length:Int)),z2,p0.2.1,p0.2.2.1,z3,p0.2.2.2.2)) else (if x0.1==4 then ((chk (And (0≤(IntKind.i64.wrap ((p1.length:Int) - 1))) ((IntKind.i64.wrap ((p1.length:Int) - 1))≤(p1.length:Int)))).bind fun _=>(eI (p1.take ((IntKind.i64.wrap ((p1.length:Int) - 1)).toNat))).bind fun r5=>(chk (And (0≤r5) (r5≤(p1.length:Int)))).bind fun _=>((bV n) (p0.1,p0.2.1,p0.2.2.1,p0.2.2.2.1,p0.2.2.2.2) (p1.take r5.toNat)).bind fun r7=>(chk (And (0≤r5) (And (r5≤(IntKind.i64.wrap ((p1.length:Int) - 1))) ((IntKind.i64.wrap ((p1.length:Int) - 1))≤(p1.length:Int))))).bind fun _=>((bV n) (r7.2.1,r7.2.2.1,r7.2.2.2.1,r7.2.2.2.2.1,r7.2.2.2.2.2) ((p1.take ((IntKind.i64.wrap ((p1.length:Int) - 1)).toNat)).drop r5.toNat)).bind fun r9=>(jS (r9.2.1,r9.2.2.1,r9.2.2.2.1,r9.2.2.2.2.1,r9.2.2.2.2.2) r7.1.2.2 r9.1.2.1).bind fun r10=>if r7.1.1 then (Option.bind ((if r7.1.1 then (some (r9.1.1,orI r7.1.2.1 r9.1.2.1,r9.1.2.2)) else (some (r9.1.1,r7.1.2.1,r9.1.2.2)):Option (Bool×Int×Int))) (fun s11=>Option.bind ((if r9.1.1 then (some (s11.1,s11.2.1,orI r7.1.2.2 r9.1.2.2)) else (some (s11.1,s11.2.1,s11.2.2)):Option (Bool×Int×Int))) (fun s12=>some ((s12.1,s12.2.1,s12.2.2),r10.1,r10.2.1,r10.2.2.1,r10.2.2.2.1,r10.2.2.2.2)))) else (Option.bind ((if r7.1.1 then (some (false,orI r7.1.2.1 r9.1.2.1,r9.1.2.2)) else (some (false,r7.1.2.1,r9.1.2.2)):Option (Bool×Int×Int))) (fun s13=>Option.bind ((if r9.1.1 then (some (s13.1,s13.2.1,orI r7.1.2.2 r9.1.2.2)) else (some (s13.1,s13.2.1,s13.2.2)):Option (Bool×Int×Int))) (fun s14=>some ((s14.1,s14.2.1,s14.2.2),r10.1,r10.2.1,r10.2.2.1,r10.2.2.2.1,r10.2.2.2.2))))) else (if x0.1==5 then ((chk (And (0≤(IntKind.i64.wrap ((p1.length:Int) - 1))) ((IntKind.i64.wrap ((p1.length:Int) - 1))≤(p1.length:Int)))).bind fun _=>(eI (p1.take ((IntKind.i64.wrap ((p1.length:Int) - 1)).toNat))).bind fun r16=>(chk (And (0≤r16) (r16≤(p1.length:Int)))).bind fun _=>((bV n) (p0.1,p0.2.1,p0.2.2.1,p0.2.2.2.1,p0.2.2.2.2) (p1.take r16.toNat)).bind fun r18=>(chk (And (0≤r16) (And (r16≤(IntKind.i64.wrap ((p1.length:Int) - 1))) ((IntKind.i64.wrap ((p1.length:Int) - 1))≤(p1.length:Int))))).bind fun _=>((bV n) (r18.2.1,r18.2.2.1,r18.2.2.2.1,r18.2.2.2.2.1,r18.2.2.2.2.2) ((p1.take ((IntKind.i64.wrap ((p1.length:Int) - 1)).toNat)).drop r16.toNat)).bind fun r20=>if r18.1.1 then (some ((true,orI r18.1.2.1 r20.1.2.1,orI r18.1.2.2 r20.1.2.2),r20.2.1,r20.2.2.1,r20.2.2.2.1,r20.2.2.2.2.1,r20.2.2.2.2.2)) else (some ((r20.1.1,orI r18.1.2.1 r20.1.2.1,orI r18.1.2.2 r20.1.2.2),r20.2.1,r20.2.2.1,r20.2.2.2.1,r20.2.2.2.2.1,r20.2.2.2.2.2))) else (if x0.1==6 then ((chk (And (0≤(IntKind.i64.wrap ((p1.length:Int) - 1))) ((IntKind.i64.wrap ((p1.length:Int) - 1))≤(p1.length:Int)))).bind fun _=>((bV n) (p0.1,p0.2.1,p0.2.2.1,p0.2.2.2.1,p0.2.2.2.2) (p1.take ((IntKind.i64.wrap ((p1.length:Int) - 1)).toNat))).bind fun r22=>(jS (r22.2.1,r22.2.2.1,r22.2.2.2.1,r22.2.2.2.2.1,r22.2.2.2.2.2) r22.1.2.2 r22.1.2.1).bind fun r23=>some ((true,r22.1.2.1,r22.1.2.2),r23.1,r23.2.1,r23.2.2.1,r23.2.2.2.1,r23.2.2.2.2)) else (some ((false,0,0),p0.1,p0.2.1,p0.2.2.1,p0.2.2.2.1,p0.2.2.2.2))))))
def bW (r0:(List (Int×Int×Int×Int))×Bool) (s2:Int×Int):Option (Out (((List Int)×Int×Int×(List Int)×Bool)×Bool) (Int×Int)):=
 if decide (s2.2<(r0.1.length:Int)) then (Option.bind (((aI r0.1 s2.2).bind fun x3=>if x3.1==3 then (some (IntKind.i64.wrap (s2.1+1))) else (some s2.1):Option Int)) (fun s4=>some (.nxt (s4,IntKind.i64.wrap (s2.2+1))))) else (some (.brk (s2.1,s2.2)))
def et (p0e:List (Int×Int×Int×Int)):Option (((List Int)×Int×Int×(List Int)×Bool)×Bool):=
 (iA p0e).bind fun r0=>if r0.2 then (aE (ak (bW r0) aN (0,0)) (fun r5=>some r5) (fun s6=>if decide (s6.1>20) then (some ((([] :List Int),0,0,([] :List Int),false),false)) else ((bV dS (([] :List Int),0,0,([] :List Int),false) r0.1).bind fun r7=>some ((r7.2.1,r7.1.2.1,r7.1.2.2,r7.2.2.2.2.1,r7.1.1),true)))) else (some ((([] :List Int),0,0,([] :List Int),false),false))
def eJ (p0p:(List Int)×Int×Int×(List Int)×Bool) (p1set:Int) (s6:Int×Int):Option (Out Int (Int×Int)):=
 if decide (s6.2<(p0p.1.length:Int)) then (Option.bind (((chk (0≤IntKind.i64.wrap (s6.2+1))).bind fun _=>if (sG (om p1set (IntKind.i64.wrap (s6.2+1))) 1)==1 then ((aI p0p.2.2.2.1 s6.2).bind fun x6=>some (orI s6.1 x6)) else (some s6.1):Option Int)) (fun s8=>some (.nxt (s8,IntKind.i64.wrap (s6.2+1))))) else (some (.brk (s6.1,s6.2)))
def eK (p0p:(List Int)×Int×Int×(List Int)×Bool) (p2letter:Int) (s7:Int×Int) (s13:Int×Int):Option (Out Int (Int×Int)):=
 if decide (s13.2<(p0p.1.length:Int)) then (Option.bind (((chk (0≤s13.2)).bind fun _=>if (sG (om s7.1 s13.2) 1)==1 then ((aI p0p.1 s13.2).bind fun x12=>if x12==p2letter then ((chk (0≤IntKind.i64.wrap (s13.2+1))).bind fun _=>some (orI s13.1 (By 1 (IntKind.i64.wrap (s13.2+1))))) else (some s13.1)) else (some s13.1):Option Int)) (fun s15=>some (.nxt (s15,IntKind.i64.wrap (s13.2+1))))) else (some (.brk (s13.1,s13.2)))
def kE (p0p:(List Int)×Int×Int×(List Int)×Bool) (p1set:Int) (p2letter:Int):Option Int:=
 Option.bind ((if (sG p1set 1)==1 then (some p0p.2.1) else (some 0):Option Int)) (fun s1=>aE (ak (eJ p0p p1set) aN (s1,0)) (fun r=>some r) (fun s7=>aE (ak (eK p0p p2letter s7) aN (0,0)) (fun r=>some r) (fun s14=>some s14.1)))
def iB (p0p:(List Int)×Int×Int×(List Int)×Bool) (p1set:Int):Option Bool:=
 if (sG p1set 1)==1 then (if p0p.2.2.2.2 then (some true) else (some ((sG (om p1set 1) p0p.2.2.1) !=0))) else (some ((sG (om p1set 1) p0p.2.2.1) !=0))
def du (p0:(List Int)×Int×Int×(List Int)×Bool) (s17:(List Int)×Int×Int×(List Bool)×(List (List Int))) (s23:(List Int)×(List Int)×Int):Option (Out ((Int×(List Bool)×(List (List Int)))×Bool) ((List Int)×(List Int)×Int)):=
 if decide (s23.2.2<9) then ((aI s23.1 s17.2.1).bind fun x11=>(kE (p0.1,p0.2.1,p0.2.2.1,p0.2.2.2.1,p0.2.2.2.2) x11 s23.2.2).bind fun r27=>Option.bind ((if r27 !=0 then ((jQ s23.1 r27).bind fun r29=>if decide (r29<0) then ((cP 8 s23.1 ([r27])).bind fun z30=>some (z30,(s23.1.length:Int))) else (some (s23.1,r29))) else (some (s23.1,-1)):Option ((List Int)×Int))) (fun s25=>(cP 8 s23.2.1 ([s25.2])).bind fun z31=>some (.nxt (s25.1,z31,IntKind.i64.wrap (s23.2.2+1))))) else (some (.brk (s23.1,s23.2.1,s23.2.2)))
def dw (p0:(List Int)×Int×Int×(List Int)×Bool) (p1:Int) (s17:(List Int)×Int×Int×(List Bool)×(List (List Int))):Option (Out ((Int×(List Bool)×(List (List Int)))×Bool) ((List Int)×Int×Int×(List Bool)×(List (List Int)))):=
 if decide (s17.2.1<(s17.1.length:Int)) then (aE (ak (du p0 s17) aN (s17.1,([] :List Int),0)) (fun r=>some (.ret r)) (fun s24=>if decide ((s24.1.length:Int)>p1) then (some (.ret ((0,[],[]),false))) else ((aI s24.1 s17.2.1).bind fun x12=>(iB (p0.1,p0.2.1,p0.2.2.1,p0.2.2.2.1,p0.2.2.2.2) x12).bind fun r30=>(cP 1 s17.2.2.2.1 ([r30])).bind fun z32=>(cP 24 s17.2.2.2.2 ([s24.2.1])).bind fun z33=>some (.nxt (s24.1,IntKind.i64.wrap (s17.2.1+1),s17.2.2.1,z32,z33))))) else (some (.brk (s17.1,s17.2.1,s17.2.2.1,s17.2.2.2.1,s17.2.2.2.2)))
def fA (p0:(List Int)×Int×Int×(List Int)×Bool) (p1:Int):Option ((Int×(List Bool)×(List (List Int)))×Bool):=
 aE (ak (dw p0 p1) aN ([1],0,0,[],[])) (fun r=>some r) (fun s18=>some ((s18.2.2.1,s18.2.2.2.1,s18.2.2.2.2),true))
def eL (p0e:(List (Int×Int×Int×Int))):Option ((Int×(List Bool)×(List (List Int)))×Bool):=
 (et p0e).bind fun r1=>if r1.2 then ((fA (r1.1.1,r1.1.2.1,r1.1.2.2.1,r1.1.2.2.2.1,r1.1.2.2.2.2) 200).bind fun r2=>if r2.2 then ((gD (r2.1.1,r2.1.2.1,r2.1.2.2)).bind fun r3=>if decide ((r3.2.1.length:Int)>12) then (some ((0,[],[]),false)) else (some ((r3.1,r3.2.1,r3.2.2),true))) else (some ((0,[],[]),false))) else (some ((0,[],[]),false))
def db (p0:Int×(List Bool)×(List (List Int))) (p1:Int×(List Bool)×(List (List Int))) (s3:Int):Option (Out Bool Int):=
 if decide (s3<(p0.2.1.length:Int)) then ((aI p0.2.1 s3).bind fun x5=>(aI p1.2.1 s3).bind fun x6=>if x5 !=x6 then (some (.ret false)) else (some (.nxt (IntKind.i64.wrap (s3+1))))) else (some (.brk s3))
def de (p0:Int×(List Bool)×(List (List Int))) (p1:Int×(List Bool)×(List (List Int))) (s7:Int):Option (Out Bool Int):=
 if decide (s7<(p0.2.2.length:Int)) then ((aI p0.2.2 s7).bind fun x11=>(aI p1.2.2 s7).bind fun x12=>(lj x11 x12).bind fun r9=>if r9 !=0 then (some (.ret false)) else (some (.nxt (IntKind.i64.wrap (s7+1))))) else (some (.brk s7))
def dx (p0:Int×(List Bool)×(List (List Int))) (p1:Int×(List Bool)×(List (List Int))):Option Bool:=
 if p0.1 !=p1.1 then (some false) else (if (p0.2.1.length:Int) !=(p1.2.1.length:Int) then (some false) else (if (p0.2.2.length:Int) !=(p1.2.2.length:Int) then (some false) else (aE (ak (db p0 p1) aN 0) (fun r=>some r) (fun s4=>aE (ak (de p0 p1) aN 0) (fun r=>some r) (fun s8=>some true)))))
def eM (p0l:List (Int×(List Bool)×(List (List Int)))) (p1a:Int×(List Bool)×(List (List Int))) (s3:Int):Option (Out Int Int):=
 if decide (s3<(p0l.length:Int)) then ((aI p0l s3).bind fun x3=>(dx (x3.1,x3.2.1,x3.2.2) (p1a.1,p1a.2.1,p1a.2.2)).bind fun r9=>if r9 then (some (.ret s3)) else (some (.nxt (IntKind.i64.wrap (s3+1))))) else (some (.brk s3))
def iP (p0l:List (Int×(List Bool)×(List (List Int)))) (p1a:Int×(List Bool)×(List (List Int))):Option Int:=
 aE (ak (eM p0l p1a) aN 0) (fun r=>some r) (fun s4=>some (-1))
def bX (p0:List (Int×((List (Int×Int×Int×Int)))×Int)) (s7:Int×(List (Int×(List Bool)×(List (List Int))))×(List (Int×((List (Int×Int×Int×Int)))×Int))):Option (Out (((List (Int×(List Bool)×(List (List Int))))×(List (Int×((List (Int×Int×Int×Int)))×Int)))×Bool) (Int×(List (Int×(List Bool)×(List (List Int))))×(List (Int×((List (Int×Int×Int×Int)))×Int)))):=
 if decide (s7.1<(p0.length:Int)) then ((aI p0 s7.1).bind fun x17=>(eL x17.2.1).bind fun r20=>if r20.2 then ((aI p0 s7.1).bind fun x18=>(ju x18.1 1 99).bind fun r21=>if r21 then (if decide (s7.1>0) then ((aI p0 (IntKind.i64.wrap (s7.1 - 1))).bind fun x21=>(aI p0 s7.1).bind fun x22=>if decide (x21.1≥x22.1) then (some (.ret (([],[]),false))) else ((iP s7.2.1 (r20.1.1,r20.1.2.1,r20.1.2.2)).bind fun r25=>Option.bind ((if decide (r25<0) then ((cP 56 s7.2.1 ([(r20.1.1,r20.1.2.1,r20.1.2.2)])).bind fun z17=>some ((s7.2.1.length:Int),z17,s7.2.2)) else (some (r25,s7.2.1,s7.2.2)):Option (Int×(List (Int×(List Bool)×(List (List Int))))×(List (Int×((List (Int×Int×Int×Int)))×Int))))) (fun s10=>(aI p0 s7.1).bind fun x23=>(aI p0 s7.1).bind fun x24=>(hZ x24.2.1).bind fun r27=>(cP 40 s10.2.2 ([(x23.1,r27,s10.1)])).bind fun z18=>some (.nxt (IntKind.i64.wrap (s7.1+1),s10.2.1,z18))))) else ((iP s7.2.1 (r20.1.1,r20.1.2.1,r20.1.2.2)).bind fun r22=>Option.bind ((if decide (r22<0) then ((cP 56 s7.2.1 ([(r20.1.1,r20.1.2.1,r20.1.2.2)])).bind fun z14=>some ((s7.2.1.length:Int),z14,s7.2.2)) else (some (r22,s7.2.1,s7.2.2)):Option (Int×(List (Int×(List Bool)×(List (List Int))))×(List (Int×((List (Int×Int×Int×Int)))×Int))))) (fun s9=>(aI p0 s7.1).bind fun x19=>(aI p0 s7.1).bind fun x20=>(hZ x20.2.1).bind fun r24=>(cP 40 s9.2.2 ([(x19.1,r24,s9.1)])).bind fun z15=>some (.nxt (IntKind.i64.wrap (s7.1+1),s9.2.1,z15))))) else (some (.ret (([],[]),false)))) else (some (.ret (([],[]),false)))) else (some (.brk (s7.1,s7.2.1,s7.2.2)))
def kF (p0:List (Int×((List (Int×Int×Int×Int)))×Int)):Option (((List (Int×(List Bool)×(List (List Int))))×(List (Int×((List (Int×Int×Int×Int)))×Int)))×Bool):=
 if decide ((p0.length:Int)>4) then (some (([],[]),false)) else (aE (ak (bX p0) aN (0,[],[])) (fun r=>some r) (fun s8=>some ((s8.2.1,s8.2.2),true)))
def e7 (p0a:(List (Int×Int×Int×Int))) (p1b:(List (Int×Int×Int×Int))) (s3:Int):Option (Out Bool Int):=
 if decide (s3<(p0a.length:Int)) then ((aI p0a s3).bind fun x5=>(aI p1b s3).bind fun x6=>if (x5.1==x6.1)&&((x5.2.1==x6.2.1)&&((x5.2.2.1==x6.2.2.1)&&((x5.2.2.2==x6.2.2.2)&&true))) then (some (.nxt (IntKind.i64.wrap (s3+1)))) else (some (.ret false))) else (some (.brk s3))
def iC (p0a:(List (Int×Int×Int×Int))) (p1b:(List (Int×Int×Int×Int))):Option Bool:=
 if (p0a.length:Int) !=(p1b.length:Int) then (some false) else (aE (ak (e7 p0a p1b) aN 0) (fun r=>some r) (fun s4=>some true))
def cH (p0:(List (Int×(List Bool)×(List (List Int))))×(List (Int×((List (Int×Int×Int×Int)))×Int))) (p1:(List (Int×(List Bool)×(List (List Int))))×(List (Int×((List (Int×Int×Int×Int)))×Int))) (s3:Int):Option (Out Bool Int):=
 if decide (s3<(p0.1.length:Int)) then ((aI p0.1 s3).bind fun x5=>(aI p1.1 s3).bind fun x6=>(dx (x5.1,x5.2.1,x5.2.2) (x6.1,x6.2.1,x6.2.2)).bind fun r15=>if r15 then (some (.nxt (IntKind.i64.wrap (s3+1)))) else (some (.ret false))) else (some (.brk s3))
def cJ (p0:(List (Int×(List Bool)×(List (List Int))))×(List (Int×((List (Int×Int×Int×Int)))×Int))) (p1:(List (Int×(List Bool)×(List (List Int))))×(List (Int×((List (Int×Int×Int×Int)))×Int))) (s7:Int):Option (Out Bool Int):=
 if decide (s7<(p0.2.length:Int)) then ((aI p0.2 s7).bind fun x19=>(aI p1.2 s7).bind fun x20=>if x19.1 !=x20.1 then (some (.ret false)) else ((aI p0.2 s7).bind fun x21=>(aI p1.2 s7).bind fun x22=>(iC x21.2.1 x22.2.1).bind fun r24=>if r24 then ((aI p0.2 s7).bind fun x23=>(aI p1.2 s7).bind fun x24=>if x23.2.2 !=x24.2.2 then (some (.ret false)) else (some (.nxt (IntKind.i64.wrap (s7+1))))) else (some (.ret false)))) else (some (.brk s7))
def dF (p0:(List (Int×(List Bool)×(List (List Int))))×(List (Int×((List (Int×Int×Int×Int)))×Int))) (p1:(List (Int×(List Bool)×(List (List Int))))×(List (Int×((List (Int×Int×Int×Int)))×Int))):Option Bool:=
 if (p0.1.length:Int) !=(p1.1.length:Int) then (some false) else (if (p0.2.length:Int) !=(p1.2.length:Int) then (some false) else (aE (ak (cH p0 p1) aN 0) (fun r=>some r) (fun s4=>aE (ak (cJ p0 p1) aN 0) (fun r=>some r) (fun s8=>some true))))
def dG (p0r:(List (Int×(List Bool)×(List (List Int))))×(List (Int×((List (Int×Int×Int×Int)))×Int))):Option Bool:=
 (kF p0r.2).bind fun r1=>if r1.2 then ((dF (r1.1.1,r1.1.2) (p0r.1,p0r.2)).bind fun r2=>some r2) else (some false)
def fB (p0a:Int×(List Bool)×(List (List Int))) (s3:Int×Int×(List Bool)×(List (List Int))):Option (Out (Int×(List Bool)×(List (List Int))) (Int×Int×(List Bool)×(List (List Int)))):=
 if decide (s3.1<(p0a.2.2.length:Int)) then ((aI p0a.2.2 s3.1).bind fun x3=>(cP 8 ([] :List Int) x3).bind fun z6=>(cP 24 s3.2.2.2 ([z6])).bind fun z7=>some (.nxt (IntKind.i64.wrap (s3.1+1),s3.2.1,s3.2.2.1,z7))) else (some (.brk (s3.1,s3.2.1,s3.2.2.1,s3.2.2.2)))
def l5 (p0a:Int×(List Bool)×(List (List Int))):Option (Int×(List Bool)×(List (List Int))):=
 (cP 1 ([] :List Bool) p0a.2.1).bind fun z1=>aE (ak (fB p0a) aN (0,p0a.1,z1,[])) (fun r=>some r) (fun s4=>some (s4.2.1,s4.2.2.1,s4.2.2.2))
def eu (p0r:(List (Int×(List Bool)×(List (List Int))))×(List (Int×((List (Int×Int×Int×Int)))×Int))) (p1id:Int):Option ((Int×(List Bool)×(List (List Int)))×Bool):=
 (jt (p0r.1,p0r.2) p1id).bind fun r1=>(dG (p0r.1,p0r.2)).bind fun r2=>if r2 then (if decide (r1<0) then (some ((0,[],[]),false)) else ((aI p0r.2 r1).bind fun x1=>(aI p0r.1 x1.2.2).bind fun x2=>(l5 (x2.1,x2.2.1,x2.2.2)).bind fun r5=>some ((r5.1,r5.2.1,r5.2.2),true))) else (some ((0,[],[]),false))
def ed (p0a:Int×(List Bool)×(List (List Int))) (s11:Int) (s15:Int):Option (Out Bool Int):=
 if decide (s15<9) then ((aI p0a.2.2 s11).bind fun x20=>(aI x20 s15).bind fun x21=>(ju x21 (-1) (IntKind.i64.wrap ((p0a.2.1.length:Int) - 1))).bind fun r22=>if r22 then (some (.nxt (IntKind.i64.wrap (s15+1)))) else (some (.ret false))) else (some (.brk s15))
def iD (p0a:Int×(List Bool)×(List (List Int))) (s11:Int):Option (Out Bool Int):=
 if decide (s11<(p0a.2.1.length:Int)) then ((aI p0a.2.2 s11).bind fun x15=>if (x15.length:Int) !=9 then (some (.ret false)) else (aE (ak (ed p0a s11) aN 0) (fun r=>some (.ret r)) (fun s16=>some (.nxt (IntKind.i64.wrap (s11+1)))))) else (some (.brk s11))
def jT (p0a:Int×(List Bool)×(List (List Int))):Option Bool:=
 (ju p0a.1 0 (IntKind.i64.wrap ((p0a.2.1.length:Int) - 1))).bind fun r1=>if r1 then (if (p0a.2.2.length:Int) !=(p0a.2.1.length:Int) then (some false) else (aE (ak (iD p0a) aN 0) (fun r=>some r) (fun s12=>some true))) else (some false)
def bg (p0a:Int×(List Bool)×(List (List Int))):Option Bool:=
 if decide ((p0a.2.1.length:Int)≤12) then ((jT (p0a.1,p0a.2.1,p0a.2.2)).bind fun r1=>some r1) else (some false)
def gF (p0a:Int×(List Bool)×(List (List Int))) (p1s:Int):Option Bool:=
 if decide (p1s≥0) then ((aI p0a.2.1 p1s).bind fun x1=>some x1) else (some false)
def kX (p0l:List (Int×Int×Bool×Int×Int)) (s3:Int×(List Int)):Option (Out (List Int) (Int×(List Int))):=
 if decide (s3.1>0) then ((aI p0l s3.1).bind fun x5=>(cP 8 ([x5.2.2.2.2]) s3.2).bind fun z3=>(aI p0l s3.1).bind fun x6=>some (.nxt (x6.2.2.2.1,z3))) else (some (.brk (s3.1,s3.2)))
def l6 (p0l:List (Int×Int×Bool×Int×Int)) (p1k:Int):Option (List Int):=
 aE (ak (kX p0l) aN (p1k,([] :List Int))) (fun r=>some r) (fun s4=>some s4.2)
def jU (p0a:Int×(List Bool)×(List (List Int))) (p1s:Int) (p2k:Int):Option Int:=
 if decide (p1s<0) then (some (-1)) else ((aI p0a.2.2 p1s).bind fun x1=>(aI x1 p2k).bind fun x2=>some x2)
def jw (p0l:List (Int×Int×Bool×Int×Int)) (p1x:Int×Int×Bool×Int×Int) (s3:Int):Option (Out Bool Int):=
 if decide (s3<(p0l.length:Int)) then ((aI p0l s3).bind fun x7=>if x7.1==p1x.1 then ((aI p0l s3).bind fun x8=>if x8.2.1==p1x.2.1 then ((aI p0l s3).bind fun x9=>if x9.2.2.1==p1x.2.2.1 then (some (.ret true)) else (some (.nxt (IntKind.i64.wrap (s3+1))))) else (some (.nxt (IntKind.i64.wrap (s3+1))))) else (some (.nxt (IntKind.i64.wrap (s3+1))))) else (some (.brk s3))
def nT (p0l:List (Int×Int×Bool×Int×Int)) (p1x:Int×Int×Bool×Int×Int):Option Bool:=
 aE (ak (jw p0l p1x) aN 0) (fun r=>some r) (fun s4=>some false)
def dW (p0:Int×(List Bool)×(List (List Int))) (p2:Int×(List Bool)×(List (List Int))) (s19:(List (Int×Int×Bool×Int×Int))×Int) (s26:(List (Int×Int×Bool×Int×Int))×Int):Option (Out ((List Int)×Bool) ((List (Int×Int×Bool×Int×Int))×Int)):=
 if decide (s26.2<9) then (Option.bind (((aI s26.1 s19.2).bind fun x41=>(jU (p0.1,p0.2.1,p0.2.2) x41.1 s26.2).bind fun r70=>(aI s26.1 s19.2).bind fun x42=>(jU (p2.1,p2.2.1,p2.2.2) x42.2.1 s26.2).bind fun r71=>(nT s26.1 (r70,r71,false,s19.2,s26.2)).bind fun r72=>if r72 then (some s26.1) else ((cP 40 s26.1 ([(r70,r71,false,s19.2,s26.2)])).bind fun z18=>some z18):Option (List (Int×Int×Bool×Int×Int)))) (fun s28=>some (.nxt (s28,IntKind.i64.wrap (s26.2+1))))) else (some (.brk (s26.1,s26.2)))
def jd (p0:Int×(List Bool)×(List (List Int))) (p2:Int×(List Bool)×(List (List Int))) (p4:Bool) (s19:(List (Int×Int×Bool×Int×Int))×Int):Option (Out ((List Int)×Bool) ((List (Int×Int×Bool×Int×Int))×Int)):=
 if decide (s19.2<(s19.1.length:Int)) then ((aI s19.1 s19.2).bind fun x29=>(gF (p0.1,p0.2.1,p0.2.2) x29.1).bind fun r49=>(aI s19.1 s19.2).bind fun x30=>(gF (p2.1,p2.2.1,p2.2.2) x30.2.1).bind fun r50=>Option.bind (if r50 then (if r49 then (if r49 then (if r50 then some false else some (!p4)) else some false) else some true) else (if r49 then (if r50 then some false else some (!p4)) else some false):Option Bool) (fun b57=>if b57 then ((l6 s19.1 s19.2).bind fun r54=>some (.ret (r54,true))) else (aE (ak (dW p0 p2 s19) aN (s19.1,0)) (fun r=>some (.ret r)) (fun s27=>some (.nxt (s27.1,IntKind.i64.wrap (s19.2+1))))))) else (some (.brk (s19.1,s19.2)))
def gG (p0:Int×(List Bool)×(List (List Int))) (p1:Int) (p2:Int×(List Bool)×(List (List Int))) (p3:Int) (p4:Bool):Option ((List Int)×Bool):=
 aE (ak (jd p0 p2 p4) aN ([(p1,p3,false,0,0)],0)) (fun r=>some r) (fun s20=>some (([] :List Int),false))
def jV (p0a:Int×(List Bool)×(List (List Int))) (p1b:Int×(List Bool)×(List (List Int))):Option ((List Int)×Bool):=
 (bg (p0a.1,p0a.2.1,p0a.2.2)).bind fun r1=>if r1 then ((bg (p1b.1,p1b.2.1,p1b.2.2)).bind fun r2=>if r2 then ((gG (p0a.1,p0a.2.1,p0a.2.2) p0a.1 (p1b.1,p1b.2.1,p1b.2.2) p1b.1 true).bind fun r3=>some (r3.1,r3.2)) else (some (([] :List Int),false))) else (some (([] :List Int),false))
def df (p0a:Int×(List Bool)×(List (List Int))) (p1b:Int×(List Bool)×(List (List Int))):Option Bool:=
 (jV (p0a.1,p0a.2.1,p0a.2.2) (p1b.1,p1b.2.1,p1b.2.2)).bind fun r1=>(bg (p0a.1,p0a.2.1,p0a.2.2)).bind fun r2=>if r2 then ((bg (p1b.1,p1b.2.1,p1b.2.2)).bind fun r3=>if r3 then (some (!r1.2)) else (some false)) else (some false)
def aF (p0r:(List (Int×(List Bool)×(List (List Int))))×(List (Int×((List (Int×Int×Int×Int)))×Int))) (p1id:Int) (r1:(Int×(List Bool)×(List (List Int)))×Bool) (s5:(List Int)×Int):Option (Out (List Int) ((List Int)×Int)):=
 if decide (s5.2<(p0r.2.length:Int)) then (if r1.2 then (Option.bind (((aI p0r.2 s5.2).bind fun x21=>if x21.1 !=p1id then ((aI p0r.2 s5.2).bind fun x22=>(aI p0r.1 x22.2.2).bind fun x23=>(df (r1.1.1,r1.1.2.1,r1.1.2.2) (x23.1,x23.2.1,x23.2.2)).bind fun r19=>if r19 then ((aI p0r.2 s5.2).bind fun x24=>(cP 8 s5.1 ([x24.1])).bind fun z6=>some z6) else (some s5.1)) else (some s5.1):Option (List Int))) (fun s7=>some (.nxt (s7,IntKind.i64.wrap (s5.2+1))))) else (some (.brk (s5.1,s5.2)))) else (some (.brk (s5.1,s5.2)))
def dH (p0r:(List (Int×(List Bool)×(List (List Int))))×(List (Int×((List (Int×Int×Int×Int)))×Int))) (p1id:Int):Option (List Int):=
 (eu (p0r.1,p0r.2) p1id).bind fun r1=>aE (ak (aF p0r p1id r1) aN (([] :List Int),0)) (fun r=>some r) (fun s6=>some s6.1)
def iE (p0a:List Bool) (s3:(List Bool)×Int):Option (Out (List Bool) ((List Bool)×Int)):=
 if decide (s3.2<(p0a.length:Int)) then ((aI p0a s3.2).bind fun x6=>(aI s3.1 s3.2).bind fun x7=>some (.nxt (s3.1.set s3.2.toNat x6,IntKind.i64.wrap (s3.2+1)))) else (some (.brk (s3.1,s3.2)))
def l7 (p0a:List Bool):Option (List Bool):=
 (mkI 1 (p0a.length:Int) (false:Bool)).bind fun x1=>aE (ak (iE p0a) aN (x1,0)) (fun r=>some r) (fun s4=>some s4.1)
def jx (p0a:List Int) (s3:(List Int)×Int):Option (Out (List Int) ((List Int)×Int)):=
 if decide (s3.2<(p0a.length:Int)) then ((aI p0a s3.2).bind fun x6=>(aI s3.1 s3.2).bind fun x7=>some (.nxt (s3.1.set s3.2.toNat x6,IntKind.i64.wrap (s3.2+1)))) else (some (.brk (s3.1,s3.2)))
def nU (p0a:List Int):Option (List Int):=
 (mkI 8 (p0a.length:Int) (0:Int)).bind fun x1=>aE (ak (jx p0a) aN (x1,0)) (fun r=>some r) (fun s4=>some s4.1)
def iF (p0a:List (List Int)) (s3:(List (List Int))×Int):Option (Out (List (List Int)) ((List (List Int))×Int)):=
 if decide (s3.2<(p0a.length:Int)) then ((aI p0a s3.2).bind fun x6=>(nU x6).bind fun r6=>(aI s3.1 s3.2).bind fun x7=>some (.nxt (s3.1.set s3.2.toNat r6,IntKind.i64.wrap (s3.2+1)))) else (some (.brk (s3.1,s3.2)))
def l8 (p0a:List (List Int)):Option (List (List Int)):=
 (mkI 24 (p0a.length:Int) ([] :List Int)).bind fun x1=>aE (ak (iF p0a) aN (x1,0)) (fun r=>some r) (fun s4=>some s4.1)
def gH (p0a:Int×(List Bool)×(List (List Int))):Option (Int×(List Bool)×(List (List Int))):=
 (l7 p0a.2.1).bind fun r1=>(l8 p0a.2.2).bind fun r2=>some (p0a.1,r1,r2)
def dI (p0a:List (Int×(List Bool)×(List (List Int)))) (s3:(List (Int×(List Bool)×(List (List Int))))×Int):Option (Out (List (Int×(List Bool)×(List (List Int)))) ((List (Int×(List Bool)×(List (List Int))))×Int)):=
 if decide (s3.2<(p0a.length:Int)) then ((aI p0a s3.2).bind fun x6=>(gH (x6.1,x6.2.1,x6.2.2)).bind fun r9=>(aI s3.1 s3.2).bind fun x7=>some (.nxt (s3.1.set s3.2.toNat (r9.1,r9.2.1,r9.2.2),IntKind.i64.wrap (s3.2+1)))) else (some (.brk (s3.1,s3.2)))
def fH (p0a:List (Int×(List Bool)×(List (List Int)))):Option (List (Int×(List Bool)×(List (List Int)))):=
 (mkI 56 (p0a.length:Int) ((0,[],[]):Int×(List Bool)×(List (List Int)))).bind fun x1=>aE (ak (dI p0a) aN (x1,0)) (fun r=>some r) (fun s4=>some s4.1)
def l9 (p0a:Int×Int×Int×Int):Option (Int×Int×Int×Int):=
 some (p0a.1,p0a.2.1,p0a.2.2.1,p0a.2.2.2)
def gI (p0a:List (Int×Int×Int×Int)) (s3:(List (Int×Int×Int×Int))×Int):Option (Out (List (Int×Int×Int×Int)) ((List (Int×Int×Int×Int))×Int)):=
 if decide (s3.2<(p0a.length:Int)) then ((aI p0a s3.2).bind fun x6=>(l9 (x6.1,x6.2.1,x6.2.2.1,x6.2.2.2)).bind fun r3=>(aI s3.1 s3.2).bind fun x7=>some (.nxt (s3.1.set s3.2.toNat (r3.1,r3.2.1,r3.2.2.1,r3.2.2.2),IntKind.i64.wrap (s3.2+1)))) else (some (.brk (s3.1,s3.2)))
def kG (p0a:List (Int×Int×Int×Int)):Option (List (Int×Int×Int×Int)):=
 (mkI 32 (p0a.length:Int) ((0,0,0,0):Int×Int×Int×Int)).bind fun x1=>aE (ak (gI p0a) aN (x1,0)) (fun r=>some r) (fun s4=>some s4.1)
def nV (p0a:(List (Int×Int×Int×Int))):Option (List (Int×Int×Int×Int)):=
 (kG p0a).bind fun r1=>some r1
def fI (p0a:Int×((List (Int×Int×Int×Int)))×Int):Option (Int×((List (Int×Int×Int×Int)))×Int):=
 (nV p0a.2.1).bind fun r1=>some (p0a.1,r1,p0a.2.2)
def dg (p0a:List (Int×((List (Int×Int×Int×Int)))×Int)) (s3:(List (Int×((List (Int×Int×Int×Int)))×Int))×Int):Option (Out (List (Int×((List (Int×Int×Int×Int)))×Int)) ((List (Int×((List (Int×Int×Int×Int)))×Int))×Int)):=
 if decide (s3.2<(p0a.length:Int)) then ((aI p0a s3.2).bind fun x6=>(fI (x6.1,x6.2.1,x6.2.2)).bind fun r6=>(aI s3.1 s3.2).bind fun x7=>some (.nxt (s3.1.set s3.2.toNat (r6.1,r6.2.1,r6.2.2),IntKind.i64.wrap (s3.2+1)))) else (some (.brk (s3.1,s3.2)))
def e8 (p0a:List (Int×((List (Int×Int×Int×Int)))×Int)):Option (List (Int×((List (Int×Int×Int×Int)))×Int)):=
 (mkI 40 (p0a.length:Int) ((0,[],0):Int×((List (Int×Int×Int×Int)))×Int)).bind fun x1=>aE (ak (dg p0a) aN (x1,0)) (fun r=>some r) (fun s4=>some s4.1)
def cY (p0a:(List (Int×(List Bool)×(List (List Int))))×(List (Int×((List (Int×Int×Int×Int)))×Int))):Option ((List (Int×(List Bool)×(List (List Int))))×(List (Int×((List (Int×Int×Int×Int)))×Int))):=
 (fH p0a.1).bind fun r1=>(e8 p0a.2).bind fun r2=>some (r1,r2)
def aJ (p0s:List (Int×((List (Int×Int×Int×Int)))×Int)) (p1f:(Int×((List (Int×Int×Int×Int)))×Int)→Option Bool) (s3:Int):Option (Out Int Int):=
 if decide (s3<(p0s.length:Int)) then ((aI p0s s3).bind fun x3=>(p1f (x3.1,x3.2.1,x3.2.2)).bind fun r6=>if r6 then (some (.ret s3)) else (some (.nxt (IntKind.i64.wrap (s3+1))))) else (some (.brk s3))
def bc (p0s:List (Int×((List (Int×Int×Int×Int)))×Int)) (p1f:(Int×((List (Int×Int×Int×Int)))×Int)→Option Bool):Option Int:=
 aE (ak (aJ p0s p1f) aN 0) (fun r=>some r) (fun s4=>some (-1))
def gJ (p0q:Int×((List (Int×Int×Int×Int)))×Int) (q0:Int):Option Bool:=
 some (p0q.1==q0)
def jy (p0r:(List (Int×(List Bool)×(List (List Int))))×(List (Int×((List (Int×Int×Int×Int)))×Int))) (p1id:Int):Option Int:=
 (bc p0r.2 (fun a0=>gJ a0 p1id)).bind fun r1=>some r1
def eg (p0n:Int) (p1a:Int) (p2b:Int):Option Bool:=
 if decide (p0n≥p1a) then (some (decide (p0n≤p2b))) else (some false)
def fX (p0n:Int):Option Bool:=
 (eg p0n 0 8).bind fun r1=>some r1
def ma (p0t:Int×Int×Int×Int):Option Bool:=
 if p0t.1==3 then ((fX p0t.2.1).bind fun r3=>if r3 then (if p0t.2.2.1==0 then (some (p0t.2.2.2==0)) else (some false)) else (some false)) else (if p0t.1==7 then (if p0t.2.1==0 then ((eg p0t.2.2.1 0 p0t.2.2.2).bind fun r1=>if r1 then ((eg p0t.2.2.2 1 3).bind fun r2=>some r2) else (some false)) else (some false)) else (Option.bind ((if p0t.1==1 then (some (p0t.1==1)) else (if p0t.1==2 then (some (p0t.1==2)) else (if p0t.1==4 then (some (p0t.1==4)) else (if p0t.1==5 then (some (p0t.1==5)) else (some (p0t.1==6))))):Option Bool)) (fun s1=>if s1 then (some ((p0t.1==p0t.1)&&((p0t.2.1==0)&&((p0t.2.2.1==0)&&((p0t.2.2.2==0)&&true))))) else (some false))))
def mb (p0e:List (Int×Int×Int×Int)) (s1:(List (Tr (Int×Int×Int×Int)))×Int):Option (Out (Tr (Int×Int×Int×Int)) ((List (Tr (Int×Int×Int×Int)))×Int)):=
 if decide (s1.2<(p0e.length:Int)) then ((aI p0e s1.2).bind fun x2=>Option.bind ((Option.bind ((if x2.1==4 then (some (x2.1==4)) else (some (x2.1==5)):Option Bool)) (fun s3=>if s3 then (some 2) else (Option.bind ((if x2.1==6 then (some (x2.1==6)) else (some (x2.1==7)):Option Bool)) (fun s4=>if s4 then (some 1) else (some 0)))):Option Int)) (fun s5=>(ma (x2.1,x2.2.1,x2.2.2.1,x2.2.2.2)).bind fun r6=>if r6 then (if decide ((IntKind.i64.wrap ((s1.1.length:Int) - s5))<0) then (some (.ret Tr.nil)) else ((chk (And (0≤(IntKind.i64.wrap ((s1.1.length:Int) - s5))) ((IntKind.i64.wrap ((s1.1.length:Int) - s5))≤(s1.1.length:Int)))).bind fun _=>(cP 8 ([] :List (Tr (Int×Int×Int×Int))) (s1.1.drop ((IntKind.i64.wrap ((s1.1.length:Int) - s5)).toNat))).bind fun z10=>(chk (And (0≤(IntKind.i64.wrap ((s1.1.length:Int) - s5))) ((IntKind.i64.wrap ((s1.1.length:Int) - s5))≤(s1.1.length:Int)))).bind fun _=>(cP 8 (s1.1.take ((IntKind.i64.wrap ((s1.1.length:Int) - s5)).toNat)) ([Tr.node (x2.1,x2.2.1,x2.2.2.1,x2.2.2.2) z10])).bind fun z12=>some (.nxt (z12,IntKind.i64.wrap (s1.2+1))))) else (some (.ret Tr.nil)))) else (some (.brk (s1.1,s1.2)))
def jG (p0e:List (Int×Int×Int×Int)):Option (Tr (Int×Int×Int×Int)):=
 aE (ak (mb p0e) aN (([] :List (Tr (Int×Int×Int×Int))),0)) (fun r13=>some r13) (fun s14=>if (s14.1.length:Int) !=1 then (some Tr.nil) else ((aI s14.1 0).bind fun x15=>some x15))
def nW (p0e:List (Int×Int×Int×Int)):Option Bool:=
 (jG p0e).bind fun r0=>some (cond.match_1 (fun (u4:Bool)=>Bool) (Tr.isNil r0) (fun (u5:Unit)=>false) (fun (u6:Unit)=>true))
def gK (p0e:(List (Int×Int×Int×Int))):Option Bool:=
 if decide ((p0e.length:Int)≤24) then ((nW p0e).bind fun r1=>some r1) else (some false)
def aV (mrec:(Tr (Int×Int×Int×Int))→Option Int) (p0x:Tr (Int×Int×Int×Int)) (z1:(Int×Int×Int×Int)×List (Tr (Int×Int×Int×Int))) (s3:Int×Int):Option (Out Int (Int×Int)):=
 if decide (s3.2<(z1.2.length:Int)) then (Option.bind (((aI z1.2 s3.2).bind fun x4=>(Tr.get p0x).bind fun z5=>(Tr.get p0x).bind fun z6=>if z6.1.1==7 then ((mrec x4).bind fun r10=>(Tr.get p0x).bind fun z11=>(Tr.get p0x).bind fun z12=>some (IntKind.i64.wrap (s3.1+(IntKind.i64.wrap ((IntKind.i64.wrap (r10+3))*z12.1.2.2.2))))) else ((mrec x4).bind fun r13=>some (IntKind.i64.wrap (s3.1+r13))):Option Int)) (fun s14=>some (.nxt (s14,IntKind.i64.wrap (s3.2+1))))) else (some (.brk (s3.1,s3.2)))
def a9:Nat→(Tr (Int×Int×Int×Int))→Option Int
 | 0,_=>none
 | n+1,p0x =>
  (Tr.get p0x).bind fun z0=>(Tr.get p0x).bind fun z1=>aE (ak (aV (a9 n) p0x z1) aN (1,0)) (fun r15=>some r15) (fun s16=>some (Min.min s16.1 100000))
def xj (p0kind:Int):Option (Tr (Int×Int×Int×Int)):=
 some (Tr.node (p0kind,0,0,0) ([] :List (Tr (Int×Int×Int×Int))))
def fY:Nat→(Tr (Int×Int×Int×Int))→Int→Int→Option (Tr (Int×Int×Int×Int))
 | 0,_,_,_=>none
 | n+1,p0x,p1low,p2high =>
  if p2high==0 then ((xj 2).bind fun r0=>some r0) else (((fY n) p0x (Max.max 0 (IntKind.i64.wrap (p1low - 1))) (IntKind.i64.wrap (p2high - 1))).bind fun r1=>if decide (p1low>0) then (some (Tr.node (4,0,0,0) ([p0x,r1]))) else ((xj 2).bind fun r2=>some (Tr.node (5,0,0,0) ([Tr.node (4,0,0,0) ([p0x,r1]),r2]))))
def aK (mrec:(Tr (Int×Int×Int×Int))→Option (Tr (Int×Int×Int×Int))) (z23:(Int×Int×Int×Int)×List (Tr (Int×Int×Int×Int))) (s26:Int×Int×Int×Int×Int×List (Tr (Int×Int×Int×Int))):Option (Out (Tr (Int×Int×Int×Int)) (Int×Int×Int×Int×Int×List (Tr (Int×Int×Int×Int)))):=
 if decide (s26.1<(z23.2.length:Int)) then ((aI z23.2 s26.1).bind fun x27=>(mrec x27).bind fun r30=>(cP 8 s26.2.2.2.2.2 ([r30])).bind fun z31=>some (.nxt (IntKind.i64.wrap (s26.1+1),s26.2.1,s26.2.2.1,s26.2.2.2.1,s26.2.2.2.2.1,z31))) else (some (.brk (s26.1,s26.2.1,s26.2.2.1,s26.2.2.2.1,s26.2.2.2.2.1,s26.2.2.2.2.2)))
def aQ:Nat→(Tr (Int×Int×Int×Int))→Option (Tr (Int×Int×Int×Int))
 | 0,_=>none
 | n+1,p0x =>
  (Tr.get p0x).bind fun z0=>(Tr.get p0x).bind fun z1=>if z1.1.1==7 then ((Tr.get p0x).bind fun z11=>(Tr.get p0x).bind fun z12=>(aI z12.2 0).bind fun x13=>((aQ n) x13).bind fun r14=>(Tr.get p0x).bind fun z15=>(Tr.get p0x).bind fun z16=>(Tr.get p0x).bind fun z17=>(Tr.get p0x).bind fun z18=>(fY dS r14 z16.1.2.2.1 z18.1.2.2.2).bind fun r19=>some r19) else ((Tr.get p0x).bind fun z20=>(Tr.get p0x).bind fun z21=>(Tr.get p0x).bind fun z22=>(Tr.get p0x).bind fun z23=>aE (ak (aK (aQ n) z23) aN (0,z21.1.1,z21.1.2.1,z21.1.2.2.1,z21.1.2.2.2,([] :List (Tr (Int×Int×Int×Int))))) (fun r32=>some r32) (fun s33=>some (Tr.node (s33.2.1,s33.2.2.1,s33.2.2.2.1,s33.2.2.2.2.1) s33.2.2.2.2.2)))
def aH (mrec:(Tr (Int×Int×Int×Int))→(List (Int×Int×Int×Int))→Option (List (Int×Int×Int×Int))) (z1:(Int×Int×Int×Int)×List (Tr (Int×Int×Int×Int))) (s4:Int×List (Int×Int×Int×Int)):Option (Out (List (Int×Int×Int×Int)) (Int×List (Int×Int×Int×Int))):=
 if decide (s4.1<(z1.2.length:Int)) then ((aI z1.2 s4.1).bind fun x5=>(mrec x5 s4.2).bind fun r6=>some (.nxt (IntKind.i64.wrap (s4.1+1),r6))) else (some (.brk (s4.1,s4.2)))
def aO:Nat→(Tr (Int×Int×Int×Int))→(List (Int×Int×Int×Int))→Option (List (Int×Int×Int×Int))
 | 0,_,_=>none
 | n+1,p0x,p1out =>
  (Tr.get p0x).bind fun z0=>(Tr.get p0x).bind fun z1=>aE (ak (aH (aO n) z1) aN (0,p1out)) (fun r7=>some r7) (fun s8=>(Tr.get p0x).bind fun z12=>(Tr.get p0x).bind fun z13=>(cP 32 s8.2 ([(z13.1.1,z13.1.2.1,z13.1.2.2.1,z13.1.2.2.2)])).bind fun z14=>some z14)
def mc (p0x:Tr (Int×Int×Int×Int)):Option (List (Int×Int×Int×Int)):=
 (aO dS p0x ([] :List (Int×Int×Int×Int))).bind fun r0=>some r0
def iG (p0e:List (Int×Int×Int×Int)):Option ((List (Int×Int×Int×Int))×Bool):=
 (gK p0e).bind fun r0=>if r0 then ((jG p0e).bind fun r1=>(a9 dS r1).bind fun r2=>if decide (r2>5000) then (some (([] :List (Int×Int×Int×Int)),false)) else ((aQ dS r1).bind fun r3=>(mc r3).bind fun r4=>if decide ((r4.length:Int)>400) then (some (([] :List (Int×Int×Int×Int)),false)) else (some (r4,true)))) else (some (([] :List (Int×Int×Int×Int)),false))
def bK (p0p:(List Int)×Int×Int×(List Int)×Bool) (p1last:Int) (p2first:Int) (s2:Int×List Int):Option (Out ((List Int)×Int×Int×(List Int)×Bool) (Int×List Int)):=
 if decide (s2.1<(p0p.2.2.2.1.length:Int)) then (Option.bind (((chk (0≤s2.1)).bind fun _=>if (sG (om p1last s2.1) 1)==1 then ((aI s2.2 s2.1).bind fun x4=>(aI s2.2 s2.1).bind fun x5=>some (s2.2.set s2.1.toNat (orI x4 p2first))) else (some s2.2):Option (List Int))) (fun s6=>some (.nxt (IntKind.i64.wrap (s2.1+1),s6)))) else (some (.brk (s2.1,s2.2)))
def cn (p0p:(List Int)×Int×Int×(List Int)×Bool) (p1last:Int) (p2first:Int):Option ((List Int)×Int×Int×(List Int)×Bool):=
 aE (ak (bK p0p p1last p2first) aN (0,p0p.2.2.2.1)) (fun r7=>some r7) (fun s8=>some (p0p.1,p0p.2.1,p0p.2.2.1,s8.2,p0p.2.2.2.2))
def aR:Nat→((List Int)×Int×Int×(List Int)×Bool)→(Tr (Int×Int×Int×Int))→Option ((Int×Int×Bool)×(List Int)×Int×Int×(List Int)×Bool)
 | 0,_,_=>none
 | n+1,p0,p1 =>
  (Tr.get p1).bind fun z0=>(Tr.get p1).bind fun z1=>if z1.1.1==2 then (some ((0,0,true),p0.1,p0.2.1,p0.2.2.1,p0.2.2.2.1,p0.2.2.2.2)) else (if z1.1.1==3 then ((Tr.get p1).bind fun z5=>(Tr.get p1).bind fun z6=>(cP 8 p0.1 ([z6.1.2.1])).bind fun z7=>(cP 8 p0.2.2.2.1 ([0])).bind fun z8=>some ((By 1 (p0.1.length:Int),By 1 (p0.1.length:Int),false),z7,p0.2.1,p0.2.2.1,z8,p0.2.2.2.2)) else (if z1.1.1==5 then ((Tr.get p1).bind fun z17=>(Tr.get p1).bind fun z18=>(aI z18.2 0).bind fun x19=>((aR n) (p0.1,p0.2.1,p0.2.2.1,p0.2.2.2.1,p0.2.2.2.2) x19).bind fun r20=>(Tr.get p1).bind fun z21=>(Tr.get p1).bind fun z22=>(aI z22.2 1).bind fun x23=>((aR n) r20.2 x23).bind fun r24=>if r20.1.2.2 then (some ((orI r20.1.1 r24.1.1,orI r20.1.2.1 r24.1.2.1,true),r24.2.1,r24.2.2.1,r24.2.2.2.1,r24.2.2.2.2.1,r24.2.2.2.2.2)) else (some ((orI r20.1.1 r24.1.1,orI r20.1.2.1 r24.1.2.1,r24.1.2.2),r24.2.1,r24.2.2.1,r24.2.2.2.1,r24.2.2.2.2.1,r24.2.2.2.2.2))) else (if z1.1.1==4 then ((Tr.get p1).bind fun z33=>(Tr.get p1).bind fun z34=>(aI z34.2 0).bind fun x35=>((aR n) (p0.1,p0.2.1,p0.2.2.1,p0.2.2.2.1,p0.2.2.2.2) x35).bind fun r36=>(Tr.get p1).bind fun z37=>(Tr.get p1).bind fun z38=>(aI z38.2 1).bind fun x39=>((aR n) r36.2 x39).bind fun r40=>(cn (r40.2.1,r40.2.2.1,r40.2.2.2.1,r40.2.2.2.2.1,r40.2.2.2.2.2) r36.1.2.1 r40.1.1).bind fun r41=>if r36.1.2.2 then (Option.bind ((if r36.1.2.2 then (some (orI r36.1.1 r40.1.1,r40.1.2.1,r40.1.2.2)) else (some (r36.1.1,r40.1.2.1,r40.1.2.2)):Option (Int×Int×Bool))) (fun s42=>Option.bind ((if r40.1.2.2 then (some (s42.1,orI s42.2.1 r36.1.2.1,s42.2.2)) else (some (s42.1,s42.2.1,s42.2.2)):Option (Int×Int×Bool))) (fun s43=>some ((s43.1,s43.2.1,s43.2.2),r41.1,r41.2.1,r41.2.2.1,r41.2.2.2.1,r41.2.2.2.2)))) else (Option.bind ((if r36.1.2.2 then (some (orI r36.1.1 r40.1.1,r40.1.2.1,false)) else (some (r36.1.1,r40.1.2.1,false)):Option (Int×Int×Bool))) (fun s44=>Option.bind ((if r40.1.2.2 then (some (s44.1,orI s44.2.1 r36.1.2.1,s44.2.2)) else (some (s44.1,s44.2.1,s44.2.2)):Option (Int×Int×Bool))) (fun s45=>some ((s45.1,s45.2.1,s45.2.2),r41.1,r41.2.1,r41.2.2.1,r41.2.2.2.1,r41.2.2.2.2))))) else (if z1.1.1==6 then ((Tr.get p1).bind fun z46=>(Tr.get p1).bind fun z47=>(aI z47.2 0).bind fun x48=>((aR n) (p0.1,p0.2.1,p0.2.2.1,p0.2.2.2.1,p0.2.2.2.2) x48).bind fun r49=>(cn (r49.2.1,r49.2.2.1,r49.2.2.2.1,r49.2.2.2.2.1,r49.2.2.2.2.2) r49.1.2.1 r49.1.1).bind fun r50=>some ((r49.1.1,r49.1.2.1,true),r50.1,r50.2.1,r50.2.2.1,r50.2.2.2.1,r50.2.2.2.2)) else (some ((0,0,false),p0.1,p0.2.1,p0.2.2.1,p0.2.2.2.1,p0.2.2.2.2))))))
def bY (r0:(List (Int×Int×Int×Int))×Bool) (s2:Int×Int):Option (Out (((List Int)×Int×Int×(List Int)×Bool)×Bool) (Int×Int)):=
 if decide (s2.2<(r0.1.length:Int)) then (Option.bind (((aI r0.1 s2.2).bind fun x3=>if x3.1==3 then (some (IntKind.i64.wrap (s2.1+1))) else (some s2.1):Option Int)) (fun s4=>some (.nxt (s4,IntKind.i64.wrap (s2.2+1))))) else (some (.brk (s2.1,s2.2)))
def ew (p0e:List (Int×Int×Int×Int)):Option (((List Int)×Int×Int×(List Int)×Bool)×Bool):=
 (iG p0e).bind fun r0=>if r0.2 then (aE (ak (bY r0) aN (0,0)) (fun r5=>some r5) (fun s6=>if decide (s6.1>20) then (some ((([] :List Int),0,0,([] :List Int),false),false)) else ((jG r0.1).bind fun r7=>(aR dS (([] :List Int),0,0,([] :List Int),false) r7).bind fun r8=>some ((r8.2.1,r8.1.1,r8.1.2.1,r8.2.2.2.2.1,r8.1.2.2),true)))) else (some ((([] :List Int),0,0,([] :List Int),false),false))
def cD (p3:Int→Int→Option (Int×Bool)) (s29:(List Int)×(List (Int×Int))×Int×Int×(List Bool)×(List (List Int))) (s39:(List Int)×(List (Int×Int))×(List Int)×Int):Option (Out ((Int×(List Bool)×(List (List Int)))×Bool) ((List Int)×(List (Int×Int))×(List Int)×Int)):=
 if decide (s39.2.2.2<9) then (Option.bind (((aI s39.1 s29.2.2.1).bind fun x20=>(p3 x20 s39.2.2.2).bind fun r20=>if r20.2 then ((chk (iOk r20.1=true)).bind fun _=>Option.bind ((if (lkM s39.2.1 r20.1).isSome then (some (s39.1,s39.2.1,(lkM s39.2.1 r20.1).getD 0)) else ((yf s39.2.1 iOk iOk r20.1 (s39.1.length:Int)).bind fun m37=>(cP 8 s39.1 ([r20.1])).bind fun z75=>some (z75,m37,(s39.1.length:Int))):Option ((List Int)×(List (Int×Int))×Int))) (fun s43=>(cP 8 s39.2.2.1 ([s43.2.2])).bind fun z76=>some (s43.1,s43.2.1,z76))) else ((cP 8 s39.2.2.1 ([-1])).bind fun z73=>some (s39.1,s39.2.1,z73)):Option ((List Int)×(List (Int×Int))×(List Int)))) (fun s42=>some (.nxt (s42.1,s42.2.1,s42.2.2,IntKind.i64.wrap (s39.2.2.2+1))))) else (some (.brk (s39.1,s39.2.1,s39.2.2.1,s39.2.2.2)))
def bp (p1:Int) (p2:Int→Option Bool) (p3:Int→Int→Option (Int×Bool)) (s29:(List Int)×(List (Int×Int))×Int×Int×(List Bool)×(List (List Int))):Option (Out ((Int×(List Bool)×(List (List Int)))×Bool) ((List Int)×(List (Int×Int))×Int×Int×(List Bool)×(List (List Int)))):=
 if decide (s29.2.2.1<(s29.1.length:Int)) then (aE (ak (cD p3 s29) aN (s29.1,s29.2.1,([] :List Int),0)) (fun r=>some (.ret r)) (fun s40=>if decide ((s40.1.length:Int)>p1) then (some (.ret ((0,[],[]),false))) else ((aI s40.1 s29.2.2.1).bind fun x21=>(p2 x21).bind fun r21=>(cP 1 s29.2.2.2.2.1 ([r21])).bind fun z77=>(cP 24 s29.2.2.2.2.2 ([s40.2.2.1])).bind fun z78=>some (.nxt (s40.1,s40.2.1,IntKind.i64.wrap (s29.2.2.1+1),s29.2.2.2.1,z77,z78))))) else (some (.brk (s29.1,s29.2.1,s29.2.2.1,s29.2.2.2.1,s29.2.2.2.2.1,s29.2.2.2.2.2)))
def cR (p0:Int) (p1:Int) (p2:Int→Option Bool) (p3:Int→Int→Option (Int×Bool)):Option ((Int×(List Bool)×(List (List Int)))×Bool):=
 (yf ([] :List (Int×Int)) iOk iOk p0 0).bind fun m1=>aE (ak (bp p1 p2 p3) aN ([p0],m1,0,0,[],[])) (fun r=>some r) (fun s30=>some ((s30.2.2.2.1,s30.2.2.2.2.1,s30.2.2.2.2.2),true))
def bZ (p0p:(List Int)×Int×Int×(List Int)×Bool) (p1set:Int):Option Bool:=
 if (sG p1set 1)==1 then (if p0p.2.2.2.2 then (some true) else (some ((sG (om p1set 1) p0p.2.2.1) !=0))) else (some ((sG (om p1set 1) p0p.2.2.1) !=0))
def bQ (p0p:(List Int)×Int×Int×(List Int)×Bool) (p1set:Int) (s6:Int×Int):Option (Out Int (Int×Int)):=
 if decide (s6.2<(p0p.2.2.2.1.length:Int)) then (Option.bind (((aI p0p.2.2.2.1 s6.2).bind fun x6=>(chk (0≤IntKind.i64.wrap (s6.2+1))).bind fun _=>if (sG (om p1set (IntKind.i64.wrap (s6.2+1))) 1)==1 then (some (orI s6.1 x6)) else (some s6.1):Option Int)) (fun s8=>some (.nxt (s8,IntKind.i64.wrap (s6.2+1))))) else (some (.brk (s6.1,s6.2)))
def bR (p0p:(List Int)×Int×Int×(List Int)×Bool) (p2letter:Int) (s7:Int×Int) (s13:Int×Int):Option (Out Int (Int×Int)):=
 if decide (s13.2<(p0p.1.length:Int)) then (Option.bind (((aI p0p.1 s13.2).bind fun x12=>if x12==p2letter then ((chk (0≤s13.2)).bind fun _=>if (sG (om s7.1 s13.2) 1)==1 then ((chk (0≤IntKind.i64.wrap (s13.2+1))).bind fun _=>some (orI s13.1 (By 1 (IntKind.i64.wrap (s13.2+1))))) else (some s13.1)) else (some s13.1):Option Int)) (fun s15=>some (.nxt (s15,IntKind.i64.wrap (s13.2+1))))) else (some (.brk (s13.1,s13.2)))
def dJ (p0p:(List Int)×Int×Int×(List Int)×Bool) (p1set:Int) (p2letter:Int):Option Int:=
 Option.bind ((if (sG p1set 1)==1 then (some p0p.2.1) else (some 0):Option Int)) (fun s1=>aE (ak (bQ p0p p1set) aN (s1,0)) (fun r=>some r) (fun s7=>aE (ak (bR p0p p2letter s7) aN (0,0)) (fun r=>some r) (fun s14=>some s14.1)))
def bS (p0set:Int) (p1letter:Int) (q0:(List Int)×Int×Int×(List Int)×Bool):Option (Int×Bool):=
 (dJ (q0.1,q0.2.1,q0.2.2.1,q0.2.2.2.1,q0.2.2.2.2) p0set p1letter).bind fun r1=>some (r1,r1 !=0)
def eN (p0p:(List Int)×Int×Int×(List Int)×Bool) (p1most:Int):Option ((Int×(List Bool)×(List (List Int)))×Bool):=
 (cR 1 p1most (fun a0=>bZ (p0p.1,p0p.2.1,p0p.2.2.1,p0p.2.2.2.1,p0p.2.2.2.2) a0) (fun a0 a1=>bS a0 a1 (p0p.1,p0p.2.1,p0p.2.2.1,p0p.2.2.2.1,p0p.2.2.2.2))).bind fun r1=>some ((r1.1.1,r1.1.2.1,r1.1.2.2),r1.2)
def b7 (s5:Bool×Int×List Bool) (x6:List Int) (s8:Bool×Int×List Bool):Option (Out (List Bool) (Bool×Int×List Bool)):=
 if decide (s8.2.1<(x6.length:Int)) then (Option.bind (((aI x6 s8.2.1).bind fun x9=>if decide (x9≥0) then ((aI s8.2.2 x9).bind fun x10=>if x10 then ((aI s8.2.2 s5.2.1).bind fun x11=>if x11 then (some (s8.1,s8.2.2)) else ((aI s8.2.2 s5.2.1).bind fun x12=>some (true,s8.2.2.set s5.2.1.toNat true))) else (some (s8.1,s8.2.2))) else (some (s8.1,s8.2.2)):Option (Bool×List Bool))) (fun s13=>some (.nxt (s13.1,IntKind.i64.wrap (s8.2.1+1),s13.2)))) else (some (.brk (s8.1,s8.2.1,s8.2.2)))
def b8 (p0a:Int×(List Bool)×List (List Int)) (s5:Bool×Int×List Bool):Option (Out (List Bool) (Bool×Int×List Bool)):=
 if decide (s5.2.1<(p0a.2.2.length:Int)) then ((aI p0a.2.2 s5.2.1).bind fun x6=>aE (ak (b7 s5 x6) aN (s5.1,0,s5.2.2)) (fun r14=>some (.ret r14)) (fun s15=>some (.nxt (s15.1,IntKind.i64.wrap (s5.2.1+1),s15.2.2)))) else (some (.brk (s5.1,s5.2.1,s5.2.2)))
def eO (p0a:Int×(List Bool)×List (List Int)) (s3:Bool×List Bool):Option (Out (List Bool) (Bool×List Bool)):=
 if s3.1 then (aE (ak (b8 p0a) aN (false,0,s3.2)) (fun r16=>some (.ret r16)) (fun s17=>some (.nxt (s17.1,s17.2.2)))) else (some (.brk (s3.1,s3.2)))
def cT (p0a:Int×(List Bool)×List (List Int)):Option (List Bool):=
 (cP 1 ([] :List Bool) p0a.2.1).bind fun z0=>aE (ak (eO p0a) aN (true,z0)) (fun r18=>some r18) (fun s19=>some s19.2)
def bt (p0s:List (List Int)) (p1f:(List Int)→Option Bool) (s3:Int):Option (Out Int Int):=
 if decide (s3<(p0s.length:Int)) then ((aI p0s s3).bind fun x3=>(p1f x3).bind fun r6=>if r6 then (some (.ret s3)) else (some (.nxt (IntKind.i64.wrap (s3+1))))) else (some (.brk s3))
def bf (p0s:List (List Int)) (p1f:(List Int)→Option Bool):Option Int:=
 aE (ak (bt p0s p1f) aN 0) (fun r=>some r) (fun s4=>some (-1))
def bB (p0s1:List Int) (p1s2:List Int) (s3:Int):Option (Out Bool Int):=
 if decide (s3<(p0s1.length:Int)) then ((aI p0s1 s3).bind fun x5=>(aI p1s2 s3).bind fun x6=>if x5 !=x6 then (some (.ret false)) else (some (.nxt (IntKind.i64.wrap (s3+1))))) else (some (.brk s3))
def bO (p0s1:List Int) (p1s2:List Int):Option Bool:=
 if (p0s1.length:Int) !=(p1s2.length:Int) then (some false) else (aE (ak (bB p0s1 p1s2) aN 0) (fun r=>some r) (fun s4=>some true))
def ek (p0x:List Int) (q0:List Int):Option Bool:=
 (bO p0x q0).bind fun r1=>some r1
def bL (p1:List Int) (x57:List Int) (s52:Int×(List Int)):Option (Out ((List Int)×Int) (Int×(List Int))):=
 if decide (s52.1<(x57.length:Int)) then ((aI x57 s52.1).bind fun x64=>Option.bind ((if decide (x64≥0) then ((aI p1 x64).bind fun x66=>some x66) else (some x64):Option Int)) (fun s54=>(cP 8 s52.2 ([s54])).bind fun z38=>some (.nxt (IntKind.i64.wrap (s52.1+1),z38)))) else (some (.brk (s52.1,s52.2)))
def cw (p0:Int×(List Bool)×(List (List Int))) (p1:List Int) (s37:(List (List Int))×(List Int)×Int):Option (Out ((List Int)×Int) ((List (List Int))×(List Int)×Int)):=
 if decide (s37.2.2<(p1.length:Int)) then (Option.bind (((aI p1 s37.2.2).bind fun x56=>if decide (x56<0) then ((cP 8 s37.2.1 ([-1])).bind fun z42=>some (s37.1,z42)) else ((aI p0.2.2 s37.2.2).bind fun x57=>aE (ak (bL p1 x57) aN (0,[x56])) (fun _=>none) (fun s53=>(bf s37.1 (fun a0=>ek a0 s53.2)).bind fun r12=>Option.bind ((if decide (r12<0) then ((cP 24 s37.1 ([s53.2])).bind fun z40=>some (z40,(s37.1.length:Int))) else (some (s37.1,r12)):Option ((List (List Int))×Int))) (fun s55=>(cP 8 s37.2.1 ([s55.2])).bind fun z41=>some (s55.1,z41)))):Option ((List (List Int))×(List Int)))) (fun s47=>some (.nxt (s47.1,s47.2,IntKind.i64.wrap (s37.2.2+1))))) else (some (.brk (s37.1,s37.2.1,s37.2.2)))
def cq (p0:Int×(List Bool)×(List (List Int))) (p1:List Int):Option ((List Int)×Int):=
 aE (ak (cw p0 p1) aN (([] :List (List Int)),([] :List Int),0)) (fun r=>some r) (fun s38=>some (s38.2.1,(s38.1.length:Int)))
def bE (p0a:Int×(List Bool)×(List (List Int))) (r1:List Bool) (s5:(List Int)×Int):Option (Out (List Int) ((List Int)×Int)):=
 if decide (s5.2<(r1.length:Int)) then (Option.bind (((aI r1 s5.2).bind fun x11=>if x11 then ((aI p0a.2.1 s5.2).bind fun x12=>if x12 then ((cP 8 s5.1 ([1])).bind fun z18=>some z18) else ((cP 8 s5.1 ([0])).bind fun z17=>some z17)) else ((cP 8 s5.1 ([-1])).bind fun z16=>some z16):Option (List Int))) (fun s7=>some (.nxt (s7,IntKind.i64.wrap (s5.2+1))))) else (some (.brk (s5.1,s5.2)))
def dy (p0a:Int×(List Bool)×(List (List Int))) (s10:(List Int)×Int):Option (Out (List Int) ((List Int)×Int)):=
 (cq (p0a.1,p0a.2.1,p0a.2.2) s10.1).bind fun r4=>if r4.2==s10.2 then (some (.ret r4.1)) else (some (.nxt (r4.1,r4.2)))
def b9 (p0a:Int×(List Bool)×(List (List Int))):Option (List Int):=
 (cT (p0a.1,p0a.2.1,p0a.2.2)).bind fun r1=>aE (ak (bE p0a r1) aN (([] :List Int),0)) (fun r=>some r) (fun s6=>aE (ak (dy p0a) aN (s6.1,-1)) (fun r=>some r) (fun s11=>none))
def oW (p0x:Int) (p1y:Int):Option (Int×Int):=
 some (IntKind.u32.wrap (om (IntKind.u64.wrap ((IntKind.u64.wrap p0x)*(IntKind.u64.wrap p1y))) 32),IntKind.u32.wrap (IntKind.u64.wrap ((IntKind.u64.wrap p0x)*(IntKind.u64.wrap p1y))))
def jW (p0x:Int) (p1y:Int):Option (Int×Int):=
 some (IntKind.u64.wrap ((IntKind.u64.wrap ((IntKind.u64.wrap ((om p0x 32)*(om p1y 32)))+(om (IntKind.u64.wrap ((IntKind.u64.wrap ((om p0x 32)*(G8 p1y 4294967295)))+(om (IntKind.u64.wrap ((G8 p0x 4294967295)*(G8 p1y 4294967295))) 32))) 32)))+(om (IntKind.u64.wrap ((G8 (IntKind.u64.wrap ((IntKind.u64.wrap ((om p0x 32)*(G8 p1y 4294967295)))+(om (IntKind.u64.wrap ((G8 p0x 4294967295)*(G8 p1y 4294967295))) 32))) 4294967295)+(IntKind.u64.wrap ((G8 p0x 4294967295)*(om p1y 32))))) 32)),IntKind.u64.wrap (p0x*p1y))
def lp (p0x:Int) (p1y:Int):Option (Int×Int):=
 (jW p0x p1y).bind fun r1=>some (r1.1,r1.2)
def iQ (s4:Int×List Int):Option (Out (List Int) (Int×List Int)):=
 if decide (s4.1<(s4.2.length:Int)) then ((chk (And (0≤s4.1) (s4.1≤(s4.2.length:Int)))).bind fun _=>(chk (And (0≤s4.1) (s4.1≤(s4.2.length:Int)))).bind fun _=>(chk (And (0≤s4.1) (s4.1≤(s4.2.length:Int)))).bind fun _=>(chk (And (0≤s4.1) (s4.1≤(s4.2.length:Int)))).bind fun _=>some (.nxt (IntKind.i64.wrap (s4.1+((Min.min ((s4.2.take s4.1.toNat).length) (s4.2.length - s4.1.toNat):Nat):Int)),uR s4.2 s4.1.toNat (s4.2.take s4.1.toNat)))) else (some (.brk (s4.1,s4.2)))
def eP (p0x:List Int) (p1count:Int):Option (List Int):=
 if decide (p1count<0) then (none) else ((lp (IntKind.u64.wrap (p0x.length:Int)) (IntKind.u64.wrap p1count)).bind fun r0=>if decide (r0.1>0) then (none) else (if decide (r0.2>9223372036854775807) then (none) else ((mkI 8 (IntKind.i64.wrap r0.2) 0).bind fun z1=>aE (ak (iQ) aN (((Min.min p0x.length (z1.length - 0):Nat):Int),uR z1 0 p0x)) (fun r13=>some r13) (fun s14=>some s14.2))))
def oX:Option (Int×(List Bool)×(List (List Int))):=
 (eP ([-1]) 9).bind fun r1=>some (0,[false],[r1])
def cj (p0s:List Int) (p1v:Int) (s3:Int):Option (Out Int Int):=
 if decide (s3<(p0s.length:Int)) then ((aI p0s s3).bind fun x3=>if p1v==x3 then (some (.ret s3)) else (some (.nxt (IntKind.i64.wrap (s3+1))))) else (some (.brk s3))
def cN (p0s:List Int) (p1v:Int):Option Int:=
 aE (ak (cj p0s p1v) aN 0) (fun r=>some r) (fun s4=>some (-1))
def aD (p0class:Int) (q0:List Int):Option Int:=
 (cN q0 p0class).bind fun r1=>some r1
def bF (p0c:Int) (q0:Int×(List Bool)×(List (List Int))) (q1:Int→Option Int):Option Bool:=
 (q1 p0c).bind fun r1=>(aI q0.2.1 r1).bind fun x1=>some x1
def ba (p0a:Int×(List Bool)×(List (List Int))) (p1s:Int) (p2letter:Int):Option Int:=
 if decide (p1s<0) then (some (-1)) else ((fX p2letter).bind fun r1=>if r1 then ((aI p0a.2.2 p1s).bind fun x1=>(aI x1 p2letter).bind fun x2=>some x2) else (some (-1)))
def bG (p0c:Int) (p1letter:Int) (q0:Int×(List Bool)×(List (List Int))) (q1:Int→Option Int) (q2:List Int):Option (Int×Bool):=
 (q1 p0c).bind fun r1=>(ba (q0.1,q0.2.1,q0.2.2) r1 p1letter).bind fun r2=>if decide (r2<0) then (some (0,false)) else ((aI q2 r2).bind fun x1=>if decide (x1<0) then (some (0,false)) else ((aI q2 r2).bind fun x2=>some (x2,true)))
def cK (p0a:Int×(List Bool)×(List (List Int))):Option (Int×(List Bool)×(List (List Int))):=
 (b9 (p0a.1,p0a.2.1,p0a.2.2)).bind fun r1=>(aI r1 p0a.1).bind fun x1=>if decide (x1<0) then ((oX).bind fun r3=>some (r3.1,r3.2.1,r3.2.2)) else ((aI r1 p0a.1).bind fun x2=>(cR x2 (r1.length:Int) (fun a0=>bF a0 (p0a.1,p0a.2.1,p0a.2.2) (fun a0=>aD a0 r1)) (fun a0 a1=>bG a0 a1 (p0a.1,p0a.2.1,p0a.2.2) (fun a0=>aD a0 r1) r1)).bind fun r2=>some (r2.1.1,r2.1.2.1,r2.1.2.2))
def tK (p0a:Int×(List Bool)×(List (List Int))):Option ((Int×(List Bool)×(List (List Int)))×Bool):=
 (cK (p0a.1,p0a.2.1,p0a.2.2)).bind fun r1=>if decide ((r1.2.1.length:Int)>12) then (some ((0,[],[]),false)) else (some ((r1.1,r1.2.1,r1.2.2),true))
def eQ (p0e:(List (Int×Int×Int×Int))):Option ((Int×(List Bool)×(List (List Int)))×Bool):=
 (ew p0e).bind fun r1=>if r1.2 then ((eN (r1.1.1,r1.1.2.1,r1.1.2.2.1,r1.1.2.2.2.1,r1.1.2.2.2.2) 200).bind fun r2=>if r2.2 then ((tK (r2.1.1,r2.1.2.1,r2.1.2.2)).bind fun r3=>some ((r3.1.1,r3.1.2.1,r3.1.2.2),r3.2)) else (some ((0,[],[]),false))) else (some ((0,[],[]),false))
def a8 (p0s:List (Int×(List Bool)×(List (List Int)))) (p1f:(Int×(List Bool)×(List (List Int)))→Option Bool) (s3:Int):Option (Out Int Int):=
 if decide (s3<(p0s.length:Int)) then ((aI p0s s3).bind fun x3=>(p1f (x3.1,x3.2.1,x3.2.2)).bind fun r9=>if r9 then (some (.ret s3)) else (some (.nxt (IntKind.i64.wrap (s3+1))))) else (some (.brk s3))
def aC (p0s:List (Int×(List Bool)×(List (List Int)))) (p1f:(Int×(List Bool)×(List (List Int)))→Option Bool):Option Int:=
 aE (ak (a8 p0s p1f) aN 0) (fun r=>some r) (fun s4=>some (-1))
def br (p0s1:List Bool) (p1s2:List Bool) (s3:Int):Option (Out Bool Int):=
 if decide (s3<(p0s1.length:Int)) then ((aI p0s1 s3).bind fun x5=>(aI p1s2 s3).bind fun x6=>if x5 !=x6 then (some (.ret false)) else (some (.nxt (IntKind.i64.wrap (s3+1))))) else (some (.brk s3))
def cx (p0s1:List Bool) (p1s2:List Bool):Option Bool:=
 if (p0s1.length:Int) !=(p1s2.length:Int) then (some false) else (aE (ak (br p0s1 p1s2) aN 0) (fun r=>some r) (fun s4=>some true))
def aB (p0s1:List (List Int)) (p1s2:List (List Int)) (p2eq:(List Int)→(List Int)→Option Bool) (s3:Int):Option (Out Bool Int):=
 if decide (s3<(p0s1.length:Int)) then ((aI p0s1 s3).bind fun x5=>(aI p1s2 s3).bind fun x6=>(p2eq x5 x6).bind fun r9=>if r9 then (some (.nxt (IntKind.i64.wrap (s3+1)))) else (some (.ret false))) else (some (.brk s3))
def aY (p0s1:List (List Int)) (p1s2:List (List Int)) (p2eq:(List Int)→(List Int)→Option Bool):Option Bool:=
 if (p0s1.length:Int) !=(p1s2.length:Int) then (some false) else (aE (ak (aB p0s1 p1s2 p2eq) aN 0) (fun r=>some r) (fun s4=>some true))
def dK (p0x:List Int) (p1y:List Int):Option Bool:=
 (bO p0x p1y).bind fun r1=>some r1
def cz (p0a:Int×(List Bool)×(List (List Int))) (p1b:Int×(List Bool)×(List (List Int))):Option Bool:=
 if p0a.1==p1b.1 then ((cx p0a.2.1 p1b.2.1).bind fun r1=>if r1 then ((aY p0a.2.2 p1b.2.2 (fun a0 a1=>dK a0 a1)).bind fun r2=>some r2) else (some false)) else (some false)
def iR (p0b:Int×(List Bool)×(List (List Int))) (q0:Int×(List Bool)×(List (List Int))):Option Bool:=
 (cz (q0.1,q0.2.1,q0.2.2) (p0b.1,p0b.2.1,p0b.2.2)).bind fun r1=>some r1
def iS (p0e:(List (Int×Int×Int×Int))):Option (List (Int×Int×Int×Int)):=
 (cP 32 ([] :List (Int×Int×Int×Int)) p0e).bind fun z1=>some z1
def gL (p0:List (Int×((List (Int×Int×Int×Int)))×Int)) (s7:Int×(List (Int×(List Bool)×(List (List Int))))×(List (Int×((List (Int×Int×Int×Int)))×Int))):Option (Out (((List (Int×(List Bool)×(List (List Int))))×(List (Int×((List (Int×Int×Int×Int)))×Int)))×Bool) (Int×(List (Int×(List Bool)×(List (List Int))))×(List (Int×((List (Int×Int×Int×Int)))×Int)))):=
 if decide (s7.1<(p0.length:Int)) then ((aI p0 s7.1).bind fun x5=>(eQ x5.2.1).bind fun r16=>if r16.2 then ((eg x5.1 1 99).bind fun r17=>if r17 then (if decide (s7.1>0) then ((aI p0 (IntKind.i64.wrap (s7.1 - 1))).bind fun x6=>if decide (x6.1≥x5.1) then (some (.ret (([],[]),false))) else ((aC s7.2.1 (fun a0=>iR a0 (r16.1.1,r16.1.2.1,r16.1.2.2))).bind fun r20=>Option.bind ((if decide (r20<0) then ((cP 56 s7.2.1 ([(r16.1.1,r16.1.2.1,r16.1.2.2)])).bind fun z17=>some ((s7.2.1.length:Int),z17,s7.2.2)) else (some (r20,s7.2.1,s7.2.2)):Option (Int×(List (Int×(List Bool)×(List (List Int))))×(List (Int×((List (Int×Int×Int×Int)))×Int))))) (fun s10=>(iS x5.2.1).bind fun r21=>(cP 40 s10.2.2 ([(x5.1,r21,s10.1)])).bind fun z18=>some (.nxt (IntKind.i64.wrap (s7.1+1),s10.2.1,z18))))) else ((aC s7.2.1 (fun a0=>iR a0 (r16.1.1,r16.1.2.1,r16.1.2.2))).bind fun r18=>Option.bind ((if decide (r18<0) then ((cP 56 s7.2.1 ([(r16.1.1,r16.1.2.1,r16.1.2.2)])).bind fun z14=>some ((s7.2.1.length:Int),z14,s7.2.2)) else (some (r18,s7.2.1,s7.2.2)):Option (Int×(List (Int×(List Bool)×(List (List Int))))×(List (Int×((List (Int×Int×Int×Int)))×Int))))) (fun s9=>(iS x5.2.1).bind fun r19=>(cP 40 s9.2.2 ([(x5.1,r19,s9.1)])).bind fun z15=>some (.nxt (IntKind.i64.wrap (s7.1+1),s9.2.1,z15))))) else (some (.ret (([],[]),false)))) else (some (.ret (([],[]),false)))) else (some (.brk (s7.1,s7.2.1,s7.2.2)))
def nX (p0:List (Int×((List (Int×Int×Int×Int)))×Int)):Option (((List (Int×(List Bool)×(List (List Int))))×(List (Int×((List (Int×Int×Int×Int)))×Int)))×Bool):=
 aE (ak (gL p0) aN (0,[],[])) (fun r=>some r) (fun s8=>some ((s8.2.1,s8.2.2),decide ((p0.length:Int)≤4)))
def aq (p0s1:List (Int×(List Bool)×(List (List Int)))) (p1s2:List (Int×(List Bool)×(List (List Int)))) (p2eq:(Int×(List Bool)×(List (List Int)))→(Int×(List Bool)×(List (List Int)))→Option Bool) (s3:Int):Option (Out Bool Int):=
 if decide (s3<(p0s1.length:Int)) then ((aI p0s1 s3).bind fun x5=>(aI p1s2 s3).bind fun x6=>(p2eq (x5.1,x5.2.1,x5.2.2) (x6.1,x6.2.1,x6.2.2)).bind fun r15=>if r15 then (some (.nxt (IntKind.i64.wrap (s3+1)))) else (some (.ret false))) else (some (.brk s3))
def aA (p0s1:List (Int×(List Bool)×(List (List Int)))) (p1s2:List (Int×(List Bool)×(List (List Int)))) (p2eq:(Int×(List Bool)×(List (List Int)))→(Int×(List Bool)×(List (List Int)))→Option Bool):Option Bool:=
 if (p0s1.length:Int) !=(p1s2.length:Int) then (some false) else (aE (ak (aq p0s1 p1s2 p2eq) aN 0) (fun r=>some r) (fun s4=>some true))
def al (p0s1:List (Int×((List (Int×Int×Int×Int)))×Int)) (p1s2:List (Int×((List (Int×Int×Int×Int)))×Int)) (p2eq:(Int×((List (Int×Int×Int×Int)))×Int)→(Int×((List (Int×Int×Int×Int)))×Int)→Option Bool) (s3:Int):Option (Out Bool Int):=
 if decide (s3<(p0s1.length:Int)) then ((aI p0s1 s3).bind fun x5=>(aI p1s2 s3).bind fun x6=>(p2eq (x5.1,x5.2.1,x5.2.2) (x6.1,x6.2.1,x6.2.2)).bind fun r9=>if r9 then (some (.nxt (IntKind.i64.wrap (s3+1)))) else (some (.ret false))) else (some (.brk s3))
def az (p0s1:List (Int×((List (Int×Int×Int×Int)))×Int)) (p1s2:List (Int×((List (Int×Int×Int×Int)))×Int)) (p2eq:(Int×((List (Int×Int×Int×Int)))×Int)→(Int×((List (Int×Int×Int×Int)))×Int)→Option Bool):Option Bool:=
 if (p0s1.length:Int) !=(p1s2.length:Int) then (some false) else (aE (ak (al p0s1 p1s2 p2eq) aN 0) (fun r=>some r) (fun s4=>some true))
def bj (p0s1:List (Int×Int×Int×Int)) (p1s2:List (Int×Int×Int×Int)) (s3:Int):Option (Out Bool Int):=
 if decide (s3<(p0s1.length:Int)) then ((aI p0s1 s3).bind fun x5=>(aI p1s2 s3).bind fun x6=>if (x5.1==x6.1)&&((x5.2.1==x6.2.1)&&((x5.2.2.1==x6.2.2.1)&&((x5.2.2.2==x6.2.2.2)&&true))) then (some (.nxt (IntKind.i64.wrap (s3+1)))) else (some (.ret false))) else (some (.brk s3))
def bw (p0s1:List (Int×Int×Int×Int)) (p1s2:List (Int×Int×Int×Int)):Option Bool:=
 if (p0s1.length:Int) !=(p1s2.length:Int) then (some false) else (aE (ak (bj p0s1 p1s2) aN 0) (fun r=>some r) (fun s4=>some true))
def iH (p0a:(List (Int×Int×Int×Int))) (p1b:(List (Int×Int×Int×Int))):Option Bool:=
 (bw p0a p1b).bind fun r1=>some r1
def dX (p0a:Int×((List (Int×Int×Int×Int)))×Int) (p1b:Int×((List (Int×Int×Int×Int)))×Int):Option Bool:=
 if p0a.1==p1b.1 then ((iH p0a.2.1 p1b.2.1).bind fun r1=>if r1 then (some (p0a.2.2==p1b.2.2)) else (some false)) else (some false)
def dL (p0a:(List (Int×(List Bool)×(List (List Int))))×(List (Int×((List (Int×Int×Int×Int)))×Int))) (p1b:(List (Int×(List Bool)×(List (List Int))))×(List (Int×((List (Int×Int×Int×Int)))×Int))):Option Bool:=
 (aA p0a.1 p1b.1 (fun a0 a1=>cz a0 a1)).bind fun r1=>if r1 then ((az p0a.2 p1b.2 (fun a0 a1=>dX a0 a1)).bind fun r2=>some r2) else (some false)
def dM (p0r:(List (Int×(List Bool)×(List (List Int))))×(List (Int×((List (Int×Int×Int×Int)))×Int))):Option Bool:=
 (nX p0r.2).bind fun r1=>if r1.2 then ((dL (r1.1.1,r1.1.2) (p0r.1,p0r.2)).bind fun r2=>some r2) else (some false)
def eR (p0l:List Int):Option (List Int):=
 (cP 8 ([] :List Int) p0l).bind fun z1=>some z1
def cr (p0a:Int×(List Bool)×(List (List Int))) (s3:Int×Int×(List Bool)×(List (List Int))):Option (Out (Int×(List Bool)×(List (List Int))) (Int×Int×(List Bool)×(List (List Int)))):=
 if decide (s3.1<(p0a.2.2.length:Int)) then ((aI p0a.2.2 s3.1).bind fun x3=>(eR x3).bind fun r6=>(cP 24 s3.2.2.2 ([r6])).bind fun z4=>some (.nxt (IntKind.i64.wrap (s3.1+1),s3.2.1,s3.2.2.1,z4))) else (some (.brk (s3.1,s3.2.1,s3.2.2.1,s3.2.2.2)))
def fa (p0a:Int×(List Bool)×(List (List Int))):Option (Int×(List Bool)×(List (List Int))):=
 (cP 1 ([] :List Bool) p0a.2.1).bind fun z1=>aE (ak (cr p0a) aN (0,p0a.1,z1,[])) (fun r=>some r) (fun s4=>some (s4.2.1,s4.2.2.1,s4.2.2.2))
def ez (p0r:(List (Int×(List Bool)×(List (List Int))))×(List (Int×((List (Int×Int×Int×Int)))×Int))) (p1id:Int):Option ((Int×(List Bool)×(List (List Int)))×Bool):=
 (jy (p0r.1,p0r.2) p1id).bind fun r1=>if decide (r1<0) then (some ((0,[],[]),false)) else ((dM (p0r.1,p0r.2)).bind fun r2=>if r2 then ((aI p0r.2 r1).bind fun x1=>(aI p0r.1 x1.2.2).bind fun x2=>(fa (x2.1,x2.2.1,x2.2.2)).bind fun r5=>some ((r5.1,r5.2.1,r5.2.2),true)) else (some ((0,[],[]),false)))
def bs (p0a:Int×(List Bool)×(List (List Int))) (x9:List Int) (s15:Int):Option (Out Bool Int):=
 if decide (s15<(x9.length:Int)) then ((aI x9 s15).bind fun x12=>(eg x12 (-1) (IntKind.i64.wrap ((p0a.2.1.length:Int) - 1))).bind fun r14=>if r14 then (some (.nxt (IntKind.i64.wrap (s15+1)))) else (some (.ret false))) else (some (.brk s15))
def cy (p0a:Int×(List Bool)×(List (List Int))) (s11:Int):Option (Out Bool Int):=
 if decide (s11<(p0a.2.2.length:Int)) then ((aI p0a.2.2 s11).bind fun x9=>aE (ak (bs p0a x9) aN 0) (fun r=>some (.ret r)) (fun s16=>if (x9.length:Int) !=9 then (some (.ret false)) else (some (.nxt (IntKind.i64.wrap (s11+1)))))) else (some (.brk s11))
def bh (p0a:Int×(List Bool)×(List (List Int))):Option Bool:=
 (eg (p0a.2.1.length:Int) 1 12).bind fun r1=>if r1 then ((eg p0a.1 0 (IntKind.i64.wrap ((p0a.2.1.length:Int) - 1))).bind fun r2=>if r2 then (if (p0a.2.2.length:Int) !=(p0a.2.1.length:Int) then (some false) else (aE (ak (cy p0a) aN 0) (fun r=>some r) (fun s12=>some true))) else (some false)) else (some false)
def bM (p1next:(Int×Int)→Int→Option (Int×Int)) (x4:(Int×Int)×List Int) (s8:(List ((Int×Int)×List Int))×Int×List ((Int×Int)×Bool)):Option (Out ((List Int)×Bool) ((List ((Int×Int)×List Int))×Int×List ((Int×Int)×Bool))):=
 if decide (s8.2.1<9) then (Option.bind (((p1next (x4.1.1,x4.1.2) s8.2.1).bind fun r9=>(chk ((Ad (r9.1,r9.2))=true)).bind fun _=>if Option.getD (lkM s8.2.2 (r9.1,r9.2)) false then (some (s8.1,s8.2.2)) else ((yf s8.2.2 Ad bOk (r9.1,r9.2) true).bind fun z11=>(eR x4.2).bind fun r15=>(cP 8 r15 ([s8.2.1])).bind fun z16=>(cP 40 s8.1 ([((r9.1,r9.2),z16)])).bind fun z17=>some (z17,z11)):Option ((List ((Int×Int)×List Int))×List ((Int×Int)×Bool)))) (fun s18=>some (.nxt (s18.1,IntKind.i64.wrap (s8.2.1+1),s18.2)))) else (some (.brk (s8.1,s8.2.1,s8.2.2)))
def dN (p1next:(Int×Int)→Int→Option (Int×Int)) (p2test:(Int×Int)→Option Bool) (s3:(List ((Int×Int)×List Int))×List ((Int×Int)×Bool)):Option (Out ((List Int)×Bool) ((List ((Int×Int)×List Int))×List ((Int×Int)×Bool))):=
 if decide ((s3.1.length:Int)>0) then ((aI s3.1 0).bind fun x4=>(p2test (x4.1.1,x4.1.2)).bind fun r5=>if r5 then ((eR x4.2).bind fun r6=>some (.ret (r6,true))) else (aE (ak (bM p1next x4) aN (s3.1,0,s3.2)) (fun r19=>some (.ret r19)) (fun s20=>(chk (And ((0:Int)≤1) (1≤(s20.1.length:Int)))).bind fun _=>some (.nxt (s20.1.drop 1,s20.2.2))))) else (some (.brk (s3.1,s3.2)))
def ct (p0first:Int×Int) (p1next:(Int×Int)→Int→Option (Int×Int)) (p2test:(Int×Int)→Option Bool):Option ((List Int)×Bool):=
 (yf ([] :List ((Int×Int)×Bool)) Ad bOk (p0first.1,p0first.2) true).bind fun z0=>aE (ak (dN p1next p2test) aN ([((p0first.1,p0first.2),([] :List Int))],z0)) (fun r22=>some r22) (fun s23=>some (([] :List Int),false))
def fC (p0s:Int×Int) (p1letter:Int) (q0:Int×(List Bool)×(List (List Int))) (q1:Int×(List Bool)×(List (List Int))):Option (Int×Int):=
 (ba (q0.1,q0.2.1,q0.2.2) p0s.1 p1letter).bind fun r1=>(ba (q1.1,q1.2.1,q1.2.2) p0s.2 p1letter).bind fun r2=>some (r1,r2)
def bd (p0a:Int×(List Bool)×(List (List Int))) (p1s:Int):Option Bool:=
 if decide (p1s≥0) then ((aI p0a.2.1 p1s).bind fun x1=>some x1) else (some false)
def dz (p0s:Int×Int) (q0:Int×(List Bool)×(List (List Int))) (q1:Int×(List Bool)×(List (List Int))):Option Bool:=
 (bd (q0.1,q0.2.1,q0.2.2) p0s.2).bind fun r1=>if r1 then ((bd (q1.1,q1.2.1,q1.2.2) p0s.1).bind fun r2=>some (!r2)) else (some false)
def jX (p0a:Int×(List Bool)×List (List Int)) (p1b:Int×(List Bool)×List (List Int)):Option ((List Int)×Bool):=
 (bh (p0a.1,p0a.2.1,p0a.2.2)).bind fun r0=>if r0 then ((bh (p1b.1,p1b.2.1,p1b.2.2)).bind fun r1=>if r1 then ((ct (p0a.1,p1b.1) (fun (u6:Int×Int) (u7:Int)=>fC u6 u7 (p0a.1,p0a.2.1,p0a.2.2) (p1b.1,p1b.2.1,p1b.2.2)) (fun (u8:Int×Int)=>dz u8 (p1b.1,p1b.2.1,p1b.2.2) (p0a.1,p0a.2.1,p0a.2.2))).bind fun r9=>some (r9.1,r9.2)) else (some (([] :List Int),false))) else (some (([] :List Int),false))
def dh (p0a:Int×(List Bool)×(List (List Int))) (p1b:Int×(List Bool)×(List (List Int))):Option Bool:=
 (jX (p0a.1,p0a.2.1,p0a.2.2) (p1b.1,p1b.2.1,p1b.2.2)).bind fun r1=>(bh (p0a.1,p0a.2.1,p0a.2.2)).bind fun r2=>if r2 then ((bh (p1b.1,p1b.2.1,p1b.2.2)).bind fun r3=>if r3 then (some (!r1.2)) else (some false)) else (some false)
def bA (p0r:(List (Int×(List Bool)×(List (List Int))))×(List (Int×((List (Int×Int×Int×Int)))×Int))) (p1id:Int) (r1:(Int×(List Bool)×(List (List Int)))×Bool) (s5:(List Int)×Int):Option (Out (List Int) ((List Int)×Int)):=
 if decide (s5.2<(p0r.2.length:Int)) then (Option.bind (((aI p0r.2 s5.2).bind fun x11=>if x11.1 !=p1id then ((aI p0r.1 x11.2.2).bind fun x12=>(dh (r1.1.1,r1.1.2.1,r1.1.2.2) (x12.1,x12.2.1,x12.2.2)).bind fun r25=>if r25 then ((cP 8 s5.1 ([x11.1])).bind fun z6=>some z6) else (some s5.1)) else (some s5.1):Option (List Int))) (fun s7=>some (.nxt (s7,IntKind.i64.wrap (s5.2+1))))) else (some (.brk (s5.1,s5.2)))
def cE (p0r:(List (Int×(List Bool)×(List (List Int))))×(List (Int×((List (Int×Int×Int×Int)))×Int))) (p1id:Int):Option (List Int):=
 (ez (p0r.1,p0r.2) p1id).bind fun r1=>if r1.2 then (aE (ak (bA p0r p1id r1) aN (([] :List Int),0)) (fun r=>some r) (fun s6=>some s6.1)) else (some ([]))
def jz (p0a:List Int) (p1b:List Int) (s3:Int):Option (Out Bool Int):=
 if decide (s3<(p0a.length:Int)) then ((aI p0a s3).bind fun x5=>(aI p1b s3).bind fun x6=>if x5 !=x6 then (some (.ret false)) else (some (.nxt (IntKind.i64.wrap (s3+1))))) else (some (.brk s3))
def jH (p0a:List Int) (p1b:List Int):Option Bool:=
 if (p0a.length:Int) !=(p1b.length:Int) then (some false) else (aE (ak (jz p0a p1b) aN 0) (fun r=>some r) (fun s4=>some true))
def iI (p0a:List Bool) (p1b:List Bool) (s3:Int):Option (Out Bool Int):=
 if decide (s3<(p0a.length:Int)) then ((aI p0a s3).bind fun x5=>(aI p1b s3).bind fun x6=>if x5 !=x6 then (some (.ret false)) else (some (.nxt (IntKind.i64.wrap (s3+1))))) else (some (.brk s3))
def oY (p0a:List Bool) (p1b:List Bool):Option Bool:=
 if (p0a.length:Int) !=(p1b.length:Int) then (some false) else (aE (ak (iI p0a p1b) aN 0) (fun r=>some r) (fun s4=>some true))
def iJ (p0a:List (List Int)) (p1b:List (List Int)) (s3:Int):Option (Out Bool Int):=
 if decide (s3<(p0a.length:Int)) then ((aI p0a s3).bind fun x5=>(aI p1b s3).bind fun x6=>(jH x5 x6).bind fun r9=>if r9 then (some (.nxt (IntKind.i64.wrap (s3+1)))) else (some (.ret false))) else (some (.brk s3))
def oZ (p0a:List (List Int)) (p1b:List (List Int)):Option Bool:=
 if (p0a.length:Int) !=(p1b.length:Int) then (some false) else (aE (ak (iJ p0a p1b) aN 0) (fun r=>some r) (fun s4=>some true))
def gM (p0a:Int×(List Bool)×(List (List Int))) (p1b:Int×(List Bool)×(List (List Int))):Option Bool:=
 if p0a.1 !=p1b.1 then (some false) else ((oY p0a.2.1 p1b.2.1).bind fun r1=>if r1 then ((oZ p0a.2.2 p1b.2.2).bind fun r2=>if r2 then (some true) else (some false)) else (some false))
def dO (p0a:List (Int×(List Bool)×(List (List Int)))) (p1b:List (Int×(List Bool)×(List (List Int)))) (s3:Int):Option (Out Bool Int):=
 if decide (s3<(p0a.length:Int)) then ((aI p0a s3).bind fun x5=>(aI p1b s3).bind fun x6=>(gM (x5.1,x5.2.1,x5.2.2) (x6.1,x6.2.1,x6.2.2)).bind fun r15=>if r15 then (some (.nxt (IntKind.i64.wrap (s3+1)))) else (some (.ret false))) else (some (.brk s3))
def je (p0a:List (Int×(List Bool)×(List (List Int)))) (p1b:List (Int×(List Bool)×(List (List Int)))):Option Bool:=
 if (p0a.length:Int) !=(p1b.length:Int) then (some false) else (aE (ak (dO p0a p1b) aN 0) (fun r=>some r) (fun s4=>some true))
def me (p0a:Int×Int×Int×Int) (p1b:Int×Int×Int×Int):Option Bool:=
 if p0a.1 !=p1b.1 then (some false) else (if p0a.2.1 !=p1b.2.1 then (some false) else (if p0a.2.2.1 !=p1b.2.2.1 then (some false) else (if p0a.2.2.2 !=p1b.2.2.2 then (some false) else (some true))))
def gN (p0a:List (Int×Int×Int×Int)) (p1b:List (Int×Int×Int×Int)) (s3:Int):Option (Out Bool Int):=
 if decide (s3<(p0a.length:Int)) then ((aI p0a s3).bind fun x5=>(aI p1b s3).bind fun x6=>(me (x5.1,x5.2.1,x5.2.2.1,x5.2.2.2) (x6.1,x6.2.1,x6.2.2.1,x6.2.2.2)).bind fun r3=>if r3 then (some (.nxt (IntKind.i64.wrap (s3+1)))) else (some (.ret false))) else (some (.brk s3))
def na (p0a:List (Int×Int×Int×Int)) (p1b:List (Int×Int×Int×Int)):Option Bool:=
 if (p0a.length:Int) !=(p1b.length:Int) then (some false) else (aE (ak (gN p0a p1b) aN 0) (fun r=>some r) (fun s4=>some true))
def nY (p0a:(List (Int×Int×Int×Int))) (p1b:(List (Int×Int×Int×Int))):Option Bool:=
 (na p0a p1b).bind fun r1=>if r1 then (some true) else (some false)
def fJ (p0a:Int×((List (Int×Int×Int×Int)))×Int) (p1b:Int×((List (Int×Int×Int×Int)))×Int):Option Bool:=
 if p0a.1 !=p1b.1 then (some false) else ((nY p0a.2.1 p1b.2.1).bind fun r1=>if r1 then (if p0a.2.2 !=p1b.2.2 then (some false) else (some true)) else (some false))
def di (p0a:List (Int×((List (Int×Int×Int×Int)))×Int)) (p1b:List (Int×((List (Int×Int×Int×Int)))×Int)) (s3:Int):Option (Out Bool Int):=
 if decide (s3<(p0a.length:Int)) then ((aI p0a s3).bind fun x5=>(aI p1b s3).bind fun x6=>(fJ (x5.1,x5.2.1,x5.2.2) (x6.1,x6.2.1,x6.2.2)).bind fun r9=>if r9 then (some (.nxt (IntKind.i64.wrap (s3+1)))) else (some (.ret false))) else (some (.brk s3))
def ig (p0a:List (Int×((List (Int×Int×Int×Int)))×Int)) (p1b:List (Int×((List (Int×Int×Int×Int)))×Int)):Option Bool:=
 if (p0a.length:Int) !=(p1b.length:Int) then (some false) else (aE (ak (di p0a p1b) aN 0) (fun r=>some r) (fun s4=>some true))
def iK (p0a:(List (Int×(List Bool)×(List (List Int))))×(List (Int×((List (Int×Int×Int×Int)))×Int))) (p1b:(List (Int×(List Bool)×(List (List Int))))×(List (Int×((List (Int×Int×Int×Int)))×Int))):Option Bool:=
 (je p0a.1 p1b.1).bind fun r1=>if r1 then ((ig p0a.2 p1b.2).bind fun r2=>if r2 then (some true) else (some false)) else (some false)
def fK (s3:(List Bool)×Int×Int):Option (Out (Int×(List Bool)) ((List Bool)×Int×Int)):=
 if decide (s3.2.2<(s3.1.length:Int)) then ((aI s3.1 s3.2.2).bind fun x3=>some (.nxt (s3.1.set s3.2.2.toNat ((Int.tmod s3.2.1 3)==0),IntKind.i64.wrap (s3.2.1+1),IntKind.i64.wrap (s3.2.2+1)))) else (some (.brk (s3.1,s3.2.1,s3.2.2)))
def jA (p0a:List Bool) (p1k:Int):Option (Int×(List Bool)):=
 aE (ak (fK) aN (p0a,p1k,0)) (fun r=>some r) (fun s4=>some (s4.2.1,s4.1))
def gO (s3:(List Int)×Int×Int):Option (Out (Int×(List Int)) ((List Int)×Int×Int)):=
 if decide (s3.2.2<(s3.1.length:Int)) then ((aI s3.1 s3.2.2).bind fun x3=>some (.nxt (s3.1.set s3.2.2.toNat s3.2.1,IntKind.i64.wrap (s3.2.1+1),IntKind.i64.wrap (s3.2.2+1)))) else (some (.brk (s3.1,s3.2.1,s3.2.2)))
def fZ (p0a:List Int) (p1k:Int):Option (Int×(List Int)):=
 aE (ak (gO) aN (p0a,p1k,0)) (fun r=>some r) (fun s4=>some (s4.2.1,s4.1))
def fL (s3:(List (List Int))×Int×Int):Option (Out (Int×(List (List Int))) ((List (List Int))×Int×Int)):=
 if decide (s3.2.2<(s3.1.length:Int)) then ((aI s3.1 s3.2.2).bind fun x3=>(fZ x3 s3.2.1).bind fun r6=>some (.nxt (s3.1.set s3.2.2.toNat r6.2,r6.1,IntKind.i64.wrap (s3.2.2+1)))) else (some (.brk (s3.1,s3.2.1,s3.2.2)))
def jB (p0a:List (List Int)) (p1k:Int):Option (Int×(List (List Int))):=
 aE (ak (fL) aN (p0a,p1k,0)) (fun r=>some r) (fun s4=>some (s4.2.1,s4.1))
def cU (s3:(List (Int×(List Bool)×(List (List Int))))×Int×Int):Option (Out (Int×(List (Int×(List Bool)×(List (List Int))))) ((List (Int×(List Bool)×(List (List Int))))×Int×Int)):=
 if decide (s3.2.2<(s3.1.length:Int)) then ((aI s3.1 s3.2.2).bind fun x7=>(aI (s3.1.set s3.2.2.toNat (s3.2.1,x7.2.1,x7.2.2)) s3.2.2).bind fun x8=>(jA x8.2.1 (IntKind.i64.wrap (s3.2.1+1))).bind fun r10=>(aI ((s3.1.set s3.2.2.toNat (s3.2.1,x7.2.1,x7.2.2)).set s3.2.2.toNat (x8.1,r10.2,x8.2.2)) s3.2.2).bind fun x9=>(jB x9.2.2 r10.1).bind fun r12=>some (.nxt (((s3.1.set s3.2.2.toNat (s3.2.1,x7.2.1,x7.2.2)).set s3.2.2.toNat (x8.1,r10.2,x8.2.2)).set s3.2.2.toNat (x9.1,x9.2.1,r12.2),r12.1,IntKind.i64.wrap (s3.2.2+1)))) else (some (.brk (s3.1,s3.2.1,s3.2.2)))
def eA (p0a:List (Int×(List Bool)×(List (List Int)))) (p1k:Int):Option (Int×(List (Int×(List Bool)×(List (List Int))))):=
 aE (ak (cU) aN (p0a,p1k,0)) (fun r=>some r) (fun s4=>some (s4.2.1,s4.1))
def fb (s3:(List (Int×Int×Int×Int))×Int×Int):Option (Out (Int×(List (Int×Int×Int×Int))) ((List (Int×Int×Int×Int))×Int×Int)):=
 if decide (s3.2.2<(s3.1.length:Int)) then ((aI s3.1 s3.2.2).bind fun x9=>(aI (s3.1.set s3.2.2.toNat (s3.2.1,x9.2.1,x9.2.2.1,x9.2.2.2)) s3.2.2).bind fun x10=>(aI ((s3.1.set s3.2.2.toNat (s3.2.1,x9.2.1,x9.2.2.1,x9.2.2.2)).set s3.2.2.toNat (x10.1,IntKind.i64.wrap (s3.2.1+1),x10.2.2.1,x10.2.2.2)) s3.2.2).bind fun x11=>(aI (((s3.1.set s3.2.2.toNat (s3.2.1,x9.2.1,x9.2.2.1,x9.2.2.2)).set s3.2.2.toNat (x10.1,IntKind.i64.wrap (s3.2.1+1),x10.2.2.1,x10.2.2.2)).set s3.2.2.toNat (x11.1,x11.2.1,IntKind.i64.wrap ((IntKind.i64.wrap (s3.2.1+1))+1),x11.2.2.2)) s3.2.2).bind fun x12=>some (.nxt ((((s3.1.set s3.2.2.toNat (s3.2.1,x9.2.1,x9.2.2.1,x9.2.2.2)).set s3.2.2.toNat (x10.1,IntKind.i64.wrap (s3.2.1+1),x10.2.2.1,x10.2.2.2)).set s3.2.2.toNat (x11.1,x11.2.1,IntKind.i64.wrap ((IntKind.i64.wrap (s3.2.1+1))+1),x11.2.2.2)).set s3.2.2.toNat (x12.1,x12.2.1,x12.2.2.1,IntKind.i64.wrap ((IntKind.i64.wrap ((IntKind.i64.wrap (s3.2.1+1))+1))+1)),IntKind.i64.wrap ((IntKind.i64.wrap ((IntKind.i64.wrap ((IntKind.i64.wrap (s3.2.1+1))+1))+1))+1),IntKind.i64.wrap (s3.2.2+1)))) else (some (.brk (s3.1,s3.2.1,s3.2.2)))
def iL (p0a:List (Int×Int×Int×Int)) (p1k:Int):Option (Int×(List (Int×Int×Int×Int))):=
 aE (ak (fb) aN (p0a,p1k,0)) (fun r=>some r) (fun s4=>some (s4.2.1,s4.1))
def cL (s3:(List (Int×((List (Int×Int×Int×Int)))×Int))×Int×Int):Option (Out (Int×(List (Int×((List (Int×Int×Int×Int)))×Int))) ((List (Int×((List (Int×Int×Int×Int)))×Int))×Int×Int)):=
 if decide (s3.2.2<(s3.1.length:Int)) then ((aI s3.1 s3.2.2).bind fun x7=>(aI (s3.1.set s3.2.2.toNat (s3.2.1,x7.2.1,x7.2.2)) s3.2.2).bind fun x8=>(iL x8.2.1 (IntKind.i64.wrap (s3.2.1+1))).bind fun r6=>(aI ((s3.1.set s3.2.2.toNat (s3.2.1,x7.2.1,x7.2.2)).set s3.2.2.toNat (x8.1,(r6.2),x8.2.2)) s3.2.2).bind fun x9=>some (.nxt (((s3.1.set s3.2.2.toNat (s3.2.1,x7.2.1,x7.2.2)).set s3.2.2.toNat (x8.1,(r6.2),x8.2.2)).set s3.2.2.toNat (x9.1,x9.2.1,r6.1),IntKind.i64.wrap (r6.1+1),IntKind.i64.wrap (s3.2.2+1)))) else (some (.brk (s3.1,s3.2.1,s3.2.2)))
def dP (p0a:List (Int×((List (Int×Int×Int×Int)))×Int)) (p1k:Int):Option (Int×(List (Int×((List (Int×Int×Int×Int)))×Int))):=
 aE (ak (cL) aN (p0a,p1k,0)) (fun r=>some r) (fun s4=>some (s4.2.1,s4.1))
def dY (p0a:(List (Int×(List Bool)×(List (List Int))))×(List (Int×((List (Int×Int×Int×Int)))×Int))) (p1k:Int):Option (Int×((List (Int×(List Bool)×(List (List Int))))×(List (Int×((List (Int×Int×Int×Int)))×Int)))):=
 (eA p0a.1 p1k).bind fun r1=>(dP p0a.2 r1.1).bind fun r2=>some (r2.1,(r1.2,r2.2))
def gP (p0a:List Int) (s3:Int×Int):Option (Out Int (Int×Int)):=
 if decide (s3.2<(p0a.length:Int)) then ((aI p0a s3.2).bind fun x3=>if x3 !=s3.1 then (some (.ret (-1))) else (some (.nxt (IntKind.i64.wrap (s3.1+1),IntKind.i64.wrap (s3.2+1))))) else (some (.brk (s3.1,s3.2)))
def ga (p0a:List Int) (p1k:Int):Option Int:=
 aE (ak (gP p0a) aN (p1k,0)) (fun r=>some r) (fun s4=>some s4.1)
def bP (p0:(List (Int×(List Bool)×(List (List Int))))×(List (Int×((List (Int×Int×Int×Int)))×Int))) (p1:Int):Option Bool:=
 (ix (p0.1,p0.2) 1048576).bind fun r1=>if decide (r1<0) then (some true) else ((cY (p0.1,p0.2)).bind fun r2=>(dH (r2.1,r2.2) p1).bind fun r3=>(cY (p0.1,p0.2)).bind fun r4=>(cE (r4.1,r4.2) p1).bind fun r5=>(jH r5 r3).bind fun r6=>if r6 then ((cY (p0.1,p0.2)).bind fun r7=>(iK (r4.1,r4.2) (r7.1,r7.2)).bind fun r8=>if r8 then ((dY (r4.1,r4.2) 1).bind fun r9=>if decide (r9.1<0) then (some false) else ((jH r5 r3).bind fun r10=>if r10 then ((fZ r5 1).bind fun r11=>(ga r11.2 1).bind fun r12=>if decide (r12<0) then (some false) else (if r12 !=r11.1 then (some false) else ((cY (p0.1,p0.2)).bind fun r13=>(cE (r13.1,r13.2) p1).bind fun r14=>(jH r14 r3).bind fun r15=>if r15 then ((ga r11.2 1).bind fun r16=>if decide (r16<0) then (some false) else (if r16 !=r11.1 then (some false) else (some true))) else (some false)))) else (some false))) else (some false)) else (some false))
end D
namespace R
open Go.RowKit
open D
abbrev y3:Ty:=.int .i64
abbrev rB:Ty:=.prod y3 (.prod y3 (.prod y3 y3))
abbrev t198:Ty:=.tree 271 198 rB
abbrev y56:Ty:=.sl 179 rB
abbrev y58:Ty:=.wr y56
abbrev zq:Ty:=.prod y3 (.prod y58 y3)
abbrev I6:Ty:=.prod y3 y3
abbrev PA:Ty:=.prod y3 (.prod y3 (.prod y3 y3))
abbrev y51:Ty:=.sl 181 PA
abbrev y53:Ty:=.wr y51
abbrev O4:Ty:=.prod y3 (.prod y53 y3)
abbrev y39:Ty:=.sl 3 y3
abbrev y4:Ty:=.bool
abbrev Cr:Ty:=.prod y39 (.prod y3 (.prod y3 (.prod y39 y4)))
abbrev PB:Ty:=.fro t198
abbrev Ni:Ty:=.prod y3 (.prod y3 (.prod y4 (.prod y3 y3)))
abbrev PC:Ty:=.sl 212 Ni
abbrev y22:Ty:=.sl 4 y4
abbrev MC:Ty:=.prod I6 y39
abbrev Qm:Ty:=.sl 226 MC
abbrev y23:Ty:=.sl 39 y39
abbrev P9:Ty:=.prod y4 (.prod y3 y3)
abbrev Qa:Ty:=.prod y3 (.prod y3 y4)
abbrev y25:Ty:=.prod y3 (.prod y22 y23)
abbrev O5:Ty:=.sl 198 PB
abbrev Qn:Ty:=.prod rB O5
abbrev Oe:Ty:=.int .u64
abbrev y29:Ty:=.prod y3 (.prod y22 y23)
abbrev Of:Ty:=.int .u32
abbrev Og:Ty:=.int .u64
abbrev y34:Ty:=.sl 25 y25
abbrev y35:Ty:=.sl 163 O4
abbrev y37:Ty:=.prod y34 y35
abbrev y41:Ty:=.sl 29 y29
abbrev y42:Ty:=.sl 102 zq
abbrev y44:Ty:=.prod y41 y42
theorem ti3:TI Tryz.prog 3 false 1:=⟨⟨_,Tryz.underlying3,rfl⟩,by kernel_rfl⟩
theorem Oh (a0:Int) (a1:Int) (a2:Int) (a3:Int) (b0:Int) (b1:Int) (b2:Int) (b3:Int) (w:World):EqT Tryz.prog 179 (.agg #[.int .i64 a0,.int .i64 a1,.int .i64 a2,.int .i64 a3]) (.agg #[.int .i64 b0,.int .i64 b1,.int .i64 b2,.int .i64 b3]) ((a0==b0)&&((a1==b1)&&((a2==b2)&&((a3==b3)&&true)))) w:=Nt w Tryz.underlying179 (by kernel_rfl) (by kernel_rfl) (si rfl (rl ti3 rfl) (rl ti3 rfl) (run_equalIn_int w 9998 3 _ _ _ _ Tryz.underlying3) (si rfl (rl ti3 rfl) (rl ti3 rfl) (run_equalIn_int w 9998 3 _ _ _ _ Tryz.underlying3) (si rfl (rl ti3 rfl) (rl ti3 rfl) (run_equalIn_int w 9998 3 _ _ _ _ Tryz.underlying3) (si rfl (rl ti3 rfl) (rl ti3 rfl) (run_equalIn_int w 9998 3 _ _ _ _ Tryz.underlying3) (Lc w)))))
theorem laidOut:laidOutB Tryz.prog=true:=by kernel_rfl
theorem Oi:KII Tryz.prog 154:=⟨_,_,Tryz.underlying154,by decide,rfl,rfl,Tryz.underlying3,Tryz.underlying3,by kernel_rfl,by kernel_rfl,by kernel_rfl,by kernel_rfl,Tryz.prog.types.size - 1,by kernel_rfl⟩
theorem mz3 (w:World):(zeroValue 3).run Tryz.prog w= .ok (.int .i64 0) w:=by kernel_rfl
theorem mz4 (w:World):(zeroValue 4).run Tryz.prog w= .ok (.bool false) w:=by kernel_rfl
theorem PD:KeyOk Tryz.prog 154 (fun x:Int×Int=>Value.agg #[.int .i64 x.1,.int .i64 x.2]) Lj Ad:=Pb Oi (Go.deep_law_laid laidOut (m:=2) (by omega) (of_decide_eq_true (by kernel_rfl)) (by kernel_rfl) (by rw[Tryz.underlying154]))
theorem kk3:KeyOk Tryz.prog 3 (fun n:Int=>Value.int .i64 n) Lh iOk:=Nw Tryz.underlying3
theorem ek3:EltOk Tryz.prog 3 (fun n:Int=>Value.int .i64 n) Lh iOk 0:=Nx Tryz.underlying3 mz3
theorem ek4:EltOk Tryz.prog 4 (fun n:Bool=>Value.bool n) OM bOk false:=Li Tryz.underlying4 mz4
def tt:TT:=[(3,⟨false,1,none,y3,[],some 8,none,false,none,none,some (some .i64),false,none⟩),
 (4,⟨false,1,none,y4,[],some 1,none,true,none,none,none,false,none⟩),
 (22,⟨false,1,some 4,y22,[],some 24,none,false,none,none,none,false,none⟩),
 (23,⟨false,1,some 39,y23,[],some 24,none,false,none,none,none,false,none⟩),
 (25,⟨true,3,none,y25,[(0,0),(1,0),(2,0)],some 56,some [(0,1),(1,1),(2,1)],false,none,none,none,false,none⟩),
 (29,⟨true,3,none,y29,[(0,0),(1,0),(2,0)],some 56,some [(0,1),(1,1),(2,1)],false,none,none,none,false,none⟩),
 (31,⟨false,1,none,.bool,[],none,none,false,none,none,none,true,none⟩),
 (34,⟨false,1,some 25,y34,[],some 24,none,false,none,none,none,false,none⟩),
 (35,⟨false,1,some 163,y35,[],some 24,none,false,none,none,none,false,none⟩),
 (37,⟨true,2,none,y37,[(0,0),(1,0)],some 48,some [(0,1),(1,1)],false,none,none,none,false,none⟩),
 (39,⟨false,1,some 3,y39,[],some 24,none,false,none,none,none,false,none⟩),
 (41,⟨false,1,some 29,y41,[],some 24,none,false,none,none,none,false,none⟩),
 (42,⟨false,1,some 102,y42,[],some 24,none,false,none,none,none,false,none⟩),
 (44,⟨true,2,none,y44,[(0,0),(1,0)],some 48,some [(0,1),(1,1)],false,none,none,none,false,none⟩),
 (46,⟨false,1,none,.bool,[],none,none,false,none,none,none,true,none⟩),
 (51,⟨false,1,some 181,y51,[],some 24,none,false,none,none,none,false,none⟩),
 (53,⟨true,1,none,y53,[(0,0)],some 24,some [(0,1)],false,none,none,none,false,none⟩),
 (56,⟨false,1,some 179,y56,[],some 24,none,false,none,none,none,false,none⟩),
 (58,⟨true,1,none,y58,[(0,0)],some 24,some [(0,1)],false,none,none,none,false,none⟩),
 (90,⟨false,1,none,.bool,[],none,none,false,none,none,none,true,none⟩),
 (94,⟨false,1,none,.bool,[],none,none,false,none,none,none,true,none⟩),
 (102,⟨true,3,none,zq,[(0,0),(1,0),(2,0)],some 40,some [(0,1),(1,1),(2,1)],false,none,none,none,false,none⟩),
 (144,⟨false,1,none,.bool,[],none,none,false,none,none,none,true,none⟩),
 (147,⟨false,1,none,.bool,[],none,none,false,none,none,none,true,none⟩),
 (154,⟨true,2,none,I6,[(0,0),(1,0)],some 16,some [(0,1),(1,1)],false,none,none,none,false,none⟩),
 (155,⟨false,1,none,.bool,[],none,none,false,none,none,none,true,none⟩),
 (157,⟨false,1,none,.bool,[],none,none,false,none,none,none,true,none⟩),
 (163,⟨true,3,none,O4,[(0,0),(1,0),(2,0)],some 40,some [(0,1),(1,1),(2,1)],false,none,none,none,false,none⟩),
 (167,⟨false,1,none,.bool,[],none,none,false,none,none,none,true,none⟩),
 (170,⟨true,5,none,Cr,[(0,0),(1,0),(2,0),(3,0),(4,0)],some 72,some [(0,1),(1,1),(2,1),(3,1),(4,1)],false,none,none,none,false,none⟩),
 (179,⟨true,4,none,rB,[(0,0),(1,0),(2,0),(3,0)],some 32,some [(0,1),(1,1),(2,1),(3,1)],false,some [some .i64,some .i64,some .i64,some .i64],none,none,false,none⟩),
 (181,⟨true,4,none,PA,[(0,0),(1,0),(2,0),(3,0)],some 32,some [(0,1),(1,1),(2,1),(3,1)],false,none,none,none,false,none⟩),
 (198,⟨false,1,none,PB,[],some 8,none,false,none,none,none,false,some 271⟩),
 (212,⟨true,5,none,Ni,[(0,0),(1,0),(2,0),(3,0),(4,0)],some 40,some [(0,1),(1,1),(2,1),(3,1),(4,1)],false,none,none,none,false,none⟩),
 (213,⟨false,1,some 212,PC,[],some 24,none,false,none,none,none,false,none⟩),
 (220,⟨false,1,none,.bool,[],none,none,false,none,some ⟨3,3,.int,.int⟩,none,false,none⟩),
 (222,⟨false,1,none,.bool,[],none,none,false,none,some ⟨154,4,.ii,.bool⟩,none,false,none⟩),
 (226,⟨true,3,none,MC,[(0,1),(2,0)],some 40,some [(0,2),(2,1)],false,none,none,none,false,none⟩),
 (227,⟨false,1,some 226,Qm,[],some 24,none,false,none,none,none,false,none⟩),
 (231,⟨false,1,none,.bool,[],none,none,false,none,none,none,true,none⟩),
 (236,⟨true,3,none,P9,[(0,0),(1,0),(2,0)],some 24,some [(0,1),(1,1),(2,1)],false,none,none,none,false,none⟩),
 (243,⟨false,1,none,.bool,[],none,none,false,none,none,none,true,none⟩),
 (245,⟨true,3,none,Qa,[(0,0),(1,0),(2,0)],some 24,some [(0,1),(1,1),(2,1)],false,none,none,none,false,none⟩),
 (267,⟨false,1,some 198,O5,[],some 24,none,false,none,none,none,false,none⟩),
 (271,⟨true,5,none,Qn,[(0,3),(4,0)],some 56,some [(0,4),(4,1)],false,none,none,none,false,none⟩),
 (283,⟨false,1,none,Oe,[],some 8,none,false,none,none,some (some .u64),false,none⟩),
 (319,⟨false,1,none,Of,[],some 4,none,false,none,none,some (some .u32),false,none⟩),
 (322,⟨false,1,none,Og,[],some 8,none,false,none,none,some (some .u64),false,none⟩)]
theorem au:TTok Tryz.prog tt:=⟨tI (n:=1) (z:=.int .i64 0) ⟨⟨_,Tryz.underlying3,rfl⟩,by kernel_rfl⟩ rfl (by unfold TZ;kernel_rfl) rfl (Nat.le_of_ble_eq_true rfl) (fun h=>by cases h) (fun k h=>by obtain rfl:=Option.some.inj h;exact Tryz.underlying3),
 tI (n:=1) (z:=.bool false) ⟨⟨_,Tryz.underlying4,rfl⟩,by kernel_rfl⟩ rfl (by unfold TZ;kernel_rfl) rfl (Nat.le_of_ble_eq_true rfl) (fun h=>Tryz.underlying4) (fun k h=>by cases h),
 rW ⟨⟨_,Tryz.underlying22,rfl⟩,by kernel_rfl⟩ Tryz.underlying22 (by unfold TZ;kernel_rfl),
 rW ⟨⟨_,Tryz.underlying23,rfl⟩,by kernel_rfl⟩ Tryz.underlying23 (by unfold TZ;kernel_rfl),
 m8 (z:=.agg #[.int .i64 0,.slice none 0 0,.slice none 0 0]) ⟨⟨_,Tryz.underlying25,rfl⟩,by kernel_rfl⟩ rfl ⟨⟨_,_,Tryz.underlying25,rfl,rfl,by kernel_rfl⟩,⟨_,_,Tryz.underlying25,rfl,rfl,by kernel_rfl⟩,⟨_,_,Tryz.underlying25,rfl,rfl,by kernel_rfl⟩,trivial⟩ (by unfold TZ;kernel_rfl) rfl (Nat.le_of_ble_eq_true rfl) ⟨_,Tryz.underlying25,by kernel_rfl⟩ (fun ks h=>by cases h),
 m8 (z:=.agg #[.int .i64 0,.slice none 0 0,.slice none 0 0]) ⟨⟨_,Tryz.underlying29,rfl⟩,by kernel_rfl⟩ rfl ⟨⟨_,_,Tryz.underlying29,rfl,rfl,by kernel_rfl⟩,⟨_,_,Tryz.underlying29,rfl,rfl,by kernel_rfl⟩,⟨_,_,Tryz.underlying29,rfl,rfl,by kernel_rfl⟩,trivial⟩ (by unfold TZ;kernel_rfl) rfl (Nat.le_of_ble_eq_true rfl) ⟨_,Tryz.underlying29,by kernel_rfl⟩ (fun ks h=>by cases h),
 tJ (ty:=.bool) (b:=8) ⟨⟨_,Tryz.underlying31,rfl⟩,by kernel_rfl⟩ rfl (by unfold TZ;kernel_rfl),
 rW ⟨⟨_,Tryz.underlying34,rfl⟩,by kernel_rfl⟩ Tryz.underlying34 (by unfold TZ;kernel_rfl),
 rW ⟨⟨_,Tryz.underlying35,rfl⟩,by kernel_rfl⟩ Tryz.underlying35 (by unfold TZ;kernel_rfl),
 m8 (z:=.agg #[.slice none 0 0,.slice none 0 0]) ⟨⟨_,Tryz.underlying37,rfl⟩,by kernel_rfl⟩ rfl ⟨⟨_,_,Tryz.underlying37,rfl,rfl,by kernel_rfl⟩,⟨_,_,Tryz.underlying37,rfl,rfl,by kernel_rfl⟩,trivial⟩ (by unfold TZ;kernel_rfl) rfl (Nat.le_of_ble_eq_true rfl) ⟨_,Tryz.underlying37,by kernel_rfl⟩ (fun ks h=>by cases h),
 rW ⟨⟨_,Tryz.underlying39,rfl⟩,by kernel_rfl⟩ Tryz.underlying39 (by unfold TZ;kernel_rfl),
 rW ⟨⟨_,Tryz.underlying41,rfl⟩,by kernel_rfl⟩ Tryz.underlying41 (by unfold TZ;kernel_rfl),
 rW ⟨⟨_,Tryz.underlying42,rfl⟩,by kernel_rfl⟩ Tryz.underlying42 (by unfold TZ;kernel_rfl),
 m8 (z:=.agg #[.slice none 0 0,.slice none 0 0]) ⟨⟨_,Tryz.underlying44,rfl⟩,by kernel_rfl⟩ rfl ⟨⟨_,_,Tryz.underlying44,rfl,rfl,by kernel_rfl⟩,⟨_,_,Tryz.underlying44,rfl,rfl,by kernel_rfl⟩,trivial⟩ (by unfold TZ;kernel_rfl) rfl (Nat.le_of_ble_eq_true rfl) ⟨_,Tryz.underlying44,by kernel_rfl⟩ (fun ks h=>by cases h),
 tJ (ty:=.bool) (b:=8) ⟨⟨_,Tryz.underlying46,rfl⟩,by kernel_rfl⟩ rfl (by unfold TZ;kernel_rfl),
 rW ⟨⟨_,Tryz.underlying51,rfl⟩,by kernel_rfl⟩ Tryz.underlying51 (by unfold TZ;kernel_rfl),
 m8 (z:=.agg #[.slice none 0 0]) ⟨⟨_,Tryz.underlying53,rfl⟩,by kernel_rfl⟩ rfl ⟨⟨_,_,Tryz.underlying53,rfl,rfl,by kernel_rfl⟩,trivial⟩ (by unfold TZ;kernel_rfl) rfl (Nat.le_of_ble_eq_true rfl) ⟨_,Tryz.underlying53,by kernel_rfl⟩ (fun ks h=>by cases h),
 rW ⟨⟨_,Tryz.underlying56,rfl⟩,by kernel_rfl⟩ Tryz.underlying56 (by unfold TZ;kernel_rfl),
 m8 (z:=.agg #[.slice none 0 0]) ⟨⟨_,Tryz.underlying58,rfl⟩,by kernel_rfl⟩ rfl ⟨⟨_,_,Tryz.underlying58,rfl,rfl,by kernel_rfl⟩,trivial⟩ (by unfold TZ;kernel_rfl) rfl (Nat.le_of_ble_eq_true rfl) ⟨_,Tryz.underlying58,by kernel_rfl⟩ (fun ks h=>by cases h),
 tJ (ty:=.bool) (b:=8) ⟨⟨_,Tryz.underlying90,rfl⟩,by kernel_rfl⟩ rfl (by unfold TZ;kernel_rfl),
 tJ (ty:=.bool) (b:=8) ⟨⟨_,Tryz.underlying94,rfl⟩,by kernel_rfl⟩ rfl (by unfold TZ;kernel_rfl),
 m8 (z:=.agg #[.int .i64 0,.slice none 0 0,.int .i64 0]) ⟨⟨_,Tryz.underlying102,rfl⟩,by kernel_rfl⟩ rfl ⟨⟨_,_,Tryz.underlying102,rfl,rfl,by kernel_rfl⟩,⟨_,_,Tryz.underlying102,rfl,rfl,by kernel_rfl⟩,⟨_,_,Tryz.underlying102,rfl,rfl,by kernel_rfl⟩,trivial⟩ (by unfold TZ;kernel_rfl) rfl (Nat.le_of_ble_eq_true rfl) ⟨_,Tryz.underlying102,by kernel_rfl⟩ (fun ks h=>by cases h),
 tJ (ty:=.bool) (b:=8) ⟨⟨_,Tryz.underlying144,rfl⟩,by kernel_rfl⟩ rfl (by unfold TZ;kernel_rfl),
 tJ (ty:=.bool) (b:=8) ⟨⟨_,Tryz.underlying147,rfl⟩,by kernel_rfl⟩ rfl (by unfold TZ;kernel_rfl),
 m8 (z:=.agg #[.int .i64 0,.int .i64 0]) ⟨⟨_,Tryz.underlying154,rfl⟩,by kernel_rfl⟩ rfl ⟨⟨_,_,Tryz.underlying154,rfl,rfl,by kernel_rfl⟩,⟨_,_,Tryz.underlying154,rfl,rfl,by kernel_rfl⟩,trivial⟩ (by unfold TZ;kernel_rfl) rfl (Nat.le_of_ble_eq_true rfl) ⟨_,Tryz.underlying154,by kernel_rfl⟩ (fun ks h=>by cases h),
 tJ (ty:=.bool) (b:=8) ⟨⟨_,Tryz.underlying155,rfl⟩,by kernel_rfl⟩ rfl (by unfold TZ;kernel_rfl),
 tJ (ty:=.bool) (b:=8) ⟨⟨_,Tryz.underlying157,rfl⟩,by kernel_rfl⟩ rfl (by unfold TZ;kernel_rfl),
 m8 (z:=.agg #[.int .i64 0,.slice none 0 0,.int .i64 0]) ⟨⟨_,Tryz.underlying163,rfl⟩,by kernel_rfl⟩ rfl ⟨⟨_,_,Tryz.underlying163,rfl,rfl,by kernel_rfl⟩,⟨_,_,Tryz.underlying163,rfl,rfl,by kernel_rfl⟩,⟨_,_,Tryz.underlying163,rfl,rfl,by kernel_rfl⟩,trivial⟩ (by unfold TZ;kernel_rfl) rfl (Nat.le_of_ble_eq_true rfl) ⟨_,Tryz.underlying163,by kernel_rfl⟩ (fun ks h=>by cases h),
 tJ (ty:=.bool) (b:=8) ⟨⟨_,Tryz.underlying167,rfl⟩,by kernel_rfl⟩ rfl (by unfold TZ;kernel_rfl),
 m8 (z:=.agg #[.slice none 0 0,.int .i64 0,.int .i64 0,.slice none 0 0,.bool false]) ⟨⟨_,Tryz.underlying170,rfl⟩,by kernel_rfl⟩ rfl ⟨⟨_,_,Tryz.underlying170,rfl,rfl,by kernel_rfl⟩,⟨_,_,Tryz.underlying170,rfl,rfl,by kernel_rfl⟩,⟨_,_,Tryz.underlying170,rfl,rfl,by kernel_rfl⟩,⟨_,_,Tryz.underlying170,rfl,rfl,by kernel_rfl⟩,⟨_,_,Tryz.underlying170,rfl,rfl,by kernel_rfl⟩,trivial⟩ (by unfold TZ;kernel_rfl) rfl (Nat.le_of_ble_eq_true rfl) ⟨_,Tryz.underlying170,by kernel_rfl⟩ (fun ks h=>by cases h),
 m8 (z:=.agg #[.int .i64 0,.int .i64 0,.int .i64 0,.int .i64 0]) ⟨⟨_,Tryz.underlying179,rfl⟩,by kernel_rfl⟩ rfl ⟨⟨_,_,Tryz.underlying179,rfl,rfl,by kernel_rfl⟩,⟨_,_,Tryz.underlying179,rfl,rfl,by kernel_rfl⟩,⟨_,_,Tryz.underlying179,rfl,rfl,by kernel_rfl⟩,⟨_,_,Tryz.underlying179,rfl,rfl,by kernel_rfl⟩,trivial⟩ (by unfold TZ;kernel_rfl) rfl (Nat.le_of_ble_eq_true rfl) ⟨_,Tryz.underlying179,by kernel_rfl⟩ (fun ks h=>by obtain rfl:=Option.some.inj h;exact fun w a0 b0 a1 b1 a2 b2 a3 b3=>Oh a0 a1 a2 a3 b0 b1 b2 b3 w),
 m8 (z:=.agg #[.int .i64 0,.int .i64 0,.int .i64 0,.int .i64 0]) ⟨⟨_,Tryz.underlying181,rfl⟩,by kernel_rfl⟩ rfl ⟨⟨_,_,Tryz.underlying181,rfl,rfl,by kernel_rfl⟩,⟨_,_,Tryz.underlying181,rfl,rfl,by kernel_rfl⟩,⟨_,_,Tryz.underlying181,rfl,rfl,by kernel_rfl⟩,⟨_,_,Tryz.underlying181,rfl,rfl,by kernel_rfl⟩,trivial⟩ (by unfold TZ;kernel_rfl) rfl (Nat.le_of_ble_eq_true rfl) ⟨_,Tryz.underlying181,by kernel_rfl⟩ (fun ks h=>by cases h),
 Pz (e:=271) (E:=198) (u:=rB) ⟨⟨_,Tryz.underlying198,rfl⟩,by kernel_rfl⟩ Tryz.underlying198 (by unfold TZ;kernel_rfl),
 m8 (z:=.agg #[.int .i64 0,.int .i64 0,.bool false,.int .i64 0,.int .i64 0]) ⟨⟨_,Tryz.underlying212,rfl⟩,by kernel_rfl⟩ rfl ⟨⟨_,_,Tryz.underlying212,rfl,rfl,by kernel_rfl⟩,⟨_,_,Tryz.underlying212,rfl,rfl,by kernel_rfl⟩,⟨_,_,Tryz.underlying212,rfl,rfl,by kernel_rfl⟩,⟨_,_,Tryz.underlying212,rfl,rfl,by kernel_rfl⟩,⟨_,_,Tryz.underlying212,rfl,rfl,by kernel_rfl⟩,trivial⟩ (by unfold TZ;kernel_rfl) rfl (Nat.le_of_ble_eq_true rfl) ⟨_,Tryz.underlying212,by kernel_rfl⟩ (fun ks h=>by cases h),
 rW ⟨⟨_,Tryz.underlying213,rfl⟩,by kernel_rfl⟩ Tryz.underlying213 (by unfold TZ;kernel_rfl),
 Od (m:=⟨3,3,.int,.int⟩) (ty:=.bool) ⟨⟨_,Tryz.underlying220,rfl⟩,by kernel_rfl⟩ rfl ⟨Tryz.underlying220,kk3,ek3⟩,
 Od (m:=⟨154,4,.ii,.bool⟩) (ty:=.bool) ⟨⟨_,Tryz.underlying222,rfl⟩,by kernel_rfl⟩ rfl ⟨Tryz.underlying222,PD,ek4⟩,
 m8 (z:=.agg #[.int .i64 0,.int .i64 0,.slice none 0 0]) ⟨⟨_,Tryz.underlying226,rfl⟩,by kernel_rfl⟩ rfl ⟨⟨_,_,Tryz.underlying226,rfl,rfl,by kernel_rfl⟩,⟨_,_,Tryz.underlying226,rfl,rfl,by kernel_rfl⟩,trivial⟩ (by unfold TZ;kernel_rfl) rfl (Nat.le_of_ble_eq_true rfl) ⟨_,Tryz.underlying226,by kernel_rfl⟩ (fun ks h=>by cases h),
 rW ⟨⟨_,Tryz.underlying227,rfl⟩,by kernel_rfl⟩ Tryz.underlying227 (by unfold TZ;kernel_rfl),
 tJ (ty:=.bool) (b:=8) ⟨⟨_,Tryz.underlying231,rfl⟩,by kernel_rfl⟩ rfl (by unfold TZ;kernel_rfl),
 m8 (z:=.agg #[.bool false,.int .i64 0,.int .i64 0]) ⟨⟨_,Tryz.underlying236,rfl⟩,by kernel_rfl⟩ rfl ⟨⟨_,_,Tryz.underlying236,rfl,rfl,by kernel_rfl⟩,⟨_,_,Tryz.underlying236,rfl,rfl,by kernel_rfl⟩,⟨_,_,Tryz.underlying236,rfl,rfl,by kernel_rfl⟩,trivial⟩ (by unfold TZ;kernel_rfl) rfl (Nat.le_of_ble_eq_true rfl) ⟨_,Tryz.underlying236,by kernel_rfl⟩ (fun ks h=>by cases h),
 tJ (ty:=.bool) (b:=8) ⟨⟨_,Tryz.underlying243,rfl⟩,by kernel_rfl⟩ rfl (by unfold TZ;kernel_rfl),
 m8 (z:=.agg #[.int .i64 0,.int .i64 0,.bool false]) ⟨⟨_,Tryz.underlying245,rfl⟩,by kernel_rfl⟩ rfl ⟨⟨_,_,Tryz.underlying245,rfl,rfl,by kernel_rfl⟩,⟨_,_,Tryz.underlying245,rfl,rfl,by kernel_rfl⟩,⟨_,_,Tryz.underlying245,rfl,rfl,by kernel_rfl⟩,trivial⟩ (by unfold TZ;kernel_rfl) rfl (Nat.le_of_ble_eq_true rfl) ⟨_,Tryz.underlying245,by kernel_rfl⟩ (fun ks h=>by cases h),
 rW ⟨⟨_,Tryz.underlying267,rfl⟩,by kernel_rfl⟩ Tryz.underlying267 (by unfold TZ;kernel_rfl),
 m8 (z:=.agg #[.int .i64 0,.int .i64 0,.int .i64 0,.int .i64 0,.slice none 0 0]) ⟨⟨_,Tryz.underlying271,rfl⟩,by kernel_rfl⟩ rfl ⟨⟨_,_,Tryz.underlying271,rfl,rfl,by kernel_rfl⟩,⟨_,_,Tryz.underlying271,rfl,rfl,by kernel_rfl⟩,trivial⟩ (by unfold TZ;kernel_rfl) rfl (Nat.le_of_ble_eq_true rfl) ⟨_,Tryz.underlying271,by kernel_rfl⟩ (fun ks h=>by cases h),
 tI (n:=1) (z:=.int .u64 0) ⟨⟨_,Tryz.underlying283,rfl⟩,by kernel_rfl⟩ rfl (by unfold TZ;kernel_rfl) rfl (Nat.le_of_ble_eq_true rfl) (fun h=>by cases h) (fun k h=>by obtain rfl:=Option.some.inj h;exact Tryz.underlying283),
 tI (n:=1) (z:=.int .u32 0) ⟨⟨_,Tryz.underlying319,rfl⟩,by kernel_rfl⟩ rfl (by unfold TZ;kernel_rfl) rfl (Nat.le_of_ble_eq_true rfl) (fun h=>by cases h) (fun k h=>by obtain rfl:=Option.some.inj h;exact Tryz.underlying319),
 tI (n:=1) (z:=.int .u64 0) ⟨⟨_,Tryz.underlying322,rfl⟩,by kernel_rfl⟩ rfl (by unfold TZ;kernel_rfl) rfl (Nat.le_of_ble_eq_true rfl) (fun h=>by cases h) (fun k h=>by obtain rfl:=Option.some.inj h;exact Tryz.underlying322),trivial⟩
theorem mixed:Tryz.prog.follows .mixedOrders=true:=by kernel_rfl
def tL:FS:=⟨[.rd y22,.rd y3],[y3],oU,none⟩
def v5:FS:=⟨[.rd y39,.rd y3],[y3],qR,none⟩
def tM:FS:=⟨[.rd y23,.rd y3],[y3],oV,none⟩
def nc:FS:=⟨[.rd y25,.rd y3],[y3],gC,none⟩
def mu:FS:=⟨[.rd y34,.rd y3],[y3],jc,none⟩
def rC:FS:=⟨[.rd y51,.rd y3],[y3],m9,none⟩
def v7:FS:=⟨[.rd y53,.rd y3],[y3],nR,none⟩
def mw:FS:=⟨[.rd O4,.rd y3],[y3],fF,none⟩
def lq:FS:=⟨[.rd y35,.rd y3],[y3],hH,none⟩
def oo:FS:=⟨[.rd y37,.rd y3],[y3],ix,none⟩
def pX:FS:=⟨[.rd y44,.rd y3],[y3],jt,none⟩
def pY:FS:=⟨[.rd y3,.rd y3,.rd y3],[y4],ju,none⟩
def o6:FS:=⟨[.rd y39,.rd y3],[y3],jQ,none⟩
def oq:FS:=⟨[],[y29],kW,none⟩
def pZ:FS:=⟨[.rd y29,.rd y39,.rd y22],[y29],eZ,none⟩
def o7:FS:=⟨[.rd y29],[y22],hO,none⟩
def v8:FS:=⟨[.rd y29,.rd y39,.rd y3],[y39],lh,none⟩
def tN:FS:=⟨[.rd y39,.rd y39],[y3],lj,none⟩
def ot:FS:=⟨[.rd y29],[y39],fx,none⟩
def nf:FS:=⟨[.rd y29],[y29],gD,none⟩
def rD:FS:=⟨[.rd y3],[y4],kD,none⟩
def o8:FS:=⟨[.rd rB],[y3],jR,none⟩
def v9:FS:=⟨[.rd y58],[y4],nS,none⟩
def ng:FS:=⟨[.rd y58],[y4],gE,none⟩
def mf:FS:=⟨[.rd y56],[y3],eI,none⟩
def mg (n:Nat):FS:=⟨[.rd y56],[y3],cC n,none⟩
def qT:FS:=⟨[.rd y56],[y58],hZ,none⟩
def qU:FS:=⟨[.rd y58,.rd y58,.rd rB],[y58],ic,none⟩
def wc:FS:=⟨[.rd y3],[y58],ln,none⟩
def kH (n:Nat):FS:=⟨[.rd y58,.rd y3,.rd y3],[y58],fW n,none⟩
def jC (n:Nat):FS:=⟨[.rd y56],[y58],bJ n,none⟩
def ou:FS:=⟨[.rd y58],[y58,y4],iA,none⟩
def tO:FS:=⟨[.ptr 170 Cr,.rd y3,.rd y3],[],jS,none⟩
def kI (n:Nat):FS:=⟨[.ptr 170 Cr,.rd y56],[P9],bV n,none⟩
def kJ:FS:=⟨[.rd y58],[Cr,y4],et,none⟩
def rE:FS:=⟨[.rd Cr,.rd y3,.rd y3],[y3],kE,none⟩
def ox:FS:=⟨[.rd Cr,.rd y3],[y4],iB,none⟩
def oy:FS:=⟨[.rd Cr,.rd y3],[y29,y4],fA,none⟩
def nh:FS:=⟨[.rd y58],[y29,y4],eL,none⟩
def ij:FS:=⟨[.rd y29,.rd y29],[y4],dx,none⟩
def rF:FS:=⟨[.rd y41,.rd y29],[y3],iP,none⟩
def rG:FS:=⟨[.rd y42],[y44,y4],kF,none⟩
def oz:FS:=⟨[.rd y58,.rd y58],[y4],iC,none⟩
def jY:FS:=⟨[.rd y44,.rd y44],[y4],dF,none⟩
def jZ:FS:=⟨[.rd y44],[y4],dG,none⟩
def tP:FS:=⟨[.rd y29],[y29],l5,none⟩
def kK:FS:=⟨[.rd y44,.rd y3],[y29,y4],eu,none⟩
def tQ:FS:=⟨[.rd y29],[y4],jT,none⟩
def fj:FS:=⟨[.rd y29],[y4],bg,none⟩
def p7:FS:=⟨[.rd y29,.rd y3],[y4],gF,none⟩
def tR:FS:=⟨[.rd PC,.rd y3],[y39],l6,none⟩
def tS:FS:=⟨[.rd y29,.rd y3,.rd y3],[y3],jU,none⟩
def we:FS:=⟨[.rd PC,.rd Ni],[y4],nT,none⟩
def p8:FS:=⟨[.rd y29,.rd y3,.rd y29,.rd y3,.rd y4],[y39,y4],gG,none⟩
def ni:FS:=⟨[.rd y29,.rd y29],[y39,y4],jV,none⟩
def jh:FS:=⟨[.rd y29,.rd y29],[y4],df,none⟩
def j0:FS:=⟨[.rd y44,.rd y3],[y39],dH,none⟩
def tT:FS:=⟨[.rd y22],[y22],l7,none⟩
def wg:FS:=⟨[.rd y39],[y39],nU,none⟩
def tU:FS:=⟨[.rd y23],[y23],l8,none⟩
def nj:FS:=⟨[.rd y25],[y29],gH,none⟩
def my:FS:=⟨[.rd y34],[y41],fH,none⟩
def tV:FS:=⟨[.rd PA],[rB],l9,none⟩
def rH:FS:=⟨[.rd y51],[y56],kG,none⟩
def wh:FS:=⟨[.rd y53],[y58],nV,none⟩
def mz:FS:=⟨[.rd O4],[zq],fI,none⟩
def lr:FS:=⟨[.rd y35],[y42],e8,none⟩
def oA:FS:=⟨[.rd y37],[y44],cY,none⟩
def bH:FS:=⟨[.rd y42,.fn [zq] [y4]],[y3],bc,none⟩
def nk:FS:=⟨[.rd zq,.cap 3 y3],[y4],gJ,none⟩
def p9:FS:=⟨[.rd y44,.rd y3],[y3],jy,none⟩
def lu:FS:=⟨[.rd y3,.rd y3,.rd y3],[y4],eg,none⟩
def nl:FS:=⟨[.rd y3],[y4],fX,none⟩
def tW:FS:=⟨[.rd rB],[y4],ma,none⟩
def aW:FS:=⟨[.rd O5],[O5],fun _=>none,some (198,8)⟩
def nZ:FS:=⟨[.rd y58],[t198],jG,none⟩
def wi:FS:=⟨[.rd y58],[y4],nW,none⟩
def nm:FS:=⟨[.rd y58],[y4],gK,none⟩
def iM (n:Nat):FS:=⟨[.rd t198],[y3],a9 n,none⟩
def Cs:FS:=⟨[.rd y3],[t198],xj,none⟩
def kL (n:Nat):FS:=⟨[.eat t198,.rd y3,.rd y3],[t198],fY n,none⟩
def gQ (n:Nat):FS:=⟨[.rd t198],[t198],aQ n,none⟩
def fM (n:Nat):FS:=⟨[.rd t198,.ptr 58 y58],[],aO n,none⟩
def qa:FS:=⟨[.rd t198],[y58],mc,none⟩
def oB:FS:=⟨[.rd y58],[y58,y4],iG,none⟩
def ji:FS:=⟨[.ptr 170 Cr,.rd y3,.rd y3],[],cn,none⟩
def dQ (n:Nat):FS:=⟨[.ptr 170 Cr,.rd t198],[Qa],aR n,none⟩
def kM:FS:=⟨[.rd y58],[Cr,y4],ew,none⟩
def jf:FS:=⟨[.rd y3,.rd y3,.fn [y3] [y4],.fn [y3,y3] [y3,y4]],[y29,y4],cR,none⟩
def iT:FS:=⟨[.rd Cr,.rd y3],[y4],bZ,none⟩
def j3:FS:=⟨[.rd Cr,.rd y3,.rd y3],[y3],dJ,none⟩
def lx:FS:=⟨[.rd y3,.rd y3,.cap 170 Cr],[y3,y4],bS,none⟩
def np:FS:=⟨[.rd Cr,.rd y3],[y29,y4],eN,none⟩
def a6:FS:=⟨[.rd y22],[y22],fun _=>none,some (4,1)⟩
def kN:FS:=⟨[.rd y29],[y22],cT,none⟩
def cM:FS:=⟨[.rd y23,.fn [y39] [y4]],[y3],bf,none⟩
def cO:FS:=⟨[.rd y39,.rd y39],[y4],bO,none⟩
def gV:FS:=⟨[.rd y39,.cap 39 y39],[y4],ek,none⟩
def jj:FS:=⟨[.rd y29,.rd y39],[y39,y3],cq,none⟩
def iU:FS:=⟨[.rd y29],[y39],b9,none⟩
def j4:FS:=⟨[.rd Of,.rd Of],[Of,Of],oW,none⟩
def j5:FS:=⟨[.rd Og,.rd Og],[Og,Og],jW,none⟩
def lz:FS:=⟨[.rd Oe,.rd Oe],[Oe,Oe],lp,none⟩
def eS:FS:=⟨[.rd y39,.rd y3],[y39],eP,none⟩
def tX:FS:=⟨[],[y29],oX,none⟩
def fg:FS:=⟨[.rd y39,.rd y3],[y3],cN,none⟩
def gb:FS:=⟨[.rd y3,.cap 39 y39],[y3],aD,none⟩
def gf:FS:=⟨[.rd y3,.cap 29 y29,.capf 144 [y3] [y3]],[y4],bF,none⟩
def gR:FS:=⟨[.rd y29,.rd y3,.rd y3],[y3],ba,none⟩
def gg:FS:=⟨[.rd y3,.rd y3,.cap 29 y29,.capf 144 [y3] [y3],.cap 39 y39],[y3,y4],bG,none⟩
def gW:FS:=⟨[.rd y29],[y29],cK,none⟩
def zr:FS:=⟨[.rd y29],[y29,y4],tK,none⟩
def nq:FS:=⟨[.rd y58],[y29,y4],eQ,none⟩
def bN:FS:=⟨[.rd y41,.fn [y29] [y4]],[y3],aC,none⟩
def eB:FS:=⟨[.rd y22,.rd y22],[y4],cx,none⟩
def bx:FS:=⟨[.rd y23,.rd y23,.fn [y39,y39] [y4]],[y4],aY,none⟩
def j6:FS:=⟨[.rd y39,.rd y39],[y4],dK,none⟩
def il:FS:=⟨[.rd y29,.rd y29],[y4],cz,none⟩
def rI:FS:=⟨[.rd y29,.cap 29 y29],[y4],iR,none⟩
def rJ:FS:=⟨[.rd y58],[y58],iS,none⟩
def wj:FS:=⟨[.rd y42],[y44,y4],nX,none⟩
def aT:FS:=⟨[.rd y41,.rd y41,.fn [y29,y29] [y4]],[y4],aA,none⟩
def aP:FS:=⟨[.rd y42,.rd y42,.fn [zq,zq] [y4]],[y4],az,none⟩
def dB:FS:=⟨[.rd y56,.rd y56],[y4],bw,none⟩
def oC:FS:=⟨[.rd y58,.rd y58],[y4],iH,none⟩
def mA:FS:=⟨[.rd zq,.rd zq],[y4],dX,none⟩
def j7:FS:=⟨[.rd y44,.rd y44],[y4],dL,none⟩
def j8:FS:=⟨[.rd y44],[y4],dM,none⟩
def nr:FS:=⟨[.rd y39],[y39],eR,none⟩
def lA:FS:=⟨[.rd y29],[y29],fa,none⟩
def kO:FS:=⟨[.rd y44,.rd y3],[y29,y4],ez,none⟩
def fl:FS:=⟨[.rd y29],[y4],bh,none⟩
def jk:FS:=⟨[.rd I6,.fn [I6,y3] [I6],.fn [I6] [y4]],[y39,y4],ct,none⟩
def oD:FS:=⟨[.rd I6,.rd y3,.cap 29 y29,.cap 29 y29],[I6],fC,none⟩
def gh:FS:=⟨[.rd y29,.rd y29],[],fun _ _=>none,some (29,1205)⟩
def iV:FS:=⟨[.rd y29,.rd y3],[y4],bd,none⟩
def lB:FS:=⟨[.rd I6,.cap 29 y29,.cap 29 y29],[y4],dz,none⟩
def nt:FS:=⟨[.rd y29,.rd y29],[y39,y4],jX,none⟩
def jl:FS:=⟨[.rd y29,.rd y29],[y4],dh,none⟩
def j9:FS:=⟨[.rd y44,.rd y3],[y39],cE,none⟩
def qV:FS:=⟨[.rd y39,.rd y39],[y4],jH,none⟩
def tY:FS:=⟨[.rd y22,.rd y22],[y4],oY,none⟩
def tZ:FS:=⟨[.rd y23,.rd y23],[y4],oZ,none⟩
def nv:FS:=⟨[.rd y29,.rd y29],[y4],gM,none⟩
def mB:FS:=⟨[.rd y41,.rd y41],[y4],je,none⟩
def ua:FS:=⟨[.rd rB,.rd rB],[y4],me,none⟩
def rK:FS:=⟨[.rd y56,.rd y56],[y4],na,none⟩
def wk:FS:=⟨[.rd y58,.rd y58],[y4],nY,none⟩
def mC:FS:=⟨[.rd zq,.rd zq],[y4],fJ,none⟩
def lC:FS:=⟨[.rd y42,.rd y42],[y4],ig,none⟩
def oE:FS:=⟨[.rd y44,.rd y44],[y4],iK,none⟩
def qb:FS:=⟨[.ow y22,.rd y3],[y3],jA,none⟩
def nw:FS:=⟨[.ow y39,.rd y3],[y3],fZ,none⟩
def qc:FS:=⟨[.ow y23,.rd y3],[y3],jB,none⟩
def kP:FS:=⟨[.ow y41,.rd y3],[y3],eA,none⟩
def oF:FS:=⟨[.ow y56,.rd y3],[y3],iL,none⟩
def kc:FS:=⟨[.ow y42,.rd y3],[y3],dP,none⟩
def mD:FS:=⟨[.ow y44,.rd y3],[y3],dY,none⟩
def rL:FS:=⟨[.rd y39,.rd y3],[y3],ga,none⟩
def kp:FS:=⟨[.rd y37,.rd y3],[y4],bP,none⟩
end R
namespace R
open Go.RowKit
open D
theorem AW:FOk Tryz.prog 40 tL:=fok (V:=⟨tt,[],[],12,[]⟩) au trivial mixed Tryz.func40 rfl rfl (enters_of Tryz.func40 (by kernel_rfl) rfl) rfl (Nat.le_of_ble_eq_true rfl) rfl .no (fun d=>by kernel_rfl)
theorem Dq:FOk Tryz.prog 84 v5:=fok (V:=⟨tt,[],[],12,[]⟩) au trivial mixed Tryz.func84 rfl rfl (enters_of Tryz.func84 (by kernel_rfl) rfl) rfl (Nat.le_of_ble_eq_true rfl) rfl .no (fun d=>by kernel_rfl)
theorem AX:FOk Tryz.prog 41 tM:=fok (V:=⟨tt,[(84,v5)],[],27,[]⟩) au ⟨Dq,trivial⟩ mixed Tryz.func41 rfl rfl (enters_of Tryz.func41 (by kernel_rfl) rfl) rfl (Nat.le_of_ble_eq_true rfl) rfl (.two .no (.two .no (.two .no (.two (.two .no (.loop [.slot 1 (.num .i64),.slot 5 (.num .i64)] .no)) .no)))) (fun d=>by kernel_rfl)
theorem ub:FOk Tryz.prog 8 nc:=fok (V:=⟨tt,[(40,tL),(41,tM)],[],18,[]⟩) au ⟨AW,AX,trivial⟩ mixed Tryz.func8 rfl rfl (enters_of Tryz.func8 (by kernel_rfl) rfl) rfl (Nat.le_of_ble_eq_true rfl) rfl .no (fun d=>by kernel_rfl)
theorem rX:FOk Tryz.prog 61 mu:=fok (V:=⟨tt,[(8,nc)],[],27,[]⟩) au ⟨ub,trivial⟩ mixed Tryz.func61 rfl rfl (enters_of Tryz.func61 (by kernel_rfl) rfl) rfl (Nat.le_of_ble_eq_true rfl) rfl (.two .no (.two .no (.two .no (.two (.two .no (.loop [.slot 1 (.num .i64),.slot 5 (.num .i64)] .no)) .no)))) (fun d=>by kernel_rfl)
theorem zt:FOk Tryz.prog 73 rC:=fok (V:=⟨tt,[],[],12,[]⟩) au trivial mixed Tryz.func73 rfl rfl (enters_of Tryz.func73 (by kernel_rfl) rfl) rfl (Nat.le_of_ble_eq_true rfl) rfl .no (fun d=>by kernel_rfl)
theorem Dr:FOk Tryz.prog 24 v7:=fok (V:=⟨tt,[(73,rC)],[],12,[]⟩) au ⟨zt,trivial⟩ mixed Tryz.func24 rfl rfl (enters_of Tryz.func24 (by kernel_rfl) rfl) rfl (Nat.le_of_ble_eq_true rfl) rfl .no (fun d=>by kernel_rfl)
theorem rY:FOk Tryz.prog 134 mw:=fok (V:=⟨tt,[(24,v7)],[],12,[]⟩) au ⟨Dr,trivial⟩ mixed Tryz.func134 rfl rfl (enters_of Tryz.func134 (by kernel_rfl) rfl) rfl (Nat.le_of_ble_eq_true rfl) rfl .no (fun d=>by kernel_rfl)
theorem qW:FOk Tryz.prog 62 lq:=fok (V:=⟨tt,[(134,mw)],[],27,[]⟩) au ⟨rY,trivial⟩ mixed Tryz.func62 rfl rfl (enters_of Tryz.func62 (by kernel_rfl) rfl) rfl (Nat.le_of_ble_eq_true rfl) rfl (.two .no (.two .no (.two .no (.two (.two .no (.loop [.slot 1 (.num .i64),.slot 5 (.num .i64)] .no)) .no)))) (fun d=>by kernel_rfl)
theorem uY:FOk Tryz.prog 15 oo:=fok (V:=⟨tt,[(61,mu),(62,lq)],[],18,[]⟩) au ⟨rX,qW,trivial⟩ mixed Tryz.func15 rfl rfl (enters_of Tryz.func15 (by kernel_rfl) rfl) rfl (Nat.le_of_ble_eq_true rfl) rfl .no (fun d=>by kernel_rfl)
theorem xk:FOk Tryz.prog 135 pX:=fok (V:=⟨tt,[],[],22,[]⟩) au trivial mixed Tryz.func135 rfl rfl (enters_of Tryz.func135 (by kernel_rfl) rfl) rfl (Nat.le_of_ble_eq_true rfl) rfl (.two .no (.two (.two .no (.loop [.slot 5 (.num .i64)] .no)) .no)) (fun d=>by kernel_rfl)
theorem sA:FOk Tryz.prog 75 pY:=fok (V:=⟨tt,[],[],15,[]⟩) au trivial mixed Tryz.func75 rfl rfl (enters_of Tryz.func75 (by kernel_rfl) rfl) rfl (Nat.le_of_ble_eq_true rfl) rfl .no (fun d=>by kernel_rfl)
theorem uc:FOk Tryz.prog 218 o6:=fok (V:=⟨tt,[],[],19,[]⟩) au trivial mixed Tryz.func218 rfl rfl (enters_of Tryz.func218 (by kernel_rfl) rfl) rfl (Nat.le_of_ble_eq_true rfl) rfl (.two .no (.two (.two .no (.loop [.slot 5 (.num .i64)] .no)) .no)) (fun d=>by kernel_rfl)
theorem uZ:FOk Tryz.prog 270 oq:=fok (V:=⟨tt,[],[],15,[]⟩) au trivial mixed Tryz.func270 rfl rfl (enters_of Tryz.func270 (by kernel_rfl) rfl) rfl (Nat.le_of_ble_eq_true rfl) rfl (.two .no (.two .no (.two (.two .no (.loop [.slot 1 (.own 3 y3),.slot 2 (.num .i64)] .no)) .no))) (fun d=>by kernel_rfl)
theorem xl:FOk Tryz.prog 189 pZ:=fok (V:=⟨tt,[(218,o6),(270,oq)],[],107,[]⟩) au ⟨uc,uZ,trivial⟩ mixed Tryz.func189 rfl rfl (enters_of Tryz.func189 (by kernel_rfl) rfl) rfl (Nat.le_of_ble_eq_true rfl) rfl (.two .no (.two .no (.two .no (.two .no (.two .no (.two (.two .no (.loop [.slot 8 (.own 3 y3),.slot 9 (.own 3 y3),.slot 10 (.num .i64),.box 7 [(.num .i64),(.own 4 y4),(.own 39 y39)]] (.two .no (.two (.two .no (.two (.two .no (.loop [.slot 8 (.own 3 y3),.slot 9 (.own 3 y3),.slot 11 (.own 3 y3),.slot 12 (.num .i64)] (.two .no (.two (.two .no (.two .no (.join [.slot 8 (.own 3 y3),.slot 9 (.own 3 y3),.slot 14 (.num .i64)] .no .no))) .no)))) .no)) .no)))) .no)))))) (fun d=>by kernel_rfl)
theorem ud:FOk Tryz.prog 191 o7:=fok (V:=⟨tt,[],[],55,[]⟩) au trivial mixed Tryz.func191 rfl rfl (enters_of Tryz.func191 (by kernel_rfl) rfl) rfl (Nat.le_of_ble_eq_true rfl) rfl (.two .no (.two .no (.two (.two .no (.loop [.row 3 4 y4,.slot 4 (.num .i64)] (.two .no (.two (.two .no (.loop [.row 3 4 y4,.slot 5 (.num .i64)] (.two .no (.two (.two .no (.loop [.row 3 4 y4,.slot 6 (.num .i64)] (.two .no (.join [.row 3 4 y4] .no .no)))) .no)))) .no)))) .no))) (fun d=>by kernel_rfl)
theorem Ds:FOk Tryz.prog 271 v8:=fok (V:=⟨tt,[],[],40,[]⟩) au trivial mixed Tryz.func271 rfl rfl (enters_of Tryz.func271 (by kernel_rfl) rfl) rfl (Nat.le_of_ble_eq_true rfl) rfl (.two .no (.two .no (.two (.two .no (.loop [.slot 7 (.own 3 y3),.slot 8 (.num .i64)] (.two .no (.join [.slot 7 (.own 3 y3)] .no .no)))) .no))) (fun d=>by kernel_rfl)
end R
namespace R
open Go.RowKit
open D
theorem zu:FOk Tryz.prog 272 tN:=fok (V:=⟨tt,[],[],46,[]⟩) au trivial mixed Tryz.func272 rfl rfl (enters_of Tryz.func272 (by kernel_rfl) rfl) rfl (Nat.le_of_ble_eq_true rfl) rfl (.two .no (.two (.two .no (.loop [.slot 5 (.num .i64)] .no)) .no)) (fun d=>by kernel_rfl)
theorem u9:FOk Tryz.prog 190 ot:=fok (V:=⟨tt,[(191,o7),(271,v8),(272,tN)],[],99,[]⟩) au ⟨ud,Ds,zu,trivial⟩ mixed Tryz.func190 rfl rfl (enters_of Tryz.func190 (by kernel_rfl) rfl) rfl (Nat.le_of_ble_eq_true rfl) rfl (.two .no (.two .no (.two .no (.two (.two .no (.loop [.slot 4 (.own 3 y3),.slot 5 (.num .i64)] (.two .no (.two (.two .no (.two (.two .no (.at [.slot 6 (.num .i64)] .no)) (.two (.two .no (.at [.slot 6 (.num .i64)] .no)) .no))) .no)))) (.two (.two .no (.loop [.slot 4 (.own 3 y3),.slot 7 (.num .i64)] (.two .no (.two (.two .no (.two .no (.two (.two .no (.loop [.slot 8 (.own 39 y39),.slot 9 (.own 3 y3),.slot 10 (.num .i64)] (.two .no (.two (.at [.slot 8 (.own 39 y39),.slot 9 (.own 3 y3)] (.two .no (.two .no (.two .no (.two (.two .no (.loop [.slot 12 (.num .i64),.slot 13 (.num .i64)] (.two .no (.two (.at [.slot 12 (.num .i64)] .no) .no)))) (.two (.two .no (.at [.slot 8 (.own 39 y39),.slot 12 (.num .i64),.gone 11] .no)) .no)))))) .no)))) .no))) .no)))) .no))))) (fun d=>by kernel_rfl)
theorem ue:FOk Tryz.prog 104 nf:=fok (V:=⟨tt,[(189,pZ),(190,ot),(191,o7)],[],9,[]⟩) au ⟨xl,u9,ud,trivial⟩ mixed Tryz.func104 rfl rfl (enters_of Tryz.func104 (by kernel_rfl) rfl) rfl (Nat.le_of_ble_eq_true rfl) rfl .no (fun d=>by kernel_rfl)
theorem zw:FOk Tryz.prog 291 rD:=fok (V:=⟨tt,[(75,pY)],[],5,[]⟩) au ⟨sA,trivial⟩ mixed Tryz.func291 rfl rfl (enters_of Tryz.func291 (by kernel_rfl) rfl) rfl (Nat.le_of_ble_eq_true rfl) rfl .no (fun d=>by kernel_rfl)
theorem uf:FOk Tryz.prog 214 o8:=fok (V:=⟨tt,[(75,pY),(291,rD)],[],87,[]⟩) au ⟨sA,zw,trivial⟩ mixed Tryz.func214 rfl rfl (enters_of Tryz.func214 (by kernel_rfl) rfl) rfl (Nat.le_of_ble_eq_true rfl) rfl (.two .no (.two (.two .no (.join [.slot 5 .boo] .no (.two .no (.two .no (.two .no (.join [.slot 37 .boo] .no .no)))))) .no)) (fun d=>by kernel_rfl)
theorem Dt:FOk Tryz.prog 148 v9:=fok (V:=⟨tt,[(214,o8)],[],32,[]⟩) au ⟨uf,trivial⟩ mixed Tryz.func148 rfl rfl (enters_of Tryz.func148 (by kernel_rfl) rfl) rfl (Nat.le_of_ble_eq_true rfl) rfl (.two .no (.two .no (.two (.two .no (.loop [.slot 3 (.num .i64),.slot 4 (.num .i64)] .no)) .no))) (fun d=>by kernel_rfl)
theorem ug:FOk Tryz.prog 74 ng:=fok (V:=⟨tt,[(148,v9)],[],11,[]⟩) au ⟨Dt,trivial⟩ mixed Tryz.func74 rfl rfl (enters_of Tryz.func74 (by kernel_rfl) rfl) rfl (Nat.le_of_ble_eq_true rfl) rfl .no (fun d=>by kernel_rfl)
theorem o9:FOk Tryz.prog 236 mf:=fok (V:=⟨tt,[(214,o8)],[],20,[]⟩) au ⟨uf,trivial⟩ mixed Tryz.func236 rfl rfl (enters_of Tryz.func236 (by kernel_rfl) rfl) rfl (Nat.le_of_ble_eq_true rfl) rfl (.two .no (.two .no (.two .no (.two (.loop [.slot 3 (.num .i64),.slot 4 (.num .i64)] .no) .no)))) (fun d=>by kernel_rfl)
theorem uh: ∀n,FOk Tryz.prog 292 (mg n)
 | 0=>fE (f:=mg 0) (enters_of Tryz.func292 (by kernel_rfl) rfl) rfl (fun d=>rfl)
 | n+1=>by
  have ih:=uh n
  exact fok (V:=⟨tt,[(236,mf),(292,(mg n))],[],54,[]⟩) au ⟨o9,ih,trivial⟩ mixed Tryz.func292 rfl rfl (enters_of Tryz.func292 (by kernel_rfl) rfl) rfl (Nat.le_of_ble_eq_true rfl) rfl (.two .no (.two .no (.two .no (.two (.two .no (.two (.two .no (.at [.slot 15 .boo] .no)) .no)) .no)))) (fun d=>by kernel_rfl)
theorem wm:FOk Tryz.prog 281 qT:=fok (V:=⟨tt,[],[],7,[]⟩) au trivial mixed Tryz.func281 rfl rfl (enters_of Tryz.func281 (by kernel_rfl) rfl) rfl (Nat.le_of_ble_eq_true rfl) rfl .no (fun d=>by kernel_rfl)
theorem wo:FOk Tryz.prog 337 qU:=fok (V:=⟨tt,[(281,qT)],[],24,[]⟩) au ⟨wm,trivial⟩ mixed Tryz.func337 rfl rfl (enters_of Tryz.func337 (by kernel_rfl) rfl) rfl (Nat.le_of_ble_eq_true rfl) rfl .no (fun d=>by kernel_rfl)
theorem Du:FOk Tryz.prog 361 wc:=fok (V:=⟨tt,[],[],7,[]⟩) au trivial mixed Tryz.func361 rfl rfl (enters_of Tryz.func361 (by kernel_rfl) rfl) rfl (Nat.le_of_ble_eq_true rfl) rfl .no (fun d=>by kernel_rfl)
theorem rM: ∀n,FOk Tryz.prog 338 (kH n)
 | 0=>fE (f:=kH 0) (enters_of Tryz.func338 (by kernel_rfl) rfl) rfl (fun d=>rfl)
 | n+1=>by
  have ih:=rM n
  exact fok (V:=⟨tt,[(337,qU),(338,(kH n)),(361,wc)],[],28,[]⟩) au ⟨wo,ih,Du,trivial⟩ mixed Tryz.func338 rfl rfl (enters_of Tryz.func338 (by kernel_rfl) rfl) rfl (Nat.le_of_ble_eq_true rfl) rfl .no (fun d=>by kernel_rfl)
theorem qd: ∀n,FOk Tryz.prog 293 (jC n)
 | 0=>fE (f:=jC 0) (enters_of Tryz.func293 (by kernel_rfl) rfl) rfl (fun d=>rfl)
 | n+1=>by
  have ih:=qd n
  exact fok (V:=⟨tt,[(236,mf),(293,(jC n)),(337,qU),(338,(kH dS))],[],56,[]⟩) au ⟨o9,ih,wo,(rM dS),trivial⟩ mixed Tryz.func293 rfl rfl (enters_of Tryz.func293 (by kernel_rfl) rfl) rfl (Nat.le_of_ble_eq_true rfl) rfl (.two .no (.two .no (.two .no (.two (.two .no (.two (.two .no (.at [.slot 15 .boo] .no)) .no)) .no)))) (fun d=>by kernel_rfl)
theorem vc:FOk Tryz.prog 215 ou:=fok (V:=⟨tt,[(74,ng),(292,(mg dS)),(293,(jC dS))],[],24,[]⟩) au ⟨ug,(uh dS),(qd dS),trivial⟩ mixed Tryz.func215 rfl rfl (enters_of Tryz.func215 (by kernel_rfl) rfl) rfl (Nat.le_of_ble_eq_true rfl) rfl .no (fun d=>by kernel_rfl)
theorem AY:FOk Tryz.prog 294 tO:=fok (V:=⟨tt,[],[],36,[]⟩) au trivial mixed Tryz.func294 rfl rfl (enters_of Tryz.func294 (by kernel_rfl) rfl) rfl (Nat.le_of_ble_eq_true rfl) rfl (.two .no (.loop [.slot 6 (.num .i64),.par 3 [3] 3 y3] (.two .no (.two (.at [.par 3 [3] 3 y3] .no) .no)))) (fun d=>by kernel_rfl)
theorem rN: ∀n,FOk Tryz.prog 216 (kI n)
 | 0=>fE (f:=kI 0) (enters_of Tryz.func216 (by kernel_rfl) rfl) rfl (fun d=>rfl)
 | n+1=>by
  have ih:=rN n
  exact fok (V:=⟨tt,[(216,(kI n)),(236,mf),(294,tO)],[],163,[]⟩) au ⟨ih,o9,AY,trivial⟩ mixed Tryz.func216 rfl rfl (enters_of Tryz.func216 (by kernel_rfl) rfl) rfl (Nat.le_of_ble_eq_true rfl) rfl (.two .no (.two .no (.two .no (.two (.two .no (.two .no (.two .no (.two .no (.two .no (.two .no (.two (.two .no (.two .no (.two .no (.two .no (.two .no (.two (.two .no (.at [.box 11 [.boo,(.num .i64),(.num .i64)]] .no)) (.two (.two .no (.at [.box 11 [.boo,(.num .i64),(.num .i64)]] .no)) .no))))))) .no))))))) .no)))) (fun d=>by kernel_rfl)
end R
namespace R
open Go.RowKit
open D
theorem qe:FOk Tryz.prog 149 kJ:=fok (V:=⟨tt,[(215,ou),(216,(kI dS))],[],51,[]⟩) au ⟨vc,(rN dS),trivial⟩ mixed Tryz.func149 rfl rfl (enters_of Tryz.func149 (by kernel_rfl) rfl) rfl (Nat.le_of_ble_eq_true rfl) rfl (.two .no (.two .no (.two .no (.two .no (.two (.two .no (.loop [.slot 6 (.num .i64),.slot 7 (.num .i64)] (.two .no (.two (.at [.slot 6 (.num .i64)] .no) .no)))) .no))))) (fun d=>by kernel_rfl)
theorem zx:FOk Tryz.prog 217 rE:=fok (V:=⟨tt,[],[],63,[]⟩) au trivial mixed Tryz.func217 rfl rfl (enters_of Tryz.func217 (by kernel_rfl) rfl) rfl (Nat.le_of_ble_eq_true rfl) rfl (.two .no (.two .no (.join [.slot 7 (.num .i64)] .no (.two (.two .no (.loop [.slot 7 (.num .i64),.slot 8 (.num .i64)] (.two .no (.join [.slot 7 (.num .i64)] .no .no)))) (.two .no (.two (.two .no (.loop [.slot 9 (.num .i64),.slot 10 (.num .i64)] (.two .no (.join [.slot 9 (.num .i64)] .no .no)))) .no)))))) (fun d=>by kernel_rfl)
theorem vd:FOk Tryz.prog 219 ox:=fok (V:=⟨tt,[],[],20,[]⟩) au trivial mixed Tryz.func219 rfl rfl (enters_of Tryz.func219 (by kernel_rfl) rfl) rfl (Nat.le_of_ble_eq_true rfl) rfl .no (fun d=>by kernel_rfl)
theorem ve:FOk Tryz.prog 150 oy:=fok (V:=⟨tt,[(217,rE),(218,o6),(219,ox)],[],73,[]⟩) au ⟨zx,uc,vd,trivial⟩ mixed Tryz.func150 rfl rfl (enters_of Tryz.func150 (by kernel_rfl) rfl) rfl (Nat.le_of_ble_eq_true rfl) rfl (.two .no (.two .no (.two .no (.two (.two .no (.loop [.slot 7 (.own 3 y3),.slot 8 (.num .i64),.box 6 [(.num .i64),(.own 4 y4),(.own 39 y39)]] (.two .no (.two (.two .no (.two (.two .no (.loop [.slot 7 (.own 3 y3),.slot 9 (.own 3 y3),.slot 10 (.num .i64)] (.two .no (.two (.two .no (.two .no (.join [.slot 7 (.own 3 y3),.slot 12 (.num .i64)] .no .no))) .no)))) .no)) .no)))) .no)))) (fun d=>by kernel_rfl)
theorem ui:FOk Tryz.prog 76 nh:=fok (V:=⟨tt,[(104,nf),(149,kJ),(150,oy)],[],33,[]⟩) au ⟨ue,qe,ve,trivial⟩ mixed Tryz.func76 rfl rfl (enters_of Tryz.func76 (by kernel_rfl) rfl) rfl (Nat.le_of_ble_eq_true rfl) rfl .no (fun d=>by kernel_rfl)
theorem lD:FOk Tryz.prog 282 ij:=fok (V:=⟨tt,[(272,tN)],[],67,[]⟩) au ⟨zu,trivial⟩ mixed Tryz.func282 rfl rfl (enters_of Tryz.func282 (by kernel_rfl) rfl) rfl (Nat.le_of_ble_eq_true rfl) rfl (.two .no (.two .no (.two (.two .no (.loop [.slot 5 (.num .i64)] .no)) (.two (.two .no (.loop [.slot 6 (.num .i64)] .no)) .no)))) (fun d=>by kernel_rfl)
theorem zy:FOk Tryz.prog 280 rF:=fok (V:=⟨tt,[(282,ij)],[],19,[]⟩) au ⟨lD,trivial⟩ mixed Tryz.func280 rfl rfl (enters_of Tryz.func280 (by kernel_rfl) rfl) rfl (Nat.le_of_ble_eq_true rfl) rfl (.two .no (.two (.two .no (.loop [.slot 5 (.num .i64)] .no)) .no)) (fun d=>by kernel_rfl)
theorem zz:FOk Tryz.prog 207 rG:=fok (V:=⟨tt,[(75,pY),(76,nh),(280,rF),(281,qT)],[],94,[]⟩) au ⟨sA,ui,zy,wm,trivial⟩ mixed Tryz.func207 rfl rfl (enters_of Tryz.func207 (by kernel_rfl) rfl) rfl (Nat.le_of_ble_eq_true rfl) rfl (.two .no (.two .no (.two .no (.two (.two .no (.loop [.slot 5 (.num .i64),.box 4 [(.own 29 y29),(.own 102 zq)]] (.two .no (.two (.two .no (.two .no (.two .no (.join [.slot 8 (.num .i64),.box 4 [(.own 29 y29),(.own 102 zq)],.gone 6] .no .no)))) .no)))) .no)))) (fun d=>by kernel_rfl)
theorem vf:FOk Tryz.prog 283 oz:=fok (V:=⟨tt,[],[],31,[]⟩) au trivial mixed Tryz.func283 rfl rfl (enters_of Tryz.func283 (by kernel_rfl) rfl) rfl (Nat.le_of_ble_eq_true rfl) rfl (.two .no (.two .no (.two (.two .no (.loop [.slot 5 (.num .i64)] .no)) .no))) (fun d=>by kernel_rfl)
theorem pa:FOk Tryz.prog 208 jY:=fok (V:=⟨tt,[(282,ij),(283,oz)],[],93,[]⟩) au ⟨lD,vf,trivial⟩ mixed Tryz.func208 rfl rfl (enters_of Tryz.func208 (by kernel_rfl) rfl) rfl (Nat.le_of_ble_eq_true rfl) rfl (.two .no (.two .no (.two (.two .no (.loop [.slot 5 (.num .i64)] .no)) (.two (.two .no (.loop [.slot 6 (.num .i64)] .no)) .no)))) (fun d=>by kernel_rfl)
theorem pb:FOk Tryz.prog 136 jZ:=fok (V:=⟨tt,[(207,rG),(208,jY)],[],17,[]⟩) au ⟨zz,pa,trivial⟩ mixed Tryz.func136 rfl rfl (enters_of Tryz.func136 (by kernel_rfl) rfl) rfl (Nat.le_of_ble_eq_true rfl) rfl .no (fun d=>by kernel_rfl)
theorem AZ:FOk Tryz.prog 137 tP:=fok (V:=⟨tt,[],[],32,[]⟩) au trivial mixed Tryz.func137 rfl rfl (enters_of Tryz.func137 (by kernel_rfl) rfl) rfl (Nat.le_of_ble_eq_true rfl) rfl (.two .no (.two .no (.two (.two .no (.loop [.slot 4 (.num .i64),.box 3 [(.num .i64),(.own 4 y4),(.own 39 y39)]] .no)) .no))) (fun d=>by kernel_rfl)
theorem qf:FOk Tryz.prog 63 kK:=fok (V:=⟨tt,[(135,pX),(136,jZ),(137,tP)],[],29,[]⟩) au ⟨xk,pb,AZ,trivial⟩ mixed Tryz.func63 rfl rfl (enters_of Tryz.func63 (by kernel_rfl) rfl) rfl (Nat.le_of_ble_eq_true rfl) rfl .no (fun d=>by kernel_rfl)
theorem A0:FOk Tryz.prog 127 tQ:=fok (V:=⟨tt,[(75,pY)],[],50,[]⟩) au ⟨sA,trivial⟩ mixed Tryz.func127 rfl rfl (enters_of Tryz.func127 (by kernel_rfl) rfl) rfl (Nat.le_of_ble_eq_true rfl) rfl (.two .no (.two .no (.two .no (.two (.two .no (.loop [.slot 4 (.num .i64)] (.two .no (.two (.two .no (.two .no (.loop [.slot 5 (.num .i64)] .no))) .no)))) .no)))) (fun d=>by kernel_rfl)
theorem jm:FOk Tryz.prog 58 fj:=fok (V:=⟨tt,[(127,tQ)],[],11,[]⟩) au ⟨A0,trivial⟩ mixed Tryz.func58 rfl rfl (enters_of Tryz.func58 (by kernel_rfl) rfl) rfl (Nat.le_of_ble_eq_true rfl) rfl .no (fun d=>by kernel_rfl)
theorem xm:FOk Tryz.prog 194 p7:=fok (V:=⟨tt,[],[],14,[]⟩) au trivial mixed Tryz.func194 rfl rfl (enters_of Tryz.func194 (by kernel_rfl) rfl) rfl (Nat.le_of_ble_eq_true rfl) rfl .no (fun d=>by kernel_rfl)
theorem A1:FOk Tryz.prog 195 tR:=fok (V:=⟨tt,[],[],23,[]⟩) au trivial mixed Tryz.func195 rfl rfl (enters_of Tryz.func195 (by kernel_rfl) rfl) rfl (Nat.le_of_ble_eq_true rfl) rfl (.two .no (.two .no (.two (.loop [.slot 1 (.num .i64),.slot 5 (.own 3 y3)] .no) .no))) (fun d=>by kernel_rfl)
end R
namespace R
open Go.RowKit
open D
theorem A2:FOk Tryz.prog 196 tS:=fok (V:=⟨tt,[],[],17,[]⟩) au trivial mixed Tryz.func196 rfl rfl (enters_of Tryz.func196 (by kernel_rfl) rfl) rfl (Nat.le_of_ble_eq_true rfl) rfl .no (fun d=>by kernel_rfl)
theorem Dv:FOk Tryz.prog 197 we:=fok (V:=⟨tt,[],[],40,[]⟩) au trivial mixed Tryz.func197 rfl rfl (enters_of Tryz.func197 (by kernel_rfl) rfl) rfl (Nat.le_of_ble_eq_true rfl) rfl (.two .no (.two (.two .no (.loop [.slot 5 (.num .i64)] .no)) .no)) (fun d=>by kernel_rfl)
theorem xn:FOk Tryz.prog 108 p8:=fok (V:=⟨tt,[(194,p7),(195,tR),(196,tS),(197,we)],[],93,[]⟩) au ⟨xm,A1,A2,Dv,trivial⟩ mixed Tryz.func108 rfl rfl (enters_of Tryz.func108 (by kernel_rfl) rfl) rfl (Nat.le_of_ble_eq_true rfl) rfl (.two .no (.two .no (.two (.two .no (.loop [.slot 12 (.own 212 Ni),.slot 13 (.num .i64)] (.two .no (.two (.two .no (.two .no (.two (.two (.at [.slot 57 .boo] .no) .no) (.two .no (.loop [.slot 12 (.own 212 Ni),.slot 16 (.num .i64)] (.two .no (.join [.slot 12 (.own 212 Ni)] .no .no))))))) .no)))) .no))) (fun d=>by kernel_rfl)
theorem uj:FOk Tryz.prog 138 ni:=fok (V:=⟨tt,[(58,fj),(108,p8)],[],29,[]⟩) au ⟨jm,xn,trivial⟩ mixed Tryz.func138 rfl rfl (enters_of Tryz.func138 (by kernel_rfl) rfl) rfl (Nat.le_of_ble_eq_true rfl) rfl .no (fun d=>by kernel_rfl)
theorem od:FOk Tryz.prog 64 jh:=fok (V:=⟨tt,[(58,fj),(138,ni)],[],23,[]⟩) au ⟨jm,uj,trivial⟩ mixed Tryz.func64 rfl rfl (enters_of Tryz.func64 (by kernel_rfl) rfl) rfl (Nat.le_of_ble_eq_true rfl) rfl .no (fun d=>by kernel_rfl)
theorem pc:FOk Tryz.prog 16 j0:=fok (V:=⟨tt,[(63,kK),(64,jh)],[],58,[]⟩) au ⟨qf,od,trivial⟩ mixed Tryz.func16 rfl rfl (enters_of Tryz.func16 (by kernel_rfl) rfl) rfl (Nat.le_of_ble_eq_true rfl) rfl (.two .no (.two .no (.two .no (.two (.two .no (.loop [.slot 5 (.own 3 y3),.slot 8 (.num .i64)] (.two .no (.join [.slot 5 (.own 3 y3)] .no .no)))) .no)))) (fun d=>by kernel_rfl)
theorem A3:FOk Tryz.prog 46 tT:=fok (V:=⟨tt,[],[],22,[]⟩) au trivial mixed Tryz.func46 rfl rfl (enters_of Tryz.func46 (by kernel_rfl) rfl) rfl (Nat.le_of_ble_eq_true rfl) rfl (.two .no (.two .no (.two (.two .no (.loop [.row 3 4 y4,.slot 4 (.num .i64)] .no)) .no))) (fun d=>by kernel_rfl)
theorem Dw:FOk Tryz.prog 92 wg:=fok (V:=⟨tt,[],[],22,[]⟩) au trivial mixed Tryz.func92 rfl rfl (enters_of Tryz.func92 (by kernel_rfl) rfl) rfl (Nat.le_of_ble_eq_true rfl) rfl (.two .no (.two .no (.two (.two .no (.loop [.row 3 3 y3,.slot 4 (.num .i64)] .no)) .no))) (fun d=>by kernel_rfl)
theorem A4:FOk Tryz.prog 47 tU:=fok (V:=⟨tt,[(92,wg)],[],23,[]⟩) au ⟨Dw,trivial⟩ mixed Tryz.func47 rfl rfl (enters_of Tryz.func47 (by kernel_rfl) rfl) rfl (Nat.le_of_ble_eq_true rfl) rfl (.two .no (.two .no (.two (.two .no (.loop [.row 3 39 y39,.slot 4 (.num .i64)] .no)) .no))) (fun d=>by kernel_rfl)
theorem uk:FOk Tryz.prog 10 nj:=fok (V:=⟨tt,[(46,tT),(47,tU)],[],16,[]⟩) au ⟨A3,A4,trivial⟩ mixed Tryz.func10 rfl rfl (enters_of Tryz.func10 (by kernel_rfl) rfl) rfl (Nat.le_of_ble_eq_true rfl) rfl .no (fun d=>by kernel_rfl)
theorem rZ:FOk Tryz.prog 65 my:=fok (V:=⟨tt,[(10,nj)],[],23,[]⟩) au ⟨uk,trivial⟩ mixed Tryz.func65 rfl rfl (enters_of Tryz.func65 (by kernel_rfl) rfl) rfl (Nat.le_of_ble_eq_true rfl) rfl (.two .no (.two .no (.two (.two .no (.loop [.row 3 29 y29,.slot 4 (.num .i64)] .no)) .no))) (fun d=>by kernel_rfl)
theorem A5:FOk Tryz.prog 154 tV:=fok (V:=⟨tt,[],[],17,[]⟩) au trivial mixed Tryz.func154 rfl rfl (enters_of Tryz.func154 (by kernel_rfl) rfl) rfl (Nat.le_of_ble_eq_true rfl) rfl .no (fun d=>by kernel_rfl)
theorem zA:FOk Tryz.prog 78 rH:=fok (V:=⟨tt,[(154,tV)],[],23,[]⟩) au ⟨A5,trivial⟩ mixed Tryz.func78 rfl rfl (enters_of Tryz.func78 (by kernel_rfl) rfl) rfl (Nat.le_of_ble_eq_true rfl) rfl (.two .no (.two .no (.two (.two .no (.loop [.row 3 179 rB,.slot 4 (.num .i64)] .no)) .no))) (fun d=>by kernel_rfl)
theorem Dx:FOk Tryz.prog 26 wh:=fok (V:=⟨tt,[(78,rH)],[],9,[]⟩) au ⟨zA,trivial⟩ mixed Tryz.func26 rfl rfl (enters_of Tryz.func26 (by kernel_rfl) rfl) rfl (Nat.le_of_ble_eq_true rfl) rfl .no (fun d=>by kernel_rfl)
theorem sa:FOk Tryz.prog 139 mz:=fok (V:=⟨tt,[(26,wh)],[],15,[]⟩) au ⟨Dx,trivial⟩ mixed Tryz.func139 rfl rfl (enters_of Tryz.func139 (by kernel_rfl) rfl) rfl (Nat.le_of_ble_eq_true rfl) rfl .no (fun d=>by kernel_rfl)
theorem qX:FOk Tryz.prog 66 lr:=fok (V:=⟨tt,[(139,mz)],[],23,[]⟩) au ⟨sa,trivial⟩ mixed Tryz.func66 rfl rfl (enters_of Tryz.func66 (by kernel_rfl) rfl) rfl (Nat.le_of_ble_eq_true rfl) rfl (.two .no (.two .no (.two (.two .no (.loop [.row 3 102 zq,.slot 4 (.num .i64)] .no)) .no))) (fun d=>by kernel_rfl)
theorem vh:FOk Tryz.prog 17 oA:=fok (V:=⟨tt,[(65,my),(66,lr)],[],13,[]⟩) au ⟨rZ,qX,trivial⟩ mixed Tryz.func17 rfl rfl (enters_of Tryz.func17 (by kernel_rfl) rfl) rfl (Nat.le_of_ble_eq_true rfl) rfl .no (fun d=>by kernel_rfl)
end R
namespace R
open Go.RowKit
open D
theorem dA:FOk Tryz.prog 209 bH:=fok (V:=⟨tt,[],[],19,[]⟩) au trivial mixed Tryz.func209 rfl rfl (enters_of Tryz.func209 (by kernel_rfl) rfl) rfl (Nat.le_of_ble_eq_true rfl) rfl (.two .no (.two (.two .no (.loop [.slot 8 (.num .i64)] .no)) .no)) (fun d=>by kernel_rfl)
theorem um:FOk Tryz.prog 210 nk:=fok (V:=⟨tt,[],[],8,[]⟩) au trivial mixed Tryz.func210 rfl rfl (enters_of Tryz.func210 (by kernel_rfl) rfl) rfl (Nat.le_of_ble_eq_true rfl) rfl .no (fun d=>by kernel_rfl)
theorem xo:FOk Tryz.prog 140 p9:=fok (V:=⟨tt,[(209,bH),(210,nk)],[],9,[]⟩) au ⟨dA,um,trivial⟩ mixed Tryz.func140 rfl rfl (enters_of Tryz.func140 (by kernel_rfl) rfl) rfl (Nat.le_of_ble_eq_true rfl) rfl .no (fun d=>by kernel_rfl)
theorem n7:FOk Tryz.prog 80 lu:=fok (V:=⟨tt,[],[],15,[]⟩) au trivial mixed Tryz.func80 rfl rfl (enters_of Tryz.func80 (by kernel_rfl) rfl) rfl (Nat.le_of_ble_eq_true rfl) rfl .no (fun d=>by kernel_rfl)
theorem rO:FOk Tryz.prog 201 nl:=fok (V:=⟨tt,[(80,lu)],[],5,[]⟩) au ⟨n7,trivial⟩ mixed Tryz.func201 rfl rfl (enters_of Tryz.func201 (by kernel_rfl) rfl) rfl (Nat.le_of_ble_eq_true rfl) rfl .no (fun d=>by kernel_rfl)
theorem A6:FOk Tryz.prog 249 tW:=fok (V:=⟨tt,[(80,lu),(201,nl)],[],48,[]⟩) au ⟨n7,rO,trivial⟩ mixed Tryz.func249 rfl rfl (enters_of Tryz.func249 (by kernel_rfl) rfl) rfl (Nat.le_of_ble_eq_true rfl) rfl (.two .no (.two (.two .no (.two .no (.two .no (.two .no (.two .no (.join [.slot 37 .boo] .no .no)))))) .no)) (fun d=>by kernel_rfl)
theorem jg:FOk Tryz.prog 250 aW:=zp (f:=aW) (fE (f:=⟨aW.ps,aW.rs,aW.m,none⟩) (enters_of Tryz.func250 (by kernel_rfl) rfl) rfl (fun d=>rfl)) (Cq (V:=⟨tt,[],[(5,.raw)],8,[]⟩) au trivial mixed Tryz.func250 rfl rfl (enters_of Tryz.func250 (by kernel_rfl) rfl) (Nat.le_of_ble_eq_true rfl) .no (fun E bn xs=>by cases bn <;> kernel_rfl))
theorem qY:FOk Tryz.prog 176 nZ:=fok (V:=⟨tt,[(249,tW),(250,aW)],[],56,[(271,198,rB)]⟩) au ⟨A6,jg,trivial⟩ mixed Tryz.func176 rfl rfl (enters_of Tryz.func176 (by kernel_rfl) rfl) rfl (Nat.le_of_ble_eq_true rfl) rfl (.two .no (.two .no (.two (.two .no (.loop [.slot 3 (.own 198 PB),.slot 13 (.num .i64)] (.two .no (.two .no (.two (.two .no (.two .no (.two (.two .no (.at [.slot 6 (.num .i64)] (.two (.two .no (.at [.slot 19 .boo] .no)) (.two .no (.two (.two .no (.at [.slot 22 .boo] .no)) .no))))) .no))) .no))))) .no))) (fun d=>by kernel_rfl)
theorem Dy:FOk Tryz.prog 155 wi:=fok (V:=⟨tt,[(176,nZ)],[],6,[(271,198,rB)]⟩) au ⟨qY,trivial⟩ mixed Tryz.func155 rfl rfl (enters_of Tryz.func155 (by kernel_rfl) rfl) rfl (Nat.le_of_ble_eq_true rfl) rfl .no (fun d=>by kernel_rfl)
theorem uo:FOk Tryz.prog 79 nm:=fok (V:=⟨tt,[(155,wi)],[],11,[]⟩) au ⟨Dy,trivial⟩ mixed Tryz.func79 rfl rfl (enters_of Tryz.func79 (by kernel_rfl) rfl) rfl (Nat.le_of_ble_eq_true rfl) rfl .no (fun d=>by kernel_rfl)
theorem oG: ∀n,FOk Tryz.prog 299 (iM n)
 | 0=>fE (f:=iM 0) (enters_of Tryz.func299 (by kernel_rfl) rfl) rfl (fun d=>rfl)
 | n+1=>by
  have ih:=oG n
  exact fok (V:=⟨tt,[(299,(iM n))],[],39,[(271,198,rB)]⟩) au ⟨ih,trivial⟩ mixed Tryz.func299 rfl rfl (enters_of Tryz.func299 (by kernel_rfl) rfl) rfl (Nat.le_of_ble_eq_true rfl) rfl (.two .no (.two .no (.two (.two .no (.loop [.slot 3 (.num .i64),.slot 11 (.num .i64)] (.two .no (.two .no (.two (.at [.slot 3 (.num .i64)] .no) .no))))) .no))) (fun d=>by kernel_rfl)
theorem I7:FOk Tryz.prog 362 Cs:=fok (V:=⟨tt,[],[],7,[(271,198,rB)]⟩) au trivial mixed Tryz.func362 rfl rfl (enters_of Tryz.func362 (by kernel_rfl) rfl) rfl (Nat.le_of_ble_eq_true rfl) rfl .no (fun d=>by kernel_rfl)
theorem rP: ∀n,FOk Tryz.prog 339 (kL n)
 | 0=>fE (f:=kL 0) (enters_of Tryz.func339 (by kernel_rfl) rfl) rfl (fun d=>rfl)
 | n+1=>by
  have ih:=rP n
  exact fok (V:=⟨tt,[(339,(kL n)),(362,Cs)],[],32,[(271,198,rB)]⟩) au ⟨ih,I7,trivial⟩ mixed Tryz.func339 rfl rfl (enters_of Tryz.func339 (by kernel_rfl) rfl) rfl (Nat.le_of_ble_eq_true rfl) rfl .no (fun d=>by kernel_rfl)
theorem ny: ∀n,FOk Tryz.prog 300 (gQ n)
 | 0=>fE (f:=gQ 0) (enters_of Tryz.func300 (by kernel_rfl) rfl) rfl (fun d=>rfl)
 | n+1=>by
  have ih:=ny n
  exact fok (V:=⟨tt,[(300,(gQ n)),(339,(kL dS))],[(52,t198)],58,[(271,198,rB)]⟩) au ⟨ih,(rP dS),trivial⟩ mixed Tryz.func300 rfl rfl (enters_of Tryz.func300 (by kernel_rfl) rfl) rfl (Nat.le_of_ble_eq_true rfl) rfl (.two .no (.two .no (.two .no (.two (.two .no (.loop [.slot 41 (.num .i64),.box 3 [(.num .i64),(.num .i64),(.num .i64),(.num .i64),(.own 198 (.tree 271 198 rB))]] .no)) .no)))) (fun d=>by kernel_rfl)
theorem mE: ∀n,FOk Tryz.prog 340 (fM n)
 | 0=>fE (f:=fM 0) (enters_of Tryz.func340 (by kernel_rfl) rfl) rfl (fun d=>rfl)
 | n+1=>by
  have ih:=mE n
  exact fok (V:=⟨tt,[(340,(fM n))],[],32,[(271,198,rB)]⟩) au ⟨ih,trivial⟩ mixed Tryz.func340 rfl rfl (enters_of Tryz.func340 (by kernel_rfl) rfl) rfl (Nat.le_of_ble_eq_true rfl) rfl (.two (.two .no (.loop [.slot 11 (.num .i64),.box 1 [(.own 179 rB)]] .no)) .no) (fun d=>by kernel_rfl)
theorem xp:FOk Tryz.prog 301 qa:=fok (V:=⟨tt,[(340,(fM dS))],[],8,[(271,198,rB)]⟩) au ⟨(mE dS),trivial⟩ mixed Tryz.func301 rfl rfl (enters_of Tryz.func301 (by kernel_rfl) rfl) rfl (Nat.le_of_ble_eq_true rfl) rfl .no (fun d=>by kernel_rfl)
theorem vi:FOk Tryz.prog 224 oB:=fok (V:=⟨tt,[(79,nm),(176,nZ),(299,(iM dS)),(300,(gQ dS)),(301,qa)],[],25,[(271,198,rB)]⟩) au ⟨uo,qY,(oG dS),(ny dS),xp,trivial⟩ mixed Tryz.func224 rfl rfl (enters_of Tryz.func224 (by kernel_rfl) rfl) rfl (Nat.le_of_ble_eq_true rfl) rfl .no (fun d=>by kernel_rfl)
end R
namespace R
open Go.RowKit
open D
theorem oe:FOk Tryz.prog 302 ji:=fok (V:=⟨tt,[],[],31,[]⟩) au trivial mixed Tryz.func302 rfl rfl (enters_of Tryz.func302 (by kernel_rfl) rfl) rfl (Nat.le_of_ble_eq_true rfl) rfl (.two .no (.loop [.slot 12 (.num .i64),.par 3 [3] 3 y3] (.two .no (.two .no (.two (.at [.par 3 [3] 3 y3] .no) .no))))) (fun d=>by kernel_rfl)
theorem kd: ∀n,FOk Tryz.prog 225 (dQ n)
 | 0=>fE (f:=dQ 0) (enters_of Tryz.func225 (by kernel_rfl) rfl) rfl (fun d=>rfl)
 | n+1=>by
  have ih:=kd n
  exact fok (V:=⟨tt,[(225,(dQ n)),(302,ji)],[],163,[(271,198,rB)]⟩) au ⟨ih,oe,trivial⟩ mixed Tryz.func225 rfl rfl (enters_of Tryz.func225 (by kernel_rfl) rfl) rfl (Nat.le_of_ble_eq_true rfl) rfl (.two .no (.two (.two .no (.two .no (.two .no (.two .no (.two .no (.two .no (.two .no (.two .no (.two (.two .no (.two .no (.two .no (.two (.two .no (.at [.box 10 [(.num .i64),(.num .i64),.boo]] .no)) (.two (.two .no (.at [.box 10 [(.num .i64),(.num .i64),.boo]] .no)) .no))))) .no))))))))) .no)) (fun d=>by kernel_rfl)
theorem qg:FOk Tryz.prog 156 kM:=fok (V:=⟨tt,[(176,nZ),(224,oB),(225,(dQ dS))],[],49,[(271,198,rB)]⟩) au ⟨qY,vi,(kd dS),trivial⟩ mixed Tryz.func156 rfl rfl (enters_of Tryz.func156 (by kernel_rfl) rfl) rfl (Nat.le_of_ble_eq_true rfl) rfl (.two .no (.two .no (.two .no (.two .no (.two (.two .no (.loop [.slot 6 (.num .i64),.slot 22 (.num .i64)] (.two .no (.two .no (.two (.at [.slot 6 (.num .i64)] .no) .no))))) .no))))) (fun d=>by kernel_rfl)
theorem mF:FOk Tryz.prog 113 jf:=fok (V:=⟨tt,[],[],96,[]⟩) au trivial mixed Tryz.func113 rfl rfl (enters_of Tryz.func113 (by kernel_rfl) rfl) rfl (Nat.le_of_ble_eq_true rfl) rfl (.two .no (.two .no (.two .no (.two .no (.two (.two .no (.loop [.slot 10 (.own 3 y3),.slot 11 (.map ⟨3,3,.int,.int⟩),.slot 13 (.num .i64),.box 12 [(.num .i64),(.own 4 y4),(.own 39 y39)]] (.two .no (.two (.two .no (.two (.two .no (.loop [.slot 10 (.own 3 y3),.slot 11 (.map ⟨3,3,.int,.int⟩),.slot 14 (.own 3 y3),.slot 15 (.num .i64)] (.two .no (.join [.slot 10 (.own 3 y3),.slot 11 (.map ⟨3,3,.int,.int⟩),.slot 14 (.own 3 y3)] (.two .no (.two .no (.two .no (.join [.slot 10 (.own 3 y3),.slot 11 (.map ⟨3,3,.int,.int⟩),.slot 18 (.num .i64)] .no .no)))) .no)))) .no)) .no)))) .no))))) (fun d=>by kernel_rfl)
theorem nz:FOk Tryz.prog 226 iT:=fok (V:=⟨tt,[],[],20,[]⟩) au trivial mixed Tryz.func226 rfl rfl (enters_of Tryz.func226 (by kernel_rfl) rfl) rfl (Nat.le_of_ble_eq_true rfl) rfl .no (fun d=>by kernel_rfl)
theorem pd:FOk Tryz.prog 228 j3:=fok (V:=⟨tt,[],[],61,[]⟩) au trivial mixed Tryz.func228 rfl rfl (enters_of Tryz.func228 (by kernel_rfl) rfl) rfl (Nat.le_of_ble_eq_true rfl) rfl (.two .no (.two .no (.join [.slot 7 (.num .i64)] .no (.two (.two .no (.loop [.slot 7 (.num .i64),.slot 21 (.num .i64)] (.two .no (.two .no (.join [.slot 7 (.num .i64)] .no .no))))) (.two .no (.two (.two .no (.loop [.slot 10 (.num .i64),.slot 39 (.num .i64)] (.two .no (.two .no (.join [.slot 10 (.num .i64)] .no .no))))) .no)))))) (fun d=>by kernel_rfl)
theorem qZ:FOk Tryz.prog 227 lx:=fok (V:=⟨tt,[(228,j3)],[],15,[]⟩) au ⟨pd,trivial⟩ mixed Tryz.func227 rfl rfl (enters_of Tryz.func227 (by kernel_rfl) rfl) rfl (Nat.le_of_ble_eq_true rfl) rfl .no (fun d=>by kernel_rfl)
theorem uq:FOk Tryz.prog 157 np:=fok (V:=⟨tt,[(113,jf),(226,iT),(227,lx)],[],13,[]⟩) au ⟨mF,nz,qZ,trivial⟩ mixed Tryz.func157 rfl rfl (enters_of Tryz.func157 (by kernel_rfl) rfl) rfl (Nat.le_of_ble_eq_true rfl) rfl .no (fun d=>by kernel_rfl)
theorem jD:FOk Tryz.prog 273 a6:=zp (f:=a6) (fE (f:=⟨a6.ps,a6.rs,a6.m,none⟩) (enters_of Tryz.func273 (by kernel_rfl) rfl) rfl (fun d=>rfl)) (Cq (V:=⟨tt,[],[(5,.raw)],8,[]⟩) au trivial mixed Tryz.func273 rfl rfl (enters_of Tryz.func273 (by kernel_rfl) rfl) (Nat.le_of_ble_eq_true rfl) .no (fun E bn xs=>by cases bn <;> kernel_rfl))
theorem qi:FOk Tryz.prog 198 kN:=fok (V:=⟨tt,[(273,a6)],[],48,[]⟩) au ⟨jD,trivial⟩ mixed Tryz.func198 rfl rfl (enters_of Tryz.func198 (by kernel_rfl) rfl) rfl (Nat.le_of_ble_eq_true rfl) rfl (.two .no (.two .no (.two (.two .no (.loop [.slot 4 .boo,.row 3 4 y4] (.two .no (.two .no (.two .no (.loop [.slot 4 .boo,.slot 16 (.num .i64),.row 3 4 y4] (.two .no (.two .no (.two (.two .no (.two .no (.loop [.slot 4 .boo,.slot 23 (.num .i64),.row 3 4 y4] (.two .no (.two .no (.two (.at [.slot 4 .boo,.row 3 4 y4] .no) .no)))))) .no))))))))) .no))) (fun d=>by kernel_rfl)
theorem gq:FOk Tryz.prog 274 cM:=fok (V:=⟨tt,[],[],19,[]⟩) au trivial mixed Tryz.func274 rfl rfl (enters_of Tryz.func274 (by kernel_rfl) rfl) rfl (Nat.le_of_ble_eq_true rfl) rfl (.two .no (.two (.two .no (.loop [.slot 8 (.num .i64)] .no)) .no)) (fun d=>by kernel_rfl)
theorem fh:FOk Tryz.prog 276 cO:=fok (V:=⟨tt,[],[],26,[]⟩) au trivial mixed Tryz.func276 rfl rfl (enters_of Tryz.func276 (by kernel_rfl) rfl) rfl (Nat.le_of_ble_eq_true rfl) rfl (.two .no (.two .no (.two (.two .no (.loop [.slot 13 (.num .i64)] .no)) .no))) (fun d=>by kernel_rfl)
theorem mI:FOk Tryz.prog 275 gV:=fok (V:=⟨tt,[(276,cO)],[],7,[]⟩) au ⟨fh,trivial⟩ mixed Tryz.func275 rfl rfl (enters_of Tryz.func275 (by kernel_rfl) rfl) rfl (Nat.le_of_ble_eq_true rfl) rfl .no (fun d=>by kernel_rfl)
theorem oh:FOk Tryz.prog 199 jj:=fok (V:=⟨tt,[(274,cM),(275,gV)],[],70,[]⟩) au ⟨gq,mI,trivial⟩ mixed Tryz.func199 rfl rfl (enters_of Tryz.func199 (by kernel_rfl) rfl) rfl (Nat.le_of_ble_eq_true rfl) rfl (.two .no (.two .no (.two .no (.two (.two .no (.loop [.slot 6 (.own 39 y39),.slot 7 (.own 3 y3),.slot 18 (.num .i64)] (.two .no (.two .no (.join [.slot 6 (.own 39 y39),.slot 7 (.own 3 y3)] (.two .no (.two .no (.two .no (.two (.two .no (.loop [.slot 36 (.num .i64),.box 10 [(.own 3 y3)]] (.two .no (.two .no (.two (.two .no (.join [.slot 12 (.num .i64)] .no .no)) .no))))) (.two .no (.join [.slot 6 (.own 39 y39),.slot 13 (.num .i64),.gone 10] .no .no)))))) .no))))) .no)))) (fun d=>by kernel_rfl)
theorem nA:FOk Tryz.prog 109 iU:=fok (V:=⟨tt,[(198,kN),(199,jj)],[],49,[]⟩) au ⟨qi,oh,trivial⟩ mixed Tryz.func109 rfl rfl (enters_of Tryz.func109 (by kernel_rfl) rfl) rfl (Nat.le_of_ble_eq_true rfl) rfl (.two .no (.two .no (.two (.two .no (.loop [.slot 3 (.own 3 y3),.slot 13 (.num .i64)] (.two .no (.two .no (.join [.slot 3 (.own 3 y3)] .no .no))))) (.two .no (.loop [.slot 3 (.own 3 y3),.slot 6 (.num .i64)] .no))))) (fun d=>by kernel_rfl)
theorem pe:FOk Tryz.prog 320 j4:=fok (V:=⟨tt,[],[],17,[]⟩) au trivial mixed Tryz.func320 rfl rfl (enters_of Tryz.func320 (by kernel_rfl) rfl) rfl (Nat.le_of_ble_eq_true rfl) rfl .no (fun d=>by kernel_rfl)
theorem pf:FOk Tryz.prog 321 j5:=fok (V:=⟨tt,[],[],51,[]⟩) au trivial mixed Tryz.func321 rfl rfl (enters_of Tryz.func321 (by kernel_rfl) rfl) rfl (Nat.le_of_ble_eq_true rfl) rfl .no (fun d=>by kernel_rfl)
end R
namespace R
open Go.RowKit
open D
theorem q7:FOk Tryz.prog 277 lz:=fok (V:=⟨tt,[(320,j4),(321,j5)],[],30,[]⟩) au ⟨pe,pf,trivial⟩ mixed Tryz.func277 rfl rfl (enters_of Tryz.func277 (by kernel_rfl) rfl) rfl (Nat.le_of_ble_eq_true rfl) rfl .no (fun d=>by kernel_rfl)
theorem ke:FOk Tryz.prog 200 eS:=fok (V:=⟨tt,[(277,lz)],[(44,.bool)],48,[]⟩) au ⟨q7,trivial⟩ mixed Tryz.func200 rfl rfl (enters_of Tryz.func200 (by kernel_rfl) rfl) rfl (Nat.le_of_ble_eq_true rfl) rfl (.two .no (.two .no (.two .no (.two .no (.two .no (.two .no (.two (.loop [.slot 8 (.num .i64),.row 7 3 (.int .i64)] .no) .no))))))) (fun d=>by kernel_rfl)
theorem A7:FOk Tryz.prog 110 tX:=fok (V:=⟨tt,[(200,eS)],[],6,[]⟩) au ⟨ke,trivial⟩ mixed Tryz.func110 rfl rfl (enters_of Tryz.func110 (by kernel_rfl) rfl) rfl (Nat.le_of_ble_eq_true rfl) rfl .no (fun d=>by kernel_rfl)
theorem kq:FOk Tryz.prog 112 fg:=fok (V:=⟨tt,[],[],19,[]⟩) au trivial mixed Tryz.func112 rfl rfl (enters_of Tryz.func112 (by kernel_rfl) rfl) rfl (Nat.le_of_ble_eq_true rfl) rfl (.two .no (.two (.two .no (.loop [.slot 8 (.num .i64)] .no)) .no)) (fun d=>by kernel_rfl)
theorem lE:FOk Tryz.prog 111 gb:=fok (V:=⟨tt,[(112,fg)],[],7,[]⟩) au ⟨kq,trivial⟩ mixed Tryz.func111 rfl rfl (enters_of Tryz.func111 (by kernel_rfl) rfl) rfl (Nat.le_of_ble_eq_true rfl) rfl .no (fun d=>by kernel_rfl)
theorem lF:FOk Tryz.prog 114 gf:=fok (V:=⟨tt,[],[],12,[]⟩) au trivial mixed Tryz.func114 rfl rfl (enters_of Tryz.func114 (by kernel_rfl) rfl) rfl (Nat.le_of_ble_eq_true rfl) rfl .no (fun d=>by kernel_rfl)
theorem kQ:FOk Tryz.prog 116 gR:=fok (V:=⟨tt,[(201,nl)],[],22,[]⟩) au ⟨rO,trivial⟩ mixed Tryz.func116 rfl rfl (enters_of Tryz.func116 (by kernel_rfl) rfl) rfl (Nat.le_of_ble_eq_true rfl) rfl .no (fun d=>by kernel_rfl)
theorem lG:FOk Tryz.prog 115 gg:=fok (V:=⟨tt,[(116,gR)],[],29,[]⟩) au ⟨kQ,trivial⟩ mixed Tryz.func115 rfl rfl (enters_of Tryz.func115 (by kernel_rfl) rfl) rfl (Nat.le_of_ble_eq_true rfl) rfl .no (fun d=>by kernel_rfl)
theorem mJ:FOk Tryz.prog 49 gW:=fok (V:=⟨tt,[(109,iU),(110,tX),(111,gb),(113,jf),(114,gf),(115,gg)],[],31,[]⟩) au ⟨nA,A7,lE,mF,lF,lG,trivial⟩ mixed Tryz.func49 rfl rfl (enters_of Tryz.func49 (by kernel_rfl) rfl) rfl (Nat.le_of_ble_eq_true rfl) rfl .no (fun d=>by kernel_rfl)
theorem F9:FOk Tryz.prog 158 zr:=fok (V:=⟨tt,[(49,gW)],[],13,[]⟩) au ⟨mJ,trivial⟩ mixed Tryz.func158 rfl rfl (enters_of Tryz.func158 (by kernel_rfl) rfl) rfl (Nat.le_of_ble_eq_true rfl) rfl .no (fun d=>by kernel_rfl)
theorem ur:FOk Tryz.prog 81 nq:=fok (V:=⟨tt,[(156,kM),(157,np),(158,zr)],[],28,[]⟩) au ⟨qg,uq,F9,trivial⟩ mixed Tryz.func81 rfl rfl (enters_of Tryz.func81 (by kernel_rfl) rfl) rfl (Nat.le_of_ble_eq_true rfl) rfl .no (fun d=>by kernel_rfl)
theorem dZ:FOk Tryz.prog 284 bN:=fok (V:=⟨tt,[],[],19,[]⟩) au trivial mixed Tryz.func284 rfl rfl (enters_of Tryz.func284 (by kernel_rfl) rfl) rfl (Nat.le_of_ble_eq_true rfl) rfl (.two .no (.two (.two .no (.loop [.slot 8 (.num .i64)] .no)) .no)) (fun d=>by kernel_rfl)
theorem jE:FOk Tryz.prog 333 eB:=fok (V:=⟨tt,[],[],26,[]⟩) au trivial mixed Tryz.func333 rfl rfl (enters_of Tryz.func333 (by kernel_rfl) rfl) rfl (Nat.le_of_ble_eq_true rfl) rfl (.two .no (.two .no (.two (.two .no (.loop [.slot 13 (.num .i64)] .no)) .no))) (fun d=>by kernel_rfl)
theorem cV:FOk Tryz.prog 334 bx:=fok (V:=⟨tt,[],[],32,[]⟩) au trivial mixed Tryz.func334 rfl rfl (enters_of Tryz.func334 (by kernel_rfl) rfl) rfl (Nat.le_of_ble_eq_true rfl) rfl (.two .no (.two .no (.two (.two .no (.loop [.slot 17 (.num .i64)] .no)) .no))) (fun d=>by kernel_rfl)
theorem pg:FOk Tryz.prog 335 j6:=fok (V:=⟨tt,[(276,cO)],[],8,[]⟩) au ⟨fh,trivial⟩ mixed Tryz.func335 rfl rfl (enters_of Tryz.func335 (by kernel_rfl) rfl) rfl (Nat.le_of_ble_eq_true rfl) rfl .no (fun d=>by kernel_rfl)
theorem lH:FOk Tryz.prog 286 il:=fok (V:=⟨tt,[(333,eB),(334,bx),(335,j6)],[],24,[]⟩) au ⟨jE,cV,pg,trivial⟩ mixed Tryz.func286 rfl rfl (enters_of Tryz.func286 (by kernel_rfl) rfl) rfl (Nat.le_of_ble_eq_true rfl) rfl .no (fun d=>by kernel_rfl)
theorem zB:FOk Tryz.prog 285 rI:=fok (V:=⟨tt,[(286,il)],[],7,[]⟩) au ⟨lH,trivial⟩ mixed Tryz.func285 rfl rfl (enters_of Tryz.func285 (by kernel_rfl) rfl) rfl (Nat.le_of_ble_eq_true rfl) rfl .no (fun d=>by kernel_rfl)
end R
end Go.Proofs.YtcmpdlhbliolaaaGreat
