/- FnExactIsValidEngine: for every input the law returns true and changes nothing that was there. Part 6 of 9. -/
import Derived.Test.YtilionjghdjbdaaGreatDoorEC4
set_option linter.unusedVariables false
set_option linter.unusedSimpArgs false
set_option linter.unnecessarySimpa false
set_option linter.unusedSectionVars false
set_option maxRecDepth 1000000
namespace Go.Proofs.YtilionjghdjbdaaGreatDoor
namespace R
open Go.RowKit
open D
def JB (i:Nat):(p:PM)→p.den→AV
 | .rd t,d=>H0 i t d
 | .ow t,d=>Il (hY i [] t d)
 | .fn a b,d=>.one (.fn ⟨i,[]⟩ a b d)
 | .cap T t,d=>.one (.fz ⟨i,[]⟩ T t d 0)
 | .capf T a b,d=>.one (.fzf ⟨i,[]⟩ T a b d)
 | .ptr _ _,_=>.one (.ptr ⟨i,[]⟩ 0)
 | .eat t,d=>Il (hY i [] t d)
 | .fk g,_=>.one (.val (.func (.func g) #[] #[]))
def Fl (i:Nat):(p:PM)→p.den→List (Hdr×Chk)
 | .ow t,d=>iT i [] t d
 | .ptr T t,d=>[(⟨i,[]⟩,.box T t d)]
 | .eat t,d=>iT i [] t d
 | _,_=>[]
def Fm:(i:Nat)→(ps:List PM)→denP ps→List (Nat×Nat×AV)
 | _,[],_=>[]
 | i,p::ps,d=>(i,i,JB i p d.1)::Fm (i+1) ps d.2
def B6:(i:Nat)→(ps:List PM)→denP ps→List Ent
 | _,[],_=>[]
 | i,p::ps,d=>(Fl i p d.1).map (fun g=>(g.1,i,g.2))++B6 (i+1) ps d.2
def yJ (ps:List PM) (d:denP ps):Sg:=⟨Fm 0 ps d,B6 0 ps d,ps.length⟩
def UB (P:Program) (w0:World) (J:Hp) (θ:Th) (n i:Nat):(p:PM)→Value→p.den→Prop
 | .ow t,v,d=>(hY i [] t d).2.map (·.v θ)=fZ t.isProd v∧ ∀x∈(hY i [] t d).2,x.ok P w0 J θ n
 | .ptr _ _,v,_=>hv θ ⟨i,[]⟩=v∧i<n
 | _,_,_=>True
def StF (P:Program) (w0:World) (J:Hp) (θ:Th) (n:Nat):(i:Nat)→(ps:List PM)→List Value→denP ps→Prop
 | i,p::ps,v::vs,d=>UB P w0 J θ n i p v d.1∧StF P w0 J θ n (i+1) ps vs d.2
 | _,_,_,_=>True
section
variable {P:Program} {w0 w:World} {J:Hp} {θ:Th} {n:Nat} {C:List Ch}
theorem tN {id:Nat} {pre:List Nat} {t:Ty} {d:t.den} : ∀g∈iT id pre t d,Hv g.2:=fo t d 0
theorem JC {p:PM} {i:Nat} {v:Value} {d:p.den} {ps:List PM} {vs:List Value} {e:denP ps} (hi:i<n) (hθ:θ i=v) (h:Tv P w0 J p v d) (hS:St J w0 w (owCh (p::ps) (v::vs) (d,e)++C)) :
  (∀chs,(JB i p d).ok P w0 J θ n chs)∧(JB i p d).v θ=v∧St J w0 w ((Fl i p d).map (fun g=>toCh P θ (g.1,i,g.2))++(owCh ps vs e++C))∧(∀g∈Fl i p d,Hv g.2∧g.1.id=i)∧UB P w0 J θ n i p v d:=by
 cases p with
 | rd t =>
  obtain ⟨cs,h1,h2⟩:=h
  have hav:=fun chs=>ma (P:=P) (w0:=w0) (J:=J) (chs:=chs) hi hθ t d cs h2 h1
  exact ⟨fun chs=>(hav chs).1,(hav []).2,hS,fun g hg=>(by cases hg),trivial⟩
 | fn a b =>
  have hh:hv θ ⟨i,[]⟩=v:=hθ
  exact ⟨fun chs=>⟨hi,by rw[hh];exact h⟩,hh,hS,fun g hg=>(by cases hg),trivial⟩
 | cap T t =>
  obtain ⟨b,rfl,cells,h1,h2⟩:=h
  have hh:hv θ ⟨i,[]⟩= .pointer (some ⟨b,0,none⟩):=hθ
  refine ⟨fun chs=>⟨hi,cells,by rw[hh];exact h1,h2⟩,?_,hS,fun g hg=>(by cases hg),trivial⟩
  show Value.pointer (some ⟨bk (hv θ ⟨i,[]⟩),0,none⟩)=_
  rw[hh];rfl
 | capf T x y =>
  obtain ⟨b,rfl,u,h1,h2⟩:=h
  have hh:hv θ ⟨i,[]⟩= .pointer (some ⟨b,0,none⟩):=hθ
  refine ⟨fun chs=>⟨hi,u,by rw[hh];exact h1,h2⟩,?_,hS,fun g hg=>(by cases hg),trivial⟩
  show Value.pointer (some ⟨bk (hv θ ⟨i,[]⟩),0,none⟩)=_
  rw[hh];rfl
 | ptr T t =>
  obtain ⟨b,rfl⟩:=h
  have hh:hv θ ⟨i,[]⟩= .pointer (some ⟨b,0,none⟩):=hθ
  refine ⟨fun chs=>hi,?_,?_,fun g hg=>by obtain rfl:=List.mem_singleton.1 hg;exact ⟨trivial,rfl⟩,hh,hi⟩
  ·show Value.pointer (some ⟨bk (hv θ ⟨i,[]⟩),0,none⟩)=_
   rw[hh];rfl
  ·show St J w0 w (Ch.box (bk (hv θ ⟨i,[]⟩)) T t.rep d::_)
   rw[hh];exact hS
 | ow t =>
  have hS:St J w0 w (Ch.own t.rep (fZ t.isProd v) d::(owCh ps vs e++C)):=hS
  obtain ⟨k1,k2,k3,k4,k5⟩:=ru (P:=P) (m:=i) (pre:=[]) (id:=i) (n:=n) hi (show hv θ ⟨i,[]⟩=v from hθ) h hS
  have q:=fun chs=>zK (P:=P) (w0:=w0) (J:=J) (θ:=θ) (n:=n) (chs:=chs) (hY i [] t d) (fun e=>oz e) k1
  exact ⟨fun chs=>(q chs).1,(q []).2.trans k3,k5,fun g hg=>⟨tN g hg,k4 g hg⟩,k2,k1⟩
 | eat t =>
  have hS:St J w0 w (Ch.own t.rep (fZ t.isProd v) d::(owCh ps vs e++C)):=hS
  obtain ⟨k1,k2,k3,k4,k5⟩:=ru (P:=P) (m:=i) (pre:=[]) (id:=i) (n:=n) hi (show hv θ ⟨i,[]⟩=v from hθ) h hS
  have q:=fun chs=>zK (P:=P) (w0:=w0) (J:=J) (θ:=θ) (n:=n) (chs:=chs) (hY i [] t d) (fun e=>oz e) k1
  exact ⟨fun chs=>(q chs).1,(q []).2.trans k3,k5,fun g hg=>⟨tN g hg,k4 g hg⟩,trivial⟩
 | fk g =>
  obtain rfl:=h
  exact ⟨fun chs=>rfl,rfl,hS,fun g hg=>(by cases hg),trivial⟩
theorem Fo: ∀ {ps:List PM} {i:Nat} {vs:List Value} {d:denP ps} {C:List Ch},PArgs P w0 J ps vs d→(∀j v,vs[j]? =some v→θ (i+j)=v)→i+ps.length≤n→St J w0 w (owCh ps vs d++C)→
  (∀e∈Fm i ps d,(∀chs,e.2.2.ok P w0 J θ n chs)∧i≤e.1∧e.2.1=e.1∧e.1<i+ps.length∧vs[e.1 - i]? =some (e.2.2.v θ))∧((Fm i ps d).Pairwise fun a b=>a.2.1≠b.2.1)∧St J w0 w ((B6 i ps d).map (toCh P θ)++C)∧(∀e∈B6 i ps d,∀chs,okE P w0 J θ n chs e)∧StF P w0 J θ n i ps vs d
 | [],i,vs,d,C,h,_,_,hS=>by
  have h:vs= []:=h
  subst h
  exact ⟨fun e he=>(by cases he),List.Pairwise.nil,hS,fun e he=>(by cases he),trivial⟩
 | p::ps,i,vs,d,C,h,hθ,hn,hS=>by
  obtain ⟨v,r,rfl,h1,h3⟩:=h
  rw[List.length_cons] at hn
  obtain ⟨a1,a2,a3,a4,a5⟩:=JC (n:=n) (i:=i) (θ:=θ) (e:=d.2) (show i<n by omega) (hθ 0 v rfl) h1 hS
  obtain ⟨k1,k2,k3,k4,k5⟩:=Fo (i:=i+1) h3 (fun j u hj=>by
   have:=hθ (j+1) u hj
   rwa [show i+(j+1)=i+1+j from by omega] at this) (by omega) (a3.perm (List.perm_append_comm_assoc _ _ _))
  refine ⟨fun e he=>?_,List.pairwise_cons.2 ⟨fun e he hh=>?_,k2⟩,?_,fun e he chs=>?_,a5,k5⟩
  ·rcases List.mem_cons.1 he with rfl | he
   ·exact ⟨a1,Nat.le_refl _,rfl,by rw[List.length_cons];show i<_;omega,by show (v::r)[i - i]? =_;rw[Nat.sub_self,a2];rfl⟩
   ·obtain ⟨q1,q2,q3,q4,q5⟩:=k1 e he
    refine ⟨q1,by omega,q3,by rw[List.length_cons];omega,?_⟩
    rw[show e.1 - i=(e.1 - (i+1))+1 from by omega];exact q5
  ·have:=k1 e he
   have hh:i=e.2.1:=hh
   omega
  ·show St J w0 w (((Fl i p d.1).map _++B6 (i+1) ps d.2).map (toCh P θ)++C)
   rw[List.map_append,List.map_map]
   refine k3.perm ?_
   rw[List.append_assoc]
   exact List.perm_append_comm_assoc _ _ _
  ·rcases List.mem_append.1 he with he | he
   ·obtain ⟨g,hg,rfl⟩:=List.mem_map.1 he
    obtain ⟨g1,g2⟩:=a4 g hg
    exact vS g1 (by omega) (by omega)
   ·exact k4 e he chs
theorem B7: ∀ {ps:List PM} {vs:List Value} {d:denP ps},PArgs P w0 J ps vs d→vs.length=ps.length
 | [],vs,d,h=>by
  have h:vs= []:=h
  subst h;rfl
 | p::ps,vs,d,h=>by
  obtain ⟨v,r,rfl,h1,h3⟩:=h
  simpa using B7 h3
end
def QB (tt:TT) (s:Sg):ResultVar→Option AV
 | .tmp t=>look s.env t
 | .cell p T=>(Rd (look s.env p)).bind fun h=>(td tt T).bind fun d=>(rm h s.chs).bind fun b=>bq (Nat.beq b.cells.length d.n) (Tt d.agg b.cells)
theorem QC {v:Option AV} {h:Hdr} (k:Rd v=some h):v=some (.one (.ptr h 0)):=by
 unfold Rd at k
 split at k
 ·rename_i h' off
  split at k
  ·rename_i ho
   rw[Nat.eq_of_beq_eq_true ho,Option.some.inj k]
  ·cases k
 ·cases k
section
variable {P:Program} {I:Hp} {w0 w:World} {F:Ch} {J:Hp} {θ:Th} {n:Nat} {s:Sg} {a:Act} {tt:TT}
theorem QD (ha:Agr n a (envL θ s)) {t g:Nat} {T E:TypeId} {v:Value} {cs:List Ch} (h:(envL θ s).lookup t=some (.pointer (some ⟨g,0,none⟩))) (hs:St J w0 w cs) (i:Nat) (hi:cs[i]? =some (Ch.blk g [v] E)) (hT:TI P T false 1):CV P a w (.cell t T) v:=by
 refine ⟨_,ha.2.2 t _ h,?_⟩
 have hg:=hs.heap i hi
 have hc:w.cell? ⟨g,0,none⟩=some v:=by simp[World.cell?,hg]
 simp[loadVar,Sem.run_bind,hT.run_agg,load,Sem.run,hc,Result.andThen]
theorem MU (hT:TTok P tt) (hS:Sim P I w0 F n J θ s a w) {r:ResultVar} {v:AV} (h:QB tt s r=some v):CV P a w r (v.v θ)∧v.ok P w0 J θ s.nxt s.chs:=by
 cases r with
 | tmp t=>exact ⟨Ph hS.agr (eV h),aU (x:=.tmp t) hS.fine h⟩
 | cell p T =>
  obtain ⟨hh,h1,h⟩:=bind_some (show (Rd (look s.env p)).bind _=some v from h)
  obtain ⟨d,hd,h⟩:=bind_some h
  obtain ⟨b,hb,h⟩:=bind_some h
  obtain ⟨hl,h⟩:=af h
  have hl:=Nat.eq_of_beq_eq_true hl
  have hp:=jk hb
  have hok:=hS.fine.chs _ (hp.mem_iff.2 (List.mem_cons_self ..))
  obtain ⟨k1,k2⟩:=If (chs:=s.chs) h hok.2.2
  refine ⟨?_,k1⟩
  have hlk:(envL θ s).lookup p=some (.pointer (some ⟨bk (hv θ hh),0,none⟩)):=eV (QC h1)
  have hst:=hS.st.perm ((hp.map (toCh P θ)).append_right [F])
  have hti:=(hT.get hd).ti
  cases hagg:d.agg with
  | true =>
   rw[hagg] at k2 hti
   rw[←k2]
   exact Lc hS.agr hlk hst 0 rfl hti (by rw[List.length_map];exact hl)
  | false =>
   rw[hagg] at k2 hti h
   have h1':d.n=1:=by
    have:=(hT.get hd).one
    rw[hagg] at this
    simpa using this
   obtain ⟨x,hx⟩:=List.length_eq_one_iff.1 (hl.trans h1')
   rw[h1'] at hti
   rw[hx] at k2
   rw[←k2]
   have hst2:St J w0 w (Ch.blk (bk (hv θ hh)) [x.v θ] b.T::(b.rest.map (toCh P θ)++ [F])):=by
    have:(toCh P θ (b.ent hh))=Ch.blk (bk (hv θ hh)) (b.cells.map (·.v θ)) b.T:=rfl
    rw[hx] at this
    rw[←show toCh P θ (b.ent hh)=Ch.blk (bk (hv θ hh)) [x.v θ] b.T from this]
    exact hst
   exact QD hS.agr hlk hst2 0 rfl hti
end
def DF:(ts:List Ty)→List AV→List Ent→Option (fY ts×List Ent×List Ent)
 | [],[],chs=>some ((),[],chs)
 | t::ts,v::vs,chs=>bq (rz v==t.isProd) ((gD v).bind fun cs=>(cC t cs chs).bind fun q=>bq q.cells.isEmpty ((DF ts vs q.rest).bind fun r=>some ((q.d,r.1),q.used++r.2.1,r.2.2)))
 | _,_,_=>none
def sK:(ts:List Ty)→List Value→fY ts→List Ch
 | t::ts,v::vs,d=>Ch.own t.rep (fZ t.isProd v) d.1::sK ts vs d.2
 | _,_,_=>[]
theorem yK {P:Program} {w0:World} {J:Hp} {θ:Th} {n:Nat} {chs0:List Ent} : ∀ {ts:List Ty} {vs:List AV} {chs:List Ent} {r:fY ts×List Ent×List Ent},DF ts vs chs=some r→(∀v∈vs,v.ok P w0 J θ n chs0)→
  chs.Perm (r.2.1++r.2.2)∧vs.length=ts.length∧mV J (r.2.1.map (toCh P θ)) (sK ts (vs.map (·.v θ)) r.1)∧ ∀(i:Nat) t v,ts[i]? =some t→vs[i]? =some v→l9 (v.v θ)=t.isProd
 | [],[],chs,r,h,_=>by
  obtain rfl:=Option.some.inj (show some _=some r from h)
  exact ⟨List.Perm.refl _,rfl,ri,fun i t v ht=>by simp at ht⟩
 | t::ts,v::vs,chs,r,h,hv'=>by
  obtain ⟨ha,h⟩:=af (show bq (rz v==t.isProd) _=some r from h)
  have ha:rz v=t.isProd:=by simpa using ha
  obtain ⟨cs,hcs,h⟩:=bind_some h
  obtain ⟨q,hq,h⟩:=bind_some h
  obtain ⟨he,h⟩:=af h
  obtain ⟨r',hr,h⟩:=bind_some h
  obtain rfl:=Option.some.inj h
  obtain ⟨c1,c2⟩:=fL hcs (hv' v (by simp))
  obtain ⟨p,cc,e1,e2⟩:=gE (J:=J) (θ:=θ) hq c1
  rw[List.isEmpty_iff.1 he,List.append_nil] at e1
  subst e1
  obtain ⟨k1,k2,k3,k4⟩:=yK hr fun x hx=>hv' x (by simp[hx])
  have hcell:fZ t.isProd (v.v θ)=cs.map (·.v θ)∧l9 (v.v θ)=t.isProd:=by
   rw[←ha]
   cases v with
   | agg xs =>
    obtain rfl:=Option.some.inj (show some xs=some cs from hcs)
    exact ⟨rfl,rfl⟩
   | one x =>
    obtain rfl:=Option.some.inj (show some [x] =some cs from hcs)
    refine ⟨rfl,?_⟩
    have h1:(x.v θ).oneCell'=true:=LV.one (show LV.ok P w0 J θ n x from hv' (.one x) (by simp))
    show l9 (x.v θ)=false
    generalize x.v θ=u at h1
    cases u <;> first | rfl | cases h1
   | _=>cases hcs
  refine ⟨by rw[List.append_assoc];exact p.trans (k1.append_left _),by rw[List.length_cons,List.length_cons,k2],?_,fun i t' v' ht hv0=>?_⟩
  ·show mV J ((q.used++r'.2.1).map _) (Ch.own t.rep (fZ t.isProd (v.v θ)) q.d::sK ts (vs.map _) r'.1)
   rw[List.map_append,hcell.1]
   exact ox e2 k3
  ·cases i with
   | zero =>
    obtain rfl:t=t':=by simpa using ht
    obtain rfl:v=v':=by simpa using hv0
    exact hcell.2
   | succ i=>exact k4 i t' v' (by simpa using ht) (by simpa using hv0)
 | [],_::_,chs,r,h,_=>by cases h
 | _::_,[],chs,r,h,_=>by cases h
def S9:List Value→Value
 | [v] =>v
 | vs=>.tuple vs.toArray
def Fp (P:Program) (a:Act) (w:World):List ResultVar→List Value→Prop
 | [],vs=>vs= []
 | r::rs,vs=> ∃v us,vs=v::us∧CV P a w r v∧Fp P a w rs us
theorem tO {P:Program} {a:Act} {w:World} {f:ResultVar→Sem Value} (hf: ∀r v,CV P a w r v→(f r).run P w= .ok v w): ∀ {l:List ResultVar} {vs:List Value},Fp P a w l vs→(l.mapM f).run P w= .ok vs w
 | [],vs,h=>by
  have h:vs= []:=h
  subst h
  rw[List.mapM_nil];rfl
 | r::l,vs,h=>by
  obtain ⟨v,us,rfl,h1,h2⟩:=h
  rw[List.mapM_cons,Sem.run_bind,hf r v h1]
  simp only[Result.andThen_ok,Sem.run_bind,tO hf h2]
  rfl
def Ta (a:Act) (r:ResultVar):Sem Value:=match r with
 | .tmp t=>pure (a.tmps.getD t undef)
 | .cell p t=>do loadVar t (←asAddr (a.tmps.getD p undef))
theorem QE {P:Program} {a:Act} {w:World} {r:ResultVar} {v:Value} (h:CV P a w r v):(Ta a r).run P w= .ok v w:=by
 cases r with
 | tmp t =>
  have h:a.tmps.getD t undef=v:=h
  show (pure (a.tmps.getD t undef):Sem Value).run P w=_
  rw[h];rfl
 | cell p T =>
  obtain ⟨A,h1,h2⟩:=h
  show ((asAddr (a.tmps.getD p undef)) >>=fun x=>loadVar T x).run P w=_
  rw[h1,Sem.run_bind]
  show Result.andThen (.ok A w) _=_
  rw[Result.andThen_ok];exact h2
theorem TO {P:Program} {n:Nat} {a:Act} {w:World} {L:List (Nat×Value)} {fn:Func} {R:Ending→World→Prop} {vs:List Value} (ha:Agr n a L) (h:Fp P a w fn.results.toList vs) (hR:R (.returned (S9 vs)) w):bodyPost P fn R .ret a w:=by
 refine ⟨ha.1,S9 vs,?_,hR⟩
 have hr:((fn.results.mapM (Ta a)):Sem (Array Value)).run P w= .ok vs.toArray w:=by
  rw[Array.mapM_eq_mapM_toList]
  have:=tO (f:=Ta a) (fun r v=>QE) h
  simp[this,Sem.run_map]
 show ((fn.results.mapM (Ta a)) >>=fun vs=>pure (if h:vs.size=1 then vs[0] else .tuple vs):Sem Value).run P w=_
 rw[Sem.run_bind,hr,Result.andThen_ok]
 match vs with
 | [] =>rfl
 | [v] =>rfl
 | _::_::_=>rfl
def dF:(i:Nat)→(ps:List PM)→denP ps→List Ent→Option (fY (outs ps)×List Ent×List Ent)
 | _,[],_,chs=>some ((),[],chs)
 | i,.ow t::ps,d,chs=>(cC t (hY i [] t d.1).2 chs).bind fun q=>bq q.cells.isEmpty ((dF (i+1) ps d.2 q.rest).bind fun r=>some ((q.d,r.1),q.used++r.2.1,r.2.2))
 | i,.ptr T t::ps,d,chs=>(vR ⟨i,[]⟩ T t chs).bind fun q=>(dF (i+1) ps d.2 q.2.2).bind fun r=>some ((q.1,r.1),q.2.1++r.2.1,r.2.2)
 | i,.rd _::ps,d,chs=>dF (i+1) ps d.2 chs
 | i,.fn _ _::ps,d,chs=>dF (i+1) ps d.2 chs
 | i,.eat _::ps,d,chs=>dF (i+1) ps d.2 chs
 | i,.cap _ _::ps,d,chs=>dF (i+1) ps d.2 chs
 | i,.capf _ _ _::ps,d,chs=>dF (i+1) ps d.2 chs
 | i,.fk _::ps,d,chs=>dF (i+1) ps d.2 chs
theorem eG {P:Program} {w0:World} {J J':Hp} {θ θ':Th} {n n':Nat} {chs0:List Ent} (hJ:J.le J') (hs:Same n θ θ'): ∀ {ps:List PM} {i:Nat} {d:denP ps} {chs:List Ent} {vs:List Value} {r:fY (outs ps)×List Ent×List Ent},dF i ps d chs=some r→vs.length=ps.length→StF P w0 J θ n i ps vs d→(∀e∈chs,okE P w0 J' θ' n' chs0 e)→
  chs.Perm (r.2.1++r.2.2)∧mV J' (r.2.1.map (toCh P θ')) (outCh ps vs r.1)
 | [],i,d,chs,vs,r,h,_,_,_=>by
  obtain rfl:=Option.some.inj (show some _=some r from h)
  exact ⟨List.Perm.refl _,ri⟩
 | p::ps,i,d,chs,[],r,h,hl,_,_=>by cases hl
 | .ow t::ps,i,d,chs,v::vs,r,h,hl,hF,hc=>by
  obtain ⟨q,hq,h⟩:=bind_some (show (cC t (hY i [] t d.1).2 chs).bind _=some r from h)
  obtain ⟨he,h⟩:=af h
  obtain ⟨r',hr,h⟩:=bind_some h
  obtain rfl:=Option.some.inj h
  obtain ⟨⟨k1,k2⟩,k3⟩:=hF
  obtain ⟨p,cc,e1,e2⟩:=gE (P:=P) (w0:=w0) (J:=J') (θ:=θ') (n:=n) hq fun x hx=>LV.ok_same hs (Nat.le_refl _) (k2 x hx) hJ
  rw[List.isEmpty_iff.1 he,List.append_nil] at e1
  subst e1
  rw[e8 hs k2,k1] at e2
  obtain ⟨q1,q2⟩:=eG hJ hs hr (by simpa using hl) k3 fun e he=>hc e (p.mem_iff.2 (by simp[he]))
  refine ⟨by rw[List.append_assoc];exact p.trans (q1.append_left _),?_⟩
  show mV J' ((q.used++r'.2.1).map _) (Ch.own t.rep (fZ t.isProd v) q.d::outCh ps vs r'.1)
  rw[List.map_append]
  exact ox e2 q2
 | .ptr T t::ps,i,d,chs,v::vs,r,h,hl,hF,hc=>by
  obtain ⟨q,hq,h⟩:=bind_some (show (vR ⟨i,[]⟩ T t chs).bind _=some r from h)
  obtain ⟨r',hr,h⟩:=bind_some h
  obtain rfl:=Option.some.inj h
  obtain ⟨⟨k1,k2⟩,k3⟩:=hF
  obtain ⟨p,hb⟩:=yt (P:=P) (w0:=w0) (J:=J') (J':=J') (θ:=θ') hq Hp.le.rfl hc
  obtain ⟨q1,q2⟩:=eG hJ hs hr (by simpa using hl) k3 fun e he=>hc e (p.mem_iff.2 (by simp[he]))
  refine ⟨by rw[List.append_assoc];exact p.trans (q1.append_left _),?_⟩
  show mV J' ((q.2.1++r'.2.1).map _) (Ch.box (bk v) T t.rep q.1::outCh ps vs r'.1)
  rw[List.map_append]
  have hh:hv θ' ⟨i,[]⟩=v:=(aJ hs (show (⟨i,[]⟩:Hdr).id<n from k2)).trans k1
  rw[hh] at hb
  intro w F hsp
  obtain ⟨G,K,rfl,h1,h2⟩:=hsp.split
  exact ⟨G,K,rfl,hb w G h1,q2 w K h2⟩
 | .rd t::ps,i,d,chs,v::vs,r,h,hl,hF,hc=>eG (ps:=ps) hJ hs (show dF (i+1) ps d.2 chs=some r from h) (by simpa using hl) hF.2 hc
 | .fn _ _::ps,i,d,chs,v::vs,r,h,hl,hF,hc=>eG (ps:=ps) hJ hs (show dF (i+1) ps d.2 chs=some r from h) (by simpa using hl) hF.2 hc
 | .eat _::ps,i,d,chs,v::vs,r,h,hl,hF,hc=>eG (ps:=ps) hJ hs (show dF (i+1) ps d.2 chs=some r from h) (by simpa using hl) hF.2 hc
 | .cap _ _::ps,i,d,chs,v::vs,r,h,hl,hF,hc=>eG (ps:=ps) hJ hs (show dF (i+1) ps d.2 chs=some r from h) (by simpa using hl) hF.2 hc
 | .capf _ _ _::ps,i,d,chs,v::vs,r,h,hl,hF,hc=>eG (ps:=ps) hJ hs (show dF (i+1) ps d.2 chs=some r from h) (by simpa using hl) hF.2 hc
 | .fk _::ps,i,d,chs,v::vs,r,h,hl,hF,hc=>eG (ps:=ps) hJ hs (show dF (i+1) ps d.2 chs=some r from h) (by simpa using hl) hF.2 hc
def ofH:(ts:List Ty)→fY ts→dens ts
 | [],_=>()
 | [_],d=>d.1
 | _::u::ts,d=>(d.1,ofH (u::ts) d.2)
theorem DG: ∀(ts:List Ty) (d:fY ts),toH ts (ofH ts d)=d
 | [],_=>rfl
 | [_],_=>rfl
 | _::u::ts,d=>congrArg (Prod.mk d.1) (DG (u::ts) d.2)
def uC:(ts us:List Ty)→fY ts→fY us→fY (ts++us)
 | [],_,_,e=>e
 | _::ts,us,d,e=>(d.1,uC ts us d.2 e)
theorem Ah: ∀(ts us:List Ty) (d:fY ts) (e:fY us),hFst ts us (uC ts us d e)=d
 | [],_,_,_=>rfl
 | _::ts,us,d,e=>congrArg (Prod.mk d.1) (Ah ts us d.2 e)
theorem Fq: ∀(ts us:List Ty) (d:fY ts) (e:fY us),hSnd ts us (uC ts us d e)=e
 | [],_,_,_=>rfl
 | _::ts,us,d,e=>Fq ts us d.2 e
def yL (tt:TT) (s:Sg):List ResultVar→Option (List AV)
 | [] =>some []
 | r::rs=>(QB tt s r).bind fun v=>(yL tt s rs).bind fun vs=>some (v::vs)
def DH (s:Sg):List AV→List Hdr
 | [] =>[]
 | v::vs=>v8 v++DH s vs
def vl:List Ent→List Hdr
 | [] =>[]
 | e::l=>match e.2.2 with
  | .hole _ _ _ _ _ _ _ _ _ _=>e.1::vl l
  | _=>vl l
def R8:List AV→List (Bool×Hdr)
 | [] =>[]
 | v::vs=>Uz true v++R8 vs
def B8 (tr:Trs) (vs:List AV) (s:Sg):Sg:=match tr with
 | [] =>s
 | _=>LX tr (R8 vs) s
def MV (tr:Trs) (vs:List AV) (s0:Sg):Sg:=match B8 tr vs s0 with
 | s=>rE (DH s0 vs++vl s.chs) s
def nlN:List AV→(ts:List Ty)→fY ts→Int
 | [.one (.own _)],[.sl _ t],d=>((List.length (α:=t.den) d.1:Nat):Int)
 | [.one (.val v)],[.sl _ _],_=>match isNil v with
  | true=>1
  | false=>0
 | _,_,_=>0
def R9 (an:List (Nat×Ty)) (vs:List AV) (ts:List Ty) (d:fY ts):Option Unit:=match yE 1000000 an with
 | true=>chk (0<nlN vs ts d)
 | false=>some ()
theorem Sa {vs:List AV} {ts:List Ty} {d:fY ts} {θ:Th} (h:0<nlN vs ts d) {v:Value} (hv:vs.map (·.v θ)= [v]):tG ts d v:=by
 unfold nlN at h
 split at h
 ·intro h0
  omega
 ·split at h
  ·rename_i h1
   intro _
   have:=j9 h1
   subst this
   simpa [AV.v,LV.v] using hv.symm
  ·omega
 ·omega
def MW (V:Env) (rvs:List ResultVar) (rs:List Ty) (ps:List PM) (d:denP ps) (s00:Sg):Option (dens (rs++outs ps)):=(yL V.tt s00 rvs).bind fun vs00=>L9 vs00 s00 fun s0=>(yL V.tt s0 rvs).bind fun vs0=>match MV V.tr vs0 s0 with
 | s=>(yL V.tt s rvs).bind fun vs=>(DF rs vs s.chs).bind fun r=>(dF 0 ps d r.2.2).bind fun o=>(R9 V.an vs rs r.1).bind fun _=>some (ofH _ (uC rs (outs ps) r.1 o.1))
end R
namespace R
open Go.RowKit
open D
theorem yM {vs:List Value} : ∀ {ts:List Ty} {i:Nat} {us:List Value} {d:fY ts},us.length=ts.length→(∀j v,us[j]? =some v→vs[i+j]? =some v)→rk i ts d (.tuple vs.toArray)=sK ts us d
 | [],i,us,d,h,_=>by
  cases us with
  | nil=>rfl
  | cons _ _=>cases h
 | t::ts,i,[],d,h,_=>by cases h
 | t::ts,i,u::us,d,h,k=>by
  have h0:vg (.tuple vs.toArray) [i] =u:=by
   show vs.toArray.getD i undef=u
   have:=k 0 u rfl
   rw[Nat.add_zero] at this
   simp[Array.getD_eq_getD_getElem?,this]
  show Ch.own t.rep (fZ t.isProd (vg (.tuple vs.toArray) [i])) d.1::rk (i+1) ts d.2 _=Ch.own t.rep (fZ t.isProd u) d.1::sK ts us d.2
  rw[h0,yM (us:=us) (by simpa using h) fun j v hj=>by
   have:=k (j+1) v (by simpa using hj)
   rwa [show i+(j+1)=i+1+j from by omega] at this]
theorem GN {ts:List Ty} {vs:List Value} {d:fY ts} (h:vs.length=ts.length):resGv ts d (S9 vs)=sK ts vs d:=by
 match ts,vs,d,h with
 | [],[],d,_=>rfl
 | [t],[v],d,_=>rfl
 | t::u::ts,v::w::vs,d,h =>
  show rk 0 _ d (.tuple (v::w::vs).toArray)=_
  exact yM h fun j x hj=>by rw[Nat.zero_add];exact hj
theorem MX {ts:List Ty} {vs:List Value} (h:vs.length=ts.length) (k: ∀(i:Nat) t v,ts[i]? =some t→vs[i]? =some v→l9 v=t.isProd):resFa ts (S9 vs):=by
 match ts,vs,h with
 | [],[],_=>exact ⟨#[],rfl,rfl,fun i t ht=>by simp at ht⟩
 | [t],[v],_=>exact k 0 t v rfl rfl
 | t::u::ts,v::w::vs,h =>
  refine ⟨(v::w::vs).toArray,rfl,by simpa using h,fun i t' ht=>?_⟩
  have hlt:i<(v::w::vs).length:=by rw[h];exact (List.getElem?_eq_some_iff.1 ht).1
  have:=k i t' ((v::w::vs)[i]) ht (List.getElem?_eq_getElem hlt)
  rw[←this,Array.getD_eq_getD_getElem?,List.getElem?_toArray,List.getElem?_eq_getElem hlt];rfl
theorem wu {P:Program} {I:Hp} {w0 w:World} {F:Ch} {J:Hp} {θ:Th} {n:Nat} {s:Sg} {a:Act} {tt:TT} (hT:TTok P tt) (hS:Sim P I w0 F n J θ s a w): ∀ {rs:List ResultVar} {vs:List AV},yL tt s rs=some vs→Fp P a w rs (vs.map (·.v θ))∧ ∀v∈vs,v.ok P w0 J θ s.nxt s.chs
 | [],vs,h=>by
  obtain rfl:=Option.some.inj (show some [] =some vs from h)
  exact ⟨rfl,fun v hv=>by cases hv⟩
 | r::rs,vs,h=>by
  obtain ⟨v,hv',h⟩:=bind_some (show (QB tt s r).bind _=some vs from h)
  obtain ⟨us,hus,h⟩:=bind_some h
  obtain rfl:=Option.some.inj h
  obtain ⟨k1,k2⟩:=MU hT hS hv'
  obtain ⟨q1,q2⟩:=wu hT hS hus
  refine ⟨⟨_,_,rfl,k1,q1⟩,fun x hx=>?_⟩
  rcases List.mem_cons.1 hx with rfl | hx
  ·exact k2
  ·exact q2 x hx
theorem JD {J:Hp} {a b c d:List Ch} (h:mV J a b) (k:mV J c d):mV J (a++c) (b++d):=fun w F hs=>by
 obtain ⟨G,K,rfl,e1,e2⟩:=hs.split
 exact (h w G e1).append (k w K e2)
theorem St.sepTo {J:Hp} {w0 w:World} {a b C:List Ch} (h:St J w0 w (a++C)) (k:mV J a b):St J w0 w (b++C):=by
 obtain ⟨h1,h2,F,h3,h4,h5⟩:=h
 obtain ⟨G,K,rfl,e1,e2⟩:=h3.split
 exact ⟨h1,h2,G++K,(k w G e1).append e2,h4,h5⟩
theorem yN {P:Program} {n:Nat} {I:Hp} {w0:World} {k:FuncId} {fn:Func} {c:Code} {args:Array Value} {rn:List Ch} {fact:Value→Prop} {gv:Value→List Ch} (L:List (Nat×Value)) (hf:P.funcs[k]? =some fn) (hb:fn.body=some c) (hn:fn.ntmps=n) (hm:args.size≤n) (hL: ∀p∈L,args[p.1]? =some p.2)
  (h: ∀F w a,Agr n a L→St I w0 w (rn++ [F])→c.wp P (bodyPost P fn fun e w'=> ∃v,e= .returned v∧fact v∧ ∃J,I.le J∧St J w0 w' (gv v++ [F])) a w) (hd: ∀v,Ch.back (gv v)):Con P k args I w0 rn fact gv:=by
 intro w C hs
 have hs':St I w0 w (rn++ [Ch.fr I C]):=by
  obtain ⟨hb,hi,F,h1,h2,h3⟩:=hs
  obtain ⟨G,K,rfl,e1,e2⟩:=h1.split
  exact ⟨hb,hi,G++K,e1.append ⟨K,[],by simp,e2,rfl⟩,h2,h3⟩
 have:=h (Ch.fr I C) w { tmps:=args++Array.replicate (fn.ntmps - args.size) undef,defers:=[] } (Agr.start L (by omega) hL) hs'
 refine (calls_of_wp hf hb this).mono ?_
 rintro e w' ⟨v,rfl,hv,J,hJ,hs⟩
 exact ⟨v,rfl,hv,hs.back hJ (hd v)⟩
theorem MY {P:Program} {I:Hp} {w0 w:World} {F:Ch} {n:Nat} {J:Hp} {θ:Th} {s:Sg} {a:Act} {tr:Trs} {vs:List AV} (hS:Sim P I w0 F n J θ s a w): ∃J' θ',J.le J'∧Sim P I w0 F n J' θ' (MV tr vs s) a w∧Fr s θ (MV tr vs s) θ':=by
 have key: ∃J' θ',J.le J'∧Sim P I w0 F n J' θ' (B8 tr vs s) a w∧Fr s θ (B8 tr vs s) θ':=by
  unfold B8
  split
  ·exact ⟨J,θ,Hp.le.rfl,hS,Fr.rfl⟩
  ·exact qx hS
 obtain ⟨J',θ',h1,h2,h3⟩:=key
 obtain ⟨S2,F2⟩:=pw (V:=⟨[],[],[],n,[]⟩) (hs:=DH s vs++vl (B8 tr vs s).chs) h2
 exact ⟨J',θ',h1,S2,h3.trans F2⟩
theorem Oz {V:Env} {P:Program} {w0:World} {F:Ch} {J:Hp} {θ:Th} (hT:TTok P V.tt) {fn:Func} {rs:List Ty} {ps:List PM} {d:denP ps} {vs:List Value} {s0:Sg} (k0:vs.length=ps.length) (k5:StF P w0 J θ ps.length 0 ps vs d) (hn0:ps.length≤s0.nxt): ∀r J' θ' s' a' w',MW V fn.results.toList rs ps d s'=some r→Sim P J w0 F V.n J' θ' s' a' w'→J.le J'→Fr s0 θ s' θ'→
  bodyPost P fn (fun e w'=> ∃v,e= .returned v∧(resFa rs v∧(yE 1000000 V.an=true→tG rs (hFst rs (outs ps) (toH _ r)) v))∧ ∃J2,J.le J2∧St J2 w0 w' ((resGv rs (hFst rs (outs ps) (toH _ r)) v++outCh ps vs (hSnd rs (outs ps) (toH _ r)))++ [F])) .ret a' w':=by
 intro r J' θ' s' a' w' hrt hS' hJ hFr
 obtain ⟨vs00,hv00,hrt⟩:=bind_some (show (yL V.tt s' fn.results.toList).bind _=some r from hrt)
 obtain ⟨s0',hrt,S0,N0⟩:=E4 hrt (wu hT hS' hv00).2 hS'
 obtain ⟨vs0,hv0,hrt⟩:=bind_some hrt
 obtain ⟨J1,θ1,hJ1,S1,F1⟩:=MY (tr:=V.tr) (vs:=vs0) S0
 generalize MV V.tr vs0 s0'=s1 at hrt S1 F1
 have hle:s0.nxt≤s'.nxt:=hFr.1
 have hsame:Same ps.length θ θ1:=fun i hi=>(F1.same i (by omega)).trans (hFr.same i (by omega))
 replace hJ:=hJ.trans hJ1
 clear hJ1 F1 hS' S0 hFr
 revert J1 θ1
 clear J' θ'
 intro J' θ' S1 hsame hJ
 obtain ⟨us,hus,hrt⟩:=bind_some hrt
 obtain ⟨q,hq,hrt⟩:=bind_some hrt
 obtain ⟨o,ho,hrt⟩:=bind_some hrt
 obtain ⟨u0,hnl,hrt⟩:=bind_some hrt
 obtain rfl:=Option.some.inj hrt
 obtain ⟨r1,r2⟩:=wu hT S1 hus
 obtain ⟨t1,t2,t3,t4⟩:=yK (J:=J') (θ:=θ') hq r2
 obtain ⟨o1,o2⟩:=eG (P:=P) (J:=J) (J':=J') (θ:=θ) (θ':=θ') (vs:=vs) (n:=ps.length) (n':=s1.nxt) (chs0:=s1.chs) hJ hsame ho k0 k5 fun e he=>S1.fine.chs e (t1.mem_iff.2 (by simp[he]))
 have hl:(us.map (·.v θ')).length=rs.length:=by rw[List.length_map];exact t2
 refine TO S1.agr r1 ⟨_,rfl,⟨MX hl fun i t v ht hv1=>?_,fun han=>?_⟩,J',hJ,?_⟩
 ·rw[List.getElem?_map] at hv1
  obtain ⟨x,hx,rfl⟩:=Option.map_eq_some_iff.1 hv1
  exact t4 i t x ht hx
 ·rw[DG,Ah]
  unfold R9 at hnl
  rw[han] at hnl
  have hnl:0<nlN us rs q.1:=aY hnl
  rcases us with _ | ⟨x,us⟩
  ·cases hnl
  ·cases us with
   | nil=>exact Sa (θ:=θ') hnl rfl
   | cons y us=>unfold nlN at hnl;split at hnl <;> first | omega | simp_all
 ·rw[DG,Ah,Fq,GN hl]
  have hp:=t1.trans (o1.append_left _)
  have h1:=S1.st.perm ((hp.map (toCh P θ')).append_right [F])
  have h2:St J' w0 w' ((q.2.1.map (toCh P θ')++o.2.1.map (toCh P θ'))++(o.2.2.map (toCh P θ')++ [F])):=by
   simpa [List.map_append,List.append_assoc] using h1
  have h3:=St.sepTo h2 (JD t3 o2)
  refine St.left (ds:=o.2.2.map (toCh P θ')) (h3.perm ?_)
  simp only[List.append_assoc]
  exact List.Perm.append_left _ (List.Perm.append_left _ List.perm_append_comm)
theorem QF {V:Env} {P:Program} (hT:TTok P V.tt) (hF:FTok P V.ft) (hmx:P.follows .mixedOrders=true) {k:FuncId} {fn:Func} {c:Code} {f:FS} (hf:P.funcs[k]? =some fn) (hb:fn.body=some c) (hn:fn.ntmps=V.n) (hen:Enters P k) (hm:f.ps.length≤V.n) (hdp:(Dh f.rs&&xH f.ps)=true) (ann:Ann)
  (hmod: ∀d,appP f.ps f.m d=iQ V (MW V fn.results.toList f.rs f.ps d) c ann (fun r=>some r) (fun _ _=>none) (MW V fn.results.toList f.rs f.ps d) (oB (yJ f.ps d))): ∀w0 J vs (d:denP f.ps) r,Lay P J→PArgs P w0 J f.ps vs d→appP f.ps f.m d=some r→Con P k vs.toArray J w0 (owCh f.ps vs d) (fun v=>resFa f.rs v∧(yE 1000000 V.an=true→tG f.rs (hFst f.rs (outs f.ps) (toH _ r)) v)) (fun v=>resGv f.rs (hFst f.rs (outs f.ps) (toH _ r)) v++outCh f.ps vs (hSnd f.rs (outs f.ps) (toH _ r))):=by
 rw[Bool.and_eq_true] at hdp
 intro w0 J vs d r hlay ha hr
 rw[hmod] at hr
 let θ:Th:=fun i=>vs.getD i undef
 have hθ: ∀j v,vs[j]? =some v→θ (0+j)=v:=fun j v hj=>by
  show vs.getD (0+j) undef=v
  rw[Nat.zero_add,List.getD_eq_getElem?_getD,hj];rfl
 have k0:=B7 ha
 have hzip: ∀p∈(vs.zipIdx.map fun q=>(q.2,q.1)),vs.toArray[p.1]? =some p.2:=fun p hp=>by
  obtain ⟨q,hq,rfl⟩:=List.mem_map.1 hp
  obtain ⟨v,j⟩:=q
  have:=(List.mk_mem_zipIdx_iff_getElem? (x:=v) (i:=j)).1 hq
  simpa using this
 refine yN (n:=V.n) (vs.zipIdx.map fun q=>(q.2,q.1)) hf hb hn (by rw[List.size_toArray,k0];exact hm) hzip (fun F w a hA hst=>?_) (fun v=>sC (dO _ _ _ hdp.2) _ _ hdp.1)
 ·obtain ⟨k1,k2,k3,k4,k5⟩:=Fo (n:=f.ps.length) (C:=[F]) ha hθ (by omega) hst
  have hfine:Fine P w0 J θ (yJ f.ps d):=⟨fun e he=>(k1 e he).1 _,fun e he=>by have:=k1 e he;show e.2.1<f.ps.length;omega,k2,fun e he=>k4 e he _,hlay⟩
  have hA':Agr V.n a (envL θ (yJ f.ps d)):=hA.pick _ fun p hp=>by
   obtain ⟨e,he,rfl⟩:=List.mem_map.1 hp
   have h5:=(k1 e he).2.2.2.2
   rw[Nat.sub_zero] at h5
   have key: ∀(l:List Value) (k:Nat) (i:Nat) (v:Value),k≤i→l[i - k]? =some v→((l.zipIdx k).map fun q=>(q.2,q.1)).lookup i=some v:=by
    intro l
    induction l with
    | nil=>intro k i v _ h;simp at h
    | cons x l ih =>
     intro k i v hk h
     simp only[List.zipIdx_cons,List.map_cons,List.lookup_cons]
     by_cases e:i=k
     ·subst e
      simp at h
      simp[h]
     ·have:(i==k)=false:=by simpa using e
      rw[this]
      refine ih (k+1) i v (by omega) ?_
      rw[show i - k=(i - (k+1))+1 from by omega] at h
      simpa using h
   exact key vs 0 e.1 _ (Nat.zero_le _) h5
  have hS:Sim P J w0 F V.n J θ (yJ f.ps d) a w:=⟨Hp.le.rfl,hA',k3,hfine⟩
  have fin:=Oz (rs:=f.rs) (fn:=fn) (F:=F) hT k0 k5 (Nat.le_refl (yJ f.ps d).nxt)
  obtain ⟨θ0,hS0,hFr0⟩:=ve hS
  exact (wt (I:=J) (w0:=w0) (F:=F) hT hF hmx c).1 ann hr hS0 (fun J' θ' s' a' w' hk S' hJ hFr=>fin r J' θ' s' a' w' hk S' hJ (hFr0.trans hFr)) (fun i J' θ' s' a' w' hk=>by cases hk) (fun r' J' θ' s' a' w' hrt hrr hS' hJ hFr=>by
   obtain rfl:=Option.some.inj hrr
   exact fin _ J' θ' s' a' w' hrt hS' hJ (hFr0.trans hFr))
theorem fok {V:Env} {P:Program} (hT:TTok P V.tt) (hF:FTok P V.ft) (hmx:P.follows .mixedOrders=true) {k:FuncId} {fn:Func} {c:Code} {f:FS} (hf:P.funcs[k]? =some fn) (hb:fn.body=some c) (hn:fn.ntmps=V.n) (hen:Enters P k) (hcl:f.cl=none) (hm:f.ps.length≤V.n) (hdp:(Dh f.rs&&xH f.ps)=true) (ann:Ann)
  (hmod: ∀d,appP f.ps f.m d=iQ V (MW V fn.results.toList f.rs f.ps d) c ann (fun r=>some r) (fun _ _=>none) (MW V fn.results.toList f.rs f.ps d) (oB (yJ f.ps d))):FOk P k f:=
 ⟨fun q hq=>by (rw[hcl] at hq;cases hq),fun _=>hen,fun w0 J vs d r hlay ha hr w C hs=>(QF hT hF hmx hf hb hn hen hm hdp ann hmod w0 J vs d r hlay ha hr w C hs).mono fun e w' ⟨v,h1,h2,h3⟩=>⟨v,h1,h2.1,h3⟩⟩
theorem Fs {V:Env} {P:Program} (hT:TTok P V.tt) (hF:FTok P V.ft) (hmx:P.follows .mixedOrders=true) {k:FuncId} {fn:Func} {c:Code} {E b:Nat} (hf:P.funcs[k]? =some fn) (hb:fn.body=some c) (hn:fn.ntmps=V.n) (hen:Enters P k) (hm:1≤V.n) (ann:Ann)
  (hmod: ∀(E':TypeId) (bn:Bool) (xs:List Raw),(match bn with | true=>some ([] :List Raw) | false=>(cN b [] xs).bind fun zs=>some zs)=iQ V (MW V fn.results.toList [.sl E .raw] [] ()) c ann (fun r=>some r) (fun _ _=>none) (MW V fn.results.toList [.sl E .raw] [] ()) ⟨[(0,0,.one (.rdn ⟨0,[]⟩ bn (.sl E' .raw) xs))],[],1⟩):sy P k E b:=by
 refine ⟨hen,fun E' J w0 v xs zs hlay hrd uC=>?_⟩
 obtain ⟨bn,hbn⟩: ∃bn,yn v=bn:=⟨_,rfl⟩
 have hr:iQ V (MW V fn.results.toList [.sl E .raw] [] ()) c ann (fun r=>some r) (fun _ _=>none) (MW V fn.results.toList [.sl E .raw] [] ()) ⟨[(0,0,.one (.rdn ⟨0,[]⟩ bn (.sl E' .raw) xs))],[],1⟩=some zs:=by
  rw[←hmod E' bn xs]
  cases bn with
  | false =>
   show (cN b [] xs).bind _=_
   rw[uC];rfl
  | true =>
   obtain ⟨h1,-⟩:=zR uC
   obtain ⟨ao,cap,e,-,hx⟩:=hrd
   obtain rfl:v= .slice ao xs.length cap:=by simpa using e
   rcases hx with rfl | ⟨b,off,ccs,t,fr,rfl,-⟩
   ·rw[h1];rfl
   ·cases hbn
 let θ:Th:=fun _=>v
 have key:Con P k #[v] J w0 [] (fun v=>resFa [.sl E .raw] v∧(yE 1000000 V.an=true→tG [.sl E .raw] (zs,()) v)) (fun v=>resGv [.sl E .raw] (zs,()) v++ []):=by
  refine yN (n:=V.n) [(0,v)] hf hb hn hm (fun p hp=>by obtain rfl:=List.mem_singleton.1 hp;rfl) (fun F w a hA hst=>?_) (fun u=>sC (D:=[]) trivial [.sl E .raw] (zs,()) rfl)
  have hfine:Fine P w0 J θ ⟨[(0,0,.one (.rdn ⟨0,[]⟩ bn (.sl E' .raw) xs))],[],1⟩:=⟨fun e he=>by obtain rfl:=List.mem_singleton.1 he;exact ⟨Nat.one_pos,hrd,hbn⟩,fun e he=>by obtain rfl:=List.mem_singleton.1 he;exact Nat.one_pos,List.pairwise_singleton _ _,fun e he=>(by cases he),hlay⟩
  have hS:Sim P J w0 F V.n J θ ⟨[(0,0,.one (.rdn ⟨0,[]⟩ bn (.sl E' .raw) xs))],[],1⟩ a w:=⟨Hp.le.rfl,hA,hst,hfine⟩
  have fin:=Oz (V:=V) (θ:=θ) (J:=J) (w0:=w0) (rs:=[.sl E .raw]) (ps:=[]) (d:=()) (vs:=[]) (s0:=⟨[(0,0,.one (.rdn ⟨0,[]⟩ bn (.sl E' .raw) xs))],[],1⟩) (fn:=fn) (F:=F) hT rfl trivial (Nat.zero_le _)
  exact (wt (I:=J) (w0:=w0) (F:=F) hT hF hmx c).1 ann hr hS (fun J' θ' s' a' w' hk S' hJ hFr=>fin _ J' θ' s' a' w' hk S' hJ hFr) (fun i J' θ' s' a' w' hk=>by cases hk) (fun r' J' θ' s' a' w' hrt hrr hS' hJ hFr=>by
   obtain rfl:=Option.some.inj hrr
   exact fin _ J' θ' s' a' w' hrt hS' hJ hFr)
 exact fun w C hs=>(key w C hs).mono fun e w' ⟨v,h1,h2,h3⟩=>⟨v,h1,trivial,h3⟩
theorem ij {P:Program} {k:FuncId} {f:FS} (h:Enters P k) (hc:f.cl=none) (hm: ∀d,appP f.ps f.m d=none):FOk P k f:=
 ⟨fun q hq=>by (rw[hc] at hq;cases hq),fun _=>h,fun _ _ _ d r _ _ hr=>by rw[hm d] at hr;cases hr⟩
theorem B9 {P:Program} {k:FuncId} {f:FS} {E b:Nat} (h:FOk P k ⟨f.ps,f.rs,f.m,none⟩) (hc:sy P k E b) (hb:Nat.beq b 0=false:=by rfl) (h7:Nat.beq b 7=false:=by rfl) (h8:Nat.ble 1000 b=false:=by rfl):FOk P k ⟨f.ps,f.rs,f.m,some (E,b)⟩:=
 ⟨fun q hq=>by obtain rfl:=Option.some.inj hq;exact ⟨⟨fun e=>(by rw[hb] at e;cases e),fun _ _ _=>hc,fun e=>(by rw[h8] at e;cases e)⟩,fun e=>(by rw[h7] at e;cases e)⟩,fun _=>h.en rfl,h.con⟩
end R
namespace R
open Go.RowKit
open D
end R
namespace R
open Go.RowKit Go.Shelf Go.Sort
open D
def MZ (xs:List ByteArray) (sep:ByteArray):Option ByteArray:=(chk (xs.length≤140737488355328∧(Lib.join (xs.map (·.data.toList)) sep.data.toList).length≤140737488355328)).bind fun _=>some ⟨(Lib.join (xs.map (·.data.toList)) sep.data.toList).toArray⟩
def M0 (n:Int):Option ByteArray:=(chk (-9223372036854775808≤n∧n≤9223372036854775807)).bind fun _=>some ⟨(Lib.itoa n).toArray⟩
section
variable {P:Program} {ρ:Ren}
theorem St.grownS {I:Hp} {w0 w:World} {cs:List Ch} (h:St I w0 w cs) (os:Array Obj):St I w0 (grow w os) cs:=by
 refine St.step (w:=w) (c:=[]) (c':=[]) h rfl rfl rfl (by simp[grow]) ?_
 rintro F rfl - -
 exact ⟨fun b hb _=>heap_grow_old w os hb,[],rfl,List.nodup_nil,by simp⟩
theorem St.belowS {I:Hp} {w0 w w':World} {cs:List Ch} (h:St I w0 w cs) (hb:Below w.heap.size w w'):St I w0 w' cs:=by
 refine St.step (w:=w) (c:=[]) (c':=[]) h hb.os hb.tape hb.output hb.size ?_
 rintro F rfl - -
 exact ⟨fun b hb' _=>hb.block b hb',[],rfl,List.nodup_nil,by simp⟩
theorem M2 (L:LaysM.n171 P ρ) (en:Enters P (ρ.f 171)):FOk P (ρ.f 171) ⟨[.rd (.int .i64)],[.str],fun n=>M0 n,none⟩:=by
 refine ⟨fun q hq=>(by cases hq),fun _=>en,fun w0 J vs d r hlay ha uC=>?_⟩
 obtain ⟨v,vs1,rfl,⟨c1,l1,r1⟩,hnil⟩:=ha
 obtain rfl:vs1= []:=hnil
 obtain ⟨n0,un⟩:=d
 let n:Int:=n0
 obtain rfl:c1= [v]:=l1
 obtain rfl:v= .int .i64 n:=(List.cons.inj r1).1
 obtain ⟨u1,hc,hz⟩:=Option.bind_eq_some_iff.1 (show M0 n=some r from uC)
 have hc:=aY hc
 obtain rfl:=Option.some.inj hz
 intro w C hst
 have hst:St J w0 w C:=hst
 refine (Any.strconv_Itoa L n hc.1 hc.2 w (hlay w hst.2.1).tab).mono ?_
 rintro e w' ⟨rfl,k,os,rfl⟩
 have hw:St J w0 (w.drewN k) C:=hst.drawn rfl rfl rfl rfl
 exact ⟨_,rfl,rfl,D.St.free (R:=zn) (c:=[.string _]) (St.grownS hw os) ⟨rfl,rfl⟩⟩
theorem M3 (L:Lays.n156 P ρ) (X:Builder.Extra P ρ) (E:TypeId) (en:Enters P (ρ.f 156)):FOk P (ρ.f 156) ⟨[.rd (.sl E .str),.rd .str],[.str],fun xs s=>MZ xs s,none⟩:=by
 refine ⟨fun q hq=>(by cases hq),fun _=>en,fun w0 J vs d r hlay ha uC=>?_⟩
 obtain ⟨v,vs1,rfl,⟨c1,l1,r1⟩,v2,vs2,rfl,⟨c2,l2,r2⟩,hnil⟩:=ha
 obtain rfl:vs2= []:=hnil
 obtain ⟨xs0,sep,un⟩:=d
 let xs:List ByteArray:=xs0
 obtain rfl:c1= [v]:=l1
 obtain rfl:c2= [v2]:=l2
 obtain rfl:v2= .string sep:=(List.cons.inj r2).1
 obtain ⟨u1,hc,hz⟩:=Option.bind_eq_some_iff.1 (show MZ xs sep=some r from uC)
 have hc:=aY hc
 obtain rfl:=Option.some.inj hz
 obtain ⟨ao,cap,hv,⟨hl,hcap⟩,hx⟩:((aa E zn).rd J [v] xs):=r1
 obtain rfl:=(List.cons.inj hv).1
 intro w C hst
 have hst:St J w0 w C:=hst
 rcases hx with hx | ⟨b,off,ccs,t,fr,rfl,h2,h4⟩
 ·have hx:xs= []:=hx
  rw[hx] at hc⊢
  refine (Any.strings_Join_none L X ao cap sep w).mono ?_
  rintro e w' ⟨rfl,rfl⟩
  refine ⟨_,rfl,rfl,?_⟩
  exact D.St.free (R:=zn) (c:=[.string _]) hst ⟨rfl,rfl⟩
 ·have hg:=hst.2.1 _ _ h2
  have hblk:b<w.heap.size:=(Array.getElem?_eq_some_iff.1 hg).1
  refine (Any.strings_Join L X b off cap xs sep w (fun j x hj=>?_) hblk hc.1 hcap hc.2).mono ?_
  ·obtain ⟨c,e1,e2,e3⟩:=h4 j x hj
   obtain rfl:c= [.string x]:=e3
   have:=e2 0 Nat.one_pos
   have e:off+j*zn.size+0=off+j:=by show off+j*1+0=_;omega
   rw[e] at this
   unfold World.cell?
   have hg:w.heap[b]? =some (.cells ccs t fr):=hg
   simp only[hg]
   rw[←Array.getElem?_toList,this]
   rfl
  ·rintro e w' ⟨rfl,hb⟩
   exact ⟨_,rfl,rfl,D.St.free (R:=zn) (c:=[.string _]) (St.belowS hst hb) ⟨rfl,rfl⟩⟩
end
end R
namespace D
open Go.RowKit Go.Shelf
theorem QG {I:Hp} {w0 w:World} {cs:List Ch} {α:Type} {E:TypeId} {enc:α→Value} {h1: ∀a,(enc a).oneCell'=true} {b:Nat} {xs:List α} (hl:xs.length≤lim) (h:St I w0 w (Ch.blk b (xs.map enc) E::cs)):St I w0 w (Ch.own (aa E (iO α enc h1)) [.slice (some ⟨b,0,none⟩) xs.length xs.length] xs::cs):=by
 obtain ⟨hb,hi,F,⟨G,K,rfl,⟨rfl,hg⟩,e⟩,h4,h5⟩:=h
 refine ⟨hb,hi,[b] ++K,⟨[b],K,rfl,⟨hl,.inr ⟨b,0,xs.length,_,[],rfl,hg,Nat.le_refl _,hl,?_,rfl,?_⟩⟩,e⟩,h4,h5⟩
 ·show 0+xs.length*1≤_
  simp
 ·refine gC.2 ⟨rfl,[],?_⟩
  simp
end D
namespace R
open Go.RowKit Go.Shelf Go.Sort
open D
def Ft (s sep:ByteArray):Option (List ByteArray):=(chk (s.size<4294967281∧1≤sep.size)).bind fun _=>some (Lib.splitB sep 0 (Lib.countB s sep) s)
def Sb (s sep:ByteArray):Option (ByteArray×ByteArray×Bool):=(chk (s.size<4294967281)).bind fun _=>some (⟨(Lib.cut s.data.toList sep.data.toList).1.toArray⟩,⟨(Lib.cut s.data.toList sep.data.toList).2.1.toArray⟩,(Lib.cut s.data.toList sep.data.toList).2.2)
def sL (s:ByteArray) (c:Int):Option Int:=some (Lib.indexByte s.data.toList c.toNat.toUInt8)
def oH (s:ByteArray):Option (Int×Bool):=
 if 10<s.size then some (0,false) else
 match Lib.atoi s.data.toList with
 | none=>some (0,false)
 | some n=>if (⟨(Lib.itoa n).toArray⟩:ByteArray)=s∧ -999999999≤n∧n≤999999999 then some (n,true) else some (0,false)
section
variable {P:Program} {ρ:Ren}
theorem JE (L:Lays.n146 P ρ) (hi9:(P.info? (ρ.t 9)).map (fun i=>(i.zero,i.size,i.bytes))=some (some (.string ByteArray.empty),1,16)) (m1:P.globalNamed "internal/bytealg.MaxLen" =some (ρ.g 1)) (en:Enters P (ρ.f 146)):FOk P (ρ.f 146) ⟨[.rd .str,.rd .str],[.sl (ρ.t 9) .str],fun s sep=>Ft s sep,none⟩:=by
 refine ⟨fun q hq=>(by cases hq),fun _=>en,fun w0 J vs d r hlay ha uC=>?_⟩
 obtain ⟨v,vs1,rfl,⟨c1,l1,r1⟩,v2,vs2,rfl,⟨c2,l2,r2⟩,hnil⟩:=ha
 obtain rfl:vs2= []:=hnil
 obtain ⟨s0,sep0,un⟩:=d
 let s:ByteArray:=s0
 let sep:ByteArray:=sep0
 obtain rfl:c1= [v]:=l1
 obtain rfl:c2= [v2]:=l2
 obtain rfl:v= .string s:=(List.cons.inj r1).1
 obtain rfl:v2= .string sep:=(List.cons.inj r2).1
 obtain ⟨u1,hc,hz⟩:=Option.bind_eq_some_iff.1 (show Ft s sep=some r from uC)
 have hc:=aY hc
 obtain rfl:=Option.some.inj hz
 intro w C hst
 have hst:St J w0 w C:=hst
 obtain ⟨g,m,hg,hm⟩:=(hlay w hst.2.1).len
 obtain rfl:=Option.some.inj (m1.symm.trans hg)
 refine (Any.strings_Split L hi9 s sep m w hc.1 hm hc.2).mono ?_
 rintro e w' ⟨rfl,rfl⟩
 refine ⟨_,rfl,rfl,?_⟩
 have hlen:(Lib.splitB sep 0 (Lib.countB s sep) s).length=Lib.countB s sep+1:=Lib.splitB_all sep hc.2 0 _ s rfl
 have hle:=Lib.countB_le sep hc.2 s.size s (Nat.le_refl _)
 have h3:=D.QG (E:=ρ.t 9) (enc:=Value.string) (h1:=fun _=>rfl) (b:=w.heap.size) (xs:=Lib.splitB sep 0 (Lib.countB s sep) s) (by rw[hlen];have:lim=9223372036854775807:=rfl;omega) (hst.alloc _ _)
 rw[hlen] at h3
 exact h3
theorem QH (L:Lays.n145 P ρ) (m1:P.globalNamed "internal/bytealg.MaxLen" =some (ρ.g 1)) (en:Enters P (ρ.f 145)):FOk P (ρ.f 145) ⟨[.rd .str,.rd .str],[.str,.str,.bool],fun s sep=>Sb s sep,none⟩:=by
 refine ⟨fun q hq=>(by cases hq),fun _=>en,fun w0 J vs d r hlay ha uC=>?_⟩
 obtain ⟨v,vs1,rfl,⟨c1,l1,r1⟩,v2,vs2,rfl,⟨c2,l2,r2⟩,hnil⟩:=ha
 obtain rfl:vs2= []:=hnil
 obtain ⟨s0,sep0,un⟩:=d
 let s:ByteArray:=s0
 let sep:ByteArray:=sep0
 obtain rfl:c1= [v]:=l1
 obtain rfl:c2= [v2]:=l2
 obtain rfl:v= .string s:=(List.cons.inj r1).1
 obtain rfl:v2= .string sep:=(List.cons.inj r2).1
 obtain ⟨u1,hc,hz⟩:=Option.bind_eq_some_iff.1 (show Sb s sep=some r from uC)
 have hc:=aY hc
 obtain rfl:=Option.some.inj hz
 intro w C hst
 have hst:St J w0 w C:=hst
 obtain ⟨g,m,hg,hm⟩:=(hlay w hst.2.1).len
 obtain rfl:=Option.some.inj (m1.symm.trans hg)
 refine (Any.strings_Cut L s sep m w hc hm).mono ?_
 rintro e w' ⟨rfl,n,rfl⟩
 refine ⟨_,rfl,⟨_,rfl,rfl,fun i t ht=>?_⟩,?_⟩
 ·rcases i with _ | _ | _ | i
  all_goals first | (obtain rfl:=Option.some.inj ht;rfl) | cases ht
 ·have hw:St J w0 (w.drewN n) C:=hst.drawn rfl rfl rfl rfl
  exact D.St.free (R:=zn) (c:=[.string _]) (D.St.free (R:=zn) (c:=[.string _]) (D.St.free (R:=lh) (c:=[.bool _]) hw ⟨rfl,rfl⟩) ⟨rfl,rfl⟩) ⟨rfl,rfl⟩
theorem Ai (L:Lays.n137 P ρ) (en:Enters P (ρ.f 137)):FOk P (ρ.f 137) ⟨[.rd .str,.rd (.int .u8)],[.int .i64],fun s c=>sL s c,none⟩:=by
 refine ⟨fun q hq=>(by cases hq),fun _=>en,fun w0 J vs d r hlay ha uC=>?_⟩
 obtain ⟨v,vs1,rfl,⟨c1,l1,r1⟩,v2,vs2,rfl,⟨c2,l2,r2⟩,hnil⟩:=ha
 obtain rfl:vs2= []:=hnil
 obtain ⟨s0,c0,un⟩:=d
 let s:ByteArray:=s0
 let c:Int:=c0
 obtain rfl:c1= [v]:=l1
 obtain rfl:c2= [v2]:=l2
 obtain rfl:v= .string s:=(List.cons.inj r1).1
 obtain rfl:v2= .int .u8 c:=(List.cons.inj r2).1
 obtain rfl:=Option.some.inj (show sL s c=some r from uC)
 intro w C hst
 have hst:St J w0 w C:=hst
 refine (Any.strings_IndexByte L s c w).mono ?_
 rintro e w' ⟨rfl,rfl⟩
 exact ⟨_,rfl,rfl,D.St.free (R:=aI) (c:=[.int .i64 _]) hst ⟨rfl,rfl⟩⟩
theorem QI {α:Type} {E:TypeId} {R:Rep α} {I:Hp} {w0 w:World} {v:List Value} {xs:List α} {C:List Ch} (h:St I w0 w (Ch.own (aa E R) v xs::C)):St I w0 w (Ch.own (aa E (Ht R)) v xs::C):=by
 obtain ⟨hb,hi,F,⟨G,K,rfl,⟨hl,e2⟩,e3⟩,h4,h5⟩:=h
 rcases e2 with ⟨rfl,rfl,rfl⟩ | ⟨g,ofs,cap,cur,K1,hv,k1,k2,k3,k4,k6,k5⟩
 ·exact ⟨hb,hi,_,⟨_,K,rfl,⟨hl,.inl ⟨rfl,rfl,rfl⟩⟩,e3⟩,h4,h5⟩
 ·exact ⟨hb,hi,_,⟨_,K,rfl,⟨hl,.inr ⟨g,ofs,cap,cur,K1,hv,k1,k2,k3,k4,k6,OwnEls.turn (R:=R) (S:=Ht R) rfl (fun c x G hx=>HO hx) k5⟩⟩,e3⟩,h4,h5⟩
theorem Fu {P:Program} {k:FuncId} {ps:List PM} {A B t:Ty} {E:TypeId} {m:curP ps (Option (dens ([A,.sl E t,B] ++outs ps)))} (h:FOk P k ⟨ps,[A,.sl E t,B],m,none⟩):FOk P k ⟨ps,[A,.sl E (.bag t),B],m,none⟩:=by
 refine ⟨fun q hq=>(by cases hq),fun hq=>h.en hq,fun w0 J vs d r hlay ha uC=>?_⟩
 refine (h.con w0 J vs d r hlay ha uC).imp (fun v hv=>?_) (fun v _ w C hs=>?_)
 ·obtain ⟨us,rfl,h1,h2⟩:=hv
  refine ⟨us,rfl,h1,fun i u hu=>?_⟩
  rcases i with _ | _ | _ | i
  ·obtain rfl:=Option.some.inj hu;exact h2 0 _ rfl
  ·obtain rfl:=Option.some.inj hu;exact h2 1 (.sl E t) rfl
  ·obtain rfl:=Option.some.inj hu;exact h2 2 _ rfl
  ·cases hu
 ·exact ((QI (hs.perm (List.Perm.swap ..))).perm (List.Perm.swap ..))
theorem JF {k:FuncId} {m:ByteArray→Option (Int×Bool)} (en:Enters P k) (h: ∀s r w,m s=some r→LayW P w→Calls P k #[.string s] w fun e w'=>e= .returned (.tuple #[.int .i64 r.1,.bool r.2])∧Below w.heap.size w w'):FOk P k ⟨[.rd .str],[.int .i64,.bool],fun s=>m s,none⟩:=by
 refine ⟨fun q hq=>(by cases hq),fun _=>en,fun w0 J vs d r hlay ha uC=>?_⟩
 obtain ⟨v,vs1,rfl,⟨c1,l1,r1⟩,hnil⟩:=ha
 obtain rfl:vs1= []:=hnil
 obtain ⟨s0,un⟩:=d
 let s:ByteArray:=s0
 obtain rfl:c1= [v]:=l1
 obtain rfl:v= .string s:=(List.cons.inj r1).1
 intro w C hst
 have hst:St J w0 w C:=hst
 refine (h s r w uC (hlay w hst.2.1)).mono ?_
 rintro e w' ⟨rfl,hb⟩
 refine ⟨_,rfl,⟨_,rfl,rfl,fun i t ht=>?_⟩,?_⟩
 ·rcases i with _ | _ | i
  all_goals first | (obtain rfl:=Option.some.inj ht;rfl) | cases ht
 ·exact D.St.free (R:=aI) (c:=[.int .i64 _]) (D.St.free (R:=lh) (c:=[.bool _]) (St.belowS hst hb) ⟨rfl,rfl⟩) ⟨rfl,rfl⟩
end
end R
namespace R
open Go.Shelf
def tP:Go.Shelf.Ren:=⟨fun | 156=>194 | 165=>234 | 166=>235 | 169=>236 | 240=>272 | 241=>273 | 276=>312 | 277=>313 | n=>n,fun | 31=>205 | 9=>9 | 3=>3 | 4=>4 | 0=>0 | 20=>20 | 72=>252 | 76=>244 | 70=>250 | 37=>222 | 75=>243 | 127=>286 | 164=>317 | 5=>5 | 80=>254 | n=>n,fun | n=>n⟩
theorem M4:Go.Proofs.Lays.n156 Tryz.prog tP:= {
 mixed:=by kernel_rfl
 f156:=Tryz.func194.trans (congrArg some (by kernel_rfl))
 f165:=Tryz.func234.trans (congrArg some (by kernel_rfl))
 f166:=Tryz.func235.trans (congrArg some (by kernel_rfl))
 f169:=Tryz.func236.trans (congrArg some (by kernel_rfl))
 f240:=Tryz.func272.trans (congrArg some (by kernel_rfl))
 f241:=Tryz.func273.trans (congrArg some (by kernel_rfl))
 f276:=Tryz.func312.trans (congrArg some (by kernel_rfl))
 f277:=Tryz.func313.trans (congrArg some (by kernel_rfl))
 t0:=Tryz.underlying0
 a0:=Tryz.isAgg0
 z0:=Tryz.sizeOf0
 v0:=Tryz.zeroValue0
 t3:=Tryz.underlying3
 a3:=Tryz.isAgg3
 z3:=Tryz.sizeOf3
 v3:=Tryz.zeroValue3
 t4:=Tryz.underlying4
 a4:=Tryz.isAgg4
 z4:=Tryz.sizeOf4
 v4:=Tryz.zeroValue4
 t9:=Tryz.underlying9
 a9:=Tryz.isAgg9
 z9:=Tryz.sizeOf9
 v9:=Tryz.zeroValue9
 t20:=Tryz.underlying20
 a20:=Tryz.isAgg20
 z20:=Tryz.sizeOf20
 v20:=Tryz.zeroValue20
 t31:=Tryz.underlying205
 a31:=Tryz.isAgg205
 z31:=Tryz.sizeOf205
 v31:=Tryz.zeroValue205
 t37:=Tryz.underlying222
 a37:=Tryz.isAgg222
 z37:=Tryz.sizeOf222
 v37:=Tryz.zeroValue222
 t70:=Tryz.underlying250
 a70:=Tryz.isAgg250
 z70:=Tryz.sizeOf250
 v70:=Tryz.zeroValue250
 t72:=Tryz.underlying252
 a72:=Tryz.isAgg252
 z72:=Tryz.sizeOf252
 v72:=Tryz.zeroValue252
 t75:=Tryz.underlying243
 a75:=Tryz.isAgg243
 z75:=Tryz.sizeOf243
 v75:=Tryz.zeroValue243
 t76:=Tryz.underlying244
 a76:=Tryz.isAgg244
 z76:=Tryz.sizeOf244
 v76:=Tryz.zeroValue244
 t127:=Tryz.underlying286
 a127:=Tryz.isAgg286
 z127:=Tryz.sizeOf286
 v127:=Tryz.zeroValue286
 t164:=Tryz.underlying317
 a164:=Tryz.isAgg317
 z164:=Tryz.sizeOf317
 v164:=Tryz.zeroValue317 }
def Ca:Go.Shelf.Ren:=⟨fun | 171=>195 | 243=>237 | 246=>274 | 283=>314 | 284=>315 | 285=>316 | 286=>317 | 129=>338 | 317=>337 | 318=>339 | 319=>340 | 320=>341 | 337=>352 | 338=>353 | n=>n,fun | 3=>3 | 9=>9 | 2=>2 | 4=>4 | 171=>320 | 0=>0 | 53=>321 | 37=>222 | 5=>5 | 173=>324 | 212=>343 | 51=>344 | 20=>20 | 213=>345 | 46=>295 | 232=>369 | 233=>370 | n=>n,fun | 17=>3 | 18=>6 | 19=>7 | n=>n⟩
theorem Fv:Go.Proofs.LaysM.n171 Tryz.prog Ca:= {
 mixed:=by kernel_rfl
 f129:=Tryz.func338.trans (congrArg some (by kernel_rfl))
 f171:=Tryz.func195.trans (congrArg some (by kernel_rfl))
 f243:=Tryz.func237.trans (congrArg some (by kernel_rfl))
 f246:=Tryz.func274.trans (congrArg some (by kernel_rfl))
 f283:=Tryz.func314.trans (congrArg some (by kernel_rfl))
 f284:=Tryz.func315.trans (congrArg some (by kernel_rfl))
 f285:=Tryz.func316.trans (congrArg some (by kernel_rfl))
 f286:=Tryz.func317.trans (congrArg some (by kernel_rfl))
 f317:=Tryz.func337.trans (congrArg some (by kernel_rfl))
 f318:=Tryz.func339.trans (congrArg some (by kernel_rfl))
 f319:=Tryz.func340.trans (congrArg some (by kernel_rfl))
 f320:=Tryz.func341.trans (congrArg some (by kernel_rfl))
 f337:=Tryz.func352.trans (congrArg some (by kernel_rfl))
 f338:=Tryz.func353.trans (congrArg some (by kernel_rfl))
 t0:=Tryz.underlying0
 a0:=Tryz.isAgg0
 z0:=Tryz.sizeOf0
 v0:=Tryz.zeroValue0
 t2:=Tryz.underlying2
 a2:=Tryz.isAgg2
 z2:=Tryz.sizeOf2
 v2:=Tryz.zeroValue2
 t3:=Tryz.underlying3
 a3:=Tryz.isAgg3
 z3:=Tryz.sizeOf3
 v3:=Tryz.zeroValue3
 t4:=Tryz.underlying4
 a4:=Tryz.isAgg4
 z4:=Tryz.sizeOf4
 v4:=Tryz.zeroValue4
 t5:=Tryz.underlying5
 a5:=Tryz.isAgg5
 z5:=Tryz.sizeOf5
 v5:=Tryz.zeroValue5
 t9:=Tryz.underlying9
 a9:=Tryz.isAgg9
 z9:=Tryz.sizeOf9
 v9:=Tryz.zeroValue9
 t20:=Tryz.underlying20
 a20:=Tryz.isAgg20
 z20:=Tryz.sizeOf20
 v20:=Tryz.zeroValue20
 t37:=Tryz.underlying222
 a37:=Tryz.isAgg222
 z37:=Tryz.sizeOf222
 v37:=Tryz.zeroValue222
 t46:=Tryz.underlying295
 a46:=Tryz.isAgg295
 z46:=Tryz.sizeOf295
 v46:=Tryz.zeroValue295
 t51:=Tryz.underlying344
 a51:=Tryz.isAgg344
 z51:=Tryz.sizeOf344
 v51:=Tryz.zeroValue344
 t53:=Tryz.underlying321
 a53:=Tryz.isAgg321
 z53:=Tryz.sizeOf321
 v53:=Tryz.zeroValue321
 t171:=Tryz.underlying320
 a171:=Tryz.isAgg320
 z171:=Tryz.sizeOf320
 v171:=Tryz.zeroValue320
 t173:=Tryz.underlying324
 a173:=Tryz.isAgg324
 z173:=Tryz.sizeOf324
 v173:=Tryz.zeroValue324
 t212:=Tryz.underlying343
 a212:=Tryz.isAgg343
 z212:=Tryz.sizeOf343
 v212:=Tryz.zeroValue343
 t213:=Tryz.underlying345
 a213:=Tryz.isAgg345
 z213:=Tryz.sizeOf345
 t232:=Tryz.underlying369
 a232:=Tryz.isAgg369
 z232:=Tryz.sizeOf369
 v232:=Tryz.zeroValue369
 t233:=Tryz.underlying370
 a233:=Tryz.isAgg370
 z233:=Tryz.sizeOf370
 v233:=Tryz.zeroValue370
 g17:=by kernel_rfl
 g18:=by kernel_rfl
 g19:=by kernel_rfl
 i0:=by kernel_rfl
 i2:=by kernel_rfl
 i3:=by kernel_rfl
 i4:=by kernel_rfl
 i5:=by kernel_rfl
 i9:=by kernel_rfl
 i20:=by kernel_rfl
 i37:=by kernel_rfl
 i46:=by kernel_rfl
 i51:=by kernel_rfl
 i53:=by kernel_rfl
 i171:=by kernel_rfl
 i173:=by kernel_rfl
 i212:=by kernel_rfl
 i232:=by kernel_rfl
 i233:=by kernel_rfl
 m17:=by kernel_rfl
 m18:=by kernel_rfl
 m19:=by kernel_rfl }
def Aj:Go.Shelf.Ren:=⟨fun | 146=>171 | 221=>225 | 268=>265 | 138=>266 | 143=>267 | 195=>302 | 197=>303 | 218=>304 | 219=>305 | 260=>330 | 217=>170 | 225=>331 | 224=>332 | 267=>333 | 266=>224 | 314=>349 | n=>n,fun | 9=>9 | 31=>205 | 3=>3 | 4=>4 | 0=>0 | 105=>309 | 21=>21 | 5=>5 | 46=>295 | 119=>354 | 139=>357 | 138=>356 | 146=>358 | 51=>344 | n=>n,fun | 1=>0 | 3=>4 | 4=>5 | n=>n⟩
theorem JG:Go.Proofs.Lays.n146 Tryz.prog Aj:= {
 mixed:=by kernel_rfl
 f138:=Tryz.func266.trans (congrArg some (by kernel_rfl))
 f143:=Tryz.func267.trans (congrArg some (by kernel_rfl))
 f146:=Tryz.func171.trans (congrArg some (by kernel_rfl))
 f195:=Tryz.func302.trans (congrArg some (by kernel_rfl))
 f197:=Tryz.func303.trans (congrArg some (by kernel_rfl))
 f217:=Tryz.func170.trans (congrArg some (by kernel_rfl))
 f218:=Tryz.func304.trans (congrArg some (by kernel_rfl))
 f219:=Tryz.func305.trans (congrArg some (by kernel_rfl))
 f221:=Tryz.func225.trans (congrArg some (by kernel_rfl))
 f224:=Tryz.func332.trans (congrArg some (by kernel_rfl))
 f225:=Tryz.func331.trans (congrArg some (by kernel_rfl))
 f260:=Tryz.func330.trans (congrArg some (by kernel_rfl))
 f266:=Tryz.func224.trans (congrArg some (by kernel_rfl))
 f267:=Tryz.func333.trans (congrArg some (by kernel_rfl))
 f268:=Tryz.func265.trans (congrArg some (by kernel_rfl))
 f314:=Tryz.func349.trans (congrArg some (by kernel_rfl))
 t0:=Tryz.underlying0
 a0:=Tryz.isAgg0
 z0:=Tryz.sizeOf0
 v0:=Tryz.zeroValue0
 t3:=Tryz.underlying3
 a3:=Tryz.isAgg3
 z3:=Tryz.sizeOf3
 v3:=Tryz.zeroValue3
 t4:=Tryz.underlying4
 a4:=Tryz.isAgg4
 z4:=Tryz.sizeOf4
 v4:=Tryz.zeroValue4
 t5:=Tryz.underlying5
 a5:=Tryz.isAgg5
 z5:=Tryz.sizeOf5
 v5:=Tryz.zeroValue5
 t9:=Tryz.underlying9
 a9:=Tryz.isAgg9
 z9:=Tryz.sizeOf9
 v9:=Tryz.zeroValue9
 t21:=Tryz.underlying21
 a21:=Tryz.isAgg21
 z21:=Tryz.sizeOf21
 v21:=Tryz.zeroValue21
 t31:=Tryz.underlying205
 a31:=Tryz.isAgg205
 z31:=Tryz.sizeOf205
 v31:=Tryz.zeroValue205
 t46:=Tryz.underlying295
 a46:=Tryz.isAgg295
 z46:=Tryz.sizeOf295
 v46:=Tryz.zeroValue295
 t51:=Tryz.underlying344
 a51:=Tryz.isAgg344
 z51:=Tryz.sizeOf344
 v51:=Tryz.zeroValue344
 t105:=Tryz.underlying309
 a105:=Tryz.isAgg309
 z105:=Tryz.sizeOf309
 v105:=Tryz.zeroValue309
 t119:=Tryz.underlying354
 a119:=Tryz.isAgg354
 z119:=Tryz.sizeOf354
 t138:=Tryz.underlying356
 a138:=Tryz.isAgg356
 z138:=Tryz.sizeOf356
 v138:=Tryz.zeroValue356
 t139:=Tryz.underlying357
 a139:=Tryz.isAgg357
 z139:=Tryz.sizeOf357
 v139:=Tryz.zeroValue357
 t146:=Tryz.underlying358
 a146:=Tryz.isAgg358
 z146:=Tryz.sizeOf358
 v146:=Tryz.zeroValue358
 g1:=by kernel_rfl
 g3:=by kernel_rfl
 g4:=by kernel_rfl }
def DI:Go.Shelf.Ren:=⟨fun | 145=>270 | 220=>311 | 219=>305 | 217=>170 | 225=>331 | 224=>332 | 267=>333 | 266=>224 | 314=>349 | n=>n,fun | 9=>9 | 4=>4 | 59=>284 | 3=>3 | 5=>5 | 46=>295 | 146=>358 | 51=>344 | n=>n,fun | 1=>0 | n=>n⟩
theorem QJ:Go.Proofs.Lays.n145 Tryz.prog DI:= {
 mixed:=by kernel_rfl
 f145:=Tryz.func270.trans (congrArg some (by kernel_rfl))
 f217:=Tryz.func170.trans (congrArg some (by kernel_rfl))
 f219:=Tryz.func305.trans (congrArg some (by kernel_rfl))
 f220:=Tryz.func311.trans (congrArg some (by kernel_rfl))
 f224:=Tryz.func332.trans (congrArg some (by kernel_rfl))
 f225:=Tryz.func331.trans (congrArg some (by kernel_rfl))
 f266:=Tryz.func224.trans (congrArg some (by kernel_rfl))
 f267:=Tryz.func333.trans (congrArg some (by kernel_rfl))
 f314:=Tryz.func349.trans (congrArg some (by kernel_rfl))
 t3:=Tryz.underlying3
 a3:=Tryz.isAgg3
 z3:=Tryz.sizeOf3
 v3:=Tryz.zeroValue3
 t4:=Tryz.underlying4
 a4:=Tryz.isAgg4
 z4:=Tryz.sizeOf4
 v4:=Tryz.zeroValue4
 t5:=Tryz.underlying5
 a5:=Tryz.isAgg5
 z5:=Tryz.sizeOf5
 v5:=Tryz.zeroValue5
 t9:=Tryz.underlying9
 a9:=Tryz.isAgg9
 z9:=Tryz.sizeOf9
 v9:=Tryz.zeroValue9
 t46:=Tryz.underlying295
 a46:=Tryz.isAgg295
 z46:=Tryz.sizeOf295
 v46:=Tryz.zeroValue295
 t51:=Tryz.underlying344
 a51:=Tryz.isAgg344
 z51:=Tryz.sizeOf344
 v51:=Tryz.zeroValue344
 t59:=Tryz.underlying284
 a59:=Tryz.isAgg284
 z59:=Tryz.sizeOf284
 v59:=Tryz.zeroValue284
 t146:=Tryz.underlying358
 a146:=Tryz.isAgg358
 z146:=Tryz.sizeOf358
 v146:=Tryz.zeroValue358
 g1:=by kernel_rfl }
def sM:Go.Shelf.Ren:=⟨fun | 137=>112 | 217=>170 | 266=>224 | n=>n,fun | 9=>9 | 5=>5 | 3=>3 | n=>n,fun | n=>n⟩
theorem Ak:Go.Proofs.Lays.n137 Tryz.prog sM:= {
 mixed:=by kernel_rfl
 f137:=Tryz.func112.trans (congrArg some (by kernel_rfl))
 f217:=Tryz.func170.trans (congrArg some (by kernel_rfl))
 f266:=Tryz.func224.trans (congrArg some (by kernel_rfl))
 t3:=Tryz.underlying3
 a3:=Tryz.isAgg3
 z3:=Tryz.sizeOf3
 v3:=Tryz.zeroValue3
 t5:=Tryz.underlying5
 a5:=Tryz.isAgg5
 z5:=Tryz.sizeOf5
 v5:=Tryz.zeroValue5
 t9:=Tryz.underlying9
 a9:=Tryz.isAgg9
 z9:=Tryz.sizeOf9
 v9:=Tryz.zeroValue9 }
def Cb:Go.Shelf.Ren:=⟨fun | 172=>226 | 244=>268 | 245=>269 | 247=>306 | 279=>307 | 280=>308 | 281=>309 | 282=>310 | 287=>334 | 316=>335 | 171=>195 | 205=>336 | 321=>350 | 322=>351 | 243=>237 | 246=>274 | 283=>314 | 284=>315 | 285=>316 | 286=>317 | 129=>338 | 317=>337 | 318=>339 | 319=>340 | 320=>341 | 337=>352 | 338=>353 | n=>n,fun | 9=>9 | 3=>3 | 75=>243 | 76=>244 | 4=>4 | 5=>5 | 167=>311 | 37=>222 | 0=>0 | 85=>312 | 2=>2 | 168=>314 | 53=>321 | 175=>336 | 46=>295 | 210=>340 | 127=>286 | 145=>364 | 143=>362 | 21=>21 | 171=>320 | 173=>324 | 212=>343 | 51=>344 | 20=>20 | 213=>345 | 232=>369 | 233=>370 | 80=>254 | n=>n,fun | 15=>1 | 16=>2 | 17=>3 | 18=>6 | 19=>7 | n=>n⟩
theorem Fw:Go.Proofs.LaysC.n172 Tryz.prog Cb:= {
 mixed:=by kernel_rfl
 f129:=Tryz.func338.trans (congrArg some (by kernel_rfl))
 f171:=Tryz.func195.trans (congrArg some (by kernel_rfl))
 f172:=Tryz.func226.trans (congrArg some (by kernel_rfl))
 f205:=Tryz.func336.trans (congrArg some (by kernel_rfl))
 f243:=Tryz.func237.trans (congrArg some (by kernel_rfl))
 f244:=Tryz.func268.trans (congrArg some (by kernel_rfl))
 f245:=Tryz.func269.trans (congrArg some (by kernel_rfl))
 f246:=Tryz.func274.trans (congrArg some (by kernel_rfl))
 f247:=Tryz.func306.trans (congrArg some (by kernel_rfl))
 f279:=Tryz.func307.trans (congrArg some (by kernel_rfl))
 f280:=Tryz.func308.trans (congrArg some (by kernel_rfl))
 f281:=Tryz.func309.trans (congrArg some (by kernel_rfl))
 f282:=Tryz.func310.trans (congrArg some (by kernel_rfl))
 f283:=Tryz.func314.trans (congrArg some (by kernel_rfl))
 f284:=Tryz.func315.trans (congrArg some (by kernel_rfl))
 f285:=Tryz.func316.trans (congrArg some (by kernel_rfl))
 f286:=Tryz.func317.trans (congrArg some (by kernel_rfl))
 f287:=Tryz.func334.trans (congrArg some (by kernel_rfl))
 f316:=Tryz.func335.trans (congrArg some (by kernel_rfl))
 f317:=Tryz.func337.trans (congrArg some (by kernel_rfl))
 f318:=Tryz.func339.trans (congrArg some (by kernel_rfl))
 f319:=Tryz.func340.trans (congrArg some (by kernel_rfl))
 f320:=Tryz.func341.trans (congrArg some (by kernel_rfl))
 f321:=Tryz.func350.trans (congrArg some (by kernel_rfl))
 f322:=Tryz.func351.trans (congrArg some (by kernel_rfl))
 f337:=Tryz.func352.trans (congrArg some (by kernel_rfl))
 f338:=Tryz.func353.trans (congrArg some (by kernel_rfl))
 t0:=Tryz.underlying0
 a0:=Tryz.isAgg0
 z0:=Tryz.sizeOf0
 v0:=Tryz.zeroValue0
 t2:=Tryz.underlying2
 a2:=Tryz.isAgg2
 z2:=Tryz.sizeOf2
 v2:=Tryz.zeroValue2
 t3:=Tryz.underlying3
 a3:=Tryz.isAgg3
 z3:=Tryz.sizeOf3
 v3:=Tryz.zeroValue3
 t4:=Tryz.underlying4
 a4:=Tryz.isAgg4
 z4:=Tryz.sizeOf4
 v4:=Tryz.zeroValue4
 t5:=Tryz.underlying5
 a5:=Tryz.isAgg5
 z5:=Tryz.sizeOf5
 v5:=Tryz.zeroValue5
 t9:=Tryz.underlying9
 a9:=Tryz.isAgg9
 z9:=Tryz.sizeOf9
 v9:=Tryz.zeroValue9
 t20:=Tryz.underlying20
 a20:=Tryz.isAgg20
 z20:=Tryz.sizeOf20
 v20:=Tryz.zeroValue20
 t21:=Tryz.underlying21
 a21:=Tryz.isAgg21
 z21:=Tryz.sizeOf21
 v21:=Tryz.zeroValue21
 t37:=Tryz.underlying222
 a37:=Tryz.isAgg222
 z37:=Tryz.sizeOf222
 v37:=Tryz.zeroValue222
 t46:=Tryz.underlying295
 a46:=Tryz.isAgg295
 z46:=Tryz.sizeOf295
 v46:=Tryz.zeroValue295
 t51:=Tryz.underlying344
 a51:=Tryz.isAgg344
 z51:=Tryz.sizeOf344
 v51:=Tryz.zeroValue344
 t53:=Tryz.underlying321
 a53:=Tryz.isAgg321
 z53:=Tryz.sizeOf321
 v53:=Tryz.zeroValue321
 t75:=Tryz.underlying243
 a75:=Tryz.isAgg243
 z75:=Tryz.sizeOf243
 v75:=Tryz.zeroValue243
 t76:=Tryz.underlying244
 a76:=Tryz.isAgg244
 z76:=Tryz.sizeOf244
 v76:=Tryz.zeroValue244
 t85:=Tryz.underlying312
 a85:=Tryz.isAgg312
 z85:=Tryz.sizeOf312
 v85:=Tryz.zeroValue312
 t127:=Tryz.underlying286
 a127:=Tryz.isAgg286
 z127:=Tryz.sizeOf286
 v127:=Tryz.zeroValue286
 t143:=Tryz.underlying362
 a143:=Tryz.isAgg362
 z143:=Tryz.sizeOf362
 v143:=Tryz.zeroValue362
 t145:=Tryz.underlying364
 a145:=Tryz.isAgg364
 z145:=Tryz.sizeOf364
 v145:=Tryz.zeroValue364
 t167:=Tryz.underlying311
 a167:=Tryz.isAgg311
 z167:=Tryz.sizeOf311
 v167:=Tryz.zeroValue311
 t168:=Tryz.underlying314
 a168:=Tryz.isAgg314
 z168:=Tryz.sizeOf314
 v168:=Tryz.zeroValue314
 t171:=Tryz.underlying320
 a171:=Tryz.isAgg320
 z171:=Tryz.sizeOf320
 v171:=Tryz.zeroValue320
 t173:=Tryz.underlying324
 a173:=Tryz.isAgg324
 z173:=Tryz.sizeOf324
 v173:=Tryz.zeroValue324
 t175:=Tryz.underlying336
 a175:=Tryz.isAgg336
 z175:=Tryz.sizeOf336
 v175:=Tryz.zeroValue336
 t210:=Tryz.underlying340
 a210:=Tryz.isAgg340
 z210:=Tryz.sizeOf340
 v210:=Tryz.zeroValue340
 t212:=Tryz.underlying343
 a212:=Tryz.isAgg343
 z212:=Tryz.sizeOf343
 v212:=Tryz.zeroValue343
 t213:=Tryz.underlying345
 a213:=Tryz.isAgg345
 z213:=Tryz.sizeOf345
 t232:=Tryz.underlying369
 a232:=Tryz.isAgg369
 z232:=Tryz.sizeOf369
 v232:=Tryz.zeroValue369
 t233:=Tryz.underlying370
 a233:=Tryz.isAgg370
 z233:=Tryz.sizeOf370
 v233:=Tryz.zeroValue370
 g15:=by kernel_rfl
 g16:=by kernel_rfl
 g17:=by kernel_rfl
 g18:=by kernel_rfl
 g19:=by kernel_rfl
 t80:=Tryz.underlying254
 a80:=Tryz.isAgg254
 z80:=Tryz.sizeOf254
 v80:=Tryz.zeroValue254
 i0:=by kernel_rfl
 i2:=by kernel_rfl
 i3:=by kernel_rfl
 i4:=by kernel_rfl
 i5:=by kernel_rfl
 i9:=by kernel_rfl
 i20:=by kernel_rfl
 i21:=by kernel_rfl
 i37:=by kernel_rfl
 i46:=by kernel_rfl
 i51:=by kernel_rfl
 i53:=by kernel_rfl
 i75:=by kernel_rfl
 i76:=by kernel_rfl
 i80:=by kernel_rfl
 i85:=by kernel_rfl
 i127:=by kernel_rfl
 i143:=by kernel_rfl
 i145:=by kernel_rfl
 i167:=by kernel_rfl
 i168:=by kernel_rfl
 i171:=by kernel_rfl
 i173:=by kernel_rfl
 i175:=by kernel_rfl
 i210:=by kernel_rfl
 i212:=by kernel_rfl
 i232:=by kernel_rfl
 i233:=by kernel_rfl
 m15:=by kernel_rfl
 m16:=by kernel_rfl
 m17:=by kernel_rfl
 m18:=by kernel_rfl
 m19:=by kernel_rfl
 c0:=by kernel_rfl
 c2:=by kernel_rfl
 c3:=by kernel_rfl
 c4:=by kernel_rfl
 c5:=by kernel_rfl
 c9:=by kernel_rfl
 c20:=by kernel_rfl
 c21:=by kernel_rfl
 c37:=by kernel_rfl
 c46:=by kernel_rfl
 c51:=by kernel_rfl
 c53:=by kernel_rfl
 c75:=by kernel_rfl
 c76:=by kernel_rfl
 c80:=by kernel_rfl
 c85:=by kernel_rfl
 c127:=by kernel_rfl
 c143:=by kernel_rfl
 c145:=by kernel_rfl
 c167:=by kernel_rfl
 c168:=by kernel_rfl
 c171:=by kernel_rfl
 c173:=by kernel_rfl
 c175:=by kernel_rfl
 c210:=by kernel_rfl
 c212:=by kernel_rfl
 c213:=by kernel_rfl
 c232:=by kernel_rfl
 c233:=by kernel_rfl }
theorem JH:Go.Proofs.Builder.Extra Tryz.prog tP where
 sizeBuilder:=by kernel_rfl
 liesBuilder:=by kernel_rfl
 t5:=Tryz.underlying5
 a5:=Tryz.isAgg5
 z5:=Tryz.sizeOf5
 v5:=Tryz.zeroValue5
 infoByte:=by kernel_rfl
 cellsByte:=by kernel_rfl
 sizeByte:=by kernel_rfl
 neB5:=by decide
end R
namespace R
open Go.RowKit
open D
def FldAll (P:Program) (T:TypeId):Nat→List (Nat×Nat)→Prop
 | _,[] =>True
 | i,q::l=>TF P T i q.1 q.2∧FldAll P T (i+1) l
theorem FldAll.get {P:Program} {T:TypeId} : ∀ {l:List (Nat×Nat)} {i:Nat},FldAll P T i l→ ∀f q,l[f]? =some q→TF P T (i+f) q.1 q.2
 | [],_,_,f,q,h=>by simp at h
 | x::l,i,⟨h1,h2⟩,f,q,h=>by
  cases f with
  | zero=>simp at h;subst h;exact h1
  | succ f =>
   have:=FldAll.get h2 f q (by simpa using h)
   rwa [show i+1+f=i+(f+1) from by omega] at this
section
variable {P:Program} {T:TypeId}
theorem qA {n b:Nat} {ty:Ty} {z:Value} {boo:Bool} {ik:Option (Option IntKind)} (h1:TI P T false 1) (h2:ty.size=1) (h3:TZ P T z 1 b) (h4:z.cells=(zeroCells ty).toArray) (h5:1≤b) (h6:boo=true→P.underlying T=some .bool) (h7: ∀k,ik=some k→P.underlying T=some (ikD k)):TDok P T ⟨false,1,none,ty,[],some b,none,boo,none,none,ik,false,none⟩:=
 ⟨h1,rfl,h2,fun E h=>by simp at h,fun f q h=>by simp at h,fun b' h=>by obtain rfl:=Option.some.inj h;exact ⟨z,h3,h4,h5⟩,fun pl h=>by simp at h,h6,(fun ks h=>by cases h),(fun m h=>by cases h),h7,(fun h=>by cases h),fun e h=>by cases h⟩
theorem lU {E:TypeId} {t:Ty} (h1:TI P T false 1) (h2:P.underlying T=some (.slice E)) (h3:TZ P T (.slice none 0 0) 1 24):TDok P T ⟨false,1,some E,.sl E t,[],some 24,none,false,none,none,none,false,none⟩:=
 ⟨h1,rfl,rfl,fun E' h=>by obtain rfl:=Option.some.inj h;exact h2,fun f q h=>by simp at h,fun b' h=>by obtain rfl:=Option.some.inj h;exact ⟨_,h3,rfl,by decide⟩,fun pl h=>by simp at h,(fun h=>by cases h),(fun ks h=>by cases h),(fun m h=>by cases h),(fun k h=>by cases h),(fun h=>by cases h),fun e h=>by cases h⟩
theorem iP {n b:Nat} {ty:Ty} {fs pl:List (Nat×Nat)} {z:Value} {eq:Option (List (Option IntKind))} (h1:TI P T true n) (h2:ty.size=n) (h3:FldAll P T 0 fs) (h4:TZ P T z n b) (h5:z.cells=(zeroCells ty).toArray) (h6:1≤b) (h7:TB P T pl) (h8: ∀ks,eq=some ks→ ∀w,Curq ks fun xs ys r=>EqT P T (.agg xs.toArray) (.agg ys.toArray) r w):TDok P T ⟨true,n,none,ty,fs,some b,some pl,false,eq,none,none,false,none⟩:=
 ⟨h1,rfl,h2,fun E h=>by simp at h,fun f q h=>by have:=h3.get f q h;rwa [Nat.zero_add] at this,fun b' h=>by obtain rfl:=Option.some.inj h;exact ⟨z,h4,h5,h6⟩,fun pl' h=>by obtain rfl:=Option.some.inj h;exact h7,(fun h=>by cases h),h8,(fun m h=>by cases h),(fun k h=>by cases h),(fun h=>by cases h),fun e h=>by cases h⟩
theorem wv {ty:Ty} {b:Nat} (h1:TI P T false 1) (h2:ty.size=1) (h3:TZ P T .nilFunc 1 b):TDok P T ⟨false,1,none,ty,[],none,none,false,none,none,none,true,none⟩:=
 ⟨h1,rfl,h2,fun E h=>by simp at h,fun f q h=>by simp at h,(fun b' h=>by cases h),(fun pl h=>by cases h),(fun h=>by cases h),(fun ks h=>by cases h),(fun m' h=>by cases h),(fun k h=>by cases h),(fun _=>⟨b,h3⟩),fun e h=>by cases h⟩
theorem TP {m:MD} {ty:Ty} (h1:TI P T false 1) (h2:ty.size=1) (h3:MDok P T m):TDok P T ⟨false,1,none,ty,[],none,none,false,none,some m,none,false,none⟩:=
 ⟨h1,rfl,h2,fun E h=>by simp at h,fun f q h=>by simp at h,(fun b' h=>by cases h),(fun pl h=>by cases h),(fun h=>by cases h),(fun ks h=>by cases h),(fun m' h=>by obtain rfl:=Option.some.inj h;exact h3),(fun k h=>by cases h),(fun h=>by cases h),fun e h=>by cases h⟩
theorem TQ {e E:TypeId} {u:Ty} (h1:TI P T false 1) (h2:P.underlying T=some (.pointer e)) (h3:TZ P T (.pointer none) 1 8):TDok P T ⟨false,1,none,.fro (.tree e E u),[],some 8,none,false,none,none,none,false,some e⟩:=
 ⟨h1,rfl,rfl,fun E' h=>by simp at h,fun f q h=>by simp at h,fun b' h=>by obtain rfl:=Option.some.inj h;exact ⟨_,h3,rfl,by decide⟩,fun pl h=>by simp at h,(fun h=>by cases h),(fun ks h=>by cases h),(fun m h=>by cases h),(fun k h=>by cases h),(fun h=>by cases h),fun e' h=>by obtain rfl:=Option.some.inj h;exact h2⟩
end
end R
namespace D
open Go.RowKit
def pC (p0a:List Int) (p1left:Int):Option Int:=
 if decide (IntKind.i64.wrap (p1left - (p0a.length:Int))<0) then (some (-1)) else (some (IntKind.i64.wrap (p1left - (p0a.length:Int))))
def qB (p0a:List (Int×Int×Int×Int)) (p1left:Int):Option Int:=
 if decide (IntKind.i64.wrap (p1left - (p0a.length:Int))<0) then (some (-1)) else (some (IntKind.i64.wrap (p1left - (p0a.length:Int))))
def nf (p0a:(List Int)×(List (Int×Int×Int×Int))) (p1left:Int):Option Int:=
 (pC p0a.1 p1left).bind fun r1=>if decide (r1<0) then (some (-1)) else ((qB p0a.2 r1).bind fun r2=>if decide (r2<0) then (some (-1)) else (some r2))
def il (p0a:List ((List Int)×(List (Int×Int×Int×Int)))) (s3:Int×Int):Option (Out Int (Int×Int)):=
 if decide (s3.2<(p0a.length:Int)) then ((aF p0a s3.2).bind fun x3=>(nf (x3.1,x3.2) s3.1).bind fun r9=>if decide (r9<0) then (some (.ret (-1))) else (some (.nxt (r9,IntKind.i64.wrap (s3.2+1))))) else (some (.brk (s3.1,s3.2)))
def oJ (p0a:List ((List Int)×(List (Int×Int×Int×Int)))) (p1left:Int):Option Int:=
 if decide (IntKind.i64.wrap (p1left - (p0a.length:Int))<0) then (some (-1)) else (aC (ai (il p0a) aN (IntKind.i64.wrap (p1left - (p0a.length:Int)),0)) (fun r=>some r) (fun s4=>some s4.1))
def ka (p0a:Int×(List ((List Int)×(List (Int×Int×Int×Int))))) (p1left:Int):Option Int:=
 (oJ p0a.2 p1left).bind fun r1=>if decide (r1<0) then (some (-1)) else (some r1)
def qC (p0a:List Bool) (p1left:Int):Option Int:=
 if decide (IntKind.i64.wrap (p1left - (p0a.length:Int))<0) then (some (-1)) else (some (IntKind.i64.wrap (p1left - (p0a.length:Int))))
def jl (p0a:List (List Int)) (s3:Int×Int):Option (Out Int (Int×Int)):=
 if decide (s3.2<(p0a.length:Int)) then ((aF p0a s3.2).bind fun x3=>(pC x3 s3.1).bind fun r6=>if decide (r6<0) then (some (.ret (-1))) else (some (.nxt (r6,IntKind.i64.wrap (s3.2+1))))) else (some (.brk (s3.1,s3.2)))
def qD (p0a:List (List Int)) (p1left:Int):Option Int:=
 if decide (IntKind.i64.wrap (p1left - (p0a.length:Int))<0) then (some (-1)) else (aC (ai (jl p0a) aN (IntKind.i64.wrap (p1left - (p0a.length:Int)),0)) (fun r=>some r) (fun s4=>some s4.1))
def im (p0a:Int×(List Bool)×(List (List Int))) (p1left:Int):Option Int:=
 (qC p0a.2.1 p1left).bind fun r1=>if decide (r1<0) then (some (-1)) else ((qD p0a.2.2 r1).bind fun r2=>if decide (r2<0) then (some (-1)) else (some r2))
def eH (p0a:List (Int×(List Bool)×(List (List Int)))) (s3:Int×Int):Option (Out Int (Int×Int)):=
 if decide (s3.2<(p0a.length:Int)) then ((aF p0a s3.2).bind fun x3=>(im (x3.1,x3.2.1,x3.2.2) s3.1).bind fun r9=>if decide (r9<0) then (some (.ret (-1))) else (some (.nxt (r9,IntKind.i64.wrap (s3.2+1))))) else (some (.brk (s3.1,s3.2)))
def jU (p0a:List (Int×(List Bool)×(List (List Int)))) (p1left:Int):Option Int:=
 if decide (IntKind.i64.wrap (p1left - (p0a.length:Int))<0) then (some (-1)) else (aC (ai (eH p0a) aN (IntKind.i64.wrap (p1left - (p0a.length:Int)),0)) (fun r=>some r) (fun s4=>some s4.1))
def oK (p0a:List (Int×Int×Int×Int)) (p1left:Int):Option Int:=
 if decide (IntKind.i64.wrap (p1left - (p0a.length:Int))<0) then (some (-1)) else (some (IntKind.i64.wrap (p1left - (p0a.length:Int))))
def pD (p0a:(List (Int×Int×Int×Int))) (p1left:Int):Option Int:=
 (oK p0a p1left).bind fun r1=>if decide (r1<0) then (some (-1)) else (some r1)
def gl (p0a:Int×((List (Int×Int×Int×Int)))×Int) (p1left:Int):Option Int:=
 (pD p0a.2.1 p1left).bind fun r1=>if decide (r1<0) then (some (-1)) else (some r1)
def dG (p0a:List (Int×((List (Int×Int×Int×Int)))×Int)) (s3:Int×Int):Option (Out Int (Int×Int)):=
 if decide (s3.2<(p0a.length:Int)) then ((aF p0a s3.2).bind fun x3=>(gl (x3.1,x3.2.1,x3.2.2) s3.1).bind fun r6=>if decide (r6<0) then (some (.ret (-1))) else (some (.nxt (r6,IntKind.i64.wrap (s3.2+1))))) else (some (.brk (s3.1,s3.2)))
def iV (p0a:List (Int×((List (Int×Int×Int×Int)))×Int)) (p1left:Int):Option Int:=
 if decide (IntKind.i64.wrap (p1left - (p0a.length:Int))<0) then (some (-1)) else (aC (ai (dG p0a) aN (IntKind.i64.wrap (p1left - (p0a.length:Int)),0)) (fun r=>some r) (fun s4=>some s4.1))
def jm (p0a:(List (Int×(List Bool)×(List (List Int))))×(List (Int×((List (Int×Int×Int×Int)))×Int))) (p1left:Int):Option Int:=
 (jU p0a.1 p1left).bind fun r1=>if decide (r1<0) then (some (-1)) else ((iV p0a.2 r1).bind fun r2=>if decide (r2<0) then (some (-1)) else (some r2))
def iW (p0a:List (Int×Int×Int)) (p1left:Int):Option Int:=
 if decide (IntKind.i64.wrap (p1left - (p0a.length:Int))<0) then (some (-1)) else (some (IntKind.i64.wrap (p1left - (p0a.length:Int))))
def lx (p0a:(Int×(List ((List Int)×(List (Int×Int×Int×Int)))))×((List (Int×(List Bool)×(List (List Int))))×(List (Int×((List (Int×Int×Int×Int)))×Int)))×(List (Int×Int×Int))×ByteArray) (p1left:Int):Option Int:=
 (ka (p0a.1.1,p0a.1.2) p1left).bind fun r1=>if decide (r1<0) then (some (-1)) else ((jm (p0a.2.1.1,p0a.2.1.2) r1).bind fun r2=>if decide (r2<0) then (some (-1)) else ((iW p0a.2.2.1 r2).bind fun r3=>if decide (r3<0) then (some (-1)) else (if decide (IntKind.i64.wrap (r3 - (p0a.2.2.2.size:Int))<0) then (some (-1)) else (some (IntKind.i64.wrap (r3 - (p0a.2.2.2.size:Int)))))))
def bV (p0x:Int) (p1low:Int) (p2high:Int):Option Bool:=
 if decide (p0x≥p1low) then (some (decide (p0x≤p2high))) else (some false)
def yO (p0g:(List Int)×(List (Int×Int×Int×Int))) (p1e:Int×Int×Int×Int):Option Bool:=
 (bV p1e.1 1 99).bind fun r1=>if r1 then ((bV p1e.2.1 0 (IntKind.i64.wrap ((p0g.1.length:Int) - 1))).bind fun r2=>if r2 then ((bV p1e.2.2.1 0 (IntKind.i64.wrap ((p0g.1.length:Int) - 1))).bind fun r3=>if r3 then ((bV p1e.2.2.2 0 2).bind fun r4=>some r4) else (some false)) else (some false)) else (some false)
def kG (p0g:(List Int)×(List (Int×Int×Int×Int))) (s3:Int):Option (Out Bool Int):=
 if decide (s3<(p0g.1.length:Int)) then ((aF p0g.1 s3).bind fun x3=>(bV x3 0 2).bind fun r3=>if r3 then (some (.nxt (IntKind.i64.wrap (s3+1)))) else (some (.ret false))) else (some (.brk s3))
def gH (p0g:(List Int)×(List (Int×Int×Int×Int))) (s7:Int):Option (Out Bool Int):=
 if decide (s7<(p0g.2.length:Int)) then ((aF p0g.2 s7).bind fun x10=>(yO (p0g.1,p0g.2) (x10.1,x10.2.1,x10.2.2.1,x10.2.2.2)).bind fun r6=>if r6 then (if decide (s7>0) then ((aF p0g.2 (IntKind.i64.wrap (s7 - 1))).bind fun x11=>(aF p0g.2 s7).bind fun x12=>if decide (x11.1≥x12.1) then (some (.ret false)) else (some (.nxt (IntKind.i64.wrap (s7+1))))) else (some (.nxt (IntKind.i64.wrap (s7+1))))) else (some (.ret false))) else (some (.brk s7))
def eW (p0g:(List Int)×(List (Int×Int×Int×Int))):Option Bool:=
 aC (ai (kG p0g) aN 0) (fun r=>some r) (fun s4=>aC (ai (gH p0g) aN 0) (fun r=>some r) (fun s8=>(bV (p0g.1.length:Int) 1 5).bind fun r7=>if r7 then (some (decide ((p0g.2.length:Int)≤12))) else (some false)))
def lz (p0a:List Int) (p1b:List Int) (s3:Int):Option (Out Int Int):=
 if decide (s3<(p0a.length:Int)) then (if decide (s3<(p1b.length:Int)) then ((aF p0a s3).bind fun x9=>(aF p1b s3).bind fun x10=>if decide (x9<x10) then (some (.ret (-1))) else ((aF p0a s3).bind fun x11=>(aF p1b s3).bind fun x12=>if decide (x11>x12) then (some (.ret 1)) else (some (.nxt (IntKind.i64.wrap (s3+1)))))) else (some (.brk s3))) else (some (.brk s3))
def kH (p0a:List Int) (p1b:List Int):Option Int:=
 aC (ai (lz p0a p1b) aN 0) (fun r=>some r) (fun s4=>if decide ((p0a.length:Int)<(p1b.length:Int)) then (some (-1)) else (if decide ((p0a.length:Int)>(p1b.length:Int)) then (some 1) else (some 0)))
def dk (p0h:Int×(List ((List Int)×(List (Int×Int×Int×Int))))) (s3:Int):Option (Out Bool Int):=
 if decide (s3<(p0h.2.length:Int)) then ((aF p0h.2 s3).bind fun x7=>(eW (x7.1,x7.2)).bind fun r15=>if r15 then ((aF p0h.2 s3).bind fun x8=>(aF p0h.2 0).bind fun x9=>(kH x8.1 x9.1).bind fun r18=>if r18 !=0 then (some (.ret false)) else (some (.nxt (IntKind.i64.wrap (s3+1))))) else (some (.ret false))) else (some (.brk s3))
def m_s_IsValidHistory (p0h:Int×(List ((List Int)×(List (Int×Int×Int×Int))))):Option Bool:=
 aC (ai (dk p0h) aN 0) (fun r=>some r) (fun s4=>(bV (p0h.2.length:Int) 1 8).bind fun r19=>if r19 then ((bV p0h.1 1 (IntKind.i64.wrap ((IntKind.i64.wrap (999 - (p0h.2.length:Int)))+1))).bind fun r20=>some r20) else (some false))
def jI (p0n:Int):Option Bool:=
 (bV p0n 0 8).bind fun r1=>some r1
def kI (p0:Int×Int×Int×Int):Option Int:=
 Option.bind ((if p0.1==1 then (some (p0.1==1)) else (some (p0.1==2)):Option Bool)) (fun s1=>if s1 then (if p0.2.1 !=0 then (some (-1)) else (if p0.2.2.1 !=0 then (some (-1)) else (if p0.2.2.2 !=0 then (some (-1)) else (some 0)))) else (if p0.1==3 then ((jI p0.2.1).bind fun r3=>if r3 then (if p0.2.2.1 !=0 then (some (-1)) else (if p0.2.2.2 !=0 then (some (-1)) else (some 0))) else (some (-1))) else (Option.bind ((if p0.1==4 then (some (p0.1==4)) else (some (p0.1==5)):Option Bool)) (fun s2=>if s2 then (if p0.2.1 !=0 then (some (-1)) else (if p0.2.2.1 !=0 then (some (-1)) else (if p0.2.2.2 !=0 then (some (-1)) else (some 2)))) else (if p0.1==6 then (if p0.2.1 !=0 then (some (-1)) else (if p0.2.2.1 !=0 then (some (-1)) else (if p0.2.2.2 !=0 then (some (-1)) else (some 1)))) else (if p0.1==7 then (if p0.2.1 !=0 then (some (-1)) else ((bV p0.2.2.2 1 3).bind fun r1=>if r1 then ((bV p0.2.2.1 0 p0.2.2.2).bind fun r2=>if r2 then (some 1) else (some (-1))) else (some (-1)))) else (some (-1))))))))
def ng (p0e:(List (Int×Int×Int×Int))) (s3:Int×Int):Option (Out Bool (Int×Int)):=
 if decide (s3.2<(p0e.length:Int)) then ((aF p0e s3.2).bind fun x3=>(kI (x3.1,x3.2.1,x3.2.2.1,x3.2.2.2)).bind fun r3=>if decide (r3<0) then (some (.ret false)) else (if decide (r3>s3.1) then (some (.ret false)) else (some (.nxt (IntKind.i64.wrap ((IntKind.i64.wrap (s3.1 - r3))+1),IntKind.i64.wrap (s3.2+1)))))) else (some (.brk (s3.1,s3.2)))
def pE (p0e:(List (Int×Int×Int×Int))):Option Bool:=
 aC (ai (ng p0e) aN (0,0)) (fun r=>some r) (fun s4=>some (s4.1==1))
def ir (p0e:(List (Int×Int×Int×Int))):Option Bool:=
 if decide ((p0e.length:Int)≤24) then ((pE p0e).bind fun r1=>some r1) else (some false)
def jn (p0l:List (Int×Int×Int×Int)) (s3:Int×Int):Option (Out Int (Int×Int)):=
 if decide (s3.1>0) then ((aF p0l (IntKind.i64.wrap (s3.2 - 1))).bind fun x3=>(kI (x3.1,x3.2.1,x3.2.2.1,x3.2.2.2)).bind fun r3=>some (.nxt (IntKind.i64.wrap ((IntKind.i64.wrap (s3.1 - 1))+r3),IntKind.i64.wrap (s3.2 - 1)))) else (some (.brk (s3.1,s3.2)))
def fq (p0l:List (Int×Int×Int×Int)):Option Int:=
 aC (ai (jn p0l) aN (1,(p0l.length:Int))) (fun r=>some r) (fun s4=>some s4.2)
def cT:Nat→(List (Int×Int×Int×Int))→Option Int
 | 0,_=>none
 | n+1,p0l =>
  (aF p0l (IntKind.i64.wrap ((p0l.length:Int) - 1))).bind fun x0=>Option.bind ((if x0.1==4 then (some (x0.1==4)) else (some (x0.1==5)):Option Bool)) (fun s1=>if s1 then ((chk (And (0≤(IntKind.i64.wrap ((p0l.length:Int) - 1))) ((IntKind.i64.wrap ((p0l.length:Int) - 1))≤(p0l.length:Int)))).bind fun _=>(fq (p0l.take ((IntKind.i64.wrap ((p0l.length:Int) - 1)).toNat))).bind fun r3=>(chk (And (0≤r3) (r3≤(p0l.length:Int)))).bind fun _=>((cT n) (p0l.take r3.toNat)).bind fun r9=>(chk (And (0≤r3) (And (r3≤(IntKind.i64.wrap ((p0l.length:Int) - 1))) ((IntKind.i64.wrap ((p0l.length:Int) - 1))≤(p0l.length:Int))))).bind fun _=>((cT n) ((p0l.take ((IntKind.i64.wrap ((p0l.length:Int) - 1)).toNat)).drop r3.toNat)).bind fun r11=>some (Min.min 100000 (IntKind.i64.wrap ((IntKind.i64.wrap (r9+r11))+1)))) else (if x0.1==6 then ((chk (And (0≤(IntKind.i64.wrap ((p0l.length:Int) - 1))) ((IntKind.i64.wrap ((p0l.length:Int) - 1))≤(p0l.length:Int)))).bind fun _=>((cT n) (p0l.take ((IntKind.i64.wrap ((p0l.length:Int) - 1)).toNat))).bind fun r13=>some (Min.min 100000 (IntKind.i64.wrap (r13+1)))) else (if x0.1==7 then ((chk (And (0≤(IntKind.i64.wrap ((p0l.length:Int) - 1))) ((IntKind.i64.wrap ((p0l.length:Int) - 1))≤(p0l.length:Int)))).bind fun _=>((cT n) (p0l.take ((IntKind.i64.wrap ((p0l.length:Int) - 1)).toNat))).bind fun r17=>some (Min.min 100000 (IntKind.i64.wrap ((IntKind.i64.wrap ((IntKind.i64.wrap (r17+3))*x0.2.2.2))+1)))) else (some 1))))
def iX (p0l:List (Int×Int×Int×Int)):Option (List (Int×Int×Int×Int)):=
 (cN 32 ([] :List (Int×Int×Int×Int)) p0l).bind fun z1=>some z1
def iY (p0a:(List (Int×Int×Int×Int))) (p1b:(List (Int×Int×Int×Int))) (p2t:Int×Int×Int×Int):Option (List (Int×Int×Int×Int)):=
 (iX p0a).bind fun r1=>(cN 32 r1 p1b).bind fun z1=>(cN 32 z1 ([(p2t.1,p2t.2.1,p2t.2.2.1,p2t.2.2.2)])).bind fun z2=>some z2
def mf (p0kind:Int):Option (List (Int×Int×Int×Int)):=
 some ([(p0kind,0,0,0)])
def gK:Nat→(List (Int×Int×Int×Int))→Int→Int→Option (List (Int×Int×Int×Int))
 | 0,_,_,_=>none
 | n+1,p0e,p1low,p2high =>
  if p2high==0 then ((mf 2).bind fun r0=>some r0) else (((gK n) p0e (Max.max 0 (IntKind.i64.wrap (p1low - 1))) (IntKind.i64.wrap (p2high - 1))).bind fun r3=>(iY p0e r3 (4,0,0,0)).bind fun r4=>if decide (p1low>0) then (some r4) else ((mf 2).bind fun r7=>(iY r4 r7 (5,0,0,0)).bind fun r8=>some r8))
def bW:Nat→(List (Int×Int×Int×Int))→Option (List (Int×Int×Int×Int))
 | 0,_=>none
 | n+1,p0l =>
  (aF p0l (IntKind.i64.wrap ((p0l.length:Int) - 1))).bind fun x0=>Option.bind ((if x0.1==4 then (some (x0.1==4)) else (some (x0.1==5)):Option Bool)) (fun s1=>if s1 then ((chk (And (0≤(IntKind.i64.wrap ((p0l.length:Int) - 1))) ((IntKind.i64.wrap ((p0l.length:Int) - 1))≤(p0l.length:Int)))).bind fun _=>(fq (p0l.take ((IntKind.i64.wrap ((p0l.length:Int) - 1)).toNat))).bind fun r3=>(chk (And (0≤r3) (r3≤(p0l.length:Int)))).bind fun _=>((bW n) (p0l.take r3.toNat)).bind fun r10=>(chk (And (0≤r3) (And (r3≤(IntKind.i64.wrap ((p0l.length:Int) - 1))) ((IntKind.i64.wrap ((p0l.length:Int) - 1))≤(p0l.length:Int))))).bind fun _=>((bW n) ((p0l.take ((IntKind.i64.wrap ((p0l.length:Int) - 1)).toNat)).drop r3.toNat)).bind fun r12=>(iY r10 r12 (x0.1,x0.2.1,x0.2.2.1,x0.2.2.2)).bind fun r13=>some r13) else (if x0.1==6 then ((chk (And (0≤(IntKind.i64.wrap ((p0l.length:Int) - 1))) ((IntKind.i64.wrap ((p0l.length:Int) - 1))≤(p0l.length:Int)))).bind fun _=>((bW n) (p0l.take ((IntKind.i64.wrap ((p0l.length:Int) - 1)).toNat))).bind fun r18=>(iY r18 ([] :List (Int×Int×Int×Int)) (x0.1,x0.2.1,x0.2.2.1,x0.2.2.2)).bind fun r19=>some r19) else (if x0.1==7 then ((chk (And (0≤(IntKind.i64.wrap ((p0l.length:Int) - 1))) ((IntKind.i64.wrap ((p0l.length:Int) - 1))≤(p0l.length:Int)))).bind fun _=>((bW n) (p0l.take ((IntKind.i64.wrap ((p0l.length:Int) - 1)).toNat))).bind fun r24=>(gK eU r24 x0.2.2.1 x0.2.2.2).bind fun r25=>some r25) else (some ([(x0.1,x0.2.1,x0.2.2.1,x0.2.2.2)])))))
def jo (p0e:(List (Int×Int×Int×Int))):Option (((List (Int×Int×Int×Int)))×Bool):=
 (ir p0e).bind fun r1=>if r1 then ((cT eU p0e).bind fun r2=>if decide (r2>5000) then (some ([],false)) else ((bW eU p0e).bind fun r3=>if decide ((r3.length:Int)>400) then (some ([],false)) else (some (r3,true)))) else (some ([],false))
def gb (p1from:Int) (p2to:Int) (s2:Int×List Int):Option (Out ((List Int)×Int×Int×(List Int)×Bool) (Int×List Int)):=
 if decide (s2.1<(s2.2.length:Int)) then (Option.bind (((chk (0≤s2.1)).bind fun _=>if (vx (pX p1from s2.1) 1)==1 then ((aF s2.2 s2.1).bind fun x6=>(aF s2.2 s2.1).bind fun x7=>some (s2.2.set s2.1.toNat (orI x6 p2to))) else (some s2.2):Option (List Int))) (fun s8=>some (.nxt (IntKind.i64.wrap (s2.1+1),s8)))) else (some (.brk (s2.1,s2.2)))
def kJ (p0p:(List Int)×Int×Int×(List Int)×Bool) (p1from:Int) (p2to:Int):Option ((List Int)×Int×Int×(List Int)×Bool):=
 aC (ai (gb p1from p2to) aN (0,p0p.2.2.2.1)) (fun r9=>some r9) (fun s10=>some (p0p.1,p0p.2.1,p0p.2.2.1,s10.2,p0p.2.2.2.2))
def ct:Nat→((List Int)×Int×Int×(List Int)×Bool)→(List (Int×Int×Int×Int))→Option ((Bool×Int×Int)×(List Int)×Int×Int×(List Int)×Bool)
 | 0,_,_=>none
 | n+1,p0,p1 =>
  (aF p1 (IntKind.i64.wrap ((p1.length:Int) - 1))).bind fun x0=>if x0.1==2 then (some ((true,0,0),p0.1,p0.2.1,p0.2.2.1,p0.2.2.2.1,p0.2.2.2.2)) else (if x0.1==3 then ((cN 8 p0.1 ([x0.2.1])).bind fun z2=>(cN 8 p0.2.2.2.1 ([0])).bind fun z3=>some ((false,Ev 1 (p0.1.length:Int),Ev 1 (p0.1.length:Int)),z2,p0.2.1,p0.2.2.1,z3,p0.2.2.2.2)) else (if x0.1==4 then ((chk (And (0≤(IntKind.i64.wrap ((p1.length:Int) - 1))) ((IntKind.i64.wrap ((p1.length:Int) - 1))≤(p1.length:Int)))).bind fun _=>(fq (p1.take ((IntKind.i64.wrap ((p1.length:Int) - 1)).toNat))).bind fun r5=>(chk (And (0≤r5) (r5≤(p1.length:Int)))).bind fun _=>((ct n) (p0.1,p0.2.1,p0.2.2.1,p0.2.2.2.1,p0.2.2.2.2) (p1.take r5.toNat)).bind fun r7=>(chk (And (0≤r5) (And (r5≤(IntKind.i64.wrap ((p1.length:Int) - 1))) ((IntKind.i64.wrap ((p1.length:Int) - 1))≤(p1.length:Int))))).bind fun _=>((ct n) (r7.2.1,r7.2.2.1,r7.2.2.2.1,r7.2.2.2.2.1,r7.2.2.2.2.2) ((p1.take ((IntKind.i64.wrap ((p1.length:Int) - 1)).toNat)).drop r5.toNat)).bind fun r9=>(kJ (r9.2.1,r9.2.2.1,r9.2.2.2.1,r9.2.2.2.2.1,r9.2.2.2.2.2) r7.1.2.2 r9.1.2.1).bind fun r10=>if r7.1.1 then (Option.bind ((if r7.1.1 then (some (r9.1.1,orI r7.1.2.1 r9.1.2.1,r9.1.2.2)) else (some (r9.1.1,r7.1.2.1,r9.1.2.2)):Option (Bool×Int×Int))) (fun s11=>Option.bind ((if r9.1.1 then (some (s11.1,s11.2.1,orI r7.1.2.2 r9.1.2.2)) else (some (s11.1,s11.2.1,s11.2.2)):Option (Bool×Int×Int))) (fun s12=>some ((s12.1,s12.2.1,s12.2.2),r10.1,r10.2.1,r10.2.2.1,r10.2.2.2.1,r10.2.2.2.2)))) else (Option.bind ((if r7.1.1 then (some (false,orI r7.1.2.1 r9.1.2.1,r9.1.2.2)) else (some (false,r7.1.2.1,r9.1.2.2)):Option (Bool×Int×Int))) (fun s13=>Option.bind ((if r9.1.1 then (some (s13.1,s13.2.1,orI r7.1.2.2 r9.1.2.2)) else (some (s13.1,s13.2.1,s13.2.2)):Option (Bool×Int×Int))) (fun s14=>some ((s14.1,s14.2.1,s14.2.2),r10.1,r10.2.1,r10.2.2.1,r10.2.2.2.1,r10.2.2.2.2))))) else (if x0.1==5 then ((chk (And (0≤(IntKind.i64.wrap ((p1.length:Int) - 1))) ((IntKind.i64.wrap ((p1.length:Int) - 1))≤(p1.length:Int)))).bind fun _=>(fq (p1.take ((IntKind.i64.wrap ((p1.length:Int) - 1)).toNat))).bind fun r16=>(chk (And (0≤r16) (r16≤(p1.length:Int)))).bind fun _=>((ct n) (p0.1,p0.2.1,p0.2.2.1,p0.2.2.2.1,p0.2.2.2.2) (p1.take r16.toNat)).bind fun r18=>(chk (And (0≤r16) (And (r16≤(IntKind.i64.wrap ((p1.length:Int) - 1))) ((IntKind.i64.wrap ((p1.length:Int) - 1))≤(p1.length:Int))))).bind fun _=>((ct n) (r18.2.1,r18.2.2.1,r18.2.2.2.1,r18.2.2.2.2.1,r18.2.2.2.2.2) ((p1.take ((IntKind.i64.wrap ((p1.length:Int) - 1)).toNat)).drop r16.toNat)).bind fun r20=>if r18.1.1 then (some ((true,orI r18.1.2.1 r20.1.2.1,orI r18.1.2.2 r20.1.2.2),r20.2.1,r20.2.2.1,r20.2.2.2.1,r20.2.2.2.2.1,r20.2.2.2.2.2)) else (some ((r20.1.1,orI r18.1.2.1 r20.1.2.1,orI r18.1.2.2 r20.1.2.2),r20.2.1,r20.2.2.1,r20.2.2.2.1,r20.2.2.2.2.1,r20.2.2.2.2.2))) else (if x0.1==6 then ((chk (And (0≤(IntKind.i64.wrap ((p1.length:Int) - 1))) ((IntKind.i64.wrap ((p1.length:Int) - 1))≤(p1.length:Int)))).bind fun _=>((ct n) (p0.1,p0.2.1,p0.2.2.1,p0.2.2.2.1,p0.2.2.2.2) (p1.take ((IntKind.i64.wrap ((p1.length:Int) - 1)).toNat))).bind fun r22=>(kJ (r22.2.1,r22.2.2.1,r22.2.2.2.1,r22.2.2.2.2.1,r22.2.2.2.2.2) r22.1.2.2 r22.1.2.1).bind fun r23=>some ((true,r22.1.2.1,r22.1.2.2),r23.1,r23.2.1,r23.2.2.1,r23.2.2.2.1,r23.2.2.2.2)) else (some ((false,0,0),p0.1,p0.2.1,p0.2.2.1,p0.2.2.2.1,p0.2.2.2.2))))))
def cv (r0:(List (Int×Int×Int×Int))×Bool) (s2:Int×Int):Option (Out (((List Int)×Int×Int×(List Int)×Bool)×Bool) (Int×Int)):=
 if decide (s2.2<(r0.1.length:Int)) then (Option.bind (((aF r0.1 s2.2).bind fun x3=>if x3.1==3 then (some (IntKind.i64.wrap (s2.1+1))) else (some s2.1):Option Int)) (fun s4=>some (.nxt (s4,IntKind.i64.wrap (s2.2+1))))) else (some (.brk (s2.1,s2.2)))
def fe (p0e:List (Int×Int×Int×Int)):Option (((List Int)×Int×Int×(List Int)×Bool)×Bool):=
 (jo p0e).bind fun r0=>if r0.2 then (aC (ai (cv r0) aN (0,0)) (fun r5=>some r5) (fun s6=>if decide (s6.1>20) then (some ((([] :List Int),0,0,([] :List Int),false),false)) else ((ct eU (([] :List Int),0,0,([] :List Int),false) r0.1).bind fun r7=>some ((r7.2.1,r7.1.2.1,r7.1.2.2,r7.2.2.2.2.1,r7.1.1),true)))) else (some ((([] :List Int),0,0,([] :List Int),false),false))
def fu (p0p:(List Int)×Int×Int×(List Int)×Bool) (p1set:Int) (s6:Int×Int):Option (Out Int (Int×Int)):=
 if decide (s6.2<(p0p.1.length:Int)) then (Option.bind (((chk (0≤IntKind.i64.wrap (s6.2+1))).bind fun _=>if (vx (pX p1set (IntKind.i64.wrap (s6.2+1))) 1)==1 then ((aF p0p.2.2.2.1 s6.2).bind fun x6=>some (orI s6.1 x6)) else (some s6.1):Option Int)) (fun s8=>some (.nxt (s8,IntKind.i64.wrap (s6.2+1))))) else (some (.brk (s6.1,s6.2)))
def fv (p0p:(List Int)×Int×Int×(List Int)×Bool) (p2letter:Int) (s7:Int×Int) (s13:Int×Int):Option (Out Int (Int×Int)):=
 if decide (s13.2<(p0p.1.length:Int)) then (Option.bind (((chk (0≤s13.2)).bind fun _=>if (vx (pX s7.1 s13.2) 1)==1 then ((aF p0p.1 s13.2).bind fun x12=>if x12==p2letter then ((chk (0≤IntKind.i64.wrap (s13.2+1))).bind fun _=>some (orI s13.1 (Ev 1 (IntKind.i64.wrap (s13.2+1))))) else (some s13.1)) else (some s13.1):Option Int)) (fun s15=>some (.nxt (s15,IntKind.i64.wrap (s13.2+1))))) else (some (.brk (s13.1,s13.2)))
def lA (p0p:(List Int)×Int×Int×(List Int)×Bool) (p1set:Int) (p2letter:Int):Option Int:=
 Option.bind ((if (vx p1set 1)==1 then (some p0p.2.1) else (some 0):Option Int)) (fun s1=>aC (ai (fu p0p p1set) aN (s1,0)) (fun r=>some r) (fun s7=>aC (ai (fv p0p p2letter s7) aN (0,0)) (fun r=>some r) (fun s14=>some s14.1)))
def lV (p0l:List Int) (p1x:Int) (s3:Int):Option (Out Int Int):=
 if decide (s3<(p0l.length:Int)) then ((aF p0l s3).bind fun x3=>if x3==p1x then (some (.ret s3)) else (some (.nxt (IntKind.i64.wrap (s3+1))))) else (some (.brk s3))
def kK (p0l:List Int) (p1x:Int):Option Int:=
 aC (ai (lV p0l p1x) aN 0) (fun r=>some r) (fun s4=>some (-1))
def jq (p0p:(List Int)×Int×Int×(List Int)×Bool) (p1set:Int):Option Bool:=
 if (vx p1set 1)==1 then (if p0p.2.2.2.2 then (some true) else (some ((vx (pX p1set 1) p0p.2.2.1) !=0))) else (some ((vx (pX p1set 1) p0p.2.2.1) !=0))
def dQ (p0:(List Int)×Int×Int×(List Int)×Bool) (s17:(List Int)×Int×Int×(List Bool)×(List (List Int))) (s23:(List Int)×(List Int)×Int):Option (Out ((Int×(List Bool)×(List (List Int)))×Bool) ((List Int)×(List Int)×Int)):=
 if decide (s23.2.2<9) then ((aF s23.1 s17.2.1).bind fun x11=>(lA (p0.1,p0.2.1,p0.2.2.1,p0.2.2.2.1,p0.2.2.2.2) x11 s23.2.2).bind fun r27=>Option.bind ((if r27 !=0 then ((kK s23.1 r27).bind fun r29=>if decide (r29<0) then ((cN 8 s23.1 ([r27])).bind fun z30=>some (z30,(s23.1.length:Int))) else (some (s23.1,r29))) else (some (s23.1,-1)):Option ((List Int)×Int))) (fun s25=>(cN 8 s23.2.1 ([s25.2])).bind fun z31=>some (.nxt (s25.1,z31,IntKind.i64.wrap (s23.2.2+1))))) else (some (.brk (s23.1,s23.2.1,s23.2.2)))
def dR (p0:(List Int)×Int×Int×(List Int)×Bool) (p1:Int) (s17:(List Int)×Int×Int×(List Bool)×(List (List Int))):Option (Out ((Int×(List Bool)×(List (List Int)))×Bool) ((List Int)×Int×Int×(List Bool)×(List (List Int)))):=
 if decide (s17.2.1<(s17.1.length:Int)) then (aC (ai (dQ p0 s17) aN (s17.1,([] :List Int),0)) (fun r=>some (.ret r)) (fun s24=>if decide ((s24.1.length:Int)>p1) then (some (.ret ((0,[],[]),false))) else ((aF s24.1 s17.2.1).bind fun x12=>(jq (p0.1,p0.2.1,p0.2.2.1,p0.2.2.2.1,p0.2.2.2.2) x12).bind fun r30=>(cN 1 s17.2.2.2.1 ([r30])).bind fun z32=>(cN 24 s17.2.2.2.2 ([s24.2.1])).bind fun z33=>some (.nxt (s24.1,IntKind.i64.wrap (s17.2.1+1),s17.2.2.1,z32,z33))))) else (some (.brk (s17.1,s17.2.1,s17.2.2.1,s17.2.2.2.1,s17.2.2.2.2)))
def gf (p0:(List Int)×Int×Int×(List Int)×Bool) (p1:Int):Option ((Int×(List Bool)×(List (List Int)))×Bool):=
 aC (ai (dR p0 p1) aN ([1],0,0,[],[])) (fun r=>some r) (fun s18=>some ((s18.2.2.1,s18.2.2.2.1,s18.2.2.2.2),true))
def sN (s3:(List Int)×Int):Option (Out (Int×(List Bool)×(List (List Int))) ((List Int)×Int)):=
 if decide (s3.2<9) then ((cN 8 s3.1 ([-1])).bind fun z3=>some (.nxt (z3,IntKind.i64.wrap (s3.2+1)))) else (some (.brk (s3.1,s3.2)))
def lW:Option (Int×(List Bool)×(List (List Int))):=
 aC (ai (sN) aN (([] :List Int),0)) (fun r=>some r) (fun s4=>some (0,[false],[s4.1]))
def eX (p0:Int×(List Bool)×(List (List Int))) (p1:List Int) (p2:List Bool) (s17:(List Int)×(List Int)×Int×Int×(List Bool)×(List (List Int))) (s23:(List Int)×(List Int)×(List Int)×Int):Option (Out (Int×(List Bool)×(List (List Int))) ((List Int)×(List Int)×(List Int)×Int)):=
 if decide (s23.2.2.2<9) then ((aF s23.2.1 s17.2.2.1).bind fun x79=>(aF p0.2.2 x79).bind fun x80=>(aF x80 s23.2.2.2).bind fun x81=>Option.bind ((if decide (x81≥0) then ((aF p2 x81).bind fun x85=>if x85 then ((aF p1 x81).bind fun x86=>(kK s23.1 x86).bind fun r28=>if decide (r28<0) then ((aF p1 x81).bind fun x87=>(cN 8 s23.1 ([x87])).bind fun z47=>(cN 8 s23.2.1 ([x81])).bind fun z48=>some (z47,z48,(s23.1.length:Int))) else (some (s23.1,s23.2.1,r28))) else (some (s23.1,s23.2.1,-1))) else (some (s23.1,s23.2.1,-1)):Option ((List Int)×(List Int)×Int))) (fun s25=>(cN 8 s23.2.2.1 ([s25.2.2])).bind fun z49=>some (.nxt (s25.1,s25.2.1,z49,IntKind.i64.wrap (s23.2.2.2+1))))) else (some (.brk (s23.1,s23.2.1,s23.2.2.1,s23.2.2.2)))
def gm (p0:Int×(List Bool)×(List (List Int))) (p1:List Int) (p2:List Bool) (s17:(List Int)×(List Int)×Int×Int×(List Bool)×(List (List Int))):Option (Out (Int×(List Bool)×(List (List Int))) ((List Int)×(List Int)×Int×Int×(List Bool)×(List (List Int)))):=
 if decide (s17.2.2.1<(s17.1.length:Int)) then (aC (ai (eX p0 p1 p2 s17) aN (s17.1,s17.2.1,([] :List Int),0)) (fun r=>some (.ret r)) (fun s24=>(aF s24.2.1 s17.2.2.1).bind fun x88=>(aF p0.2.1 x88).bind fun x89=>(cN 1 s17.2.2.2.2.1 ([x89])).bind fun z50=>(cN 24 s17.2.2.2.2.2 ([s24.2.2.1])).bind fun z51=>some (.nxt (s24.1,s24.2.1,IntKind.i64.wrap (s17.2.2.1+1),s17.2.2.2.1,z50,z51)))) else (some (.brk (s17.1,s17.2.1,s17.2.2.1,s17.2.2.2.1,s17.2.2.2.2.1,s17.2.2.2.2.2)))
def fO (p0:Int×(List Bool)×(List (List Int))) (p1:List Int) (p2:List Bool):Option (Int×(List Bool)×(List (List Int))):=
 (aF p2 p0.1).bind fun x1=>if x1 then ((aF p1 p0.1).bind fun x2=>aC (ai (gm p0 p1 p2) aN ([x2],[p0.1],0,0,[],[])) (fun r=>some r) (fun s18=>some (s18.2.2.2.1,s18.2.2.2.2.1,s18.2.2.2.2.2))) else ((lW).bind fun r1=>some (r1.1,r1.2.1,r1.2.2))
def gg (p0a:Int×(List Bool)×(List (List Int))) (s71:(List Bool)×Int) (s77:(List Bool)×Int):Option (Out (List Bool) ((List Bool)×Int)):=
 if decide (s77.2<9) then (Option.bind (((aF p0a.2.2 s71.2).bind fun x319=>(aF x319 s77.2).bind fun x320=>if decide (x320≥0) then ((aF p0a.2.2 s71.2).bind fun x321=>(aF x321 s77.2).bind fun x322=>(aF s77.1 x322).bind fun x323=>if x323 then ((aF s77.1 s71.2).bind fun x324=>some (s77.1.set s71.2.toNat true)) else (some s77.1)) else (some s77.1):Option (List Bool))) (fun s79=>some (.nxt (s79,IntKind.i64.wrap (s77.2+1))))) else (some (.brk (s77.1,s77.2)))
def gh (p0a:Int×(List Bool)×(List (List Int))) (s71:(List Bool)×Int):Option (Out (List Bool) ((List Bool)×Int)):=
 if decide (s71.2<(p0a.2.1.length:Int)) then (aC (ai (gg p0a s71) aN (s71.1,0)) (fun r=>some (.ret r)) (fun s78=>some (.nxt (s78.1,IntKind.i64.wrap (s71.2+1))))) else (some (.brk (s71.1,s71.2)))
def jr (p0a:Int×(List Bool)×(List (List Int))) (s53:(List Bool)×Int):Option (Out (List Bool) ((List Bool)×Int)):=
 if decide (s53.2<(p0a.2.1.length:Int)) then (aC (ai (gh p0a) aN (s53.1,0)) (fun r=>some (.ret r)) (fun s72=>some (.nxt (s72.1,IntKind.i64.wrap (s53.2+1))))) else (some (.brk (s53.1,s53.2)))
def iZ (p0a:Int×(List Bool)×(List (List Int))):Option (List Bool):=
 (cN 1 ([] :List Bool) p0a.2.1).bind fun z1=>aC (ai (jr p0a) aN (z1,0)) (fun r=>some r) (fun s54=>some s54.1)
def kc (p0a:Int×(List Bool)×(List (List Int))) (p1classes:List Int) (p2s:Int) (s5:(List Int)×Int):Option (Out (List Int) ((List Int)×Int)):=
 if decide (s5.2<9) then (Option.bind (((aF p0a.2.2 p2s).bind fun x17=>(aF x17 s5.2).bind fun x18=>if decide (x18<0) then ((cN 8 s5.1 ([-1])).bind fun z12=>some z12) else ((aF p1classes x18).bind fun x19=>(cN 8 s5.1 ([x19])).bind fun z11=>some z11):Option (List Int))) (fun s7=>some (.nxt (s7,IntKind.i64.wrap (s5.2+1))))) else (some (.brk (s5.1,s5.2)))
def mg (p0a:Int×(List Bool)×(List (List Int))) (p1classes:List Int) (p2s:Int):Option (List Int):=
 (aF p1classes p2s).bind fun x1=>aC (ai (kc p0a p1classes p2s) aN ([x1],0)) (fun r=>some r) (fun s6=>some s6.1)
def dS (p0:Int×(List Bool)×List (List Int)) (r0:List Bool) (s2:(List Int)×Int):Option (Out (List Int) ((List Int)×Int)):=
 if decide (s2.2<(p0.2.1.length:Int)) then ((aF p0.2.1 s2.2).bind fun x3=>Option.bind ((if x3 then (some 1) else (some 0):Option Int)) (fun s4=>(aF r0 s2.2).bind fun x5=>Option.bind ((if x5 then (some s4) else (some (-1)):Option Int)) (fun s6=>(cN 8 s2.1 ([s6])).bind fun z7=>some (.nxt (z7,IntKind.i64.wrap (s2.2+1)))))) else (some (.brk (s2.1,s2.2)))
def dU (s13:(List (List Int))×(List Int)×Int) (r16:List Int) (s18:Int×Int):Option (Out (List Int) (Int×Int)):=
 if decide (s18.2<(s13.1.length:Int)) then (Option.bind (((aF s13.1 s18.2).bind fun x19=>(kH x19 r16).bind fun r20=>if r20==0 then (some s18.2) else (some s18.1):Option Int)) (fun s21=>some (.nxt (s21,IntKind.i64.wrap (s18.2+1))))) else (some (.brk (s18.1,s18.2)))
def dV (p0:Int×(List Bool)×List (List Int)) (s11:(List Int)×Int) (s13:(List (List Int))×(List Int)×Int):Option (Out (List Int) ((List (List Int))×(List Int)×Int)):=
 if decide (s13.2.2<(p0.2.1.length:Int)) then (Option.bind (((aF s11.1 s13.2.2).bind fun x14=>if decide (x14<0) then ((cN 8 s13.2.1 ([(-1)])).bind fun z15=>some (s13.1,z15)) else ((mg (p0.1,p0.2.1,p0.2.2) s11.1 s13.2.2).bind fun r16=>aC (ai (dU s13 r16) aN ((-1),0)) (fun r22=>none) (fun s23=>Option.bind ((if decide (s23.1<0) then ((cN 24 s13.1 ([r16])).bind fun z24=>some (z24,(s13.1.length:Int))) else (some (s13.1,s23.1)):Option ((List (List Int))×Int))) (fun s25=>(cN 8 s13.2.1 ([s25.2])).bind fun z26=>some (s25.1,z26)))):Option ((List (List Int))×List Int))) (fun s27=>some (.nxt (s27.1,s27.2,IntKind.i64.wrap (s13.2.2+1))))) else (some (.brk (s13.1,s13.2.1,s13.2.2)))
def ja (p0:Int×(List Bool)×List (List Int)) (s11:(List Int)×Int):Option (Out (List Int) ((List Int)×Int)):=
 if decide (s11.2≤(p0.2.1.length:Int)) then (aC (ai (dV p0 s11) aN (([] :List (List Int)),([] :List Int),0)) (fun r28=>some (.ret r28)) (fun s29=>(kH s29.2.1 s11.1).bind fun r30=>if r30==0 then (some (.ret s11.1)) else (some (.nxt (s29.2.1,IntKind.i64.wrap (s11.2+1)))))) else (some (.brk (s11.1,s11.2)))
def gi (p0:Int×(List Bool)×List (List Int)):Option (List Int):=
 (iZ (p0.1,p0.2.1,p0.2.2)).bind fun r0=>aC (ai (dS p0 r0) aN (([] :List Int),0)) (fun r8=>some r8) (fun s9=>aC (ai (ja p0) aN (s9.1,0)) (fun r31=>some r31) (fun s32=>some s32.1))
def fw (p0a:Int×(List Bool)×(List (List Int))):Option (Int×(List Bool)×(List (List Int))):=
 (gi (p0a.1,p0a.2.1,p0a.2.2)).bind fun r1=>(iZ (p0a.1,p0a.2.1,p0a.2.2)).bind fun r2=>(fO (p0a.1,p0a.2.1,p0a.2.2) r1 r2).bind fun r3=>some (r3.1,r3.2.1,r3.2.2)
def fx (p0e:(List (Int×Int×Int×Int))):Option ((Int×(List Bool)×(List (List Int)))×Bool):=
 (fe p0e).bind fun r1=>if r1.2 then ((gf (r1.1.1,r1.1.2.1,r1.1.2.2.1,r1.1.2.2.2.1,r1.1.2.2.2.2) 200).bind fun r2=>if r2.2 then ((fw (r2.1.1,r2.1.2.1,r2.1.2.2)).bind fun r3=>if decide ((r3.2.1.length:Int)>12) then (some ((0,[],[]),false)) else (some ((r3.1,r3.2.1,r3.2.2),true))) else (some ((0,[],[]),false))) else (some ((0,[],[]),false))
def dH (p0:Int×(List Bool)×(List (List Int))) (p1:Int×(List Bool)×(List (List Int))) (s3:Int):Option (Out Bool Int):=
 if decide (s3<(p0.2.1.length:Int)) then ((aF p0.2.1 s3).bind fun x5=>(aF p1.2.1 s3).bind fun x6=>if x5 !=x6 then (some (.ret false)) else (some (.nxt (IntKind.i64.wrap (s3+1))))) else (some (.brk s3))
def dI (p0:Int×(List Bool)×(List (List Int))) (p1:Int×(List Bool)×(List (List Int))) (s7:Int):Option (Out Bool Int):=
 if decide (s7<(p0.2.2.length:Int)) then ((aF p0.2.2 s7).bind fun x11=>(aF p1.2.2 s7).bind fun x12=>(kH x11 x12).bind fun r9=>if r9 !=0 then (some (.ret false)) else (some (.nxt (IntKind.i64.wrap (s7+1))))) else (some (.brk s7))
def dW (p0:Int×(List Bool)×(List (List Int))) (p1:Int×(List Bool)×(List (List Int))):Option Bool:=
 if p0.1 !=p1.1 then (some false) else (if (p0.2.1.length:Int) !=(p1.2.1.length:Int) then (some false) else (if (p0.2.2.length:Int) !=(p1.2.2.length:Int) then (some false) else (aC (ai (dH p0 p1) aN 0) (fun r=>some r) (fun s4=>aC (ai (dI p0 p1) aN 0) (fun r=>some r) (fun s8=>some true)))))
def fy (p0l:List (Int×(List Bool)×(List (List Int)))) (p1a:Int×(List Bool)×(List (List Int))) (s3:Int):Option (Out Int Int):=
 if decide (s3<(p0l.length:Int)) then ((aF p0l s3).bind fun x3=>(dW (x3.1,x3.2.1,x3.2.2) (p1a.1,p1a.2.1,p1a.2.2)).bind fun r9=>if r9 then (some (.ret s3)) else (some (.nxt (IntKind.i64.wrap (s3+1))))) else (some (.brk s3))
def jJ (p0l:List (Int×(List Bool)×(List (List Int)))) (p1a:Int×(List Bool)×(List (List Int))):Option Int:=
 aC (ai (fy p0l p1a) aN 0) (fun r=>some r) (fun s4=>some (-1))
def cw (p0:List (Int×((List (Int×Int×Int×Int)))×Int)) (s7:Int×(List (Int×(List Bool)×(List (List Int))))×(List (Int×((List (Int×Int×Int×Int)))×Int))):Option (Out (((List (Int×(List Bool)×(List (List Int))))×(List (Int×((List (Int×Int×Int×Int)))×Int)))×Bool) (Int×(List (Int×(List Bool)×(List (List Int))))×(List (Int×((List (Int×Int×Int×Int)))×Int)))):=
 if decide (s7.1<(p0.length:Int)) then ((aF p0 s7.1).bind fun x17=>(fx x17.2.1).bind fun r20=>if r20.2 then ((aF p0 s7.1).bind fun x18=>(bV x18.1 1 99).bind fun r21=>if r21 then (if decide (s7.1>0) then ((aF p0 (IntKind.i64.wrap (s7.1 - 1))).bind fun x21=>(aF p0 s7.1).bind fun x22=>if decide (x21.1≥x22.1) then (some (.ret (([],[]),false))) else ((jJ s7.2.1 (r20.1.1,r20.1.2.1,r20.1.2.2)).bind fun r25=>Option.bind ((if decide (r25<0) then ((cN 56 s7.2.1 ([(r20.1.1,r20.1.2.1,r20.1.2.2)])).bind fun z17=>some ((s7.2.1.length:Int),z17,s7.2.2)) else (some (r25,s7.2.1,s7.2.2)):Option (Int×(List (Int×(List Bool)×(List (List Int))))×(List (Int×((List (Int×Int×Int×Int)))×Int))))) (fun s10=>(aF p0 s7.1).bind fun x23=>(aF p0 s7.1).bind fun x24=>(iX x24.2.1).bind fun r27=>(cN 40 s10.2.2 ([(x23.1,r27,s10.1)])).bind fun z18=>some (.nxt (IntKind.i64.wrap (s7.1+1),s10.2.1,z18))))) else ((jJ s7.2.1 (r20.1.1,r20.1.2.1,r20.1.2.2)).bind fun r22=>Option.bind ((if decide (r22<0) then ((cN 56 s7.2.1 ([(r20.1.1,r20.1.2.1,r20.1.2.2)])).bind fun z14=>some ((s7.2.1.length:Int),z14,s7.2.2)) else (some (r22,s7.2.1,s7.2.2)):Option (Int×(List (Int×(List Bool)×(List (List Int))))×(List (Int×((List (Int×Int×Int×Int)))×Int))))) (fun s9=>(aF p0 s7.1).bind fun x19=>(aF p0 s7.1).bind fun x20=>(iX x20.2.1).bind fun r24=>(cN 40 s9.2.2 ([(x19.1,r24,s9.1)])).bind fun z15=>some (.nxt (IntKind.i64.wrap (s7.1+1),s9.2.1,z15))))) else (some (.ret (([],[]),false)))) else (some (.ret (([],[]),false)))) else (some (.brk (s7.1,s7.2.1,s7.2.2)))
def lB (p0:List (Int×((List (Int×Int×Int×Int)))×Int)):Option (((List (Int×(List Bool)×(List (List Int))))×(List (Int×((List (Int×Int×Int×Int)))×Int)))×Bool):=
 if decide ((p0.length:Int)>4) then (some (([],[]),false)) else (aC (ai (cw p0) aN (0,[],[])) (fun r=>some r) (fun s8=>some ((s8.2.1,s8.2.2),true)))
def fP (p0a:(List (Int×Int×Int×Int))) (p1b:(List (Int×Int×Int×Int))) (s3:Int):Option (Out Bool Int):=
 if decide (s3<(p0a.length:Int)) then ((aF p0a s3).bind fun x5=>(aF p1b s3).bind fun x6=>if (x5.1==x6.1)&&((x5.2.1==x6.2.1)&&((x5.2.2.1==x6.2.2.1)&&((x5.2.2.2==x6.2.2.2)&&true))) then (some (.nxt (IntKind.i64.wrap (s3+1)))) else (some (.ret false))) else (some (.brk s3))
def jt (p0a:(List (Int×Int×Int×Int))) (p1b:(List (Int×Int×Int×Int))):Option Bool:=
 if (p0a.length:Int) !=(p1b.length:Int) then (some false) else (aC (ai (fP p0a p1b) aN 0) (fun r=>some r) (fun s4=>some true))
def cZ (p0:(List (Int×(List Bool)×(List (List Int))))×(List (Int×((List (Int×Int×Int×Int)))×Int))) (p1:(List (Int×(List Bool)×(List (List Int))))×(List (Int×((List (Int×Int×Int×Int)))×Int))) (s3:Int):Option (Out Bool Int):=
 if decide (s3<(p0.1.length:Int)) then ((aF p0.1 s3).bind fun x5=>(aF p1.1 s3).bind fun x6=>(dW (x5.1,x5.2.1,x5.2.2) (x6.1,x6.2.1,x6.2.2)).bind fun r15=>if r15 then (some (.nxt (IntKind.i64.wrap (s3+1)))) else (some (.ret false))) else (some (.brk s3))
def c7 (p0:(List (Int×(List Bool)×(List (List Int))))×(List (Int×((List (Int×Int×Int×Int)))×Int))) (p1:(List (Int×(List Bool)×(List (List Int))))×(List (Int×((List (Int×Int×Int×Int)))×Int))) (s7:Int):Option (Out Bool Int):=
 if decide (s7<(p0.2.length:Int)) then ((aF p0.2 s7).bind fun x19=>(aF p1.2 s7).bind fun x20=>if x19.1 !=x20.1 then (some (.ret false)) else ((aF p0.2 s7).bind fun x21=>(aF p1.2 s7).bind fun x22=>(jt x21.2.1 x22.2.1).bind fun r24=>if r24 then ((aF p0.2 s7).bind fun x23=>(aF p1.2 s7).bind fun x24=>if x23.2.2 !=x24.2.2 then (some (.ret false)) else (some (.nxt (IntKind.i64.wrap (s7+1))))) else (some (.ret false)))) else (some (.brk s7))
def eI (p0:(List (Int×(List Bool)×(List (List Int))))×(List (Int×((List (Int×Int×Int×Int)))×Int))) (p1:(List (Int×(List Bool)×(List (List Int))))×(List (Int×((List (Int×Int×Int×Int)))×Int))):Option Bool:=
 if (p0.1.length:Int) !=(p1.1.length:Int) then (some false) else (if (p0.2.length:Int) !=(p1.2.length:Int) then (some false) else (aC (ai (cZ p0 p1) aN 0) (fun r=>some r) (fun s4=>aC (ai (c7 p0 p1) aN 0) (fun r=>some r) (fun s8=>some true))))
def eJ (p0r:(List (Int×(List Bool)×(List (List Int))))×(List (Int×((List (Int×Int×Int×Int)))×Int))):Option Bool:=
 (lB p0r.2).bind fun r1=>if r1.2 then ((eI (r1.1.1,r1.1.2) (p0r.1,p0r.2)).bind fun r2=>some r2) else (some false)
def bK (p0h:Int×(List ((List Int)×(List (Int×Int×Int×Int))))):Option Int:=
 (m_s_IsValidHistory (p0h.1,p0h.2)).bind fun r1=>if r1 then (some (IntKind.i64.wrap ((IntKind.i64.wrap (p0h.1+(p0h.2.length:Int))) - 1))) else (some 0)
def de (p0r:(List (Int×(List Bool)×(List (List Int))))×(List (Int×((List (Int×Int×Int×Int)))×Int))) (p1id:Int) (s3:Int):Option (Out Int Int):=
 if decide (s3<(p0r.2.length:Int)) then ((aF p0r.2 s3).bind fun x3=>if x3.1==p1id then (some (.ret s3)) else (some (.nxt (IntKind.i64.wrap (s3+1))))) else (some (.brk s3))
def iu (p0r:(List (Int×(List Bool)×(List (List Int))))×(List (Int×((List (Int×Int×Int×Int)))×Int))) (p1id:Int):Option Int:=
 aC (ai (de p0r p1id) aN 0) (fun r=>some r) (fun s4=>some (-1))
def bU (p0e:(Int×(List ((List Int)×(List (Int×Int×Int×Int)))))×((List (Int×(List Bool)×(List (List Int))))×(List (Int×((List (Int×Int×Int×Int)))×Int)))×(List (Int×Int×Int))×ByteArray) (s3:Int):Option (Out Bool Int):=
 if decide (s3<(p0e.2.2.1.length:Int)) then ((aF p0e.2.2.1 s3).bind fun x5=>(bV x5.1 1 99).bind fun r15=>if r15 then (if decide (s3>0) then ((aF p0e.2.2.1 (IntKind.i64.wrap (s3 - 1))).bind fun x6=>if decide (x6.1≥x5.1) then (some (.ret false)) else ((iu (p0e.2.1.1,p0e.2.1.2) x5.2.1).bind fun r19=>if decide (r19<0) then (some (.ret false)) else ((bK (p0e.1.1,p0e.1.2)).bind fun r20=>(bV x5.2.2 0 r20).bind fun r21=>if r21 then (some (.nxt (IntKind.i64.wrap (s3+1)))) else (some (.ret false))))) else ((iu (p0e.2.1.1,p0e.2.1.2) x5.2.1).bind fun r16=>if decide (r16<0) then (some (.ret false)) else ((bK (p0e.1.1,p0e.1.2)).bind fun r17=>(bV x5.2.2 0 r17).bind fun r18=>if r18 then (some (.nxt (IntKind.i64.wrap (s3+1)))) else (some (.ret false))))) else (some (.ret false))) else (some (.brk s3))
def qF (p0e:(Int×(List ((List Int)×(List (Int×Int×Int×Int)))))×((List (Int×(List Bool)×(List (List Int))))×(List (Int×((List (Int×Int×Int×Int)))×Int)))×(List (Int×Int×Int))×ByteArray):Option Bool:=
 aC (ai (bU p0e) aN 0) (fun r=>some r) (fun s4=>some (decide ((p0e.2.2.1.length:Int)≤4)))
def cF (s1:Int×ByteArray):Option (Out ByteArray (Int×ByteArray)):=
 if s1.1 !=0 then (Option.bind ((if decide ((Int.tmod s1.1 10)<0) then (some (IntKind.i64.wrap (-(Int.tmod s1.1 10)))) else (some (Int.tmod s1.1 10)):Option Int)) (fun s2=>(jS (tK ([IntKind.u8.wrap (IntKind.i64.wrap (48+s2))])) s1.2).bind fun z3=>some (.nxt (K8 s1.1 10,z3)))) else (some (.brk (s1.1,s1.2)))
def bt (p0n:Int):Option ByteArray:=
 if p0n==0 then (some (⟨#[48]⟩)) else (aC (ai (cF) aN (p0n,(⟨#[]⟩:ByteArray))) (fun r4=>some r4) (fun s5=>if decide (p0n<0) then ((jS (⟨#[45]⟩) s5.2).bind fun z6=>some z6) else (some s5.2)))
def df (p0n:Int):Option ByteArray:=
 (jI p0n).bind fun r1=>if r1 then ((aF ([(⟨#[97]⟩:ByteArray),(⟨#[97,45]⟩:ByteArray),(⟨#[98]⟩:ByteArray),(⟨#[98,45]⟩:ByteArray),(⟨#[99]⟩:ByteArray),(⟨#[99,45]⟩:ByteArray),(⟨#[48]⟩:ByteArray),(⟨#[49]⟩:ByteArray),(⟨#[50]⟩:ByteArray)]) p0n).bind fun x1=>some x1) else (some (⟨#[]⟩:ByteArray))
def gj (p0e:Int×Int×Int×Int):Option ByteArray:=
 (bV p0e.1 1 99).bind fun r0=>if r0 then ((bV p0e.2.1 0 4).bind fun r1=>if r1 then ((bV p0e.2.2.1 0 4).bind fun r2=>if r2 then ((bV p0e.2.2.2 0 2).bind fun r3=>if r3 then ((bt p0e.1).bind fun r12=>(jS r12 (⟨#[58]⟩)).bind fun z13=>(bt p0e.2.1).bind fun r14=>(jS z13 r14).bind fun z15=>(df (IntKind.i64.wrap (2*p0e.2.2.2))).bind fun r16=>(jS z15 r16).bind fun z17=>(bt p0e.2.2.1).bind fun r18=>(jS z17 r18).bind fun z19=>some z19) else (some ((⟨#[]⟩:ByteArray)))) else (some ((⟨#[]⟩:ByteArray)))) else (some ((⟨#[]⟩:ByteArray)))) else (some ((⟨#[]⟩:ByteArray)))
def dm (p0b:List (Bool×Int×Int×Int×Int)) (s1:ByteArray×Int):Option (Out ByteArray (ByteArray×Int)):=
 if decide (s1.2<(p0b.length:Int)) then (CX (S:=ByteArray) ((aF p0b s1.2).bind fun x2=>(gj (x2.2.1,x2.2.2.1,x2.2.2.2.1,x2.2.2.2.2)).bind fun r3=>if r3==((⟨#[]⟩:ByteArray)) then (some (.inl (.ret ((⟨#[]⟩:ByteArray))))) else (Option.bind ((if decide (s1.2>0) then ((jS s1.1 (⟨#[32]⟩)).bind fun z4=>some z4) else (some s1.1):Option ByteArray)) (fun s5=>(aF p0b s1.2).bind fun x6=>if x6.1 then ((jS s5 (⟨#[43]⟩)).bind fun z7=>(jS z7 r3).bind fun z8=>some (.inr z8)) else ((jS s5 (⟨#[45]⟩)).bind fun z9=>(jS z9 r3).bind fun z10=>some (.inr z10))))) (fun s11=>some (.nxt (s11,IntKind.i64.wrap (s1.2+1))))) else (some (.brk (s1.1,s1.2)))
def bX (p0b:List (Bool×Int×Int×Int×Int)):Option ByteArray:=
 if decide ((p0b.length:Int)>6) then (some ((⟨#[]⟩:ByteArray))) else (aC (ai (dm p0b) aN ((⟨#[]⟩:ByteArray),0)) (fun r12=>some r12) (fun s13=>some s13.1))
def dX (p0s:ByteArray) (s1:Int×Int):Option (Out Int (Int×Int)):=
 if decide (s1.2<((p0s.size:Nat):Int)) then ((gG p0s s1.2).bind fun z2=>some (.nxt (Int.tmod (IntKind.i64.wrap ((IntKind.i64.wrap ((IntKind.i64.wrap (s1.1*257))+(IntKind.i64.wrap z2)))+1)) 9973,IntKind.i64.wrap (s1.2+1)))) else (some (.brk (s1.1,s1.2)))
def eA (p0s:ByteArray):Option Int:=
 aC (ai (dX p0s) aN (1,0)) (fun r3=>some r3) (fun s4=>some s4.1)
def dh (p0version:Int) (p1b:List (Bool×Int×Int×Int×Int)):Option ByteArray:=
 (bV p0version 1 999).bind fun r0=>if r0 then (if decide ((p1b.length:Int)>0) then ((bX p1b).bind fun r1=>if r1==((⟨#[]⟩:ByteArray)) then (some ((⟨#[]⟩:ByteArray))) else ((bt p0version).bind fun r7=>(jS r7 (⟨#[59]⟩)).bind fun z8=>(bX p1b).bind fun r9=>(jS z8 r9).bind fun z10=>(jS z10 (⟨#[59]⟩)).bind fun z11=>(eA z11).bind fun r12=>(bt r12).bind fun r13=>(jS z11 r13).bind fun z14=>(jS z14 (⟨#[10]⟩)).bind fun z15=>some z15)) else ((bt p0version).bind fun r21=>(jS r21 (⟨#[59]⟩)).bind fun z22=>(bX p1b).bind fun r23=>(jS z22 r23).bind fun z24=>(jS z24 (⟨#[59]⟩)).bind fun z25=>(eA z25).bind fun r26=>(bt r26).bind fun r27=>(jS z25 r27).bind fun z28=>(jS z28 (⟨#[10]⟩)).bind fun z29=>some z29)) else (some ((⟨#[]⟩:ByteArray)))
def lC (p0s:ByteArray) (p1sep:Int) (s1:(List ByteArray)×Int×Int):Option (Out (List ByteArray) ((List ByteArray)×Int×Int)):=
 if decide (s1.2.2<((p0s.size:Nat):Int)) then (Option.bind (((gG p0s s1.2.2).bind fun z2=>if z2==p1sep then ((oe p0s s1.2.1 s1.2.2).bind fun z3=>(cN 16 s1.1 ([z3])).bind fun z4=>some (z4,IntKind.i64.wrap (s1.2.2+1))) else (some (s1.1,s1.2.1)):Option ((List ByteArray)×Int))) (fun s5=>some (.nxt (s5.1,s5.2,IntKind.i64.wrap (s1.2.2+1))))) else (some (.brk (s1.1,s1.2.1,s1.2.2)))
def fA (p0s:ByteArray) (p1sep:Int):Option (List ByteArray):=
 aC (ai (lC p0s p1sep) aN (([] :List ByteArray),0,0)) (fun r6=>some r6) (fun s7=>(oe p0s s7.2.1 ((p0s.size:Nat):Int)).bind fun z8=>(cN 16 s7.1 ([z8])).bind fun z9=>some z9)
def fB (p0s:ByteArray) (s1:Int×Int×Int):Option (Out (Int×Bool) (Int×Int×Int)):=
 if decide (s1.2.2<((p0s.size:Nat):Int)) then (if decide (s1.2.2<11) then (Option.bind (((gG p0s s1.2.2).bind fun z2=>if decide (z2≥48) then ((gG p0s s1.2.2).bind fun z3=>if decide (z3≤57) then ((gG p0s s1.2.2).bind fun z4=>some (IntKind.i64.wrap ((IntKind.i64.wrap (s1.1*10))+(IntKind.i64.wrap (IntKind.u8.wrap (z4 - 48)))),IntKind.i64.wrap (s1.2.1+1))) else (some (s1.1,s1.2.1))) else (some (s1.1,s1.2.1)):Option (Int×Int))) (fun s5=>some (.nxt (s5.1,s5.2,IntKind.i64.wrap (s1.2.2+1))))) else (some (.brk (s1.1,s1.2.1,s1.2.2)))) else (some (.brk (s1.1,s1.2.1,s1.2.2)))
def eB (p0s:ByteArray):Option (Int×Bool):=
 aC (ai (fB p0s) aN (0,0,0)) (fun r6=>some r6) (fun s7=>if decide (((p0s.size:Nat):Int)>0) then ((gG p0s 0).bind fun z8=>Option.bind ((if z8==45 then (some (IntKind.i64.wrap (-s7.1))) else (some s7.1):Option Int)) (fun s9=>if decide (s7.2.1>9) then (some (0,false)) else (if decide (((p0s.size:Nat):Int)>10) then (some (0,false)) else ((bt s9).bind fun r10=>if r10 !=p0s then (some (0,false)) else (some (s9,true)))))) else (if decide (s7.2.1>9) then (some (0,false)) else (if decide (((p0s.size:Nat):Int)>10) then (some (0,false)) else ((bt s7.1).bind fun r11=>if r11 !=p0s then (some (0,false)) else (some (s7.1,true))))))
def iw (p0s:ByteArray) (s3:Int):Option (Out (Int×Bool) Int):=
 if decide (s3<9) then ((df s3).bind fun r3=>if r3==p0s then (some (.ret (s3,true))) else (some (.nxt (IntKind.i64.wrap (s3+1))))) else (some (.brk s3))
def dY (p0s:ByteArray):Option (Int×Bool):=
 aC (ai (iw p0s) aN 0) (fun r=>some r) (fun s4=>some (0,false))
def eK (p0s:ByteArray):Option ((Int×Int×Int×Int)×Bool):=
 (fA p0s 58).bind fun r0=>if (r0.length:Int) !=2 then (some ((0,0,0,0),false)) else ((aF r0 1).bind fun x1=>if ((x1.size:Nat):Int) !=3 then (some ((0,0,0,0),false)) else ((aF r0 0).bind fun x2=>(eB x2).bind fun r3=>(aF r0 1).bind fun x4=>(oe x4 1 2).bind fun z5=>(dY z5).bind fun r6=>(aF r0 1).bind fun x11=>(gG x11 0).bind fun z12=>(aF r0 1).bind fun x13=>(gG x13 2).bind fun z14=>(gj (r3.1,IntKind.i64.wrap ((IntKind.i64.wrap z12) - 48),IntKind.i64.wrap ((IntKind.i64.wrap z14) - 48),K8 r6.1 2)).bind fun r15=>if r15 !=p0s then (some ((0,0,0,0),false)) else (some ((r3.1,IntKind.i64.wrap ((IntKind.i64.wrap z12) - 48),IntKind.i64.wrap ((IntKind.i64.wrap z14) - 48),K8 r6.1 2),true))))
def bL (r0:List ByteArray) (s3:Int×List (Bool×Int×Int×Int×Int)):Option (Out ((List (Bool×Int×Int×Int×Int))×Bool) (Int×List (Bool×Int×Int×Int×Int))):=
 if decide (s3.1<(r0.length:Int)) then (if decide (s3.1≤6) then ((aF r0 s3.1).bind fun x4=>if decide (((x4.size:Nat):Int)<2) then (some (.ret (([] :List (Bool×Int×Int×Int×Int)),false))) else ((aF r0 s3.1).bind fun x5=>(oe x5 1 ((x5.size:Nat):Int)).bind fun z6=>(eK z6).bind fun r7=>if r7.2 then ((aF r0 s3.1).bind fun x11=>(gG x11 0).bind fun z12=>(cN 40 s3.2 ([(z12==43,r7.1.1,r7.1.2.1,r7.1.2.2.1,r7.1.2.2.2)])).bind fun z13=>some (.nxt (IntKind.i64.wrap (s3.1+1),z13))) else (some (.ret (([] :List (Bool×Int×Int×Int×Int)),false))))) else (some (.brk (s3.1,s3.2)))) else (some (.brk (s3.1,s3.2)))
def cO (p0s:ByteArray):Option ((List (Bool×Int×Int×Int×Int))×Bool):=
 if p0s==((⟨#[]⟩:ByteArray)) then (some (([] :List (Bool×Int×Int×Int×Int)),true)) else ((fA p0s 32).bind fun r0=>aC (ai (bL r0) aN (0,([] :List (Bool×Int×Int×Int×Int)))) (fun r14=>some r14) (fun s15=>(bX s15.2).bind fun r16=>if r16 !=p0s then (some (([] :List (Bool×Int×Int×Int×Int)),false)) else (some (s15.2,true))))
def gp (p0s:ByteArray):Option (Int×((List (Bool×(Int×Int×Int×Int))))×Bool):=
 (fA p0s 59).bind fun r1=>if (r1.length:Int) !=3 then (some (0,[],false)) else ((aF r1 0).bind fun x1=>(eB x1).bind fun r2=>(aF r1 1).bind fun x2=>(cO x2).bind fun r3=>if r2.2 then (if r3.2 then ((dh r2.1 r3.1).bind fun r4=>if r4 !=p0s then (some (0,[],false)) else (some (r2.1,r3.1,true))) else (some (0,[],false))) else (some (0,[],false)))
def aP (p0:ByteArray) (s1:(List Int)×(List (List (Bool×Int×Int×Int×Int)))×Int×Int):Option (Out ((List Int)×(List (List (Bool×Int×Int×Int×Int)))×Int) ((List Int)×(List (List (Bool×Int×Int×Int×Int)))×Int×Int)):=
 if decide (s1.2.2.2<((p0.size:Nat):Int)) then (if decide (((p0.size:Nat):Int)≤4000) then (CX (S:=(List Int)×(List (List (Bool×Int×Int×Int×Int)))×Int) ((gG p0 s1.2.2.2).bind fun z2=>if z2 !=10 then (some (.inr (s1.1,s1.2.1,s1.2.2.1))) else ((oe p0 s1.2.2.1 (IntKind.i64.wrap (s1.2.2.2+1))).bind fun z3=>(gp z3).bind fun r4=>if r4.2.2 then (if decide ((s1.1.length:Int)>0) then ((aF s1.1 (IntKind.i64.wrap ((s1.1.length:Int) - 1))).bind fun x5=>if r4.1 !=(IntKind.i64.wrap (x5+1)) then (some (.inl (.ret (s1.1,s1.2.1,s1.2.2.1)))) else ((cN 8 s1.1 ([r4.1])).bind fun z6=>(cN 24 s1.2.1 ([r4.2.1])).bind fun z7=>some (.inr (z6,z7,IntKind.i64.wrap (s1.2.2.2+1))))) else ((cN 8 s1.1 ([r4.1])).bind fun z8=>(cN 24 s1.2.1 ([r4.2.1])).bind fun z9=>some (.inr (z8,z9,IntKind.i64.wrap (s1.2.2.2+1))))) else (some (.inl (.ret (s1.1,s1.2.1,s1.2.2.1)))))) (fun s10=>some (.nxt (s10.1,s10.2.1,s10.2.2,IntKind.i64.wrap (s1.2.2.2+1))))) else (some (.brk (s1.1,s1.2.1,s1.2.2.1,s1.2.2.2)))) else (some (.brk (s1.1,s1.2.1,s1.2.2.1,s1.2.2.2)))
def m_s_ScanLog (p0:ByteArray):Option ((List Int)×(List (List (Bool×Int×Int×Int×Int)))×Int):=
 aC (ai (aP p0) aN (([] :List Int),([] :List (List (Bool×Int×Int×Int×Int))),0,0)) (fun r11=>some r11) (fun s12=>some (s12.1,s12.2.1,s12.2.2.1))
def sO (p0e:(Int×(List ((List Int)×(List (Int×Int×Int×Int)))))×((List (Int×(List Bool)×(List (List Int))))×(List (Int×((List (Int×Int×Int×Int)))×Int)))×(List (Int×Int×Int))×ByteArray):Option Bool:=
 (m_s_ScanLog p0e.2.2.2).bind fun r1=>if r1.2.2==(p0e.2.2.2.size:Int) then (if decide ((p0e.2.2.2.size:Int)≤4000) then (if (r1.1.length:Int)==0 then (some true) else ((aF r1.1 (IntKind.i64.wrap ((r1.1.length:Int) - 1))).bind fun x1=>(bK (p0e.1.1,p0e.1.2)).bind fun r2=>some (x1==r2))) else (some false)) else (some false)
def fQ (p0e:(Int×(List ((List Int)×(List (Int×Int×Int×Int)))))×((List (Int×(List Bool)×(List (List Int))))×(List (Int×((List (Int×Int×Int×Int)))×Int)))×(List (Int×Int×Int))×ByteArray):Option Bool:=
 (m_s_IsValidHistory (p0e.1.1,p0e.1.2)).bind fun r1=>if r1 then ((eJ (p0e.2.1.1,p0e.2.1.2)).bind fun r2=>if r2 then ((qF ((p0e.1.1,p0e.1.2),(p0e.2.1.1,p0e.2.1.2),p0e.2.2.1,p0e.2.2.2)).bind fun r3=>if r3 then ((sO ((p0e.1.1,p0e.1.2),(p0e.2.1.1,p0e.2.1.2),p0e.2.2.1,p0e.2.2.2)).bind fun r4=>some r4) else (some false)) else (some false)) else (some false)
def kd (p0a:List Int) (s3:(List Int)×Int):Option (Out (List Int) ((List Int)×Int)):=
 if decide (s3.2<(p0a.length:Int)) then ((aF p0a s3.2).bind fun x6=>(aF s3.1 s3.2).bind fun x7=>some (.nxt (s3.1.set s3.2.toNat x6,IntKind.i64.wrap (s3.2+1)))) else (some (.brk (s3.1,s3.2)))
def mi (p0a:List Int):Option (List Int):=
 (mkI 8 (p0a.length:Int) (0:Int)).bind fun x1=>aC (ai (kd p0a) aN (x1,0)) (fun r=>some r) (fun s4=>some s4.1)
def pF (p0a:Int×Int×Int×Int):Option (Int×Int×Int×Int):=
 some (p0a.1,p0a.2.1,p0a.2.2.1,p0a.2.2.2)
def ju (p0a:List (Int×Int×Int×Int)) (s3:(List (Int×Int×Int×Int))×Int):Option (Out (List (Int×Int×Int×Int)) ((List (Int×Int×Int×Int))×Int)):=
 if decide (s3.2<(p0a.length:Int)) then ((aF p0a s3.2).bind fun x6=>(pF (x6.1,x6.2.1,x6.2.2.1,x6.2.2.2)).bind fun r3=>(aF s3.1 s3.2).bind fun x7=>some (.nxt (s3.1.set s3.2.toNat (r3.1,r3.2.1,r3.2.2.1,r3.2.2.2),IntKind.i64.wrap (s3.2+1)))) else (some (.brk (s3.1,s3.2)))
def nh (p0a:List (Int×Int×Int×Int)):Option (List (Int×Int×Int×Int)):=
 (mkI 32 (p0a.length:Int) ((0,0,0,0):Int×Int×Int×Int)).bind fun x1=>aC (ai (ju p0a) aN (x1,0)) (fun r=>some r) (fun s4=>some s4.1)
def ni (p0a:(List Int)×(List (Int×Int×Int×Int))):Option ((List Int)×(List (Int×Int×Int×Int))):=
 (mi p0a.1).bind fun r1=>(nh p0a.2).bind fun r2=>some (r1,r2)
def ix (p0a:List ((List Int)×(List (Int×Int×Int×Int)))) (s3:(List ((List Int)×(List (Int×Int×Int×Int))))×Int):Option (Out (List ((List Int)×(List (Int×Int×Int×Int)))) ((List ((List Int)×(List (Int×Int×Int×Int))))×Int)):=
 if decide (s3.2<(p0a.length:Int)) then ((aF p0a s3.2).bind fun x6=>(ni (x6.1,x6.2)).bind fun r9=>(aF s3.1 s3.2).bind fun x7=>some (.nxt (s3.1.set s3.2.toNat (r9.1,r9.2),IntKind.i64.wrap (s3.2+1)))) else (some (.brk (s3.1,s3.2)))
def lD (p0a:List ((List Int)×(List (Int×Int×Int×Int)))):Option (List ((List Int)×(List (Int×Int×Int×Int)))):=
 (mkI 48 (p0a.length:Int) (([],[]):(List Int)×(List (Int×Int×Int×Int)))).bind fun x1=>aC (ai (ix p0a) aN (x1,0)) (fun r=>some r) (fun s4=>some s4.1)
def ke (p0a:Int×(List ((List Int)×(List (Int×Int×Int×Int))))):Option (Int×(List ((List Int)×(List (Int×Int×Int×Int))))):=
 (lD p0a.2).bind fun r1=>some (p0a.1,r1)
def jv (p0a:List Bool) (s3:(List Bool)×Int):Option (Out (List Bool) ((List Bool)×Int)):=
 if decide (s3.2<(p0a.length:Int)) then ((aF p0a s3.2).bind fun x6=>(aF s3.1 s3.2).bind fun x7=>some (.nxt (s3.1.set s3.2.toNat x6,IntKind.i64.wrap (s3.2+1)))) else (some (.brk (s3.1,s3.2)))
def nj (p0a:List Bool):Option (List Bool):=
 (mkI 1 (p0a.length:Int) (false:Bool)).bind fun x1=>aC (ai (jv p0a) aN (x1,0)) (fun r=>some r) (fun s4=>some s4.1)
def jw (p0a:List (List Int)) (s3:(List (List Int))×Int):Option (Out (List (List Int)) ((List (List Int))×Int)):=
 if decide (s3.2<(p0a.length:Int)) then ((aF p0a s3.2).bind fun x6=>(mi x6).bind fun r6=>(aF s3.1 s3.2).bind fun x7=>some (.nxt (s3.1.set s3.2.toNat r6,IntKind.i64.wrap (s3.2+1)))) else (some (.brk (s3.1,s3.2)))
def nk (p0a:List (List Int)):Option (List (List Int)):=
 (mkI 24 (p0a.length:Int) ([] :List Int)).bind fun x1=>aC (ai (jw p0a) aN (x1,0)) (fun r=>some r) (fun s4=>some s4.1)
def iy (p0a:Int×(List Bool)×(List (List Int))):Option (Int×(List Bool)×(List (List Int))):=
 (nj p0a.2.1).bind fun r1=>(nk p0a.2.2).bind fun r2=>some (p0a.1,r1,r2)
def eL (p0a:List (Int×(List Bool)×(List (List Int)))) (s3:(List (Int×(List Bool)×(List (List Int))))×Int):Option (Out (List (Int×(List Bool)×(List (List Int)))) ((List (Int×(List Bool)×(List (List Int))))×Int)):=
 if decide (s3.2<(p0a.length:Int)) then ((aF p0a s3.2).bind fun x6=>(iy (x6.1,x6.2.1,x6.2.2)).bind fun r9=>(aF s3.1 s3.2).bind fun x7=>some (.nxt (s3.1.set s3.2.toNat (r9.1,r9.2.1,r9.2.2),IntKind.i64.wrap (s3.2+1)))) else (some (.brk (s3.1,s3.2)))
def gq (p0a:List (Int×(List Bool)×(List (List Int)))):Option (List (Int×(List Bool)×(List (List Int)))):=
 (mkI 56 (p0a.length:Int) ((0,[],[]):Int×(List Bool)×(List (List Int)))).bind fun x1=>aC (ai (eL p0a) aN (x1,0)) (fun r=>some r) (fun s4=>some s4.1)
def nl (p0a:Int×Int×Int×Int):Option (Int×Int×Int×Int):=
 some (p0a.1,p0a.2.1,p0a.2.2.1,p0a.2.2.2)
def iz (p0a:List (Int×Int×Int×Int)) (s3:(List (Int×Int×Int×Int))×Int):Option (Out (List (Int×Int×Int×Int)) ((List (Int×Int×Int×Int))×Int)):=
 if decide (s3.2<(p0a.length:Int)) then ((aF p0a s3.2).bind fun x6=>(nl (x6.1,x6.2.1,x6.2.2.1,x6.2.2.2)).bind fun r3=>(aF s3.1 s3.2).bind fun x7=>some (.nxt (s3.1.set s3.2.toNat (r3.1,r3.2.1,r3.2.2.1,r3.2.2.2),IntKind.i64.wrap (s3.2+1)))) else (some (.brk (s3.1,s3.2)))
def lE (p0a:List (Int×Int×Int×Int)):Option (List (Int×Int×Int×Int)):=
 (mkI 32 (p0a.length:Int) ((0,0,0,0):Int×Int×Int×Int)).bind fun x1=>aC (ai (iz p0a) aN (x1,0)) (fun r=>some r) (fun s4=>some s4.1)
def pG (p0a:(List (Int×Int×Int×Int))):Option (List (Int×Int×Int×Int)):=
 (lE p0a).bind fun r1=>some r1
def gr (p0a:Int×((List (Int×Int×Int×Int)))×Int):Option (Int×((List (Int×Int×Int×Int)))×Int):=
 (pG p0a.2.1).bind fun r1=>some (p0a.1,r1,p0a.2.2)
def dJ (p0a:List (Int×((List (Int×Int×Int×Int)))×Int)) (s3:(List (Int×((List (Int×Int×Int×Int)))×Int))×Int):Option (Out (List (Int×((List (Int×Int×Int×Int)))×Int)) ((List (Int×((List (Int×Int×Int×Int)))×Int))×Int)):=
 if decide (s3.2<(p0a.length:Int)) then ((aF p0a s3.2).bind fun x6=>(gr (x6.1,x6.2.1,x6.2.2)).bind fun r6=>(aF s3.1 s3.2).bind fun x7=>some (.nxt (s3.1.set s3.2.toNat (r6.1,r6.2.1,r6.2.2),IntKind.i64.wrap (s3.2+1)))) else (some (.brk (s3.1,s3.2)))
def fR (p0a:List (Int×((List (Int×Int×Int×Int)))×Int)):Option (List (Int×((List (Int×Int×Int×Int)))×Int)):=
 (mkI 40 (p0a.length:Int) ((0,[],0):Int×((List (Int×Int×Int×Int)))×Int)).bind fun x1=>aC (ai (dJ p0a) aN (x1,0)) (fun r=>some r) (fun s4=>some s4.1)
def jx (p0a:(List (Int×(List Bool)×(List (List Int))))×(List (Int×((List (Int×Int×Int×Int)))×Int))):Option ((List (Int×(List Bool)×(List (List Int))))×(List (Int×((List (Int×Int×Int×Int)))×Int))):=
 (gq p0a.1).bind fun r1=>(fR p0a.2).bind fun r2=>some (r1,r2)
def gu (p0a:Int×Int×Int):Option (Int×Int×Int):=
 some (p0a.1,p0a.2.1,p0a.2.2)
def dK (p0a:List (Int×Int×Int)) (s3:(List (Int×Int×Int))×Int):Option (Out (List (Int×Int×Int)) ((List (Int×Int×Int))×Int)):=
 if decide (s3.2<(p0a.length:Int)) then ((aF p0a s3.2).bind fun x6=>(gu (x6.1,x6.2.1,x6.2.2)).bind fun r3=>(aF s3.1 s3.2).bind fun x7=>some (.nxt (s3.1.set s3.2.toNat (r3.1,r3.2.1,r3.2.2),IntKind.i64.wrap (s3.2+1)))) else (some (.brk (s3.1,s3.2)))
def fS (p0a:List (Int×Int×Int)):Option (List (Int×Int×Int)):=
 (mkI 24 (p0a.length:Int) ((0,0,0):Int×Int×Int)).bind fun x1=>aC (ai (dK p0a) aN (x1,0)) (fun r=>some r) (fun s4=>some s4.1)
def gL (p0a:(Int×(List ((List Int)×(List (Int×Int×Int×Int)))))×((List (Int×(List Bool)×(List (List Int))))×(List (Int×((List (Int×Int×Int×Int)))×Int)))×(List (Int×Int×Int))×ByteArray):Option ((Int×(List ((List Int)×(List (Int×Int×Int×Int)))))×((List (Int×(List Bool)×(List (List Int))))×(List (Int×((List (Int×Int×Int×Int)))×Int)))×(List (Int×Int×Int))×ByteArray):=
 (ke (p0a.1.1,p0a.1.2)).bind fun r1=>(jx (p0a.2.1.1,p0a.2.1.2)).bind fun r2=>(fS p0a.2.2.1).bind fun r3=>some ((r1.1,r1.2),(r2.1,r2.2),r3,p0a.2.2.2)
def bu (p0n:Int) (p1a:Int) (p2b:Int):Option Bool:=
 if decide (p0n≥p1a) then (some (decide (p0n≤p2b))) else (some false)
def gM (p0e:Int×Int×Int×Int) (p1nodes:Int):Option Bool:=
 (bu p0e.1 1 99).bind fun r1=>if r1 then ((bu p0e.2.1 0 (IntKind.i64.wrap (p1nodes - 1))).bind fun r2=>if r2 then ((bu p0e.2.2.1 0 (IntKind.i64.wrap (p1nodes - 1))).bind fun r3=>if r3 then ((bu p0e.2.2.2 0 2).bind fun r4=>some r4) else (some false)) else (some false)) else (some false)
def cU (p0g:(List Int)×(List (Int×Int×Int×Int))) (s3:Int):Option (Out Bool Int):=
 if decide (s3<(p0g.1.length:Int)) then ((aF p0g.1 s3).bind fun x3=>(bu x3 0 2).bind fun r3=>if r3 then (some (.nxt (IntKind.i64.wrap (s3+1)))) else (some (.ret false))) else (some (.brk s3))
def cj (p0g:(List Int)×(List (Int×Int×Int×Int))) (s7:Int):Option (Out Bool Int):=
 if decide (s7<(p0g.2.length:Int)) then ((aF p0g.2 s7).bind fun x8=>(gM (x8.1,x8.2.1,x8.2.2.1,x8.2.2.2) (p0g.1.length:Int)).bind fun r6=>if r6 then (if decide (s7>0) then ((aF p0g.2 (IntKind.i64.wrap (s7 - 1))).bind fun x9=>if decide (x9.1≥x8.1) then (some (.ret false)) else (some (.nxt (IntKind.i64.wrap (s7+1))))) else (some (.nxt (IntKind.i64.wrap (s7+1))))) else (some (.ret false))) else (some (.brk s7))
def bH (p0g:(List Int)×(List (Int×Int×Int×Int))):Option Bool:=
 aC (ai (cU p0g) aN 0) (fun r=>some r) (fun s4=>aC (ai (cj p0g) aN 0) (fun r=>some r) (fun s8=>(bu (p0g.1.length:Int) 1 5).bind fun r7=>if r7 then (some (decide ((p0g.2.length:Int)≤12))) else (some false)))
def bI (p0s1:List Int) (p1s2:List Int) (s3:Int):Option (Out Bool Int):=
 if decide (s3<(p0s1.length:Int)) then ((aF p0s1 s3).bind fun x5=>(aF p1s2 s3).bind fun x6=>if x5 !=x6 then (some (.ret false)) else (some (.nxt (IntKind.i64.wrap (s3+1))))) else (some (.brk s3))
def bz (p0s1:List Int) (p1s2:List Int):Option Bool:=
 if (p0s1.length:Int) !=(p1s2.length:Int) then (some false) else (aC (ai (bI p0s1 p1s2) aN 0) (fun r=>some r) (fun s4=>some true))
def dn (p0h:Int×(List ((List Int)×(List (Int×Int×Int×Int))))) (s3:Int):Option (Out Bool Int):=
 if decide (s3<(p0h.2.length:Int)) then ((aF p0h.2 s3).bind fun x5=>(bH (x5.1,x5.2)).bind fun r15=>if r15 then ((aF p0h.2 0).bind fun x6=>(bz x5.1 x6.1).bind fun r17=>if r17 then (some (.nxt (IntKind.i64.wrap (s3+1)))) else (some (.ret false))) else (some (.ret false))) else (some (.brk s3))
def m_i_IsValidHistory (p0h:Int×(List ((List Int)×(List (Int×Int×Int×Int))))):Option Bool:=
 (bu (p0h.2.length:Int) 1 8).bind fun r1=>if r1 then ((bu p0h.1 1 (IntKind.i64.wrap ((IntKind.i64.wrap (999 - (p0h.2.length:Int)))+1))).bind fun r2=>if r2 then (aC (ai (dn p0h) aN 0) (fun r=>some r) (fun s4=>some true)) else (some false)) else (some false)
def gN (p0n:Int):Option Bool:=
 (bu p0n 0 8).bind fun r1=>some r1
def np (p0t:Int×Int×Int×Int):Option Bool:=
 if p0t.1==3 then ((gN p0t.2.1).bind fun r3=>if r3 then (if p0t.2.2.1==0 then (some (p0t.2.2.2==0)) else (some false)) else (some false)) else (if p0t.1==7 then (if p0t.2.1==0 then ((bu p0t.2.2.1 0 p0t.2.2.2).bind fun r1=>if r1 then ((bu p0t.2.2.2 1 3).bind fun r2=>some r2) else (some false)) else (some false)) else (Option.bind ((if p0t.1==1 then (some (p0t.1==1)) else (if p0t.1==2 then (some (p0t.1==2)) else (if p0t.1==4 then (some (p0t.1==4)) else (if p0t.1==5 then (some (p0t.1==5)) else (some (p0t.1==6))))):Option Bool)) (fun s1=>if s1 then (some ((p0t.1==p0t.1)&&((p0t.2.1==0)&&((p0t.2.2.1==0)&&((p0t.2.2.2==0)&&true))))) else (some false))))
def nr (p0e:List (Int×Int×Int×Int)) (s1:(List (Tr (Int×Int×Int×Int)))×Int):Option (Out (Tr (Int×Int×Int×Int)) ((List (Tr (Int×Int×Int×Int)))×Int)):=
 if decide (s1.2<(p0e.length:Int)) then ((aF p0e s1.2).bind fun x2=>Option.bind ((Option.bind ((if x2.1==4 then (some (x2.1==4)) else (some (x2.1==5)):Option Bool)) (fun s3=>if s3 then (some 2) else (Option.bind ((if x2.1==6 then (some (x2.1==6)) else (some (x2.1==7)):Option Bool)) (fun s4=>if s4 then (some 1) else (some 0)))):Option Int)) (fun s5=>(np (x2.1,x2.2.1,x2.2.2.1,x2.2.2.2)).bind fun r6=>if r6 then (if decide ((IntKind.i64.wrap ((s1.1.length:Int) - s5))<0) then (some (.ret Tr.nil)) else ((chk (And (0≤(IntKind.i64.wrap ((s1.1.length:Int) - s5))) ((IntKind.i64.wrap ((s1.1.length:Int) - s5))≤(s1.1.length:Int)))).bind fun _=>(cN 8 ([] :List (Tr (Int×Int×Int×Int))) (s1.1.drop ((IntKind.i64.wrap ((s1.1.length:Int) - s5)).toNat))).bind fun z10=>(chk (And (0≤(IntKind.i64.wrap ((s1.1.length:Int) - s5))) ((IntKind.i64.wrap ((s1.1.length:Int) - s5))≤(s1.1.length:Int)))).bind fun _=>(cN 8 (s1.1.take ((IntKind.i64.wrap ((s1.1.length:Int) - s5)).toNat)) ([Tr.node (x2.1,x2.2.1,x2.2.2.1,x2.2.2.2) z10])).bind fun z12=>some (.nxt (z12,IntKind.i64.wrap (s1.2+1))))) else (some (.ret Tr.nil)))) else (some (.brk (s1.1,s1.2)))
def kt (p0e:List (Int×Int×Int×Int)):Option (Tr (Int×Int×Int×Int)):=
 aC (ai (nr p0e) aN (([] :List (Tr (Int×Int×Int×Int))),0)) (fun r13=>some r13) (fun s14=>if (s14.1.length:Int) !=1 then (some Tr.nil) else ((aF s14.1 0).bind fun x15=>some x15))
def pH (p0e:List (Int×Int×Int×Int)):Option Bool:=
 (kt p0e).bind fun r0=>some (cond.match_1 (fun (u4:Bool)=>Bool) (Tr.isNil r0) (fun (u5:Unit)=>false) (fun (u6:Unit)=>true))
def iA (p0e:(List (Int×Int×Int×Int))):Option Bool:=
 if decide ((p0e.length:Int)≤24) then ((pH p0e).bind fun r1=>some r1) else (some false)
def aW (mrec:(Tr (Int×Int×Int×Int))→Option Int) (p0x:Tr (Int×Int×Int×Int)) (z1:(Int×Int×Int×Int)×List (Tr (Int×Int×Int×Int))) (s3:Int×Int):Option (Out Int (Int×Int)):=
 if decide (s3.2<(z1.2.length:Int)) then (Option.bind (((aF z1.2 s3.2).bind fun x4=>(Tr.get p0x).bind fun z5=>(Tr.get p0x).bind fun z6=>if z6.1.1==7 then ((mrec x4).bind fun r10=>(Tr.get p0x).bind fun z11=>(Tr.get p0x).bind fun z12=>some (IntKind.i64.wrap (s3.1+(IntKind.i64.wrap ((IntKind.i64.wrap (r10+3))*z12.1.2.2.2))))) else ((mrec x4).bind fun r13=>some (IntKind.i64.wrap (s3.1+r13))):Option Int)) (fun s14=>some (.nxt (s14,IntKind.i64.wrap (s3.2+1))))) else (some (.brk (s3.1,s3.2)))
def bf:Nat→(Tr (Int×Int×Int×Int))→Option Int
 | 0,_=>none
 | n+1,p0x =>
  (Tr.get p0x).bind fun z0=>(Tr.get p0x).bind fun z1=>aC (ai (aW (bf n) p0x z1) aN (1,0)) (fun r15=>some r15) (fun s16=>some (Min.min s16.1 100000))
def Al (p0kind:Int):Option (Tr (Int×Int×Int×Int)):=
 some (Tr.node (p0kind,0,0,0) ([] :List (Tr (Int×Int×Int×Int))))
def gO:Nat→(Tr (Int×Int×Int×Int))→Int→Int→Option (Tr (Int×Int×Int×Int))
 | 0,_,_,_=>none
 | n+1,p0x,p1low,p2high =>
  if p2high==0 then ((Al 2).bind fun r0=>some r0) else (((gO n) p0x (Max.max 0 (IntKind.i64.wrap (p1low - 1))) (IntKind.i64.wrap (p2high - 1))).bind fun r1=>if decide (p1low>0) then (some (Tr.node (4,0,0,0) ([p0x,r1]))) else ((Al 2).bind fun r2=>some (Tr.node (5,0,0,0) ([Tr.node (4,0,0,0) ([p0x,r1]),r2]))))
def aO (mrec:(Tr (Int×Int×Int×Int))→Option (Tr (Int×Int×Int×Int))) (z23:(Int×Int×Int×Int)×List (Tr (Int×Int×Int×Int))) (s26:Int×Int×Int×Int×Int×List (Tr (Int×Int×Int×Int))):Option (Out (Tr (Int×Int×Int×Int)) (Int×Int×Int×Int×Int×List (Tr (Int×Int×Int×Int)))):=
 if decide (s26.1<(z23.2.length:Int)) then ((aF z23.2 s26.1).bind fun x27=>(mrec x27).bind fun r30=>(cN 8 s26.2.2.2.2.2 ([r30])).bind fun z31=>some (.nxt (IntKind.i64.wrap (s26.1+1),s26.2.1,s26.2.2.1,s26.2.2.2.1,s26.2.2.2.2.1,z31))) else (some (.brk (s26.1,s26.2.1,s26.2.2.1,s26.2.2.2.1,s26.2.2.2.2.1,s26.2.2.2.2.2)))
def aS:Nat→(Tr (Int×Int×Int×Int))→Option (Tr (Int×Int×Int×Int))
 | 0,_=>none
 | n+1,p0x =>
  (Tr.get p0x).bind fun z0=>(Tr.get p0x).bind fun z1=>if z1.1.1==7 then ((Tr.get p0x).bind fun z11=>(Tr.get p0x).bind fun z12=>(aF z12.2 0).bind fun x13=>((aS n) x13).bind fun r14=>(Tr.get p0x).bind fun z15=>(Tr.get p0x).bind fun z16=>(Tr.get p0x).bind fun z17=>(Tr.get p0x).bind fun z18=>(gO eU r14 z16.1.2.2.1 z18.1.2.2.2).bind fun r19=>some r19) else ((Tr.get p0x).bind fun z20=>(Tr.get p0x).bind fun z21=>(Tr.get p0x).bind fun z22=>(Tr.get p0x).bind fun z23=>aC (ai (aO (aS n) z23) aN (0,z21.1.1,z21.1.2.1,z21.1.2.2.1,z21.1.2.2.2,([] :List (Tr (Int×Int×Int×Int))))) (fun r32=>some r32) (fun s33=>some (Tr.node (s33.2.1,s33.2.2.1,s33.2.2.2.1,s33.2.2.2.2.1) s33.2.2.2.2.2)))
def aK (mrec:(Tr (Int×Int×Int×Int))→(List (Int×Int×Int×Int))→Option (List (Int×Int×Int×Int))) (z1:(Int×Int×Int×Int)×List (Tr (Int×Int×Int×Int))) (s4:Int×List (Int×Int×Int×Int)):Option (Out (List (Int×Int×Int×Int)) (Int×List (Int×Int×Int×Int))):=
 if decide (s4.1<(z1.2.length:Int)) then ((aF z1.2 s4.1).bind fun x5=>(mrec x5 s4.2).bind fun r6=>some (.nxt (IntKind.i64.wrap (s4.1+1),r6))) else (some (.brk (s4.1,s4.2)))
def aQ:Nat→(Tr (Int×Int×Int×Int))→(List (Int×Int×Int×Int))→Option (List (Int×Int×Int×Int))
 | 0,_,_=>none
 | n+1,p0x,p1out =>
  (Tr.get p0x).bind fun z0=>(Tr.get p0x).bind fun z1=>aC (ai (aK (aQ n) z1) aN (0,p1out)) (fun r7=>some r7) (fun s8=>(Tr.get p0x).bind fun z12=>(Tr.get p0x).bind fun z13=>(cN 32 s8.2 ([(z13.1.1,z13.1.2.1,z13.1.2.2.1,z13.1.2.2.2)])).bind fun z14=>some z14)
def nt (p0x:Tr (Int×Int×Int×Int)):Option (List (Int×Int×Int×Int)):=
 (aQ eU p0x ([] :List (Int×Int×Int×Int))).bind fun r0=>some r0
def jy (p0e:List (Int×Int×Int×Int)):Option ((List (Int×Int×Int×Int))×Bool):=
 (iA p0e).bind fun r0=>if r0 then ((kt p0e).bind fun r1=>(bf eU r1).bind fun r2=>if decide (r2>5000) then (some (([] :List (Int×Int×Int×Int)),false)) else ((aS eU r1).bind fun r3=>(nt r3).bind fun r4=>if decide ((r4.length:Int)>400) then (some (([] :List (Int×Int×Int×Int)),false)) else (some (r4,true)))) else (some (([] :List (Int×Int×Int×Int)),false))
def bY (p0p:(List Int)×Int×Int×(List Int)×Bool) (p1last:Int) (p2first:Int) (s2:Int×List Int):Option (Out ((List Int)×Int×Int×(List Int)×Bool) (Int×List Int)):=
 if decide (s2.1<(p0p.2.2.2.1.length:Int)) then (Option.bind (((chk (0≤s2.1)).bind fun _=>if (vx (pX p1last s2.1) 1)==1 then ((aF s2.2 s2.1).bind fun x4=>(aF s2.2 s2.1).bind fun x5=>some (s2.2.set s2.1.toNat (orI x4 p2first))) else (some s2.2):Option (List Int))) (fun s6=>some (.nxt (IntKind.i64.wrap (s2.1+1),s6)))) else (some (.brk (s2.1,s2.2)))
def cJ (p0p:(List Int)×Int×Int×(List Int)×Bool) (p1last:Int) (p2first:Int):Option ((List Int)×Int×Int×(List Int)×Bool):=
 aC (ai (bY p0p p1last p2first) aN (0,p0p.2.2.2.1)) (fun r7=>some r7) (fun s8=>some (p0p.1,p0p.2.1,p0p.2.2.1,s8.2,p0p.2.2.2.2))
def aT:Nat→((List Int)×Int×Int×(List Int)×Bool)→(Tr (Int×Int×Int×Int))→Option ((Int×Int×Bool)×(List Int)×Int×Int×(List Int)×Bool)
 | 0,_,_=>none
 | n+1,p0,p1 =>
  (Tr.get p1).bind fun z0=>(Tr.get p1).bind fun z1=>if z1.1.1==2 then (some ((0,0,true),p0.1,p0.2.1,p0.2.2.1,p0.2.2.2.1,p0.2.2.2.2)) else (if z1.1.1==3 then ((Tr.get p1).bind fun z5=>(Tr.get p1).bind fun z6=>(cN 8 p0.1 ([z6.1.2.1])).bind fun z7=>(cN 8 p0.2.2.2.1 ([0])).bind fun z8=>some ((Ev 1 (p0.1.length:Int),Ev 1 (p0.1.length:Int),false),z7,p0.2.1,p0.2.2.1,z8,p0.2.2.2.2)) else (if z1.1.1==5 then ((Tr.get p1).bind fun z17=>(Tr.get p1).bind fun z18=>(aF z18.2 0).bind fun x19=>((aT n) (p0.1,p0.2.1,p0.2.2.1,p0.2.2.2.1,p0.2.2.2.2) x19).bind fun r20=>(Tr.get p1).bind fun z21=>(Tr.get p1).bind fun z22=>(aF z22.2 1).bind fun x23=>((aT n) r20.2 x23).bind fun r24=>if r20.1.2.2 then (some ((orI r20.1.1 r24.1.1,orI r20.1.2.1 r24.1.2.1,true),r24.2.1,r24.2.2.1,r24.2.2.2.1,r24.2.2.2.2.1,r24.2.2.2.2.2)) else (some ((orI r20.1.1 r24.1.1,orI r20.1.2.1 r24.1.2.1,r24.1.2.2),r24.2.1,r24.2.2.1,r24.2.2.2.1,r24.2.2.2.2.1,r24.2.2.2.2.2))) else (if z1.1.1==4 then ((Tr.get p1).bind fun z33=>(Tr.get p1).bind fun z34=>(aF z34.2 0).bind fun x35=>((aT n) (p0.1,p0.2.1,p0.2.2.1,p0.2.2.2.1,p0.2.2.2.2) x35).bind fun r36=>(Tr.get p1).bind fun z37=>(Tr.get p1).bind fun z38=>(aF z38.2 1).bind fun x39=>((aT n) r36.2 x39).bind fun r40=>(cJ (r40.2.1,r40.2.2.1,r40.2.2.2.1,r40.2.2.2.2.1,r40.2.2.2.2.2) r36.1.2.1 r40.1.1).bind fun r41=>if r36.1.2.2 then (Option.bind ((if r36.1.2.2 then (some (orI r36.1.1 r40.1.1,r40.1.2.1,r40.1.2.2)) else (some (r36.1.1,r40.1.2.1,r40.1.2.2)):Option (Int×Int×Bool))) (fun s42=>Option.bind ((if r40.1.2.2 then (some (s42.1,orI s42.2.1 r36.1.2.1,s42.2.2)) else (some (s42.1,s42.2.1,s42.2.2)):Option (Int×Int×Bool))) (fun s43=>some ((s43.1,s43.2.1,s43.2.2),r41.1,r41.2.1,r41.2.2.1,r41.2.2.2.1,r41.2.2.2.2)))) else (Option.bind ((if r36.1.2.2 then (some (orI r36.1.1 r40.1.1,r40.1.2.1,false)) else (some (r36.1.1,r40.1.2.1,false)):Option (Int×Int×Bool))) (fun s44=>Option.bind ((if r40.1.2.2 then (some (s44.1,orI s44.2.1 r36.1.2.1,s44.2.2)) else (some (s44.1,s44.2.1,s44.2.2)):Option (Int×Int×Bool))) (fun s45=>some ((s45.1,s45.2.1,s45.2.2),r41.1,r41.2.1,r41.2.2.1,r41.2.2.2.1,r41.2.2.2.2))))) else (if z1.1.1==6 then ((Tr.get p1).bind fun z46=>(Tr.get p1).bind fun z47=>(aF z47.2 0).bind fun x48=>((aT n) (p0.1,p0.2.1,p0.2.2.1,p0.2.2.2.1,p0.2.2.2.2) x48).bind fun r49=>(cJ (r49.2.1,r49.2.2.1,r49.2.2.2.1,r49.2.2.2.2.1,r49.2.2.2.2.2) r49.1.2.1 r49.1.1).bind fun r50=>some ((r49.1.1,r49.1.2.1,true),r50.1,r50.2.1,r50.2.2.1,r50.2.2.2.1,r50.2.2.2.2)) else (some ((0,0,false),p0.1,p0.2.1,p0.2.2.1,p0.2.2.2.1,p0.2.2.2.2))))))
def cx (r0:(List (Int×Int×Int×Int))×Bool) (s2:Int×Int):Option (Out (((List Int)×Int×Int×(List Int)×Bool)×Bool) (Int×Int)):=
 if decide (s2.2<(r0.1.length:Int)) then (Option.bind (((aF r0.1 s2.2).bind fun x3=>if x3.1==3 then (some (IntKind.i64.wrap (s2.1+1))) else (some s2.1):Option Int)) (fun s4=>some (.nxt (s4,IntKind.i64.wrap (s2.2+1))))) else (some (.brk (s2.1,s2.2)))
def ff (p0e:List (Int×Int×Int×Int)):Option (((List Int)×Int×Int×(List Int)×Bool)×Bool):=
 (jy p0e).bind fun r0=>if r0.2 then (aC (ai (cx r0) aN (0,0)) (fun r5=>some r5) (fun s6=>if decide (s6.1>20) then (some ((([] :List Int),0,0,([] :List Int),false),false)) else ((kt r0.1).bind fun r7=>(aT eU (([] :List Int),0,0,([] :List Int),false) r7).bind fun r8=>some ((r8.2.1,r8.1.1,r8.1.2.1,r8.2.2.2.2.1,r8.1.2.2),true)))) else (some ((([] :List Int),0,0,([] :List Int),false),false))
def cV (p3:Int→Int→Option (Int×Bool)) (s29:(List Int)×(List (Int×Int))×Int×Int×(List Bool)×(List (List Int))) (s39:(List Int)×(List (Int×Int))×(List Int)×Int):Option (Out ((Int×(List Bool)×(List (List Int)))×Bool) ((List Int)×(List (Int×Int))×(List Int)×Int)):=
 if decide (s39.2.2.2<9) then (Option.bind (((aF s39.1 s29.2.2.1).bind fun x20=>(p3 x20 s39.2.2.2).bind fun r20=>if r20.2 then ((chk (iOk r20.1=true)).bind fun _=>Option.bind ((if (lkM s39.2.1 r20.1).isSome then (some (s39.1,s39.2.1,(lkM s39.2.1 r20.1).getD 0)) else ((HM s39.2.1 iOk iOk r20.1 (s39.1.length:Int)).bind fun m37=>(cN 8 s39.1 ([r20.1])).bind fun z75=>some (z75,m37,(s39.1.length:Int))):Option ((List Int)×(List (Int×Int))×Int))) (fun s43=>(cN 8 s39.2.2.1 ([s43.2.2])).bind fun z76=>some (s43.1,s43.2.1,z76))) else ((cN 8 s39.2.2.1 ([-1])).bind fun z73=>some (s39.1,s39.2.1,z73)):Option ((List Int)×(List (Int×Int))×(List Int)))) (fun s42=>some (.nxt (s42.1,s42.2.1,s42.2.2,IntKind.i64.wrap (s39.2.2.2+1))))) else (some (.brk (s39.1,s39.2.1,s39.2.2.1,s39.2.2.2)))
def br (p1:Int) (p2:Int→Option Bool) (p3:Int→Int→Option (Int×Bool)) (s29:(List Int)×(List (Int×Int))×Int×Int×(List Bool)×(List (List Int))):Option (Out ((Int×(List Bool)×(List (List Int)))×Bool) ((List Int)×(List (Int×Int))×Int×Int×(List Bool)×(List (List Int)))):=
 if decide (s29.2.2.1<(s29.1.length:Int)) then (aC (ai (cV p3 s29) aN (s29.1,s29.2.1,([] :List Int),0)) (fun r=>some (.ret r)) (fun s40=>if decide ((s40.1.length:Int)>p1) then (some (.ret ((0,[],[]),false))) else ((aF s40.1 s29.2.2.1).bind fun x21=>(p2 x21).bind fun r21=>(cN 1 s29.2.2.2.2.1 ([r21])).bind fun z77=>(cN 24 s29.2.2.2.2.2 ([s40.2.2.1])).bind fun z78=>some (.nxt (s40.1,s40.2.1,IntKind.i64.wrap (s29.2.2.1+1),s29.2.2.2.1,z77,z78))))) else (some (.brk (s29.1,s29.2.1,s29.2.2.1,s29.2.2.2.1,s29.2.2.2.2.1,s29.2.2.2.2.2)))
def di (p0:Int) (p1:Int) (p2:Int→Option Bool) (p3:Int→Int→Option (Int×Bool)):Option ((Int×(List Bool)×(List (List Int)))×Bool):=
 (HM ([] :List (Int×Int)) iOk iOk p0 0).bind fun m1=>aC (ai (br p1 p2 p3) aN ([p0],m1,0,0,[],[])) (fun r=>some r) (fun s30=>some ((s30.2.2.2.1,s30.2.2.2.2.1,s30.2.2.2.2.2),true))
def cy (p0p:(List Int)×Int×Int×(List Int)×Bool) (p1set:Int):Option Bool:=
 if (vx p1set 1)==1 then (if p0p.2.2.2.2 then (some true) else (some ((vx (pX p1set 1) p0p.2.2.1) !=0))) else (some ((vx (pX p1set 1) p0p.2.2.1) !=0))
def cd (p0p:(List Int)×Int×Int×(List Int)×Bool) (p1set:Int) (s6:Int×Int):Option (Out Int (Int×Int)):=
 if decide (s6.2<(p0p.2.2.2.1.length:Int)) then (Option.bind (((aF p0p.2.2.2.1 s6.2).bind fun x6=>(chk (0≤IntKind.i64.wrap (s6.2+1))).bind fun _=>if (vx (pX p1set (IntKind.i64.wrap (s6.2+1))) 1)==1 then (some (orI s6.1 x6)) else (some s6.1):Option Int)) (fun s8=>some (.nxt (s8,IntKind.i64.wrap (s6.2+1))))) else (some (.brk (s6.1,s6.2)))
def cf (p0p:(List Int)×Int×Int×(List Int)×Bool) (p2letter:Int) (s7:Int×Int) (s13:Int×Int):Option (Out Int (Int×Int)):=
 if decide (s13.2<(p0p.1.length:Int)) then (Option.bind (((aF p0p.1 s13.2).bind fun x12=>if x12==p2letter then ((chk (0≤s13.2)).bind fun _=>if (vx (pX s7.1 s13.2) 1)==1 then ((chk (0≤IntKind.i64.wrap (s13.2+1))).bind fun _=>some (orI s13.1 (Ev 1 (IntKind.i64.wrap (s13.2+1))))) else (some s13.1)) else (some s13.1):Option Int)) (fun s15=>some (.nxt (s15,IntKind.i64.wrap (s13.2+1))))) else (some (.brk (s13.1,s13.2)))
def eM (p0p:(List Int)×Int×Int×(List Int)×Bool) (p1set:Int) (p2letter:Int):Option Int:=
 Option.bind ((if (vx p1set 1)==1 then (some p0p.2.1) else (some 0):Option Int)) (fun s1=>aC (ai (cd p0p p1set) aN (s1,0)) (fun r=>some r) (fun s7=>aC (ai (cf p0p p2letter s7) aN (0,0)) (fun r=>some r) (fun s14=>some s14.1)))
def cm (p0set:Int) (p1letter:Int) (q0:(List Int)×Int×Int×(List Int)×Bool):Option (Int×Bool):=
 (eM (q0.1,q0.2.1,q0.2.2.1,q0.2.2.2.1,q0.2.2.2.2) p0set p1letter).bind fun r1=>some (r1,r1 !=0)
def fC (p0p:(List Int)×Int×Int×(List Int)×Bool) (p1most:Int):Option ((Int×(List Bool)×(List (List Int)))×Bool):=
 (di 1 p1most (fun a0=>cy (p0p.1,p0p.2.1,p0p.2.2.1,p0p.2.2.2.1,p0p.2.2.2.2) a0) (fun a0 a1=>cm a0 a1 (p0p.1,p0p.2.1,p0p.2.2.1,p0p.2.2.2.1,p0p.2.2.2.2))).bind fun r1=>some ((r1.1.1,r1.1.2.1,r1.1.2.2),r1.2)
def cz (s5:Bool×Int×List Bool) (x6:List Int) (s8:Bool×Int×List Bool):Option (Out (List Bool) (Bool×Int×List Bool)):=
 if decide (s8.2.1<(x6.length:Int)) then (Option.bind (((aF x6 s8.2.1).bind fun x9=>if decide (x9≥0) then ((aF s8.2.2 x9).bind fun x10=>if x10 then ((aF s8.2.2 s5.2.1).bind fun x11=>if x11 then (some (s8.1,s8.2.2)) else ((aF s8.2.2 s5.2.1).bind fun x12=>some (true,s8.2.2.set s5.2.1.toNat true))) else (some (s8.1,s8.2.2))) else (some (s8.1,s8.2.2)):Option (Bool×List Bool))) (fun s13=>some (.nxt (s13.1,IntKind.i64.wrap (s8.2.1+1),s13.2)))) else (some (.brk (s8.1,s8.2.1,s8.2.2)))
def cA (p0a:Int×(List Bool)×List (List Int)) (s5:Bool×Int×List Bool):Option (Out (List Bool) (Bool×Int×List Bool)):=
 if decide (s5.2.1<(p0a.2.2.length:Int)) then ((aF p0a.2.2 s5.2.1).bind fun x6=>aC (ai (cz s5 x6) aN (s5.1,0,s5.2.2)) (fun r14=>some (.ret r14)) (fun s15=>some (.nxt (s15.1,IntKind.i64.wrap (s5.2.1+1),s15.2.2)))) else (some (.brk (s5.1,s5.2.1,s5.2.2)))
def fD (p0a:Int×(List Bool)×List (List Int)) (s3:Bool×List Bool):Option (Out (List Bool) (Bool×List Bool)):=
 if s3.1 then (aC (ai (cA p0a) aN (false,0,s3.2)) (fun r16=>some (.ret r16)) (fun s17=>some (.nxt (s17.1,s17.2.2)))) else (some (.brk (s3.1,s3.2)))
def dq (p0a:Int×(List Bool)×List (List Int)):Option (List Bool):=
 (cN 1 ([] :List Bool) p0a.2.1).bind fun z0=>aC (ai (fD p0a) aN (true,z0)) (fun r18=>some r18) (fun s19=>some s19.2)
def bA (p0s:List (List Int)) (p1f:(List Int)→Option Bool) (s3:Int):Option (Out Int Int):=
 if decide (s3<(p0s.length:Int)) then ((aF p0s s3).bind fun x3=>(p1f x3).bind fun r6=>if r6 then (some (.ret s3)) else (some (.nxt (IntKind.i64.wrap (s3+1))))) else (some (.brk s3))
def bj (p0s:List (List Int)) (p1f:(List Int)→Option Bool):Option Int:=
 aC (ai (bA p0s p1f) aN 0) (fun r=>some r) (fun s4=>some (-1))
def fb (p0x:List Int) (q0:List Int):Option Bool:=
 (bz p0x q0).bind fun r1=>some r1
def bZ (p1:List Int) (x57:List Int) (s52:Int×(List Int)):Option (Out ((List Int)×Int) (Int×(List Int))):=
 if decide (s52.1<(x57.length:Int)) then ((aF x57 s52.1).bind fun x64=>Option.bind ((if decide (x64≥0) then ((aF p1 x64).bind fun x66=>some x66) else (some x64):Option Int)) (fun s54=>(cN 8 s52.2 ([s54])).bind fun z38=>some (.nxt (IntKind.i64.wrap (s52.1+1),z38)))) else (some (.brk (s52.1,s52.2)))
def cL (p0:Int×(List Bool)×(List (List Int))) (p1:List Int) (s37:(List (List Int))×(List Int)×Int):Option (Out ((List Int)×Int) ((List (List Int))×(List Int)×Int)):=
 if decide (s37.2.2<(p1.length:Int)) then (Option.bind (((aF p1 s37.2.2).bind fun x56=>if decide (x56<0) then ((cN 8 s37.2.1 ([-1])).bind fun z42=>some (s37.1,z42)) else ((aF p0.2.2 s37.2.2).bind fun x57=>aC (ai (bZ p1 x57) aN (0,[x56])) (fun _=>none) (fun s53=>(bj s37.1 (fun a0=>fb a0 s53.2)).bind fun r12=>Option.bind ((if decide (r12<0) then ((cN 24 s37.1 ([s53.2])).bind fun z40=>some (z40,(s37.1.length:Int))) else (some (s37.1,r12)):Option ((List (List Int))×Int))) (fun s55=>(cN 8 s37.2.1 ([s55.2])).bind fun z41=>some (s55.1,z41)))):Option ((List (List Int))×(List Int)))) (fun s47=>some (.nxt (s47.1,s47.2,IntKind.i64.wrap (s37.2.2+1))))) else (some (.brk (s37.1,s37.2.1,s37.2.2)))
def cK (p0:Int×(List Bool)×(List (List Int))) (p1:List Int):Option ((List Int)×Int):=
 aC (ai (cL p0 p1) aN (([] :List (List Int)),([] :List Int),0)) (fun r=>some r) (fun s38=>some (s38.2.1,(s38.1.length:Int)))
def bM (p0a:Int×(List Bool)×(List (List Int))) (r1:List Bool) (s5:(List Int)×Int):Option (Out (List Int) ((List Int)×Int)):=
 if decide (s5.2<(r1.length:Int)) then (Option.bind (((aF r1 s5.2).bind fun x11=>if x11 then ((aF p0a.2.1 s5.2).bind fun x12=>if x12 then ((cN 8 s5.1 ([1])).bind fun z18=>some z18) else ((cN 8 s5.1 ([0])).bind fun z17=>some z17)) else ((cN 8 s5.1 ([-1])).bind fun z16=>some z16):Option (List Int))) (fun s7=>some (.nxt (s7,IntKind.i64.wrap (s5.2+1))))) else (some (.brk (s5.1,s5.2)))
def dZ (p0a:Int×(List Bool)×(List (List Int))) (s10:(List Int)×Int):Option (Out (List Int) ((List Int)×Int)):=
 (cK (p0a.1,p0a.2.1,p0a.2.2) s10.1).bind fun r4=>if r4.2==s10.2 then (some (.ret r4.1)) else (some (.nxt (r4.1,r4.2)))
def cB (p0a:Int×(List Bool)×(List (List Int))):Option (List Int):=
 (dq (p0a.1,p0a.2.1,p0a.2.2)).bind fun r1=>aC (ai (bM p0a r1) aN (([] :List Int),0)) (fun r=>some r) (fun s6=>aC (ai (dZ p0a) aN (s6.1,-1)) (fun r=>some r) (fun s11=>none))
def qG (p0x:Int) (p1y:Int):Option (Int×Int):=
 some (IntKind.u32.wrap (pX (IntKind.u64.wrap ((IntKind.u64.wrap p0x)*(IntKind.u64.wrap p1y))) 32),IntKind.u32.wrap (IntKind.u64.wrap ((IntKind.u64.wrap p0x)*(IntKind.u64.wrap p1y))))
def kL (p0x:Int) (p1y:Int):Option (Int×Int):=
 some (IntKind.u64.wrap ((IntKind.u64.wrap ((IntKind.u64.wrap ((pX p0x 32)*(pX p1y 32)))+(pX (IntKind.u64.wrap ((IntKind.u64.wrap ((pX p0x 32)*(K0 p1y 4294967295)))+(pX (IntKind.u64.wrap ((K0 p0x 4294967295)*(K0 p1y 4294967295))) 32))) 32)))+(pX (IntKind.u64.wrap ((K0 (IntKind.u64.wrap ((IntKind.u64.wrap ((pX p0x 32)*(K0 p1y 4294967295)))+(pX (IntKind.u64.wrap ((K0 p0x 4294967295)*(K0 p1y 4294967295))) 32))) 4294967295)+(IntKind.u64.wrap ((K0 p0x 4294967295)*(pX p1y 32))))) 32)),IntKind.u64.wrap (p0x*p1y))
def mj (p0x:Int) (p1y:Int):Option (Int×Int):=
 (kL p0x p1y).bind fun r1=>some (r1.1,r1.2)
def jK (s4:Int×List Int):Option (Out (List Int) (Int×List Int)):=
 if decide (s4.1<(s4.2.length:Int)) then ((chk (And (0≤s4.1) (s4.1≤(s4.2.length:Int)))).bind fun _=>(chk (And (0≤s4.1) (s4.1≤(s4.2.length:Int)))).bind fun _=>(chk (And (0≤s4.1) (s4.1≤(s4.2.length:Int)))).bind fun _=>(chk (And (0≤s4.1) (s4.1≤(s4.2.length:Int)))).bind fun _=>some (.nxt (IntKind.i64.wrap (s4.1+((Min.min ((s4.2.take s4.1.toNat).length) (s4.2.length - s4.1.toNat):Nat):Int)),xE s4.2 s4.1.toNat (s4.2.take s4.1.toNat)))) else (some (.brk (s4.1,s4.2)))
def fE (p0x:List Int) (p1count:Int):Option (List Int):=
 if decide (p1count<0) then (none) else ((mj (IntKind.u64.wrap (p0x.length:Int)) (IntKind.u64.wrap p1count)).bind fun r0=>if decide (r0.1>0) then (none) else (if decide (r0.2>9223372036854775807) then (none) else ((mkI 8 (IntKind.i64.wrap r0.2) 0).bind fun z1=>aC (ai (jK) aN (((Min.min p0x.length (z1.length - 0):Nat):Int),xE z1 0 p0x)) (fun r13=>some r13) (fun s14=>some s14.2))))
def qH:Option (Int×(List Bool)×(List (List Int))):=
 (fE ([-1]) 9).bind fun r1=>some (0,[false],[r1])
def cG (p0s:List Int) (p1v:Int) (s3:Int):Option (Out Int Int):=
 if decide (s3<(p0s.length:Int)) then ((aF p0s s3).bind fun x3=>if p1v==x3 then (some (.ret s3)) else (some (.nxt (IntKind.i64.wrap (s3+1))))) else (some (.brk s3))
def da (p0s:List Int) (p1v:Int):Option Int:=
 aC (ai (cG p0s p1v) aN 0) (fun r=>some r) (fun s4=>some (-1))
def aH (p0class:Int) (q0:List Int):Option Int:=
 (da q0 p0class).bind fun r1=>some r1
def bN (p0c:Int) (q0:Int×(List Bool)×(List (List Int))) (q1:Int→Option Int):Option Bool:=
 (q1 p0c).bind fun r1=>(aF q0.2.1 r1).bind fun x1=>some x1
def dt (p0a:Int×(List Bool)×(List (List Int))) (p1s:Int) (p2letter:Int):Option Int:=
 if decide (p1s<0) then (some (-1)) else ((gN p2letter).bind fun r1=>if r1 then ((aF p0a.2.2 p1s).bind fun x1=>(aF x1 p2letter).bind fun x2=>some x2) else (some (-1)))
def bO (p0c:Int) (p1letter:Int) (q0:Int×(List Bool)×(List (List Int))) (q1:Int→Option Int) (q2:List Int):Option (Int×Bool):=
 (q1 p0c).bind fun r1=>(dt (q0.1,q0.2.1,q0.2.2) r1 p1letter).bind fun r2=>if decide (r2<0) then (some (0,false)) else ((aF q2 r2).bind fun x1=>if decide (x1<0) then (some (0,false)) else ((aF q2 r2).bind fun x2=>some (x2,true)))
def cg (p0a:Int×(List Bool)×(List (List Int))):Option (Int×(List Bool)×(List (List Int))):=
 (cB (p0a.1,p0a.2.1,p0a.2.2)).bind fun r1=>(aF r1 p0a.1).bind fun x1=>if decide (x1<0) then ((qH).bind fun r3=>some (r3.1,r3.2.1,r3.2.2)) else ((aF r1 p0a.1).bind fun x2=>(di x2 (r1.length:Int) (fun a0=>bN a0 (p0a.1,p0a.2.1,p0a.2.2) (fun a0=>aH a0 r1)) (fun a0 a1=>bO a0 a1 (p0a.1,p0a.2.1,p0a.2.2) (fun a0=>aH a0 r1) r1)).bind fun r2=>some (r2.1.1,r2.1.2.1,r2.1.2.2))
def wx (p0a:Int×(List Bool)×(List (List Int))):Option ((Int×(List Bool)×(List (List Int)))×Bool):=
 (cg (p0a.1,p0a.2.1,p0a.2.2)).bind fun r1=>if decide ((r1.2.1.length:Int)>12) then (some ((0,[],[]),false)) else (some ((r1.1,r1.2.1,r1.2.2),true))
def fF (p0e:(List (Int×Int×Int×Int))):Option ((Int×(List Bool)×(List (List Int)))×Bool):=
 (ff p0e).bind fun r1=>if r1.2 then ((fC (r1.1.1,r1.1.2.1,r1.1.2.2.1,r1.1.2.2.2.1,r1.1.2.2.2.2) 200).bind fun r2=>if r2.2 then ((wx (r2.1.1,r2.1.2.1,r2.1.2.2)).bind fun r3=>some ((r3.1.1,r3.1.2.1,r3.1.2.2),r3.2)) else (some ((0,[],[]),false))) else (some ((0,[],[]),false))
def bd (p0s:List (Int×(List Bool)×(List (List Int)))) (p1f:(Int×(List Bool)×(List (List Int)))→Option Bool) (s3:Int):Option (Out Int Int):=
 if decide (s3<(p0s.length:Int)) then ((aF p0s s3).bind fun x3=>(p1f (x3.1,x3.2.1,x3.2.2)).bind fun r9=>if r9 then (some (.ret s3)) else (some (.nxt (IntKind.i64.wrap (s3+1))))) else (some (.brk s3))
def aE (p0s:List (Int×(List Bool)×(List (List Int)))) (p1f:(Int×(List Bool)×(List (List Int)))→Option Bool):Option Int:=
 aC (ai (bd p0s p1f) aN 0) (fun r=>some r) (fun s4=>some (-1))
def bw (p0s1:List Bool) (p1s2:List Bool) (s3:Int):Option (Out Bool Int):=
 if decide (s3<(p0s1.length:Int)) then ((aF p0s1 s3).bind fun x5=>(aF p1s2 s3).bind fun x6=>if x5 !=x6 then (some (.ret false)) else (some (.nxt (IntKind.i64.wrap (s3+1))))) else (some (.brk s3))
def cM (p0s1:List Bool) (p1s2:List Bool):Option Bool:=
 if (p0s1.length:Int) !=(p1s2.length:Int) then (some false) else (aC (ai (bw p0s1 p1s2) aN 0) (fun r=>some r) (fun s4=>some true))
def aD (p0s1:List (List Int)) (p1s2:List (List Int)) (p2eq:(List Int)→(List Int)→Option Bool) (s3:Int):Option (Out Bool Int):=
 if decide (s3<(p0s1.length:Int)) then ((aF p0s1 s3).bind fun x5=>(aF p1s2 s3).bind fun x6=>(p2eq x5 x6).bind fun r9=>if r9 then (some (.nxt (IntKind.i64.wrap (s3+1)))) else (some (.ret false))) else (some (.brk s3))
def a7 (p0s1:List (List Int)) (p1s2:List (List Int)) (p2eq:(List Int)→(List Int)→Option Bool):Option Bool:=
 if (p0s1.length:Int) !=(p1s2.length:Int) then (some false) else (aC (ai (aD p0s1 p1s2 p2eq) aN 0) (fun r=>some r) (fun s4=>some true))
def eN (p0x:List Int) (p1y:List Int):Option Bool:=
 (bz p0x p1y).bind fun r1=>some r1
def cR (p0a:Int×(List Bool)×(List (List Int))) (p1b:Int×(List Bool)×(List (List Int))):Option Bool:=
 if p0a.1==p1b.1 then ((cM p0a.2.1 p1b.2.1).bind fun r1=>if r1 then ((a7 p0a.2.2 p1b.2.2 (fun a0 a1=>eN a0 a1)).bind fun r2=>some r2) else (some false)) else (some false)
def jL (p0b:Int×(List Bool)×(List (List Int))) (q0:Int×(List Bool)×(List (List Int))):Option Bool:=
 (cR (q0.1,q0.2.1,q0.2.2) (p0b.1,p0b.2.1,p0b.2.2)).bind fun r1=>some r1
def jM (p0e:(List (Int×Int×Int×Int))):Option (List (Int×Int×Int×Int)):=
 (cN 32 ([] :List (Int×Int×Int×Int)) p0e).bind fun z1=>some z1
def iB (p0:List (Int×((List (Int×Int×Int×Int)))×Int)) (s7:Int×(List (Int×(List Bool)×(List (List Int))))×(List (Int×((List (Int×Int×Int×Int)))×Int))):Option (Out (((List (Int×(List Bool)×(List (List Int))))×(List (Int×((List (Int×Int×Int×Int)))×Int)))×Bool) (Int×(List (Int×(List Bool)×(List (List Int))))×(List (Int×((List (Int×Int×Int×Int)))×Int)))):=
 if decide (s7.1<(p0.length:Int)) then ((aF p0 s7.1).bind fun x5=>(fF x5.2.1).bind fun r16=>if r16.2 then ((bu x5.1 1 99).bind fun r17=>if r17 then (if decide (s7.1>0) then ((aF p0 (IntKind.i64.wrap (s7.1 - 1))).bind fun x6=>if decide (x6.1≥x5.1) then (some (.ret (([],[]),false))) else ((aE s7.2.1 (fun a0=>jL a0 (r16.1.1,r16.1.2.1,r16.1.2.2))).bind fun r20=>Option.bind ((if decide (r20<0) then ((cN 56 s7.2.1 ([(r16.1.1,r16.1.2.1,r16.1.2.2)])).bind fun z17=>some ((s7.2.1.length:Int),z17,s7.2.2)) else (some (r20,s7.2.1,s7.2.2)):Option (Int×(List (Int×(List Bool)×(List (List Int))))×(List (Int×((List (Int×Int×Int×Int)))×Int))))) (fun s10=>(jM x5.2.1).bind fun r21=>(cN 40 s10.2.2 ([(x5.1,r21,s10.1)])).bind fun z18=>some (.nxt (IntKind.i64.wrap (s7.1+1),s10.2.1,z18))))) else ((aE s7.2.1 (fun a0=>jL a0 (r16.1.1,r16.1.2.1,r16.1.2.2))).bind fun r18=>Option.bind ((if decide (r18<0) then ((cN 56 s7.2.1 ([(r16.1.1,r16.1.2.1,r16.1.2.2)])).bind fun z14=>some ((s7.2.1.length:Int),z14,s7.2.2)) else (some (r18,s7.2.1,s7.2.2)):Option (Int×(List (Int×(List Bool)×(List (List Int))))×(List (Int×((List (Int×Int×Int×Int)))×Int))))) (fun s9=>(jM x5.2.1).bind fun r19=>(cN 40 s9.2.2 ([(x5.1,r19,s9.1)])).bind fun z15=>some (.nxt (IntKind.i64.wrap (s7.1+1),s9.2.1,z15))))) else (some (.ret (([],[]),false)))) else (some (.ret (([],[]),false)))) else (some (.brk (s7.1,s7.2.1,s7.2.2)))
def pI (p0:List (Int×((List (Int×Int×Int×Int)))×Int)):Option (((List (Int×(List Bool)×(List (List Int))))×(List (Int×((List (Int×Int×Int×Int)))×Int)))×Bool):=
 aC (ai (iB p0) aN (0,[],[])) (fun r=>some r) (fun s8=>some ((s8.2.1,s8.2.2),decide ((p0.length:Int)≤4)))
def ax (p0s1:List (Int×(List Bool)×(List (List Int)))) (p1s2:List (Int×(List Bool)×(List (List Int)))) (p2eq:(Int×(List Bool)×(List (List Int)))→(Int×(List Bool)×(List (List Int)))→Option Bool) (s3:Int):Option (Out Bool Int):=
 if decide (s3<(p0s1.length:Int)) then ((aF p0s1 s3).bind fun x5=>(aF p1s2 s3).bind fun x6=>(p2eq (x5.1,x5.2.1,x5.2.2) (x6.1,x6.2.1,x6.2.2)).bind fun r15=>if r15 then (some (.nxt (IntKind.i64.wrap (s3+1)))) else (some (.ret false))) else (some (.brk s3))
def aB (p0s1:List (Int×(List Bool)×(List (List Int)))) (p1s2:List (Int×(List Bool)×(List (List Int)))) (p2eq:(Int×(List Bool)×(List (List Int)))→(Int×(List Bool)×(List (List Int)))→Option Bool):Option Bool:=
 if (p0s1.length:Int) !=(p1s2.length:Int) then (some false) else (aC (ai (ax p0s1 p1s2 p2eq) aN 0) (fun r=>some r) (fun s4=>some true))
def au (p0s1:List (Int×((List (Int×Int×Int×Int)))×Int)) (p1s2:List (Int×((List (Int×Int×Int×Int)))×Int)) (p2eq:(Int×((List (Int×Int×Int×Int)))×Int)→(Int×((List (Int×Int×Int×Int)))×Int)→Option Bool) (s3:Int):Option (Out Bool Int):=
 if decide (s3<(p0s1.length:Int)) then ((aF p0s1 s3).bind fun x5=>(aF p1s2 s3).bind fun x6=>(p2eq (x5.1,x5.2.1,x5.2.2) (x6.1,x6.2.1,x6.2.2)).bind fun r9=>if r9 then (some (.nxt (IntKind.i64.wrap (s3+1)))) else (some (.ret false))) else (some (.brk s3))
def aA (p0s1:List (Int×((List (Int×Int×Int×Int)))×Int)) (p1s2:List (Int×((List (Int×Int×Int×Int)))×Int)) (p2eq:(Int×((List (Int×Int×Int×Int)))×Int)→(Int×((List (Int×Int×Int×Int)))×Int)→Option Bool):Option Bool:=
 if (p0s1.length:Int) !=(p1s2.length:Int) then (some false) else (aC (ai (au p0s1 p1s2 p2eq) aN 0) (fun r=>some r) (fun s4=>some true))
def bm (p0s1:List (Int×Int×Int×Int)) (p1s2:List (Int×Int×Int×Int)) (s3:Int):Option (Out Bool Int):=
 if decide (s3<(p0s1.length:Int)) then ((aF p0s1 s3).bind fun x5=>(aF p1s2 s3).bind fun x6=>if (x5.1==x6.1)&&((x5.2.1==x6.2.1)&&((x5.2.2.1==x6.2.2.1)&&((x5.2.2.2==x6.2.2.2)&&true))) then (some (.nxt (IntKind.i64.wrap (s3+1)))) else (some (.ret false))) else (some (.brk s3))
def bC (p0s1:List (Int×Int×Int×Int)) (p1s2:List (Int×Int×Int×Int)):Option Bool:=
 if (p0s1.length:Int) !=(p1s2.length:Int) then (some false) else (aC (ai (bm p0s1 p1s2) aN 0) (fun r=>some r) (fun s4=>some true))
def jz (p0a:(List (Int×Int×Int×Int))) (p1b:(List (Int×Int×Int×Int))):Option Bool:=
 (bC p0a p1b).bind fun r1=>some r1
def eY (p0a:Int×((List (Int×Int×Int×Int)))×Int) (p1b:Int×((List (Int×Int×Int×Int)))×Int):Option Bool:=
 if p0a.1==p1b.1 then ((jz p0a.2.1 p1b.2.1).bind fun r1=>if r1 then (some (p0a.2.2==p1b.2.2)) else (some false)) else (some false)
def eO (p0a:(List (Int×(List Bool)×(List (List Int))))×(List (Int×((List (Int×Int×Int×Int)))×Int))) (p1b:(List (Int×(List Bool)×(List (List Int))))×(List (Int×((List (Int×Int×Int×Int)))×Int))):Option Bool:=
 (aB p0a.1 p1b.1 (fun a0 a1=>cR a0 a1)).bind fun r1=>if r1 then ((aA p0a.2 p1b.2 (fun a0 a1=>eY a0 a1)).bind fun r2=>some r2) else (some false)
def eP (p0r:(List (Int×(List Bool)×(List (List Int))))×(List (Int×((List (Int×Int×Int×Int)))×Int))):Option Bool:=
 (pI p0r.2).bind fun r1=>if r1.2 then ((eO (r1.1.1,r1.1.2) (p0r.1,p0r.2)).bind fun r2=>some r2) else (some false)
def fT (p0h:Int×(List ((List Int)×(List (Int×Int×Int×Int))))):Option Int:=
 (m_i_IsValidHistory (p0h.1,p0h.2)).bind fun r1=>if r1 then (some (IntKind.i64.wrap ((IntKind.i64.wrap (p0h.1+(p0h.2.length:Int))) - 1))) else (some 0)
def aL (p0s:List (Int×((List (Int×Int×Int×Int)))×Int)) (p1f:(Int×((List (Int×Int×Int×Int)))×Int)→Option Bool) (s3:Int):Option (Out Int Int):=
 if decide (s3<(p0s.length:Int)) then ((aF p0s s3).bind fun x3=>(p1f (x3.1,x3.2.1,x3.2.2)).bind fun r6=>if r6 then (some (.ret s3)) else (some (.nxt (IntKind.i64.wrap (s3+1))))) else (some (.brk s3))
def bh (p0s:List (Int×((List (Int×Int×Int×Int)))×Int)) (p1f:(Int×((List (Int×Int×Int×Int)))×Int)→Option Bool):Option Int:=
 aC (ai (aL p0s p1f) aN 0) (fun r=>some r) (fun s4=>some (-1))
def iC (p0q:Int×((List (Int×Int×Int×Int)))×Int) (q0:Int):Option Bool:=
 some (p0q.1==q0)
def iD (p0r:(List (Int×(List Bool)×(List (List Int))))×(List (Int×((List (Int×Int×Int×Int)))×Int))) (p1id:Int):Option Int:=
 (bh p0r.2 (fun a0=>iC a0 p1id)).bind fun r1=>some r1
def du (p0:ByteArray) (p1:Int):Option Int:=R.sL p0 p1
def jV (p0:Int):Option (ByteArray):=R.M0 p0
def cn (p0n:Int):Option ByteArray:=
 (jV p0n).bind fun r0=>some r0
def gk (p0e:Int×Int×Int×Int):Option ByteArray:=
 (gM (p0e.1,p0e.2.1,p0e.2.2.1,p0e.2.2.2) 5).bind fun r0=>if r0 then ((cn p0e.1).bind fun r9=>(jS r9 (⟨#[58]⟩)).bind fun z10=>(cn p0e.2.1).bind fun r11=>(jS z10 r11).bind fun z12=>(oe (⟨#[97,98,99]⟩) p0e.2.2.2 (IntKind.i64.wrap (p0e.2.2.2+1))).bind fun z13=>(jS z12 z13).bind fun z14=>(cn p0e.2.2.1).bind fun r15=>(jS z14 r15).bind fun z16=>some z16) else (some ((⟨#[]⟩:ByteArray)))
def gx (p0:List ByteArray) (p1:ByteArray):Option (ByteArray):=R.MZ p0 p1
def dw (p0b:List (Bool×Int×Int×Int×Int)) (s1:(List ByteArray)×Int):Option (Out ByteArray ((List ByteArray)×Int)):=
 if decide (s1.2<(p0b.length:Int)) then (CX (S:=List ByteArray) ((aF p0b s1.2).bind fun x2=>(gk (x2.2.1,x2.2.2.1,x2.2.2.2.1,x2.2.2.2.2)).bind fun r3=>if r3==((⟨#[]⟩:ByteArray)) then (some (.inl (.ret ((⟨#[]⟩:ByteArray))))) else (if x2.1 then ((jS (⟨#[43]⟩) r3).bind fun z4=>(cN 16 s1.1 ([z4])).bind fun z5=>some (.inr z5)) else ((jS (⟨#[45]⟩) r3).bind fun z6=>(cN 16 s1.1 ([z6])).bind fun z7=>some (.inr z7)))) (fun s8=>some (.nxt (s8,IntKind.i64.wrap (s1.2+1))))) else (some (.brk (s1.1,s1.2)))
def cW (p0b:List (Bool×Int×Int×Int×Int)):Option ByteArray:=
 if decide ((p0b.length:Int)>6) then (some ((⟨#[]⟩:ByteArray))) else (aC (ai (dw p0b) aN (([] :List ByteArray),0)) (fun r9=>some r9) (fun s10=>(gx s10.1 (⟨#[32]⟩)).bind fun r11=>some r11))
def kM (p0s:ByteArray) (s1:Int×Int):Option (Out Int (Int×Int)):=
 if decide (s1.2<((p0s.size:Nat):Int)) then ((gG p0s s1.2).bind fun z2=>some (.nxt (Int.tmod (IntKind.i64.wrap ((IntKind.i64.wrap ((IntKind.i64.wrap (257*s1.1))+(IntKind.i64.wrap z2)))+1)) 9973,IntKind.i64.wrap (s1.2+1)))) else (some (.brk (s1.1,s1.2)))
def gP (p0s:ByteArray):Option Int:=
 aC (ai (kM p0s) aN (1,0)) (fun r3=>some r3) (fun s4=>some s4.1)
def eZ (p0version:Int) (p1b:List (Bool×Int×Int×Int×Int)):Option ByteArray:=
 (cW p1b).bind fun r0=>(bu p0version 1 999).bind fun r1=>if r1 then (if r0==((⟨#[]⟩:ByteArray)) then (if decide ((p1b.length:Int)>0) then (some ((⟨#[]⟩:ByteArray))) else ((cn p0version).bind fun r2=>(jS r2 (⟨#[59]⟩)).bind fun z3=>(jS z3 r0).bind fun z4=>(jS z4 (⟨#[59]⟩)).bind fun z5=>(gP z5).bind fun r6=>(cn r6).bind fun r7=>(jS z5 r7).bind fun z8=>(jS z8 (⟨#[10]⟩)).bind fun z9=>some z9)) else ((cn p0version).bind fun r10=>(jS r10 (⟨#[59]⟩)).bind fun z11=>(jS z11 r0).bind fun z12=>(jS z12 (⟨#[59]⟩)).bind fun z13=>(gP z13).bind fun r14=>(cn r14).bind fun r15=>(jS z13 r15).bind fun z16=>(jS z16 (⟨#[10]⟩)).bind fun z17=>some z17)) else (some ((⟨#[]⟩:ByteArray)))
def bP (p0 p1:ByteArray):Option (List ByteArray):=R.Ft p0 p1
def eC (p0:ByteArray):Option (Int×Bool):=R.oH p0
def b7 (p0 p1:ByteArray):Option (ByteArray×ByteArray×Bool):=R.Sb p0 p1
def eQ (p0s:ByteArray):Option ((Int×Int×Int×Int)×Bool):=
 (b7 p0s (⟨#[58]⟩)).bind fun r0=>if ((r0.2.1.size:Nat):Int) !=3 then (some ((0,0,0,0),false)) else ((gG r0.2.1 0).bind fun z4=>(gG r0.2.1 1).bind fun z5=>(gG r0.2.1 2).bind fun z6=>(eC r0.1).bind fun r7=>(gk (r7.1,IntKind.i64.wrap ((IntKind.i64.wrap z4) - 48),IntKind.i64.wrap ((IntKind.i64.wrap z6) - 48),IntKind.i64.wrap ((IntKind.i64.wrap z5) - 97))).bind fun r8=>if r8 !=p0s then (some ((0,0,0,0),false)) else (some ((r7.1,IntKind.i64.wrap ((IntKind.i64.wrap z4) - 48),IntKind.i64.wrap ((IntKind.i64.wrap z6) - 48),IntKind.i64.wrap ((IntKind.i64.wrap z5) - 97)),true)))
def bQ (r0:List ByteArray) (s3:Int×List (Bool×Int×Int×Int×Int)):Option (Out ((List (Bool×Int×Int×Int×Int))×Bool) (Int×List (Bool×Int×Int×Int×Int))):=
 if decide (s3.1<(r0.length:Int)) then ((aF r0 s3.1).bind fun x4=>if x4==((⟨#[]⟩:ByteArray)) then (some (.ret (([] :List (Bool×Int×Int×Int×Int)),false))) else ((oe x4 1 ((x4.size:Nat):Int)).bind fun z5=>(eQ z5).bind fun r6=>if r6.2 then ((gG x4 0).bind fun z9=>(cN 40 s3.2 ([(z9==43,r6.1.1,r6.1.2.1,r6.1.2.2.1,r6.1.2.2.2)])).bind fun z10=>some (.nxt (IntKind.i64.wrap (s3.1+1),z10))) else (some (.ret (([] :List (Bool×Int×Int×Int×Int)),false))))) else (some (.brk (s3.1,s3.2)))
def cP (p0s:ByteArray):Option ((List (Bool×Int×Int×Int×Int))×Bool):=
 if p0s==((⟨#[]⟩:ByteArray)) then (some (([] :List (Bool×Int×Int×Int×Int)),true)) else ((bP p0s (⟨#[32]⟩)).bind fun r0=>aC (ai (bQ r0) aN (0,([] :List (Bool×Int×Int×Int×Int)))) (fun r11=>some r11) (fun s12=>(cW s12.2).bind fun r13=>if r13 !=p0s then (some (([] :List (Bool×Int×Int×Int×Int)),false)) else (some (s12.2,true))))
def gy (p0s:ByteArray):Option (Int×(List (Bool×Int×Int×Int×Int))×Bool):=
 (bP p0s (⟨#[59]⟩)).bind fun r0=>if (r0.length:Int) !=3 then (some (0,([] :List (Bool×Int×Int×Int×Int)),false)) else ((aF r0 0).bind fun x1=>(eC x1).bind fun r2=>(aF r0 1).bind fun x3=>(cP x3).bind fun r4=>if r2.2 then (if r4.2 then ((eZ r2.1 r4.1).bind fun r5=>if r5 !=p0s then (some (0,([] :List (Bool×Int×Int×Int×Int)),false)) else (some (r2.1,r4.1,true))) else (some (0,([] :List (Bool×Int×Int×Int×Int)),false))) else (some (0,([] :List (Bool×Int×Int×Int×Int)),false)))
def bF (p0:ByteArray) (s1:(List Int)×(List (List (Bool×Int×Int×Int×Int)))×Int):Option (Out ((List Int)×(List (List (Bool×Int×Int×Int×Int)))×Int) ((List Int)×(List (List (Bool×Int×Int×Int×Int)))×Int)):=
 if decide (((p0.size:Nat):Int)≤4000) then ((oe p0 s1.2.2 ((p0.size:Nat):Int)).bind fun z2=>(du z2 10).bind fun r3=>if decide (r3<0) then (some (.brk (s1.1,s1.2.1,s1.2.2))) else ((oe p0 s1.2.2 (IntKind.i64.wrap ((IntKind.i64.wrap (s1.2.2+r3))+1))).bind fun z4=>(gy z4).bind fun r5=>if r5.2.2 then (if decide ((s1.1.length:Int)>0) then ((aF s1.1 (IntKind.i64.wrap ((s1.1.length:Int) - 1))).bind fun x6=>if r5.1 !=(IntKind.i64.wrap (x6+1)) then (some (.brk (s1.1,s1.2.1,s1.2.2))) else ((cN 8 s1.1 ([r5.1])).bind fun z7=>(cN 24 s1.2.1 ([r5.2.1])).bind fun z8=>some (.nxt (z7,z8,IntKind.i64.wrap (s1.2.2+(IntKind.i64.wrap (r3+1))))))) else ((cN 8 s1.1 ([r5.1])).bind fun z9=>(cN 24 s1.2.1 ([r5.2.1])).bind fun z10=>some (.nxt (z9,z10,IntKind.i64.wrap (s1.2.2+(IntKind.i64.wrap (r3+1))))))) else (some (.brk (s1.1,s1.2.1,s1.2.2))))) else (some (.brk (s1.1,s1.2.1,s1.2.2)))
def m_i_ScanLog (p0:ByteArray):Option ((List Int)×(List (List (Bool×Int×Int×Int×Int)))×Int):=
 aC (ai (bF p0) aN (([] :List Int),([] :List (List (Bool×Int×Int×Int×Int))),0)) (fun r11=>some r11) (fun s12=>some (s12.1,s12.2.1,s12.2.2))
def bB (p0:(Int×(List ((List Int)×(List (Int×Int×Int×Int)))))×((List (Int×(List Bool)×(List (List Int))))×(List (Int×((List (Int×Int×Int×Int)))×Int)))×(List (Int×Int×Int))×ByteArray) (r3:Int) (s3:Int):Option (Out Bool Int):=
 if decide (s3<(p0.2.2.1.length:Int)) then ((aF p0.2.2.1 s3).bind fun x5=>(bu x5.1 1 99).bind fun r14=>if r14 then (if decide (s3>0) then ((aF p0.2.2.1 (IntKind.i64.wrap (s3 - 1))).bind fun x6=>if decide (x6.1≥x5.1) then (some (.ret false)) else ((iD (p0.2.1.1,p0.2.1.2) x5.2.1).bind fun r17=>if decide (r17<0) then (some (.ret false)) else ((bu x5.2.2 0 r3).bind fun r18=>if r18 then (some (.nxt (IntKind.i64.wrap (s3+1)))) else (some (.ret false))))) else ((iD (p0.2.1.1,p0.2.1.2) x5.2.1).bind fun r15=>if decide (r15<0) then (some (.ret false)) else ((bu x5.2.2 0 r3).bind fun r16=>if r16 then (some (.nxt (IntKind.i64.wrap (s3+1)))) else (some (.ret false))))) else (some (.ret false))) else (some (.brk s3))
def fU (p0:(Int×(List ((List Int)×(List (Int×Int×Int×Int)))))×((List (Int×(List Bool)×(List (List Int))))×(List (Int×((List (Int×Int×Int×Int)))×Int)))×(List (Int×Int×Int))×ByteArray):Option Bool:=
 (m_i_IsValidHistory (p0.1.1,p0.1.2)).bind fun r1=>if r1 then ((eP (p0.2.1.1,p0.2.1.2)).bind fun r2=>if r2 then (if decide ((p0.2.2.1.length:Int)>4) then (some false) else (if decide ((p0.2.2.2.size:Int)>4000) then (some false) else ((fT (p0.1.1,p0.1.2)).bind fun r3=>aC (ai (bB p0 r3) aN 0) (fun r=>some r) (fun s4=>(m_i_ScanLog p0.2.2.2).bind fun r19=>if r19.2.2==(p0.2.2.2.size:Int) then (if (r19.1.length:Int)==0 then (some true) else ((aF r19.1 (IntKind.i64.wrap ((r19.1.length:Int) - 1))).bind fun x7=>some (x7==r3))) else (some false))))) else (some false)) else (some false)
def kg (p0a:List Int) (p1b:List Int) (s3:Int):Option (Out Bool Int):=
 if decide (s3<(p0a.length:Int)) then ((aF p0a s3).bind fun x5=>(aF p1b s3).bind fun x6=>if x5 !=x6 then (some (.ret false)) else (some (.nxt (IntKind.i64.wrap (s3+1))))) else (some (.brk s3))
def pJ (p0a:List Int) (p1b:List Int):Option Bool:=
 if (p0a.length:Int) !=(p1b.length:Int) then (some false) else (aC (ai (kg p0a p1b) aN 0) (fun r=>some r) (fun s4=>some true))
def pK (p0a:Int×Int×Int×Int) (p1b:Int×Int×Int×Int):Option Bool:=
 if p0a.1 !=p1b.1 then (some false) else (if p0a.2.1 !=p1b.2.1 then (some false) else (if p0a.2.2.1 !=p1b.2.2.1 then (some false) else (if p0a.2.2.2 !=p1b.2.2.2 then (some false) else (some true))))
def jA (p0a:List (Int×Int×Int×Int)) (p1b:List (Int×Int×Int×Int)) (s3:Int):Option (Out Bool Int):=
 if decide (s3<(p0a.length:Int)) then ((aF p0a s3).bind fun x5=>(aF p1b s3).bind fun x6=>(pK (x5.1,x5.2.1,x5.2.2.1,x5.2.2.2) (x6.1,x6.2.1,x6.2.2.1,x6.2.2.2)).bind fun r3=>if r3 then (some (.nxt (IntKind.i64.wrap (s3+1)))) else (some (.ret false))) else (some (.brk s3))
def qI (p0a:List (Int×Int×Int×Int)) (p1b:List (Int×Int×Int×Int)):Option Bool:=
 if (p0a.length:Int) !=(p1b.length:Int) then (some false) else (aC (ai (jA p0a p1b) aN 0) (fun r=>some r) (fun s4=>some true))
def nw (p0a:(List Int)×(List (Int×Int×Int×Int))) (p1b:(List Int)×(List (Int×Int×Int×Int))):Option Bool:=
 (pJ p0a.1 p1b.1).bind fun r1=>if r1 then ((qI p0a.2 p1b.2).bind fun r2=>if r2 then (some true) else (some false)) else (some false)
def iE (p0a:List ((List Int)×(List (Int×Int×Int×Int)))) (p1b:List ((List Int)×(List (Int×Int×Int×Int)))) (s3:Int):Option (Out Bool Int):=
 if decide (s3<(p0a.length:Int)) then ((aF p0a s3).bind fun x5=>(aF p1b s3).bind fun x6=>(nw (x5.1,x5.2) (x6.1,x6.2)).bind fun r15=>if r15 then (some (.nxt (IntKind.i64.wrap (s3+1)))) else (some (.ret false))) else (some (.brk s3))
def oL (p0a:List ((List Int)×(List (Int×Int×Int×Int)))) (p1b:List ((List Int)×(List (Int×Int×Int×Int)))):Option Bool:=
 if (p0a.length:Int) !=(p1b.length:Int) then (some false) else (aC (ai (iE p0a p1b) aN 0) (fun r=>some r) (fun s4=>some true))
def kh (p0a:Int×(List ((List Int)×(List (Int×Int×Int×Int))))) (p1b:Int×(List ((List Int)×(List (Int×Int×Int×Int))))):Option Bool:=
 if p0a.1 !=p1b.1 then (some false) else ((oL p0a.2 p1b.2).bind fun r1=>if r1 then (some true) else (some false))
def jB (p0a:List Bool) (p1b:List Bool) (s3:Int):Option (Out Bool Int):=
 if decide (s3<(p0a.length:Int)) then ((aF p0a s3).bind fun x5=>(aF p1b s3).bind fun x6=>if x5 !=x6 then (some (.ret false)) else (some (.nxt (IntKind.i64.wrap (s3+1))))) else (some (.brk s3))
def qJ (p0a:List Bool) (p1b:List Bool):Option Bool:=
 if (p0a.length:Int) !=(p1b.length:Int) then (some false) else (aC (ai (jB p0a p1b) aN 0) (fun r=>some r) (fun s4=>some true))
def jC (p0a:List (List Int)) (p1b:List (List Int)) (s3:Int):Option (Out Bool Int):=
 if decide (s3<(p0a.length:Int)) then ((aF p0a s3).bind fun x5=>(aF p1b s3).bind fun x6=>(pJ x5 x6).bind fun r9=>if r9 then (some (.nxt (IntKind.i64.wrap (s3+1)))) else (some (.ret false))) else (some (.brk s3))
def qK (p0a:List (List Int)) (p1b:List (List Int)):Option Bool:=
 if (p0a.length:Int) !=(p1b.length:Int) then (some false) else (aC (ai (jC p0a p1b) aN 0) (fun r=>some r) (fun s4=>some true))
def iF (p0a:Int×(List Bool)×(List (List Int))) (p1b:Int×(List Bool)×(List (List Int))):Option Bool:=
 if p0a.1 !=p1b.1 then (some false) else ((qJ p0a.2.1 p1b.2.1).bind fun r1=>if r1 then ((qK p0a.2.2 p1b.2.2).bind fun r2=>if r2 then (some true) else (some false)) else (some false))
def eR (p0a:List (Int×(List Bool)×(List (List Int)))) (p1b:List (Int×(List Bool)×(List (List Int)))) (s3:Int):Option (Out Bool Int):=
 if decide (s3<(p0a.length:Int)) then ((aF p0a s3).bind fun x5=>(aF p1b s3).bind fun x6=>(iF (x5.1,x5.2.1,x5.2.2) (x6.1,x6.2.1,x6.2.2)).bind fun r15=>if r15 then (some (.nxt (IntKind.i64.wrap (s3+1)))) else (some (.ret false))) else (some (.brk s3))
def jW (p0a:List (Int×(List Bool)×(List (List Int)))) (p1b:List (Int×(List Bool)×(List (List Int)))):Option Bool:=
 if (p0a.length:Int) !=(p1b.length:Int) then (some false) else (aC (ai (eR p0a p1b) aN 0) (fun r=>some r) (fun s4=>some true))
def ny (p0a:Int×Int×Int×Int) (p1b:Int×Int×Int×Int):Option Bool:=
 if p0a.1 !=p1b.1 then (some false) else (if p0a.2.1 !=p1b.2.1 then (some false) else (if p0a.2.2.1 !=p1b.2.2.1 then (some false) else (if p0a.2.2.2 !=p1b.2.2.2 then (some false) else (some true))))
def iG (p0a:List (Int×Int×Int×Int)) (p1b:List (Int×Int×Int×Int)) (s3:Int):Option (Out Bool Int):=
 if decide (s3<(p0a.length:Int)) then ((aF p0a s3).bind fun x5=>(aF p1b s3).bind fun x6=>(ny (x5.1,x5.2.1,x5.2.2.1,x5.2.2.2) (x6.1,x6.2.1,x6.2.2.1,x6.2.2.2)).bind fun r3=>if r3 then (some (.nxt (IntKind.i64.wrap (s3+1)))) else (some (.ret false))) else (some (.brk s3))
def oM (p0a:List (Int×Int×Int×Int)) (p1b:List (Int×Int×Int×Int)):Option Bool:=
 if (p0a.length:Int) !=(p1b.length:Int) then (some false) else (aC (ai (iG p0a p1b) aN 0) (fun r=>some r) (fun s4=>some true))
def pL (p0a:(List (Int×Int×Int×Int))) (p1b:(List (Int×Int×Int×Int))):Option Bool:=
 (oM p0a p1b).bind fun r1=>if r1 then (some true) else (some false)
def gz (p0a:Int×((List (Int×Int×Int×Int)))×Int) (p1b:Int×((List (Int×Int×Int×Int)))×Int):Option Bool:=
 if p0a.1 !=p1b.1 then (some false) else ((pL p0a.2.1 p1b.2.1).bind fun r1=>if r1 then (if p0a.2.2 !=p1b.2.2 then (some false) else (some true)) else (some false))
def dL (p0a:List (Int×((List (Int×Int×Int×Int)))×Int)) (p1b:List (Int×((List (Int×Int×Int×Int)))×Int)) (s3:Int):Option (Out Bool Int):=
 if decide (s3<(p0a.length:Int)) then ((aF p0a s3).bind fun x5=>(aF p1b s3).bind fun x6=>(gz (x5.1,x5.2.1,x5.2.2) (x6.1,x6.2.1,x6.2.2)).bind fun r9=>if r9 then (some (.nxt (IntKind.i64.wrap (s3+1)))) else (some (.ret false))) else (some (.brk s3))
def jb (p0a:List (Int×((List (Int×Int×Int×Int)))×Int)) (p1b:List (Int×((List (Int×Int×Int×Int)))×Int)):Option Bool:=
 if (p0a.length:Int) !=(p1b.length:Int) then (some false) else (aC (ai (dL p0a p1b) aN 0) (fun r=>some r) (fun s4=>some true))
def jD (p0a:(List (Int×(List Bool)×(List (List Int))))×(List (Int×((List (Int×Int×Int×Int)))×Int))) (p1b:(List (Int×(List Bool)×(List (List Int))))×(List (Int×((List (Int×Int×Int×Int)))×Int))):Option Bool:=
 (jW p0a.1 p1b.1).bind fun r1=>if r1 then ((jb p0a.2 p1b.2).bind fun r2=>if r2 then (some true) else (some false)) else (some false)
def gA (p0a:Int×Int×Int) (p1b:Int×Int×Int):Option Bool:=
 if p0a.1 !=p1b.1 then (some false) else (if p0a.2.1 !=p1b.2.1 then (some false) else (if p0a.2.2 !=p1b.2.2 then (some false) else (some true)))
def dM (p0a:List (Int×Int×Int)) (p1b:List (Int×Int×Int)) (s3:Int):Option (Out Bool Int):=
 if decide (s3<(p0a.length:Int)) then ((aF p0a s3).bind fun x5=>(aF p1b s3).bind fun x6=>(gA (x5.1,x5.2.1,x5.2.2) (x6.1,x6.2.1,x6.2.2)).bind fun r3=>if r3 then (some (.nxt (IntKind.i64.wrap (s3+1)))) else (some (.ret false))) else (some (.brk s3))
def jc (p0a:List (Int×Int×Int)) (p1b:List (Int×Int×Int)):Option Bool:=
 if (p0a.length:Int) !=(p1b.length:Int) then (some false) else (aC (ai (dM p0a p1b) aN 0) (fun r=>some r) (fun s4=>some true))
def lF (p0a:(Int×(List ((List Int)×(List (Int×Int×Int×Int)))))×((List (Int×(List Bool)×(List (List Int))))×(List (Int×((List (Int×Int×Int×Int)))×Int)))×(List (Int×Int×Int))×ByteArray) (p1b:(Int×(List ((List Int)×(List (Int×Int×Int×Int)))))×((List (Int×(List Bool)×(List (List Int))))×(List (Int×((List (Int×Int×Int×Int)))×Int)))×(List (Int×Int×Int))×ByteArray):Option Bool:=
 (kh (p0a.1.1,p0a.1.2) (p1b.1.1,p1b.1.2)).bind fun r1=>if r1 then ((jD (p0a.2.1.1,p0a.2.1.2) (p1b.2.1.1,p1b.2.1.2)).bind fun r2=>if r2 then ((jc p0a.2.2.1 p1b.2.2.1).bind fun r3=>if r3 then (if p0a.2.2.2 !=p1b.2.2.2 then (some false) else (some true)) else (some false)) else (some false)) else (some false)
def cE (p0aE:(Int×(List ((List Int)×(List (Int×Int×Int×Int)))))×((List (Int×(List Bool)×(List (List Int))))×(List (Int×((List (Int×Int×Int×Int)))×Int)))×(List (Int×Int×Int))×ByteArray):Option Bool:=
 (lx ((p0aE.1.1,p0aE.1.2),(p0aE.2.1.1,p0aE.2.1.2),p0aE.2.2.1,p0aE.2.2.2) 1048576).bind fun r1=>if decide (r1<0) then (some true) else ((gL ((p0aE.1.1,p0aE.1.2),(p0aE.2.1.1,p0aE.2.1.2),p0aE.2.2.1,p0aE.2.2.2)).bind fun r2=>(fQ ((r2.1.1,r2.1.2),(r2.2.1.1,r2.2.1.2),r2.2.2.1,r2.2.2.2)).bind fun r3=>(gL ((p0aE.1.1,p0aE.1.2),(p0aE.2.1.1,p0aE.2.1.2),p0aE.2.2.1,p0aE.2.2.2)).bind fun r4=>(fU ((r4.1.1,r4.1.2),(r4.2.1.1,r4.2.1.2),r4.2.2.1,r4.2.2.2)).bind fun r5=>if r5 !=r3 then (some false) else ((gL ((p0aE.1.1,p0aE.1.2),(p0aE.2.1.1,p0aE.2.1.2),p0aE.2.2.1,p0aE.2.2.2)).bind fun r6=>(lF ((r4.1.1,r4.1.2),(r4.2.1.1,r4.2.1.2),r4.2.2.1,r4.2.2.2) ((r6.1.1,r6.1.2),(r6.2.1.1,r6.2.1.2),r6.2.2.1,r6.2.2.2)).bind fun r7=>if r7 then (some true) else (some false)))
end D
end Go.Proofs.YtilionjghdjbdaaGreatDoor
