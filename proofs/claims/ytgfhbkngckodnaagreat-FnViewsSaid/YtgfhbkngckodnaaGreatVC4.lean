/- FnViews: for every input the law returns true and changes nothing that was there. Part 5 of 7. -/
import Derived.Test.YtgfhbkngckodnaaGreatVC3
set_option linter.unusedVariables false
set_option linter.unusedSimpArgs false
set_option linter.unnecessarySimpa false
set_option linter.unusedSectionVars false
set_option maxRecDepth 1000000
namespace Go.Proofs.YtgfhbkngckodnaaGreat
namespace R
open Go.RowKit
open D
def Fe (i:Nat):(p:PM)->p.den->AV
 | .rd t,d=>Dz i t d
 | .ow t,d=>DU (gr i [] t d)
 | .fn a b,d=>.one (.fn ⟨i,[]⟩ a b d)
 | .cap T t,d=>.one (.fz ⟨i,[]⟩ T t d 0)
 | .capf T a b,d=>.one (.fzf ⟨i,[]⟩ T a b d)
 | .ptr _ _,_=>.one (.ptr ⟨i,[]⟩ 0)
 | .eat t,d=>DU (gr i [] t d)
 | .fk g,_=>.one (.val (.func (.func g) #[] #[]))
 | .crs _ _,_=>.one (.ptr ⟨i,[]⟩ 0)
def BC (q i:Nat):(p:PM)->p.den->List (Hdr×Chk)
 | .ow t,d=>gT i [] t d
 | .ptr T t,d=>[(⟨i,[]⟩,.box T t d)]
 | .eat t,d=>gT i [] t d
 | .crs T E,d=>[(⟨i,[]⟩,.blk T [.rd ⟨q,[]⟩ (.sl E (.int .u8)) d.1,.val (.int .i64 d.2.1),.val (.int .i64 d.2.2)])]
 | _,_=>[]
def BD:(i:Nat)->(ps:List PM)->denP ps->List (Nat×Nat×AV)
 | _,[],_=>[]
 | i,p::ps,d=>(i,i,Fe i p d.1)::BD (i+1) ps d.2
def yo (q:Nat):(i:Nat)->(ps:List PM)->denP ps->List Ent
 | _,[],_=>[]
 | i,p::ps,d=>(BC q i p d.1).map (fun g=>(g.1,i,g.2))++yo q (i+1) ps d.2
def qQ (ps:List PM) (d:denP ps):Sg:=⟨BD 0 ps d,yo ps.length 0 ps d,ps.length+1⟩
def P5 (P:Program) (w0:World) (J:Hp) (θ:Th) (n i:Nat):(p:PM)->Value->p.den->Prop
 | .ow t,v,d=>(gr i [] t d).2.map (·.v θ)=fD t.isProd v/\ ∀x∈(gr i [] t d).2,x.ok P w0 J θ n
 | .ptr _ _,v,_=>hv θ ⟨i,[]⟩=v/\i<n
 | .crs _ _,v,_=>hv θ ⟨i,[]⟩=v/\i<n
 | _,_,_=>True
def StF (P:Program) (w0:World) (J:Hp) (θ:Th) (n:Nat):(i:Nat)->(ps:List PM)->List Value->denP ps->Prop
 | i,p::ps,v::vs,d=>P5 P w0 J θ n i p v d.1/\StF P w0 J θ n (i+1) ps vs d.2
 | _,_,_,_=>True
section
variable {P:Program} {w0 w:World} {J:Hp} {θ:Th} {n:Nat} {C:List Ch}
theorem qR {id:Nat} {pre:List Nat} {t:Ty} {d:t.den} : ∀g∈gT id pre t d,G5 g.2:=eN t d 0
theorem Ff {p:PM} {i:Nat} {v:Value} {d:p.den} {ps:List PM} {vs:List Value} {e:denP ps} {γ:Value} {q:Nat} (hi:i<n) (hq:q<n) (hγ:θ q=γ) (hθ:θ i=v) (h:O5 P w0 J γ p v d) (hS:St J w0 w (owCh γ (p::ps) (v::vs) (d,e)++C)) :
  (∀chs,(Fe i p d).ok P w0 J θ n chs)/\(Fe i p d).v θ=v/\St J w0 w ((BC q i p d).map (fun g=>toCh P θ (g.1,i,g.2))++(owCh γ ps vs e++C))/\(∀g∈BC q i p d,K4 P w0 J θ n g.2/\g.1.id=i)/\P5 P w0 J θ n i p v d:=by
 cases p with
 | rd t =>
  obtain ⟨cs,h1,h2⟩:=h
  have hav:=fun chs=>kG (P:=P) (w0:=w0) (J:=J) (chs:=chs) hi hθ t d cs h2 h1
  exact ⟨fun chs=>(hav chs).1,(hav []).2,hS,fun g hg=>(by cases hg),trivial⟩
 | fn a b =>
  have hh:hv θ ⟨i,[]⟩=v:=hθ
  exact ⟨fun chs=>⟨hi,by rw[hh];exact h⟩,hh,hS,fun g hg=>(by cases hg),trivial⟩
 | cap T t =>
  obtain ⟨b,rfl,cells,h1,h2⟩:=h
  have hh:hv θ ⟨i,[]⟩= .pointer (some ⟨b,0,none⟩):=hθ
  refine ⟨fun chs=>⟨hi,cells,by rw[hh];exact h1,h2⟩,?_,hS,fun g hg=>(by cases hg),trivial⟩
  show Value.pointer (some ⟨bk (hv θ ⟨i,[]⟩),0,none⟩)=_
  rw[hh];rfl
 | capf T x y =>
  obtain ⟨b,rfl,u,h1,h2⟩:=h
  have hh:hv θ ⟨i,[]⟩= .pointer (some ⟨b,0,none⟩):=hθ
  refine ⟨fun chs=>⟨hi,u,by rw[hh];exact h1,h2⟩,?_,hS,fun g hg=>(by cases hg),trivial⟩
  show Value.pointer (some ⟨bk (hv θ ⟨i,[]⟩),0,none⟩)=_
  rw[hh];rfl
 | ptr T t =>
  obtain ⟨b,rfl⟩:=h
  have hh:hv θ ⟨i,[]⟩= .pointer (some ⟨b,0,none⟩):=hθ
  refine ⟨fun chs=>hi,?_,?_,fun g hg=>by obtain rfl:=aw hg;exact ⟨.inl trivial,rfl⟩,hh,hi⟩
  ·show Value.pointer (some ⟨bk (hv θ ⟨i,[]⟩),0,none⟩)=_
   rw[hh];rfl
  ·show St J w0 w (Ch.box (bk (hv θ ⟨i,[]⟩)) T t.rep d::_)
   rw[hh];exact hS
 | ow t =>
  have hS:St J w0 w (Ch.own t.rep (fD t.isProd v) d::(owCh γ ps vs e++C)):=hS
  obtain ⟨k1,k2,k3,k4,k5⟩:=o0 (P:=P) (m:=i) (pre:=[]) (id:=i) (n:=n) hi (show hv θ ⟨i,[]⟩=v from hθ) h hS
  have q:=fun chs=>vN (P:=P) (w0:=w0) (J:=J) (θ:=θ) (n:=n) (chs:=chs) (gr i [] t d) (fun e=>mu e) k1
  exact ⟨fun chs=>(q chs).1,(q []).2.trans k3,k5,fun g hg=>⟨.inl (qR g hg),k4 g hg⟩,k2,k1⟩
 | eat t =>
  have hS:St J w0 w (Ch.own t.rep (fD t.isProd v) d::(owCh γ ps vs e++C)):=hS
  obtain ⟨k1,k2,k3,k4,k5⟩:=o0 (P:=P) (m:=i) (pre:=[]) (id:=i) (n:=n) hi (show hv θ ⟨i,[]⟩=v from hθ) h hS
  have q:=fun chs=>vN (P:=P) (w0:=w0) (J:=J) (θ:=θ) (n:=n) (chs:=chs) (gr i [] t d) (fun e=>mu e) k1
  exact ⟨fun chs=>(q chs).1,(q []).2.trans k3,k5,fun g hg=>⟨.inl (qR g hg),k4 g hg⟩,trivial⟩
 | fk g =>
  obtain rfl:=h
  exact ⟨fun chs=>rfl,rfl,hS,fun g hg=>(by cases hg),trivial⟩
 | crs T E =>
  obtain ⟨⟨b,rfl⟩,hrd⟩:=h
  have hh:hv θ ⟨i,[]⟩= .pointer (some ⟨b,0,none⟩):=hθ
  have hg0:hv θ ⟨q,[]⟩=γ:=hγ
  refine ⟨fun chs=>hi,?_,?_,fun g hg=>?_,hh,hi⟩
  ·show Value.pointer (some ⟨bk (hv θ ⟨i,[]⟩),0,none⟩)=_
   rw[hh];rfl
  ·show St J w0 w (Ch.blk (bk (hv θ ⟨i,[]⟩)) [hv θ ⟨q,[]⟩,.int .i64 d.2.1,.int .i64 d.2.2] T::_)
   rw[hh,hg0];exact hS
  ·obtain rfl:=aw hg
   refine ⟨.inr ⟨_,_,rfl,fun z hz=>?_⟩,rfl⟩
   rcases ax hz with rfl | hz
   ·exact ⟨hq,by rw[hg0];exact hrd⟩
   ·rcases ax hz with rfl | hz
    ·exact Eq.refl true
    ·obtain rfl:=aw hz
     exact Eq.refl true
theorem BE {γ:Value} {q:Nat} (hq:q<n) (hγ:θ q=γ): ∀ {ps:List PM} {i:Nat} {vs:List Value} {d:denP ps} {C:List Ch},PArgs P w0 J γ ps vs d->(∀j v,vs[j]? =some v->θ (i+j)=v)->i+ps.length<=n->St J w0 w (owCh γ ps vs d++C)->
  (∀e∈BD i ps d,(∀chs,e.2.2.ok P w0 J θ n chs)/\i<=e.1/\e.2.1=e.1/\e.1<i+ps.length/\vs[e.1 - i]? =some (e.2.2.v θ))/\((BD i ps d).Pairwise fun a b=>a.2.1≠b.2.1)/\St J w0 w ((yo q i ps d).map (toCh P θ)++C)/\(∀e∈yo q i ps d,∀chs,okE P w0 J θ n chs e)/\StF P w0 J θ n i ps vs d
 | [],i,vs,d,C,h,_,_,hS=>by
  have h:vs= []:=h
  subst h
  exact ⟨fun e he=>(by cases he),List.Pairwise.nil,hS,fun e he=>(by cases he),trivial⟩
 | p::ps,i,vs,d,C,h,hθ,hn,hS=>by
  obtain ⟨v,r,rfl,h1,h3⟩:=h
  rw[au] at hn
  obtain ⟨a1,a2,a3,a4,a5⟩:=Ff (n:=n) (i:=i) (θ:=θ) (e:=d.2) (show i<n by omega) hq hγ (hθ 0 v rfl) h1 hS
  obtain ⟨k1,k2,k3,k4,k5⟩:=BE hq hγ (i:=i+1) h3 (fun j u hj=>by
   have:=hθ (j+1) u hj
   rwa [show i+(j+1)=i+1+j from by omega] at this) (by omega) (a3.perm (List.perm_append_comm_assoc _ _ _))
  refine ⟨fun e he=>?_,List.pairwise_cons.2 ⟨fun e he hh=>?_,k2⟩,?_,fun e he chs=>?_,a5,k5⟩
  ·rcases ax he with rfl | he
   ·exact ⟨a1,aB _,rfl,by rw[au];show i<_;omega,by show (v::r)[i - i]? =_;rw[Nat.sub_self,a2];rfl⟩
   ·obtain ⟨q1,q2,q3,q4,q5⟩:=k1 e he
    refine ⟨q1,by omega,q3,by rw[au];omega,?_⟩
    rw[show e.1 - i=(e.1 - (i+1))+1 from by omega];exact q5
  ·have:=k1 e he
   have hh:i=e.2.1:=hh
   omega
  ·show St J w0 w (((BC q i p d.1).map _++yo q (i+1) ps d.2).map (toCh P θ)++C)
   rw[aI,List.map_map]
   refine k3.perm ?_
   rw[ah]
   exact List.perm_append_comm_assoc _ _ _
  ·rcases aD he with he | he
   ·obtain ⟨g,hg,rfl⟩:=List.mem_map.1 he
    obtain ⟨g1,g2⟩:=a4 g hg
    exact vS g1 (aB _) (by omega) (by omega)
   ·exact k4 e he chs
theorem yp {γ:Value} : ∀ {ps:List PM} {vs:List Value} {d:denP ps},PArgs P w0 J γ ps vs d->vs.length=ps.length
 | [],vs,d,h=>by
  have h:vs= []:=h
  subst h;rfl
 | p::ps,vs,d,h=>by
  obtain ⟨v,r,rfl,h1,h3⟩:=h
  simpa using yp h3
end
def LN (tt:TT) (s:Sg):ResultVar->Option AV
 | .tmp t=>look s.env t
 | .cell p T=>(Gp (look s.env p)).bind fun h=>(td tt T).bind fun d=>(n8 h s.chs).bind fun b=>bg (Nat.beq b.cells.length d.n) (O3 d.agg b.cells)
theorem LO {v:Option AV} {h:Hdr} (k:Gp v=some h):v=some (.one (.ptr h 0)):=by
 unfold Gp at k
 split at k
 ·rename_i h' off
  split at k
  ·rename_i ho
   rw[aj ho,ae k]
  ·cases k
 ·cases k
section
variable {P:Program} {I:Hp} {w0 w:World} {F:Ch} {J:Hp} {θ:Th} {n:Nat} {s:Sg} {a:Act} {tt:TT}
theorem LP (ha:Agr n a (envL θ s)) {t g:Nat} {T E:TypeId} {v:Value} {cs:List Ch} (h:(envL θ s).lookup t=some (.pointer (some ⟨g,0,none⟩))) (hs:St J w0 w cs) (i:Nat) (hi:cs[i]? =some (Ch.blk g [v] E)) (hT:TI P T false 1):zh P a w (.cell t T) v:=by
 refine ⟨_,ha.2.2 t _ h,?_⟩
 have hg:=hs.heap i hi
 have hc:w.cell? ⟨g,0,none⟩=some v:=by simp[World.cell?,hg]
 simp[loadVar,Sem.run_bind,hT.run_agg,load,Sem.run,hc,Result.andThen]
theorem Ig (hT:TTok P tt) (hS:Sim P I w0 F n J θ s a w) {r:ResultVar} {v:AV} (h:LN tt s r=some v):zh P a w r (v.v θ)/\v.ok P w0 J θ s.nxt s.chs:=by
 cases r with
 | tmp t=>exact ⟨Kk hS.agr (dR h),aX (x:=.tmp t) hS.fine h⟩
 | cell p T =>
  obtain ⟨hh,h1,h⟩:=bind_some (show (Gp (look s.env p)).bind _=some v from h)
  obtain ⟨d,hd,h⟩:=bind_some h
  obtain ⟨b,hb,h⟩:=bind_some h
  obtain ⟨hl,h⟩:=ai h
  have hl:=aj hl
  have hp:=gp hb
  have hok:=hS.fine.chs _ (hp.mem_iff.2 (List.mem_cons_self ..))
  obtain ⟨k1,k2⟩:=DO (chs:=s.chs) h hok.2.2
  refine ⟨?_,k1⟩
  have hlk:(envL θ s).lookup p=some (.pointer (some ⟨bk (hv θ hh),0,none⟩)):=dR (LO h1)
  have hst:=hS.st.perm ((hp.map (toCh P θ)).append_right [F])
  have hti:=(hT.get hd).ti
  cases hagg:d.agg with
  | true =>
   rw[hagg] at k2 hti
   rw[<-k2]
   exact Gu hS.agr hlk hst 0 rfl hti (by rw[List.length_map];exact hl)
  | false =>
   rw[hagg] at k2 hti h
   have h1':d.n=1:=by
    have:=(hT.get hd).one
    rw[hagg] at this
    simpa using this
   obtain ⟨x,hx⟩:=List.length_eq_one_iff.1 (hl.trans h1')
   rw[h1'] at hti
   rw[hx] at k2
   rw[<-k2]
   have hst2:St J w0 w (Ch.blk (bk (hv θ hh)) [x.v θ] b.T::(b.rest.map (toCh P θ)++ [F])):=by
    have:(toCh P θ (b.ent hh))=Ch.blk (bk (hv θ hh)) (b.cells.map (·.v θ)) b.T:=rfl
    rw[hx] at this
    rw[<-show toCh P θ (b.ent hh)=Ch.blk (bk (hv θ hh)) [x.v θ] b.T from this]
    exact hst
   exact LP hS.agr hlk hst2 0 rfl hti
end
def Aa:(ts:List Ty)->List AV->List Ent->Option (fC ts×List Ent×List Ent)
 | [],[],chs=>some ((),[],chs)
 | t::ts,v::vs,chs=>bg (o8 v==t.isProd) ((fS v).bind fun cs=>(cq t cs chs).bind fun q=>bg q.cells.isEmpty ((Aa ts vs q.rest).bind fun r=>some ((q.d,r.1),q.used++r.2.1,r.2.2)))
 | _,_,_=>none
def qm:(ts:List Ty)->List Value->fC ts->List Ch
 | t::ts,v::vs,d=>Ch.own t.rep (fD t.isProd v) d.1::qm ts vs d.2
 | _,_,_=>[]
theorem uQ {P:Program} {w0:World} {J:Hp} {θ:Th} {n:Nat} {chs0:List Ent} : ∀ {ts:List Ty} {vs:List AV} {chs:List Ent} {r:fC ts×List Ent×List Ent},Aa ts vs chs=some r->(∀v∈vs,v.ok P w0 J θ n chs0)->
  chs.Perm (r.2.1++r.2.2)/\vs.length=ts.length/\kg J (r.2.1.map (toCh P θ)) (qm ts (vs.map (·.v θ)) r.1)/\ ∀(i:Nat) t v,ts[i]? =some t->vs[i]? =some v->jR (v.v θ)=t.isProd
 | [],[],chs,r,h,_=>by
  obtain rfl:=ae (show some _=some r from h)
  exact ⟨List.Perm.refl _,rfl,oT,fun i t v ht=>by simp at ht⟩
 | t::ts,v::vs,chs,r,h,hv'=>by
  obtain ⟨ha,h⟩:=ai (show bg (o8 v==t.isProd) _=some r from h)
  have ha:o8 v=t.isProd:=by simpa using ha
  obtain ⟨cs,hcs,h⟩:=bind_some h
  obtain ⟨q,hq,h⟩:=bind_some h
  obtain ⟨he,h⟩:=ai h
  obtain ⟨r',hr,h⟩:=bind_some h
  obtain rfl:=ae h
  obtain ⟨c1,c2⟩:=fq hcs (hv' v (by simp))
  obtain ⟨p,cc,e1,e2⟩:=fT (J:=J) (θ:=θ) hq c1
  rw[List.isEmpty_iff.1 he,List.append_nil] at e1
  subst e1
  obtain ⟨k1,k2,k3,k4⟩:=uQ hr fun x hx=>hv' x (by simp[hx])
  have hcell:fD t.isProd (v.v θ)=cs.map (·.v θ)/\jR (v.v θ)=t.isProd:=by
   rw[<-ha]
   cases v with
   | agg xs =>
    obtain rfl:=ae (show some xs=some cs from hcs)
    exact ⟨rfl,rfl⟩
   | one x =>
    obtain rfl:=ae (show some [x] =some cs from hcs)
    refine ⟨rfl,?_⟩
    have h1:(x.v θ).oneCell'=true:=LV.one (show LV.ok P w0 J θ n x from hv' (.one x) (by simp))
    show jR (x.v θ)=false
    generalize x.v θ=u at h1
    cases u <;> first | rfl | cases h1
   | _=>cases hcs
  refine ⟨by rw[ah];exact p.trans (k1.append_left _),by rw[au,au,k2],?_,fun i t' v' ht hv0=>?_⟩
  ·show kg J ((q.used++r'.2.1).map _) (Ch.own t.rep (fD t.isProd (v.v θ)) q.d::qm ts (vs.map _) r'.1)
   rw[aI,hcell.1]
   exact mq e2 k3
  ·cases i with
   | zero =>
    obtain rfl:t=t':=by simpa using ht
    obtain rfl:v=v':=by simpa using hv0
    exact hcell.2
   | succ i=>exact k4 i t' v' (by simpa using ht) (by simpa using hv0)
 | [],_::_,chs,r,h,_=>by cases h
 | _::_,[],chs,r,h,_=>by cases h
def OS:List Value->Value
 | [v] =>v
 | vs=>.tuple vs.toArray
def BF (P:Program) (a:Act) (w:World):List ResultVar->List Value->Prop
 | [],vs=>vs= []
 | r::rs,vs=> ∃v us,vs=v::us/\zh P a w r v/\BF P a w rs us
theorem qS {P:Program} {a:Act} {w:World} {f:ResultVar->Sem Value} (hf: ∀r v,zh P a w r v->(f r).run P w= .ok v w): ∀ {l:List ResultVar} {vs:List Value},BF P a w l vs->(l.mapM f).run P w= .ok vs w
 | [],vs,h=>by
  have h:vs= []:=h
  subst h
  rw[List.mapM_nil];rfl
 | r::l,vs,h=>by
  obtain ⟨v,us,rfl,h1,h2⟩:=h
  rw[List.mapM_cons,Sem.run_bind,hf r v h1]
  simp only[Result.andThen_ok,Sem.run_bind,qS hf h2]
  rfl
def OT (a:Act) (r:ResultVar):Sem Value:=match r with
 | .tmp t=>pure (a.tmps.getD t undef)
 | .cell p t=>do loadVar t (<-asAddr (a.tmps.getD p undef))
theorem LQ {P:Program} {a:Act} {w:World} {r:ResultVar} {v:Value} (h:zh P a w r v):(OT a r).run P w= .ok v w:=by
 cases r with
 | tmp t =>
  have h:a.tmps.getD t undef=v:=h
  show (pure (a.tmps.getD t undef):Sem Value).run P w=_
  rw[h];rfl
 | cell p T =>
  obtain ⟨A,h1,h2⟩:=h
  show ((asAddr (a.tmps.getD p undef)) >>=fun x=>loadVar T x).run P w=_
  rw[h1,Sem.run_bind]
  show Result.andThen (.ok A w) _=_
  rw[Result.andThen_ok];exact h2
theorem NJ {P:Program} {n:Nat} {a:Act} {w:World} {L:List (Nat×Value)} {fn:Func} {R:Ending->World->Prop} {vs:List Value} (ha:Agr n a L) (h:BF P a w fn.results.toList vs) (hR:R (.returned (OS vs)) w):bodyPost P fn R .ret a w:=by
 refine ⟨ha.1,OS vs,?_,hR⟩
 have hr:((fn.results.mapM (OT a)):Sem (Array Value)).run P w= .ok vs.toArray w:=by
  rw[Array.mapM_eq_mapM_toList]
  have:=qS (f:=OT a) (fun r v=>LQ) h
  simp[this,Sem.run_map]
 show ((fn.results.mapM (OT a)) >>=fun vs=>pure (if h:vs.size=1 then vs[0] else .tuple vs):Sem Value).run P w=_
 rw[Sem.run_bind,hr,Result.andThen_ok]
 match vs with
 | [] =>rfl
 | [v] =>rfl
 | _::_::_=>rfl
def cW (g0:Nat):(i:Nat)->(ps:List PM)->denP ps->List Ent->Option (fC (outs ps)×List Ent×List Ent)
 | _,[],_,chs=>some ((),[],chs)
 | i,.ow t::ps,d,chs=>(cq t (gr i [] t d.1).2 chs).bind fun q=>bg q.cells.isEmpty ((cW g0 (i+1) ps d.2 q.rest).bind fun r=>some ((q.d,r.1),q.used++r.2.1,r.2.2))
 | i,.ptr T t::ps,d,chs=>(so ⟨i,[]⟩ T t chs).bind fun q=>(cW g0 (i+1) ps d.2 q.2.2).bind fun r=>some ((q.1,r.1),q.2.1++r.2.1,r.2.2)
 | i,.rd _::ps,d,chs=>cW g0 (i+1) ps d.2 chs
 | i,.fn _ _::ps,d,chs=>cW g0 (i+1) ps d.2 chs
 | i,.eat _::ps,d,chs=>cW g0 (i+1) ps d.2 chs
 | i,.cap _ _::ps,d,chs=>cW g0 (i+1) ps d.2 chs
 | i,.capf _ _ _::ps,d,chs=>cW g0 (i+1) ps d.2 chs
 | i,.fk _::ps,d,chs=>cW g0 (i+1) ps d.2 chs
 | i,.crs T E::ps,d,chs=>(oc ⟨i,[]⟩ T E chs).bind fun q=>bg (Hdr.beq q.g ⟨g0,[]⟩) ((cW g0 (i+1) ps d.2 q.rest).bind fun r=>some ((q.d.2,r.1),q.ent::r.2.1,r.2.2))
theorem c9 {P:Program} {w0:World} {J J':Hp} {θ θ':Th} {n n':Nat} {chs0:List Ent} (hJ:J.le J') (hs:Same n θ θ') {γ:Value} {g0:Nat} (hg0:g0<n) (hγ:θ g0=γ): ∀ {ps:List PM} {i:Nat} {d:denP ps} {chs:List Ent} {vs:List Value} {r:fC (outs ps)×List Ent×List Ent},cW g0 i ps d chs=some r->vs.length=ps.length->StF P w0 J θ n i ps vs d->(∀e∈chs,okE P w0 J' θ' n' chs0 e)->
  chs.Perm (r.2.1++r.2.2)/\kg J' (r.2.1.map (toCh P θ')) (outCh γ ps vs r.1)
 | [],i,d,chs,vs,r,h,_,_,_=>by
  obtain rfl:=ae (show some _=some r from h)
  exact ⟨List.Perm.refl _,oT⟩
 | p::ps,i,d,chs,[],r,h,hl,_,_=>by cases hl
 | .ow t::ps,i,d,chs,v::vs,r,h,hl,hF,hc=>by
  obtain ⟨q,hq,h⟩:=bind_some (show (cq t (gr i [] t d.1).2 chs).bind _=some r from h)
  obtain ⟨he,h⟩:=ai h
  obtain ⟨r',hr,h⟩:=bind_some h
  obtain rfl:=ae h
  obtain ⟨⟨k1,k2⟩,k3⟩:=hF
  obtain ⟨p,cc,e1,e2⟩:=fT (P:=P) (w0:=w0) (J:=J') (θ:=θ') (n:=n) hq fun x hx=>LV.ok_same hs (aB _) (k2 x hx) hJ
  rw[List.isEmpty_iff.1 he,List.append_nil] at e1
  subst e1
  rw[eg hs k2,k1] at e2
  obtain ⟨q1,q2⟩:=c9 hJ hs hg0 hγ hr (by simpa using hl) k3 fun e he=>hc e (p.mem_iff.2 (by simp[he]))
  refine ⟨by rw[ah];exact p.trans (q1.append_left _),?_⟩
  show kg J' ((q.used++r'.2.1).map _) (Ch.own t.rep (fD t.isProd v) q.d::outCh γ ps vs r'.1)
  rw[aI]
  exact mq e2 q2
 | .ptr T t::ps,i,d,chs,v::vs,r,h,hl,hF,hc=>by
  obtain ⟨q,hq,h⟩:=bind_some (show (so ⟨i,[]⟩ T t chs).bind _=some r from h)
  obtain ⟨r',hr,h⟩:=bind_some h
  obtain rfl:=ae h
  obtain ⟨⟨k1,k2⟩,k3⟩:=hF
  obtain ⟨p,hb⟩:=uA (P:=P) (w0:=w0) (J:=J') (J':=J') (θ:=θ') hq Hp.le.rfl hc
  obtain ⟨q1,q2⟩:=c9 hJ hs hg0 hγ hr (by simpa using hl) k3 fun e he=>hc e (p.mem_iff.2 (by simp[he]))
  refine ⟨by rw[ah];exact p.trans (q1.append_left _),?_⟩
  show kg J' ((q.2.1++r'.2.1).map _) (Ch.box (bk v) T t.rep q.1::outCh γ ps vs r'.1)
  rw[aI]
  have hh:hv θ' ⟨i,[]⟩=v:=(aP hs (show (⟨i,[]⟩:Hdr).id<n from k2)).trans k1
  rw[hh] at hb
  intro w F hsp
  obtain ⟨G,K,rfl,h1,h2⟩:=hsp.split
  exact ⟨G,K,rfl,hb w G h1,q2 w K h2⟩
 | .rd t::ps,i,d,chs,v::vs,r,h,hl,hF,hc=>c9 (ps:=ps) hJ hs hg0 hγ (show cW g0 (i+1) ps d.2 chs=some r from h) (by simpa using hl) hF.2 hc
 | .fn _ _::ps,i,d,chs,v::vs,r,h,hl,hF,hc=>c9 (ps:=ps) hJ hs hg0 hγ (show cW g0 (i+1) ps d.2 chs=some r from h) (by simpa using hl) hF.2 hc
 | .eat _::ps,i,d,chs,v::vs,r,h,hl,hF,hc=>c9 (ps:=ps) hJ hs hg0 hγ (show cW g0 (i+1) ps d.2 chs=some r from h) (by simpa using hl) hF.2 hc
 | .cap _ _::ps,i,d,chs,v::vs,r,h,hl,hF,hc=>c9 (ps:=ps) hJ hs hg0 hγ (show cW g0 (i+1) ps d.2 chs=some r from h) (by simpa using hl) hF.2 hc
 | .capf _ _ _::ps,i,d,chs,v::vs,r,h,hl,hF,hc=>c9 (ps:=ps) hJ hs hg0 hγ (show cW g0 (i+1) ps d.2 chs=some r from h) (by simpa using hl) hF.2 hc
 | .fk _::ps,i,d,chs,v::vs,r,h,hl,hF,hc=>c9 (ps:=ps) hJ hs hg0 hγ (show cW g0 (i+1) ps d.2 chs=some r from h) (by simpa using hl) hF.2 hc
 | .crs T E::ps,i,d,chs,v::vs,r,h,hl,hF,hc=>by
  obtain ⟨q,hq,h⟩:=bind_some (show (oc ⟨i,[]⟩ T E chs).bind _=some r from h)
  obtain ⟨hb,h⟩:=ai h
  obtain ⟨r',hr,h⟩:=bind_some h
  obtain rfl:=ae h
  obtain ⟨⟨k1,k2⟩,k3⟩:=hF
  obtain ⟨p,ver,he⟩:=jb hq
  obtain ⟨q1,q2⟩:=c9 hJ hs hg0 hγ hr (by simpa using hl) k3 fun e he=>hc e (p.mem_iff.2 (by simp[he]))
  refine ⟨p.trans (q1.cons _),?_⟩
  have hh:hv θ' ⟨i,[]⟩=v:=(aP hs (show (⟨i,[]⟩:Hdr).id<n from k2)).trans k1
  have hg:hv θ' q.g=γ:=by
   rw[Hdr.beq_eq hb]
   show vg (θ' g0) [] =γ
   rw[hs g0 hg0,hγ];rfl
  show kg J' (toCh P θ' q.ent::r'.2.1.map _) (Ch.blk (bk v) [γ,.int .i64 q.d.2.1,.int .i64 q.d.2.2] T::outCh γ ps vs r'.1)
  rw[he]
  intro w F hsp
  obtain ⟨G,K,rfl,h1,h2⟩:=hsp
  have h1:(Ch.blk (bk (hv θ' ⟨i,[]⟩)) [hv θ' q.g,.int .i64 q.d.2.1,.int .i64 q.d.2.2] T).holds J' w G:=h1
  rw[hh,hg] at h1
  exact ⟨G,K,rfl,h1,q2 w K h2⟩
def ofH:(ts:List Ty)->fC ts->dens ts
 | [],_=>()
 | [_],d=>d.1
 | _::u::ts,d=>(d.1,ofH (u::ts) d.2)
theorem Ab: ∀(ts:List Ty) (d:fC ts),toH ts (ofH ts d)=d
 | [],_=>rfl
 | [_],_=>rfl
 | _::u::ts,d=>congrArg (Prod.mk d.1) (Ab (u::ts) d.2)
def sO:(ts us:List Ty)->fC ts->fC us->fC (ts++us)
 | [],_,_,e=>e
 | _::ts,us,d,e=>(d.1,sO ts us d.2 e)
theorem wu: ∀(ts us:List Ty) (d:fC ts) (e:fC us),hFst ts us (sO ts us d e)=d
 | [],_,_,_=>rfl
 | _::ts,us,d,e=>congrArg (Prod.mk d.1) (wu ts us d.2 e)
theorem BG: ∀(ts us:List Ty) (d:fC ts) (e:fC us),hSnd ts us (sO ts us d e)=e
 | [],_,_,_=>rfl
 | _::ts,us,d,e=>BG ts us d.2 e
def sP (tt:TT) (s:Sg):List ResultVar->Option (List AV)
 | [] =>some []
 | r::rs=>(LN tt s r).bind fun v=>(sP tt s rs).bind fun vs=>some (v::vs)
def Ac (s:Sg):List AV->List Hdr
 | [] =>[]
 | v::vs=>sD v++Ac s vs
def rF:List Ent->List Hdr
 | [] =>[]
 | e::l=>match e.2.2 with
  | .hole _ _ _ _ _ _ _ _ _ _=>e.1::rF l
  | _=>rF l
def NK:List AV->List (Bool×Hdr)
 | [] =>[]
 | v::vs=>P3 true v++NK vs
def yq (tr:Trs) (vs:List AV) (s:Sg):Sg:=match tr with
 | [] =>s
 | _=>Hl tr (NK vs) s
def Ih (tr:Trs) (vs:List AV) (s0:Sg):Sg:=match yq tr vs s0 with
 | s=>pe (Ac s0 vs++rF s.chs) s
def nlN:List AV->(ts:List Ty)->fC ts->Int
 | [.one (.own _)],[.sl _ t],d=>((List.length (α:=t.den) d.1:Nat):Int)
 | [.one (.val v)],[.sl _ _],_=>match isNil v with
  | true=>1
  | false=>0
 | _,_,_=>0
def NL (an:List (Nat×Ty)) (vs:List AV) (ts:List Ty) (d:fC ts):Option Unit:=match uL 1000000 an with
 | true=>chk (0<nlN vs ts d)
 | false=>some ()
theorem NM {vs:List AV} {ts:List Ty} {d:fC ts} {θ:Th} (h:0<nlN vs ts d) {v:Value} (hv:vs.map (·.v θ)= [v]):si ts d v:=by
 unfold nlN at h
 split at h
 ·intro h0
  omega
 ·split at h
  ·rename_i h1
   intro _
   have:=iO h1
   subst this
   simpa [AV.v,LV.v] using hv.symm
  ·omega
 ·omega
def Ii (V:Env) (rvs:List ResultVar) (rs:List Ty) (ps:List PM) (d:denP ps) (s00:Sg):Option (dens (rs++outs ps)):=(sP V.tt s00 rvs).bind fun vs00=>Hu vs00 s00 fun s0=>(sP V.tt s0 rvs).bind fun vs0=>match Ih V.tr vs0 s0 with
 | s=>(sP V.tt s rvs).bind fun vs=>(Aa rs vs s.chs).bind fun r=>(cW ps.length 0 ps d r.2.2).bind fun o=>(NL V.an vs rs r.1).bind fun _=>some (ofH _ (sO rs (outs ps) r.1 o.1))
end R
namespace R
open Go.RowKit
open D
theorem uR {vs:List Value} : ∀ {ts:List Ty} {i:Nat} {us:List Value} {d:fC ts},us.length=ts.length->(∀j v,us[j]? =some v->vs[i+j]? =some v)->oV i ts d (.tuple vs.toArray)=qm ts us d
 | [],i,us,d,h,_=>by
  cases us with
  | nil=>rfl
  | cons _ _=>cases h
 | t::ts,i,[],d,h,_=>by cases h
 | t::ts,i,u::us,d,h,k=>by
  have h0:vg (.tuple vs.toArray) [i] =u:=by
   show vs.toArray.getD i undef=u
   have:=k 0 u rfl
   rw[Nat.add_zero] at this
   simp[Array.getD_eq_getD_getElem?,this]
  show Ch.own t.rep (fD t.isProd (vg (.tuple vs.toArray) [i])) d.1::oV (i+1) ts d.2 _=Ch.own t.rep (fD t.isProd u) d.1::qm ts us d.2
  rw[h0,uR (us:=us) (by simpa using h) fun j v hj=>by
   have:=k (j+1) v (by simpa using hj)
   rwa [show i+(j+1)=i+1+j from by omega] at this]
theorem CI {ts:List Ty} {vs:List Value} {d:fC ts} (h:vs.length=ts.length):resGv ts d (OS vs)=qm ts vs d:=by
 match ts,vs,d,h with
 | [],[],d,_=>rfl
 | [t],[v],d,_=>rfl
 | t::u::ts,v::w::vs,d,h =>
  show oV 0 _ d (.tuple (v::w::vs).toArray)=_
  exact uR h fun j x hj=>by rw[Nat.zero_add];exact hj
theorem Ij {ts:List Ty} {vs:List Value} (h:vs.length=ts.length) (k: ∀(i:Nat) t v,ts[i]? =some t->vs[i]? =some v->jR v=t.isProd):resFa ts (OS vs):=by
 match ts,vs,h with
 | [],[],_=>exact ⟨#[],rfl,rfl,fun i t ht=>by simp at ht⟩
 | [t],[v],_=>exact k 0 t v rfl rfl
 | t::u::ts,v::w::vs,h =>
  refine ⟨(v::w::vs).toArray,rfl,by simpa using h,fun i t' ht=>?_⟩
  have hlt:i<(v::w::vs).length:=by rw[h];exact (List.getElem?_eq_some_iff.1 ht).1
  have:=k i t' ((v::w::vs)[i]) ht (List.getElem?_eq_getElem hlt)
  rw[<-this,Array.getD_eq_getD_getElem?,List.getElem?_toArray,List.getElem?_eq_getElem hlt];rfl
theorem pj {P:Program} {I:Hp} {w0 w:World} {F:Ch} {J:Hp} {θ:Th} {n:Nat} {s:Sg} {a:Act} {tt:TT} (hT:TTok P tt) (hS:Sim P I w0 F n J θ s a w): ∀ {rs:List ResultVar} {vs:List AV},sP tt s rs=some vs->BF P a w rs (vs.map (·.v θ))/\ ∀v∈vs,v.ok P w0 J θ s.nxt s.chs
 | [],vs,h=>by
  obtain rfl:=ae (show some [] =some vs from h)
  exact ⟨rfl,fun v hv=>by cases hv⟩
 | r::rs,vs,h=>by
  obtain ⟨v,hv',h⟩:=bind_some (show (LN tt s r).bind _=some vs from h)
  obtain ⟨us,hus,h⟩:=bind_some h
  obtain rfl:=ae h
  obtain ⟨k1,k2⟩:=Ig hT hS hv'
  obtain ⟨q1,q2⟩:=pj hT hS hus
  refine ⟨⟨_,_,rfl,k1,q1⟩,fun x hx=>?_⟩
  rcases ax hx with rfl | hx
  ·exact k2
  ·exact q2 x hx
theorem Fg {J:Hp} {a b c d:List Ch} (h:kg J a b) (k:kg J c d):kg J (a++c) (b++d):=fun w F hs=>by
 obtain ⟨G,K,rfl,e1,e2⟩:=hs.split
 exact (h w G e1).append (k w K e2)
theorem St.sepTo {J:Hp} {w0 w:World} {a b C:List Ch} (h:St J w0 w (a++C)) (k:kg J a b):St J w0 w (b++C):=by
 obtain ⟨h1,h2,F,h3,h4,h5⟩:=h
 obtain ⟨G,K,rfl,e1,e2⟩:=h3.split
 exact ⟨h1,h2,G++K,(k w G e1).append e2,h4,h5⟩
theorem uS {P:Program} {n:Nat} {I:Hp} {w0:World} {k:FuncId} {fn:Func} {c:Code} {args:Array Value} {rn:List Ch} {fact:Value->Prop} {gv:Value->List Ch} (L:List (Nat×Value)) (hf:P.funcs[k]? =some fn) (hb:fn.body=some c) (hn:fn.ntmps=n) (hm:args.size<=n) (hL: ∀p∈L,args[p.1]? =some p.2)
  (h: ∀F w a,Agr n a L->St I w0 w (rn++ [F])->c.wp P (bodyPost P fn fun e w'=> ∃v,e= .returned v/\fact v/\ ∃J,I.le J/\St J w0 w' (gv v++ [F])) a w) (hd: ∀v,Ch.back (gv v)):Con P k args I w0 rn fact gv:=by
 intro w C hs
 have hs':St I w0 w (rn++ [Ch.fr I C]):=by
  obtain ⟨hb,hi,F,h1,h2,h3⟩:=hs
  obtain ⟨G,K,rfl,e1,e2⟩:=h1.split
  exact ⟨hb,hi,G++K,e1.append ⟨K,[],by simp,e2,rfl⟩,h2,h3⟩
 have:=h (Ch.fr I C) w { tmps:=args++Array.replicate (fn.ntmps - args.size) undef,defers:=[] } (Agr.start L (by omega) hL) hs'
 refine (calls_of_wp hf hb this).mono ?_
 rintro e w' ⟨v,rfl,hv,J,hJ,hs⟩
 exact ⟨v,rfl,hv,hs.back hJ (hd v)⟩
theorem Ik {P:Program} {I:Hp} {w0 w:World} {F:Ch} {n:Nat} {J:Hp} {θ:Th} {s:Sg} {a:Act} {tr:Trs} {vs:List AV} (hS:Sim P I w0 F n J θ s a w): ∃J' θ',J.le J'/\Sim P I w0 F n J' θ' (Ih tr vs s) a w/\Fr s θ (Ih tr vs s) θ':=by
 have key: ∃J' θ',J.le J'/\Sim P I w0 F n J' θ' (yq tr vs s) a w/\Fr s θ (yq tr vs s) θ':=by
  unfold yq
  split
  ·exact ⟨J,θ,Hp.le.rfl,hS,Fr.rfl⟩
  ·exact oe hS
 obtain ⟨J',θ',h1,h2,h3⟩:=key
 obtain ⟨S2,F2⟩:=m8 (V:=⟨[],[],[],n,[]⟩) (hs:=Ac s vs++rF (yq tr vs s).chs) h2
 exact ⟨J',θ',h1,S2,h3.trans F2⟩
theorem NN {V:Env} {P:Program} {w0:World} {F:Ch} {J:Hp} {θ:Th} (hT:TTok P V.tt) {fn:Func} {rs:List Ty} {ps:List PM} {d:denP ps} {vs:List Value} {s0:Sg} (k0:vs.length=ps.length) (k5:StF P w0 J θ (ps.length+1) 0 ps vs d) (hn0:ps.length+1<=s0.nxt) {γ:Value} (hγ:θ ps.length=γ): ∀r J' θ' s' a' w',Ii V fn.results.toList rs ps d s'=some r->Sim P J w0 F V.n J' θ' s' a' w'->J.le J'->Fr s0 θ s' θ'->
  bodyPost P fn (fun e w'=> ∃v,e= .returned v/\(resFa rs v/\(uL 1000000 V.an=true->si rs (hFst rs (outs ps) (toH _ r)) v))/\ ∃J2,J.le J2/\St J2 w0 w' ((resGv rs (hFst rs (outs ps) (toH _ r)) v++outCh γ ps vs (hSnd rs (outs ps) (toH _ r)))++ [F])) .ret a' w':=by
 intro r J' θ' s' a' w' hrt hS' hJ hFr
 obtain ⟨vs00,hv00,hrt⟩:=bind_some (show (sP V.tt s' fn.results.toList).bind _=some r from hrt)
 obtain ⟨s0',hrt,S0,N0⟩:=Bm hrt (pj hT hS' hv00).2 hS'
 obtain ⟨vs0,hv0,hrt⟩:=bind_some hrt
 obtain ⟨J1,θ1,hJ1,S1,F1⟩:=Ik (tr:=V.tr) (vs:=vs0) S0
 generalize Ih V.tr vs0 s0'=s1 at hrt S1 F1
 have hle:s0.nxt<=s'.nxt:=hFr.1
 have hsame:Same (ps.length+1) θ θ1:=fun i hi=>(F1.same i (by omega)).trans (hFr.same i (by omega))
 replace hJ:=hJ.trans hJ1
 clear hJ1 F1 hS' S0 hFr
 revert J1 θ1
 clear J' θ'
 intro J' θ' S1 hsame hJ
 obtain ⟨us,hus,hrt⟩:=bind_some hrt
 obtain ⟨q,hq,hrt⟩:=bind_some hrt
 obtain ⟨o,ho,hrt⟩:=bind_some hrt
 obtain ⟨u0,hnl,hrt⟩:=bind_some hrt
 obtain rfl:=ae hrt
 obtain ⟨r1,r2⟩:=pj hT S1 hus
 obtain ⟨t1,t2,t3,t4⟩:=uQ (J:=J') (θ:=θ') hq r2
 obtain ⟨o1,o2⟩:=c9 (P:=P) (J:=J) (J':=J') (θ:=θ) (θ':=θ') (vs:=vs) (n:=ps.length+1) (n':=s1.nxt) (chs0:=s1.chs) hJ hsame (aq _) hγ ho k0 k5 fun e he=>S1.fine.chs e (t1.mem_iff.2 (by simp[he]))
 have hl:(us.map (·.v θ')).length=rs.length:=by rw[List.length_map];exact t2
 refine NJ S1.agr r1 ⟨_,rfl,⟨Ij hl fun i t v ht hv1=>?_,fun han=>?_⟩,J',hJ,?_⟩
 ·rw[List.getElem?_map] at hv1
  obtain ⟨x,hx,rfl⟩:=Option.map_eq_some_iff.1 hv1
  exact t4 i t x ht hx
 ·rw[Ab,wu]
  unfold NL at hnl
  rw[han] at hnl
  have hnl:0<nlN us rs q.1:=aY hnl
  rcases us with _ | ⟨x,us⟩
  ·cases hnl
  ·cases us with
   | nil=>exact NM (θ:=θ') hnl rfl
   | cons y us=>unfold nlN at hnl;split at hnl <;> first | omega | simp_all
 ·rw[Ab,wu,BG,CI hl]
  have hp:=t1.trans (o1.append_left _)
  have h1:=S1.st.perm ((hp.map (toCh P θ')).append_right [F])
  have h2:St J' w0 w' ((q.2.1.map (toCh P θ')++o.2.1.map (toCh P θ'))++(o.2.2.map (toCh P θ')++ [F])):=by
   simpa [aI,ah] using h1
  have h3:=St.sepTo h2 (Fg t3 o2)
  refine St.left (ds:=o.2.2.map (toCh P θ')) (h3.perm ?_)
  simp only[ah]
  exact List.Perm.append_left _ (List.Perm.append_left _ List.perm_append_comm)
theorem Ad {V:Env} {P:Program} (hT:TTok P V.tt) (hF:FTok P V.ft) (hmx:P.follows .mixedOrders=true) {k:FuncId} {fn:Func} {c:Code} {f:FS} (hf:P.funcs[k]? =some fn) (hb:fn.body=some c) (hn:fn.ntmps=V.n) (hen:Enters P k) (hm:f.ps.length<=V.n) (hdp:(vT f.rs&&ra f.ps)=true) (ann:Ann)
  (hmod: ∀d,appP f.ps f.m d=gy V (Ii V fn.results.toList f.rs f.ps d) c ann (fun r=>some r) (fun _ _=>none) (Ii V fn.results.toList f.rs f.ps d) (lB (qQ f.ps d))): ∀w0 J γ vs (d:denP f.ps) r,Lay P J->PArgs P w0 J γ f.ps vs d->appP f.ps f.m d=some r->Con P k vs.toArray J w0 (owCh γ f.ps vs d) (fun v=>resFa f.rs v/\(uL 1000000 V.an=true->si f.rs (hFst f.rs (outs f.ps) (toH _ r)) v)) (fun v=>resGv f.rs (hFst f.rs (outs f.ps) (toH _ r)) v++outCh γ f.ps vs (hSnd f.rs (outs f.ps) (toH _ r))):=by
 rw[af] at hdp
 intro w0 J γ vs d r hlay ha hr
 rw[hmod] at hr
 have k0:=yp ha
 let θ:Th:=fun i=>if i=vs.length then γ else vs.getD i undef
 have hθ: ∀j v,vs[j]? =some v->θ (0+j)=v:=fun j v hj=>by
  show (if 0+j=vs.length then γ else vs.getD (0+j) undef)=v
  rw[Nat.zero_add,if_neg (Nat.ne_of_lt (List.getElem?_eq_some_iff.1 hj).1),List.getD_eq_getElem?_getD,hj];rfl
 have hθg:θ f.ps.length=γ:=by
  show (if f.ps.length=vs.length then γ else _)=γ
  rw[if_pos k0.symm]
 have hzip: ∀p∈(vs.zipIdx.map fun q=>(q.2,q.1)),vs.toArray[p.1]? =some p.2:=fun p hp=>by
  obtain ⟨q,hq,rfl⟩:=List.mem_map.1 hp
  obtain ⟨v,j⟩:=q
  have:=(List.mk_mem_zipIdx_iff_getElem? (x:=v) (i:=j)).1 hq
  simpa using this
 refine uS (n:=V.n) (vs.zipIdx.map fun q=>(q.2,q.1)) hf hb hn (by rw[List.size_toArray,k0];exact hm) hzip (fun F w a hA hst=>?_) (fun v=>uC (cU _ _ _ hdp.2) _ _ hdp.1)
 ·obtain ⟨k1,k2,k3,k4,k5⟩:=BE (n:=f.ps.length+1) (q:=f.ps.length) (C:=[F]) (aq _) hθg ha hθ (by omega) hst
  have hfine:Fine P w0 J θ (qQ f.ps d):=⟨fun e he=>(k1 e he).1 _,fun e he=>by have:=k1 e he;show e.2.1<f.ps.length+1;omega,k2,fun e he=>k4 e he _,hlay⟩
  have hA':Agr V.n a (envL θ (qQ f.ps d)):=hA.pick _ fun p hp=>by
   obtain ⟨e,he,rfl⟩:=List.mem_map.1 hp
   have h5:=(k1 e he).2.2.2.2
   rw[Nat.sub_zero] at h5
   have key: ∀(l:List Value) (k:Nat) (i:Nat) (v:Value),k<=i->l[i - k]? =some v->((l.zipIdx k).map fun q=>(q.2,q.1)).lookup i=some v:=by
    intro l
    induction l with
    | nil=>intro k i v _ h;simp at h
    | cons x l ih =>
     intro k i v hk h
     simp only[List.zipIdx_cons,List.map_cons,List.lookup_cons]
     by_cases e:i=k
     ·subst e
      simp at h
      simp[h]
     ·have:(i==k)=false:=by simpa using e
      rw[this]
      refine ih (k+1) i v (by omega) ?_
      rw[show i - k=(i - (k+1))+1 from by omega] at h
      simpa using h
   exact key vs 0 e.1 _ (Nat.zero_le _) h5
  have hS:Sim P J w0 F V.n J θ (qQ f.ps d) a w:=⟨Hp.le.rfl,hA',k3,hfine⟩
  have fin:=NN (rs:=f.rs) (fn:=fn) (F:=F) hT k0 k5 (aB (qQ f.ps d).nxt) hθg
  obtain ⟨θ0,hS0,hFr0⟩:=ry hS
  exact (sN (I:=J) (w0:=w0) (F:=F) hT hF hmx c).1 ann hr hS0 (fun J' θ' s' a' w' hk S' hJ hFr=>fin r J' θ' s' a' w' hk S' hJ (hFr0.trans hFr)) (fun i J' θ' s' a' w' hk=>by cases hk) (fun r' J' θ' s' a' w' hrt hrr hS' hJ hFr=>by
   obtain rfl:=ae hrr
   exact fin _ J' θ' s' a' w' hrt hS' hJ (hFr0.trans hFr))
theorem fok {V:Env} {P:Program} (hT:TTok P V.tt) (hF:FTok P V.ft) (hmx:P.follows .mixedOrders=true) {k:FuncId} {fn:Func} {c:Code} {f:FS} (hf:P.funcs[k]? =some fn) (hb:fn.body=some c) (hn:fn.ntmps=V.n) (hen:Enters P k) (hcl:f.cl=none) (hm:f.ps.length<=V.n) (hdp:(vT f.rs&&ra f.ps)=true) (ann:Ann)
  (hmod: ∀d,appP f.ps f.m d=gy V (Ii V fn.results.toList f.rs f.ps d) c ann (fun r=>some r) (fun _ _=>none) (Ii V fn.results.toList f.rs f.ps d) (lB (qQ f.ps d))):FOk P k f:=
 ⟨fun q hq=>by (rw[hcl] at hq;cases hq),fun _=>hen,fun _ w0 J γ vs d r hlay ha hr w C hs=>(Ad hT hF hmx hf hb hn hen hm hdp ann hmod w0 J γ vs d r hlay ha hr w C hs).mono fun e w' ⟨v,h1,h2,h3⟩=>⟨v,h1,h2.1,h3⟩⟩
theorem Qq {V:Env} {P:Program} (hT:TTok P V.tt) (hF:FTok P V.ft) (hmx:P.follows .mixedOrders=true) {k:FuncId} {fn:Func} {c:Code} {f:FS} (hf:P.funcs[k]? =some fn) (hb:fn.body=some c) (hn:fn.ntmps=V.n) (hen:Enters P k) (hcl:f.cl=some (0,7)/\uL 1000000 V.an=true) (hm:f.ps.length<=V.n) (hdp:(vT f.rs&&ra f.ps)=true) (ann:Ann)
  (hmod: ∀d,appP f.ps f.m d=gy V (Ii V fn.results.toList f.rs f.ps d) c ann (fun r=>some r) (fun _ _=>none) (Ii V fn.results.toList f.rs f.ps d) (lB (qQ f.ps d))):FOk P k f:=
 ⟨fun q hq=>by
  rw[hcl.1] at hq
  obtain rfl:=ae hq
  exact ⟨⟨fun e=>(by cases e),fun _ e=>(by cases e),fun e=>(by cases e)⟩,(fun _ w0 J γ vs d r hlay ha hr w C hs=>(Ad hT hF hmx hf hb hn hen hm hdp ann hmod w0 J γ vs d r hlay ha hr w C hs).mono fun e w' ⟨v,h1,h2,h3⟩=>⟨v,h1,⟨h2.1,h2.2 hcl.2⟩,h3⟩),fun e=>(by cases e)⟩,fun _=>hen,fun _ w0 J γ vs d r hlay ha hr w C hs=>(Ad hT hF hmx hf hb hn hen hm hdp ann hmod w0 J γ vs d r hlay ha hr w C hs).mono fun e w' ⟨v,h1,h2,h3⟩=>⟨v,h1,h2.1,h3⟩⟩
def gk:Nat->Ty
 | 0=>.raw
 | n+1=>.prod .raw (gk n)
def l7:(n:Nat)->(gk n).den->List Value
 | 0,p=>[p.1]
 | n+1,p=>p.1.1::l7 n p.2
theorem mE: ∀n,(gk n).rep.size=n+1
 | 0=>rfl
 | n+1=>by
  show 1+(gk n).rep.size=_
  rw[mE n];omega
theorem BH {I:Hp} {w:World} : ∀(n:Nat) {cs:List Value} {p:(gk n).den} {F:List Nat},(gk n).rep.own I w cs p F->F= [] /\cs=l7 n p
 | 0,cs,p,F,h=>by
  obtain ⟨h1,h2⟩:=h
  exact ⟨h1,h2⟩
 | n+1,cs,p,F,⟨c,d,G,K,h1,h2,h3,h4⟩=>by
  obtain ⟨rfl,h5⟩:=h3
  obtain ⟨rfl,h6⟩:=BH n h4
  have h5:c= [p.1.1]:=h5
  subst h1;subst h2;subst h5
  exact ⟨rfl,by rw[h6];rfl⟩
theorem Fh: ∀(n:Nat) (cs:List Value),cs.length=n+1->(∀u∈cs,u.oneCell'=true)-> ∃p:(gk n).den,l7 n p=cs
 | 0,cs,hl,h1=>by
  obtain ⟨u,rfl⟩:=List.length_eq_one_iff.1 hl
  exact ⟨⟨u,h1 u (by simp)⟩,rfl⟩
 | n+1,u::cs,hl,h1=>by
  obtain ⟨p,hp⟩:=Fh n cs (by simpa using hl) (fun v hv=>h1 v (by simp[hv]))
  exact ⟨(⟨u,h1 u (by simp)⟩,p),by show u::l7 n p=_;rw[hp]⟩
theorem pn {P:Program} {k:FuncId} {f:FS} (h:Enters P k) (hc:f.cl=none) (hm: ∀d,appP f.ps f.m d=none):FOk P k f:=
 ⟨fun q hq=>by (rw[hc] at hq;cases hq),fun _=>h,fun _ _ _ _ _ d r _ _ hr=>by rw[hm d] at hr;cases hr⟩
end R
namespace R
open Go.RowKit
open D
theorem BJ {n:Nat} {α:Type} {R:Rep α} (hR:R.Sh) (h1:R.size=n+1) {I:Hp} {w:World} : ∀ {xs:List α} {cur:List Value} {K:List Nat},OwnEls R I w cur xs K-> ∃ps:List (gk n).den,K= [] /\OwnEls (gk n).rep I w cur ps [] /\All2 (fun p x=>R.rd I (l7 n p) x) ps xs
 | [],cur,K,h=>⟨[],h,rfl,.nil⟩
 | x::xs,cur,K,⟨c,rest,G,K1,e1,e2,e3,e4,e5⟩=>by
  obtain ⟨rfl,hrd⟩:=hR e4
  obtain ⟨p,rfl⟩:=Fh n c (e2.trans h1) (R.rd_one hrd)
  obtain ⟨ps,rfl,k2,k3⟩:=BJ hR h1 e5
  have hraw: ∀(m:Nat) (q:(gk m).den),(gk m).rep.own I w (l7 m q) q []:=by
   intro m
   induction m with
   | zero=>intro q;exact ⟨rfl,rfl⟩
   | succ m ih=>intro q;exact ⟨[q.1.1],l7 m q.2,[],[],rfl,rfl,⟨rfl,rfl⟩,ih q.2⟩
  exact ⟨p::ps,e3,⟨l7 n p,rest,[],[],e1,by rw[e2,h1,mE],rfl,hraw n p,k2⟩,.cons hrd k3⟩
theorem wv {n:Nat} {α:Type} {E:TypeId} {R:Rep α} (hR:R.Sh) (h1:R.size=n+1) {I:Hp} {w0 w:World} {C:List Ch} {v:Value} {xs:List α} (h:St I w0 w (Ch.own (ak E R) [v] xs::C)): ∃ps:List (gk n).den,All2 (fun p x=>R.rd I (l7 n p) x) ps xs/\St I w0 w (Ch.own (ak E (gk n).rep) [v] ps::C):=by
 obtain ⟨a1,a2,F,⟨G,K,rfl,⟨hl,k⟩,e⟩,a4,a5⟩:=h
 rcases k with ⟨hv',rfl,rfl⟩ | ⟨g,ofs,cap,cur,K1,hv',k1,k2,k3,k4,rfl,k5⟩
 ·exact ⟨[],.nil,a1,a2,[] ++K,⟨[],K,rfl,⟨Nat.zero_le _,.inl ⟨hv',rfl,rfl⟩⟩,e⟩,a4,a5⟩
 ·obtain ⟨ps,rfl,q1,q2⟩:=BJ hR h1 k5
  have hlen:=q2.length_eq
  exact ⟨ps,q2,a1,a2,[g] ++K,⟨[g],K,rfl,⟨by rw[hlen];exact hl,.inr ⟨g,ofs,cap,cur,[],by rw[hlen];exact hv',k1,by rw[hlen];exact k2,k3,by rw[h1] at k4;rw[mE];exact k4,rfl,q1⟩⟩,e⟩,a4,a5⟩
theorem yr {n:Nat} {α:Type} {R:Rep α} (hC:Cpy R R) (h1:R.size=n+1) {I:Hp} {w:World} : ∀ {ps:List (gk n).den} {xs:List α} {cur:List Value} {F:List Nat},OwnEls (gk n).rep I w cur ps F->All2 (fun p x=>R.rd I (l7 n p) x) ps xs->OwnEls R I w cur xs F
 | [],[],_,_,h,_=>h
 | p::ps,x::xs,cur,F,⟨c,rest,G,K,e1,e2,e3,e4,e5⟩,hh=>by
  cases hh with
  | cons hp hps =>
   obtain ⟨rfl,rfl⟩:=BH n e4
   exact ⟨l7 n p,rest,[],K,e1,by rw[e2,mE];exact h1.symm,e3,hC hp,yr hC h1 e5 hps⟩
 | [],_::_,_,_,_,hh=>by cases hh
 | _::_,[],_,_,_,hh=>by cases hh
theorem sQ {n:Nat} {α:Type} {E:TypeId} {R:Rep α} (hC:Cpy R R) (h1:R.size=n+1) {I:Hp} {w0 w:World} {C:List Ch} {v:Value} {xs:List α} {ps:List (gk n).den} (hp:All2 (fun p x=>R.rd I (l7 n p) x) ps xs) (h:St I w0 w (Ch.own (ak E (gk n).rep) [v] ps::C)):St I w0 w (Ch.own (ak E R) [v] xs::C):=by
 obtain ⟨a1,a2,F,⟨G,K,rfl,⟨hl,k⟩,e⟩,a4,a5⟩:=h
 have hlen:=hp.length_eq
 rcases k with ⟨hv',rfl,rfl⟩ | ⟨g,ofs,cap,cur,K1,hv',k1,k2,k3,k4,rfl,k5⟩
 ·cases hp
  exact ⟨a1,a2,[] ++K,⟨[],K,rfl,⟨Nat.zero_le _,.inl ⟨hv',rfl,rfl⟩⟩,e⟩,a4,a5⟩
 ·exact ⟨a1,a2,(g::K1)++K,⟨g::K1,K,rfl,⟨by rw[<-hlen];exact hl,.inr ⟨g,ofs,cap,cur,K1,by rw[<-hlen];exact hv',k1,by rw[<-hlen];exact k2,k3,by rw[mE] at k4;rw[h1];exact k4,rfl,yr hC h1 k5 hp⟩⟩,e⟩,a4,a5⟩
theorem sR {α β:Type} {p:α->β->Prop} : ∀ {xs:List α} {ys:List β} (n:Nat),All2 p xs ys->All2 p (xs.take n) (ys.take n)
 | _,_,0,_=>.nil
 | _,_,n+1,.nil=>.nil
 | _,_,n+1,.cons h k=>.cons h (sR n k)
theorem rG {α β:Type} {p:α->β->Prop} : ∀ {xs:List α} {ys:List β} {xs':List α} {ys':List β},All2 p xs ys->All2 p xs' ys'->All2 p (xs++xs') (ys++ys')
 | _,_,_,_,.nil,h=>h
 | _,_,_,_,.cons h k,h'=>.cons h (rG k h')
def OU {α:Type} (xs:List α) (i j:Int):Option (List α):=(chk (0<=i/\i<=j/\j<=(xs.length:Int))).bind fun _=>some (xs.take i.toNat++xs.drop j.toNat)
def OV {α:Type} (z:α) (p0s:List α) (p1i p2j:Int):Option (List α):=
 (chk (And (0<=p1i) (And (p1i<=p2j) (And (p2j<=(p0s.length:Int)) ((0+(p0s.length:Int))<=(p0s.length:Int)))))).bind fun _=>if p1i==p2j then (some p0s) else ((chk (And ((0:Int)<=0) (And (0<=p1i) ((0+p1i)<=(p0s.length:Int))))).bind fun _=>(chk (And (0<=p2j) (And (p2j<=((p0s.length:Int) - 0)) ((0+((p0s.length:Int) - 0))<=(p0s.length:Int))))).bind fun _=>(chk (And ((0+0:Int)=0) (And ((0+p1i)<=(0+p2j)) (And ((0+p2j)<=(0+((p0s.length:Int) - 0))) ((0+((p0s.length:Int) - 0))<=(p0s.length:Int)))))).bind fun _=>(chk (And (0<=(((0+p1i)+((0+((p0s.length:Int) - 0)) - (0+p2j))) - 0)) (And ((((0+p1i)+((0+((p0s.length:Int) - 0)) - (0+p2j))) - 0)<=(p0s.length:Int)) ((0+(p0s.length:Int))<=((jU p0s ((0+p1i).toNat) ((0+p2j).toNat) ((0+((p0s.length:Int) - 0)).toNat)).length:Int))))).bind fun _=>(chk (And ((0+(((0+p1i)+((0+((p0s.length:Int) - 0)) - (0+p2j))) - 0))<=(0+(p0s.length:Int))) ((0+(p0s.length:Int))<=((jU p0s ((0+p1i).toNat) ((0+p2j).toNat) ((0+((p0s.length:Int) - 0)).toNat)).length:Int)))).bind fun _=>some (((me (jU p0s ((0+p1i).toNat) ((0+p2j).toNat) ((0+((p0s.length:Int) - 0)).toNat)) ((0+(((0+p1i)+((0+((p0s.length:Int) - 0)) - (0+p2j))) - 0)).toNat) ((0+(p0s.length:Int)).toNat) z).take (((0+p1i)+((0+((p0s.length:Int) - 0)) - (0+p2j))).toNat)).drop ((0:Int).toNat)))
theorem chk_of {α:Type} {p:Prop} [Decidable p] {k:Unit->Option α} (h:p):(chk p).bind k=k ():=by
 unfold chk
 rw[if_pos h];rfl
theorem LR {α:Type} {z:α} {xs:List α} {i j:Int} (h1:0<=i) (h2:i<=j) (h3:j<=(xs.length:Int)):OV z xs i j=some (xs.take i.toNat++xs.drop j.toNat):=by
 have hsl:(jU xs ((0+i).toNat) ((0+j).toNat) ((0+((xs.length:Int) - 0)).toNat)).length=xs.length:=pa (by omega) (by omega) (by omega)
 unfold OV
 rw[chk_of (by omega)]
 by_cases hij:i=j
 ·subst hij
  rw[if_pos (by simp),List.take_append_drop]
 ·rw[if_neg (by simpa using hij),chk_of (by omega),chk_of (by omega),chk_of (by omega),chk_of (by rw[hsl];omega),chk_of (by rw[hsl];omega)]
  have hzl:(me (jU xs ((0+i).toNat) ((0+j).toNat) ((0+((xs.length:Int) - 0)).toNat)) ((0+(((0+i)+((0+((xs.length:Int) - 0)) - (0+j))) - 0)).toNat) ((0+(xs.length:Int)).toNat) z).length=xs.length:=by
   rw[mA (by omega) (by rw[hsl];omega),hsl]
  congr 1
  rw[show ((0:Int).toNat)=0 from rfl,List.drop_zero]
  apply List.ext_getElem?
  intro q
  have hi:(xs.take i.toNat).length=i.toNat:=by rw[aA];omega
  rw[List.getElem?_take]
  by_cases c:q<((0+i)+((0+((xs.length:Int) - 0)) - (0+j))).toNat
  ·rw[if_pos c,xM (by omega) (by rw[hsl];omega),if_neg (by omega),uH (by omega) (by omega) (by omega)]
   by_cases c1:q<i.toNat
   ·rw[if_neg (by omega),List.getElem?_append_left (by omega),List.getElem?_take,if_pos c1]
   ·rw[if_pos (by omega),List.getElem?_append_right (by omega),hi,List.getElem?_drop]
    congr 1;omega
  ·rw[if_neg c,List.getElem?_append_right (by omega),List.getElem?_drop,List.getElem?_eq_none (by omega)]
theorem LS {P:Program} {k:FuncId} {E n:Nat} {u:Ty} {z:(gk n).den} (hu:u.sh=true) (hs:u.size=n+1) (h:FOk P k ⟨[.eat (.sl E (gk n)),.rd (.int .i64),.rd (.int .i64)],[.sl E (gk n)],OV z,none⟩):FOk P k ⟨[.eat (.sl E u),.rd (.int .i64),.rd (.int .i64)],[.sl E u],OU,none⟩:=by
 refine ⟨fun q hq=>(by cases hq),fun _=>h.en rfl,fun _ w0 J γ vs d r hlay ha sO=>?_⟩
 obtain ⟨v,vs1,rfl,hd,v2,vs2,rfl,hd2,v3,vs3,rfl,hd3,hnil⟩:=ha
 obtain rfl:vs3= []:=hnil
 obtain ⟨xs0,i0,j0,un⟩:=d
 let xs:List u.den:=xs0
 let i:Int:=i0
 let j:Int:=j0
 let zs:List u.den:=r
 have sO:OU xs i j=some zs:=sO
 obtain ⟨u1,hc,hz⟩:=Option.bind_eq_some_iff.1 sO
 obtain ⟨c1,c2,c3⟩:=aY hc
 have hz:=ae hz
 have hsz:u.rep.size=n+1:=(Ty.rep_size u).trans hs
 intro w C hst
 have hst:St J w0 w (Ch.own (ak E u.rep) [v] xs::C):=hst
 obtain ⟨ps,hp,hst2⟩:=wv (Ty.sh_ok hu) hsz hst
 have hlen:=hp.length_eq
 have hm:OV z ps i j=some (ps.take i.toNat++ps.drop j.toNat):=LR c1 c2 (by rw[hlen];exact c3)
 have key:=h.con rfl w0 J undef [v,v2,v3] (ps,i,j,()) (show dens ([Ty.sl E (gk n)] ++ []) from ps.take i.toNat++ps.drop j.toNat) hlay ⟨v,_,rfl,hd,v2,_,rfl,hd2,v3,_,rfl,hd3,rfl⟩ hm
 refine (key w C hst2).mono fun e w' ⟨r,a1,a2,a3⟩=>⟨r,a1,a2,?_⟩
 have a3:St J w0 w' (Ch.own (ak E (gk n).rep) [r] (ps.take i.toNat++ps.drop j.toNat)::C):=a3
 show St J w0 w' (Ch.own (ak E u.rep) [r] zs::C)
 rw[<-hz]
 exact sQ (Ty.cpy hu) hsz (rG (sR _ hp) (jT _ hp)) a3
def P6 {α:Type} (b:Nat) (z:α) (xs:List α) (i:Int) (v:List α) (c:Nat):Option (List α×List α):=
 (chk ((0:Int)<=0/\0<=i/\0+i<=(xs.length:Int))).bind fun _ =>
 (chk ((0+0:Int)=0/\0+i<=(xs.length:Int)/\0<IntKind.i64.wrap (IntKind.i64.wrap ((xs.length:Int)+(v.length:Int)) - i)/\(c:Int)<(0+i)+IntKind.i64.wrap (IntKind.i64.wrap ((xs.length:Int)+(v.length:Int)) - i)/\((0+i)+IntKind.i64.wrap (IntKind.i64.wrap ((xs.length:Int)+(v.length:Int)) - i))*(b:Int)<=140737488355328)).bind fun _ =>
 (fun s2:List α=>(chk (0<=i/\i<=(s2.length:Int) - 0/\0+((s2.length:Int) - 0)<=(s2.length:Int))).bind fun _ =>
  (chk ((0:Int)<=0/\0<=min ((v.length:Int) - 0) ((0+((s2.length:Int) - 0)) - (0+i))/\0+min ((v.length:Int) - 0) ((0+((s2.length:Int) - 0)) - (0+i))<=(v.length:Int)/\0<=0+i/\0+i<=(s2.length:Int)/\0+((s2.length:Int) - 0)<=(s2.length:Int))).bind fun _ =>
  (fun s3:List α=>(chk (0<=IntKind.i64.wrap (i+(v.length:Int))/\IntKind.i64.wrap (i+(v.length:Int))<=(s3.length:Int) - 0/\0+((s3.length:Int) - 0)<=(s3.length:Int))).bind fun _ =>
   (chk (0<=i/\i<=(xs.length:Int) - 0/\0+((xs.length:Int) - 0)<=(xs.length:Int))).bind fun _ =>
   (chk (0<=0+i/\0<=min ((0+((xs.length:Int) - 0)) - (0+i)) ((0+((s3.length:Int) - 0)) - (0+IntKind.i64.wrap (i+(v.length:Int))))/\(0+i)+min ((0+((xs.length:Int) - 0)) - (0+i)) ((0+((s3.length:Int) - 0)) - (0+IntKind.i64.wrap (i+(v.length:Int))))<=(xs.length:Int)/\0<=0+IntKind.i64.wrap (i+(v.length:Int))/\0+IntKind.i64.wrap (i+(v.length:Int))<=(s3.length:Int)/\0+((s3.length:Int) - 0)<=(s3.length:Int))).bind fun _ =>
   some (pY s3 (0+IntKind.i64.wrap (i+(v.length:Int))).toNat (re xs (0+i) (min ((0+((xs.length:Int) - 0)) - (0+i)) ((0+((s3.length:Int) - 0)) - (0+IntKind.i64.wrap (i+(v.length:Int)))))),v))
  (pY s2 (0+i).toNat (re v 0 (min ((v.length:Int) - 0) ((0+((s2.length:Int) - 0)) - (0+i))))))
 (xs.take (0+i).toNat++List.replicate (IntKind.i64.wrap (IntKind.i64.wrap ((xs.length:Int)+(v.length:Int)) - i)).toNat z)
def P7 {α:Type} (xs:List α) (i:Int) (v:List α) (c:Nat):Option (List α×List α):=
 (fun w0 w:Int=>(chk ((xs.length:Int)<=w0/\w0<=(c:Int))).bind fun _ =>
  (chk (0<=w/\w<=w0 - 0/\w0 - 0<=w0 - 0)).bind fun _ =>
  (chk (0<v.length/\0+w<0+(w0 - 0))).bind fun _ =>
  (chk (0<=w/\w<=w0 - 0/\w0 - 0<=w0 - 0)).bind fun _ =>
  (chk (0<=i/\i<=w0 - 0/\w0 - 0<=w0 - 0)).bind fun _ =>
  (chk (0<=0+i/\0<=min ((0+(w0 - 0)) - (0+i)) ((0+(w0 - 0)) - (0+w))/\(0+i)+min ((0+(w0 - 0)) - (0+i)) ((0+(w0 - 0)) - (0+w))<=(xs.length:Int)/\0<=0+w/\0+w<=(xs.length:Int))).bind fun _ =>
  (chk ((0+w)+min ((0+(w0 - 0)) - (0+i)) ((0+(w0 - 0)) - (0+w))=w0/\(xs.length:Int)<=w0)).bind fun _ =>
  (fun s2:List α=>(chk (0<=i/\i<=(s2.length:Int) - 0/\0+((s2.length:Int) - 0)<=(s2.length:Int))).bind fun _ =>
   (chk ((0:Int)<=0/\0<=min ((v.length:Int) - 0) ((0+((s2.length:Int) - 0)) - (0+i))/\0+min ((v.length:Int) - 0) ((0+((s2.length:Int) - 0)) - (0+i))<=(v.length:Int)/\0<=0+i/\0+i<=(s2.length:Int)/\0+((s2.length:Int) - 0)<=(s2.length:Int))).bind fun _ =>
   some (pY s2 (0+i).toNat (re v 0 (min ((v.length:Int) - 0) ((0+((s2.length:Int) - 0)) - (0+i)))),v))
  (pY xs (0+w).toNat (re xs (0+i) (min ((0+(w0 - 0)) - (0+i)) ((0+(w0 - 0)) - (0+w))))))
 (IntKind.i64.wrap ((xs.length:Int)+(v.length:Int))) (IntKind.i64.wrap (i+(v.length:Int)))
noncomputable def Pm {α:Type} (b:Nat) (z:α) (xs:List α) (i:Int) (v:List α):Option (List α×List α):=
 (chk (0<=i/\i<=(xs.length:Int) - 0/\0+((xs.length:Int) - 0)<=(xs.length:Int))).bind fun _ =>
 if (v.length:Int)==0 then some (xs,v) else if i==(xs.length:Int) then (cE b xs v).bind fun zs=>some (zs,v) else
 Bn xs.length fun c=>if OA .gtr (IntKind.i64.wrap ((xs.length:Int)+(v.length:Int))) (c:Int) then P6 b z xs i v c else P7 xs i v c
def LU {α:Type} (b:Nat) (xs:List α) (i:Int) (v:List α):Option (List α×List α):=
 (chk (0<=i/\i<=(xs.length:Int)/\v.length=1/\1<=b/\(xs.length+1)*b<=140737488355328)).bind fun _=>some (xs.take i.toNat++(v++xs.drop i.toNat),v)
theorem Fi {α:Type} {xs v:List α} {i q:Nat} (hi:i<=xs.length) (hv:v.length=1):(xs.take i++(v++xs.drop i))[q]? =if q<i then xs[q]? else if q=i then v[0]? else xs[q - 1]? :=by
 have hl:(xs.take i).length=i:=by rw[aA];omega
 by_cases c1:q<i
 ·rw[if_pos c1,List.getElem?_append_left (by omega),List.getElem?_take,if_pos c1]
 ·rw[if_neg c1,List.getElem?_append_right (by omega),hl]
  by_cases c2:q=i
  ·rw[if_pos c2,List.getElem?_append_left (by omega),c2,Nat.sub_self]
  ·rw[if_neg c2,List.getElem?_append_right (by omega),hv,List.getElem?_drop];congr 1;omega
set_option maxHeartbeats 1000000 in
theorem LW {α:Type} {b:Nat} {z:α} {xs v:List α} {i:Int} {r:List α×List α} (h:LU b xs i v=some r):Pm b z xs i v=some r:=by
 obtain ⟨u,hc,h⟩:=Option.bind_eq_some_iff.1 h
 obtain ⟨h1,h2,hv,hb,hbig⟩:=aY hc
 obtain rfl:=ae h
 have hn:xs.length+1<=140737488355328:=by
  have:(xs.length+1)*1<=(xs.length+1)*b:=Nat.mul_le_mul_left _ hb
  omega
 obtain ⟨k,rfl⟩: ∃k:Nat,i=(k:Int):=⟨i.toNat,by omega⟩
 have hk:k<=xs.length:=by omega
 have w1:IntKind.i64.wrap ((xs.length:Int)+(v.length:Int))=((xs.length+1:Nat):Int):=by rw[hv,IntKind.wrap_i64];omega
 have w2:IntKind.i64.wrap ((k:Int)+(v.length:Int))=((k+1:Nat):Int):=by rw[hv,IntKind.wrap_i64];omega
 have w3:IntKind.i64.wrap (((xs.length+1:Nat):Int) - (k:Int))=((xs.length+1 - k:Nat):Int):=by rw[IntKind.wrap_i64];omega
 unfold Pm
 rw[chk_of (by omega)]
 rw[if_neg (by rw[hv];decide)]
 by_cases hkn:k=xs.length
 ·subst hkn
  rw[if_pos (by simp)]
  have:cE b xs v=some (xs++v):=by unfold cE;rw[if_pos (by rw[hv];exact hbig)]
  rw[this]
  simp
 ·rw[if_neg (by simp;omega)]
  have tk:((k:Int)).toNat=k:=rfl
  have t0:(0+(k:Int)).toNat=k:=by omega
  have t1:(0+((k+1:Nat):Int)).toNat=k+1:=by omega
  have sv:re v 0 1=v:=by
   unfold re
   rw[show ((0:Int)+1).toNat=1 from rfl,show ((0:Int)).toNat=0 from rfl,List.drop_zero,List.take_of_length_le (by omega)]
  have sx:re xs (0+(k:Int)) ((xs.length:Int) - (k:Int))=xs.drop k:=by
   unfold re
   rw[t0,show (0+(k:Int)+((xs.length:Int) - (k:Int))).toNat=xs.length from by omega,List.take_length]
  have hdl:(xs.drop k).length=xs.length - k:=aQ
  refine ED (by unfold maxLen;omega) fun c c1 c2=>?_
  have hcmp:OA .gtr (IntKind.i64.wrap ((xs.length:Int)+(v.length:Int))) (c:Int)=decide (((xs.length+1:Nat):Int)>(c:Int)):=by rw[w1];rfl
  rw[hcmp]
  by_cases hg:xs.length+1>c
  ·rw[if_pos (by simp;omega)]
   unfold P6
   rw[w1,w2,w3]
   generalize hs2:xs.take (0+(k:Int)).toNat++List.replicate (((xs.length+1 - k:Nat):Int)).toNat z=s2
   have l2:s2.length=xs.length+1:=by rw[<-hs2,t0,al,aA,List.length_replicate];omega
   have m1:min ((v.length:Int) - 0) ((0+((s2.length:Int) - 0)) - (0+(k:Int)))=1:=by rw[hv,l2];omega
   simp only[m1,sv,t0]
   have lc:(pY s2 k v).length=xs.length+1:=by rw[jq (by omega),l2,hv];omega
   have m2:min ((0+((xs.length:Int) - 0)) - (0+(k:Int))) ((0+(((pY s2 k v).length:Int) - 0)) - (0+((k+1:Nat):Int)))=(xs.length:Int) - (k:Int):=by rw[lc];omega
   simp only[m2,sx,t1]
   have hbi:((xs.length+1:Nat):Int)*(b:Int)<=140737488355328:=by rw[<-Int.natCast_mul];omega
   rw[chk_of (by omega),chk_of (by
    refine ⟨by omega,by omega,by omega,by omega,?_⟩
    rw[show (0+(k:Int))+((xs.length+1 - k:Nat):Int)=((xs.length+1:Nat):Int) from by omega]
    exact hbi),chk_of (by rw[l2];omega),chk_of (by rw[l2,hv];omega),chk_of (by rw[lc];omega),chk_of (by omega),chk_of (by rw[lc];omega)]
   congr 2
   apply List.ext_getElem?
   intro q
   rw[pd (by rw[lc];omega),hdl,tk,Fi hk hv]
   by_cases q1:k+1<=q/\q<k+1+(xs.length - k)
   ·rw[if_pos q1,if_neg (by omega),if_neg (by omega),List.getElem?_drop];congr 1;omega
   ·rw[if_neg q1,pd (by omega),hv]
    by_cases q2:q<k
    ·rw[if_neg (by omega),if_pos q2,<-hs2,t0,List.getElem?_append_left (by rw[aA];omega),List.getElem?_take,if_pos q2]
    ·by_cases q3:q=k
     ·rw[if_pos (by omega),if_neg q2,if_pos q3,q3,Nat.sub_self]
     ·rw[if_neg (by omega),if_neg q2,if_neg q3,List.getElem?_eq_none (by omega),List.getElem?_eq_none (by omega)]
  ·rw[if_neg (by simp;omega)]
   unfold P7
   simp only
   rw[w1,w2]
   have m3:min ((0+((((xs.length+1:Nat):Int)) - 0)) - (0+(k:Int))) ((0+((((xs.length+1:Nat):Int)) - 0)) - (0+((k+1:Nat):Int)))=(xs.length:Int) - (k:Int):=by omega
   simp only[m3,sx,t0,t1]
   have lc:(pY xs (k+1) (xs.drop k)).length=xs.length+1:=by rw[jq (by omega),hdl];omega
   have m4:min ((v.length:Int) - 0) ((0+(((pY xs (k+1) (xs.drop k)).length:Int) - 0)) - (0+(k:Int)))=1:=by rw[lc,hv];omega
   simp only[m4,sv]
   rw[chk_of (by omega),chk_of (by omega),chk_of (by rw[hv];omega),chk_of (by omega),chk_of (by omega),chk_of (by omega),chk_of (by omega),chk_of (by rw[lc];omega),chk_of (by rw[lc,hv];omega)]
   congr 2
   apply List.ext_getElem?
   intro q
   rw[pd (by rw[lc];omega),hv,tk,Fi hk hv]
   by_cases q3:q=k
   ·rw[if_pos (by omega),if_neg (by omega),if_pos q3,q3,Nat.sub_self]
   ·rw[if_neg (by omega),pd (by omega),hdl]
    by_cases q2:q<k
    ·rw[if_neg (by omega),if_pos q2]
    ·rw[if_neg q2,if_neg q3]
     by_cases q4:q<k+1+(xs.length - k)
     ·rw[if_pos (by omega),List.getElem?_drop];congr 1;omega
     ·rw[if_neg (by omega),List.getElem?_eq_none (by omega),List.getElem?_eq_none (by omega)]
theorem NO {P:Program} {k:FuncId} {E:TypeId} (h:OF P k):FOk P k ⟨[],[],none,some (E,0)⟩:=
 ⟨fun q hq=>(by obtain rfl:=ae hq;exact ⟨⟨fun _=>h,fun e=>(by cases e),fun e=>(by cases e)⟩,fun e=>(by cases e),fun e=>(by cases e)⟩),fun e=>(by cases e),fun e=>(by cases e)⟩
theorem LX {P:Program} {k:FuncId} {E n b:Nat} {u:Ty} {z:(gk n).den} (hu:u.sh=true) (hs:u.size=n+1) (h:FOk P k ⟨[.eat (.sl E (gk n)),.rd (.int .i64),.ow (.sl E (gk n))],[.sl E (gk n)],Pm b z,none⟩):FOk P k ⟨[.eat (.sl E u),.rd (.int .i64),.ow (.sl E u)],[.sl E u],LU b,none⟩:=by
 refine ⟨fun q hq=>(by cases hq),fun _=>h.en rfl,fun _ w0 J γ vs d r hlay ha sO=>?_⟩
 obtain ⟨v,vs1,rfl,hd,v2,vs2,rfl,hd2,v3,vs3,rfl,hd3,hnil⟩:=ha
 obtain rfl:vs3= []:=hnil
 obtain ⟨xs0,i0,y0,un⟩:=d
 let xs:List u.den:=xs0
 let i:Int:=i0
 let ys:List u.den:=y0
 let zs:List u.den×List u.den:=r
 have sO:LU b xs i ys=some zs:=sO
 obtain ⟨u1,hc,hz⟩:=Option.bind_eq_some_iff.1 sO
 have hc:=aY hc
 have hz:=ae hz
 have hsz:u.rep.size=n+1:=(Ty.rep_size u).trans hs
 intro w C hst
 have hst:St J w0 w (Ch.own (ak E u.rep) [v] xs::Ch.own (ak E u.rep) [v3] ys::C):=hst
 obtain ⟨ps,hp,hst2⟩:=wv (Ty.sh_ok hu) hsz hst
 obtain ⟨qs,hq,hst3⟩:=wv (Ty.sh_ok hu) hsz (hst2.perm (List.Perm.swap _ _ _))
 have hst4:=hst3.perm (List.Perm.swap _ _ _)
 have hlen:=hp.length_eq
 have hlen2:=hq.length_eq
 have hi:LU b ps i qs=some (ps.take i.toNat++(qs++ps.drop i.toNat),qs):=by
  unfold LU
  rw[chk_of (by rw[hlen,hlen2];exact hc)]
 have hm:=LW (z:=z) hi
 have key:=h.con rfl w0 J undef [v,v2,v3] (ps,i,qs,()) (show dens ([Ty.sl E (gk n)] ++ [Ty.sl E (gk n)]) from (ps.take i.toNat++(qs++ps.drop i.toNat),qs)) hlay ⟨v,_,rfl,hd,v2,_,rfl,hd2,v3,_,rfl,hd3,rfl⟩ hm
 refine (key w C hst4).mono fun e w' ⟨r,a1,a2,a3⟩=>⟨r,a1,a2,?_⟩
 have a3:St J w0 w' (Ch.own (ak E (gk n).rep) [r] (ps.take i.toNat++(qs++ps.drop i.toNat))::Ch.own (ak E (gk n).rep) [v3] qs::C):=a3
 have b1:=sQ (Ty.cpy hu) hsz (rG (sR _ hp) (rG hq (jT _ hp))) a3
 have b2:=sQ (Ty.cpy hu) hsz hq (b1.perm (List.Perm.swap _ _ _))
 show St J w0 w' (Ch.own (ak E u.rep) [r] zs.1::Ch.own (ak E u.rep) [v3] zs.2::C)
 rw[<-hz]
 exact b2.perm (List.Perm.swap _ _ _)
end R
namespace R
open Go.RowKit
open D
def rtN (V:Env) (rvs:List ResultVar) (T:TypeId) (s:Sg):Option (Int×Int):=(sP V.tt s rvs).bind fun vs=>match vs with
 | [.one (.ptr h off)] =>bg (Nat.beq off 0) ((n8 h s.chs).bind fun b=>bg (Nat.beq b.T T) (match b.cells with
  | [.rd g _ _,.val (.int .i64 x),.val (.int .i64 y)] =>bg (Hdr.beq g ⟨0,[]⟩) (some (x,y))
  | _=>none))
 | _=>none
theorem NP {V:Env} {P:Program} (hT:TTok P V.tt) (hF:FTok P V.ft) (hmx:P.follows .mixedOrders=true) {k:FuncId} {fn:Func} {c:Code} {E T:Nat} {t:Ty} {m:List t.den->Option (Int×Int)} (hf:P.funcs[k]? =some fn) (hb:fn.body=some c) (hn:fn.ntmps=V.n) (hen:Enters P k) (hm:1<=V.n) (ann:Ann)
  (hmod: ∀xs:List t.den,m xs=gy V (rtN V fn.results.toList T) c ann (fun r=>some r) (fun _ _=>none) (rtN V fn.results.toList T) ⟨[(0,0,.one (.rd ⟨0,[]⟩ (.sl E t) xs))],[],1⟩):NewOk P k T ⟨[.rd (.sl E t)],[.int .i64,.int .i64],m,some (T,9)⟩:=by
 refine ⟨hen,fun w0 J γ vs d r ns hlay ha sO hns=>?_⟩
 obtain ⟨v,vs',rfl,hd,hnil⟩:=ha
 obtain rfl:vs'= []:=hnil
 obtain ⟨xs,u⟩:=d
 obtain ⟨cs,hcs,hrd⟩:=hd
 obtain rfl:cs= [v]:=hcs
 obtain ⟨x,y⟩:=r
 have hr:=hmod xs
 rw[show m xs=some (x,y) from sO] at hr
 obtain rfl: [x,y] =ns:=ae hns
 let θ:Th:=fun _=>v
 refine uS (n:=V.n) [(0,v)] hf hb hn hm (fun p hp=>by obtain rfl:=aw hp;rfl) (fun F w a hA hst=>?_) (fun u=>Ch.back_deeps ⟨I0,trivial⟩)
 have hfine:Fine P w0 J θ ⟨[(0,0,.one (.rd ⟨0,[]⟩ (.sl E t) xs))],[],1⟩:=⟨fun e he=>by obtain rfl:=aw he;exact ⟨Nat.one_pos,hrd⟩,fun e he=>by obtain rfl:=aw he;exact Nat.one_pos,List.pairwise_singleton _ _,fun e he=>(by cases he),hlay⟩
 have hS:Sim P J w0 F V.n J θ ⟨[(0,0,.one (.rd ⟨0,[]⟩ (.sl E t) xs))],[],1⟩ a w:=⟨Hp.le.rfl,hA,hst,hfine⟩
 have fin: ∀r J' θ' s' a' w',rtN V fn.results.toList T s'=some r->Sim P J w0 F V.n J' θ' s' a' w'->J.le J'->Fr ⟨[(0,0,.one (.rd ⟨0,[]⟩ (.sl E t) xs))],[],1⟩ θ s' θ'->
   bodyPost P fn (fun e w'=> ∃u,e= .returned u/\(∃b,u= .pointer (some ⟨b,0,none⟩))/\ ∃J2,J.le J2/\St J2 w0 w' ([Ch.blk (bk u) ([v] ++ [r.1,r.2].map (Value.int .i64)) T] ++ [F])) .ret a' w':=by
  intro r J' θ' s' a' w' hrt S' hJ hFr
  obtain ⟨us,hus,hrt⟩:=bind_some hrt
  obtain ⟨r1,r2⟩:=pj hT S' hus
  split at hrt
  ·rename_i h off
   obtain ⟨ho,hrt⟩:=ai hrt
   obtain rfl:off=0:=aj ho
   obtain ⟨b,hb',hrt⟩:=bind_some hrt
   obtain ⟨hT',hrt⟩:=ai hrt
   have hT':b.T=T:=aj hT'
   split at hrt
   ·rename_i g ty d p q hcells
    obtain ⟨hg,hrt⟩:=ai hrt
    obtain rfl:=Hdr.beq_eq hg
    obtain rfl:=ae hrt
    refine NJ S'.agr r1 ⟨_,rfl,⟨bk (hv θ' h),rfl⟩,J',hJ,?_⟩
    have h1:=S'.st.perm (((gp hb').map (toCh P θ')).append_right [F])
    have e0:hv θ' ⟨0,[]⟩=v:=by
     show vg (θ' 0) [] =v
     rw[hFr.same 0 Nat.one_pos];rfl
    have h2:St J' w0 w' (Ch.blk (bk (hv θ' h)) (b.cells.map (·.v θ')) b.T::(b.rest.map (toCh P θ')++ [F])):=h1
    rw[hcells,hT'] at h2
    have h3:St J' w0 w' ([Ch.blk (bk (hv θ' h)) [hv θ' ⟨0,[]⟩,.int .i64 p,.int .i64 q] T] ++ [F] ++b.rest.map (toCh P θ')):=h2.perm ((List.perm_append_comm).cons _)
    rw[e0] at h3
    exact h3.left
   ·cases hrt
  ·cases hrt
 exact (sN (I:=J) (w0:=w0) (F:=F) hT hF hmx c).1 ann hr.symm hS (fun J' θ' s' a' w' hk S' hJ hFr=>fin _ J' θ' s' a' w' hk S' hJ hFr) (fun i J' θ' s' a' w' hk=>by cases hk) (fun r' J' θ' s' a' w' hrt hrr hS' hJ hFr=>by
  obtain rfl:=ae hrr
  exact fin _ J' θ' s' a' w' hrt hS' hJ hFr)
theorem LY {P:Program} {k:FuncId} {f:FS} {T:Nat} (hc:NewOk P k T f) (hcl:f.cl=some (T,9)):FOk P k f:=by
 have ho:f.ov=true:=by unfold FS.ov;rw[hcl];rfl
 refine ⟨fun q hq=>?_,fun e=>(by rw[ho] at e;cases e),fun e=>(by rw[ho] at e;cases e)⟩
 rw[hcl] at hq
 obtain rfl:=ae hq
 exact ⟨⟨fun e=>(by cases e),fun _ _ _ e=>(by cases e),fun e=>(by cases e)⟩,fun e=>(by cases e),fun _=>hc⟩
end R
namespace R
open Go.RowKit Go.Shelf Go.Sort
open D
abbrev IT:Ty:=.int .i64
def Il (xs:List Int):Option (List Int):=(chk (xs.length<4611686018427387904)).bind fun _=>some (xs.mergeSort fun x y=>decide (x<=y))
theorem St.grownI {I:Hp} {w0 w:World} {cs:List Ch} (h:St I w0 w cs) (os:Array Obj):St I w0 (grow w os) cs:=by
 refine St.step (w:=w) (c:=[]) (c':=[]) h rfl rfl rfl (by simp[grow]) ?_
 rintro F rfl - -
 exact ⟨fun b hb _=>heap_grow_old w os hb,[],rfl,List.nodup_nil,by simp⟩
theorem Fj {P:Program} {ρ:Ren} (L:Lays.n189 P ρ) (en:Enters P (ρ.f 189)) (E:TypeId) :
  FOk P (ρ.f 189) ⟨[.ow (.sl E IT)],[],fun xs=>Il xs,none⟩:=by
 refine ⟨fun q hq=>(by cases hq),fun _=>en,fun _ w0 J γ vs d r hlay ha sO=>?_⟩
 obtain ⟨v,vs1,rfl,hd,hnil⟩:=ha
 obtain rfl:vs1= []:=hnil
 obtain ⟨xs0,un⟩:=d
 let xs:List Int:=xs0
 let zs:List Int:=r
 have sO:Il xs=some zs:=sO
 obtain ⟨u1,hc,hz⟩:=Option.bind_eq_some_iff.1 sO
 have hc:=aY hc
 have hz:=ae hz
 intro w C hst
 have hst:St J w0 w (Ch.own (ak E IT.rep) [v] xs::C):=hst
 clear sO
 rename_i happ0
 clear happ0 hd
 clear_value xs
 have hfin: ∀ {e:Ending} {w':World},(∃W,e= .returned (.tuple #[])/\w'=W/\St J w0 W (Ch.own (ak E IT.rep) [v] zs::C))-> ∃v':Value,e= .returned v'/\(∃vs:Array Value,v'= .tuple vs/\vs.size=0/\ ∀(i:Nat) (t:Ty),([] :List Ty)[i]? =some t->jR (vs.getD i undef)=t.isProd)/\St J w0 w' (Ch.own (ak E IT.rep) [v] zs::C):=by
  rintro e w' ⟨W,rfl,rfl,h⟩
  exact ⟨_,rfl,⟨#[],rfl,rfl,fun i t h=>(by simp at h)⟩,h⟩
 have hcase:(v= .slice none 0 0/\xs= [])\/ ∃g' ofs n cap,v= .slice (some ⟨g',ofs,none⟩) n cap:=by
  obtain ⟨hb,hi,F,⟨G,K,rfl,⟨hl,e2⟩,e3⟩,h4,h5⟩:=hst
  rcases e2 with ⟨hv,h1,_⟩ | ⟨g',ofs',cap',cur,K1,hv,_⟩
  ·exact .inl ⟨List.cons.inj hv |>.1,h1⟩
  ·exact .inr ⟨_,_,_,_,List.cons.inj hv |>.1⟩
 rcases hcase with ⟨rfl,hx⟩ | ⟨g',ofs,n,cap,rfl⟩
 ·refine (Any.slices_Sort_int_none L none 0 w).mono fun e w' ⟨he,hw⟩=>hfin ⟨_,he,hw,?_⟩
  rw[<-hz,hx,List.mergeSort_nil]
  rw[hx] at hst
  exact hst
 ·obtain ⟨hn,h1,h2,cur,hg,hroom,hat⟩:=sq (R:=IT.rep) (k:=1) (Ty.sh_ok (t:=IT) rfl) rfl hst
  obtain rfl:=hn
  have hH:Holds (Value.int .i64) w g' ofs xs.toArray:=by
   intro j hj
   have hj:j<xs.length:=by simpa using hj
   obtain ⟨c,e1,e2,e3⟩:=hat j _ (List.getElem?_eq_getElem hj)
   have hcj:=e2 0 Nat.one_pos
   obtain rfl:c= [.int .i64 xs[j]]:=e3
   rw[Nat.mul_one,Nat.add_zero,List.getElem?_drop] at hcj
   refine ⟨?_,?_⟩
   ·unfold World.cell?
    simp only[hg]
    rw[<-Array.getElem?_toList,hcj,getElem!_pos xs.toArray _ (by simpa using hj)]
    simp
   ·unfold World.frozen?
    simp only[hg]
    simp
  have hblk:g'<w.heap.size:=by
   rcases Nat.lt_or_ge g' w.heap.size with c | c
   ·exact c
   ·rw[Array.getElem?_eq_none c] at hg;cases hg
  refine (Any.slices_Sort_int L g' ofs cap xs w hH hblk hc).mono ?_
  rintro e w' ⟨he,m,os,rfl⟩
  refine hfin ⟨_,he,rfl,?_⟩
  have hlen:zs.length=xs.length:=by rw[<-hz];exact List.length_mergeSort _
  rw[hz,Go.Lib.sorted_world (Value.int .i64) w g' ofs m xs.toArray zs os hH (by simpa using hlen)]
  refine St.grownI ?_ os
  have hst2:St J w0 (w.drewN m) (Ch.own (ak E IT.rep) [.slice (some ⟨g',ofs,none⟩) xs.length cap] xs::C):=hst.drawn rfl rfl rfl rfl
  have hcapz:zs.length<=cap:=by rw[hlen];exact h1
  have hlimz:zs.length<=lim:=by
   have:lim=2 ^ 63 - 1:=rfl
   have:maxLen=2 ^ 63 - 1:=rfl
   omega
  have h3:=vY (p:=0) (cnt:=xs.length) (zs:=zs) (news:=zs.map (Value.int .i64)) (Ty.sh_ok (t:=IT) rfl) (Ty.cpy (t:=IT) rfl) (k:=1) rfl (by simp[hlen]) (by omega) hcapz hlimz (fun i z hi=>.inl ⟨Nat.zero_le _,(by
   have:=(List.getElem?_eq_some_iff.1 hi).1
   have:i<zs.length:=this
   omega),[.int .i64 z],rfl,fun j hj=>by
    obtain rfl:j=0:=by omega
    rw[Nat.sub_zero,Nat.mul_one,Nat.add_zero,List.getElem?_map]
    have hi:zs[i]? =some z:=hi
    rw[hi];rfl,rfl⟩) hst2
  rw[Nat.zero_mul,Nat.add_zero,show @List.length IT.den zs=xs.length from hlen] at h3
  exact h3
end R
namespace R
open Go.Shelf
def sS:Go.Shelf.Ren:=⟨fun | 189=>100 | 125=>114 | 257=>113 | 128=>134 | 129=>135 | 294=>125 | 295=>126 | 296=>127 | 297=>128 | 298=>129 | 299=>130 | 216=>131 | 300=>132 | 301=>133 | 328=>147 | 329=>148 | 330=>149 | 331=>150 | 332=>151 | 215=>152 | 343=>159 | n=>n,fun | 28=>24 | 3=>3 | 46=>138 | 0=>0 | 51=>156 | 53=>159 | 4=>4 | 183=>164 | 182=>163 | 131=>169 | 5=>5 | 9=>9 | 218=>183 | 222=>187 | 228=>193 | 229=>194 | n=>n,fun | n=>n⟩
theorem Ae:Go.Proofs.Lays.n189 Tryz.prog sS:= {
 mixed:=by kernel_rfl
 f125:=Tryz.func114.trans (congrArg some (by kernel_rfl))
 f128:=Tryz.func134.trans (congrArg some (by kernel_rfl))
 f129:=Tryz.func135.trans (congrArg some (by kernel_rfl))
 f189:=Tryz.func100.trans (congrArg some (by kernel_rfl))
 f215:=Tryz.func152.trans (congrArg some (by kernel_rfl))
 f216:=Tryz.func131.trans (congrArg some (by kernel_rfl))
 f257:=Tryz.func113.trans (congrArg some (by kernel_rfl))
 f294:=Tryz.func125.trans (congrArg some (by kernel_rfl))
 f295:=Tryz.func126.trans (congrArg some (by kernel_rfl))
 f296:=Tryz.func127.trans (congrArg some (by kernel_rfl))
 f297:=Tryz.func128.trans (congrArg some (by kernel_rfl))
 f298:=Tryz.func129.trans (congrArg some (by kernel_rfl))
 f299:=Tryz.func130.trans (congrArg some (by kernel_rfl))
 f300:=Tryz.func132.trans (congrArg some (by kernel_rfl))
 f301:=Tryz.func133.trans (congrArg some (by kernel_rfl))
 f328:=Tryz.func147.trans (congrArg some (by kernel_rfl))
 f329:=Tryz.func148.trans (congrArg some (by kernel_rfl))
 f330:=Tryz.func149.trans (congrArg some (by kernel_rfl))
 f331:=Tryz.func150.trans (congrArg some (by kernel_rfl))
 f332:=Tryz.func151.trans (congrArg some (by kernel_rfl))
 f343:=Tryz.func159.trans (congrArg some (by kernel_rfl))
 t0:=Tryz.underlying0
 a0:=Tryz.isAgg0
 z0:=Tryz.sizeOf0
 v0:=Tryz.zeroValue0
 t3:=Tryz.underlying3
 a3:=Tryz.isAgg3
 z3:=Tryz.sizeOf3
 v3:=Tryz.zeroValue3
 t4:=Tryz.underlying4
 a4:=Tryz.isAgg4
 z4:=Tryz.sizeOf4
 v4:=Tryz.zeroValue4
 t5:=Tryz.underlying5
 a5:=Tryz.isAgg5
 z5:=Tryz.sizeOf5
 v5:=Tryz.zeroValue5
 t9:=Tryz.underlying9
 a9:=Tryz.isAgg9
 z9:=Tryz.sizeOf9
 v9:=Tryz.zeroValue9
 t28:=Tryz.underlying24
 a28:=Tryz.isAgg24
 z28:=Tryz.sizeOf24
 v28:=Tryz.zeroValue24
 t46:=Tryz.underlying138
 a46:=Tryz.isAgg138
 z46:=Tryz.sizeOf138
 v46:=Tryz.zeroValue138
 t51:=Tryz.underlying156
 a51:=Tryz.isAgg156
 z51:=Tryz.sizeOf156
 v51:=Tryz.zeroValue156
 t53:=Tryz.underlying159
 a53:=Tryz.isAgg159
 z53:=Tryz.sizeOf159
 v53:=Tryz.zeroValue159
 t131:=Tryz.underlying169
 a131:=Tryz.isAgg169
 z131:=Tryz.sizeOf169
 v131:=Tryz.zeroValue169
 t182:=Tryz.underlying163
 a182:=Tryz.isAgg163
 z182:=Tryz.sizeOf163
 v182:=Tryz.zeroValue163
 t183:=Tryz.underlying164
 a183:=Tryz.isAgg164
 z183:=Tryz.sizeOf164
 v183:=Tryz.zeroValue164
 t218:=Tryz.underlying183
 a218:=Tryz.isAgg183
 z218:=Tryz.sizeOf183
 v218:=Tryz.zeroValue183
 t222:=Tryz.underlying187
 a222:=Tryz.isAgg187
 z222:=Tryz.sizeOf187
 v222:=Tryz.zeroValue187
 t228:=Tryz.underlying193
 a228:=Tryz.isAgg193
 z228:=Tryz.sizeOf193
 v228:=Tryz.zeroValue193
 t229:=Tryz.underlying194
 a229:=Tryz.isAgg194
 z229:=Tryz.sizeOf194
 v229:=Tryz.zeroValue194 }
end R
namespace R
open Go.RowKit
open D
def FldAll (P:Program) (T:TypeId):Nat->List (Nat×Nat)->Prop
 | _,[] =>True
 | i,q::l=>TF P T i q.1 q.2/\FldAll P T (i+1) l
theorem FldAll.get {P:Program} {T:TypeId} : ∀ {l:List (Nat×Nat)} {i:Nat},FldAll P T i l-> ∀f q,l[f]? =some q->TF P T (i+f) q.1 q.2
 | [],_,_,f,q,h=>by simp at h
 | x::l,i,⟨h1,h2⟩,f,q,h=>by
  cases f with
  | zero=>simp at h;subst h;exact h1
  | succ f =>
   have:=FldAll.get h2 f q (by simpa using h)
   rwa [show i+1+f=i+(f+1) from by omega] at this
section
variable {P:Program} {T:TypeId}
theorem oi {n b:Nat} {ty:Ty} {z:Value} {boo:Bool} {ik:Option (Option IntKind)} (h1:TI P T false 1) (h2:ty.size=1) (h3:TZ P T z 1 b) (h4:z.cells=(zeroCells ty).toArray) (h5:1<=b) (h6:boo=true->P.underlying T=some .bool) (h7: ∀k,ik=some k->P.underlying T=some (ikD k)):TDok P T ⟨false,1,none,ty,[],some b,none,boo,none,none,ik,false,none⟩:=
 ⟨h1,rfl,h2,fun E h=>by simp at h,fun f q h=>by simp at h,fun b' h=>by obtain rfl:=ae h;exact ⟨z,h3,h4,h5⟩,fun pl h=>by simp at h,h6,(fun ks h=>by cases h),(fun m h=>by cases h),h7,(fun h=>by cases h),fun e h=>by cases h⟩
theorem rf {E:TypeId} {t:Ty} (h1:TI P T false 1) (h2:P.underlying T=some (.slice E)) (h3:TZ P T (.slice none 0 0) 1 24):TDok P T ⟨false,1,some E,.sl E t,[],some 24,none,false,none,none,none,false,none⟩:=
 ⟨h1,rfl,rfl,fun E' h=>by obtain rfl:=ae h;exact h2,fun f q h=>by simp at h,fun b' h=>by obtain rfl:=ae h;exact ⟨_,h3,rfl,by decide⟩,fun pl h=>by simp at h,(fun h=>by cases h),(fun ks h=>by cases h),(fun m h=>by cases h),(fun k h=>by cases h),(fun h=>by cases h),fun e h=>by cases h⟩
theorem po {n b:Nat} {ty:Ty} {fs pl:List (Nat×Nat)} {z:Value} {eq:Option (List (Option IntKind))} (h1:TI P T true n) (h2:ty.size=n) (h3:FldAll P T 0 fs) (h4:TZ P T z n b) (h5:z.cells=(zeroCells ty).toArray) (h6:1<=b) (h7:TB P T pl) (h8: ∀ks,eq=some ks-> ∀w,Curq ks fun xs ys r=>EqT P T (.agg xs.toArray) (.agg ys.toArray) r w):TDok P T ⟨true,n,none,ty,fs,some b,some pl,false,eq,none,none,false,none⟩:=
 ⟨h1,rfl,h2,fun E h=>by simp at h,fun f q h=>by have:=h3.get f q h;rwa [Nat.zero_add] at this,fun b' h=>by obtain rfl:=ae h;exact ⟨z,h4,h5,h6⟩,fun pl' h=>by obtain rfl:=ae h;exact h7,(fun h=>by cases h),h8,(fun m h=>by cases h),(fun k h=>by cases h),(fun h=>by cases h),fun e h=>by cases h⟩
theorem NQ {ty:Ty} {b:Nat} (h1:TI P T false 1) (h2:ty.size=1) (h3:TZ P T .nilFunc 1 b):TDok P T ⟨false,1,none,ty,[],none,none,false,none,none,none,true,none⟩:=
 ⟨h1,rfl,h2,fun E h=>by simp at h,fun f q h=>by simp at h,(fun b' h=>by cases h),(fun pl h=>by cases h),(fun h=>by cases h),(fun ks h=>by cases h),(fun m' h=>by cases h),(fun k h=>by cases h),(fun _=>⟨b,h3⟩),fun e h=>by cases h⟩
end
end R
namespace D
open Go.RowKit
abbrev Yq1:Type:=(Int×Int×Int×Int)
abbrev Yq2:Type:=(Int×(List Bool)×(List (List Int)))
abbrev Yq3:Type:=((Int×Bool)×Int×Int)
abbrev Yq4:Type:=(Yq2×Int×(List Int)×(List Int))
abbrev Yq5:Type:=((Int×(List Bool)×List (List Int))×Int×(List Int)×List Int)
abbrev Yq6:Type:=(Bool×Int×Int×Int×Int)
abbrev Yq7:Type:=(((List Int)×(List Yq1))×Bool)
abbrev Yq8:Type:=((List Int)×List Yq1)
abbrev Yq9:Type:=((Int×(List Bool)×List (List Int))×Int×Int)
abbrev NR:Type:=((List Int)×Int×Int×(List Int)×Bool)
def Af (p0code:List Int):Option Bool:=
 some (decide ((p0code.length:Int)>1048576))
def jW (p0code:List Int) (s1:Int×Int):Option (Out (Int×Int) (Int×Int)):=
 if decide (s1.2<(p0code.length:Int)) then (if decide (s1.2<4000) then ((aW p0code s1.2).bind fun x2=>some (.nxt (nA (IntKind.i64.wrap ((IntKind.i64.wrap ((IntKind.i64.wrap (s1.1*131))+(IntKind.i64.wrap x2)))+7)) 1073741823,IntKind.i64.wrap (s1.2+1)))) else (some (.brk (s1.1,s1.2)))) else (some (.brk (s1.1,s1.2)))
def kK (p0code:List Int):Option (Int×Int):=
 aU (aF (jW p0code) a8 (IntKind.i64.wrap (10101+(p0code.length:Int)),0)) (fun r3=>some r3) (fun s4=>some (0,s4.1))
def fZ (p0c:(List Int)×Int×Int):Option (Int×Int×Int):=
 Option.bind ((if decide (p0c.2.1<(p0c.1.length:Int)) then ((aW p0c.1 p0c.2.1).bind fun x1=>some (nA (IntKind.i64.wrap ((nA (OB (jP (IntKind.i64.wrap ((IntKind.i64.wrap (p0c.2.2*6364136223846793005))+1442695040888963407)) 33) (jP (IntKind.i64.wrap ((IntKind.i64.wrap (p0c.2.2*6364136223846793005))+1442695040888963407)) 45)) 255)+(IntKind.i64.wrap x1))) 255,IntKind.i64.wrap (p0c.2.1+1),IntKind.i64.wrap ((IntKind.i64.wrap (p0c.2.2*6364136223846793005))+1442695040888963407))) else (some (nA (OB (jP (IntKind.i64.wrap ((IntKind.i64.wrap (p0c.2.2*6364136223846793005))+1442695040888963407)) 33) (jP (IntKind.i64.wrap ((IntKind.i64.wrap (p0c.2.2*6364136223846793005))+1442695040888963407)) 45)) 255,p0c.2.1,IntKind.i64.wrap ((IntKind.i64.wrap (p0c.2.2*6364136223846793005))+1442695040888963407))):Option (Int×Int×Int))) (fun s2=>some (s2.1,s2.2.1,s2.2.2))
def aJ (p0c:(List Int)×Int×Int) (p1n:Int):Option (Int×Int×Int):=
 if decide (p1n<=0) then (some (0,p0c.2.1,p0c.2.2)) else (if decide (p1n<=256) then ((fZ (p0c.1,p0c.2.1,p0c.2.2)).bind fun r0=>(chk (p1n≠0)).bind fun _=>some (Int.tmod r0.1 p1n,r0.2.1,r0.2.2)) else ((fZ (p0c.1,p0c.2.1,p0c.2.2)).bind fun r2=>(fZ (p0c.1,r2.2.1,r2.2.2)).bind fun r3=>(fZ (p0c.1,r3.2.1,r3.2.2)).bind fun r4=>(fZ (p0c.1,r4.2.1,r4.2.2)).bind fun r5=>(chk (p1n≠0)).bind fun _=>some (Int.tmod (IntKind.i64.wrap ((IntKind.i64.wrap ((IntKind.i64.wrap ((IntKind.i64.wrap (r2.1*16777216))+(IntKind.i64.wrap (r3.1*65536))))+(IntKind.i64.wrap (r4.1*256))))+r5.1)) p1n,r5.2.1,r5.2.2)))
def bd (p0c:(List Int)×Int×Int) (p1n:Int):Option (Bool×Int×Int):=
 (aJ (p0c.1,p0c.2.1,p0c.2.2) p1n).bind fun r0=>some (r0.1==0,r0.2.1,r0.2.2)
def aT (p0c:(List Int)×Int×Int) (p1list:List Int):Option (Int×Int×Int):=
 (aJ (p0c.1,p0c.2.1,p0c.2.2) (p1list.length:Int)).bind fun r0=>(aW p1list r0.1).bind fun x1=>some (x1,r0.2.1,r0.2.2)
def fF (p0c:(List Int)×Int×Int) (s3:Int×Int×Int×(List Int)×List Yq1):Option (Out (Yq8×Int×Int) (Int×Int×Int×(List Int)×List Yq1)):=
 if decide (s3.1>0) then ((aJ (p0c.1,s3.2.1,s3.2.2.1) 3).bind fun r6=>(cE 8 s3.2.2.2.1 ([r6.1])).bind fun z7=>some (.nxt (IntKind.i64.wrap (s3.1 - 1),r6.2.1,r6.2.2,z7,s3.2.2.2.2))) else (some (.brk (s3.1,s3.2.1,s3.2.2.1,s3.2.2.2.1,s3.2.2.2.2)))
def hZ (p0c:(List Int)×Int×Int) (s14:Int×Int×Int×Int×(List Int)×List Yq1):Option (Out (Yq8×Int×Int) (Int×Int×Int×Int×(List Int)×List Yq1)):=
 if decide (s14.2.1>0) then ((aJ (p0c.1,s14.2.2.1,s14.2.2.2.1) 3).bind fun r15=>(aJ (p0c.1,r15.2.1,r15.2.2) (s14.2.2.2.2.1.length:Int)).bind fun r20=>(aJ (p0c.1,r20.2.1,r20.2.2) (s14.2.2.2.2.1.length:Int)).bind fun r21=>(aT (p0c.1,r21.2.1,r21.2.2) ([0,0,1,2])).bind fun r22=>(cE 32 s14.2.2.2.2.2 ([(IntKind.i64.wrap ((IntKind.i64.wrap (s14.1+1))+r15.1),r20.1,r21.1,r22.1)])).bind fun z23=>some (.nxt (IntKind.i64.wrap ((IntKind.i64.wrap (s14.1+1))+r15.1),IntKind.i64.wrap (s14.2.1 - 1),r22.2.1,r22.2.2,s14.2.2.2.2.1,z23))) else (some (.brk (s14.1,s14.2.1,s14.2.2.1,s14.2.2.2.1,s14.2.2.2.2.1,s14.2.2.2.2.2)))
def ju (p0c:(List Int)×Int×Int):Option (Yq8×Int×Int):=
 (aT (p0c.1,p0c.2.1,p0c.2.2) ([2,3,4,4,5])).bind fun r0=>aU (aF (fF p0c) a8 (r0.1,r0.2.1,r0.2.2,([] :List Int),([] :List Yq1))) (fun r8=>some r8) (fun s9=>(aT (p0c.1,s9.2.1,s9.2.2.1) ([4,8,11])).bind fun r10=>(aJ (p0c.1,r10.2.1,r10.2.2) r10.1).bind fun r11=>aU (aF (hZ p0c) a8 (0,r11.1,r11.2.1,r11.2.2,s9.2.2.2.1,s9.2.2.2.2)) (fun r24=>some r24) (fun s25=>some ((s25.2.2.2.2.1,s25.2.2.2.2.2),s25.2.2.1,s25.2.2.2.1)))
def dS (p0c:(List Int)×Int×Int) (r0:Int×Int×Int) (s6:(List Int)×Int×Int×Int):Option (Out Yq9 ((List Int)×Int×Int×Int)):=
 if decide (s6.2.1<9) then ((bd (p0c.1,s6.2.2.1,s6.2.2.2) 3).bind fun r7=>Option.bind ((if r7.1 then (some ((-1),r7.2.1,r7.2.2)) else ((aJ (p0c.1,r7.2.1,r7.2.2) (IntKind.i64.wrap (1+r0.1))).bind fun r8=>some (r8.1,r8.2.1,r8.2.2)):Option (Int×Int×Int))) (fun s9=>Option.bind ((if decide (s6.2.1>3) then (some (-1)) else (some s9.1):Option Int)) (fun s10=>(cE 8 s6.1 ([s10])).bind fun z11=>some (.nxt (z11,IntKind.i64.wrap (s6.2.1+1),s9.2.1,s9.2.2))))) else (some (.brk (s6.1,s6.2.1,s6.2.2.1,s6.2.2.2)))
def fO (p0c:(List Int)×Int×Int) (r0:Int×Int×Int) (s4:Int×Int×(List Bool)×(List (List Int))×Int×Int):Option (Out Yq9 (Int×Int×(List Bool)×(List (List Int))×Int×Int)):=
 if decide (s4.1<(IntKind.i64.wrap (1+r0.1))) then (aU (aF (dS p0c r0) a8 (([] :List Int),0,s4.2.2.2.2.1,s4.2.2.2.2.2)) (fun r12=>some (.ret r12)) (fun s13=>(bd (p0c.1,s13.2.2.1,s13.2.2.2) 3).bind fun r16=>(cE 1 s4.2.2.1 ([r16.1])).bind fun z17=>(cE 24 s4.2.2.2.1 ([s13.1])).bind fun z18=>some (.nxt (IntKind.i64.wrap (s4.1+1),s4.2.1,z17,z18,r16.2.1,r16.2.2)))) else (some (.brk (s4.1,s4.2.1,s4.2.2.1,s4.2.2.2.1,s4.2.2.2.2.1,s4.2.2.2.2.2)))
def gz (p0c:(List Int)×Int×Int):Option Yq9:=
 (aJ (p0c.1,p0c.2.1,p0c.2.2) 4).bind fun r0=>(aJ (p0c.1,r0.2.1,r0.2.2) (IntKind.i64.wrap (1+r0.1))).bind fun r1=>aU (aF (fO p0c r0) a8 (0,r1.1,([] :List Bool),([] :List (List Int)),r1.2.1,r1.2.2)) (fun r19=>some r19) (fun s20=>some ((s20.2.1,s20.2.2.1,s20.2.2.2.1),s20.2.2.2.2.1,s20.2.2.2.2.2))
def dm (p0x:Int) (p1low:Int) (p2high:Int):Option Bool:=
 if decide (p0x≥p1low) then (some (decide (p0x<=p2high))) else (some false)
def iw (p0n:Int):Option Bool:=
 (dm p0n 0 8).bind fun r1=>some r1
def jv (p0:Int×Int×Int×Int):Option Int:=
 Option.bind ((if p0.1==1 then (some (p0.1==1)) else (some (p0.1==2)):Option Bool)) (fun s1=>if s1 then (if p0.2.1 !=0 then (some (-1)) else (if p0.2.2.1 !=0 then (some (-1)) else (if p0.2.2.2 !=0 then (some (-1)) else (some 0)))) else (if p0.1==3 then ((iw p0.2.1).bind fun r3=>if r3 then (if p0.2.2.1 !=0 then (some (-1)) else (if p0.2.2.2 !=0 then (some (-1)) else (some 0))) else (some (-1))) else (Option.bind ((if p0.1==4 then (some (p0.1==4)) else (some (p0.1==5)):Option Bool)) (fun s2=>if s2 then (if p0.2.1 !=0 then (some (-1)) else (if p0.2.2.1 !=0 then (some (-1)) else (if p0.2.2.2 !=0 then (some (-1)) else (some 2)))) else (if p0.1==6 then (if p0.2.1 !=0 then (some (-1)) else (if p0.2.2.1 !=0 then (some (-1)) else (if p0.2.2.2 !=0 then (some (-1)) else (some 1)))) else (if p0.1==7 then (if p0.2.1 !=0 then (some (-1)) else ((dm p0.2.2.2 1 3).bind fun r1=>if r1 then ((dm p0.2.2.1 0 p0.2.2.2).bind fun r2=>if r2 then (some 1) else (some (-1))) else (some (-1)))) else (some (-1))))))))
def lF (p0e:(List Yq1)) (s3:Int×Int):Option (Out Bool (Int×Int)):=
 if decide (s3.2<(p0e.length:Int)) then ((aW p0e s3.2).bind fun x3=>(jv (x3.1,x3.2.1,x3.2.2.1,x3.2.2.2)).bind fun r3=>if decide (r3<0) then (some (.ret false)) else (if decide (r3>s3.1) then (some (.ret false)) else (some (.nxt (IntKind.i64.wrap ((IntKind.i64.wrap (s3.1 - r3))+1),IntKind.i64.wrap (s3.2+1)))))) else (some (.brk (s3.1,s3.2)))
def ni (p0e:(List Yq1)):Option Bool:=
 aU (aF (lF p0e) a8 (0,0)) (fun r=>some r) (fun s4=>some (s4.1==1))
def eQ (p0e:(List Yq1)):Option Bool:=
 if decide ((p0e.length:Int)<=24) then ((ni p0e).bind fun r1=>some r1) else (some false)
def ic (p0l:List Yq1) (s3:Int×Int):Option (Out Int (Int×Int)):=
 if decide (s3.1>0) then ((aW p0l (IntKind.i64.wrap (s3.2 - 1))).bind fun x3=>(jv (x3.1,x3.2.1,x3.2.2.1,x3.2.2.2)).bind fun r3=>some (.nxt (IntKind.i64.wrap ((IntKind.i64.wrap (s3.1 - 1))+r3),IntKind.i64.wrap (s3.2 - 1)))) else (some (.brk (s3.1,s3.2)))
def eS (p0l:List Yq1):Option Int:=
 aU (aF (ic p0l) a8 (1,(p0l.length:Int))) (fun r=>some r) (fun s4=>some s4.2)
def cJ:Nat->(List Yq1)->Option Int
 | 0,_=>none
 | n+1,p0l =>
  (aW p0l (IntKind.i64.wrap ((p0l.length:Int) - 1))).bind fun x0=>Option.bind ((if x0.1==4 then (some (x0.1==4)) else (some (x0.1==5)):Option Bool)) (fun s1=>if s1 then ((chk (And (0<=(IntKind.i64.wrap ((p0l.length:Int) - 1))) ((IntKind.i64.wrap ((p0l.length:Int) - 1))<=(p0l.length:Int)))).bind fun _=>(eS (p0l.take ((IntKind.i64.wrap ((p0l.length:Int) - 1)).toNat))).bind fun r3=>(chk (And (0<=r3) (r3<=(p0l.length:Int)))).bind fun _=>((cJ n) (p0l.take r3.toNat)).bind fun r9=>(chk (And (0<=r3) (And (r3<=(IntKind.i64.wrap ((p0l.length:Int) - 1))) ((IntKind.i64.wrap ((p0l.length:Int) - 1))<=(p0l.length:Int))))).bind fun _=>((cJ n) ((p0l.take ((IntKind.i64.wrap ((p0l.length:Int) - 1)).toNat)).drop r3.toNat)).bind fun r11=>some (Min.min 100000 (IntKind.i64.wrap ((IntKind.i64.wrap (r9+r11))+1)))) else (if x0.1==6 then ((chk (And (0<=(IntKind.i64.wrap ((p0l.length:Int) - 1))) ((IntKind.i64.wrap ((p0l.length:Int) - 1))<=(p0l.length:Int)))).bind fun _=>((cJ n) (p0l.take ((IntKind.i64.wrap ((p0l.length:Int) - 1)).toNat))).bind fun r13=>some (Min.min 100000 (IntKind.i64.wrap (r13+1)))) else (if x0.1==7 then ((chk (And (0<=(IntKind.i64.wrap ((p0l.length:Int) - 1))) ((IntKind.i64.wrap ((p0l.length:Int) - 1))<=(p0l.length:Int)))).bind fun _=>((cJ n) (p0l.take ((IntKind.i64.wrap ((p0l.length:Int) - 1)).toNat))).bind fun r17=>some (Min.min 100000 (IntKind.i64.wrap ((IntKind.i64.wrap ((IntKind.i64.wrap (r17+3))*x0.2.2.2))+1)))) else (some 1))))
def qn (p0l:List Yq1):Option (List Yq1):=
 (cE 32 ([] :List Yq1) p0l).bind fun z1=>some z1
def cG (p0a:(List Yq1)) (p1b:(List Yq1)) (p2t:Int×Int×Int×Int):Option (List Yq1):=
 (qn p0a).bind fun r1=>(cE 32 r1 p1b).bind fun z1=>(cE 32 z1 ([(p2t.1,p2t.2.1,p2t.2.2.1,p2t.2.2.2)])).bind fun z2=>some z2
def jc (p0kind:Int):Option (List Yq1):=
 some ([(p0kind,0,0,0)])
def ga:Nat->(List Yq1)->Int->Int->Option (List Yq1)
 | 0,_,_,_=>none
 | n+1,p0e,p1low,p2high =>
  if p2high==0 then ((jc 2).bind fun r0=>some r0) else (((ga n) p0e (Max.max 0 (IntKind.i64.wrap (p1low - 1))) (IntKind.i64.wrap (p2high - 1))).bind fun r3=>(cG p0e r3 (4,0,0,0)).bind fun r4=>if decide (p1low>0) then (some r4) else ((jc 2).bind fun r7=>(cG r4 r7 (5,0,0,0)).bind fun r8=>some r8))
def bM:Nat->(List Yq1)->Option (List Yq1)
 | 0,_=>none
 | n+1,p0l =>
  (aW p0l (IntKind.i64.wrap ((p0l.length:Int) - 1))).bind fun x0=>Option.bind ((if x0.1==4 then (some (x0.1==4)) else (some (x0.1==5)):Option Bool)) (fun s1=>if s1 then ((chk (And (0<=(IntKind.i64.wrap ((p0l.length:Int) - 1))) ((IntKind.i64.wrap ((p0l.length:Int) - 1))<=(p0l.length:Int)))).bind fun _=>(eS (p0l.take ((IntKind.i64.wrap ((p0l.length:Int) - 1)).toNat))).bind fun r3=>(chk (And (0<=r3) (r3<=(p0l.length:Int)))).bind fun _=>((bM n) (p0l.take r3.toNat)).bind fun r10=>(chk (And (0<=r3) (And (r3<=(IntKind.i64.wrap ((p0l.length:Int) - 1))) ((IntKind.i64.wrap ((p0l.length:Int) - 1))<=(p0l.length:Int))))).bind fun _=>((bM n) ((p0l.take ((IntKind.i64.wrap ((p0l.length:Int) - 1)).toNat)).drop r3.toNat)).bind fun r12=>(cG r10 r12 (x0.1,x0.2.1,x0.2.2.1,x0.2.2.2)).bind fun r13=>some r13) else (if x0.1==6 then ((chk (And (0<=(IntKind.i64.wrap ((p0l.length:Int) - 1))) ((IntKind.i64.wrap ((p0l.length:Int) - 1))<=(p0l.length:Int)))).bind fun _=>((bM n) (p0l.take ((IntKind.i64.wrap ((p0l.length:Int) - 1)).toNat))).bind fun r18=>(cG r18 ([] :List Yq1) (x0.1,x0.2.1,x0.2.2.1,x0.2.2.2)).bind fun r19=>some r19) else (if x0.1==7 then ((chk (And (0<=(IntKind.i64.wrap ((p0l.length:Int) - 1))) ((IntKind.i64.wrap ((p0l.length:Int) - 1))<=(p0l.length:Int)))).bind fun _=>((bM n) (p0l.take ((IntKind.i64.wrap ((p0l.length:Int) - 1)).toNat))).bind fun r24=>(ga jO r24 x0.2.2.1 x0.2.2.2).bind fun r25=>some r25) else (some ([(x0.1,x0.2.1,x0.2.2.1,x0.2.2.2)])))))
def ig (p0e:(List Yq1)):Option (((List Yq1))×Bool):=
 (eQ p0e).bind fun r1=>if r1 then ((cJ jO p0e).bind fun r2=>if decide (r2>5000) then (some ([],false)) else ((bM jO p0e).bind fun r3=>if decide ((r3.length:Int)>400) then (some ([],false)) else (some (r3,true)))) else (some ([],false))
def fG (p1from:Int) (p2to:Int) (s2:Int×List Int):Option (Out NR (Int×List Int)):=
 if decide (s2.1<(s2.2.length:Int)) then (Option.bind (((chk (0<=s2.1)).bind fun _=>if (nA (jP p1from s2.1) 1)==1 then ((aW s2.2 s2.1).bind fun x6=>(aW s2.2 s2.1).bind fun x7=>some (s2.2.set s2.1.toNat (orI x6 p2to))) else (some s2.2):Option (List Int))) (fun s8=>some (.nxt (IntKind.i64.wrap (s2.1+1),s8)))) else (some (.brk (s2.1,s2.2)))
def jw (p0p:(List Int)×Int×Int×(List Int)×Bool) (p1from:Int) (p2to:Int):Option NR:=
 aU (aF (fG p1from p2to) a8 (0,p0p.2.2.2.1)) (fun r9=>some r9) (fun s10=>some (p0p.1,p0p.2.1,p0p.2.2.1,s10.2,p0p.2.2.2.2))
def cd:Nat->NR->(List Yq1)->Option ((Bool×Int×Int)×(List Int)×Int×Int×(List Int)×Bool)
 | 0,_,_=>none
 | n+1,p0,p1 =>
  (aW p1 (IntKind.i64.wrap ((p1.length:Int) - 1))).bind fun x0=>if x0.1==2 then (some ((true,0,0),p0.1,p0.2.1,p0.2.2.1,p0.2.2.2.1,p0.2.2.2.2)) else (if x0.1==3 then ((cE 8 p0.1 ([x0.2.1])).bind fun z2=>(cE 8 p0.2.2.2.1 ([0])).bind fun z3=>some ((false,rk 1 (p0.1.length:Int),rk 1 (p0.1.length:Int)),z2,p0.2.1,p0.2.2.1,z3,p0.2.2.2.2)) else (if x0.1==4 then ((chk (And (0<=(IntKind.i64.wrap ((p1.length:Int) - 1))) ((IntKind.i64.wrap ((p1.length:Int) - 1))<=(p1.length:Int)))).bind fun _=>(eS (p1.take ((IntKind.i64.wrap ((p1.length:Int) - 1)).toNat))).bind fun r5=>(chk (And (0<=r5) (r5<=(p1.length:Int)))).bind fun _=>((cd n) (p0.1,p0.2.1,p0.2.2.1,p0.2.2.2.1,p0.2.2.2.2) (p1.take r5.toNat)).bind fun r7=>(chk (And (0<=r5) (And (r5<=(IntKind.i64.wrap ((p1.length:Int) - 1))) ((IntKind.i64.wrap ((p1.length:Int) - 1))<=(p1.length:Int))))).bind fun _=>((cd n) (r7.2.1,r7.2.2.1,r7.2.2.2.1,r7.2.2.2.2.1,r7.2.2.2.2.2) ((p1.take ((IntKind.i64.wrap ((p1.length:Int) - 1)).toNat)).drop r5.toNat)).bind fun r9=>(jw (r9.2.1,r9.2.2.1,r9.2.2.2.1,r9.2.2.2.2.1,r9.2.2.2.2.2) r7.1.2.2 r9.1.2.1).bind fun r10=>if r7.1.1 then (Option.bind ((if r7.1.1 then (some (r9.1.1,orI r7.1.2.1 r9.1.2.1,r9.1.2.2)) else (some (r9.1.1,r7.1.2.1,r9.1.2.2)):Option (Bool×Int×Int))) (fun s11=>Option.bind ((if r9.1.1 then (some (s11.1,s11.2.1,orI r7.1.2.2 r9.1.2.2)) else (some (s11.1,s11.2.1,s11.2.2)):Option (Bool×Int×Int))) (fun s12=>some ((s12.1,s12.2.1,s12.2.2),r10.1,r10.2.1,r10.2.2.1,r10.2.2.2.1,r10.2.2.2.2)))) else (Option.bind ((if r7.1.1 then (some (false,orI r7.1.2.1 r9.1.2.1,r9.1.2.2)) else (some (false,r7.1.2.1,r9.1.2.2)):Option (Bool×Int×Int))) (fun s13=>Option.bind ((if r9.1.1 then (some (s13.1,s13.2.1,orI r7.1.2.2 r9.1.2.2)) else (some (s13.1,s13.2.1,s13.2.2)):Option (Bool×Int×Int))) (fun s14=>some ((s14.1,s14.2.1,s14.2.2),r10.1,r10.2.1,r10.2.2.1,r10.2.2.2.1,r10.2.2.2.2))))) else (if x0.1==5 then ((chk (And (0<=(IntKind.i64.wrap ((p1.length:Int) - 1))) ((IntKind.i64.wrap ((p1.length:Int) - 1))<=(p1.length:Int)))).bind fun _=>(eS (p1.take ((IntKind.i64.wrap ((p1.length:Int) - 1)).toNat))).bind fun r16=>(chk (And (0<=r16) (r16<=(p1.length:Int)))).bind fun _=>((cd n) (p0.1,p0.2.1,p0.2.2.1,p0.2.2.2.1,p0.2.2.2.2) (p1.take r16.toNat)).bind fun r18=>(chk (And (0<=r16) (And (r16<=(IntKind.i64.wrap ((p1.length:Int) - 1))) ((IntKind.i64.wrap ((p1.length:Int) - 1))<=(p1.length:Int))))).bind fun _=>((cd n) (r18.2.1,r18.2.2.1,r18.2.2.2.1,r18.2.2.2.2.1,r18.2.2.2.2.2) ((p1.take ((IntKind.i64.wrap ((p1.length:Int) - 1)).toNat)).drop r16.toNat)).bind fun r20=>if r18.1.1 then (some ((true,orI r18.1.2.1 r20.1.2.1,orI r18.1.2.2 r20.1.2.2),r20.2.1,r20.2.2.1,r20.2.2.2.1,r20.2.2.2.2.1,r20.2.2.2.2.2)) else (some ((r20.1.1,orI r18.1.2.1 r20.1.2.1,orI r18.1.2.2 r20.1.2.2),r20.2.1,r20.2.2.1,r20.2.2.2.1,r20.2.2.2.2.1,r20.2.2.2.2.2))) else (if x0.1==6 then ((chk (And (0<=(IntKind.i64.wrap ((p1.length:Int) - 1))) ((IntKind.i64.wrap ((p1.length:Int) - 1))<=(p1.length:Int)))).bind fun _=>((cd n) (p0.1,p0.2.1,p0.2.2.1,p0.2.2.2.1,p0.2.2.2.2) (p1.take ((IntKind.i64.wrap ((p1.length:Int) - 1)).toNat))).bind fun r22=>(jw (r22.2.1,r22.2.2.1,r22.2.2.2.1,r22.2.2.2.2.1,r22.2.2.2.2.2) r22.1.2.2 r22.1.2.1).bind fun r23=>some ((true,r22.1.2.1,r22.1.2.2),r23.1,r23.2.1,r23.2.2.1,r23.2.2.2.1,r23.2.2.2.2)) else (some ((false,0,0),p0.1,p0.2.1,p0.2.2.1,p0.2.2.2.1,p0.2.2.2.2))))))
def cf (r0:(List Yq1)×Bool) (s2:Int×Int):Option (Out (NR×Bool) (Int×Int)):=
 if decide (s2.2<(r0.1.length:Int)) then (Option.bind (((aW r0.1 s2.2).bind fun x3=>if x3.1==3 then (some (IntKind.i64.wrap (s2.1+1))) else (some s2.1):Option Int)) (fun s4=>some (.nxt (s4,IntKind.i64.wrap (s2.2+1))))) else (some (.brk (s2.1,s2.2)))
def eD (p0e:List Yq1):Option (NR×Bool):=
 (ig p0e).bind fun r0=>if r0.2 then (aU (aF (cf r0) a8 (0,0)) (fun r5=>some r5) (fun s6=>if decide (s6.1>20) then (some ((([] :List Int),0,0,([] :List Int),false),false)) else ((cd jO (([] :List Int),0,0,([] :List Int),false) r0.1).bind fun r7=>some ((r7.2.1,r7.1.2.1,r7.1.2.2,r7.2.2.2.2.1,r7.1.1),true)))) else (some ((([] :List Int),0,0,([] :List Int),false),false))
def yt (p0s:ByteArray) (p1sep:Int) (s1:(List ByteArray)×Int×Int):Option (Out (List ByteArray) ((List ByteArray)×Int×Int)):=
 if decide (s1.2.2<((p0s.size:Nat):Int)) then (Option.bind (((zO p0s s1.2.2).bind fun z2=>if z2==p1sep then ((Lk p0s s1.2.1 s1.2.2).bind fun z3=>(cE 16 s1.1 ([z3])).bind fun z4=>some (z4,IntKind.i64.wrap (s1.2.2+1))) else (some (s1.1,s1.2.1)):Option ((List ByteArray)×Int))) (fun s5=>some (.nxt (s5.1,s5.2,IntKind.i64.wrap (s1.2.2+1))))) else (some (.brk (s1.1,s1.2.1,s1.2.2)))
def yu (p0s:ByteArray) (p1sep:Int):Option (List ByteArray):=
 aU (aF (yt p0s p1sep) a8 (([] :List ByteArray),0,0)) (fun r6=>some r6) (fun s7=>(Lk p0s s7.2.1 ((p0s.size:Nat):Int)).bind fun z8=>(cE 16 s7.1 ([z8])).bind fun z9=>some z9)
def iG (p0n:Int):Option ByteArray:=
 (iw p0n).bind fun r1=>if r1 then ((aW ([(⟨#[97]⟩:ByteArray),(⟨#[97,45]⟩:ByteArray),(⟨#[98]⟩:ByteArray),(⟨#[98,45]⟩:ByteArray),(⟨#[99]⟩:ByteArray),(⟨#[99,45]⟩:ByteArray),(⟨#[48]⟩:ByteArray),(⟨#[49]⟩:ByteArray),(⟨#[50]⟩:ByteArray)]) p0n).bind fun x1=>some x1) else (some (⟨#[]⟩:ByteArray))
def rh (s1:Int×ByteArray):Option (Out ByteArray (Int×ByteArray)):=
 if s1.1 !=0 then (Option.bind ((if decide ((Int.tmod s1.1 10)<0) then (some (IntKind.i64.wrap (-(Int.tmod s1.1 10)))) else (some (Int.tmod s1.1 10)):Option Int)) (fun s2=>(Lj (sB ([IntKind.u8.wrap (IntKind.i64.wrap (48+s2))])) s1.2).bind fun z3=>some (.nxt (w7 s1.1 10,z3)))) else (some (.brk (s1.1,s1.2)))
def lG (p0n:Int):Option ByteArray:=
 if p0n==0 then (some (⟨#[48]⟩)) else (aU (aF (rh) a8 (p0n,(⟨#[]⟩:ByteArray))) (fun r4=>some r4) (fun s5=>if decide (p0n<0) then ((Lj (⟨#[45]⟩) s5.2).bind fun z6=>some z6) else (some s5.2)))
def sU (p0t:Int×Int×Int×Int):Option ByteArray:=
 if p0t.1==1 then (some (⟨#[33]⟩)) else (if p0t.1==2 then (some (⟨#[40,41]⟩)) else (if p0t.1==3 then ((iG p0t.2.1).bind fun r0=>some r0) else (if p0t.1==4 then (some (⟨#[46]⟩)) else (if p0t.1==5 then (some (⟨#[124]⟩)) else (if p0t.1==6 then (some (⟨#[42]⟩)) else ((lG p0t.2.2.1).bind fun r7=>(Lj (⟨#[123]⟩) r7).bind fun z8=>(Lj z8 (⟨#[44]⟩)).bind fun z9=>(lG p0t.2.2.2).bind fun r10=>(Lj z9 r10).bind fun z11=>(Lj z11 (⟨#[125]⟩)).bind fun z12=>some z12))))))
def pq (p0s:ByteArray) (s3:Int):Option (Out (Int×Bool) Int):=
 if decide (s3<9) then ((iG s3).bind fun r3=>if r3==p0s then (some (.ret (s3,true))) else (some (.nxt (IntKind.i64.wrap (s3+1))))) else (some (.brk s3))
def mF (p0s:ByteArray):Option (Int×Bool):=
 aU (aF (pq p0s) a8 0) (fun r=>some r) (fun s4=>some (0,false))
def wx (p0s:ByteArray) (s1:Int):Option (Out Yq1 Int):=
 if decide (s1<=6) then (if s1 !=3 then ((sU (s1,0,0,0)).bind fun r2=>if r2==p0s then (some (.ret (s1,0,0,0))) else (some (.nxt (IntKind.i64.wrap (s1+1))))) else (some (.nxt (IntKind.i64.wrap (s1+1))))) else (some (.brk s1))
def uT (p0s:ByteArray):Option Yq1:=
 aU (aF (wx p0s) a8 1) (fun r3=>some r3) (fun s4=>(mF p0s).bind fun r5=>if r5.2 then (some (3,r5.1,0,0)) else (if ((p0s.size:Nat):Int)==5 then ((zO p0s 0).bind fun z6=>if z6==123 then ((zO p0s 2).bind fun z7=>if z7==44 then ((zO p0s 4).bind fun z8=>if z8==125 then ((zO p0s 1).bind fun z11=>(zO p0s 3).bind fun z12=>some (7,0,IntKind.i64.wrap ((IntKind.i64.wrap z11) - 48),IntKind.i64.wrap ((IntKind.i64.wrap z12) - 48))) else (some (0,0,0,0))) else (some (0,0,0,0))) else (some (0,0,0,0))) else (some (0,0,0,0))))
def ri (r1:List ByteArray) (s3:Int×(List Yq1)):Option (Out (((List Yq1))×Bool) (Int×(List Yq1))):=
 if decide (s3.1<(r1.length:Int)) then (if decide (s3.1<=24) then ((aW r1 s3.1).bind fun x3=>(uT x3).bind fun r4=>(cE 32 s3.2 ([(r4.1,r4.2.1,r4.2.2.1,r4.2.2.2)])).bind fun z3=>some (.nxt (IntKind.i64.wrap (s3.1+1),z3))) else (some (.brk (s3.1,s3.2)))) else (some (.brk (s3.1,s3.2)))
def fw (p0s:ByteArray):Option (((List Yq1))×Bool):=
 (yu p0s 32).bind fun r1=>aU (aF (ri r1) a8 (0,[])) (fun r=>some r) (fun s4=>(eQ s4.2).bind fun r5=>if r5 then (some (s4.2,true)) else (some ([],false)))
def nj (p0c:(List Int)×Int×Int) (p1list:List ByteArray):Option (ByteArray×Int×Int):=
 (aJ (p0c.1,p0c.2.1,p0c.2.2) (p1list.length:Int)).bind fun r0=>(aW p1list r0.1).bind fun x1=>some (x1,r0.2.1,r0.2.2)
def lH (p0c:(List Int)×Int×Int):Option ((List Yq1)×Int×Int):=
 (nj (p0c.1,p0c.2.1,p0c.2.2) ([⟨#[97]⟩,⟨#[97,32,98,32,46]⟩,⟨#[97,32,42]⟩,⟨#[97,32,98,32,124,32,42]⟩,⟨#[97,32,97,45,32,46]⟩,⟨#[97,32,42,32,98,32,46]⟩,⟨#[97,32,98,32,42,32,46,32,99,32,46]⟩,⟨#[97,32,97,32,124,32,42]⟩,⟨#[97,32,98,32,46,32,42]⟩,⟨#[48,32,97,32,46,32,42]⟩,⟨#[97,32,49,32,46,32,98,32,46]⟩,⟨#[97,32,123,48,44,50,125]⟩,⟨#[97,32,98,32,124,32,123,49,44,51,125]⟩,⟨#[40,41]⟩,⟨#[33]⟩,⟨#[97,45,32,42,32,97,32,46]⟩,⟨#[97,32,98,45,32,46,32,42,32,99,32,124]⟩,⟨#[97,32,42,32,97,32,42,32,46]⟩,⟨#[97,32,48,32,124,32,42,32,98,32,46]⟩,⟨#[97,32,97,32,46,32,42]⟩,⟨#[97,32,98,32,46,32,98,32,97,32,46,32,124,32,42]⟩])).bind fun r0=>(fw r0.1).bind fun r1=>some (r1.1,r0.2.1,r0.2.2)
def nD (p0letter:Int):Option (List Yq1):=
 some ([(3,p0letter,0,0)])
def cr:Nat->((List Int)×Int×Int)->Int->Option ((List Yq1)×Int×Int)
 | 0,_,_=>none
 | n+1,p0,p1 =>
  if p1==0 then ((bd (p0.1,p0.2.1,p0.2.2) 12).bind fun r0=>if r0.1 then ((aT (p0.1,r0.2.1,r0.2.2) ([1,2])).bind fun r1=>(jc r1.1).bind fun r2=>some (r2,r1.2.1,r1.2.2)) else ((aT (p0.1,r0.2.1,r0.2.2) ([0,0,2,2,1,4,3,6,7])).bind fun r3=>(nD r3.1).bind fun r4=>some (r4,r3.2.1,r3.2.2))) else ((aJ (p0.1,p0.2.1,p0.2.2) 6).bind fun r5=>Option.bind ((if r5.1==0 then (some (r5.1==0)) else (some (r5.1==1)):Option Bool)) (fun s6=>if s6 then (((cr n) (p0.1,r5.2.1,r5.2.2) (IntKind.i64.wrap (p1 - 1))).bind fun r7=>((cr n) (p0.1,r7.2.1,r7.2.2) (IntKind.i64.wrap (p1 - 1))).bind fun r8=>(cG r7.1 r8.1 (4,0,0,0)).bind fun r9=>some (r9,r8.2.1,r8.2.2)) else (Option.bind ((if r5.1==2 then (some (r5.1==2)) else (some (r5.1==3)):Option Bool)) (fun s10=>if s10 then (((cr n) (p0.1,r5.2.1,r5.2.2) (IntKind.i64.wrap (p1 - 1))).bind fun r11=>((cr n) (p0.1,r11.2.1,r11.2.2) (IntKind.i64.wrap (p1 - 1))).bind fun r12=>(cG r11.1 r12.1 (5,0,0,0)).bind fun r13=>some (r13,r12.2.1,r12.2.2)) else (if r5.1==4 then (((cr n) (p0.1,r5.2.1,r5.2.2) (IntKind.i64.wrap (p1 - 1))).bind fun r14=>(cG r14.1 ([] :List Yq1) (6,0,0,0)).bind fun r15=>some (r15,r14.2.1,r14.2.2)) else ((aJ (p0.1,r5.2.1,r5.2.2) 3).bind fun r16=>((cr n) (p0.1,r16.2.1,r16.2.2) (IntKind.i64.wrap (p1 - 1))).bind fun r17=>(aJ (p0.1,r17.2.1,r17.2.2) (IntKind.i64.wrap ((IntKind.i64.wrap (1+r16.1))+1))).bind fun r18=>(cG r17.1 ([] :List Yq1) (7,0,r18.1,IntKind.i64.wrap (1+r16.1))).bind fun r19=>some (r19,r18.2.1,r18.2.2)))))))
def nk (p0c:(List Int)×Int×Int):Option ((List Yq1)×Int×Int):=
 (bd (p0c.1,p0c.2.1,p0c.2.2) 2).bind fun r0=>if r0.1 then ((lH (p0c.1,r0.2.1,r0.2.2)).bind fun r1=>some (r1.1,r1.2.1,r1.2.2)) else ((aJ (p0c.1,r0.2.1,r0.2.2) 3).bind fun r2=>(cr jO (p0c.1,r2.2.1,r2.2.2) (IntKind.i64.wrap (1+r2.1))).bind fun r3=>some (r3.1,r3.2.1,r3.2.2))
def eT (p0p:(List Int)×Int×Int×(List Int)×Bool) (p1set:Int) (s6:Int×Int):Option (Out Int (Int×Int)):=
 if decide (s6.2<(p0p.1.length:Int)) then (Option.bind (((chk (0<=IntKind.i64.wrap (s6.2+1))).bind fun _=>if (nA (jP p1set (IntKind.i64.wrap (s6.2+1))) 1)==1 then ((aW p0p.2.2.2.1 s6.2).bind fun x6=>some (orI s6.1 x6)) else (some s6.1):Option Int)) (fun s8=>some (.nxt (s8,IntKind.i64.wrap (s6.2+1))))) else (some (.brk (s6.1,s6.2)))
def eU (p0p:(List Int)×Int×Int×(List Int)×Bool) (p2letter:Int) (s7:Int×Int) (s13:Int×Int):Option (Out Int (Int×Int)):=
 if decide (s13.2<(p0p.1.length:Int)) then (Option.bind (((chk (0<=s13.2)).bind fun _=>if (nA (jP s7.1 s13.2) 1)==1 then ((aW p0p.1 s13.2).bind fun x12=>if x12==p2letter then ((chk (0<=IntKind.i64.wrap (s13.2+1))).bind fun _=>some (orI s13.1 (rk 1 (IntKind.i64.wrap (s13.2+1))))) else (some s13.1)) else (some s13.1):Option Int)) (fun s15=>some (.nxt (s15,IntKind.i64.wrap (s13.2+1))))) else (some (.brk (s13.1,s13.2)))
def jX (p0p:(List Int)×Int×Int×(List Int)×Bool) (p1set:Int) (p2letter:Int):Option Int:=
 Option.bind ((if (nA p1set 1)==1 then (some p0p.2.1) else (some 0):Option Int)) (fun s1=>aU (aF (eT p0p p1set) a8 (s1,0)) (fun r=>some r) (fun s7=>aU (aF (eU p0p p2letter s7) a8 (0,0)) (fun r=>some r) (fun s14=>some s14.1)))
def ko (p0l:List Int) (p1x:Int) (s3:Int):Option (Out Int Int):=
 if decide (s3<(p0l.length:Int)) then ((aW p0l s3).bind fun x3=>if x3==p1x then (some (.ret s3)) else (some (.nxt (IntKind.i64.wrap (s3+1))))) else (some (.brk s3))
def lI (p0l:List Int) (p1x:Int):Option Int:=
 aU (aF (ko p0l p1x) a8 0) (fun r=>some r) (fun s4=>some (-1))
def ij (p0p:(List Int)×Int×Int×(List Int)×Bool) (p1set:Int):Option Bool:=
 if (nA p1set 1)==1 then (if p0p.2.2.2.2 then (some true) else (some ((nA (jP p1set 1) p0p.2.2.1) !=0))) else (some ((nA (jP p1set 1) p0p.2.2.1) !=0))
def dy (p0:(List Int)×Int×Int×(List Int)×Bool) (s17:(List Int)×Int×Int×(List Bool)×(List (List Int))) (s23:(List Int)×(List Int)×Int):Option (Out (Yq2×Bool) ((List Int)×(List Int)×Int)):=
 if decide (s23.2.2<9) then ((aW s23.1 s17.2.1).bind fun x11=>(jX (p0.1,p0.2.1,p0.2.2.1,p0.2.2.2.1,p0.2.2.2.2) x11 s23.2.2).bind fun r27=>Option.bind ((if r27 !=0 then ((lI s23.1 r27).bind fun r29=>if decide (r29<0) then ((cE 8 s23.1 ([r27])).bind fun z30=>some (z30,(s23.1.length:Int))) else (some (s23.1,r29))) else (some (s23.1,-1)):Option ((List Int)×Int))) (fun s25=>(cE 8 s23.2.1 ([s25.2])).bind fun z31=>some (.nxt (s25.1,z31,IntKind.i64.wrap (s23.2.2+1))))) else (some (.brk (s23.1,s23.2.1,s23.2.2)))
def dz (p0:(List Int)×Int×Int×(List Int)×Bool) (p1:Int) (s17:(List Int)×Int×Int×(List Bool)×(List (List Int))):Option (Out (Yq2×Bool) ((List Int)×Int×Int×(List Bool)×(List (List Int)))):=
 if decide (s17.2.1<(s17.1.length:Int)) then (aU (aF (dy p0 s17) a8 (s17.1,([] :List Int),0)) (fun r=>some (.ret r)) (fun s24=>if decide ((s24.1.length:Int)>p1) then (some (.ret ((0,[],[]),false))) else ((aW s24.1 s17.2.1).bind fun x12=>(ij (p0.1,p0.2.1,p0.2.2.1,p0.2.2.2.1,p0.2.2.2.2) x12).bind fun r30=>(cE 1 s17.2.2.2.1 ([r30])).bind fun z32=>(cE 24 s17.2.2.2.2 ([s24.2.1])).bind fun z33=>some (.nxt (s24.1,IntKind.i64.wrap (s17.2.1+1),s17.2.2.1,z32,z33))))) else (some (.brk (s17.1,s17.2.1,s17.2.2.1,s17.2.2.2.1,s17.2.2.2.2)))
def da (p0:(List Int)×Int×Int×(List Int)×Bool) (p1:Int):Option (Yq2×Bool):=
 aU (aF (dz p0 p1) a8 ([1],0,0,[],[])) (fun r=>some r) (fun s18=>some ((s18.2.2.1,s18.2.2.2.1,s18.2.2.2.2),true))
def kL (p0c:(List Int)×Int×Int):Option Yq9:=
 (bd (p0c.1,p0c.2.1,p0c.2.2) 3).bind fun r0=>if r0.1 then ((gz (p0c.1,r0.2.1,r0.2.2)).bind fun r1=>some ((r1.1.1,r1.1.2.1,r1.1.2.2),r1.2.1,r1.2.2)) else ((nk (p0c.1,r0.2.1,r0.2.2)).bind fun r2=>(eD r2.1).bind fun r3=>(da (r3.1.1,r3.1.2.1,r3.1.2.2.1,r3.1.2.2.2.1,r3.1.2.2.2.2) 12).bind fun r4=>if r4.2 then (some ((r4.1.1,r4.1.2.1,r4.1.2.2),r2.2.1,r2.2.2)) else ((gz (p0c.1,r2.2.1,r2.2.2)).bind fun r5=>some ((r5.1.1,r5.1.2.1,r5.1.2.2),r5.2.1,r5.2.2)))
def mG (p0c:(List Int)×Int×Int):Option (Yq8×Int×Int):=
 (ju (p0c.1,p0c.2.1,p0c.2.2)).bind fun r0=>(aJ (p0c.1,r0.2.1,r0.2.2) 14).bind fun r1=>Option.bind ((if r1.1==0 then ((aT (p0c.1,r1.2.1,r1.2.2) ([(-1),3,2])).bind fun r4=>(aW r0.1.1 0).bind fun x5=>some (r4.2.1,r4.2.2,r0.1.1.set 0 r4.1,r0.1.2)) else (if r1.1==1 then ((aT (p0c.1,r1.2.1,r1.2.2) ([0,1,99,100])).bind fun r11=>(aJ (p0c.1,r11.2.1,r11.2.2) 6).bind fun r12=>(aJ (p0c.1,r12.2.1,r12.2.2) 6).bind fun r13=>(aJ (p0c.1,r13.2.1,r13.2.2) 4).bind fun r14=>(cE 32 r0.1.2 ([(r11.1,r12.1,r13.1,r14.1)])).bind fun z15=>some (r14.2.1,r14.2.2,r0.1.1,z15)) else (if r1.1==2 then (some (r1.2.1,r1.2.2,([] :List Int),r0.1.2)) else (some (r1.2.1,r1.2.2,r0.1.1,r0.1.2)))):Option (Int×Int×(List Int)×List Yq1))) (fun s16=>some ((s16.2.2.1,s16.2.2.2),s16.1,s16.2.1))
def kM (p0c:(List Int)×Int×Int):Option Yq9:=
 (kL (p0c.1,p0c.2.1,p0c.2.2)).bind fun r0=>(aJ (p0c.1,r0.2.1,r0.2.2) 14).bind fun r1=>Option.bind ((if r1.1==0 then ((aT (p0c.1,r1.2.1,r1.2.2) ([(-1),12,1])).bind fun r2=>some (r2.2.1,r2.2.2,r2.1,r0.1.2.1,r0.1.2.2)) else (if r1.1==1 then ((cE 1 r0.1.2.1 ([true])).bind fun z3=>some (r1.2.1,r1.2.2,r0.1.1,z3,r0.1.2.2)) else (if r1.1==2 then ((aW r0.1.2.2 0).bind fun x7=>(aT (p0c.1,r1.2.1,r1.2.2) ([(-2),12,0])).bind fun r8=>(aW x7 0).bind fun x9=>some (r8.2.1,r8.2.2,r0.1.1,r0.1.2.1,r0.1.2.2.set 0 (x7.set 0 r8.1))) else (if r1.1==3 then ((aW r0.1.2.2 0).bind fun x14=>(chk (And ((0:Int)<=8) (8<=(x14.length:Int)))).bind fun _=>(aW r0.1.2.2 0).bind fun x16=>(chk (0<((r0.1.2.2.set 0 ([] :List Int)).length:Int))).bind fun _=>some (r1.2.1,r1.2.2,r0.1.1,r0.1.2.1,r0.1.2.2.set 0 (x14.take 8))) else (some (r1.2.1,r1.2.2,r0.1.1,r0.1.2.1,r0.1.2.2))))):Option (Int×Int×Int×(List Bool)×List (List Int)))) (fun s18=>some ((s18.2.2.1,s18.2.2.2.1,s18.2.2.2.2),s18.1,s18.2.1))
def lJ (p0c:(List Int)×Int×Int):Option (Yq8×(Int×(List Bool)×List (List Int))×Int×Int):=
 (ju (p0c.1,p0c.2.1,p0c.2.2)).bind fun r0=>(kL (p0c.1,r0.2.1,r0.2.2)).bind fun r1=>(bd (p0c.1,r1.2.1,r1.2.2) 16).bind fun r2=>Option.bind ((if r2.1 then ((mG (p0c.1,r2.2.1,r2.2.2)).bind fun r3=>some (r3.2.1,r3.2.2,r3.1.1,r3.1.2)) else (some (r2.2.1,r2.2.2,r0.1.1,r0.1.2)):Option (Int×Int×(List Int)×List Yq1))) (fun s4=>(bd (p0c.1,s4.1,s4.2.1) 16).bind fun r5=>Option.bind ((if r5.1 then ((kM (p0c.1,r5.2.1,r5.2.2)).bind fun r6=>some (r6.2.1,r6.2.2,r6.1.1,r6.1.2.1,r6.1.2.2)) else (some (r5.2.1,r5.2.2,r1.1.1,r1.1.2.1,r1.1.2.2)):Option (Int×Int×Int×(List Bool)×List (List Int)))) (fun s7=>some ((s4.2.2.1,s4.2.2.2),(s7.2.2.1,s7.2.2.2.1,s7.2.2.2.2),s7.1,s7.2.1)))
def fH (p0a:Int×(List Bool)×(List (List Int))) (s3:Int×Int×(List Bool)×(List (List Int))):Option (Out Yq2 (Int×Int×(List Bool)×(List (List Int)))):=
 if decide (s3.1<(p0a.2.2.length:Int)) then ((aW p0a.2.2 s3.1).bind fun x3=>(cE 8 ([] :List Int) x3).bind fun z6=>(cE 24 s3.2.2.2 ([z6])).bind fun z7=>some (.nxt (IntKind.i64.wrap (s3.1+1),s3.2.1,s3.2.2.1,z7))) else (some (.brk (s3.1,s3.2.1,s3.2.2.1,s3.2.2.2)))
def fV (p0a:Int×(List Bool)×(List (List Int))):Option Yq2:=
 (cE 1 ([] :List Bool) p0a.2.1).bind fun z1=>aU (aF (fH p0a) a8 (0,p0a.1,z1,[])) (fun r=>some r) (fun s4=>some (s4.2.1,s4.2.2.1,s4.2.2.2))
def bj (p0g:(List Int)×(List Yq1)) (p1id:Int) (s3:Int):Option (Out Int Int):=
 if decide (s3<(p0g.2.length:Int)) then ((aW p0g.2 s3).bind fun x3=>if x3.1==p1id then (some (.ret s3)) else (some (.nxt (IntKind.i64.wrap (s3+1))))) else (some (.brk s3))
def bs (p0g:(List Int)×(List Yq1)) (p1id:Int):Option Int:=
 aU (aF (bj p0g p1id) a8 0) (fun r=>some r) (fun s4=>some (-1))
def gV (p0a:Int×(List Bool)×(List (List Int))) (p2v:Int) (s3:Int×Int):Option (Out Int (Int×Int)):=
 if decide (s3.1≥0) then ((chk (0<=s3.1)).bind fun _=>if (nA (jP s3.2 s3.1) 1)==0 then ((chk (0<=s3.1)).bind fun _=>(aW p0a.2.2 s3.1).bind fun x5=>(aW x5 (IntKind.i64.wrap (6+p2v))).bind fun x6=>some (.nxt (x6,orI s3.2 (rk 1 s3.1)))) else (some (.brk (s3.1,s3.2)))) else (some (.brk (s3.1,s3.2)))
def db (p0a:Int×(List Bool)×(List (List Int))) (p1s:Int) (p2v:Int):Option Int:=
 aU (aF (gV p0a p2v) a8 (p1s,0)) (fun r=>some r) (fun s4=>some s4.2)
def gA (p0g:(List Int)×(List Yq1)) (p1node:Int) (s9:(List (Int×Bool))×Int):Option (Out (List (Int×Bool)) ((List (Int×Bool))×Int)):=
 if decide (s9.2<(p0g.2.length:Int)) then (Option.bind ((Option.bind (((aW p0g.2 s9.2).bind fun x33=>if x33.2.1==p1node then ((aW p0g.2 s9.2).bind fun x34=>(cE 16 s9.1 ([(x34.1,false)])).bind fun z17=>some z17) else (some s9.1):Option (List (Int×Bool)))) (fun s13=>(aW p0g.2 s9.2).bind fun x35=>if x35.2.2.1==p1node then ((aW p0g.2 s9.2).bind fun x36=>(cE 16 s13 ([(x36.1,true)])).bind fun z18=>some z18) else (some s13)):Option (List (Int×Bool)))) (fun s12=>some (.nxt (s12,IntKind.i64.wrap (s9.2+1))))) else (some (.brk (s9.1,s9.2)))
def kN (p0g:(List Int)×(List Yq1)) (p1node:Int):Option (List (Int×Bool)):=
 aU (aF (gA p0g p1node) a8 (([] :List (Int×Bool)),0)) (fun r=>some r) (fun s10=>some s10.1)
def dH (p0e:Int×Int×Int×Int) (p1inverse:Bool):Option Int:=
 if p1inverse then (some (IntKind.i64.wrap ((IntKind.i64.wrap (2*p0e.2.2.2))+1))) else (some (IntKind.i64.wrap (2*p0e.2.2.2)))
def jx (p0e:Int×Int×Int×Int) (p1inverse:Bool):Option Int:=
 if p1inverse then (some p0e.2.1) else (some p0e.2.2.1)
def eV (p1:Int×(List Bool)×(List (List Int))) (r1:Int) (r2:List (Int×Bool)) (s31:(List Yq3)×Int) (x67:Int×Int×Int×Int) (s37:Int×Int):Option (Out (List Yq3) (Int×Int)):=
 if decide (s37.2<(p1.2.1.length:Int)) then (Option.bind (((aW p1.2.2 s37.2).bind fun x83=>(aW r2 s31.2).bind fun x84=>(dH (x67.1,x67.2.1,x67.2.2.1,x67.2.2.2) x84.2).bind fun r53=>(aW x83 r53).bind fun x85=>(chk (0<=s37.2)).bind fun _=>if (nA (jP r1 s37.2) 1)==1 then (if decide (x85≥0) then ((chk (0<=x85)).bind fun _=>some (orI s37.1 (rk 1 x85))) else (some s37.1)) else (some s37.1):Option Int)) (fun s39=>some (.nxt (s39,IntKind.i64.wrap (s37.2+1))))) else (some (.brk (s37.1,s37.2)))
def eW (p1:Int×(List Bool)×(List (List Int))) (r2:List (Int×Bool)) (s31:(List Yq3)×Int) (x67:Int×Int×Int×Int) (s38:Int×Int) (s44:(List Yq3)×Int):Option (Out (List Yq3) ((List Yq3)×Int)):=
 if decide (s44.2<(p1.2.1.length:Int)) then (Option.bind (((chk (0<=s44.2)).bind fun _=>if (nA (jP s38.1 s44.2) 1)==1 then ((aW r2 s31.2).bind fun x96=>(aW r2 s31.2).bind fun x97=>(jx (x67.1,x67.2.1,x67.2.2.1,x67.2.2.2) x97.2).bind fun r59=>(cE 32 s44.1 ([((x96.1,x96.2),r59,s44.2)])).bind fun z18=>some z18) else (some s44.1):Option (List Yq3))) (fun s46=>some (.nxt (s46,IntKind.i64.wrap (s44.2+1))))) else (some (.brk (s44.1,s44.2)))
def eX (p0:(List Int)×(List Yq1)) (p1:Int×(List Bool)×(List (List Int))) (r1:Int) (r2:List (Int×Bool)) (s31:(List Yq3)×Int):Option (Out (List Yq3) ((List Yq3)×Int)):=
 if decide (s31.2<(r2.length:Int)) then ((aW r2 s31.2).bind fun x66=>(bs (p0.1,p0.2) x66.1).bind fun r41=>(aW p0.2 r41).bind fun x67=>aU (aF (eV p1 r1 r2 s31 x67) a8 (0,0)) (fun r=>some (.ret r)) (fun s38=>aU (aF (eW p1 r2 s31 x67 s38) a8 (s31.1,0)) (fun r=>some (.ret r)) (fun s45=>some (.nxt (s45.1,IntKind.i64.wrap (s31.2+1)))))) else (some (.brk (s31.1,s31.2)))
def dE (p0:(List Int)×(List Yq1)) (p1:Int×(List Bool)×(List (List Int))) (p2:Int) (p3:Int):Option (List Yq3):=
 (aW p0.1 p2).bind fun x1=>(db (p1.1,p1.2.1,p1.2.2) p3 x1).bind fun r1=>(kN (p0.1,p0.2) p2).bind fun r2=>aU (aF (eX p0 p1 r1 r2) a8 (([] :List Yq3),0)) (fun r=>some r) (fun s32=>some s32.1)
def eY (p0:(List Int)×(List Yq1)) (p1:Int×(List Bool)×(List (List Int))) (s3:(List Int)×Int):Option (Out (List Int) ((List Int)×Int)):=
 if decide (s3.2<IntKind.i64.wrap ((p0.1.length:Int)*(p1.2.1.length:Int))) then ((cE 8 s3.1 ([-1])).bind fun z3=>some (.nxt (z3,IntKind.i64.wrap (s3.2+1)))) else (some (.brk (s3.1,s3.2)))
def eZ (p1:Int×(List Bool)×(List (List Int))) (s21:(List Int)×(List Int)×Int) (r3:List Yq3) (s27:(List Int)×(List Int)×Int):Option (Out (List Int) ((List Int)×(List Int)×Int)):=
 if decide (s27.2.2<(r3.length:Int)) then (Option.bind (((aW r3 s27.2.2).bind fun x111=>(aW r3 s27.2.2).bind fun x112=>(aW s27.1 (IntKind.i64.wrap ((IntKind.i64.wrap (x111.2.1*(p1.2.1.length:Int)))+x112.2.2))).bind fun x113=>if decide (x113<0) then ((aW s27.2.1 s21.2.2).bind fun x114=>(aW s27.1 x114).bind fun x115=>(aW s27.1 (IntKind.i64.wrap ((IntKind.i64.wrap (x111.2.1*(p1.2.1.length:Int)))+x112.2.2))).bind fun x116=>(cE 8 s27.2.1 ([IntKind.i64.wrap ((IntKind.i64.wrap (x111.2.1*(p1.2.1.length:Int)))+x112.2.2)])).bind fun z21=>some (s27.1.set (IntKind.i64.wrap ((IntKind.i64.wrap (x111.2.1*(p1.2.1.length:Int)))+x112.2.2)).toNat (IntKind.i64.wrap (x115+1)),z21)) else (some (s27.1,s27.2.1)):Option ((List Int)×(List Int)))) (fun s29=>some (.nxt (s29.1,s29.2,IntKind.i64.wrap (s27.2.2+1))))) else (some (.brk (s27.1,s27.2.1,s27.2.2)))
def fa (p0:(List Int)×(List Yq1)) (p1:Int×(List Bool)×(List (List Int))) (s21:(List Int)×(List Int)×Int):Option (Out (List Int) ((List Int)×(List Int)×Int)):=
 if decide (s21.2.2<(s21.2.1.length:Int)) then ((aW s21.2.1 s21.2.2).bind fun x79=>(chk ((p1.2.1.length:Int)≠0)).bind fun _=>(aW s21.2.1 s21.2.2).bind fun x80=>(chk ((p1.2.1.length:Int)≠0)).bind fun _=>(dE (p0.1,p0.2) (p1.1,p1.2.1,p1.2.2) (w7 x79 (p1.2.1.length:Int)) (Int.tmod x80 (p1.2.1.length:Int))).bind fun r3=>aU (aF (eZ p1 s21 r3) a8 (s21.1,s21.2.1,0)) (fun r=>some (.ret r)) (fun s28=>some (.nxt (s28.1,s28.2.1,IntKind.i64.wrap (s21.2.2+1))))) else (some (.brk (s21.1,s21.2.1,s21.2.2)))
def fb (p0:(List Int)×(List Yq1)) (p1:Int×(List Bool)×(List (List Int))) (p2:Int):Option (List Int):=
 aU (aF (eY p0 p1) a8 (([] :List Int),0)) (fun r=>some r) (fun s4=>(aW ([IntKind.i64.wrap ((IntKind.i64.wrap (p2*(p1.2.1.length:Int)))+p1.1)]) 0).bind fun x1=>(aW s4.1 x1).bind fun x2=>aU (aF (fa p0 p1) a8 (s4.1.set x1.toNat 0,[IntKind.i64.wrap ((IntKind.i64.wrap (p2*(p1.2.1.length:Int)))+p1.1)],0)) (fun r=>some r) (fun s22=>some s22.1))
def cK (p1:Int×(List Bool)×(List (List Int))) (s17:Int×Int×(List Bool)×(List (List Int))×Int×(List Int)×(List Int)) (r5:List Yq3) (s23:Int×Int×(List Bool)×(List (List Int))×Int×(List Int)×(List Int)):Option (Out Yq4 (Int×Int×(List Bool)×(List (List Int))×Int×(List Int)×(List Int))):=
 if decide (s23.1<(r5.length:Int)) then ((aW s23.2.2.2.2.2.1 s17.1).bind fun x106=>if decide (x106≥0) then (Option.bind (((aW r5 s23.1).bind fun x113=>(aW r5 s23.1).bind fun x114=>(aW s23.2.2.2.2.2.1 (IntKind.i64.wrap ((IntKind.i64.wrap (x113.2.1*(p1.2.1.length:Int)))+x114.2.2))).bind fun x115=>(aW s23.2.2.2.2.2.1 s17.1).bind fun x116=>if x115==(IntKind.i64.wrap (x116+1)) then ((aW s23.2.2.2.2.2.2 (IntKind.i64.wrap ((IntKind.i64.wrap (x113.2.1*(p1.2.1.length:Int)))+x114.2.2))).bind fun x117=>(aW s23.2.2.2.2.2.2 (IntKind.i64.wrap ((IntKind.i64.wrap (x113.2.1*(p1.2.1.length:Int)))+x114.2.2))).bind fun x118=>some (s23.2.1,s23.2.2.1,s23.2.2.2.1,s23.2.2.2.2.1,s23.2.2.2.2.2.1,s23.2.2.2.2.2.2.set (IntKind.i64.wrap ((IntKind.i64.wrap (x113.2.1*(p1.2.1.length:Int)))+x114.2.2)).toNat (IntKind.i64.wrap (x117+1)))) else (some (s23.2.1,s23.2.2.1,s23.2.2.2.1,s23.2.2.2.2.1,s23.2.2.2.2.2.1,s23.2.2.2.2.2.2)):Option (Int×(List Bool)×(List (List Int))×Int×(List Int)×(List Int)))) (fun s25=>some (.nxt (IntKind.i64.wrap (s23.1+1),s25.1,s25.2.1,s25.2.2.1,s25.2.2.2.1,s25.2.2.2.2.1,s25.2.2.2.2.2)))) else (some (.brk (s23.1,s23.2.1,s23.2.2.1,s23.2.2.2.1,s23.2.2.2.2.1,s23.2.2.2.2.2.1,s23.2.2.2.2.2.2)))) else (some (.brk (s23.1,s23.2.1,s23.2.2.1,s23.2.2.2.1,s23.2.2.2.2.1,s23.2.2.2.2.2.1,s23.2.2.2.2.2.2)))
def fc (p0:(List Int)×(List Yq1)) (p1:Int×(List Bool)×(List (List Int))) (s17:Int×Int×(List Bool)×(List (List Int))×Int×(List Int)×(List Int)):Option (Out Yq4 (Int×Int×(List Bool)×(List (List Int))×Int×(List Int)×(List Int))):=
 if decide (s17.1<(s17.2.2.2.2.2.1.length:Int)) then ((chk ((p1.2.1.length:Int)≠0)).bind fun _=>(chk ((p1.2.1.length:Int)≠0)).bind fun _=>(dE (p0.1,p0.2) (p1.1,p1.2.1,p1.2.2) (w7 s17.1 (p1.2.1.length:Int)) (Int.tmod s17.1 (p1.2.1.length:Int))).bind fun r5=>aU (aF (cK p1 s17 r5) a8 (0,s17.2.1,s17.2.2.1,s17.2.2.2.1,s17.2.2.2.2.1,s17.2.2.2.2.2.1,s17.2.2.2.2.2.2)) (fun r=>some (.ret r)) (fun s24=>some (.nxt (IntKind.i64.wrap (s17.1+1),s24.2.1,s24.2.2.1,s24.2.2.2.1,s24.2.2.2.2.1,s24.2.2.2.2.2.1,s24.2.2.2.2.2.2)))) else (some (.brk (s17.1,s17.2.1,s17.2.2.1,s17.2.2.2.1,s17.2.2.2.2.1,s17.2.2.2.2.2.1,s17.2.2.2.2.2.2)))
def bS (p0:(List Int)×(List Yq1)) (p1:Int×(List Bool)×(List (List Int))) (p2:Int):Option Yq4:=
 (fV (p1.1,p1.2.1,p1.2.2)).bind fun r1=>(fb (p0.1,p0.2) (p1.1,p1.2.1,p1.2.2) p2).bind fun r2=>(mkI 8 (r2.length:Int) (0:Int)).bind fun x1=>aU (aF (fc p0 p1) a8 (0,r1.1,r1.2.1,r1.2.2,p2,r2,x1)) (fun r=>some r) (fun s18=>some ((s18.2.1,s18.2.2.1,s18.2.2.2.1),s18.2.2.2.2.1,s18.2.2.2.2.2.1,s18.2.2.2.2.2.2))
def kO (p0g:(List Int)×(List Yq1)) (p1e:Int×Int×Int×Int):Option Bool:=
 (dm p1e.1 1 99).bind fun r1=>if r1 then ((dm p1e.2.1 0 (IntKind.i64.wrap ((p0g.1.length:Int) - 1))).bind fun r2=>if r2 then ((dm p1e.2.2.1 0 (IntKind.i64.wrap ((p0g.1.length:Int) - 1))).bind fun r3=>if r3 then ((dm p1e.2.2.2 0 2).bind fun r4=>some r4) else (some false)) else (some false)) else (some false)
def jy (p0g:(List Int)×(List Yq1)) (s3:Int):Option (Out Bool Int):=
 if decide (s3<(p0g.1.length:Int)) then ((aW p0g.1 s3).bind fun x3=>(dm x3 0 2).bind fun r3=>if r3 then (some (.nxt (IntKind.i64.wrap (s3+1)))) else (some (.ret false))) else (some (.brk s3))
def fW (p0g:(List Int)×(List Yq1)) (s7:Int):Option (Out Bool Int):=
 if decide (s7<(p0g.2.length:Int)) then ((aW p0g.2 s7).bind fun x10=>(kO (p0g.1,p0g.2) (x10.1,x10.2.1,x10.2.2.1,x10.2.2.2)).bind fun r6=>if r6 then (if decide (s7>0) then ((aW p0g.2 (IntKind.i64.wrap (s7 - 1))).bind fun x11=>(aW p0g.2 s7).bind fun x12=>if decide (x11.1≥x12.1) then (some (.ret false)) else (some (.nxt (IntKind.i64.wrap (s7+1))))) else (some (.nxt (IntKind.i64.wrap (s7+1))))) else (some (.ret false))) else (some (.brk s7))
def bE (p0g:(List Int)×(List Yq1)):Option Bool:=
 aU (aF (jy p0g) a8 0) (fun r=>some r) (fun s4=>aU (aF (fW p0g) a8 0) (fun r=>some r) (fun s8=>(dm (p0g.1.length:Int) 1 5).bind fun r7=>if r7 then (some (decide ((p0g.2.length:Int)<=12))) else (some false)))
def eh (p0a:Int×(List Bool)×(List (List Int))) (s11:Int) (s15:Int):Option (Out Bool Int):=
 if decide (s15<9) then ((aW p0a.2.2 s11).bind fun x20=>(aW x20 s15).bind fun x21=>(dm x21 (-1) (IntKind.i64.wrap ((p0a.2.1.length:Int) - 1))).bind fun r22=>if r22 then (some (.nxt (IntKind.i64.wrap (s15+1)))) else (some (.ret false))) else (some (.brk s15))
def il (p0a:Int×(List Bool)×(List (List Int))) (s11:Int):Option (Out Bool Int):=
 if decide (s11<(p0a.2.1.length:Int)) then ((aW p0a.2.2 s11).bind fun x15=>if (x15.length:Int) !=9 then (some (.ret false)) else (aU (aF (eh p0a s11) a8 0) (fun r=>some (.ret r)) (fun s16=>some (.nxt (IntKind.i64.wrap (s11+1)))))) else (some (.brk s11))
def jz (p0a:Int×(List Bool)×(List (List Int))):Option Bool:=
 (dm p0a.1 0 (IntKind.i64.wrap ((p0a.2.1.length:Int) - 1))).bind fun r1=>if r1 then (if (p0a.2.2.length:Int) !=(p0a.2.1.length:Int) then (some false) else (aU (aF (il p0a) a8 0) (fun r=>some r) (fun s12=>some true))) else (some false)
def bQ (p0a:Int×(List Bool)×(List (List Int))):Option Bool:=
 if decide ((p0a.2.1.length:Int)<=12) then ((jz (p0a.1,p0a.2.1,p0a.2.2)).bind fun r1=>some r1) else (some false)
def fe (p0g:(List Int)×(List Yq1)) (p1a:Int×(List Bool)×(List (List Int))) (p2node:Int) (p3s:Int):Option Bool:=
 (bE (p0g.1,p0g.2)).bind fun r1=>if r1 then ((bQ (p1a.1,p1a.2.1,p1a.2.2)).bind fun r2=>if r2 then ((dm p2node 0 (IntKind.i64.wrap ((p0g.1.length:Int) - 1))).bind fun r3=>if r3 then ((dm p3s 0 (IntKind.i64.wrap ((p1a.2.1.length:Int) - 1))).bind fun r4=>some r4) else (some false)) else (some false)) else (some false)
def bZ (p0g:(List Int)×(List Yq1)) (p1a:Int×(List Bool)×(List (List Int))) (p2source:Int):Option (Yq4×Bool):=
 (fe (p0g.1,p0g.2) (p1a.1,p1a.2.1,p1a.2.2) p2source 0).bind fun r1=>if r1 then ((bS (p0g.1,p0g.2) (p1a.1,p1a.2.1,p1a.2.2) p2source).bind fun r2=>some (((r2.1.1,r2.1.2.1,r2.1.2.2),r2.2.1,r2.2.2.1,r2.2.2.2),true)) else (some (((0,[],[]),0,[],[]),false))
def kP (p0c:(List Int)×Int×Int) (p1g:(List Int)×List Yq1):Option (Int×Int×Int):=
 (bd (p0c.1,p0c.2.1,p0c.2.2) 14).bind fun r0=>if r0.1 then ((aT (p0c.1,r0.2.1,r0.2.2) ([(-1),5,9223372036854775807])).bind fun r1=>some (r1.1,r1.2.1,r1.2.2)) else ((aJ (p0c.1,r0.2.1,r0.2.2) (Max.max 1 (p1g.1.length:Int))).bind fun r2=>some (r2.1,r2.2.1,r2.2.2))
def gW (p0:(List Int)×Int×Int):Option (Yq8×Yq5×Int×Int):=
 (lJ (p0.1,p0.2.1,p0.2.2)).bind fun r0=>(kP (p0.1,r0.2.2.1,r0.2.2.2) (r0.1.1,r0.1.2)).bind fun r3=>(bZ (r0.1.1,r0.1.2) (r0.2.1.1,r0.2.1.2.1,r0.2.1.2.2) r3.1).bind fun r4=>(aJ (p0.1,r3.2.1,r3.2.2) 16).bind fun r5=>Option.bind ((if r5.1==0 then (if decide ((r4.1.2.2.1.length:Int)>0) then ((aJ (p0.1,r5.2.1,r5.2.2) (r4.1.2.2.1.length:Int)).bind fun r9=>(aT (p0.1,r9.2.1,r9.2.2) ([(-1),0,1,3])).bind fun r10=>(aW r4.1.2.2.1 r9.1).bind fun x11=>some (r10.2.1,r10.2.2,r4.1.1.1,r4.1.1.2.1,r4.1.1.2.2,r4.1.2.1,r4.1.2.2.1.set r9.1.toNat r10.1,r4.1.2.2.2)) else (some (r5.2.1,r5.2.2,r4.1.1.1,r4.1.1.2.1,r4.1.1.2.2,r4.1.2.1,r4.1.2.2.1,r4.1.2.2.2))) else (if r5.1==1 then (if decide ((r4.1.2.2.2.length:Int)>0) then ((aJ (p0.1,r5.2.1,r5.2.2) (r4.1.2.2.2.length:Int)).bind fun r15=>(aT (p0.1,r15.2.1,r15.2.2) ([0,1,2])).bind fun r16=>(aW r4.1.2.2.2 r15.1).bind fun x17=>some (r16.2.1,r16.2.2,r4.1.1.1,r4.1.1.2.1,r4.1.1.2.2,r4.1.2.1,r4.1.2.2.1,r4.1.2.2.2.set r15.1.toNat r16.1)) else (some (r5.2.1,r5.2.2,r4.1.1.1,r4.1.1.2.1,r4.1.1.2.2,r4.1.2.1,r4.1.2.2.1,r4.1.2.2.2))) else (if r5.1==2 then (some (r5.2.1,r5.2.2,r4.1.1.1,r4.1.1.2.1,r4.1.1.2.2,IntKind.i64.wrap (r4.1.2.1+1),r4.1.2.2.1,r4.1.2.2.2)) else (some (r5.2.1,r5.2.2,r4.1.1.1,r4.1.1.2.1,r4.1.1.2.2,r4.1.2.1,r4.1.2.2.1,r4.1.2.2.2)))):Option (Int×Int×Int×(List Bool)×(List (List Int))×Int×(List Int)×List Int))) (fun s18=>some ((r0.1.1,r0.1.2),((s18.2.2.1,s18.2.2.2.1,s18.2.2.2.2.1),s18.2.2.2.2.2.1,s18.2.2.2.2.2.2.1,s18.2.2.2.2.2.2.2),s18.1,s18.2.1))
def bC (p0g:(List Int)×(List Yq1)):Option ((List Int)×(List Yq1)):=
 (cE 8 ([] :List Int) p0g.1).bind fun z1=>(cE 32 ([] :List Yq1) p0g.2).bind fun z2=>some (z1,z2)
def fx (p0:(List Int)×(List Yq1)) (p1:Int×Int×Int×Int) (s3:Int):Option (Out Yq7 Int):=
 if decide (s3<(p0.2.length:Int)) then ((aW p0.2 s3).bind fun x3=>if decide (x3.1<p1.1) then (some (.nxt (IntKind.i64.wrap (s3+1)))) else (some (.brk s3))) else (some (.brk s3))
def ep (p0:(List Int)×(List Yq1)) (p1:Int×Int×Int×Int):Option Yq7:=
 (bE (p0.1,p0.2)).bind fun r1=>if r1 then ((kO (p0.1,p0.2) (p1.1,p1.2.1,p1.2.2.1,p1.2.2.2)).bind fun r3=>if r3 then ((bs (p0.1,p0.2) p1.1).bind fun r5=>if decide (r5≥0) then ((bC (p0.1,p0.2)).bind fun r7=>some ((r7.1,r7.2),false)) else (if (p0.2.length:Int)==12 then ((bC (p0.1,p0.2)).bind fun r6=>some ((r6.1,r6.2),false)) else (aU (aF (fx p0 p1) a8 0) (fun r=>some r) (fun s4=>(cE 8 ([] :List Int) p0.1).bind fun z1=>(chk (0<=s4/\s4<=(p0.2.length:Int))).bind fun _=>(cE 32 ([] :List Yq1) (p0.2.take s4.toNat)).bind fun z2=>(cE 32 z2 ([(p1.1,p1.2.1,p1.2.2.1,p1.2.2.2)])).bind fun z3=>(chk (0<=s4/\s4<=(p0.2.length:Int))).bind fun _=>(cE 32 z3 (p0.2.drop s4.toNat)).bind fun z4=>some ((z1,z4),true))))) else ((bC (p0.1,p0.2)).bind fun r4=>some ((r4.1,r4.2),false))) else ((bC (p0.1,p0.2)).bind fun r2=>some ((r2.1,r2.2),false))
def er (p0g:(List Int)×(List Yq1)) (p1id:Int):Option Yq7:=
 (bs (p0g.1,p0g.2) p1id).bind fun r1=>(bE (p0g.1,p0g.2)).bind fun r2=>if r2 then (if decide (r1<0) then ((bC (p0g.1,p0g.2)).bind fun r4=>some ((r4.1,r4.2),false)) else ((cE 8 ([] :List Int) p0g.1).bind fun z1=>(chk (0<=r1/\r1<=(p0g.2.length:Int))).bind fun _=>(cE 32 ([] :List Yq1) (p0g.2.take r1.toNat)).bind fun z2=>(chk (0<=IntKind.i64.wrap (r1+1)/\IntKind.i64.wrap (r1+1)<=(p0g.2.length:Int))).bind fun _=>(cE 32 z2 (p0g.2.drop (IntKind.i64.wrap (r1+1)).toNat)).bind fun z3=>some ((z1,z3),true))) else ((bC (p0g.1,p0g.2)).bind fun r3=>some ((r3.1,r3.2),false))
def b7 (p0:(List Int)×(List Yq1)) (p1:(List (Bool×Yq1))) (s5:Int×(List Int)×(List Yq1)):Option (Out Yq7 (Int×(List Int)×(List Yq1))):=
 if decide (s5.1<(p1.length:Int)) then (if decide (s5.1<=6) then (mc (S:=(List Int)×(List Yq1)) ((aW p1 s5.1).bind fun x16=>(aW p1 s5.1).bind fun x17=>if x17.1 then ((ep (s5.2.1,s5.2.2) (x16.2.1,x16.2.2.1,x16.2.2.2.1,x16.2.2.2.2)).bind fun r42=>if r42.2 then (some (.inr (r42.1.1,r42.1.2))) else ((bC (p0.1,p0.2)).bind fun r43=>some (.inl (.ret ((r43.1,r43.2),false))))) else ((bs (s5.2.1,s5.2.2) x16.2.1).bind fun r37=>if decide (r37<0) then ((bC (p0.1,p0.2)).bind fun r41=>some (.inl (.ret ((r41.1,r41.2),false)))) else ((aW s5.2.2 r37).bind fun x18=>if (x18.1==x16.2.1)&&((x18.2.1==x16.2.2.1)&&((x18.2.2.1==x16.2.2.2.1)&&((x18.2.2.2==x16.2.2.2.2)&&true))) then ((er (s5.2.1,s5.2.2) x16.2.1).bind fun r39=>if r39.2 then (some (.inr (r39.1.1,r39.1.2))) else ((bC (p0.1,p0.2)).bind fun r40=>some (.inl (.ret ((r40.1,r40.2),false))))) else ((bC (p0.1,p0.2)).bind fun r38=>some (.inl (.ret ((r38.1,r38.2),false))))))) (fun s7=>some (.nxt (IntKind.i64.wrap (s5.1+1),s7.1,s7.2)))) else (some (.brk (s5.1,s5.2.1,s5.2.2)))) else (some (.brk (s5.1,s5.2.1,s5.2.2)))
def bU (p0:(List Int)×(List Yq1)) (p1:(List (Bool×Yq1))):Option Yq7:=
 (bC (p0.1,p0.2)).bind fun r1=>aU (aF (b7 p0 p1) a8 (0,r1.1,r1.2)) (fun r=>some r) (fun s6=>some ((s6.2.1,s6.2.2),true))
def gX (p0c:(List Int)×Int×Int) (p1g:(List Int)×List Yq1):Option (Yq1×Int×Int):=
 (aJ (p0c.1,p0c.2.1,p0c.2.2) 40).bind fun r4=>(aJ (p0c.1,r4.2.1,r4.2.2) (Max.max 1 (p1g.1.length:Int))).bind fun r5=>(aJ (p0c.1,r5.2.1,r5.2.2) (Max.max 1 (p1g.1.length:Int))).bind fun r6=>(aJ (p0c.1,r6.2.1,r6.2.2) 3).bind fun r7=>(aJ (p0c.1,r7.2.1,r7.2.2) 16).bind fun r8=>Option.bind ((if r8.1==0 then ((aT (p0c.1,r8.2.1,r8.2.2) ([0,99,100])).bind fun r9=>some (r9.2.1,r9.2.2,r9.1,r5.1,r6.1,r7.1)) else (if r8.1==1 then ((aT (p0c.1,r8.2.1,r8.2.2) ([(-1),5])).bind fun r10=>some (r10.2.1,r10.2.2,IntKind.i64.wrap (1+r4.1),r5.1,r10.1,r7.1)) else (if r8.1==2 then ((aT (p0c.1,r8.2.1,r8.2.2) ([(-1),3])).bind fun r11=>some (r11.2.1,r11.2.2,IntKind.i64.wrap (1+r4.1),r5.1,r6.1,r11.1)) else (some (r8.2.1,r8.2.2,IntKind.i64.wrap (1+r4.1),r5.1,r6.1,r7.1)))):Option (Int×Int×Int×Int×Int×Int))) (fun s12=>some ((s12.2.2.1,s12.2.2.2.1,s12.2.2.2.2.1,s12.2.2.2.2.2),s12.1,s12.2.1))
def eu (p0:(List Int)×Int×Int) (s4:Int×Int×Int×(List Int)×(List Yq1)×List Yq6):Option (Out ((List Yq6)×Int×Int) (Int×Int×Int×(List Int)×(List Yq1)×List Yq6)):=
 if decide (s4.1>0) then (Option.bind (((gX (p0.1,s4.2.1,s4.2.2.1) (s4.2.2.2.1,s4.2.2.2.2.1)).bind fun r5=>if decide ((s4.2.2.2.2.1.length:Int)>0) then ((bd (p0.1,r5.2.1,r5.2.2) 2).bind fun r6=>Option.bind ((if r6.1 then ((aJ (p0.1,r6.2.1,r6.2.2) (s4.2.2.2.2.1.length:Int)).bind fun r9=>(aW s4.2.2.2.2.1 r9.1).bind fun x10=>some (r9.2.1,r9.2.2,false,x10.1,x10.2.1,x10.2.2.1,x10.2.2.2)) else (some (r6.2.1,r6.2.2,true,r5.1.1,r5.1.2.1,r5.1.2.2.1,r5.1.2.2.2)):Option (Int×Int×Bool×Int×Int×Int×Int))) (fun s11=>if decide ((s4.2.2.2.2.2.length:Int)>0) then ((bd (p0.1,s11.1,s11.2.1) 4).bind fun r12=>Option.bind ((if r12.1 then ((aW s4.2.2.2.2.2 (IntKind.i64.wrap ((s4.2.2.2.2.2.length:Int) - 1))).bind fun x13=>some (cond.match_1 (fun (u14:Bool)=>Bool) x13.1 (fun (u15:Unit)=>false) (fun (u16:Unit)=>true),x13.2.1,x13.2.2.1,x13.2.2.2.1,x13.2.2.2.2)) else (some (s11.2.2.1,s11.2.2.2.1,s11.2.2.2.2.1,s11.2.2.2.2.2.1,s11.2.2.2.2.2.2)):Option Yq6)) (fun s17=>(bU (s4.2.2.2.1,s4.2.2.2.2.1) ([(s17.1,s17.2.1,s17.2.2.1,s17.2.2.2.1,s17.2.2.2.2)])).bind fun r18=>if r18.2 then ((cE 40 s4.2.2.2.2.2 ([(s17.1,s17.2.1,s17.2.2.1,s17.2.2.2.1,s17.2.2.2.2)])).bind fun z19=>some (r12.2.1,r12.2.2,r18.1.1,r18.1.2,z19)) else ((bd (p0.1,r12.2.1,r12.2.2) 12).bind fun r20=>if r20.1 then ((cE 40 s4.2.2.2.2.2 ([(s17.1,s17.2.1,s17.2.2.1,s17.2.2.2.1,s17.2.2.2.2)])).bind fun z21=>some (r20.2.1,r20.2.2,r18.1.1,r18.1.2,z21)) else (some (r20.2.1,r20.2.2,s4.2.2.2.1,s4.2.2.2.2.1,s4.2.2.2.2.2))))) else ((bU (s4.2.2.2.1,s4.2.2.2.2.1) ([(s11.2.2.1,s11.2.2.2.1,s11.2.2.2.2.1,s11.2.2.2.2.2.1,s11.2.2.2.2.2.2)])).bind fun r22=>if r22.2 then ((cE 40 s4.2.2.2.2.2 ([(s11.2.2.1,s11.2.2.2.1,s11.2.2.2.2.1,s11.2.2.2.2.2.1,s11.2.2.2.2.2.2)])).bind fun z23=>some (s11.1,s11.2.1,r22.1.1,r22.1.2,z23)) else ((bd (p0.1,s11.1,s11.2.1) 12).bind fun r24=>if r24.1 then ((cE 40 s4.2.2.2.2.2 ([(s11.2.2.1,s11.2.2.2.1,s11.2.2.2.2.1,s11.2.2.2.2.2.1,s11.2.2.2.2.2.2)])).bind fun z25=>some (r24.2.1,r24.2.2,r22.1.1,r22.1.2,z25)) else (some (r24.2.1,r24.2.2,s4.2.2.2.1,s4.2.2.2.2.1,s4.2.2.2.2.2)))))) else (if decide ((s4.2.2.2.2.2.length:Int)>0) then ((bd (p0.1,r5.2.1,r5.2.2) 4).bind fun r26=>Option.bind ((if r26.1 then ((aW s4.2.2.2.2.2 (IntKind.i64.wrap ((s4.2.2.2.2.2.length:Int) - 1))).bind fun x27=>some (cond.match_1 (fun (u28:Bool)=>Bool) x27.1 (fun (u29:Unit)=>false) (fun (u30:Unit)=>true),x27.2.1,x27.2.2.1,x27.2.2.2.1,x27.2.2.2.2)) else (some (true,r5.1.1,r5.1.2.1,r5.1.2.2.1,r5.1.2.2.2)):Option Yq6)) (fun s31=>(bU (s4.2.2.2.1,s4.2.2.2.2.1) ([(s31.1,s31.2.1,s31.2.2.1,s31.2.2.2.1,s31.2.2.2.2)])).bind fun r32=>if r32.2 then ((cE 40 s4.2.2.2.2.2 ([(s31.1,s31.2.1,s31.2.2.1,s31.2.2.2.1,s31.2.2.2.2)])).bind fun z33=>some (r26.2.1,r26.2.2,r32.1.1,r32.1.2,z33)) else ((bd (p0.1,r26.2.1,r26.2.2) 12).bind fun r34=>if r34.1 then ((cE 40 s4.2.2.2.2.2 ([(s31.1,s31.2.1,s31.2.2.1,s31.2.2.2.1,s31.2.2.2.2)])).bind fun z35=>some (r34.2.1,r34.2.2,r32.1.1,r32.1.2,z35)) else (some (r34.2.1,r34.2.2,s4.2.2.2.1,s4.2.2.2.2.1,s4.2.2.2.2.2))))) else ((bU (s4.2.2.2.1,s4.2.2.2.2.1) ([(true,r5.1.1,r5.1.2.1,r5.1.2.2.1,r5.1.2.2.2)])).bind fun r36=>if r36.2 then ((cE 40 s4.2.2.2.2.2 ([(true,r5.1.1,r5.1.2.1,r5.1.2.2.1,r5.1.2.2.2)])).bind fun z37=>some (r5.2.1,r5.2.2,r36.1.1,r36.1.2,z37)) else ((bd (p0.1,r5.2.1,r5.2.2) 12).bind fun r38=>if r38.1 then ((cE 40 s4.2.2.2.2.2 ([(true,r5.1.1,r5.1.2.1,r5.1.2.2.1,r5.1.2.2.2)])).bind fun z39=>some (r38.2.1,r38.2.2,r36.1.1,r36.1.2,z39)) else (some (r38.2.1,r38.2.2,s4.2.2.2.1,s4.2.2.2.2.1,s4.2.2.2.2.2))))):Option (Int×Int×(List Int)×(List Yq1)×List Yq6))) (fun s40=>some (.nxt (IntKind.i64.wrap (s4.1 - 1),s40.1,s40.2.1,s40.2.2.1,s40.2.2.2.1,s40.2.2.2.2)))) else (some (.brk (s4.1,s4.2.1,s4.2.2.1,s4.2.2.2.1,s4.2.2.2.2.1,s4.2.2.2.2.2)))
def jA (p0:(List Int)×Int×Int) (p1:(List Int)×List Yq1) (p2:Int):Option ((List Yq6)×Int×Int):=
 (bC (p1.1,p1.2)).bind fun r0=>(aJ (p0.1,p0.2.1,p0.2.2) (IntKind.i64.wrap (p2+1))).bind fun r1=>aU (aF (eu p0) a8 (r1.1,r1.2.1,r1.2.2,r0.1,r0.2,([] :List Yq6))) (fun r41=>some r41) (fun s42=>some (s42.2.2.2.2.2,s42.2.1,s42.2.2.1))
def eE (p0code:List Int):Option (Yq8×Yq5×List Yq6):=
 (kK p0code).bind fun r0=>(gW (p0code,r0.1,r0.2)).bind fun r1=>(jA (p0code,r1.2.2.1,r1.2.2.2) (r1.1.1,r1.1.2) 5).bind fun r3=>some ((r1.1.1,r1.1.2),((r1.2.1.1.1,r1.2.1.1.2.1,r1.2.1.1.2.2),r1.2.1.2.1,r1.2.1.2.2.1,r1.2.1.2.2.2),r3.1)
def cg (p0l:List Int):Option (List Int):=
 (cE 8 ([] :List Int) p0l).bind fun z1=>some z1
def dI (p0g:(List Int)×(List Yq1)):Option ((List Int)×(List Yq1)):=
 (cg p0g.1).bind fun r1=>(cE 32 ([] :List Yq1) p0g.2).bind fun z1=>some (r1,z1)
def ct (p0n:Int) (p1a:Int) (p2b:Int):Option Bool:=
 if decide (p0n≥p1a) then (some (decide (p0n<=p2b))) else (some false)
def gb (p0e:Int×Int×Int×Int) (p1nodes:Int):Option Bool:=
 (ct p0e.1 1 99).bind fun r1=>if r1 then ((ct p0e.2.1 0 (IntKind.i64.wrap (p1nodes - 1))).bind fun r2=>if r2 then ((ct p0e.2.2.1 0 (IntKind.i64.wrap (p1nodes - 1))).bind fun r3=>if r3 then ((ct p0e.2.2.2 0 2).bind fun r4=>some r4) else (some false)) else (some false)) else (some false)
def cL (p0g:(List Int)×(List Yq1)) (s3:Int):Option (Out Bool Int):=
 if decide (s3<(p0g.1.length:Int)) then ((aW p0g.1 s3).bind fun x3=>(ct x3 0 2).bind fun r3=>if r3 then (some (.nxt (IntKind.i64.wrap (s3+1)))) else (some (.ret false))) else (some (.brk s3))
def bV (p0g:(List Int)×(List Yq1)) (s7:Int):Option (Out Bool Int):=
 if decide (s7<(p0g.2.length:Int)) then ((aW p0g.2 s7).bind fun x8=>(gb (x8.1,x8.2.1,x8.2.2.1,x8.2.2.2) (p0g.1.length:Int)).bind fun r6=>if r6 then (if decide (s7>0) then ((aW p0g.2 (IntKind.i64.wrap (s7 - 1))).bind fun x9=>if decide (x9.1≥x8.1) then (some (.ret false)) else (some (.nxt (IntKind.i64.wrap (s7+1))))) else (some (.nxt (IntKind.i64.wrap (s7+1))))) else (some (.ret false))) else (some (.brk s7))
def bc (p0g:(List Int)×(List Yq1)):Option Bool:=
 aU (aF (cL p0g) a8 0) (fun r=>some r) (fun s4=>aU (aF (bV p0g) a8 0) (fun r=>some r) (fun s8=>(ct (p0g.1.length:Int) 1 5).bind fun r7=>if r7 then (some (decide ((p0g.2.length:Int)<=12))) else (some false)))
def bI (p0s:List Yq1) (p1f:Yq1->Option Bool) (s3:Int):Option (Out Int Int):=
 if decide (s3<(p0s.length:Int)) then ((aW p0s s3).bind fun x3=>(p1f (x3.1,x3.2.1,x3.2.2.1,x3.2.2.2)).bind fun r3=>if r3 then (some (.ret s3)) else (some (.nxt (IntKind.i64.wrap (s3+1))))) else (some (.brk s3))
def bq (p0s:List Yq1) (p1f:Yq1->Option Bool):Option Int:=
 aU (aF (bI p0s p1f) a8 0) (fun r=>some r) (fun s4=>some (-1))
def gB (p0e:Int×Int×Int×Int) (q0:Int):Option Bool:=
 some (p0e.1==q0)
def dJ (p0g:(List Int)×(List Yq1)) (p1id:Int):Option Int:=
 (bq p0g.2 (fun a0=>gB a0 p1id)).bind fun r1=>some r1
def bF (p0:List Yq1) (p1:Int) (p2:List Yq1):Option ((List Yq1)×(List Yq1)):=R.LU 32 p0 p1 p2
def kQ (p1e:Int×Int×Int×Int) (r0:(List Int)×List Yq1) (s5:Int):Option (Out (Yq8×Bool) Int):=
 if decide (s5<(r0.2.length:Int)) then ((aW r0.2 s5).bind fun x7=>if decide (x7.1<p1e.1) then (some (.nxt (IntKind.i64.wrap (s5+1)))) else (some (.brk s5))) else (some (.brk s5))
def fI (p0g:(List Int)×List Yq1) (p1e:Int×Int×Int×Int):Option (Yq8×Bool):=
 (dI (p0g.1,p0g.2)).bind fun r0=>(bc (p0g.1,p0g.2)).bind fun r1=>if r1 then ((gb (p1e.1,p1e.2.1,p1e.2.2.1,p1e.2.2.2) (p0g.1.length:Int)).bind fun r2=>if r2 then ((dJ (p0g.1,p0g.2) p1e.1).bind fun r3=>if decide (r3≥0) then (some ((r0.1,r0.2),false)) else (if (p0g.2.length:Int)==12 then (some ((r0.1,r0.2),false)) else (aU (aF (kQ p1e r0) a8 0) (fun r8=>some r8) (fun s9=>(bF r0.2 s9 ([(p1e.1,p1e.2.1,p1e.2.2.1,p1e.2.2.2)])).bind fun r10=>some ((r0.1,r10.1),true))))) else (some ((r0.1,r0.2),false))) else (some ((r0.1,r0.2),false))
def bG (p0:List Yq1) (p1 p2:Int):Option (List Yq1):=R.OU p0 p1 p2
def fJ (p0g:(List Int)×List Yq1) (p1id:Int):Option (Yq8×Bool):=
 (dI (p0g.1,p0g.2)).bind fun r0=>(dJ (p0g.1,p0g.2) p1id).bind fun r1=>if decide (r1<0) then (some ((r0.1,r0.2),false)) else ((bc (p0g.1,p0g.2)).bind fun r2=>if r2 then ((bG r0.2 r1 (IntKind.i64.wrap (r1+1))).bind fun r3=>some ((r0.1,r3),true)) else (some ((r0.1,r0.2),false)))
def aV (p0s:List Yq1) (p1v:Int×Int×Int×Int) (s3:Int):Option (Out Int Int):=
 if decide (s3<(p0s.length:Int)) then ((aW p0s s3).bind fun x3=>if ((p1v.1==x3.1)&&((p1v.2.1==x3.2.1)&&((p1v.2.2.1==x3.2.2.1)&&((p1v.2.2.2==x3.2.2.2)&&true)))) then (some (.ret s3)) else (some (.nxt (IntKind.i64.wrap (s3+1))))) else (some (.brk s3))
def cx (p0s:List Yq1) (p1v:Int×Int×Int×Int):Option Int:=
 aU (aF (aV p0s p1v) a8 0) (fun r=>some r) (fun s4=>some (-1))
def bt (p0s:List Yq1) (p1v:Int×Int×Int×Int):Option Bool:=
 (cx p0s (p1v.1,p1v.2.1,p1v.2.2.1,p1v.2.2.2)).bind fun r1=>some (decide (r1≥0))
def bn (p0g:(List Int)×(List Yq1)) (p1b:(List (Bool×Yq1))) (s5:Int×(List Int)×(List Yq1)):Option (Out Yq7 (Int×(List Int)×(List Yq1))):=
 if decide (s5.1<(p1b.length:Int)) then ((aW p1b s5.1).bind fun x3=>Option.bind ((if x3.1 then ((fI (s5.2.1,s5.2.2) (x3.2.1,x3.2.2.1,x3.2.2.2.1,x3.2.2.2.2)).bind fun r22=>some (r22.2,r22.1.1,r22.1.2)) else ((bt s5.2.2 (x3.2.1,x3.2.2.1,x3.2.2.2.1,x3.2.2.2.2)).bind fun r20=>if r20 then ((fJ (s5.2.1,s5.2.2) x3.2.1).bind fun r21=>some (r21.2,r21.1.1,r21.1.2)) else (some (false,s5.2.1,s5.2.2))):Option (Bool×(List Int)×(List Yq1)))) (fun s7=>if s7.1 then (some (.nxt (IntKind.i64.wrap (s5.1+1),s7.2.1,s7.2.2))) else ((dI (p0g.1,p0g.2)).bind fun r23=>some (.ret ((r23.1,r23.2),false))))) else (some (.brk (s5.1,s5.2.1,s5.2.2)))
def im (p0g:(List Int)×(List Yq1)) (p1b:(List (Bool×Yq1))):Option Yq7:=
 (dI (p0g.1,p0g.2)).bind fun r1=>(bc (p0g.1,p0g.2)).bind fun r2=>if r2 then (if decide ((p1b.length:Int)>6) then (some ((r1.1,r1.2),false)) else (aU (aF (bn p0g p1b) a8 (0,r1.1,r1.2)) (fun r=>some r) (fun s6=>some ((s6.2.1,s6.2.2),true)))) else (some ((r1.1,r1.2),false))
def mH (p0e:Int×Int×Int×Int) (p1inverse:Bool):Option Int:=
 if p1inverse then (some (IntKind.i64.wrap ((IntKind.i64.wrap (2*p0e.2.2.2))+1))) else (some (IntKind.i64.wrap (2*p0e.2.2.2)))
def jB (p0g:(List Int)×List Yq1) (s3:Int×List (List Yq3)):Option (Out (List (List Yq3)) (Int×List (List Yq3))):=
 if decide (s3.1<(p0g.2.length:Int)) then ((aW p0g.2 s3.1).bind fun x4=>(aW s3.2 x4.2.1).bind fun x11=>(mH (x4.1,x4.2.1,x4.2.2.1,x4.2.2.2) false).bind fun r12=>(cE 32 x11 ([((x4.1,false),r12,x4.2.2.1)])).bind fun z13=>(aW s3.2 x4.2.1).bind fun x14=>(chk (x4.2.1<((s3.2.set x4.2.1.toNat ([] :List Yq3)).length:Int))).bind fun _=>(chk (x4.2.1=x4.2.1)).bind fun _=>(aW (s3.2.set x4.2.1.toNat z13) x4.2.2.1).bind fun x23=>(mH (x4.1,x4.2.1,x4.2.2.1,x4.2.2.2) true).bind fun r24=>(cE 32 x23 ([((x4.1,true),r24,x4.2.1)])).bind fun z25=>(aW (s3.2.set x4.2.1.toNat z13) x4.2.2.1).bind fun x26=>(chk (x4.2.2.1<(((s3.2.set x4.2.1.toNat z13).set x4.2.2.1.toNat ([] :List Yq3)).length:Int))).bind fun _=>(chk (x4.2.2.1=x4.2.2.1)).bind fun _=>some (.nxt (IntKind.i64.wrap (s3.1+1),(s3.2.set x4.2.1.toNat z13).set x4.2.2.1.toNat z25))) else (some (.brk (s3.1,s3.2)))
def pv (p0g:(List Int)×List Yq1):Option (List (List Yq3)):=
 (mkI 24 (p0g.1.length:Int) ([] :List Yq3)).bind fun z0=>aU (aF (jB p0g) a8 (0,z0)) (fun r29=>some r29) (fun s30=>some s30.2)
def kp (p0set:Int) (s5:(List Int)×Int):Option (Out (List Int) ((List Int)×Int)):=
 (chk (0<=s5.2)).bind fun _=>if (jP p0set s5.2) !=0 then (Option.bind (((chk (0<=s5.2)).bind fun _=>if (nA (jP p0set s5.2) 1)==1 then ((cE 8 s5.1 ([s5.2])).bind fun z6=>some z6) else (some s5.1):Option (List Int))) (fun s7=>some (.nxt (s7,IntKind.i64.wrap (s5.2+1))))) else (some (.brk (s5.1,s5.2)))
def ff (p0set:Int):Option (List Int):=
 aU (aF (kp p0set) a8 (([] :List Int),0)) (fun r=>some r) (fun s6=>some s6.1)
def mI (p0n:Int):Option Bool:=
 (ct p0n 0 8).bind fun r1=>some r1
def bp (p0a:Int×(List Bool)×(List (List Int))) (p1s:Int) (p2letter:Int):Option Int:=
 if decide (p1s<0) then (some (-1)) else ((mI p2letter).bind fun r1=>if r1 then ((aW p0a.2.2 p1s).bind fun x1=>(aW x1 p2letter).bind fun x2=>some x2) else (some (-1)))
def b8 (p0a:Int×(List Bool)×(List (List Int))) (p2value:Int) (s3:Int×Int):Option (Out Int (Int×Int)):=
 if decide (s3.2≥0) then ((chk (0<=s3.2)).bind fun _=>if (nA (jP s3.1 s3.2) 1)==0 then ((chk (0<=s3.2)).bind fun _=>(bp (p0a.1,p0a.2.1,p0a.2.2) s3.2 (IntKind.i64.wrap (6+p2value))).bind fun r3=>some (.nxt (orI s3.1 (rk 1 s3.2),r3))) else (some (.brk (s3.1,s3.2)))) else (some (.brk (s3.1,s3.2)))
def de (p0a:Int×(List Bool)×(List (List Int))) (p1state:Int) (p2value:Int):Option Int:=
 aU (aF (b8 p0a p2value) a8 (0,p1state)) (fun r=>some r) (fun s4=>some s4.1)
def ix (p0a:Int×(List Bool)×(List (List Int))) (p3letter:Int) (r19:List Int) (s23:Int×Int):Option (Out Int (Int×Int)):=
 if decide (s23.2<(r19.length:Int)) then (Option.bind (((aW r19 s23.2).bind fun x21=>(bp (p0a.1,p0a.2.1,p0a.2.2) x21 p3letter).bind fun r25=>if decide (r25≥0) then ((chk (0<=r25)).bind fun _=>some (orI s23.1 (rk 1 r25))) else (some s23.1):Option Int)) (fun s25=>some (.nxt (s25,IntKind.i64.wrap (s23.2+1))))) else (some (.brk (s23.1,s23.2)))
def fg (p0a:Int×(List Bool)×(List (List Int))) (p2value:Int) (p3letter:Int) (r1:List Int) (s17:Int×Int):Option (Out Int (Int×Int)):=
 if decide (s17.2<(r1.length:Int)) then ((aW r1 s17.2).bind fun x15=>(de (p0a.1,p0a.2.1,p0a.2.2) x15 p2value).bind fun r18=>(ff r18).bind fun r19=>aU (aF (ix p0a p3letter r19) a8 (s17.1,0)) (fun r=>some (.ret r)) (fun s24=>some (.nxt (s24.1,IntKind.i64.wrap (s17.2+1))))) else (some (.brk (s17.1,s17.2)))
def mJ (p0a:Int×(List Bool)×(List (List Int))) (p1set:Int) (p2value:Int) (p3letter:Int):Option Int:=
 (ff p1set).bind fun r1=>aU (aF (fg p0a p2value p3letter r1) a8 (0,0)) (fun r=>some r) (fun s18=>some s18.1)
def bW (p1:Int×(List Bool)×List (List Int)) (s4:Int×List (List Int)) (s7:Int×List (List Int)) (x10:(Int×Bool)×Int×Int) (r18:List Int) (s20:Int×List (List Int)):Option (Out (List (List Int)) (Int×List (List Int))):=
 if decide (s20.1<(r18.length:Int)) then ((aW r18 s20.1).bind fun x21=>(aW s20.2 (IntKind.i64.wrap ((IntKind.i64.wrap (s4.1*(p1.2.1.length:Int)))+s7.1))).bind fun x27=>(cE 8 x27 ([IntKind.i64.wrap ((IntKind.i64.wrap (x10.2.2*(p1.2.1.length:Int)))+x21)])).bind fun z28=>(aW s20.2 (IntKind.i64.wrap ((IntKind.i64.wrap (s4.1*(p1.2.1.length:Int)))+s7.1))).bind fun x29=>(chk ((IntKind.i64.wrap ((IntKind.i64.wrap (s4.1*(p1.2.1.length:Int)))+s7.1))<((s20.2.set ((IntKind.i64.wrap ((IntKind.i64.wrap (s4.1*(p1.2.1.length:Int)))+s7.1)).toNat) ([] :List Int)).length:Int))).bind fun _=>(chk ((IntKind.i64.wrap ((IntKind.i64.wrap (s4.1*(p1.2.1.length:Int)))+s7.1))=(IntKind.i64.wrap ((IntKind.i64.wrap (s4.1*(p1.2.1.length:Int)))+s7.1)))).bind fun _=>some (.nxt (IntKind.i64.wrap (s20.1+1),s20.2.set ((IntKind.i64.wrap ((IntKind.i64.wrap (s4.1*(p1.2.1.length:Int)))+s7.1)).toNat) z28))) else (some (.brk (s20.1,s20.2)))
def cM (p0:(List Int)×List Yq1) (p1:Int×(List Bool)×List (List Int)) (s4:Int×List (List Int)) (x5:List Yq3) (s7:Int×List (List Int)) (s9:Int×List (List Int)):Option (Out (List (List Int)) (Int×List (List Int))):=
 if decide (s9.1<(x5.length:Int)) then ((aW x5 s9.1).bind fun x10=>(chk (0<=s7.1)).bind fun _=>(aW p0.1 s4.1).bind fun x16=>(mJ (p1.1,p1.2.1,p1.2.2) (rk 1 s7.1) x16 x10.2.1).bind fun r17=>(ff r17).bind fun r18=>aU (aF (bW p1 s4 s7 x10 r18) a8 (0,s9.2)) (fun r32=>some (.ret r32)) (fun s33=>some (.nxt (IntKind.i64.wrap (s9.1+1),s33.2)))) else (some (.brk (s9.1,s9.2)))
def cO (p0:(List Int)×List Yq1) (p1:Int×(List Bool)×List (List Int)) (s4:Int×List (List Int)) (x5:List Yq3) (s7:Int×List (List Int)):Option (Out (List (List Int)) (Int×List (List Int))):=
 if decide (s7.1<(p1.2.1.length:Int)) then (aU (aF (cM p0 p1 s4 x5 s7) a8 (0,s7.2)) (fun r34=>some (.ret r34)) (fun s35=>some (.nxt (IntKind.i64.wrap (s7.1+1),s35.2)))) else (some (.brk (s7.1,s7.2)))
def dK (p0:(List Int)×List Yq1) (p1:Int×(List Bool)×List (List Int)) (r1:List (List Yq3)) (s4:Int×List (List Int)):Option (Out (List (List Int)) (Int×List (List Int))):=
 if decide (s4.1<(r1.length:Int)) then ((aW r1 s4.1).bind fun x5=>aU (aF (cO p0 p1 s4 x5) a8 (0,s4.2)) (fun r36=>some (.ret r36)) (fun s37=>some (.nxt (IntKind.i64.wrap (s4.1+1),s37.2)))) else (some (.brk (s4.1,s4.2)))
def bT (p0:(List Int)×List Yq1) (p1:Int×(List Bool)×List (List Int)):Option (List (List Int)):=
 (mkI 24 (IntKind.i64.wrap ((p1.2.1.length:Int)*(p0.1.length:Int))) ([] :List Int)).bind fun z0=>(pv (p0.1,p0.2)).bind fun r1=>aU (aF (dK p0 p1 r1) a8 (0,z0)) (fun r38=>some r38) (fun s39=>some s39.2)
def bu (p0a:Int×(List Bool)×(List (List Int))) (x9:List Int) (s15:Int):Option (Out Bool Int):=
 if decide (s15<(x9.length:Int)) then ((aW x9 s15).bind fun x12=>(ct x12 (-1) (IntKind.i64.wrap ((p0a.2.1.length:Int) - 1))).bind fun r14=>if r14 then (some (.nxt (IntKind.i64.wrap (s15+1)))) else (some (.ret false))) else (some (.brk s15))
def cy (p0a:Int×(List Bool)×(List (List Int))) (s11:Int):Option (Out Bool Int):=
 if decide (s11<(p0a.2.2.length:Int)) then ((aW p0a.2.2 s11).bind fun x9=>aU (aF (bu p0a x9) a8 0) (fun r=>some (.ret r)) (fun s16=>if (x9.length:Int) !=9 then (some (.ret false)) else (some (.nxt (IntKind.i64.wrap (s11+1)))))) else (some (.brk s11))
def bR (p0a:Int×(List Bool)×(List (List Int))):Option Bool:=
 (ct (p0a.2.1.length:Int) 1 12).bind fun r1=>if r1 then ((ct p0a.1 0 (IntKind.i64.wrap ((p0a.2.1.length:Int) - 1))).bind fun r2=>if r2 then (if (p0a.2.2.length:Int) !=(p0a.2.1.length:Int) then (some false) else (aU (aF (cy p0a) a8 0) (fun r=>some r) (fun s12=>some true))) else (some false)) else (some false)
def iQ (p0g:(List Int)×(List Yq1)) (p2nodes:List Int) (s3:Int):Option (Out Bool Int):=
 if decide (s3<(p2nodes.length:Int)) then ((aW p2nodes s3).bind fun x3=>(ct x3 0 (IntKind.i64.wrap ((p0g.1.length:Int) - 1))).bind fun r3=>if r3 then (some (.nxt (IntKind.i64.wrap (s3+1)))) else (some (.ret false))) else (some (.brk s3))
def cH (p0g:(List Int)×(List Yq1)) (p1a:Int×(List Bool)×(List (List Int))) (p2nodes:List Int):Option Bool:=
 aU (aF (iQ p0g p2nodes) a8 0) (fun r=>some r) (fun s4=>(bc (p0g.1,p0g.2)).bind fun r4=>if r4 then ((bR (p1a.1,p1a.2.1,p1a.2.2)).bind fun r5=>some r5) else (some false))
def oj (p0x:Int) (p1y:Int):Option (Int×Int):=
 some (IntKind.u32.wrap (jP (IntKind.u64.wrap ((IntKind.u64.wrap p0x)*(IntKind.u64.wrap p1y))) 32),IntKind.u32.wrap (IntKind.u64.wrap ((IntKind.u64.wrap p0x)*(IntKind.u64.wrap p1y))))
def jC (p0x:Int) (p1y:Int):Option (Int×Int):=
 some (IntKind.u64.wrap ((IntKind.u64.wrap ((IntKind.u64.wrap ((jP p0x 32)*(jP p1y 32)))+(jP (IntKind.u64.wrap ((IntKind.u64.wrap ((jP p0x 32)*(Gk p1y 4294967295)))+(jP (IntKind.u64.wrap ((Gk p0x 4294967295)*(Gk p1y 4294967295))) 32))) 32)))+(jP (IntKind.u64.wrap ((Gk (IntKind.u64.wrap ((IntKind.u64.wrap ((jP p0x 32)*(Gk p1y 4294967295)))+(jP (IntKind.u64.wrap ((Gk p0x 4294967295)*(Gk p1y 4294967295))) 32))) 4294967295)+(IntKind.u64.wrap ((Gk p0x 4294967295)*(jP p1y 32))))) 32)),IntKind.u64.wrap (p0x*p1y))
def kR (p0x:Int) (p1y:Int):Option (Int×Int):=
 (jC p0x p1y).bind fun r1=>some (r1.1,r1.2)
def iy (s4:Int×List Int):Option (Out (List Int) (Int×List Int)):=
 if decide (s4.1<(s4.2.length:Int)) then ((chk (And (0<=s4.1) (s4.1<=(s4.2.length:Int)))).bind fun _=>(chk (And (0<=s4.1) (s4.1<=(s4.2.length:Int)))).bind fun _=>(chk (And (0<=s4.1) (s4.1<=(s4.2.length:Int)))).bind fun _=>(chk (And (0<=s4.1) (s4.1<=(s4.2.length:Int)))).bind fun _=>some (.nxt (IntKind.i64.wrap (s4.1+((Min.min ((s4.2.take s4.1.toNat).length) (s4.2.length - s4.1.toNat):Nat):Int)),tV s4.2 s4.1.toNat (s4.2.take s4.1.toNat)))) else (some (.brk (s4.1,s4.2)))
def bN (p0x:List Int) (p1count:Int):Option (List Int):=
 if decide (p1count<0) then (none) else ((kR (IntKind.u64.wrap (p0x.length:Int)) (IntKind.u64.wrap p1count)).bind fun r0=>if decide (r0.1>0) then (none) else (if decide (r0.2>9223372036854775807) then (none) else ((mkI 8 (IntKind.i64.wrap r0.2) 0).bind fun z1=>aU (aF (iy) a8 (((Min.min p0x.length (z1.length - 0):Nat):Int),tV z1 0 p0x)) (fun r13=>some r13) (fun s14=>some s14.2))))
def cz (p1:List Int) (s3:(List Int)×Int×List Int):Option (Out (List Int) ((List Int)×Int×List Int)):=
 if decide (s3.2.1<(p1.length:Int)) then ((aW p1 s3.2.1).bind fun x4=>(aW s3.2.2 x4).bind fun x5=>(cE 8 s3.1 ([x4])).bind fun z6=>some (.nxt (z6,IntKind.i64.wrap (s3.2.1+1),s3.2.2.set x4.toNat 0))) else (some (.brk (s3.1,s3.2.1,s3.2.2)))
def gC (x13:List Int) (s15:(List Int)×Int×List Int):Option (Out (List Int) ((List Int)×Int×List Int)):=
 if decide (s15.2.1<(x13.length:Int)) then (Option.bind (((aW x13 s15.2.1).bind fun x16=>(aW s15.2.2 x16).bind fun x17=>if decide (x17<0) then ((aW s15.1 0).bind fun x18=>(aW s15.2.2 x18).bind fun x19=>(aW s15.2.2 x16).bind fun x20=>(cE 8 s15.1 ([x16])).bind fun z21=>some (z21,s15.2.2.set x16.toNat (IntKind.i64.wrap (x19+1)))) else (some (s15.1,s15.2.2)):Option ((List Int)×List Int))) (fun s22=>some (.nxt (s22.1,IntKind.i64.wrap (s15.2.1+1),s22.2)))) else (some (.brk (s15.1,s15.2.1,s15.2.2)))
def gD (p0:List (List Int)) (s11:(List Int)×List Int):Option (Out (List Int) ((List Int)×List Int)):=
 if decide ((s11.1.length:Int)>0) then ((aW s11.1 0).bind fun x12=>(aW p0 x12).bind fun x13=>aU (aF (gC x13) a8 (s11.1,0,s11.2)) (fun r23=>some (.ret r23)) (fun s24=>(chk (And ((0:Int)<=1) (1<=(s24.1.length:Int)))).bind fun _=>some (.nxt (s24.1.drop 1,s24.2.2)))) else (some (.brk (s11.1,s11.2)))
def nl (p0:List (List Int)) (p1:List Int):Option (List Int):=
 (bN ([(-1)]) (p0.length:Int)).bind fun r0=>aU (aF (cz p1) a8 (([] :List Int),0,r0)) (fun r7=>some r7) (fun s8=>aU (aF (gD p0) a8 (s8.1,s8.2.2)) (fun r26=>some r26) (fun s27=>some s27.2))
def bK (p0g:(List Int)×List Yq1) (p1a:Int×(List Bool)×List (List Int)) (p2source:Int):Option (List Int):=
 (cH (p0g.1,p0g.2) (p1a.1,p1a.2.1,p1a.2.2) ([p2source])).bind fun r0=>if r0 then ((bT (p0g.1,p0g.2) (p1a.1,p1a.2.1,p1a.2.2)).bind fun r3=>(nl r3 ([IntKind.i64.wrap ((IntKind.i64.wrap (p2source*(p1a.2.1.length:Int)))+p1a.1)])).bind fun r4=>((chk (0<(r4.length:Int))).bind fun _=>some r4).bind fun r6=>some r6) else (some ([] :List Int))
def cw (p0a:Int×(List Bool)×(List (List Int))) (s3:Int×Int×(List Bool)×(List (List Int))):Option (Out Yq2 (Int×Int×(List Bool)×(List (List Int)))):=
 if decide (s3.1<(p0a.2.2.length:Int)) then ((aW p0a.2.2 s3.1).bind fun x3=>(cg x3).bind fun r6=>(cE 24 s3.2.2.2 ([r6])).bind fun z4=>some (.nxt (IntKind.i64.wrap (s3.1+1),s3.2.1,s3.2.2.1,z4))) else (some (.brk (s3.1,s3.2.1,s3.2.2.1,s3.2.2.2)))
def bX (p0a:Int×(List Bool)×(List (List Int))):Option Yq2:=
 (cE 1 ([] :List Bool) p0a.2.1).bind fun z1=>aU (aF (cw p0a) a8 (0,p0a.1,z1,[])) (fun r=>some r) (fun s4=>some (s4.2.1,s4.2.2.1,s4.2.2.2))
def dU (r0:List Int) (s9:Int×List Int) (x10:List Int) (s12:Int×List Int):Option (Out (Yq5×Bool) (Int×List Int)):=
 if decide (s12.1<(x10.length:Int)) then (Option.bind (((aW x10 s12.1).bind fun x13=>(aW r0 s9.1).bind fun x17=>if decide (x17≥0) then ((aW r0 s9.1).bind fun x18=>(aW r0 x13).bind fun x19=>if x18==(IntKind.i64.wrap (x19 - 1)) then ((aW s12.2 x13).bind fun x20=>(aW s12.2 x13).bind fun x21=>some (s12.2.set x13.toNat (IntKind.i64.wrap (x20+1)))) else (some s12.2)) else (some s12.2):Option (List Int))) (fun s22=>some (.nxt (IntKind.i64.wrap (s12.1+1),s22)))) else (some (.brk (s12.1,s12.2)))
def dV (r0:List Int) (r6:List (List Int)) (s9:Int×List Int):Option (Out (Yq5×Bool) (Int×List Int)):=
 if decide (s9.1<(r6.length:Int)) then ((aW r6 s9.1).bind fun x10=>aU (aF (dU r0 s9 x10) a8 (0,s9.2)) (fun r23=>some (.ret r23)) (fun s24=>some (.nxt (IntKind.i64.wrap (s9.1+1),s24.2)))) else (some (.brk (s9.1,s9.2)))
def a6 (p0:(List Int)×List Yq1) (p1:Int×(List Bool)×List (List Int)) (p2:Int):Option (Yq5×Bool):=
 (bK (p0.1,p0.2) (p1.1,p1.2.1,p1.2.2) p2).bind fun r0=>if decide ((r0.length:Int)=0) then (some (((0,([] :List Bool),([] :List (List Int))),0,([] :List Int),([] :List Int)),false)) else ((chk (0<(r0.length:Int))).bind fun _=>(bX (p1.1,p1.2.1,p1.2.2)).bind fun r4=>(mkI 8 (r0.length:Int) 0).bind fun z5=>(bT (p0.1,p0.2) (p1.1,p1.2.1,p1.2.2)).bind fun r6=>aU (aF (dV r0 r6) a8 (0,z5)) (fun r25=>some r25) (fun s26=>some (((r4.1,r4.2.1,r4.2.2),p2,r0,s26.2),true)))
def bw (p0s1:List Bool) (p1s2:List Bool) (s3:Int):Option (Out Bool Int):=
 if decide (s3<(p0s1.length:Int)) then ((aW p0s1 s3).bind fun x5=>(aW p1s2 s3).bind fun x6=>if x5 !=x6 then (some (.ret false)) else (some (.nxt (IntKind.i64.wrap (s3+1))))) else (some (.brk s3))
def cA (p0s1:List Bool) (p1s2:List Bool):Option Bool:=
 if (p0s1.length:Int) !=(p1s2.length:Int) then (some false) else (aU (aF (bw p0s1 p1s2) a8 0) (fun r=>some r) (fun s4=>some true))
def aO (p0s1:List (List Int)) (p1s2:List (List Int)) (p2eq:(List Int)->(List Int)->Option Bool) (s3:Int):Option (Out Bool Int):=
 if decide (s3<(p0s1.length:Int)) then ((aW p0s1 s3).bind fun x5=>(aW p1s2 s3).bind fun x6=>(p2eq x5 x6).bind fun r9=>if r9 then (some (.nxt (IntKind.i64.wrap (s3+1)))) else (some (.ret false))) else (some (.brk s3))
def a7 (p0s1:List (List Int)) (p1s2:List (List Int)) (p2eq:(List Int)->(List Int)->Option Bool):Option Bool:=
 if (p0s1.length:Int) !=(p1s2.length:Int) then (some false) else (aU (aF (aO p0s1 p1s2 p2eq) a8 0) (fun r=>some r) (fun s4=>some true))
def bH (p0s1:List Int) (p1s2:List Int) (s3:Int):Option (Out Bool Int):=
 if decide (s3<(p0s1.length:Int)) then ((aW p0s1 s3).bind fun x5=>(aW p1s2 s3).bind fun x6=>if x5 !=x6 then (some (.ret false)) else (some (.nxt (IntKind.i64.wrap (s3+1))))) else (some (.brk s3))
def bA (p0s1:List Int) (p1s2:List Int):Option Bool:=
 if (p0s1.length:Int) !=(p1s2.length:Int) then (some false) else (aU (aF (bH p0s1 p1s2) a8 0) (fun r=>some r) (fun s4=>some true))
def dL (p0x:List Int) (p1y:List Int):Option Bool:=
 (bA p0x p1y).bind fun r1=>some r1
def dA (p0a:Int×(List Bool)×(List (List Int))) (p1b:Int×(List Bool)×(List (List Int))):Option Bool:=
 if p0a.1==p1b.1 then ((cA p0a.2.1 p1b.2.1).bind fun r1=>if r1 then ((a7 p0a.2.2 p1b.2.2 (fun a0 a1=>dL a0 a1)).bind fun r2=>some r2) else (some false)) else (some false)
def ez (p0a:Yq2×Int×(List Int)×(List Int)) (p1b:Yq2×Int×(List Int)×(List Int)):Option Bool:=
 (dA (p0a.1.1,p0a.1.2.1,p0a.1.2.2) (p1b.1.1,p1b.1.2.1,p1b.1.2.2)).bind fun r1=>if r1 then (if p0a.2.1==p1b.2.1 then ((bA p0a.2.2.1 p1b.2.2.1).bind fun r2=>if r2 then ((bA p0a.2.2.2 p1b.2.2.2).bind fun r3=>some r3) else (some false)) else (some false)) else (some false)
def cj (p0g:(List Int)×(List Yq1)) (p1v:Yq2×Int×(List Int)×(List Int)):Option Bool:=
 (a6 (p0g.1,p0g.2) (p1v.1.1,p1v.1.2.1,p1v.1.2.2) p1v.2.1).bind fun r1=>if r1.2 then ((ez ((r1.1.1.1,r1.1.1.2.1,r1.1.1.2.2),r1.1.2.1,r1.1.2.2.1,r1.1.2.2.2) ((p1v.1.1,p1v.1.2.1,p1v.1.2.2),p1v.2.1,p1v.2.2.1,p1v.2.2.2)).bind fun r2=>some r2) else (some false)
def gf (p0v:Yq2×Int×(List Int)×(List Int)):Option Yq4:=
 (bX (p0v.1.1,p0v.1.2.1,p0v.1.2.2)).bind fun r1=>(cg p0v.2.2.1).bind fun r2=>(cg p0v.2.2.2).bind fun r3=>some ((r1.1,r1.2.1,r1.2.2),p0v.2.1,r2,r3)
def eA (p0old:(List Int)×(List Yq1)) (p1v:Yq2×Int×(List Int)×(List Int)) (p2g:(List Int)×(List Yq1)) (p3ok:Bool):Option (Yq4×Bool):=
 if p3ok then ((cj (p0old.1,p0old.2) ((p1v.1.1,p1v.1.2.1,p1v.1.2.2),p1v.2.1,p1v.2.2.1,p1v.2.2.2)).bind fun r2=>if r2 then ((a6 (p2g.1,p2g.2) (p1v.1.1,p1v.1.2.1,p1v.1.2.2) p1v.2.1).bind fun r4=>some (((r4.1.1.1,r4.1.1.2.1,r4.1.1.2.2),r4.1.2.1,r4.1.2.2.1,r4.1.2.2.2),r4.2)) else ((gf ((p1v.1.1,p1v.1.2.1,p1v.1.2.2),p1v.2.1,p1v.2.2.1,p1v.2.2.2)).bind fun r3=>some (((r3.1.1,r3.1.2.1,r3.1.2.2),r3.2.1,r3.2.2.1,r3.2.2.2),false))) else ((gf ((p1v.1.1,p1v.1.2.1,p1v.1.2.2),p1v.2.1,p1v.2.2.1,p1v.2.2.2)).bind fun r1=>some (((r1.1.1,r1.1.2.1,r1.1.2.2),r1.2.1,r1.2.2.1,r1.2.2.2),false))
def iq (p0g:(List Int)×(List Yq1)) (p1v:Yq2×Int×(List Int)×(List Int)) (p2b:(List (Bool×Yq1))):Option (Yq4×Bool):=
 (im (p0g.1,p0g.2) p2b).bind fun r1=>(eA (p0g.1,p0g.2) ((p1v.1.1,p1v.1.2.1,p1v.1.2.2),p1v.2.1,p1v.2.2.1,p1v.2.2.2) (r1.1.1,r1.1.2) r1.2).bind fun r2=>some (((r2.1.1.1,r2.1.1.2.1,r2.1.1.2.2),r2.1.2.1,r2.1.2.2.1,r2.1.2.2.2),r2.2)
def eB (p0g:(List Int)×(List Yq1)) (p1b:(List (Bool×Yq1))):Option Yq7:=
 (bE (p0g.1,p0g.2)).bind fun r1=>if r1 then (if decide ((p1b.length:Int)>6) then ((bC (p0g.1,p0g.2)).bind fun r4=>some ((r4.1,r4.2),false)) else ((bU (p0g.1,p0g.2) p1b).bind fun r3=>some ((r3.1.1,r3.1.2),r3.2))) else ((bC (p0g.1,p0g.2)).bind fun r2=>some ((r2.1,r2.2),false))
def jY (p0a:List Int) (p1b:List Int) (s3:Int):Option (Out Int Int):=
 if decide (s3<(p0a.length:Int)) then (if decide (s3<(p1b.length:Int)) then ((aW p0a s3).bind fun x9=>(aW p1b s3).bind fun x10=>if decide (x9<x10) then (some (.ret (-1))) else ((aW p0a s3).bind fun x11=>(aW p1b s3).bind fun x12=>if decide (x11>x12) then (some (.ret 1)) else (some (.nxt (IntKind.i64.wrap (s3+1)))))) else (some (.brk s3))) else (some (.brk s3))
def kS (p0a:List Int) (p1b:List Int):Option Int:=
 aU (aF (jY p0a p1b) a8 0) (fun r=>some r) (fun s4=>if decide ((p0a.length:Int)<(p1b.length:Int)) then (some (-1)) else (if decide ((p0a.length:Int)>(p1b.length:Int)) then (some 1) else (some 0)))
def dn (p0:Int×(List Bool)×(List (List Int))) (p1:Int×(List Bool)×(List (List Int))) (s3:Int):Option (Out Bool Int):=
 if decide (s3<(p0.2.1.length:Int)) then ((aW p0.2.1 s3).bind fun x5=>(aW p1.2.1 s3).bind fun x6=>if x5 !=x6 then (some (.ret false)) else (some (.nxt (IntKind.i64.wrap (s3+1))))) else (some (.brk s3))
def dq (p0:Int×(List Bool)×(List (List Int))) (p1:Int×(List Bool)×(List (List Int))) (s7:Int):Option (Out Bool Int):=
 if decide (s7<(p0.2.2.length:Int)) then ((aW p0.2.2 s7).bind fun x11=>(aW p1.2.2 s7).bind fun x12=>(kS x11 x12).bind fun r9=>if r9 !=0 then (some (.ret false)) else (some (.nxt (IntKind.i64.wrap (s7+1))))) else (some (.brk s7))
def dB (p0:Int×(List Bool)×(List (List Int))) (p1:Int×(List Bool)×(List (List Int))):Option Bool:=
 if p0.1 !=p1.1 then (some false) else (if (p0.2.1.length:Int) !=(p1.2.1.length:Int) then (some false) else (if (p0.2.2.length:Int) !=(p1.2.2.length:Int) then (some false) else (aU (aF (dn p0 p1) a8 0) (fun r=>some r) (fun s4=>aU (aF (dq p0 p1) a8 0) (fun r=>some r) (fun s8=>some true)))))
def cF (p0a:Yq2×Int×(List Int)×(List Int)) (p1b:Yq2×Int×(List Int)×(List Int)):Option Bool:=
 (dB (p0a.1.1,p0a.1.2.1,p0a.1.2.2) (p1b.1.1,p1b.1.2.1,p1b.1.2.2)).bind fun r1=>if r1 then (if p0a.2.1==p1b.2.1 then ((kS p0a.2.2.1 p1b.2.2.1).bind fun r2=>if r2==0 then ((kS p0a.2.2.2 p1b.2.2.2).bind fun r3=>some (r3==0)) else (some false)) else (some false)) else (some false)
def cP (p0g:(List Int)×(List Yq1)) (p1v:Yq2×Int×(List Int)×(List Int)):Option Bool:=
 (bZ (p0g.1,p0g.2) (p1v.1.1,p1v.1.2.1,p1v.1.2.2) p1v.2.1).bind fun r1=>if r1.2 then ((cF ((r1.1.1.1,r1.1.1.2.1,r1.1.1.2.2),r1.1.2.1,r1.1.2.2.1,r1.1.2.2.2) ((p1v.1.1,p1v.1.2.1,p1v.1.2.2),p1v.2.1,p1v.2.2.1,p1v.2.2.2)).bind fun r2=>some r2) else (some false)
def dM (p0v:Yq2×Int×(List Int)×(List Int)):Option Yq4:=
 (fV (p0v.1.1,p0v.1.2.1,p0v.1.2.2)).bind fun r1=>(cE 8 ([] :List Int) p0v.2.2.1).bind fun z1=>(cE 8 ([] :List Int) p0v.2.2.2).bind fun z2=>some ((r1.1,r1.2.1,r1.2.2),p0v.2.1,z1,z2)
def ir (p0g:(List Int)×(List Yq1)) (p1v:Yq2×Int×(List Int)×(List Int)) (p2b:(List (Bool×Yq1))):Option (Yq4×Bool):=
 (eB (p0g.1,p0g.2) p2b).bind fun r1=>if r1.2 then ((cP (p0g.1,p0g.2) ((p1v.1.1,p1v.1.2.1,p1v.1.2.2),p1v.2.1,p1v.2.2.1,p1v.2.2.2)).bind fun r3=>if r3 then ((bS (r1.1.1,r1.1.2) (p1v.1.1,p1v.1.2.1,p1v.1.2.2) p1v.2.1).bind fun r5=>some (((r5.1.1,r5.1.2.1,r5.1.2.2),r5.2.1,r5.2.2.1,r5.2.2.2),true)) else ((dM ((p1v.1.1,p1v.1.2.1,p1v.1.2.2),p1v.2.1,p1v.2.2.1,p1v.2.2.2)).bind fun r4=>some (((r4.1.1,r4.1.2.1,r4.1.2.2),r4.2.1,r4.2.2.1,r4.2.2.2),false))) else ((dM ((p1v.1.1,p1v.1.2.1,p1v.1.2.2),p1v.2.1,p1v.2.2.1,p1v.2.2.2)).bind fun r2=>some (((r2.1.1,r2.1.2.1,r2.1.2.2),r2.2.1,r2.2.2.1,r2.2.2.2),false))
def fh (p0a:List Int) (p1b:List Int) (s3:Int):Option (Out Bool Int):=
 if decide (s3<(p0a.length:Int)) then ((aW p0a s3).bind fun x5=>(aW p1b s3).bind fun x6=>if x5 !=x6 then (some (.ret false)) else (some (.nxt (IntKind.i64.wrap (s3+1))))) else (some (.brk s3))
def jZ (p0a:List Int) (p1b:List Int):Option Bool:=
 if (p0a.length:Int) !=(p1b.length:Int) then (some false) else (aU (aF (fh p0a p1b) a8 0) (fun r=>some r) (fun s4=>some true))
def fP (p0a:Int×(List Bool)×(List (List Int))) (r7:List Int) (s15:Int):Option (Out Bool Int):=
 if decide (s15<(r7.length:Int)) then ((aW r7 s15).bind fun x20=>(aW p0a.2.1 x20).bind fun x21=>if x21 then (some (.ret true)) else (some (.nxt (IntKind.i64.wrap (s15+1))))) else (some (.brk s15))
def cV (p0a:Int×(List Bool)×(List (List Int))) (p2value:Int) (r1:List Int) (s11:Int):Option (Out Bool Int):=
 if decide (s11<(r1.length:Int)) then ((aW r1 s11).bind fun x15=>(de (p0a.1,p0a.2.1,p0a.2.2) x15 p2value).bind fun r6=>(ff r6).bind fun r7=>aU (aF (fP p0a r7) a8 0) (fun r=>some (.ret r)) (fun s16=>some (.nxt (IntKind.i64.wrap (s11+1))))) else (some (.brk s11))
def gE (p0a:Int×(List Bool)×(List (List Int))) (p1set:Int) (p2value:Int):Option Bool:=
 (ff p1set).bind fun r1=>aU (aF (cV p0a p2value r1) a8 0) (fun r=>some r) (fun s12=>some false)
def df (p0:List Int):Option (List Int):=R.Il p0
def bz (p0s:List Int) (s1:Int) (s8:Int×Int×List Int):Option (Out (List Int) (Int×Int×List Int)):=
 if decide (s8.2.1<((0+((p0s.length:Int) - 0)) - (0+s1))) then (Option.bind (((chk (And (0<=s8.2.1) (s8.2.1<((0+((p0s.length:Int) - 0)) - (0+s1))))).bind fun _=>(aW s8.2.2 ((0+s1)+s8.2.1)).bind fun x14=>(chk (And (0<=(IntKind.i64.wrap (s8.2.1 - 1))) ((IntKind.i64.wrap (s8.2.1 - 1))<((0+((p0s.length:Int) - 0)) - (0+s1))))).bind fun _=>(aW s8.2.2 ((0+s1)+(IntKind.i64.wrap (s8.2.1 - 1)))).bind fun x16=>if x14 !=x16 then ((chk (And (0<=s8.2.1) (s8.2.1<((0+((p0s.length:Int) - 0)) - (0+s1))))).bind fun _=>(aW s8.2.2 ((0+s1)+s8.2.1)).bind fun x18=>(aW s8.2.2 s8.1).bind fun x19=>some (IntKind.i64.wrap (s8.1+1),s8.2.2.set s8.1.toNat x18)) else (some (s8.1,s8.2.2)):Option (Int×List Int))) (fun s20=>some (.nxt (s20.1,IntKind.i64.wrap (s8.2.1+1),s20.2)))) else (some (.brk (s8.1,s8.2.1,s8.2.2)))
def be (p0s:List Int) (s1:Int):Option (Out (List Int) Int):=
 if decide (s1<(p0s.length:Int)) then ((aW p0s s1).bind fun x4=>(aW p0s (IntKind.i64.wrap (s1 - 1))).bind fun x5=>if x4==x5 then ((chk (And (0<=s1) (And (s1<=((p0s.length:Int) - 0)) ((0+((p0s.length:Int) - 0))<=(p0s.length:Int))))).bind fun _=>aU (aF (bz p0s s1) a8 (s1,1,p0s)) (fun r21=>some (.ret r21)) (fun s22=>(chk (And (0<=s22.1) (And (s22.1<=((s22.2.2.length:Int) - 0)) ((0+((s22.2.2.length:Int) - 0))<=(s22.2.2.length:Int))))).bind fun _=>(chk (And ((0+s22.1)<=(0+((s22.2.2.length:Int) - 0))) ((0+((s22.2.2.length:Int) - 0))<=(s22.2.2.length:Int)))).bind fun _=>(chk (And ((0:Int)<=0) (And (0<=s22.1) ((0+s22.1)<=((me s22.2.2 ((0+s22.1).toNat) ((0+((s22.2.2.length:Int) - 0)).toNat) 0).length:Int))))).bind fun _=>some (.ret (((me s22.2.2 ((0+s22.1).toNat) ((0+((s22.2.2.length:Int) - 0)).toNat) 0).take ((0+s22.1).toNat)).drop 0)))) else (some (.nxt (IntKind.i64.wrap (s1+1))))) else (some (.brk s1))
def bL (p0s:List Int):Option (List Int):=
 if decide ((p0s.length:Int)<2) then (some p0s) else (aU (aF (be p0s) a8 1) (fun r26=>some r26) (fun s27=>some p0s))
def gF (p0l:List Int):Option (List Int):=
 (cg p0l).bind fun r0=>(df r0).bind fun r1=>(bL r1).bind fun r2=>some r2
def pw (s2:(List Int)×Int):Option (Out (List Int) ((List Int)×Int)):=
 if decide (s2.2<((0:Nat):Int)) then (none) else (some (.brk (s2.1,s2.2)))
def cX (p0g:(List Int)×List Yq1) (p1a:Int×(List Bool)×List (List Int)) (r0:List Int) (s7:(List Int)×Int):Option (Out (List Int) ((List Int)×Int)):=
 if decide (s7.2<(r0.length:Int)) then (Option.bind (((aW r0 s7.2).bind fun x8=>if decide (x8≥0) then ((chk ((p1a.2.1.length:Int)≠0)).bind fun _=>(chk (0<=(Int.tmod s7.2 (p1a.2.1.length:Int)))).bind fun _=>(chk ((p1a.2.1.length:Int)≠0)).bind fun _=>(aW p0g.1 (w7 s7.2 (p1a.2.1.length:Int))).bind fun x17=>(gE (p1a.1,p1a.2.1,p1a.2.2) (rk 1 (Int.tmod s7.2 (p1a.2.1.length:Int))) x17).bind fun r18=>if r18 then ((chk ((p1a.2.1.length:Int)≠0)).bind fun _=>(cE 8 s7.1 ([w7 s7.2 (p1a.2.1.length:Int)])).bind fun z20=>some z20) else (some s7.1)) else (some s7.1):Option (List Int))) (fun s21=>some (.nxt (s21,IntKind.i64.wrap (s7.2+1))))) else (some (.brk (s7.1,s7.2)))
def fj (p0g:(List Int)×List Yq1) (p1a:Int×(List Bool)×List (List Int)) (p2source:Int):Option (List Int):=
 (bK (p0g.1,p0g.2) (p1a.1,p1a.2.1,p1a.2.2) p2source).bind fun r0=>if decide ((r0.length:Int)=0) then (aU (aF (pw) a8 (([] :List Int),0)) (fun r3=>some r3) (fun s4=>(gF s4.1).bind fun r5=>some r5)) else (aU (aF (cX p0g p1a r0) a8 (([] :List Int),0)) (fun r22=>some r22) (fun s23=>(gF s23.1).bind fun r24=>some r24))
def gG (p0g:(List Int)×(List Yq1)) (p1v:Yq2×Int×(List Int)×(List Int)):Option (List Int):=
 (cj (p0g.1,p0g.2) ((p1v.1.1,p1v.1.2.1,p1v.1.2.2),p1v.2.1,p1v.2.2.1,p1v.2.2.2)).bind fun r1=>if r1 then ((fj (p0g.1,p0g.2) (p1v.1.1,p1v.1.2.1,p1v.1.2.2) p1v.2.1).bind fun r2=>some r2) else (some ([]))
def dC (p1a:Int×(List Bool)×(List (List Int))) (r1:Int) (s3:Int):Option (Out Bool Int):=
 if decide (s3<(p1a.2.1.length:Int)) then ((chk (0<=s3)).bind fun _=>if (nA (jP r1 s3) 1)==1 then ((aW p1a.2.1 s3).bind fun x4=>if x4 then (some (.ret true)) else (some (.nxt (IntKind.i64.wrap (s3+1))))) else (some (.nxt (IntKind.i64.wrap (s3+1))))) else (some (.brk s3))
def fK (p0g:(List Int)×(List Yq1)) (p1a:Int×(List Bool)×(List (List Int))) (p2node:Int) (p3s:Int):Option Bool:=
 (aW p0g.1 p2node).bind fun x1=>(db (p1a.1,p1a.2.1,p1a.2.2) p3s x1).bind fun r1=>aU (aF (dC p1a r1) a8 0) (fun r=>some r) (fun s4=>some false)
def iz (p0m:Int) (s5:(List Int)×Int):Option (Out (List Int) ((List Int)×Int)):=
 if decide (s5.2<30) then (Option.bind (((chk (0<=s5.2)).bind fun _=>if (nA (jP p0m s5.2) 1)==1 then ((cE 8 s5.1 ([s5.2])).bind fun z6=>some z6) else (some s5.1):Option (List Int))) (fun s7=>some (.nxt (s7,IntKind.i64.wrap (s5.2+1))))) else (some (.brk (s5.1,s5.2)))
def px (p0m:Int):Option (List Int):=
 aU (aF (iz p0m) a8 (([] :List Int),0)) (fun r=>some r) (fun s6=>some s6.1)
def fL (p0g:(List Int)×(List Yq1)) (p1a:Int×(List Bool)×(List (List Int))) (r1:List Int) (s5:Int×Int):Option (Out (List Int) (Int×Int)):=
 if decide (s5.2<(r1.length:Int)) then (Option.bind (((aW r1 s5.2).bind fun x6=>if decide (x6≥0) then ((chk ((p1a.2.1.length:Int)≠0)).bind fun _=>(chk ((p1a.2.1.length:Int)≠0)).bind fun _=>(fK (p0g.1,p0g.2) (p1a.1,p1a.2.1,p1a.2.2) (w7 s5.2 (p1a.2.1.length:Int)) (Int.tmod s5.2 (p1a.2.1.length:Int))).bind fun r7=>if r7 then ((chk ((p1a.2.1.length:Int)≠0)).bind fun _=>(chk (0<=w7 s5.2 (p1a.2.1.length:Int))).bind fun _=>some (orI s5.1 (rk 1 (w7 s5.2 (p1a.2.1.length:Int))))) else (some s5.1)) else (some s5.1):Option Int)) (fun s7=>some (.nxt (s7,IntKind.i64.wrap (s5.2+1))))) else (some (.brk (s5.1,s5.2)))
def lK (p0g:(List Int)×(List Yq1)) (p1a:Int×(List Bool)×(List (List Int))) (p2source:Int):Option (List Int):=
 (fb (p0g.1,p0g.2) (p1a.1,p1a.2.1,p1a.2.2) p2source).bind fun r1=>aU (aF (fL p0g p1a r1) a8 (0,0)) (fun r=>some r) (fun s6=>(px s6.1).bind fun r8=>some r8)
def gH (p0g:(List Int)×(List Yq1)) (p1a:Int×(List Bool)×(List (List Int))) (p2source:Int):Option (List Int):=
 (fe (p0g.1,p0g.2) (p1a.1,p1a.2.1,p1a.2.2) p2source 0).bind fun r1=>if r1 then ((lK (p0g.1,p0g.2) (p1a.1,p1a.2.1,p1a.2.2) p2source).bind fun r2=>some r2) else (some ([] :List Int))
def dW (p1:Yq2×Int×(List Int)×(List Int)) (r1:Yq4×Bool) (s3:Int):Option (Out Int Int):=
 if decide (s3<(r1.1.2.2.1.length:Int)) then ((aW r1.1.2.2.1 s3).bind fun x9=>(aW p1.2.2.1 s3).bind fun x10=>if x9 !=x10 then (some (.ret s3)) else ((aW r1.1.2.2.2 s3).bind fun x11=>(aW p1.2.2.2 s3).bind fun x12=>if x11 !=x12 then (some (.ret s3)) else (some (.nxt (IntKind.i64.wrap (s3+1)))))) else (some (.brk s3))
def iR (p0:(List Int)×(List Yq1)) (p1:Yq2×Int×(List Int)×(List Int)):Option Int:=
 (a6 (p0.1,p0.2) (p1.1.1,p1.1.2.1,p1.1.2.2) p1.2.1).bind fun r1=>if r1.2 then (if (r1.1.2.2.1.length:Int) !=(p1.2.2.1.length:Int) then (some (-2)) else (if (r1.1.2.2.2.length:Int) !=(p1.2.2.2.length:Int) then (some (-2)) else (aU (aF (dW p1 r1) a8 0) (fun r=>some r) (fun s4=>some (-1))))) else (some (-2))
def cB (p0code:List Int):Option (Yq8×Yq5×Int×Int×Int×Int):=
 (kK p0code).bind fun r0=>(gW (p0code,r0.1,r0.2)).bind fun r1=>(gX (p0code,r1.2.2.1,r1.2.2.2) (r1.1.1,r1.1.2)).bind fun r3=>some ((r1.1.1,r1.1.2),((r1.2.1.1.1,r1.2.1.1.2.1,r1.2.1.1.2.2),r1.2.1.2.1,r1.2.1.2.2.1,r1.2.1.2.2.2),r3.1.1,r3.1.2.1,r3.1.2.2.1,r3.1.2.2.2)
def dN (p0g:(List Int)×(List Yq1)) (p1v:Yq2×Int×(List Int)×(List Int)) (p2e:Int×Int×Int×Int):Option (Yq4×Bool):=
 (fI (p0g.1,p0g.2) (p2e.1,p2e.2.1,p2e.2.2.1,p2e.2.2.2)).bind fun r1=>(eA (p0g.1,p0g.2) ((p1v.1.1,p1v.1.2.1,p1v.1.2.2),p1v.2.1,p1v.2.2.1,p1v.2.2.2) (r1.1.1,r1.1.2) r1.2).bind fun r2=>some (((r2.1.1.1,r2.1.1.2.1,r2.1.1.2.2),r2.1.2.1,r2.1.2.2.1,r2.1.2.2.2),r2.2)
def dO (p0g:(List Int)×(List Yq1)) (p1v:Yq2×Int×(List Int)×(List Int)) (p2e:Int×Int×Int×Int):Option (Yq4×Bool):=
 (ep (p0g.1,p0g.2) (p2e.1,p2e.2.1,p2e.2.2.1,p2e.2.2.2)).bind fun r1=>if r1.2 then ((cP (p0g.1,p0g.2) ((p1v.1.1,p1v.1.2.1,p1v.1.2.2),p1v.2.1,p1v.2.2.1,p1v.2.2.2)).bind fun r3=>if r3 then ((bS (r1.1.1,r1.1.2) (p1v.1.1,p1v.1.2.1,p1v.1.2.2) p1v.2.1).bind fun r5=>some (((r5.1.1,r5.1.2.1,r5.1.2.2),r5.2.1,r5.2.2.1,r5.2.2.2),true)) else ((dM ((p1v.1.1,p1v.1.2.1,p1v.1.2.2),p1v.2.1,p1v.2.2.1,p1v.2.2.2)).bind fun r4=>some (((r4.1.1,r4.1.2.1,r4.1.2.2),r4.2.1,r4.2.2.1,r4.2.2.2),false))) else ((dM ((p1v.1.1,p1v.1.2.1,p1v.1.2.2),p1v.2.1,p1v.2.2.1,p1v.2.2.2)).bind fun r2=>some (((r2.1.1,r2.1.2.1,r2.1.2.2),r2.2.1,r2.2.2.1,r2.2.2.2),false))
def py (p0c:(List Int)×Int×Int) (p1g:(List Int)×List Yq1):Option (Int×Int×Int):=
 if decide ((p1g.2.length:Int)>0) then ((bd (p0c.1,p0c.2.1,p0c.2.2) 6).bind fun r0=>if r0.1 then ((aT (p0c.1,r0.2.1,r0.2.2) ([0,1,50,(-1)])).bind fun r5=>some (r5.1,r5.2.1,r5.2.2)) else ((aJ (p0c.1,r0.2.1,r0.2.2) (p1g.2.length:Int)).bind fun r3=>(aW p1g.2 r3.1).bind fun x4=>some (x4.1,r3.2.1,r3.2.2))) else ((aT (p0c.1,p0c.2.1,p0c.2.2) ([0,1,50,(-1)])).bind fun r6=>some (r6.1,r6.2.1,r6.2.2))
def cC (p0code:List Int):Option (Yq8×Yq5×Int):=
 (kK p0code).bind fun r0=>(gW (p0code,r0.1,r0.2)).bind fun r1=>(py (p0code,r1.2.2.1,r1.2.2.2) (r1.1.1,r1.1.2)).bind fun r3=>some ((r1.1.1,r1.1.2),((r1.2.1.1.1,r1.2.1.1.2.1,r1.2.1.1.2.2),r1.2.1.2.1,r1.2.1.2.2.1,r1.2.1.2.2.2),r3.1)
def dP (p0g:(List Int)×(List Yq1)) (p1v:Yq2×Int×(List Int)×(List Int)) (p2id:Int):Option (Yq4×Bool):=
 (fJ (p0g.1,p0g.2) p2id).bind fun r1=>(eA (p0g.1,p0g.2) ((p1v.1.1,p1v.1.2.1,p1v.1.2.2),p1v.2.1,p1v.2.2.1,p1v.2.2.2) (r1.1.1,r1.1.2) r1.2).bind fun r2=>some (((r2.1.1.1,r2.1.1.2.1,r2.1.1.2.2),r2.1.2.1,r2.1.2.2.1,r2.1.2.2.2),r2.2)
def dQ (p0g:(List Int)×(List Yq1)) (p1v:Yq2×Int×(List Int)×(List Int)) (p2id:Int):Option (Yq4×Bool):=
 (er (p0g.1,p0g.2) p2id).bind fun r1=>if r1.2 then ((cP (p0g.1,p0g.2) ((p1v.1.1,p1v.1.2.1,p1v.1.2.2),p1v.2.1,p1v.2.2.1,p1v.2.2.2)).bind fun r3=>if r3 then ((bS (r1.1.1,r1.1.2) (p1v.1.1,p1v.1.2.1,p1v.1.2.2) p1v.2.1).bind fun r5=>some (((r5.1.1,r5.1.2.1,r5.1.2.2),r5.2.1,r5.2.2.1,r5.2.2.2),true)) else ((dM ((p1v.1.1,p1v.1.2.1,p1v.1.2.2),p1v.2.1,p1v.2.2.1,p1v.2.2.2)).bind fun r4=>some (((r4.1.1,r4.1.2.1,r4.1.2.2),r4.2.1,r4.2.2.1,r4.2.2.2),false))) else ((dM ((p1v.1.1,p1v.1.2.1,p1v.1.2.2),p1v.2.1,p1v.2.2.1,p1v.2.2.2)).bind fun r2=>some (((r2.1.1,r2.1.2.1,r2.1.2.2),r2.2.1,r2.2.2.1,r2.2.2.2),false))
def lL (p0:List Int):Option Bool:=
 (Af p0).bind fun r1=>if r1 then (some true) else ((eE p0).bind fun r2=>(iq (r2.1.1,r2.1.2) ((r2.2.1.1.1,r2.2.1.1.2.1,r2.2.1.1.2.2),r2.2.1.2.1,r2.2.1.2.2.1,r2.2.1.2.2.2) r2.2.2).bind fun r3=>(ir (r2.1.1,r2.1.2) ((r2.2.1.1.1,r2.2.1.1.2.1,r2.2.1.1.2.2),r2.2.1.2.1,r2.2.1.2.2.1,r2.2.1.2.2.2) r2.2.2).bind fun r4=>if r3.2 !=r4.2 then (some false) else ((ez ((r3.1.1.1,r3.1.1.2.1,r3.1.1.2.2),r3.1.2.1,r3.1.2.2.1,r3.1.2.2.2) ((r4.1.1.1,r4.1.1.2.1,r4.1.1.2.2),r4.1.2.1,r4.1.2.2.1,r4.1.2.2.2)).bind fun r5=>if r5 then ((eB (r2.1.1,r2.1.2) r2.2.2).bind fun r6=>mc (S:=Unit) (if r3.2 then ((a6 (r6.1.1,r6.1.2) (r2.2.1.1.1,r2.2.1.1.2.1,r2.2.1.1.2.2) r2.2.1.2.1).bind fun r13=>if r6.2 then (if r13.2 then ((cF ((r3.1.1.1,r3.1.1.2.1,r3.1.1.2.2),r3.1.2.1,r3.1.2.2.1,r3.1.2.2.2) ((r13.1.1.1,r13.1.1.2.1,r13.1.1.2.2),r13.1.2.1,r13.1.2.2.1,r13.1.2.2.2)).bind fun r14=>if r14 then ((gG (r6.1.1,r6.1.2) ((r3.1.1.1,r3.1.1.2.1,r3.1.1.2.2),r3.1.2.1,r3.1.2.2.1,r3.1.2.2.2)).bind fun r15=>(gH (r6.1.1,r6.1.2) (r2.2.1.1.1,r2.2.1.1.2.1,r2.2.1.1.2.2) r2.2.1.2.1).bind fun r16=>(jZ r15 r16).bind fun r17=>if r17 then ((iR (r6.1.1,r6.1.2) ((r3.1.1.1,r3.1.1.2.1,r3.1.1.2.2),r3.1.2.1,r3.1.2.2.1,r3.1.2.2.2)).bind fun r18=>if r18 !=(-1) then (some (.inl false)) else (some (.inr ()))) else (some (.inl false))) else (some (.inl false))) else (some (.inl false))) else (some (.inl false))) else (some (.inr ()))) (fun s1=>(cB p0).bind fun r19=>(dN (r19.1.1,r19.1.2) ((r19.2.1.1.1,r19.2.1.1.2.1,r19.2.1.1.2.2),r19.2.1.2.1,r19.2.1.2.2.1,r19.2.1.2.2.2) (r19.2.2.1,r19.2.2.2.1,r19.2.2.2.2.1,r19.2.2.2.2.2)).bind fun r20=>(dO (r19.1.1,r19.1.2) ((r19.2.1.1.1,r19.2.1.1.2.1,r19.2.1.1.2.2),r19.2.1.2.1,r19.2.1.2.2.1,r19.2.1.2.2.2) (r19.2.2.1,r19.2.2.2.1,r19.2.2.2.2.1,r19.2.2.2.2.2)).bind fun r21=>(cC p0).bind fun r22=>(dP (r22.1.1,r22.1.2) ((r22.2.1.1.1,r22.2.1.1.2.1,r22.2.1.1.2.2),r22.2.1.2.1,r22.2.1.2.2.1,r22.2.1.2.2.2) r22.2.2).bind fun r23=>(dQ (r22.1.1,r22.1.2) ((r22.2.1.1.1,r22.2.1.1.2.1,r22.2.1.1.2.2),r22.2.1.2.1,r22.2.1.2.2.1,r22.2.1.2.2.2) r22.2.2).bind fun r24=>if r20.2==r21.2 then (if r23.2==r24.2 then ((cF ((r20.1.1.1,r20.1.1.2.1,r20.1.1.2.2),r20.1.2.1,r20.1.2.2.1,r20.1.2.2.2) ((r21.1.1.1,r21.1.1.2.1,r21.1.1.2.2),r21.1.2.1,r21.1.2.2.1,r21.1.2.2.2)).bind fun r25=>if r25 then ((cF ((r23.1.1.1,r23.1.1.2.1,r23.1.1.2.2),r23.1.2.1,r23.1.2.2.1,r23.1.2.2.2) ((r24.1.1.1,r24.1.1.2.1,r24.1.1.2.2),r24.1.2.1,r24.1.2.2.1,r24.1.2.2.2)).bind fun r26=>some r26) else (some false)) else (some false)) else (some false))) else (some false)))
end D
namespace R
open Go.RowKit
open D
abbrev y3:Ty:=.int .i64
abbrev y4:Ty:=.bool
abbrev y90:Ty:=.prod y3 y4
abbrev P8:Ty:=.prod y90 (.prod y3 y3)
abbrev Pn:Ty:=.sl 105 P8
abbrev P9:Ty:=.sl 103 Pn
abbrev Qa:Ty:=.sl 90 y90
abbrev y24:Ty:=.sl 3 y3
abbrev LZ:Ty:=.prod y24 (.prod y3 (.prod y3 (.prod y24 y4)))
abbrev L4:Ty:=.prod y3 (.prod y3 (.prod y3 y3))
abbrev L5:Ty:=.sl 147 L4
abbrev wz:Ty:=.wr L5
abbrev NS:Ty:=.int .u64
abbrev Qb:Ty:=.prod y4 (.prod y3 y3)
abbrev NT:Ty:=.int .u32
abbrev NU:Ty:=.int .u64
abbrev y9:Ty:=.str
abbrev Po:Ty:=.sl 9 y9
abbrev y5:Ty:=.int .u8
abbrev y22:Ty:=.sl 5 y5
abbrev y50:Ty:=.prod y3 (.prod y3 (.prod y3 y3))
abbrev y25:Ty:=.sl 50 y50
abbrev y27:Ty:=.prod y24 y25
abbrev y28:Ty:=.sl 4 y4
abbrev y29:Ty:=.sl 24 y24
abbrev y31:Ty:=.prod y3 (.prod y28 y29)
abbrev y33:Ty:=.prod y31 (.prod y3 (.prod y24 y24))
abbrev y84:Ty:=.prod y4 y50
abbrev y34:Ty:=.sl 84 y84
abbrev y36:Ty:=.wr y34
abbrev y78:Ty:=.prod y22 (.prod y3 y3)
abbrev y92:Ty:=.prod y90 (.prod y3 y3)
abbrev y87:Ty:=.sl 92 y92
theorem ti3:TI Tryz.prog 3 false 1:=⟨⟨_,Tryz.underlying3,rfl⟩,by kernel_rfl⟩
theorem Pp (a0:Int) (a1:Int) (a2:Int) (a3:Int) (b0:Int) (b1:Int) (b2:Int) (b3:Int) (w:World):EqT Tryz.prog 50 (.agg #[.int .i64 a0,.int .i64 a1,.int .i64 a2,.int .i64 a3]) (.agg #[.int .i64 b0,.int .i64 b1,.int .i64 b2,.int .i64 b3]) ((a0==b0)&&((a1==b1)&&((a2==b2)&&((a3==b3)&&true)))) w:=M1 w Tryz.underlying50 (by kernel_rfl) (by kernel_rfl) (rl rfl (qJ ti3 rfl) (qJ ti3 rfl) (run_equalIn_int w 9998 3 _ _ _ _ Tryz.underlying3) (rl rfl (qJ ti3 rfl) (qJ ti3 rfl) (run_equalIn_int w 9998 3 _ _ _ _ Tryz.underlying3) (rl rfl (qJ ti3 rfl) (qJ ti3 rfl) (run_equalIn_int w 9998 3 _ _ _ _ Tryz.underlying3) (rl rfl (qJ ti3 rfl) (qJ ti3 rfl) (run_equalIn_int w 9998 3 _ _ _ _ Tryz.underlying3) (Ks w)))))
def tt:TT:=[(3,⟨false,1,none,y3,[],some 8,none,false,none,none,some (some .i64),false,none⟩),
 (4,⟨false,1,none,y4,[],some 1,none,true,none,none,none,false,none⟩),
 (5,⟨false,1,none,y5,[],some 1,none,false,none,none,some (some .u8),false,none⟩),
 (9,⟨false,1,none,y9,[],some 16,none,false,none,none,some none,false,none⟩),
 (22,⟨false,1,some 5,y22,[],some 24,none,false,none,none,none,false,none⟩),
 (24,⟨false,1,some 3,y24,[],some 24,none,false,none,none,none,false,none⟩),
 (25,⟨false,1,some 50,y25,[],some 24,none,false,none,none,none,false,none⟩),
 (27,⟨true,2,none,y27,[(0,0),(1,0)],some 48,some [(0,1),(1,1)],false,none,none,none,false,none⟩),
 (28,⟨false,1,some 4,y28,[],some 24,none,false,none,none,none,false,none⟩),
 (29,⟨false,1,some 24,y29,[],some 24,none,false,none,none,none,false,none⟩),
 (31,⟨true,3,none,y31,[(0,0),(1,0),(2,0)],some 56,some [(0,1),(1,1),(2,1)],false,none,none,none,false,none⟩),
 (33,⟨true,6,none,y33,[(0,2),(3,0),(4,0),(5,0)],some 112,some [(0,3),(3,1),(4,1),(5,1)],false,none,none,none,false,none⟩),
 (34,⟨false,1,some 84,y34,[],some 24,none,false,none,none,none,false,none⟩),
 (36,⟨true,1,none,y36,[(0,0)],some 24,some [(0,1)],false,none,none,none,false,none⟩),
 (45,⟨false,1,none,.bool,[],none,none,false,none,none,none,true,none⟩),
 (50,⟨true,4,none,y50,[(0,0),(1,0),(2,0),(3,0)],some 32,some [(0,1),(1,1),(2,1),(3,1)],false,some [some .i64,some .i64,some .i64,some .i64],none,none,false,none⟩),
 (78,⟨true,3,none,y78,[(0,0),(1,0),(2,0)],some 40,some [(0,1),(1,1),(2,1)],false,none,none,none,false,none⟩),
 (84,⟨true,5,none,y84,[(0,0),(1,3)],some 40,some [(0,1),(1,4)],false,none,none,none,false,none⟩),
 (87,⟨false,1,some 92,y87,[],some 24,none,false,none,none,none,false,none⟩),
 (90,⟨true,2,none,y90,[(0,0),(1,0)],some 16,some [(0,1),(1,1)],false,none,none,none,false,none⟩),
 (92,⟨true,4,none,y92,[(0,1),(2,0),(3,0)],some 32,some [(0,2),(2,1),(3,1)],false,none,none,none,false,none⟩),
 (101,⟨false,1,some 103,P9,[],some 24,none,false,none,none,none,false,none⟩),
 (103,⟨false,1,some 105,Pn,[],some 24,none,false,none,none,none,false,none⟩),
 (105,⟨true,4,none,P8,[(0,1),(2,0),(3,0)],some 32,some [(0,2),(2,1),(3,1)],false,none,none,none,false,none⟩),
 (118,⟨false,1,some 90,Qa,[],some 24,none,false,none,none,none,false,none⟩),
 (125,⟨false,1,none,.bool,[],none,none,false,none,none,none,true,none⟩),
 (129,⟨true,5,none,LZ,[(0,0),(1,0),(2,0),(3,0),(4,0)],some 72,some [(0,1),(1,1),(2,1),(3,1),(4,1)],false,none,none,none,false,none⟩),
 (132,⟨false,1,some 147,L5,[],some 24,none,false,none,none,none,false,none⟩),
 (134,⟨true,1,none,wz,[(0,0)],some 24,some [(0,1)],false,none,none,none,false,none⟩),
 (138,⟨false,1,none,NS,[],some 8,none,false,none,none,some (some .u64),false,none⟩),
 (147,⟨true,4,none,L4,[(0,0),(1,0),(2,0),(3,0)],some 32,some [(0,1),(1,1),(2,1),(3,1)],false,none,none,none,false,none⟩),
 (149,⟨true,3,none,Qb,[(0,0),(1,0),(2,0)],some 24,some [(0,1),(1,1),(2,1)],false,none,none,none,false,none⟩),
 (156,⟨false,1,none,NT,[],some 4,none,false,none,none,some (some .u32),false,none⟩),
 (159,⟨false,1,none,NU,[],some 8,none,false,none,none,some (some .u64),false,none⟩),
 (180,⟨false,1,some 9,Po,[],some 24,none,false,none,none,none,false,none⟩)]
theorem CJ:TTok Tryz.prog tt:=⟨oi (n:=1) (z:=.int .i64 0) ⟨⟨_,Tryz.underlying3,rfl⟩,by kernel_rfl⟩ rfl (by unfold TZ;kernel_rfl) rfl (bf rfl) (fun h=>by cases h) (fun k h=>by obtain rfl:=ae h;exact Tryz.underlying3),
 oi (n:=1) (z:=.bool false) ⟨⟨_,Tryz.underlying4,rfl⟩,by kernel_rfl⟩ rfl (by unfold TZ;kernel_rfl) rfl (bf rfl) (fun h=>Tryz.underlying4) (fun k h=>by cases h),
 oi (n:=1) (z:=.int .u8 0) ⟨⟨_,Tryz.underlying5,rfl⟩,by kernel_rfl⟩ rfl (by unfold TZ;kernel_rfl) rfl (bf rfl) (fun h=>by cases h) (fun k h=>by obtain rfl:=ae h;exact Tryz.underlying5),
 oi (n:=1) (z:=.string ⟨#[]⟩) ⟨⟨_,Tryz.underlying9,rfl⟩,by kernel_rfl⟩ rfl (by unfold TZ;kernel_rfl) rfl (bf rfl) (fun h=>by cases h) (fun k h=>by obtain rfl:=ae h;exact Tryz.underlying9),
 rf ⟨⟨_,Tryz.underlying22,rfl⟩,by kernel_rfl⟩ Tryz.underlying22 (by unfold TZ;kernel_rfl),
 rf ⟨⟨_,Tryz.underlying24,rfl⟩,by kernel_rfl⟩ Tryz.underlying24 (by unfold TZ;kernel_rfl),
 rf ⟨⟨_,Tryz.underlying25,rfl⟩,by kernel_rfl⟩ Tryz.underlying25 (by unfold TZ;kernel_rfl),
 po (z:=.agg #[.slice none 0 0,.slice none 0 0]) ⟨⟨_,Tryz.underlying27,rfl⟩,by kernel_rfl⟩ rfl ⟨⟨_,_,Tryz.underlying27,rfl,rfl,by kernel_rfl⟩,⟨_,_,Tryz.underlying27,rfl,rfl,by kernel_rfl⟩,trivial⟩ (by unfold TZ;kernel_rfl) rfl (bf rfl) ⟨_,Tryz.underlying27,by kernel_rfl⟩ (fun ks h=>by cases h),
 rf ⟨⟨_,Tryz.underlying28,rfl⟩,by kernel_rfl⟩ Tryz.underlying28 (by unfold TZ;kernel_rfl),
 rf ⟨⟨_,Tryz.underlying29,rfl⟩,by kernel_rfl⟩ Tryz.underlying29 (by unfold TZ;kernel_rfl),
 po (z:=.agg #[.int .i64 0,.slice none 0 0,.slice none 0 0]) ⟨⟨_,Tryz.underlying31,rfl⟩,by kernel_rfl⟩ rfl ⟨⟨_,_,Tryz.underlying31,rfl,rfl,by kernel_rfl⟩,⟨_,_,Tryz.underlying31,rfl,rfl,by kernel_rfl⟩,⟨_,_,Tryz.underlying31,rfl,rfl,by kernel_rfl⟩,trivial⟩ (by unfold TZ;kernel_rfl) rfl (bf rfl) ⟨_,Tryz.underlying31,by kernel_rfl⟩ (fun ks h=>by cases h),
 po (z:=.agg #[.int .i64 0,.slice none 0 0,.slice none 0 0,.int .i64 0,.slice none 0 0,.slice none 0 0]) ⟨⟨_,Tryz.underlying33,rfl⟩,by kernel_rfl⟩ rfl ⟨⟨_,_,Tryz.underlying33,rfl,rfl,by kernel_rfl⟩,⟨_,_,Tryz.underlying33,rfl,rfl,by kernel_rfl⟩,⟨_,_,Tryz.underlying33,rfl,rfl,by kernel_rfl⟩,⟨_,_,Tryz.underlying33,rfl,rfl,by kernel_rfl⟩,trivial⟩ (by unfold TZ;kernel_rfl) rfl (bf rfl) ⟨_,Tryz.underlying33,by kernel_rfl⟩ (fun ks h=>by cases h),
 rf ⟨⟨_,Tryz.underlying34,rfl⟩,by kernel_rfl⟩ Tryz.underlying34 (by unfold TZ;kernel_rfl),
 po (z:=.agg #[.slice none 0 0]) ⟨⟨_,Tryz.underlying36,rfl⟩,by kernel_rfl⟩ rfl ⟨⟨_,_,Tryz.underlying36,rfl,rfl,by kernel_rfl⟩,trivial⟩ (by unfold TZ;kernel_rfl) rfl (bf rfl) ⟨_,Tryz.underlying36,by kernel_rfl⟩ (fun ks h=>by cases h),
 NQ (ty:=.bool) (b:=8) ⟨⟨_,Tryz.underlying45,rfl⟩,by kernel_rfl⟩ rfl (by unfold TZ;kernel_rfl),
 po (z:=.agg #[.int .i64 0,.int .i64 0,.int .i64 0,.int .i64 0]) ⟨⟨_,Tryz.underlying50,rfl⟩,by kernel_rfl⟩ rfl ⟨⟨_,_,Tryz.underlying50,rfl,rfl,by kernel_rfl⟩,⟨_,_,Tryz.underlying50,rfl,rfl,by kernel_rfl⟩,⟨_,_,Tryz.underlying50,rfl,rfl,by kernel_rfl⟩,⟨_,_,Tryz.underlying50,rfl,rfl,by kernel_rfl⟩,trivial⟩ (by unfold TZ;kernel_rfl) rfl (bf rfl) ⟨_,Tryz.underlying50,by kernel_rfl⟩ (fun ks h=>by obtain rfl:=ae h;exact fun w a0 b0 a1 b1 a2 b2 a3 b3=>Pp a0 a1 a2 a3 b0 b1 b2 b3 w),
 po (z:=.agg #[.slice none 0 0,.int .i64 0,.int .i64 0]) ⟨⟨_,Tryz.underlying78,rfl⟩,by kernel_rfl⟩ rfl ⟨⟨_,_,Tryz.underlying78,rfl,rfl,by kernel_rfl⟩,⟨_,_,Tryz.underlying78,rfl,rfl,by kernel_rfl⟩,⟨_,_,Tryz.underlying78,rfl,rfl,by kernel_rfl⟩,trivial⟩ (by unfold TZ;kernel_rfl) rfl (bf rfl) ⟨_,Tryz.underlying78,by kernel_rfl⟩ (fun ks h=>by cases h),
 po (z:=.agg #[.bool false,.int .i64 0,.int .i64 0,.int .i64 0,.int .i64 0]) ⟨⟨_,Tryz.underlying84,rfl⟩,by kernel_rfl⟩ rfl ⟨⟨_,_,Tryz.underlying84,rfl,rfl,by kernel_rfl⟩,⟨_,_,Tryz.underlying84,rfl,rfl,by kernel_rfl⟩,trivial⟩ (by unfold TZ;kernel_rfl) rfl (bf rfl) ⟨_,Tryz.underlying84,by kernel_rfl⟩ (fun ks h=>by cases h),
 rf ⟨⟨_,Tryz.underlying87,rfl⟩,by kernel_rfl⟩ Tryz.underlying87 (by unfold TZ;kernel_rfl),
 po (z:=.agg #[.int .i64 0,.bool false]) ⟨⟨_,Tryz.underlying90,rfl⟩,by kernel_rfl⟩ rfl ⟨⟨_,_,Tryz.underlying90,rfl,rfl,by kernel_rfl⟩,⟨_,_,Tryz.underlying90,rfl,rfl,by kernel_rfl⟩,trivial⟩ (by unfold TZ;kernel_rfl) rfl (bf rfl) ⟨_,Tryz.underlying90,by kernel_rfl⟩ (fun ks h=>by cases h),
 po (z:=.agg #[.int .i64 0,.bool false,.int .i64 0,.int .i64 0]) ⟨⟨_,Tryz.underlying92,rfl⟩,by kernel_rfl⟩ rfl ⟨⟨_,_,Tryz.underlying92,rfl,rfl,by kernel_rfl⟩,⟨_,_,Tryz.underlying92,rfl,rfl,by kernel_rfl⟩,⟨_,_,Tryz.underlying92,rfl,rfl,by kernel_rfl⟩,trivial⟩ (by unfold TZ;kernel_rfl) rfl (bf rfl) ⟨_,Tryz.underlying92,by kernel_rfl⟩ (fun ks h=>by cases h),
 rf ⟨⟨_,Tryz.underlying101,rfl⟩,by kernel_rfl⟩ Tryz.underlying101 (by unfold TZ;kernel_rfl),
 rf ⟨⟨_,Tryz.underlying103,rfl⟩,by kernel_rfl⟩ Tryz.underlying103 (by unfold TZ;kernel_rfl),
 po (z:=.agg #[.int .i64 0,.bool false,.int .i64 0,.int .i64 0]) ⟨⟨_,Tryz.underlying105,rfl⟩,by kernel_rfl⟩ rfl ⟨⟨_,_,Tryz.underlying105,rfl,rfl,by kernel_rfl⟩,⟨_,_,Tryz.underlying105,rfl,rfl,by kernel_rfl⟩,⟨_,_,Tryz.underlying105,rfl,rfl,by kernel_rfl⟩,trivial⟩ (by unfold TZ;kernel_rfl) rfl (bf rfl) ⟨_,Tryz.underlying105,by kernel_rfl⟩ (fun ks h=>by cases h),
 rf ⟨⟨_,Tryz.underlying118,rfl⟩,by kernel_rfl⟩ Tryz.underlying118 (by unfold TZ;kernel_rfl),
 NQ (ty:=.bool) (b:=8) ⟨⟨_,Tryz.underlying125,rfl⟩,by kernel_rfl⟩ rfl (by unfold TZ;kernel_rfl),
 po (z:=.agg #[.slice none 0 0,.int .i64 0,.int .i64 0,.slice none 0 0,.bool false]) ⟨⟨_,Tryz.underlying129,rfl⟩,by kernel_rfl⟩ rfl ⟨⟨_,_,Tryz.underlying129,rfl,rfl,by kernel_rfl⟩,⟨_,_,Tryz.underlying129,rfl,rfl,by kernel_rfl⟩,⟨_,_,Tryz.underlying129,rfl,rfl,by kernel_rfl⟩,⟨_,_,Tryz.underlying129,rfl,rfl,by kernel_rfl⟩,⟨_,_,Tryz.underlying129,rfl,rfl,by kernel_rfl⟩,trivial⟩ (by unfold TZ;kernel_rfl) rfl (bf rfl) ⟨_,Tryz.underlying129,by kernel_rfl⟩ (fun ks h=>by cases h),
 rf ⟨⟨_,Tryz.underlying132,rfl⟩,by kernel_rfl⟩ Tryz.underlying132 (by unfold TZ;kernel_rfl),
 po (z:=.agg #[.slice none 0 0]) ⟨⟨_,Tryz.underlying134,rfl⟩,by kernel_rfl⟩ rfl ⟨⟨_,_,Tryz.underlying134,rfl,rfl,by kernel_rfl⟩,trivial⟩ (by unfold TZ;kernel_rfl) rfl (bf rfl) ⟨_,Tryz.underlying134,by kernel_rfl⟩ (fun ks h=>by cases h),
 oi (n:=1) (z:=.int .u64 0) ⟨⟨_,Tryz.underlying138,rfl⟩,by kernel_rfl⟩ rfl (by unfold TZ;kernel_rfl) rfl (bf rfl) (fun h=>by cases h) (fun k h=>by obtain rfl:=ae h;exact Tryz.underlying138),
 po (z:=.agg #[.int .i64 0,.int .i64 0,.int .i64 0,.int .i64 0]) ⟨⟨_,Tryz.underlying147,rfl⟩,by kernel_rfl⟩ rfl ⟨⟨_,_,Tryz.underlying147,rfl,rfl,by kernel_rfl⟩,⟨_,_,Tryz.underlying147,rfl,rfl,by kernel_rfl⟩,⟨_,_,Tryz.underlying147,rfl,rfl,by kernel_rfl⟩,⟨_,_,Tryz.underlying147,rfl,rfl,by kernel_rfl⟩,trivial⟩ (by unfold TZ;kernel_rfl) rfl (bf rfl) ⟨_,Tryz.underlying147,by kernel_rfl⟩ (fun ks h=>by cases h),
 po (z:=.agg #[.bool false,.int .i64 0,.int .i64 0]) ⟨⟨_,Tryz.underlying149,rfl⟩,by kernel_rfl⟩ rfl ⟨⟨_,_,Tryz.underlying149,rfl,rfl,by kernel_rfl⟩,⟨_,_,Tryz.underlying149,rfl,rfl,by kernel_rfl⟩,⟨_,_,Tryz.underlying149,rfl,rfl,by kernel_rfl⟩,trivial⟩ (by unfold TZ;kernel_rfl) rfl (bf rfl) ⟨_,Tryz.underlying149,by kernel_rfl⟩ (fun ks h=>by cases h),
 oi (n:=1) (z:=.int .u32 0) ⟨⟨_,Tryz.underlying156,rfl⟩,by kernel_rfl⟩ rfl (by unfold TZ;kernel_rfl) rfl (bf rfl) (fun h=>by cases h) (fun k h=>by obtain rfl:=ae h;exact Tryz.underlying156),
 oi (n:=1) (z:=.int .u64 0) ⟨⟨_,Tryz.underlying159,rfl⟩,by kernel_rfl⟩ rfl (by unfold TZ;kernel_rfl) rfl (bf rfl) (fun h=>by cases h) (fun k h=>by obtain rfl:=ae h;exact Tryz.underlying159),
 rf ⟨⟨_,Tryz.underlying180,rfl⟩,by kernel_rfl⟩ Tryz.underlying180 (by unfold TZ;kernel_rfl),trivial⟩
theorem mixed:Tryz.prog.follows .mixedOrders=true:=by kernel_rfl
def JE (fn:Func):Code:=match fn.body with
 | some c=>c
 | none=>.skip
theorem fk {k:FuncId} {fn:Func} {f:FS} (ft:FT) (hF:FTok Tryz.prog ft) (hf:Tryz.prog.funcs[k]? =some fn) (ann:Ann) (an:List (Nat×Ty):=[]) (tr:Trs:=[]) (hb:fn.body=some (JE fn):=by rfl) (he:(fn.name == "runtime.NumGoroutine")=false:=by kernel_rfl) (hcl:f.cl=none:=by rfl) (hm:Nat.ble f.ps.length fn.ntmps=true:=by rfl) (hdp:(vT f.rs&&ra f.ps)=true:=by rfl)
  (hmod: ∀d,appP f.ps f.m d=gy ⟨tt,ft,an,fn.ntmps,tr⟩ (Ii ⟨tt,ft,an,fn.ntmps,tr⟩ fn.results.toList f.rs f.ps d) (JE fn) ann (fun r=>some r) (fun _ _=>none) (Ii ⟨tt,ft,an,fn.ntmps,tr⟩ fn.results.toList f.rs f.ps d) (lB (qQ f.ps d)):=by intro d;kernel_rfl):FOk Tryz.prog k f:=
 fok (V:=⟨tt,ft,an,fn.ntmps,tr⟩) CJ hF mixed hf hb rfl (enters_of hf he hb) hcl (bf hm) hdp ann hmod
def Fk:FS:=⟨[.rd y22],[y4],Af,none⟩
def pz:FS:=⟨[.rd y22],[.int .i64,.int .i64],kK,some (78,9)⟩
def uU:FS:=⟨[.crs 78 5],[y3],fZ,none⟩
def bJ:FS:=⟨[.crs 78 5,.rd y3],[y3],aJ,none⟩
def fy:FS:=⟨[.crs 78 5,.rd y3],[y4],bd,none⟩
def cD:FS:=⟨[.crs 78 5,.rd y24],[y3],aT,none⟩
def om:FS:=⟨[.crs 78 5],[y27],ju,none⟩
def pA:FS:=⟨[.crs 78 5],[y31],gz,none⟩
def lM:FS:=⟨[.rd y3,.rd y3,.rd y3],[y4],dm,none⟩
def mK:FS:=⟨[.rd y3],[y4],iw,none⟩
def oo:FS:=⟨[.rd L4],[y3],jv,none⟩
def uV:FS:=⟨[.rd wz],[y4],ni,none⟩
def jD:FS:=⟨[.rd wz],[y4],eQ,none⟩
def lN:FS:=⟨[.rd L5],[y3],eS,none⟩
def lO (n:Nat):FS:=⟨[.rd L5],[y3],cJ n,none⟩
def uW:FS:=⟨[.rd L5],[wz],qn,none⟩
def nm:FS:=⟨[.rd wz,.rd wz,.rd L4],[wz],cG,none⟩
def qo:FS:=⟨[.rd y3],[wz],jc,none⟩
def j3 (n:Nat):FS:=⟨[.rd wz,.rd y3,.rd y3],[wz],ga n,none⟩
def iS (n:Nat):FS:=⟨[.rd L5],[wz],bM n,none⟩
def nE:FS:=⟨[.rd wz],[wz,y4],ig,none⟩
def sV:FS:=⟨[.ptr 129 LZ,.rd y3,.rd y3],[],jw,none⟩
def j4 (n:Nat):FS:=⟨[.ptr 129 LZ,.rd L5],[Qb],cd n,none⟩
def j5:FS:=⟨[.rd wz],[LZ,y4],eD,none⟩
def yw:FS:=⟨[.rd y9,.rd y5],[Po],yu,none⟩
def iH:FS:=⟨[.rd y3],[y9],iG,none⟩
def pB:FS:=⟨[.rd y3],[y9],lG,none⟩
def sW:FS:=⟨[.rd L4],[y9],sU,none⟩
def mL:FS:=⟨[.rd y9],[y3,y4],mF,none⟩
def uX:FS:=⟨[.rd y9],[L4],uT,none⟩
def pC:FS:=⟨[.rd y9],[wz,y4],fw,none⟩
def uY:FS:=⟨[.crs 78 5,.rd Po],[y9],nj,none⟩
def sX:FS:=⟨[.crs 78 5],[wz],lH,none⟩
def nF:FS:=⟨[.rd y3],[wz],nD,none⟩
def np (n:Nat):FS:=⟨[.crs 78 5,.rd y3],[wz],cr n,none⟩
def uZ:FS:=⟨[.crs 78 5],[wz],nk,none⟩
def qT:FS:=⟨[.rd LZ,.rd y3,.rd y3],[y3],jX,none⟩
def sY:FS:=⟨[.rd y24,.rd y3],[y3],lI,none⟩
def nG:FS:=⟨[.rd LZ,.rd y3],[y4],ij,none⟩
def nH:FS:=⟨[.rd LZ,.rd y3],[y31,y4],da,none⟩
def qp:FS:=⟨[.crs 78 5],[y31],kL,none⟩
def yx:FS:=⟨[.crs 78 5],[y27],mG,none⟩
def u5:FS:=⟨[.crs 78 5],[y31],kM,none⟩
def sZ:FS:=⟨[.crs 78 5],[y27,y31],lJ,none⟩
def oq:FS:=⟨[.rd y31],[y31],fV,none⟩
def gI:FS:=⟨[.rd y27,.rd y3],[y3],bs,none⟩
def kt:FS:=⟨[.rd y31,.rd y3,.rd y3],[y3],db,none⟩
def u6:FS:=⟨[.rd y27,.rd y3],[Qa],kN,none⟩
def pD:FS:=⟨[.rd y50,.rd y4],[y3],dH,none⟩
def yy:FS:=⟨[.rd y50,.rd y4],[y3],jx,none⟩
def mM:FS:=⟨[.rd y27,.rd y31,.rd y3,.rd y3],[y87],dE,none⟩
def mN:FS:=⟨[.rd y27,.rd y31,.rd y3],[y24],fb,none⟩
def iA:FS:=⟨[.rd y27,.rd y31,.rd y3],[y33],bS,none⟩
def qq:FS:=⟨[.rd y27,.rd y50],[y4],kO,none⟩
def dX:FS:=⟨[.rd y27],[y4],bE,none⟩
def ta:FS:=⟨[.rd y31],[y4],jz,none⟩
def iL:FS:=⟨[.rd y31],[y4],bQ,none⟩
def ot:FS:=⟨[.rd y27,.rd y31,.rd y3,.rd y3],[y4],fe,none⟩
def lP:FS:=⟨[.rd y27,.rd y31,.rd y3],[y33,y4],bZ,none⟩
def u7:FS:=⟨[.crs 78 5,.rd y27],[y3],kP,none⟩
def lQ:FS:=⟨[.crs 78 5],[y27,y33],gW,none⟩
def jd:FS:=⟨[.rd y27],[y27],bC,none⟩
def ku:FS:=⟨[.rd y27,.rd y50],[y27,y4],ep,none⟩
def ky:FS:=⟨[.rd y27,.rd y3],[y27,y4],er,none⟩
def ou:FS:=⟨[.rd y27,.rd y36],[y27,y4],bU,none⟩
def qu:FS:=⟨[.crs 78 5,.rd y27],[y50],gX,none⟩
def tc:FS:=⟨[.crs 78 5,.rd y27,.rd y3],[y36],jA,none⟩
def j6:FS:=⟨[.rd y22],[y27,y33,y36],eE,none⟩
def iB:FS:=⟨[.rd y24],[y24],cg,none⟩
def iT:FS:=⟨[.rd y27],[y27],dI,none⟩
def je:FS:=⟨[.rd y3,.rd y3,.rd y3],[y4],ct,none⟩
def qv:FS:=⟨[.rd y50,.rd y3],[y4],gb,none⟩
def dY:FS:=⟨[.rd y27],[y4],bc,none⟩
def di:FS:=⟨[.rd y25,.fn [y50] [y4]],[y3],bq,none⟩
def mO:FS:=⟨[.rd y50,.cap 3 y3],[y4],gB,none⟩
def lR:FS:=⟨[.rd y27,.rd y3],[y3],dJ,none⟩
def dZ:FS:=⟨[.eat (.sl 50 y50),.rd y3,.ow (.sl 50 y50)],[.sl 50 y50],bF,none⟩
def kz:FS:=⟨[.rd y27,.rd y50],[y27,y4],fI,none⟩
def ee:FS:=⟨[.eat (.sl 50 y50),.rd y3,.rd y3],[.sl 50 y50],bG,none⟩
def kA:FS:=⟨[.rd y27,.rd y3],[y27,y4],fJ,none⟩
def eF:FS:=⟨[.rd y25,.rd y50],[y3],cx,none⟩
def dD:FS:=⟨[.rd y25,.rd y50],[y4],bt,none⟩
def nI:FS:=⟨[.rd y27,.rd y36],[y27,y4],im,none⟩
def yz:FS:=⟨[.rd y50,.rd y4],[y3],mH,none⟩
def BK:FS:=⟨[.rd y27],[P9],pv,none⟩
def lS:FS:=⟨[.rd y3],[y24],ff,none⟩
def qU:FS:=⟨[.rd y3],[y4],mI,none⟩
def gJ:FS:=⟨[.rd y31,.rd y3,.rd y3],[y3],bp,none⟩
def ox:FS:=⟨[.rd y31,.rd y3,.rd y3],[y3],de,none⟩
def yA:FS:=⟨[.rd y31,.rd y3,.rd y3,.rd y3],[y3],mJ,none⟩
def iI:FS:=⟨[.rd y27,.rd y31],[y29],bT,none⟩
def iM:FS:=⟨[.rd y31],[y4],bR,none⟩
def u9:FS:=⟨[.rd y27,.rd y31,.rd y24],[y4],cH,none⟩
def jE:FS:=⟨[.rd NT,.rd NT],[NT,NT],oj,none⟩
def jF:FS:=⟨[.rd NU,.rd NU],[NU,NU],jC,none⟩
def kT:FS:=⟨[.rd NS,.rd NS],[NS,NS],kR,none⟩
def fl:FS:=⟨[.rd y24,.rd y3],[y24],bN,none⟩
def vc:FS:=⟨[.rd y29,.rd y24],[y24],nl,none⟩
def gY:FS:=⟨[.rd y27,.rd y31,.rd y3],[y24],bK,some (0,7)⟩
def gZ:FS:=⟨[.rd y31],[y31],bX,none⟩
def gK:FS:=⟨[.rd y27,.rd y31,.rd y3],[y33,y4],a6,none⟩
def eG:FS:=⟨[.rd y28,.rd y28],[y4],cA,none⟩
def bB:FS:=⟨[.rd y29,.rd y29,.fn [y24,y24] [y4]],[y4],a7,none⟩
def cR:FS:=⟨[.rd y24,.rd y24],[y4],bA,none⟩
def jG:FS:=⟨[.rd y24,.rd y24],[y4],dL,none⟩
def kU:FS:=⟨[.rd y31,.rd y31],[y4],dA,none⟩
def kB:FS:=⟨[.rd y33,.rd y33],[y4],ez,none⟩
def jH:FS:=⟨[.rd y27,.rd y33],[y4],cj,none⟩
def qV:FS:=⟨[.rd y33],[y33],gf,none⟩
def nq:FS:=⟨[.rd y27,.rd y33,.rd y27,.rd y4],[y33,y4],eA,none⟩
def nJ:FS:=⟨[.rd y27,.rd y33,.rd y36],[y33,y4],iq,none⟩
def kC:FS:=⟨[.rd y27,.rd y36],[y27,y4],eB,none⟩
def te:FS:=⟨[.rd y24,.rd y24],[y3],kS,none⟩
def kV:FS:=⟨[.rd y31,.rd y31],[y4],dB,none⟩
def kD:FS:=⟨[.rd y33,.rd y33],[y4],cF,none⟩
def gL:FS:=⟨[.rd y27,.rd y33],[y4],cP,none⟩
def lT:FS:=⟨[.rd y33],[y33],dM,none⟩
def nK:FS:=⟨[.rd y27,.rd y33,.rd y36],[y33,y4],ir,none⟩
def qW:FS:=⟨[.rd y24,.rd y24],[y4],jZ,none⟩
def pE:FS:=⟨[.rd y31,.rd y3,.rd y3],[y4],gE,none⟩
def fM:FS:=⟨[.ow (.sl 3 y3)],[],df,none⟩
def eH:FS:=⟨[.eat (.sl 3 y3)],[.sl 3 y3],bL,none⟩
def pF:FS:=⟨[.rd y24],[y24],gF,none⟩
def mP:FS:=⟨[.rd y27,.rd y31,.rd y3],[y24],fj,none⟩
def mQ:FS:=⟨[.rd y27,.rd y33],[y24],gG,none⟩
def nL:FS:=⟨[.rd y27,.rd y31,.rd y3,.rd y3],[y4],fK,none⟩
def yB:FS:=⟨[.rd y3],[y24],px,none⟩
def tf:FS:=⟨[.rd y27,.rd y31,.rd y3],[y24],lK,none⟩
def mR:FS:=⟨[.rd y27,.rd y31,.rd y3],[y24],gH,none⟩
def pG:FS:=⟨[.rd y27,.rd y33],[y3],iR,none⟩
def gM:FS:=⟨[.rd y22],[y27,y33,y50],cB,none⟩
def jI:FS:=⟨[.rd y27,.rd y33,.rd y50],[y33,y4],dN,none⟩
def jJ:FS:=⟨[.rd y27,.rd y33,.rd y50],[y33,y4],dO,none⟩
def BL:FS:=⟨[.crs 78 5,.rd y27],[y3],py,none⟩
def gN:FS:=⟨[.rd y22],[y27,y33,y3],cC,none⟩
def jK:FS:=⟨[.rd y27,.rd y33,.rd y3],[y33,y4],dP,none⟩
def jL:FS:=⟨[.rd y27,.rd y33,.rd y3],[y33,y4],dQ,none⟩
def Ag:FS:=⟨[.rd y22],[y4],lL,none⟩
end R
namespace R
open Go.RowKit
open D
theorem L6:FOk Tryz.prog 4 Fk:=fk [] trivial Tryz.func4 .no
theorem tg:FOk Tryz.prog 22 pz:=LY (T:=78) (NP (V:=⟨tt,[],[],32,[]⟩) CJ trivial mixed Tryz.func22 rfl rfl (enters_of Tryz.func22 (by kernel_rfl) rfl) (bf rfl) (.two .no (.two .no (.two (.two .no (.loop [.slot 3 (.num .i64),.slot 4 (.num .i64)] .no)) .no))) (fun xs=>by kernel_rfl)) rfl
theorem CK:FOk Tryz.prog 88 uU:=fk [] trivial Tryz.func88 (.two .no (.two .no (.two .no (.two (.two .no (.at [.slot 3 (.num .i64),.cur 0] .no)) .no))))
theorem bO:FOk Tryz.prog 53 bJ:=fk [(88,uU)] ⟨CK,trivial⟩ Tryz.func53 .no
theorem gg:FOk Tryz.prog 55 fy:=fk [(53,bJ)] ⟨bO,trivial⟩ Tryz.func55 .no
theorem cY:FOk Tryz.prog 54 cD:=fk [(53,bJ)] ⟨bO,trivial⟩ Tryz.func54 .no
theorem th:FOk Tryz.prog 84 om:=fk [(53,bJ),(54,cD)] ⟨bO,cY,trivial⟩ Tryz.func84 (.two .no (.two .no (.two (.two .no (.loop [.slot 4 (.num .i64),.cur 0,.box 3 [(.own 3 (.int .i64)),(.own 50 y50)]] .no)) (.two .no (.two (.two .no (.loop [.slot 5 (.num .i64),.slot 6 (.num .i64),.cur 0,.box 3 [(.own 3 (.int .i64)),(.own 50 y50)]] .no)) .no)))))
theorem wA:FOk Tryz.prog 107 pA:=fk [(53,bJ),(55,fy)] ⟨bO,gg,trivial⟩ Tryz.func107 (.two .no (.two .no (.two .no (.two (.two .no (.loop [.slot 5 (.num .i64),.box 4 [(.num .i64),(.own 4 .bool),(.own 24 y24)],.cur 0] (.two .no (.two (.two .no (.two (.two .no (.loop [.slot 6 (.own 3 y3),.slot 7 (.num .i64),.cur 0] (.two .no (.two (.two .no (.two (.two .no (.at [.slot 8 (.num .i64),.cur 0] .no)) (.two (.two .no (.at [.slot 8 (.num .i64)] .no)) .no))) .no)))) .no)) .no)))) .no))))
theorem nr:FOk Tryz.prog 66 lM:=fk [] trivial Tryz.func66 .no
theorem qX:FOk Tryz.prog 160 mK:=fk [(66,lM)] ⟨nr,trivial⟩ Tryz.func160 .no
theorem tj:FOk Tryz.prog 155 oo:=fk [(66,lM),(160,mK)] ⟨nr,qX,trivial⟩ Tryz.func155 (.two .no (.two (.two .no (.join [.slot 5 .boo] .no (.two .no (.two .no (.two .no (.join [.slot 37 .boo] .no .no)))))) .no))
theorem CL:FOk Tryz.prog 153 uV:=fk [(155,oo)] ⟨tj,trivial⟩ Tryz.func153 (.two .no (.two .no (.two (.two .no (.loop [.slot 3 (.num .i64),.slot 4 (.num .i64)] .no)) .no)))
theorem mS:FOk Tryz.prog 137 jD:=fk [(153,uV)] ⟨CL,trivial⟩ Tryz.func137 .no
theorem oy:FOk Tryz.prog 140 lN:=fk [(155,oo)] ⟨tj,trivial⟩ Tryz.func140 (.two .no (.two .no (.two .no (.two (.loop [.slot 3 (.num .i64),.slot 4 (.num .i64)] .no) .no))))
theorem tl: ∀n,FOk Tryz.prog 138 (lO n)
 | 0=>pn (f:=lO 0) (enters_of Tryz.func138 (by kernel_rfl) rfl) rfl (fun d=>rfl)
 | n+1=>by
  have ih:=tl n
  exact fk [(138,(lO n)),(140,lN)] ⟨ih,oy,trivial⟩ Tryz.func138 (.two .no (.two .no (.two .no (.two (.two .no (.two (.two .no (.at [.slot 15 .boo] .no)) .no)) .no))))
theorem CM:FOk Tryz.prog 158 uW:=fk [] trivial Tryz.func158 .no
theorem qw:FOk Tryz.prog 146 nm:=fk [(158,uW)] ⟨CM,trivial⟩ Tryz.func146 .no
end R
namespace R
open Go.RowKit
open D
theorem vd:FOk Tryz.prog 144 qo:=fk [] trivial Tryz.func144 .no
theorem qY: ∀n,FOk Tryz.prog 154 (j3 n)
 | 0=>pn (f:=j3 0) (enters_of Tryz.func154 (by kernel_rfl) rfl) rfl (fun d=>rfl)
 | n+1=>by
  have ih:=qY n
  exact fk [(144,qo),(146,nm),(154,(j3 n))] ⟨vd,qw,ih,trivial⟩ Tryz.func154 .no
theorem pH: ∀n,FOk Tryz.prog 139 (iS n)
 | 0=>pn (f:=iS 0) (enters_of Tryz.func139 (by kernel_rfl) rfl) rfl (fun d=>rfl)
 | n+1=>by
  have ih:=pH n
  exact fk [(139,(iS n)),(140,lN),(146,nm),(154,(j3 jO))] ⟨ih,oy,qw,(qY jO),trivial⟩ Tryz.func139 (.two .no (.two .no (.two .no (.two (.two .no (.two (.two .no (.at [.slot 15 .boo] .no)) .no)) .no))))
theorem uc:FOk Tryz.prog 116 nE:=fk [(137,jD),(138,(lO jO)),(139,(iS jO))] ⟨mS,(tl jO),(pH jO),trivial⟩ Tryz.func116 .no
theorem Ah:FOk Tryz.prog 141 sV:=fk [] trivial Tryz.func141 (.two .no (.loop [.slot 6 (.num .i64),.par 4 [3] 3 y3] (.two .no (.two (.at [.par 4 [3] 3 y3] .no) .no))))
theorem qZ: ∀n,FOk Tryz.prog 117 (j4 n)
 | 0=>pn (f:=j4 0) (enters_of Tryz.func117 (by kernel_rfl) rfl) rfl (fun d=>rfl)
 | n+1=>by
  have ih:=qZ n
  exact fk [(117,(j4 n)),(140,lN),(141,sV)] ⟨ih,oy,Ah,trivial⟩ Tryz.func117 (.two .no (.two .no (.two .no (.two (.two .no (.two .no (.two .no (.two .no (.two .no (.two .no (.two (.two .no (.two .no (.two .no (.two .no (.two .no (.two (.two .no (.at [.box 11 [.boo,(.num .i64),(.num .i64)]] .no)) (.two (.two .no (.at [.box 11 [.boo,(.num .i64),(.num .i64)]] .no)) .no))))))) .no))))))) .no))))
theorem pI:FOk Tryz.prog 108 j5:=fk [(116,nE),(117,(j4 jO))] ⟨uc,(qZ jO),trivial⟩ Tryz.func108 (.two .no (.two .no (.two .no (.two .no (.two (.two .no (.loop [.slot 6 (.num .i64),.slot 7 (.num .i64)] (.two .no (.two (.at [.slot 6 (.num .i64)] .no) .no)))) .no)))))
theorem Fl:FOk Tryz.prog 156 yw:=fk [] trivial Tryz.func156 (.two .no (.two .no (.two .no (.two (.two .no (.loop [.slot 5 (.own 9 y9),.slot 6 (.num .i64),.slot 7 (.num .i64)] (.two .no (.two (.at [.slot 5 (.own 9 y9),.slot 6 (.num .i64)] .no) .no)))) .no))))
theorem l8:FOk Tryz.prog 163 iH:=fk [(160,mK)] ⟨qX,trivial⟩ Tryz.func163 .no
theorem wB:FOk Tryz.prog 164 pB:=fk [] trivial Tryz.func164 (.two .no (.two .no (.two .no (.two .no (.two (.loop [.slot 0 (.num .i64),.slot 3 .str] (.two .no (.two .no (.two (.two .no (.at [.slot 5 (.num .i64)] .no)) .no)))) .no)))))
theorem Ai:FOk Tryz.prog 161 sW:=fk [(163,iH),(164,pB)] ⟨l8,wB,trivial⟩ Tryz.func161 .no
theorem tm:FOk Tryz.prog 162 mL:=fk [(163,iH)] ⟨l8,trivial⟩ Tryz.func162 (.two .no (.two (.two .no (.loop [.slot 4 (.num .i64)] .no)) .no))
theorem CN:FOk Tryz.prog 157 uX:=fk [(161,sW),(162,mL)] ⟨Ai,tm,trivial⟩ Tryz.func157 (.two .no (.two (.two .no (.loop [.slot 3 (.num .i64)] .no)) .no))
theorem wC:FOk Tryz.prog 142 pC:=fk [(137,jD),(156,yw),(157,uX)] ⟨mS,Fl,CN,trivial⟩ Tryz.func142 (.two .no (.two .no (.two .no (.two (.two .no (.loop [.slot 6 (.num .i64),.box 4 [(.own 147 L4)]] .no)) .no))))
theorem CO:FOk Tryz.prog 143 uY:=fk [(53,bJ)] ⟨bO,trivial⟩ Tryz.func143 .no
theorem Aj:FOk Tryz.prog 118 sX:=fk [(142,pC),(143,uY)] ⟨wC,CO,trivial⟩ Tryz.func118 .no
theorem ud:FOk Tryz.prog 145 nF:=fk [] trivial Tryz.func145 .no
end R
namespace R
open Go.RowKit
open D
theorem ve: ∀n,FOk Tryz.prog 119 (np n)
 | 0=>pn (f:=np 0) (enters_of Tryz.func119 (by kernel_rfl) rfl) rfl (fun d=>rfl)
 | n+1=>by
  have ih:=ve n
  exact fk [(53,bJ),(54,cD),(55,fy),(119,(np n)),(144,qo),(145,nF),(146,nm)] ⟨bO,cY,gg,ih,vd,ud,qw,trivial⟩ Tryz.func119 (.two .no (.two .no (.two (.two .no (.two (.two .no (.at [.slot 20 .boo] .no)) (.two .no (.two (.two .no (.at [.slot 33 .boo] .no)) .no)))) .no)))
theorem CP:FOk Tryz.prog 109 uZ:=fk [(53,bJ),(55,fy),(118,sX),(119,(np jO))] ⟨bO,gg,Aj,(ve jO),trivial⟩ Tryz.func109 .no
theorem yC:FOk Tryz.prog 120 qT:=fk [] trivial Tryz.func120 (.two .no (.two .no (.join [.slot 7 (.num .i64)] .no (.two (.two .no (.loop [.slot 7 (.num .i64),.slot 8 (.num .i64)] (.two .no (.join [.slot 7 (.num .i64)] .no .no)))) (.two .no (.two (.two .no (.loop [.slot 9 (.num .i64),.slot 10 (.num .i64)] (.two .no (.join [.slot 9 (.num .i64)] .no .no)))) .no))))))
theorem Ak:FOk Tryz.prog 121 sY:=fk [] trivial Tryz.func121 (.two .no (.two (.two .no (.loop [.slot 5 (.num .i64)] .no)) .no))
theorem ue:FOk Tryz.prog 122 nG:=fk [] trivial Tryz.func122 .no
theorem uf:FOk Tryz.prog 110 nH:=fk [(120,qT),(121,sY),(122,nG)] ⟨yC,Ak,ue,trivial⟩ Tryz.func110 (.two .no (.two .no (.two .no (.two (.two .no (.loop [.slot 7 (.own 3 y3),.slot 8 (.num .i64),.box 6 [(.num .i64),(.own 4 y4),(.own 24 y24)]] (.two .no (.two (.two .no (.two (.two .no (.loop [.slot 7 (.own 3 y3),.slot 9 (.own 3 y3),.slot 10 (.num .i64)] (.two .no (.two (.two .no (.two .no (.join [.slot 7 (.own 3 y3),.slot 12 (.num .i64)] .no .no))) .no)))) .no)) .no)))) .no))))
theorem vf:FOk Tryz.prog 85 qp:=fk [(55,fy),(107,pA),(108,j5),(109,uZ),(110,nH)] ⟨gg,wA,pI,CP,uf,trivial⟩ Tryz.func85 .no
theorem Fm:FOk Tryz.prog 86 yx:=fk [(53,bJ),(54,cD),(84,om)] ⟨bO,cY,th,trivial⟩ Tryz.func86 (.two .no (.two .no (.two (.two .no (.at [.cur 0,.box 3 [(.own 3 y3),(.own 50 y50)]] .no)) .no)))
theorem CQ:FOk Tryz.prog 87 u5:=fk [(53,bJ),(54,cD),(85,qp)] ⟨bO,cY,vf,trivial⟩ Tryz.func87 (.two .no (.two .no (.two (.two .no (.at [.cur 0,.box 3 [(.num .i64),(.own 4 y4),(.own 24 y24)]] .no)) .no)))
theorem Al:FOk Tryz.prog 50 sZ:=fk [(55,fy),(84,om),(85,qp),(86,yx),(87,u5)] ⟨gg,th,vf,Fm,CQ,trivial⟩ Tryz.func50 (.two .no (.two .no (.two .no (.two (.two .no (.at [.cur 0,.box 4 [(.own 3 y3),(.own 50 y50)]] .no)) (.two (.two .no (.at [.cur 0,.box 5 [(.num .i64),(.own 4 y4),(.own 24 y24)]] .no)) .no)))))
theorem tn:FOk Tryz.prog 60 oq:=fk [] trivial Tryz.func60 (.two .no (.two .no (.two (.two .no (.loop [.slot 4 (.num .i64),.box 3 [(.num .i64),(.own 4 y4),(.own 24 y24)]] .no)) .no)))
theorem iU:FOk Tryz.prog 68 gI:=fk [] trivial Tryz.func68 (.two .no (.two (.two .no (.loop [.slot 5 (.num .i64)] .no)) .no))
theorem nM:FOk Tryz.prog 91 kt:=fk [] trivial Tryz.func91 (.two .no (.two .no (.two (.loop [.slot 1 (.num .i64),.slot 7 (.num .i64)] .no) .no)))
theorem CR:FOk Tryz.prog 92 u6:=fk [] trivial Tryz.func92 (.two .no (.two .no (.two (.two .no (.loop [.slot 5 (.own 90 y90),.slot 6 (.num .i64)] (.two .no (.join [.slot 5 (.own 90 y90)] (.join [.slot 5 (.own 90 y90)] .no .no) .no)))) .no)))
theorem wD:FOk Tryz.prog 93 pD:=fk [] trivial Tryz.func93 .no
theorem Fo:FOk Tryz.prog 94 yy:=fk [] trivial Tryz.func94 .no
theorem q7:FOk Tryz.prog 62 mM:=fk [(68,gI),(91,kt),(92,u6),(93,pD),(94,yy)] ⟨iU,nM,CR,wD,Fo,trivial⟩ Tryz.func62 (.two .no (.two .no (.two .no (.two .no (.two (.two .no (.loop [.slot 9 (.own 92 y92),.slot 12 (.num .i64)] (.two .no (.two (.two .no (.two .no (.two (.two .no (.loop [.slot 14 (.num .i64),.slot 15 (.num .i64)] (.two .no (.join [.slot 14 (.num .i64)] .no .no)))) (.two .no (.loop [.slot 9 (.own 92 y92),.slot 17 (.num .i64)] (.two .no (.join [.slot 9 (.own 92 y92)] .no .no))))))) .no)))) .no)))))
end R
namespace R
open Go.RowKit
open D
theorem q8:FOk Tryz.prog 61 mN:=fk [(62,mM)] ⟨q7,trivial⟩ Tryz.func61 (.two .no (.two .no (.two .no (.two (.two .no (.loop [.slot 8 (.own 3 y3),.slot 9 (.num .i64)] .no)) (.two .no (.two .no (.two (.two .no (.loop [.row 8 3 y3,.slot 10 (.own 3 y3),.slot 11 (.num .i64)] (.two .no (.two (.two .no (.two .no (.loop [.row 8 3 y3,.slot 10 (.own 3 y3),.slot 13 (.num .i64)] (.two .no (.join [.row 8 3 y3,.slot 10 (.own 3 y3)] .no .no))))) .no)))) .no)))))))
theorem j7:FOk Tryz.prog 29 iA:=fk [(60,oq),(61,mN),(62,mM)] ⟨tn,q8,q7,trivial⟩ Tryz.func29 (.two .no (.two .no (.two .no (.two .no (.two (.two .no (.loop [.slot 9 (.num .i64),.box 8 [(.num .i64),(.own 4 y4),(.own 24 y24),(.num .i64),(.own 3 y3),(.own 3 y3)]] (.two .no (.two (.two .no (.two .no (.loop [.slot 11 (.num .i64),.box 8 [(.num .i64),(.own 4 y4),(.own 24 y24),(.num .i64),(.own 3 y3),(.own 3 y3)]] (.two .no (.join [.box 8 [(.num .i64),(.own 4 y4),(.own 24 y24),(.num .i64),(.own 3 y3),(.own 3 y3)]] .no .no))))) .no)))) .no)))))
theorem vh:FOk Tryz.prog 67 qq:=fk [(66,lM)] ⟨nr,trivial⟩ Tryz.func67 .no
theorem fQ:FOk Tryz.prog 32 dX:=fk [(66,lM),(67,qq)] ⟨nr,vh,trivial⟩ Tryz.func32 (.two .no (.two (.two .no (.loop [.slot 3 (.num .i64)] .no)) (.two (.two .no (.loop [.slot 4 (.num .i64)] .no)) .no)))
theorem Am:FOk Tryz.prog 102 ta:=fk [(66,lM)] ⟨nr,trivial⟩ Tryz.func102 (.two .no (.two .no (.two .no (.two (.two .no (.loop [.slot 4 (.num .i64)] (.two .no (.two (.two .no (.two .no (.loop [.slot 5 (.num .i64)] .no))) .no)))) .no))))
theorem nB:FOk Tryz.prog 77 iL:=fk [(102,ta)] ⟨Am,trivial⟩ Tryz.func77 .no
theorem tp:FOk Tryz.prog 42 ot:=fk [(32,dX),(66,lM),(77,iL)] ⟨fQ,nr,nB,trivial⟩ Tryz.func42 .no
theorem pJ:FOk Tryz.prog 51 lP:=fk [(29,iA),(42,ot)] ⟨j7,tp,trivial⟩ Tryz.func51 .no
theorem CS:FOk Tryz.prog 52 u7:=fk [(53,bJ),(54,cD),(55,fy)] ⟨bO,cY,gg,trivial⟩ Tryz.func52 .no
theorem oz:FOk Tryz.prog 23 lQ:=fk [(50,sZ),(51,lP),(52,u7),(53,bJ),(54,cD)] ⟨Al,pJ,CS,bO,cY,trivial⟩ Tryz.func23 (.two .no (.two .no (.two .no (.two (.two .no (.at [.cur 0,.box 6 [(.num .i64),(.own 4 y4),(.own 24 y24),(.num .i64),(.own 3 y3),(.own 3 y3)]] .no)) .no))))
theorem kW:FOk Tryz.prog 33 jd:=fk [] trivial Tryz.func33 .no
theorem nO:FOk Tryz.prog 46 ku:=fk [(32,dX),(33,jd),(67,qq),(68,gI)] ⟨fQ,kW,vh,iU,trivial⟩ Tryz.func46 (.two .no (.two .no (.two .no (.two (.loop [.slot 6 (.num .i64)] .no) .no))))
theorem nP:FOk Tryz.prog 49 ky:=fk [(32,dX),(33,jd),(68,gI)] ⟨fQ,kW,iU,trivial⟩ Tryz.func49 .no
theorem tq:FOk Tryz.prog 34 ou:=fk [(33,jd),(46,ku),(49,ky),(68,gI)] ⟨kW,nO,nP,iU,trivial⟩ Tryz.func34 (.two .no (.two .no (.two (.two .no (.loop [.slot 7 (.num .i64),.box 6 [(.own 3 y3),(.own 50 y50)]] (.two .no (.joinX [.box 6 [(.own 3 y3),(.own 50 y50)]] .no .no)))) .no)))
theorem vi:FOk Tryz.prog 44 qu:=fk [(53,bJ),(54,cD)] ⟨bO,cY,trivial⟩ Tryz.func44 (.two .no (.two .no (.two (.two .no (.at [.cur 0,.box 5 [(.num .i64),(.num .i64),(.num .i64),(.num .i64)]] .no)) .no)))
theorem An:FOk Tryz.prog 24 tc:=fk [(33,jd),(34,ou),(44,qu),(53,bJ),(55,fy)] ⟨kW,tq,vi,bO,gg,trivial⟩ Tryz.func24 (.two .no (.two .no (.two .no (.two (.two .no (.loop [.slot 9 (.num .i64),.cur 0,.box 8 [(.own 3 y3),(.own 50 y50)],.box 7 [(.own 84 y84)]] (.two .no (.two (.at [.cur 0,.box 8 [(.own 3 y3),(.own 50 y50)],.box 7 [(.own 84 y84)]] (.two .no (.two (.two .no (.at [.cur 0,.box 10 [.boo,(.num .i64),(.num .i64),(.num .i64),(.num .i64)]] .no)) (.two (.two .no (.at [.box 10 [.boo,(.num .i64),(.num .i64),(.num .i64),(.num .i64)]] .no)) .no)))) .no)))) .no))))
theorem pK:FOk Tryz.prog 5 j6:=fk [(22,pz),(23,lQ),(24,tc)] ⟨tg,oz,An,trivial⟩ Tryz.func5 .no
end R
end Go.Proofs.YtgfhbkngckodnaaGreat
