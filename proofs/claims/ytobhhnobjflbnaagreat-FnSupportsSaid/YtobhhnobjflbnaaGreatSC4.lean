/- FnSupports: for every input the law returns true and changes nothing that was there. Part 5 of 7. -/
import Derived.Test.YtobhhnobjflbnaaGreatSC3
set_option linter.unusedVariables false
set_option linter.unusedSimpArgs false
set_option linter.unnecessarySimpa false
set_option linter.unusedSectionVars false
set_option maxRecDepth 1000000
namespace Go.Proofs.YtobhhnobjflbnaaGreat
namespace R
open Go.RowKit
open D
def CW (i:Nat):(p:PM)->p.den->AV
 | .rd t,d=>Bn i t d
 | .ow t,d=>BH (fp i [] t d)
 | .fn a b,d=>.one (.fn ⟨i,[]⟩ a b d)
 | .cap T t,d=>.one (.fz ⟨i,[]⟩ T t d 0)
 | .capf T a b,d=>.one (.fzf ⟨i,[]⟩ T a b d)
 | .ptr _ _,_=>.one (.ptr ⟨i,[]⟩ 0)
 | .eat t,d=>BH (fp i [] t d)
 | .fk g,_=>.one (.val (.func (.func g) #[] #[]))
 | .crs _ _,_=>.one (.ptr ⟨i,[]⟩ 0)
def za (q i:Nat):(p:PM)->p.den->List (Hdr×Chk)
 | .ow t,d=>fH i [] t d
 | .ptr T t,d=>[(⟨i,[]⟩,.box T t d)]
 | .eat t,d=>fH i [] t d
 | .crs T E,d=>[(⟨i,[]⟩,.blk T [.rd ⟨q,[]⟩ (.sl E (.int .u8)) d.1,.val (.int .i64 d.2.1),.val (.int .i64 d.2.2)])]
 | _,_=>[]
def zb:(i:Nat)->(ps:List PM)->denP ps->List (Nat×Nat×AV)
 | _,[],_=>[]
 | i,p::ps,d=>(i,i,CW i p d.1)::zb (i+1) ps d.2
def vK (q:Nat):(i:Nat)->(ps:List PM)->denP ps->List Ent
 | _,[],_=>[]
 | i,p::ps,d=>(za q i p d.1).map (fun g=>(g.1,i,g.2))++vK q (i+1) ps d.2
def oC (ps:List PM) (d:denP ps):Sg:=⟨zb 0 ps d,vK ps.length 0 ps d,ps.length+1⟩
def Nr (P:Program) (w0:World) (J:Hp) (θ:Th) (n i:Nat):(p:PM)->Value->p.den->Prop
 | .ow t,v,d=>(fp i [] t d).2.map (·.v θ)=eG t.isProd v/\ ∀x∈(fp i [] t d).2,x.ok P w0 J θ n
 | .ptr _ _,v,_=>hv θ ⟨i,[]⟩=v/\i<n
 | .crs _ _,v,_=>hv θ ⟨i,[]⟩=v/\i<n
 | _,_,_=>True
def StF (P:Program) (w0:World) (J:Hp) (θ:Th) (n:Nat):(i:Nat)->(ps:List PM)->List Value->denP ps->Prop
 | i,p::ps,v::vs,d=>Nr P w0 J θ n i p v d.1/\StF P w0 J θ n (i+1) ps vs d.2
 | _,_,_,_=>True
section
variable {P:Program} {w0 w:World} {J:Hp} {θ:Th} {n:Nat} {C:List Ch}
theorem oD {id:Nat} {pre:List Nat} {t:Ty} {d:t.den} : ∀g∈fH id pre t d,Ew g.2:=dH t d 0
theorem CX {p:PM} {i:Nat} {v:Value} {d:p.den} {ps:List PM} {vs:List Value} {e:denP ps} {γ:Value} {q:Nat} (hi:i<n) (hq:q<n) (hγ:θ q=γ) (hθ:θ i=v) (h:Mv P w0 J γ p v d) (hS:St J w0 w (owCh γ (p::ps) (v::vs) (d,e)++C)) :
  (∀chs,(CW i p d).ok P w0 J θ n chs)/\(CW i p d).v θ=v/\St J w0 w ((za q i p d).map (fun g=>toCh P θ (g.1,i,g.2))++(owCh γ ps vs e++C))/\(∀g∈za q i p d,IC P w0 J θ n g.2/\g.1.id=i)/\Nr P w0 J θ n i p v d:=by
 cases p with
 | rd t =>
  obtain ⟨cs,h1,h2⟩:=h
  have hav:=fun chs=>jg (P:=P) (w0:=w0) (J:=J) (chs:=chs) hi hθ t d cs h2 h1
  exact ⟨fun chs=>(hav chs).1,(hav []).2,hS,fun g hg=>(by cases hg),trivial⟩
 | fn a b =>
  have hh:hv θ ⟨i,[]⟩=v:=hθ
  exact ⟨fun chs=>⟨hi,by rw[hh];exact h⟩,hh,hS,fun g hg=>(by cases hg),trivial⟩
 | cap T t =>
  obtain ⟨b,rfl,cells,h1,h2⟩:=h
  have hh:hv θ ⟨i,[]⟩= .pointer (some ⟨b,0,none⟩):=hθ
  refine ⟨fun chs=>⟨hi,cells,by rw[hh];exact h1,h2⟩,?_,hS,fun g hg=>(by cases hg),trivial⟩
  show Value.pointer (some ⟨bk (hv θ ⟨i,[]⟩),0,none⟩)=_
  rw[hh];rfl
 | capf T x y =>
  obtain ⟨b,rfl,u,h1,h2⟩:=h
  have hh:hv θ ⟨i,[]⟩= .pointer (some ⟨b,0,none⟩):=hθ
  refine ⟨fun chs=>⟨hi,u,by rw[hh];exact h1,h2⟩,?_,hS,fun g hg=>(by cases hg),trivial⟩
  show Value.pointer (some ⟨bk (hv θ ⟨i,[]⟩),0,none⟩)=_
  rw[hh];rfl
 | ptr T t =>
  obtain ⟨b,rfl⟩:=h
  have hh:hv θ ⟨i,[]⟩= .pointer (some ⟨b,0,none⟩):=hθ
  refine ⟨fun chs=>hi,?_,?_,fun g hg=>by obtain rfl:=al hg;exact ⟨.inl trivial,rfl⟩,hh,hi⟩
  ·show Value.pointer (some ⟨bk (hv θ ⟨i,[]⟩),0,none⟩)=_
   rw[hh];rfl
  ·show St J w0 w (Ch.box (bk (hv θ ⟨i,[]⟩)) T t.rep d::_)
   rw[hh];exact hS
 | ow t =>
  have hS:St J w0 w (Ch.own t.rep (eG t.isProd v) d::(owCh γ ps vs e++C)):=hS
  obtain ⟨k1,k2,k3,k4,k5⟩:=mO (P:=P) (m:=i) (pre:=[]) (id:=i) (n:=n) hi (show hv θ ⟨i,[]⟩=v from hθ) h hS
  have q:=fun chs=>tm (P:=P) (w0:=w0) (J:=J) (θ:=θ) (n:=n) (chs:=chs) (fp i [] t d) (fun e=>ky e) k1
  exact ⟨fun chs=>(q chs).1,(q []).2.trans k3,k5,fun g hg=>⟨.inl (oD g hg),k4 g hg⟩,k2,k1⟩
 | eat t =>
  have hS:St J w0 w (Ch.own t.rep (eG t.isProd v) d::(owCh γ ps vs e++C)):=hS
  obtain ⟨k1,k2,k3,k4,k5⟩:=mO (P:=P) (m:=i) (pre:=[]) (id:=i) (n:=n) hi (show hv θ ⟨i,[]⟩=v from hθ) h hS
  have q:=fun chs=>tm (P:=P) (w0:=w0) (J:=J) (θ:=θ) (n:=n) (chs:=chs) (fp i [] t d) (fun e=>ky e) k1
  exact ⟨fun chs=>(q chs).1,(q []).2.trans k3,k5,fun g hg=>⟨.inl (oD g hg),k4 g hg⟩,trivial⟩
 | fk g =>
  obtain rfl:=h
  exact ⟨fun chs=>rfl,rfl,hS,fun g hg=>(by cases hg),trivial⟩
 | crs T E =>
  obtain ⟨⟨b,rfl⟩,hrd⟩:=h
  have hh:hv θ ⟨i,[]⟩= .pointer (some ⟨b,0,none⟩):=hθ
  have hg0:hv θ ⟨q,[]⟩=γ:=hγ
  refine ⟨fun chs=>hi,?_,?_,fun g hg=>?_,hh,hi⟩
  ·show Value.pointer (some ⟨bk (hv θ ⟨i,[]⟩),0,none⟩)=_
   rw[hh];rfl
  ·show St J w0 w (Ch.blk (bk (hv θ ⟨i,[]⟩)) [hv θ ⟨q,[]⟩,.int .i64 d.2.1,.int .i64 d.2.2] T::_)
   rw[hh,hg0];exact hS
  ·obtain rfl:=al hg
   refine ⟨.inr ⟨_,_,rfl,fun z hz=>?_⟩,rfl⟩
   rcases aw hz with rfl | hz
   ·exact ⟨hq,by rw[hg0];exact hrd⟩
   ·rcases aw hz with rfl | hz
    ·exact Eq.refl true
    ·obtain rfl:=al hz
     exact Eq.refl true
theorem ze {γ:Value} {q:Nat} (hq:q<n) (hγ:θ q=γ): ∀ {ps:List PM} {i:Nat} {vs:List Value} {d:denP ps} {C:List Ch},PArgs P w0 J γ ps vs d->(∀j v,vs[j]? =some v->θ (i+j)=v)->i+ps.length<=n->St J w0 w (owCh γ ps vs d++C)->
  (∀e∈zb i ps d,(∀chs,e.2.2.ok P w0 J θ n chs)/\i<=e.1/\e.2.1=e.1/\e.1<i+ps.length/\vs[e.1 - i]? =some (e.2.2.v θ))/\((zb i ps d).Pairwise fun a b=>a.2.1≠b.2.1)/\St J w0 w ((vK q i ps d).map (toCh P θ)++C)/\(∀e∈vK q i ps d,∀chs,okE P w0 J θ n chs e)/\StF P w0 J θ n i ps vs d
 | [],i,vs,d,C,h,_,_,hS=>by
  have h:vs= []:=h
  subst h
  exact ⟨fun e he=>(by cases he),List.Pairwise.nil,hS,fun e he=>(by cases he),trivial⟩
 | p::ps,i,vs,d,C,h,hθ,hn,hS=>by
  obtain ⟨v,r,rfl,h1,h3⟩:=h
  rw[ax] at hn
  obtain ⟨a1,a2,a3,a4,a5⟩:=CX (n:=n) (i:=i) (θ:=θ) (e:=d.2) (show i<n by omega) hq hγ (hθ 0 v rfl) h1 hS
  obtain ⟨k1,k2,k3,k4,k5⟩:=ze hq hγ (i:=i+1) h3 (fun j u hj=>by
   have:=hθ (j+1) u hj
   rwa [show i+(j+1)=i+1+j from by omega] at this) (by omega) (a3.perm (List.perm_append_comm_assoc _ _ _))
  refine ⟨fun e he=>?_,List.pairwise_cons.2 ⟨fun e he hh=>?_,k2⟩,?_,fun e he chs=>?_,a5,k5⟩
  ·rcases aw he with rfl | he
   ·exact ⟨a1,aA _,rfl,by rw[ax];show i<_;omega,by show (v::r)[i - i]? =_;rw[Nat.sub_self,a2];rfl⟩
   ·obtain ⟨q1,q2,q3,q4,q5⟩:=k1 e he
    refine ⟨q1,by omega,q3,by rw[ax];omega,?_⟩
    rw[show e.1 - i=(e.1 - (i+1))+1 from by omega];exact q5
  ·have:=k1 e he
   have hh:i=e.2.1:=hh
   omega
  ·show St J w0 w (((za q i p d.1).map _++vK q (i+1) ps d.2).map (toCh P θ)++C)
   rw[aF,List.map_map]
   refine k3.perm ?_
   rw[ah]
   exact List.perm_append_comm_assoc _ _ _
  ·rcases aB he with he | he
   ·obtain ⟨g,hg,rfl⟩:=List.mem_map.1 he
    obtain ⟨g1,g2⟩:=a4 g hg
    exact tv g1 (aA _) (by omega) (by omega)
   ·exact k4 e he chs
theorem vL {γ:Value} : ∀ {ps:List PM} {vs:List Value} {d:denP ps},PArgs P w0 J γ ps vs d->vs.length=ps.length
 | [],vs,d,h=>by
  have h:vs= []:=h
  subst h;rfl
 | p::ps,vs,d,h=>by
  obtain ⟨v,r,rfl,h1,h3⟩:=h
  simpa using vL h3
end
def Jm (tt:TT) (s:Sg):ResultVar->Option AV
 | .tmp t=>look s.env t
 | .cell p T=>(DT (look s.env p)).bind fun h=>(td tt T).bind fun d=>(l9 h s.chs).bind fun b=>a9 (Nat.beq b.cells.length d.n) (Mt d.agg b.cells)
theorem Jn {v:Option AV} {h:Hdr} (k:DT v=some h):v=some (.one (.ptr h 0)):=by
 unfold DT at k
 split at k
 ·rename_i h' off
  split at k
  ·rename_i ho
   rw[aj ho,ae k]
  ·cases k
 ·cases k
section
variable {P:Program} {I:Hp} {w0 w:World} {F:Ch} {J:Hp} {θ:Th} {n:Nat} {s:Sg} {a:Act} {tt:TT}
theorem Jo (ha:Agr n a (envL θ s)) {t g:Nat} {T E:TypeId} {v:Value} {cs:List Ch} (h:(envL θ s).lookup t=some (.pointer (some ⟨g,0,none⟩))) (hs:St J w0 w cs) (i:Nat) (hi:cs[i]? =some (Ch.blk g [v] E)) (hT:TI P T false 1):wH P a w (.cell t T) v:=by
 refine ⟨_,ha.2.2 t _ h,?_⟩
 have hg:=hs.heap i hi
 have hc:w.cell? ⟨g,0,none⟩=some v:=by simp[World.cell?,hg]
 simp[loadVar,Sem.run_bind,hT.run_agg,load,Sem.run,hc,Result.andThen]
theorem FJ (hT:TTok P tt) (hS:Sim P I w0 F n J θ s a w) {r:ResultVar} {v:AV} (h:Jm tt s r=some v):wH P a w r (v.v θ)/\v.ok P w0 J θ s.nxt s.chs:=by
 cases r with
 | tmp t=>exact ⟨HQ hS.agr (dj h),aT (x:=.tmp t) hS.fine h⟩
 | cell p T =>
  obtain ⟨hh,h1,h⟩:=bind_some (show (DT (look s.env p)).bind _=some v from h)
  obtain ⟨d,hd,h⟩:=bind_some h
  obtain ⟨b,hb,h⟩:=bind_some h
  obtain ⟨hl,h⟩:=ai h
  have hl:=aj hl
  have hp:=fm hb
  have hok:=hS.fine.chs _ (hp.mem_iff.2 (List.mem_cons_self ..))
  obtain ⟨k1,k2⟩:=BB (chs:=s.chs) h hok.2.2
  refine ⟨?_,k1⟩
  have hlk:(envL θ s).lookup p=some (.pointer (some ⟨bk (hv θ hh),0,none⟩)):=dj (Jn h1)
  have hst:=hS.st.perm ((hp.map (toCh P θ)).append_right [F])
  have hti:=(hT.get hd).ti
  cases hagg:d.agg with
  | true =>
   rw[hagg] at k2 hti
   rw[<-k2]
   exact DY hS.agr hlk hst 0 rfl hti (by rw[List.length_map];exact hl)
  | false =>
   rw[hagg] at k2 hti h
   have h1':d.n=1:=by
    have:=(hT.get hd).one
    rw[hagg] at this
    simpa using this
   obtain ⟨x,hx⟩:=List.length_eq_one_iff.1 (hl.trans h1')
   rw[h1'] at hti
   rw[hx] at k2
   rw[<-k2]
   have hst2:St J w0 w (Ch.blk (bk (hv θ hh)) [x.v θ] b.T::(b.rest.map (toCh P θ)++ [F])):=by
    have:(toCh P θ (b.ent hh))=Ch.blk (bk (hv θ hh)) (b.cells.map (·.v θ)) b.T:=rfl
    rw[hx] at this
    rw[<-show toCh P θ (b.ent hh)=Ch.blk (bk (hv θ hh)) [x.v θ] b.T from this]
    exact hst
   exact Jo hS.agr hlk hst2 0 rfl hti
end
def xx:(ts:List Ty)->List AV->List Ent->Option (eF ts×List Ent×List Ent)
 | [],[],chs=>some ((),[],chs)
 | t::ts,v::vs,chs=>a9 (mR v==t.isProd) ((eU v).bind fun cs=>(bL t cs chs).bind fun q=>a9 q.cells.isEmpty ((xx ts vs q.rest).bind fun r=>some ((q.d,r.1),q.used++r.2.1,r.2.2)))
 | _,_,_=>none
def nW:(ts:List Ty)->List Value->eF ts->List Ch
 | t::ts,v::vs,d=>Ch.own t.rep (eG t.isProd v) d.1::nW ts vs d.2
 | _,_,_=>[]
theorem se {P:Program} {w0:World} {J:Hp} {θ:Th} {n:Nat} {chs0:List Ent} : ∀ {ts:List Ty} {vs:List AV} {chs:List Ent} {r:eF ts×List Ent×List Ent},xx ts vs chs=some r->(∀v∈vs,v.ok P w0 J θ n chs0)->
  chs.Perm (r.2.1++r.2.2)/\vs.length=ts.length/\iV J (r.2.1.map (toCh P θ)) (nW ts (vs.map (·.v θ)) r.1)/\ ∀(i:Nat) t v,ts[i]? =some t->vs[i]? =some v->jf (v.v θ)=t.isProd
 | [],[],chs,r,h,_=>by
  obtain rfl:=ae (show some _=some r from h)
  exact ⟨List.Perm.refl _,rfl,mH,fun i t v ht=>by simp at ht⟩
 | t::ts,v::vs,chs,r,h,hv'=>by
  obtain ⟨ha,h⟩:=ai (show a9 (mR v==t.isProd) _=some r from h)
  have ha:mR v=t.isProd:=by simpa using ha
  obtain ⟨cs,hcs,h⟩:=bind_some h
  obtain ⟨q,hq,h⟩:=bind_some h
  obtain ⟨he,h⟩:=ai h
  obtain ⟨r',hr,h⟩:=bind_some h
  obtain rfl:=ae h
  obtain ⟨c1,c2⟩:=er hcs (hv' v (by simp))
  obtain ⟨p,cc,e1,e2⟩:=eV (J:=J) (θ:=θ) hq c1
  rw[List.isEmpty_iff.1 he,List.append_nil] at e1
  subst e1
  obtain ⟨k1,k2,k3,k4⟩:=se hr fun x hx=>hv' x (by simp[hx])
  have hcell:eG t.isProd (v.v θ)=cs.map (·.v θ)/\jf (v.v θ)=t.isProd:=by
   rw[<-ha]
   cases v with
   | agg xs =>
    obtain rfl:=ae (show some xs=some cs from hcs)
    exact ⟨rfl,rfl⟩
   | one x =>
    obtain rfl:=ae (show some [x] =some cs from hcs)
    refine ⟨rfl,?_⟩
    have h1:(x.v θ).oneCell'=true:=LV.one (show LV.ok P w0 J θ n x from hv' (.one x) (by simp))
    show jf (x.v θ)=false
    generalize x.v θ=u at h1
    cases u <;> first | rfl | cases h1
   | _=>cases hcs
  refine ⟨by rw[ah];exact p.trans (k1.append_left _),by rw[ax,ax,k2],?_,fun i t' v' ht hv0=>?_⟩
  ·show iV J ((q.used++r'.2.1).map _) (Ch.own t.rep (eG t.isProd (v.v θ)) q.d::nW ts (vs.map _) r'.1)
   rw[aF,hcell.1]
   exact kt e2 k3
  ·cases i with
   | zero =>
    obtain rfl:t=t':=by simpa using ht
    obtain rfl:v=v':=by simpa using hv0
    exact hcell.2
   | succ i=>exact k4 i t' v' (by simpa using ht) (by simpa using hv0)
 | [],_::_,chs,r,h,_=>by cases h
 | _::_,[],chs,r,h,_=>by cases h
def Mi:List Value->Value
 | [v] =>v
 | vs=>.tuple vs.toArray
def zf (P:Program) (a:Act) (w:World):List ResultVar->List Value->Prop
 | [],vs=>vs= []
 | r::rs,vs=> ∃v us,vs=v::us/\wH P a w r v/\zf P a w rs us
theorem oE {P:Program} {a:Act} {w:World} {f:ResultVar->Sem Value} (hf: ∀r v,wH P a w r v->(f r).run P w= .ok v w): ∀ {l:List ResultVar} {vs:List Value},zf P a w l vs->(l.mapM f).run P w= .ok vs w
 | [],vs,h=>by
  have h:vs= []:=h
  subst h
  rw[List.mapM_nil];rfl
 | r::l,vs,h=>by
  obtain ⟨v,us,rfl,h1,h2⟩:=h
  rw[List.mapM_cons,Sem.run_bind,hf r v h1]
  simp only[Result.andThen_ok,Sem.run_bind,oE hf h2]
  rfl
def Mj (a:Act) (r:ResultVar):Sem Value:=match r with
 | .tmp t=>pure (a.tmps.getD t undef)
 | .cell p t=>do loadVar t (<-asAddr (a.tmps.getD p undef))
theorem Jp {P:Program} {a:Act} {w:World} {r:ResultVar} {v:Value} (h:wH P a w r v):(Mj a r).run P w= .ok v w:=by
 cases r with
 | tmp t =>
  have h:a.tmps.getD t undef=v:=h
  show (pure (a.tmps.getD t undef):Sem Value).run P w=_
  rw[h];rfl
 | cell p T =>
  obtain ⟨A,h1,h2⟩:=h
  show ((asAddr (a.tmps.getD p undef)) >>=fun x=>loadVar T x).run P w=_
  rw[h1,Sem.run_bind]
  show Result.andThen (.ok A w) _=_
  rw[Result.andThen_ok];exact h2
theorem Le {P:Program} {n:Nat} {a:Act} {w:World} {L:List (Nat×Value)} {fn:Func} {R:Ending->World->Prop} {vs:List Value} (ha:Agr n a L) (h:zf P a w fn.results.toList vs) (hR:R (.returned (Mi vs)) w):bodyPost P fn R .ret a w:=by
 refine ⟨ha.1,Mi vs,?_,hR⟩
 have hr:((fn.results.mapM (Mj a)):Sem (Array Value)).run P w= .ok vs.toArray w:=by
  rw[Array.mapM_eq_mapM_toList]
  have:=oE (f:=Mj a) (fun r v=>Jp) h
  simp[this,Sem.run_map]
 show ((fn.results.mapM (Mj a)) >>=fun vs=>pure (if h:vs.size=1 then vs[0] else .tuple vs):Sem Value).run P w=_
 rw[Sem.run_bind,hr,Result.andThen_ok]
 match vs with
 | [] =>rfl
 | [v] =>rfl
 | _::_::_=>rfl
def cx (g0:Nat):(i:Nat)->(ps:List PM)->denP ps->List Ent->Option (eF (outs ps)×List Ent×List Ent)
 | _,[],_,chs=>some ((),[],chs)
 | i,.ow t::ps,d,chs=>(bL t (fp i [] t d.1).2 chs).bind fun q=>a9 q.cells.isEmpty ((cx g0 (i+1) ps d.2 q.rest).bind fun r=>some ((q.d,r.1),q.used++r.2.1,r.2.2))
 | i,.ptr T t::ps,d,chs=>(pR ⟨i,[]⟩ T t chs).bind fun q=>(cx g0 (i+1) ps d.2 q.2.2).bind fun r=>some ((q.1,r.1),q.2.1++r.2.1,r.2.2)
 | i,.rd _::ps,d,chs=>cx g0 (i+1) ps d.2 chs
 | i,.fn _ _::ps,d,chs=>cx g0 (i+1) ps d.2 chs
 | i,.eat _::ps,d,chs=>cx g0 (i+1) ps d.2 chs
 | i,.cap _ _::ps,d,chs=>cx g0 (i+1) ps d.2 chs
 | i,.capf _ _ _::ps,d,chs=>cx g0 (i+1) ps d.2 chs
 | i,.fk _::ps,d,chs=>cx g0 (i+1) ps d.2 chs
 | i,.crs T E::ps,d,chs=>(mb ⟨i,[]⟩ T E chs).bind fun q=>a9 (Hdr.beq q.g ⟨g0,[]⟩) ((cx g0 (i+1) ps d.2 q.rest).bind fun r=>some ((q.d.2,r.1),q.ent::r.2.1,r.2.2))
theorem cE {P:Program} {w0:World} {J J':Hp} {θ θ':Th} {n n':Nat} {chs0:List Ent} (hJ:J.le J') (hs:Same n θ θ') {γ:Value} {g0:Nat} (hg0:g0<n) (hγ:θ g0=γ): ∀ {ps:List PM} {i:Nat} {d:denP ps} {chs:List Ent} {vs:List Value} {r:eF (outs ps)×List Ent×List Ent},cx g0 i ps d chs=some r->vs.length=ps.length->StF P w0 J θ n i ps vs d->(∀e∈chs,okE P w0 J' θ' n' chs0 e)->
  chs.Perm (r.2.1++r.2.2)/\iV J' (r.2.1.map (toCh P θ')) (outCh γ ps vs r.1)
 | [],i,d,chs,vs,r,h,_,_,_=>by
  obtain rfl:=ae (show some _=some r from h)
  exact ⟨List.Perm.refl _,mH⟩
 | p::ps,i,d,chs,[],r,h,hl,_,_=>by cases hl
 | .ow t::ps,i,d,chs,v::vs,r,h,hl,hF,hc=>by
  obtain ⟨q,hq,h⟩:=bind_some (show (bL t (fp i [] t d.1).2 chs).bind _=some r from h)
  obtain ⟨he,h⟩:=ai h
  obtain ⟨r',hr,h⟩:=bind_some h
  obtain rfl:=ae h
  obtain ⟨⟨k1,k2⟩,k3⟩:=hF
  obtain ⟨p,cc,e1,e2⟩:=eV (P:=P) (w0:=w0) (J:=J') (θ:=θ') (n:=n) hq fun x hx=>LV.ok_same hs (aA _) (k2 x hx) hJ
  rw[List.isEmpty_iff.1 he,List.append_nil] at e1
  subst e1
  rw[du hs k2,k1] at e2
  obtain ⟨q1,q2⟩:=cE hJ hs hg0 hγ hr (by simpa using hl) k3 fun e he=>hc e (p.mem_iff.2 (by simp[he]))
  refine ⟨by rw[ah];exact p.trans (q1.append_left _),?_⟩
  show iV J' ((q.used++r'.2.1).map _) (Ch.own t.rep (eG t.isProd v) q.d::outCh γ ps vs r'.1)
  rw[aF]
  exact kt e2 q2
 | .ptr T t::ps,i,d,chs,v::vs,r,h,hl,hF,hc=>by
  obtain ⟨q,hq,h⟩:=bind_some (show (pR ⟨i,[]⟩ T t chs).bind _=some r from h)
  obtain ⟨r',hr,h⟩:=bind_some h
  obtain rfl:=ae h
  obtain ⟨⟨k1,k2⟩,k3⟩:=hF
  obtain ⟨p,hb⟩:=rK (P:=P) (w0:=w0) (J:=J') (J':=J') (θ:=θ') hq Hp.le.rfl hc
  obtain ⟨q1,q2⟩:=cE hJ hs hg0 hγ hr (by simpa using hl) k3 fun e he=>hc e (p.mem_iff.2 (by simp[he]))
  refine ⟨by rw[ah];exact p.trans (q1.append_left _),?_⟩
  show iV J' ((q.2.1++r'.2.1).map _) (Ch.box (bk v) T t.rep q.1::outCh γ ps vs r'.1)
  rw[aF]
  have hh:hv θ' ⟨i,[]⟩=v:=(aP hs (show (⟨i,[]⟩:Hdr).id<n from k2)).trans k1
  rw[hh] at hb
  intro w F hsp
  obtain ⟨G,K,rfl,h1,h2⟩:=hsp.split
  exact ⟨G,K,rfl,hb w G h1,q2 w K h2⟩
 | .rd t::ps,i,d,chs,v::vs,r,h,hl,hF,hc=>cE (ps:=ps) hJ hs hg0 hγ (show cx g0 (i+1) ps d.2 chs=some r from h) (by simpa using hl) hF.2 hc
 | .fn _ _::ps,i,d,chs,v::vs,r,h,hl,hF,hc=>cE (ps:=ps) hJ hs hg0 hγ (show cx g0 (i+1) ps d.2 chs=some r from h) (by simpa using hl) hF.2 hc
 | .eat _::ps,i,d,chs,v::vs,r,h,hl,hF,hc=>cE (ps:=ps) hJ hs hg0 hγ (show cx g0 (i+1) ps d.2 chs=some r from h) (by simpa using hl) hF.2 hc
 | .cap _ _::ps,i,d,chs,v::vs,r,h,hl,hF,hc=>cE (ps:=ps) hJ hs hg0 hγ (show cx g0 (i+1) ps d.2 chs=some r from h) (by simpa using hl) hF.2 hc
 | .capf _ _ _::ps,i,d,chs,v::vs,r,h,hl,hF,hc=>cE (ps:=ps) hJ hs hg0 hγ (show cx g0 (i+1) ps d.2 chs=some r from h) (by simpa using hl) hF.2 hc
 | .fk _::ps,i,d,chs,v::vs,r,h,hl,hF,hc=>cE (ps:=ps) hJ hs hg0 hγ (show cx g0 (i+1) ps d.2 chs=some r from h) (by simpa using hl) hF.2 hc
 | .crs T E::ps,i,d,chs,v::vs,r,h,hl,hF,hc=>by
  obtain ⟨q,hq,h⟩:=bind_some (show (mb ⟨i,[]⟩ T E chs).bind _=some r from h)
  obtain ⟨hb,h⟩:=ai h
  obtain ⟨r',hr,h⟩:=bind_some h
  obtain rfl:=ae h
  obtain ⟨⟨k1,k2⟩,k3⟩:=hF
  obtain ⟨p,ver,he⟩:=gL hq
  obtain ⟨q1,q2⟩:=cE hJ hs hg0 hγ hr (by simpa using hl) k3 fun e he=>hc e (p.mem_iff.2 (by simp[he]))
  refine ⟨p.trans (q1.cons _),?_⟩
  have hh:hv θ' ⟨i,[]⟩=v:=(aP hs (show (⟨i,[]⟩:Hdr).id<n from k2)).trans k1
  have hg:hv θ' q.g=γ:=by
   rw[Hdr.beq_eq hb]
   show vg (θ' g0) [] =γ
   rw[hs g0 hg0,hγ];rfl
  show iV J' (toCh P θ' q.ent::r'.2.1.map _) (Ch.blk (bk v) [γ,.int .i64 q.d.2.1,.int .i64 q.d.2.2] T::outCh γ ps vs r'.1)
  rw[he]
  intro w F hsp
  obtain ⟨G,K,rfl,h1,h2⟩:=hsp
  have h1:(Ch.blk (bk (hv θ' ⟨i,[]⟩)) [hv θ' q.g,.int .i64 q.d.2.1,.int .i64 q.d.2.2] T).holds J' w G:=h1
  rw[hh,hg] at h1
  exact ⟨G,K,rfl,h1,q2 w K h2⟩
def ofH:(ts:List Ty)->eF ts->dens ts
 | [],_=>()
 | [_],d=>d.1
 | _::u::ts,d=>(d.1,ofH (u::ts) d.2)
theorem xy: ∀(ts:List Ty) (d:eF ts),toH ts (ofH ts d)=d
 | [],_=>rfl
 | [_],_=>rfl
 | _::u::ts,d=>congrArg (Prod.mk d.1) (xy (u::ts) d.2)
def zg:(ts us:List Ty)->eF ts->eF us->eF (ts++us)
 | [],_,_,e=>e
 | _::ts,us,d,e=>(d.1,zg ts us d.2 e)
theorem tR: ∀(ts us:List Ty) (d:eF ts) (e:eF us),hFst ts us (zg ts us d e)=d
 | [],_,_,_=>rfl
 | _::ts,us,d,e=>congrArg (Prod.mk d.1) (tR ts us d.2 e)
theorem zh: ∀(ts us:List Ty) (d:eF ts) (e:eF us),hSnd ts us (zg ts us d e)=e
 | [],_,_,_=>rfl
 | _::ts,us,d,e=>zh ts us d.2 e
def qj (tt:TT) (s:Sg):List ResultVar->Option (List AV)
 | [] =>some []
 | r::rs=>(Jm tt s r).bind fun v=>(qj tt s rs).bind fun vs=>some (v::vs)
def xz (s:Sg):List AV->List Hdr
 | [] =>[]
 | v::vs=>p7 v++xz s vs
def pf:List Ent->List Hdr
 | [] =>[]
 | e::l=>match e.2.2 with
  | .hole _ _ _ _ _ _ _ _ _ _=>e.1::pf l
  | _=>pf l
def Lf:List AV->List (Bool×Hdr)
 | [] =>[]
 | v::vs=>Np true v++Lf vs
def vM (tr:Trs) (vs:List AV) (s:Sg):Sg:=match tr with
 | [] =>s
 | _=>EL tr (Lf vs) s
def FK (tr:Trs) (vs:List AV) (s0:Sg):Sg:=match vM tr vs s0 with
 | s=>mW (xz s0 vs++pf s.chs) s
def nlN:List AV->(ts:List Ty)->eF ts->Int
 | [.one (.own _)],[.sl _ t],d=>((List.length (α:=t.den) d.1:Nat):Int)
 | [.one (.val v)],[.sl _ _],_=>match isNil v with
  | true=>1
  | false=>0
 | _,_,_=>0
def Lg (an:List (Nat×Ty)) (vs:List AV) (ts:List Ty) (d:eF ts):Option Unit:=match rX 1000000 an with
 | true=>chk (0<nlN vs ts d)
 | false=>some ()
theorem Lh {vs:List AV} {ts:List Ty} {d:eF ts} {θ:Th} (h:0<nlN vs ts d) {v:Value} (hv:vs.map (·.v θ)= [v]):pN ts d v:=by
 unfold nlN at h
 split at h
 ·intro h0
  omega
 ·split at h
  ·rename_i h1
   intro _
   have:=gy h1
   subst this
   simpa [AV.v,LV.v] using hv.symm
  ·omega
 ·omega
def FL (V:Env) (rvs:List ResultVar) (rs:List Ty) (ps:List PM) (d:denP ps) (s00:Sg):Option (dens (rs++outs ps)):=(qj V.tt s00 rvs).bind fun vs00=>EU vs00 s00 fun s0=>(qj V.tt s0 rvs).bind fun vs0=>match FK V.tr vs0 s0 with
 | s=>(qj V.tt s rvs).bind fun vs=>(xx rs vs s.chs).bind fun r=>(cx ps.length 0 ps d r.2.2).bind fun o=>(Lg V.an vs rs r.1).bind fun _=>some (ofH _ (zg rs (outs ps) r.1 o.1))
end R
namespace R
open Go.RowKit
open D
theorem sf {vs:List Value} : ∀ {ts:List Ty} {i:Nat} {us:List Value} {d:eF ts},us.length=ts.length->(∀j v,us[j]? =some v->vs[i+j]? =some v)->mJ i ts d (.tuple vs.toArray)=nW ts us d
 | [],i,us,d,h,_=>by
  cases us with
  | nil=>rfl
  | cons _ _=>cases h
 | t::ts,i,[],d,h,_=>by cases h
 | t::ts,i,u::us,d,h,k=>by
  have h0:vg (.tuple vs.toArray) [i] =u:=by
   show vs.toArray.getD i undef=u
   have:=k 0 u rfl
   rw[Nat.add_zero] at this
   simp[Array.getD_eq_getD_getElem?,this]
  show Ch.own t.rep (eG t.isProd (vg (.tuple vs.toArray) [i])) d.1::mJ (i+1) ts d.2 _=Ch.own t.rep (eG t.isProd u) d.1::nW ts us d.2
  rw[h0,sf (us:=us) (by simpa using h) fun j v hj=>by
   have:=k (j+1) v (by simpa using hj)
   rwa [show i+(j+1)=i+1+j from by omega] at this]
theorem Ax {ts:List Ty} {vs:List Value} {d:eF ts} (h:vs.length=ts.length):resGv ts d (Mi vs)=nW ts vs d:=by
 match ts,vs,d,h with
 | [],[],d,_=>rfl
 | [t],[v],d,_=>rfl
 | t::u::ts,v::w::vs,d,h =>
  show mJ 0 _ d (.tuple (v::w::vs).toArray)=_
  exact sf h fun j x hj=>by rw[Nat.zero_add];exact hj
theorem FM {ts:List Ty} {vs:List Value} (h:vs.length=ts.length) (k: ∀(i:Nat) t v,ts[i]? =some t->vs[i]? =some v->jf v=t.isProd):resFa ts (Mi vs):=by
 match ts,vs,h with
 | [],[],_=>exact ⟨#[],rfl,rfl,fun i t ht=>by simp at ht⟩
 | [t],[v],_=>exact k 0 t v rfl rfl
 | t::u::ts,v::w::vs,h =>
  refine ⟨(v::w::vs).toArray,rfl,by simpa using h,fun i t' ht=>?_⟩
  have hlt:i<(v::w::vs).length:=by rw[h];exact (List.getElem?_eq_some_iff.1 ht).1
  have:=k i t' ((v::w::vs)[i]) ht (List.getElem?_eq_getElem hlt)
  rw[<-this,Array.getD_eq_getD_getElem?,List.getElem?_toArray,List.getElem?_eq_getElem hlt];rfl
theorem m6 {P:Program} {I:Hp} {w0 w:World} {F:Ch} {J:Hp} {θ:Th} {n:Nat} {s:Sg} {a:Act} {tt:TT} (hT:TTok P tt) (hS:Sim P I w0 F n J θ s a w): ∀ {rs:List ResultVar} {vs:List AV},qj tt s rs=some vs->zf P a w rs (vs.map (·.v θ))/\ ∀v∈vs,v.ok P w0 J θ s.nxt s.chs
 | [],vs,h=>by
  obtain rfl:=ae (show some [] =some vs from h)
  exact ⟨rfl,fun v hv=>by cases hv⟩
 | r::rs,vs,h=>by
  obtain ⟨v,hv',h⟩:=bind_some (show (Jm tt s r).bind _=some vs from h)
  obtain ⟨us,hus,h⟩:=bind_some h
  obtain rfl:=ae h
  obtain ⟨k1,k2⟩:=FJ hT hS hv'
  obtain ⟨q1,q2⟩:=m6 hT hS hus
  refine ⟨⟨_,_,rfl,k1,q1⟩,fun x hx=>?_⟩
  rcases aw hx with rfl | hx
  ·exact k2
  ·exact q2 x hx
theorem CY {J:Hp} {a b c d:List Ch} (h:iV J a b) (k:iV J c d):iV J (a++c) (b++d):=fun w F hs=>by
 obtain ⟨G,K,rfl,e1,e2⟩:=hs.split
 exact (h w G e1).append (k w K e2)
theorem St.sepTo {J:Hp} {w0 w:World} {a b C:List Ch} (h:St J w0 w (a++C)) (k:iV J a b):St J w0 w (b++C):=by
 obtain ⟨h1,h2,F,h3,h4,h5⟩:=h
 obtain ⟨G,K,rfl,e1,e2⟩:=h3.split
 exact ⟨h1,h2,G++K,(k w G e1).append e2,h4,h5⟩
theorem si {P:Program} {n:Nat} {I:Hp} {w0:World} {k:FuncId} {fn:Func} {c:Code} {args:Array Value} {rn:List Ch} {fact:Value->Prop} {gv:Value->List Ch} (L:List (Nat×Value)) (hf:P.funcs[k]? =some fn) (hb:fn.body=some c) (hn:fn.ntmps=n) (hm:args.size<=n) (hL: ∀p∈L,args[p.1]? =some p.2)
  (h: ∀F w a,Agr n a L->St I w0 w (rn++ [F])->c.wp P (bodyPost P fn fun e w'=> ∃v,e= .returned v/\fact v/\ ∃J,I.le J/\St J w0 w' (gv v++ [F])) a w) (hd: ∀v,Ch.back (gv v)):Con P k args I w0 rn fact gv:=by
 intro w C hs
 have hs':St I w0 w (rn++ [Ch.fr I C]):=by
  obtain ⟨hb,hi,F,h1,h2,h3⟩:=hs
  obtain ⟨G,K,rfl,e1,e2⟩:=h1.split
  exact ⟨hb,hi,G++K,e1.append ⟨K,[],by simp,e2,rfl⟩,h2,h3⟩
 have:=h (Ch.fr I C) w { tmps:=args++Array.replicate (fn.ntmps - args.size) undef,defers:=[] } (Agr.start L (by omega) hL) hs'
 refine (calls_of_wp hf hb this).mono ?_
 rintro e w' ⟨v,rfl,hv,J,hJ,hs⟩
 exact ⟨v,rfl,hv,hs.back hJ (hd v)⟩
theorem FN {P:Program} {I:Hp} {w0 w:World} {F:Ch} {n:Nat} {J:Hp} {θ:Th} {s:Sg} {a:Act} {tr:Trs} {vs:List AV} (hS:Sim P I w0 F n J θ s a w): ∃J' θ',J.le J'/\Sim P I w0 F n J' θ' (FK tr vs s) a w/\Fr s θ (FK tr vs s) θ':=by
 have key: ∃J' θ',J.le J'/\Sim P I w0 F n J' θ' (vM tr vs s) a w/\Fr s θ (vM tr vs s) θ':=by
  unfold vM
  split
  ·exact ⟨J,θ,Hp.le.rfl,hS,Fr.rfl⟩
  ·exact me hS
 obtain ⟨J',θ',h1,h2,h3⟩:=key
 obtain ⟨S2,F2⟩:=lg (V:=⟨[],[],[],n,[]⟩) (hs:=xz s vs++pf (vM tr vs s).chs) h2
 exact ⟨J',θ',h1,S2,h3.trans F2⟩
theorem Li {V:Env} {P:Program} {w0:World} {F:Ch} {J:Hp} {θ:Th} (hT:TTok P V.tt) {fn:Func} {rs:List Ty} {ps:List PM} {d:denP ps} {vs:List Value} {s0:Sg} (k0:vs.length=ps.length) (k5:StF P w0 J θ (ps.length+1) 0 ps vs d) (hn0:ps.length+1<=s0.nxt) {γ:Value} (hγ:θ ps.length=γ): ∀r J' θ' s' a' w',FL V fn.results.toList rs ps d s'=some r->Sim P J w0 F V.n J' θ' s' a' w'->J.le J'->Fr s0 θ s' θ'->
  bodyPost P fn (fun e w'=> ∃v,e= .returned v/\(resFa rs v/\(rX 1000000 V.an=true->pN rs (hFst rs (outs ps) (toH _ r)) v))/\ ∃J2,J.le J2/\St J2 w0 w' ((resGv rs (hFst rs (outs ps) (toH _ r)) v++outCh γ ps vs (hSnd rs (outs ps) (toH _ r)))++ [F])) .ret a' w':=by
 intro r J' θ' s' a' w' hrt hS' hJ hFr
 obtain ⟨vs00,hv00,hrt⟩:=bind_some (show (qj V.tt s' fn.results.toList).bind _=some r from hrt)
 obtain ⟨s0',hrt,S0,N0⟩:=yN hrt (m6 hT hS' hv00).2 hS'
 obtain ⟨vs0,hv0,hrt⟩:=bind_some hrt
 obtain ⟨J1,θ1,hJ1,S1,F1⟩:=FN (tr:=V.tr) (vs:=vs0) S0
 generalize FK V.tr vs0 s0'=s1 at hrt S1 F1
 have hle:s0.nxt<=s'.nxt:=hFr.1
 have hsame:Same (ps.length+1) θ θ1:=fun i hi=>(F1.same i (by omega)).trans (hFr.same i (by omega))
 replace hJ:=hJ.trans hJ1
 clear hJ1 F1 hS' S0 hFr
 revert J1 θ1
 clear J' θ'
 intro J' θ' S1 hsame hJ
 obtain ⟨us,hus,hrt⟩:=bind_some hrt
 obtain ⟨q,hq,hrt⟩:=bind_some hrt
 obtain ⟨o,ho,hrt⟩:=bind_some hrt
 obtain ⟨u0,hnl,hrt⟩:=bind_some hrt
 obtain rfl:=ae hrt
 obtain ⟨r1,r2⟩:=m6 hT S1 hus
 obtain ⟨t1,t2,t3,t4⟩:=se (J:=J') (θ:=θ') hq r2
 obtain ⟨o1,o2⟩:=cE (P:=P) (J:=J) (J':=J') (θ:=θ) (θ':=θ') (vs:=vs) (n:=ps.length+1) (n':=s1.nxt) (chs0:=s1.chs) hJ hsame (aq _) hγ ho k0 k5 fun e he=>S1.fine.chs e (t1.mem_iff.2 (by simp[he]))
 have hl:(us.map (·.v θ')).length=rs.length:=by rw[List.length_map];exact t2
 refine Le S1.agr r1 ⟨_,rfl,⟨FM hl fun i t v ht hv1=>?_,fun han=>?_⟩,J',hJ,?_⟩
 ·rw[List.getElem?_map] at hv1
  obtain ⟨x,hx,rfl⟩:=Option.map_eq_some_iff.1 hv1
  exact t4 i t x ht hx
 ·rw[xy,tR]
  unfold Lg at hnl
  rw[han] at hnl
  have hnl:0<nlN us rs q.1:=a7 hnl
  rcases us with _ | ⟨x,us⟩
  ·cases hnl
  ·cases us with
   | nil=>exact Lh (θ:=θ') hnl rfl
   | cons y us=>unfold nlN at hnl;split at hnl <;> first | omega | simp_all
 ·rw[xy,tR,zh,Ax hl]
  have hp:=t1.trans (o1.append_left _)
  have h1:=S1.st.perm ((hp.map (toCh P θ')).append_right [F])
  have h2:St J' w0 w' ((q.2.1.map (toCh P θ')++o.2.1.map (toCh P θ'))++(o.2.2.map (toCh P θ')++ [F])):=by
   simpa [aF,ah] using h1
  have h3:=St.sepTo h2 (CY t3 o2)
  refine St.left (ds:=o.2.2.map (toCh P θ')) (h3.perm ?_)
  simp only[ah]
  exact List.Perm.append_left _ (List.Perm.append_left _ List.perm_append_comm)
theorem xA {V:Env} {P:Program} (hT:TTok P V.tt) (hF:FTok P V.ft) (hmx:P.follows .mixedOrders=true) {k:FuncId} {fn:Func} {c:Code} {f:FS} (hf:P.funcs[k]? =some fn) (hb:fn.body=some c) (hn:fn.ntmps=V.n) (hen:Enters P k) (hm:f.ps.length<=V.n) (hdp:(tw f.rs&&oS f.ps)=true) (ann:Ann)
  (hmod: ∀d,appP f.ps f.m d=fv V (FL V fn.results.toList f.rs f.ps d) c ann (fun r=>some r) (fun _ _=>none) (FL V fn.results.toList f.rs f.ps d) (jK (oC f.ps d))): ∀w0 J γ vs (d:denP f.ps) r,Lay P J->PArgs P w0 J γ f.ps vs d->appP f.ps f.m d=some r->Con P k vs.toArray J w0 (owCh γ f.ps vs d) (fun v=>resFa f.rs v/\(rX 1000000 V.an=true->pN f.rs (hFst f.rs (outs f.ps) (toH _ r)) v)) (fun v=>resGv f.rs (hFst f.rs (outs f.ps) (toH _ r)) v++outCh γ f.ps vs (hSnd f.rs (outs f.ps) (toH _ r))):=by
 rw[af] at hdp
 intro w0 J γ vs d r hlay ha hr
 rw[hmod] at hr
 have k0:=vL ha
 let θ:Th:=fun i=>if i=vs.length then γ else vs.getD i undef
 have hθ: ∀j v,vs[j]? =some v->θ (0+j)=v:=fun j v hj=>by
  show (if 0+j=vs.length then γ else vs.getD (0+j) undef)=v
  rw[Nat.zero_add,if_neg (Nat.ne_of_lt (List.getElem?_eq_some_iff.1 hj).1),List.getD_eq_getElem?_getD,hj];rfl
 have hθg:θ f.ps.length=γ:=by
  show (if f.ps.length=vs.length then γ else _)=γ
  rw[if_pos k0.symm]
 have hzip: ∀p∈(vs.zipIdx.map fun q=>(q.2,q.1)),vs.toArray[p.1]? =some p.2:=fun p hp=>by
  obtain ⟨q,hq,rfl⟩:=List.mem_map.1 hp
  obtain ⟨v,j⟩:=q
  have:=(List.mk_mem_zipIdx_iff_getElem? (x:=v) (i:=j)).1 hq
  simpa using this
 refine si (n:=V.n) (vs.zipIdx.map fun q=>(q.2,q.1)) hf hb hn (by rw[List.size_toArray,k0];exact hm) hzip (fun F w a hA hst=>?_) (fun v=>rM (cv _ _ _ hdp.2) _ _ hdp.1)
 ·obtain ⟨k1,k2,k3,k4,k5⟩:=ze (n:=f.ps.length+1) (q:=f.ps.length) (C:=[F]) (aq _) hθg ha hθ (by omega) hst
  have hfine:Fine P w0 J θ (oC f.ps d):=⟨fun e he=>(k1 e he).1 _,fun e he=>by have:=k1 e he;show e.2.1<f.ps.length+1;omega,k2,fun e he=>k4 e he _,hlay⟩
  have hA':Agr V.n a (envL θ (oC f.ps d)):=hA.pick _ fun p hp=>by
   obtain ⟨e,he,rfl⟩:=List.mem_map.1 hp
   have h5:=(k1 e he).2.2.2.2
   rw[Nat.sub_zero] at h5
   have key: ∀(l:List Value) (k:Nat) (i:Nat) (v:Value),k<=i->l[i - k]? =some v->((l.zipIdx k).map fun q=>(q.2,q.1)).lookup i=some v:=by
    intro l
    induction l with
    | nil=>intro k i v _ h;simp at h
    | cons x l ih =>
     intro k i v hk h
     simp only[List.zipIdx_cons,List.map_cons,List.lookup_cons]
     by_cases e:i=k
     ·subst e
      simp at h
      simp[h]
     ·have:(i==k)=false:=by simpa using e
      rw[this]
      refine ih (k+1) i v (by omega) ?_
      rw[show i - k=(i - (k+1))+1 from by omega] at h
      simpa using h
   exact key vs 0 e.1 _ (Nat.zero_le _) h5
  have hS:Sim P J w0 F V.n J θ (oC f.ps d) a w:=⟨Hp.le.rfl,hA',k3,hfine⟩
  have fin:=Li (rs:=f.rs) (fn:=fn) (F:=F) hT k0 k5 (aA (oC f.ps d).nxt) hθg
  obtain ⟨θ0,hS0,hFr0⟩:=o8 hS
  exact (qi (I:=J) (w0:=w0) (F:=F) hT hF hmx c).1 ann hr hS0 (fun J' θ' s' a' w' hk S' hJ hFr=>fin r J' θ' s' a' w' hk S' hJ (hFr0.trans hFr)) (fun i J' θ' s' a' w' hk=>by cases hk) (fun r' J' θ' s' a' w' hrt hrr hS' hJ hFr=>by
   obtain rfl:=ae hrr
   exact fin _ J' θ' s' a' w' hrt hS' hJ (hFr0.trans hFr))
theorem fok {V:Env} {P:Program} (hT:TTok P V.tt) (hF:FTok P V.ft) (hmx:P.follows .mixedOrders=true) {k:FuncId} {fn:Func} {c:Code} {f:FS} (hf:P.funcs[k]? =some fn) (hb:fn.body=some c) (hn:fn.ntmps=V.n) (hen:Enters P k) (hcl:f.cl=none) (hm:f.ps.length<=V.n) (hdp:(tw f.rs&&oS f.ps)=true) (ann:Ann)
  (hmod: ∀d,appP f.ps f.m d=fv V (FL V fn.results.toList f.rs f.ps d) c ann (fun r=>some r) (fun _ _=>none) (FL V fn.results.toList f.rs f.ps d) (jK (oC f.ps d))):FOk P k f:=
 ⟨fun q hq=>by (rw[hcl] at hq;cases hq),fun _=>hen,fun _ w0 J γ vs d r hlay ha hr w C hs=>(xA hT hF hmx hf hb hn hen hm hdp ann hmod w0 J γ vs d r hlay ha hr w C hs).mono fun e w' ⟨v,h1,h2,h3⟩=>⟨v,h1,h2.1,h3⟩⟩
theorem NM {V:Env} {P:Program} (hT:TTok P V.tt) (hF:FTok P V.ft) (hmx:P.follows .mixedOrders=true) {k:FuncId} {fn:Func} {c:Code} {f:FS} (hf:P.funcs[k]? =some fn) (hb:fn.body=some c) (hn:fn.ntmps=V.n) (hen:Enters P k) (hcl:f.cl=some (0,7)/\rX 1000000 V.an=true) (hm:f.ps.length<=V.n) (hdp:(tw f.rs&&oS f.ps)=true) (ann:Ann)
  (hmod: ∀d,appP f.ps f.m d=fv V (FL V fn.results.toList f.rs f.ps d) c ann (fun r=>some r) (fun _ _=>none) (FL V fn.results.toList f.rs f.ps d) (jK (oC f.ps d))):FOk P k f:=
 ⟨fun q hq=>by
  rw[hcl.1] at hq
  obtain rfl:=ae hq
  exact ⟨⟨fun e=>(by cases e),fun _ e=>(by cases e),fun e=>(by cases e)⟩,(fun _ w0 J γ vs d r hlay ha hr w C hs=>(xA hT hF hmx hf hb hn hen hm hdp ann hmod w0 J γ vs d r hlay ha hr w C hs).mono fun e w' ⟨v,h1,h2,h3⟩=>⟨v,h1,⟨h2.1,h2.2 hcl.2⟩,h3⟩),fun e=>(by cases e)⟩,fun _=>hen,fun _ w0 J γ vs d r hlay ha hr w C hs=>(xA hT hF hmx hf hb hn hen hm hdp ann hmod w0 J γ vs d r hlay ha hr w C hs).mono fun e w' ⟨v,h1,h2,h3⟩=>⟨v,h1,h2.1,h3⟩⟩
def iF:Nat->Ty
 | 0=>.raw
 | n+1=>.prod .raw (iF n)
def j7:(n:Nat)->(iF n).den->List Value
 | 0,p=>[p.1]
 | n+1,p=>p.1.1::j7 n p.2
theorem kG: ∀n,(iF n).rep.size=n+1
 | 0=>rfl
 | n+1=>by
  show 1+(iF n).rep.size=_
  rw[kG n];omega
theorem zi {I:Hp} {w:World} : ∀(n:Nat) {cs:List Value} {p:(iF n).den} {F:List Nat},(iF n).rep.own I w cs p F->F= [] /\cs=j7 n p
 | 0,cs,p,F,h=>by
  obtain ⟨h1,h2⟩:=h
  exact ⟨h1,h2⟩
 | n+1,cs,p,F,⟨c,d,G,K,h1,h2,h3,h4⟩=>by
  obtain ⟨rfl,h5⟩:=h3
  obtain ⟨rfl,h6⟩:=zi n h4
  have h5:c= [p.1.1]:=h5
  subst h1;subst h2;subst h5
  exact ⟨rfl,by rw[h6];rfl⟩
theorem CZ: ∀(n:Nat) (cs:List Value),cs.length=n+1->(∀u∈cs,u.oneCell'=true)-> ∃p:(iF n).den,j7 n p=cs
 | 0,cs,hl,h1=>by
  obtain ⟨u,rfl⟩:=List.length_eq_one_iff.1 hl
  exact ⟨⟨u,h1 u (by simp)⟩,rfl⟩
 | n+1,u::cs,hl,h1=>by
  obtain ⟨p,hp⟩:=CZ n cs (by simpa using hl) (fun v hv=>h1 v (by simp[hv]))
  exact ⟨(⟨u,h1 u (by simp)⟩,p),by show u::j7 n p=_;rw[hp]⟩
theorem m7 {P:Program} {k:FuncId} {f:FS} (h:Enters P k) (hc:f.cl=none) (hm: ∀d,appP f.ps f.m d=none):FOk P k f:=
 ⟨fun q hq=>by (rw[hc] at hq;cases hq),fun _=>h,fun _ _ _ _ _ d r _ _ hr=>by rw[hm d] at hr;cases hr⟩
end R
namespace R
open Go.RowKit
open D
theorem zj {n:Nat} {α:Type} {R:Rep α} (hR:R.Sh) (h1:R.size=n+1) {I:Hp} {w:World} : ∀ {xs:List α} {cur:List Value} {K:List Nat},OwnEls R I w cur xs K-> ∃ps:List (iF n).den,K= [] /\OwnEls (iF n).rep I w cur ps [] /\All2 (fun p x=>R.rd I (j7 n p) x) ps xs
 | [],cur,K,h=>⟨[],h,rfl,.nil⟩
 | x::xs,cur,K,⟨c,rest,G,K1,e1,e2,e3,e4,e5⟩=>by
  obtain ⟨rfl,hrd⟩:=hR e4
  obtain ⟨p,rfl⟩:=CZ n c (e2.trans h1) (R.rd_one hrd)
  obtain ⟨ps,rfl,k2,k3⟩:=zj hR h1 e5
  have hraw: ∀(m:Nat) (q:(iF m).den),(iF m).rep.own I w (j7 m q) q []:=by
   intro m
   induction m with
   | zero=>intro q;exact ⟨rfl,rfl⟩
   | succ m ih=>intro q;exact ⟨[q.1.1],j7 m q.2,[],[],rfl,rfl,⟨rfl,rfl⟩,ih q.2⟩
  exact ⟨p::ps,e3,⟨j7 n p,rest,[],[],e1,by rw[e2,h1,kG],rfl,hraw n p,k2⟩,.cons hrd k3⟩
theorem FO {n:Nat} {α:Type} {E:TypeId} {R:Rep α} (hR:R.Sh) (h1:R.size=n+1) {I:Hp} {w0 w:World} {C:List Ch} {v:Value} {xs:List α} (h:St I w0 w (Ch.own (ak E R) [v] xs::C)): ∃ps:List (iF n).den,All2 (fun p x=>R.rd I (j7 n p) x) ps xs/\St I w0 w (Ch.own (ak E (iF n).rep) [v] ps::C):=by
 obtain ⟨a1,a2,F,⟨G,K,rfl,⟨hl,k⟩,e⟩,a4,a5⟩:=h
 rcases k with ⟨hv',rfl,rfl⟩ | ⟨g,ofs,cap,cur,K1,hv',k1,k2,k3,k4,rfl,k5⟩
 ·exact ⟨[],.nil,a1,a2,[] ++K,⟨[],K,rfl,⟨Nat.zero_le _,.inl ⟨hv',rfl,rfl⟩⟩,e⟩,a4,a5⟩
 ·obtain ⟨ps,rfl,q1,q2⟩:=zj hR h1 k5
  have hlen:=q2.length_eq
  exact ⟨ps,q2,a1,a2,[g] ++K,⟨[g],K,rfl,⟨by rw[hlen];exact hl,.inr ⟨g,ofs,cap,cur,[],by rw[hlen];exact hv',k1,by rw[hlen];exact k2,k3,by rw[h1] at k4;rw[kG];exact k4,rfl,q1⟩⟩,e⟩,a4,a5⟩
theorem vN {n:Nat} {α:Type} {R:Rep α} (hC:Cpy R R) (h1:R.size=n+1) {I:Hp} {w:World} : ∀ {ps:List (iF n).den} {xs:List α} {cur:List Value} {F:List Nat},OwnEls (iF n).rep I w cur ps F->All2 (fun p x=>R.rd I (j7 n p) x) ps xs->OwnEls R I w cur xs F
 | [],[],_,_,h,_=>h
 | p::ps,x::xs,cur,F,⟨c,rest,G,K,e1,e2,e3,e4,e5⟩,hh=>by
  cases hh with
  | cons hp hps =>
   obtain ⟨rfl,rfl⟩:=zi n e4
   exact ⟨j7 n p,rest,[],K,e1,by rw[e2,kG];exact h1.symm,e3,hC hp,vN hC h1 e5 hps⟩
 | [],_::_,_,_,_,hh=>by cases hh
 | _::_,[],_,_,_,hh=>by cases hh
theorem C1 {n:Nat} {α:Type} {E:TypeId} {R:Rep α} (hC:Cpy R R) (h1:R.size=n+1) {I:Hp} {w0 w:World} {C:List Ch} {v:Value} {xs:List α} {ps:List (iF n).den} (hp:All2 (fun p x=>R.rd I (j7 n p) x) ps xs) (h:St I w0 w (Ch.own (ak E (iF n).rep) [v] ps::C)):St I w0 w (Ch.own (ak E R) [v] xs::C):=by
 obtain ⟨a1,a2,F,⟨G,K,rfl,⟨hl,k⟩,e⟩,a4,a5⟩:=h
 have hlen:=hp.length_eq
 rcases k with ⟨hv',rfl,rfl⟩ | ⟨g,ofs,cap,cur,K1,hv',k1,k2,k3,k4,rfl,k5⟩
 ·cases hp
  exact ⟨a1,a2,[] ++K,⟨[],K,rfl,⟨Nat.zero_le _,.inl ⟨hv',rfl,rfl⟩⟩,e⟩,a4,a5⟩
 ·exact ⟨a1,a2,(g::K1)++K,⟨g::K1,K,rfl,⟨by rw[<-hlen];exact hl,.inr ⟨g,ofs,cap,cur,K1,by rw[<-hlen];exact hv',k1,by rw[<-hlen];exact k2,k3,by rw[kG] at k4;rw[h1];exact k4,rfl,vN hC h1 k5 hp⟩⟩,e⟩,a4,a5⟩
theorem vO {α β:Type} {p:α->β->Prop} : ∀ {xs:List α} {ys:List β} (n:Nat),All2 p xs ys->All2 p (xs.take n) (ys.take n)
 | _,_,0,_=>.nil
 | _,_,n+1,.nil=>.nil
 | _,_,n+1,.cons h k=>.cons h (vO n k)
theorem zk {α β:Type} {p:α->β->Prop} : ∀ {xs:List α} {ys:List β} {xs':List α} {ys':List β},All2 p xs ys->All2 p xs' ys'->All2 p (xs++xs') (ys++ys')
 | _,_,_,_,.nil,h=>h
 | _,_,_,_,.cons h k,h'=>.cons h (zk k h')
def Mk {α:Type} (xs:List α) (i j:Int):Option (List α):=(chk (0<=i/\i<=j/\j<=(xs.length:Int))).bind fun _=>some (xs.take i.toNat++xs.drop j.toNat)
def Ml {α:Type} (z:α) (p0s:List α) (p1i p2j:Int):Option (List α):=
 (chk (And (0<=p1i) (And (p1i<=p2j) (And (p2j<=(p0s.length:Int)) ((0+(p0s.length:Int))<=(p0s.length:Int)))))).bind fun _=>if p1i==p2j then (some p0s) else ((chk (And ((0:Int)<=0) (And (0<=p1i) ((0+p1i)<=(p0s.length:Int))))).bind fun _=>(chk (And (0<=p2j) (And (p2j<=((p0s.length:Int) - 0)) ((0+((p0s.length:Int) - 0))<=(p0s.length:Int))))).bind fun _=>(chk (And ((0+0:Int)=0) (And ((0+p1i)<=(0+p2j)) (And ((0+p2j)<=(0+((p0s.length:Int) - 0))) ((0+((p0s.length:Int) - 0))<=(p0s.length:Int)))))).bind fun _=>(chk (And (0<=(((0+p1i)+((0+((p0s.length:Int) - 0)) - (0+p2j))) - 0)) (And ((((0+p1i)+((0+((p0s.length:Int) - 0)) - (0+p2j))) - 0)<=(p0s.length:Int)) ((0+(p0s.length:Int))<=((iI p0s ((0+p1i).toNat) ((0+p2j).toNat) ((0+((p0s.length:Int) - 0)).toNat)).length:Int))))).bind fun _=>(chk (And ((0+(((0+p1i)+((0+((p0s.length:Int) - 0)) - (0+p2j))) - 0))<=(0+(p0s.length:Int))) ((0+(p0s.length:Int))<=((iI p0s ((0+p1i).toNat) ((0+p2j).toNat) ((0+((p0s.length:Int) - 0)).toNat)).length:Int)))).bind fun _=>some (((nP (iI p0s ((0+p1i).toNat) ((0+p2j).toNat) ((0+((p0s.length:Int) - 0)).toNat)) ((0+(((0+p1i)+((0+((p0s.length:Int) - 0)) - (0+p2j))) - 0)).toNat) ((0+(p0s.length:Int)).toNat) z).take (((0+p1i)+((0+((p0s.length:Int) - 0)) - (0+p2j))).toNat)).drop ((0:Int).toNat)))
theorem chk_of {α:Type} {p:Prop} [Decidable p] {k:Unit->Option α} (h:p):(chk p).bind k=k ():=by
 unfold chk
 rw[if_pos h];rfl
theorem Jq {α:Type} {z:α} {xs:List α} {i j:Int} (h1:0<=i) (h2:i<=j) (h3:j<=(xs.length:Int)):Ml z xs i j=some (xs.take i.toNat++xs.drop j.toNat):=by
 have hsl:(iI xs ((0+i).toNat) ((0+j).toNat) ((0+((xs.length:Int) - 0)).toNat)).length=xs.length:=mT (by omega) (by omega) (by omega)
 unfold Ml
 rw[chk_of (by omega)]
 by_cases hij:i=j
 ·subst hij
  rw[if_pos (by simp),List.take_append_drop]
 ·rw[if_neg (by simpa using hij),chk_of (by omega),chk_of (by omega),chk_of (by omega),chk_of (by rw[hsl];omega),chk_of (by rw[hsl];omega)]
  have hzl:(nP (iI xs ((0+i).toNat) ((0+j).toNat) ((0+((xs.length:Int) - 0)).toNat)) ((0+(((0+i)+((0+((xs.length:Int) - 0)) - (0+j))) - 0)).toNat) ((0+(xs.length:Int)).toNat) z).length=xs.length:=by
   rw[oz (by omega) (by rw[hsl];omega),hsl]
  congr 1
  rw[show ((0:Int).toNat)=0 from rfl,List.drop_zero]
  apply List.ext_getElem?
  intro q
  have hi:(xs.take i.toNat).length=i.toNat:=by rw[aD];omega
  rw[List.getElem?_take]
  by_cases c:q<((0+i)+((0+((xs.length:Int) - 0)) - (0+j))).toNat
  ·rw[if_pos c,vh (by omega) (by rw[hsl];omega),if_neg (by omega),rS (by omega) (by omega) (by omega)]
   by_cases c1:q<i.toNat
   ·rw[if_neg (by omega),List.getElem?_append_left (by omega),List.getElem?_take,if_pos c1]
   ·rw[if_pos (by omega),List.getElem?_append_right (by omega),hi,List.getElem?_drop]
    congr 1;omega
  ·rw[if_neg c,List.getElem?_append_right (by omega),List.getElem?_drop,List.getElem?_eq_none (by omega)]
theorem Jr {P:Program} {k:FuncId} {E n:Nat} {u:Ty} {z:(iF n).den} (hu:u.sh=true) (hs:u.size=n+1) (h:FOk P k ⟨[.eat (.sl E (iF n)),.rd (.int .i64),.rd (.int .i64)],[.sl E (iF n)],Ml z,none⟩):FOk P k ⟨[.eat (.sl E u),.rd (.int .i64),.rd (.int .i64)],[.sl E u],Mk,none⟩:=by
 refine ⟨fun q hq=>(by cases hq),fun _=>h.en rfl,fun _ w0 J γ vs d r hlay ha zg=>?_⟩
 obtain ⟨v,vs1,rfl,hd,v2,vs2,rfl,hd2,v3,vs3,rfl,hd3,hnil⟩:=ha
 obtain rfl:vs3= []:=hnil
 obtain ⟨xs0,i0,j0,un⟩:=d
 let xs:List u.den:=xs0
 let i:Int:=i0
 let j:Int:=j0
 let zs:List u.den:=r
 have zg:Mk xs i j=some zs:=zg
 obtain ⟨u1,hc,hz⟩:=Option.bind_eq_some_iff.1 zg
 obtain ⟨c1,c2,c3⟩:=a7 hc
 have hz:=ae hz
 have hsz:u.rep.size=n+1:=(Ty.rep_size u).trans hs
 intro w C hst
 have hst:St J w0 w (Ch.own (ak E u.rep) [v] xs::C):=hst
 obtain ⟨ps,hp,hst2⟩:=FO (Ty.sh_ok hu) hsz hst
 have hlen:=hp.length_eq
 have hm:Ml z ps i j=some (ps.take i.toNat++ps.drop j.toNat):=Jq c1 c2 (by rw[hlen];exact c3)
 have key:=h.con rfl w0 J undef [v,v2,v3] (ps,i,j,()) (show dens ([Ty.sl E (iF n)] ++ []) from ps.take i.toNat++ps.drop j.toNat) hlay ⟨v,_,rfl,hd,v2,_,rfl,hd2,v3,_,rfl,hd3,rfl⟩ hm
 refine (key w C hst2).mono fun e w' ⟨r,a1,a2,a3⟩=>⟨r,a1,a2,?_⟩
 have a3:St J w0 w' (Ch.own (ak E (iF n).rep) [r] (ps.take i.toNat++ps.drop j.toNat)::C):=a3
 show St J w0 w' (Ch.own (ak E u.rep) [r] zs::C)
 rw[<-hz]
 exact C1 (Ty.cpy hu) hsz (zk (vO _ hp) (kz _ hp)) a3
end R
namespace R
open Go.RowKit
open D
def rtN (V:Env) (rvs:List ResultVar) (T:TypeId) (s:Sg):Option (Int×Int):=(qj V.tt s rvs).bind fun vs=>match vs with
 | [.one (.ptr h off)] =>a9 (Nat.beq off 0) ((l9 h s.chs).bind fun b=>a9 (Nat.beq b.T T) (match b.cells with
  | [.rd g _ _,.val (.int .i64 x),.val (.int .i64 y)] =>a9 (Hdr.beq g ⟨0,[]⟩) (some (x,y))
  | _=>none))
 | _=>none
theorem Lj {V:Env} {P:Program} (hT:TTok P V.tt) (hF:FTok P V.ft) (hmx:P.follows .mixedOrders=true) {k:FuncId} {fn:Func} {c:Code} {E T:Nat} {t:Ty} {m:List t.den->Option (Int×Int)} (hf:P.funcs[k]? =some fn) (hb:fn.body=some c) (hn:fn.ntmps=V.n) (hen:Enters P k) (hm:1<=V.n) (ann:Ann)
  (hmod: ∀xs:List t.den,m xs=fv V (rtN V fn.results.toList T) c ann (fun r=>some r) (fun _ _=>none) (rtN V fn.results.toList T) ⟨[(0,0,.one (.rd ⟨0,[]⟩ (.sl E t) xs))],[],1⟩):NewOk P k T ⟨[.rd (.sl E t)],[.int .i64,.int .i64],m,some (T,9)⟩:=by
 refine ⟨hen,fun w0 J γ vs d r ns hlay ha zg hns=>?_⟩
 obtain ⟨v,vs',rfl,hd,hnil⟩:=ha
 obtain rfl:vs'= []:=hnil
 obtain ⟨xs,u⟩:=d
 obtain ⟨cs,hcs,hrd⟩:=hd
 obtain rfl:cs= [v]:=hcs
 obtain ⟨x,y⟩:=r
 have hr:=hmod xs
 rw[show m xs=some (x,y) from zg] at hr
 obtain rfl: [x,y] =ns:=ae hns
 let θ:Th:=fun _=>v
 refine si (n:=V.n) [(0,v)] hf hb hn hm (fun p hp=>by obtain rfl:=al hp;rfl) (fun F w a hA hst=>?_) (fun u=>Ch.back_deeps ⟨Gw,trivial⟩)
 have hfine:Fine P w0 J θ ⟨[(0,0,.one (.rd ⟨0,[]⟩ (.sl E t) xs))],[],1⟩:=⟨fun e he=>by obtain rfl:=al he;exact ⟨Nat.one_pos,hrd⟩,fun e he=>by obtain rfl:=al he;exact Nat.one_pos,List.pairwise_singleton _ _,fun e he=>(by cases he),hlay⟩
 have hS:Sim P J w0 F V.n J θ ⟨[(0,0,.one (.rd ⟨0,[]⟩ (.sl E t) xs))],[],1⟩ a w:=⟨Hp.le.rfl,hA,hst,hfine⟩
 have fin: ∀r J' θ' s' a' w',rtN V fn.results.toList T s'=some r->Sim P J w0 F V.n J' θ' s' a' w'->J.le J'->Fr ⟨[(0,0,.one (.rd ⟨0,[]⟩ (.sl E t) xs))],[],1⟩ θ s' θ'->
   bodyPost P fn (fun e w'=> ∃u,e= .returned u/\(∃b,u= .pointer (some ⟨b,0,none⟩))/\ ∃J2,J.le J2/\St J2 w0 w' ([Ch.blk (bk u) ([v] ++ [r.1,r.2].map (Value.int .i64)) T] ++ [F])) .ret a' w':=by
  intro r J' θ' s' a' w' hrt S' hJ hFr
  obtain ⟨us,hus,hrt⟩:=bind_some hrt
  obtain ⟨r1,r2⟩:=m6 hT S' hus
  split at hrt
  ·rename_i h off
   obtain ⟨ho,hrt⟩:=ai hrt
   obtain rfl:off=0:=aj ho
   obtain ⟨b,hb',hrt⟩:=bind_some hrt
   obtain ⟨hT',hrt⟩:=ai hrt
   have hT':b.T=T:=aj hT'
   split at hrt
   ·rename_i g ty d p q hcells
    obtain ⟨hg,hrt⟩:=ai hrt
    obtain rfl:=Hdr.beq_eq hg
    obtain rfl:=ae hrt
    refine Le S'.agr r1 ⟨_,rfl,⟨bk (hv θ' h),rfl⟩,J',hJ,?_⟩
    have h1:=S'.st.perm (((fm hb').map (toCh P θ')).append_right [F])
    have e0:hv θ' ⟨0,[]⟩=v:=by
     show vg (θ' 0) [] =v
     rw[hFr.same 0 Nat.one_pos];rfl
    have h2:St J' w0 w' (Ch.blk (bk (hv θ' h)) (b.cells.map (·.v θ')) b.T::(b.rest.map (toCh P θ')++ [F])):=h1
    rw[hcells,hT'] at h2
    have h3:St J' w0 w' ([Ch.blk (bk (hv θ' h)) [hv θ' ⟨0,[]⟩,.int .i64 p,.int .i64 q] T] ++ [F] ++b.rest.map (toCh P θ')):=h2.perm ((List.perm_append_comm).cons _)
    rw[e0] at h3
    exact h3.left
   ·cases hrt
  ·cases hrt
 exact (qi (I:=J) (w0:=w0) (F:=F) hT hF hmx c).1 ann hr.symm hS (fun J' θ' s' a' w' hk S' hJ hFr=>fin _ J' θ' s' a' w' hk S' hJ hFr) (fun i J' θ' s' a' w' hk=>by cases hk) (fun r' J' θ' s' a' w' hrt hrr hS' hJ hFr=>by
  obtain rfl:=ae hrr
  exact fin _ J' θ' s' a' w' hrt hS' hJ hFr)
theorem Js {P:Program} {k:FuncId} {f:FS} {T:Nat} (hc:NewOk P k T f) (hcl:f.cl=some (T,9)):FOk P k f:=by
 have ho:f.ov=true:=by unfold FS.ov;rw[hcl];rfl
 refine ⟨fun q hq=>?_,fun e=>(by rw[ho] at e;cases e),fun e=>(by rw[ho] at e;cases e)⟩
 rw[hcl] at hq
 obtain rfl:=ae hq
 exact ⟨⟨fun e=>(by cases e),fun _ _ _ e=>(by cases e),fun e=>(by cases e)⟩,fun e=>(by cases e),fun _=>hc⟩
end R
namespace R
open Go.RowKit
open D
def FldAll (P:Program) (T:TypeId):Nat->List (Nat×Nat)->Prop
 | _,[] =>True
 | i,q::l=>TF P T i q.1 q.2/\FldAll P T (i+1) l
theorem FldAll.get {P:Program} {T:TypeId} : ∀ {l:List (Nat×Nat)} {i:Nat},FldAll P T i l-> ∀f q,l[f]? =some q->TF P T (i+f) q.1 q.2
 | [],_,_,f,q,h=>by simp at h
 | x::l,i,⟨h1,h2⟩,f,q,h=>by
  cases f with
  | zero=>simp at h;subst h;exact h1
  | succ f =>
   have:=FldAll.get h2 f q (by simpa using h)
   rwa [show i+1+f=i+(f+1) from by omega] at this
section
variable {P:Program} {T:TypeId}
theorem mi {n b:Nat} {ty:Ty} {z:Value} {boo:Bool} {ik:Option (Option IntKind)} (h1:TI P T false 1) (h2:ty.size=1) (h3:TZ P T z 1 b) (h4:z.cells=(zeroCells ty).toArray) (h5:1<=b) (h6:boo=true->P.underlying T=some .bool) (h7: ∀k,ik=some k->P.underlying T=some (ikD k)):TDok P T ⟨false,1,none,ty,[],some b,none,boo,none,none,ik,false,none⟩:=
 ⟨h1,rfl,h2,fun E h=>by simp at h,fun f q h=>by simp at h,fun b' h=>by obtain rfl:=ae h;exact ⟨z,h3,h4,h5⟩,fun pl h=>by simp at h,h6,(fun ks h=>by cases h),(fun m h=>by cases h),h7,(fun h=>by cases h),fun e h=>by cases h⟩
theorem qk {E:TypeId} {t:Ty} (h1:TI P T false 1) (h2:P.underlying T=some (.slice E)) (h3:TZ P T (.slice none 0 0) 1 24):TDok P T ⟨false,1,some E,.sl E t,[],some 24,none,false,none,none,none,false,none⟩:=
 ⟨h1,rfl,rfl,fun E' h=>by obtain rfl:=ae h;exact h2,fun f q h=>by simp at h,fun b' h=>by obtain rfl:=ae h;exact ⟨_,h3,rfl,by decide⟩,fun pl h=>by simp at h,(fun h=>by cases h),(fun ks h=>by cases h),(fun m h=>by cases h),(fun k h=>by cases h),(fun h=>by cases h),fun e h=>by cases h⟩
theorem oU {n b:Nat} {ty:Ty} {fs pl:List (Nat×Nat)} {z:Value} {eq:Option (List (Option IntKind))} (h1:TI P T true n) (h2:ty.size=n) (h3:FldAll P T 0 fs) (h4:TZ P T z n b) (h5:z.cells=(zeroCells ty).toArray) (h6:1<=b) (h7:TB P T pl) (h8: ∀ks,eq=some ks-> ∀w,Curq ks fun xs ys r=>EqT P T (.agg xs.toArray) (.agg ys.toArray) r w):TDok P T ⟨true,n,none,ty,fs,some b,some pl,false,eq,none,none,false,none⟩:=
 ⟨h1,rfl,h2,fun E h=>by simp at h,fun f q h=>by have:=h3.get f q h;rwa [Nat.zero_add] at this,fun b' h=>by obtain rfl:=ae h;exact ⟨z,h4,h5,h6⟩,fun pl' h=>by obtain rfl:=ae h;exact h7,(fun h=>by cases h),h8,(fun m h=>by cases h),(fun k h=>by cases h),(fun h=>by cases h),fun e h=>by cases h⟩
theorem Lk {ty:Ty} {b:Nat} (h1:TI P T false 1) (h2:ty.size=1) (h3:TZ P T .nilFunc 1 b):TDok P T ⟨false,1,none,ty,[],none,none,false,none,none,none,true,none⟩:=
 ⟨h1,rfl,h2,fun E h=>by simp at h,fun f q h=>by simp at h,(fun b' h=>by cases h),(fun pl h=>by cases h),(fun h=>by cases h),(fun ks h=>by cases h),(fun m' h=>by cases h),(fun k h=>by cases h),(fun _=>⟨b,h3⟩),fun e h=>by cases h⟩
end
end R
namespace D
open Go.RowKit
abbrev Yq1:Type:=(Int×Int×Int×Int)
abbrev Yq2:Type:=(Int×(List Bool)×(List (List Int)))
abbrev Yq3:Type:=((Int×Bool)×Int×Int)
abbrev Yq4:Type:=(Yq2×Int×(List Int)×(List Int))
abbrev Yq5:Type:=(Int×(List Bool)×List (List Int))
abbrev Yq6:Type:=((List Int)×Int×Int×(List Int)×Bool)
def xB (p0code:List Int):Option Bool:=
 some (decide ((p0code.length:Int)>1048576))
def iK (p0code:List Int) (s1:Int×Int):Option (Out (Int×Int) (Int×Int)):=
 if decide (s1.2<(p0code.length:Int)) then (if decide (s1.2<4000) then ((aU p0code s1.2).bind fun x2=>some (.nxt (lZ (IntKind.i64.wrap ((IntKind.i64.wrap ((IntKind.i64.wrap (s1.1*131))+(IntKind.i64.wrap x2)))+7)) 1073741823,IntKind.i64.wrap (s1.2+1)))) else (some (.brk (s1.1,s1.2)))) else (some (.brk (s1.1,s1.2)))
def m8 (p0code:List Int):Option (Int×Int):=
 aZ (aH (iK p0code) ba (IntKind.i64.wrap (10101+(p0code.length:Int)),0)) (fun r3=>some r3) (fun s4=>some (0,s4.1))
def eJ (p0a:Int×(List Bool)×(List (List Int))) (s3:Int×Int×(List Bool)×(List (List Int))):Option (Out Yq2 (Int×Int×(List Bool)×(List (List Int)))):=
 if decide (s3.1<(p0a.2.2.length:Int)) then ((aU p0a.2.2 s3.1).bind fun x3=>(eg 8 ([] :List Int) x3).bind fun z6=>(eg 24 s3.2.2.2 ([z6])).bind fun z7=>some (.nxt (IntKind.i64.wrap (s3.1+1),s3.2.1,s3.2.2.1,z7))) else (some (.brk (s3.1,s3.2.1,s3.2.2.1,s3.2.2.2)))
def hH (p0a:Int×(List Bool)×(List (List Int))):Option Yq2:=
 (eg 1 ([] :List Bool) p0a.2.1).bind fun z1=>aZ (aH (eJ p0a) ba (0,p0a.1,z1,[])) (fun r=>some r) (fun s4=>some (s4.2.1,s4.2.2.1,s4.2.2.2))
def bP (p0g:(List Int)×(List Yq1)) (p1id:Int) (s3:Int):Option (Out Int Int):=
 if decide (s3<(p0g.2.length:Int)) then ((aU p0g.2 s3).bind fun x3=>if x3.1==p1id then (some (.ret s3)) else (some (.nxt (IntKind.i64.wrap (s3+1))))) else (some (.brk s3))
def bV (p0g:(List Int)×(List Yq1)) (p1id:Int):Option Int:=
 aZ (aH (bP p0g p1id) ba 0) (fun r=>some r) (fun s4=>some (-1))
def fJ (p0a:Int×(List Bool)×(List (List Int))) (p2v:Int) (s3:Int×Int):Option (Out Int (Int×Int)):=
 if decide (s3.1≥0) then ((chk (0<=s3.1)).bind fun _=>if (lZ (jc s3.2 s3.1) 1)==0 then ((chk (0<=s3.1)).bind fun _=>(aU p0a.2.2 s3.1).bind fun x5=>(aU x5 (IntKind.i64.wrap (6+p2v))).bind fun x6=>some (.nxt (x6,orI s3.2 (rC 1 s3.1)))) else (some (.brk (s3.1,s3.2)))) else (some (.brk (s3.1,s3.2)))
def eK (p0a:Int×(List Bool)×(List (List Int))) (p1s:Int) (p2v:Int):Option Int:=
 aZ (aH (fJ p0a p2v) ba (p1s,0)) (fun r=>some r) (fun s4=>some s4.2)
def fw (p0g:(List Int)×(List Yq1)) (p1node:Int) (s9:(List (Int×Bool))×Int):Option (Out (List (Int×Bool)) ((List (Int×Bool))×Int)):=
 if decide (s9.2<(p0g.2.length:Int)) then (Option.bind ((Option.bind (((aU p0g.2 s9.2).bind fun x33=>if x33.2.1==p1node then ((aU p0g.2 s9.2).bind fun x34=>(eg 16 s9.1 ([(x34.1,false)])).bind fun z17=>some z17) else (some s9.1):Option (List (Int×Bool)))) (fun s13=>(aU p0g.2 s9.2).bind fun x35=>if x35.2.2.1==p1node then ((aU p0g.2 s9.2).bind fun x36=>(eg 16 s13 ([(x36.1,true)])).bind fun z18=>some z18) else (some s13)):Option (List (Int×Bool)))) (fun s12=>some (.nxt (s12,IntKind.i64.wrap (s9.2+1))))) else (some (.brk (s9.1,s9.2)))
def jk (p0g:(List Int)×(List Yq1)) (p1node:Int):Option (List (Int×Bool)):=
 aZ (aH (fw p0g p1node) ba (([] :List (Int×Bool)),0)) (fun r=>some r) (fun s10=>some s10.1)
def df (p0e:Int×Int×Int×Int) (p1inverse:Bool):Option Int:=
 if p1inverse then (some (IntKind.i64.wrap ((IntKind.i64.wrap (2*p0e.2.2.2))+1))) else (some (IntKind.i64.wrap (2*p0e.2.2.2)))
def hO (p0e:Int×Int×Int×Int) (p1inverse:Bool):Option Int:=
 if p1inverse then (some p0e.2.1) else (some p0e.2.2.1)
def dK (p1:Int×(List Bool)×(List (List Int))) (r1:Int) (r2:List (Int×Bool)) (s31:(List Yq3)×Int) (x67:Int×Int×Int×Int) (s37:Int×Int):Option (Out (List Yq3) (Int×Int)):=
 if decide (s37.2<(p1.2.1.length:Int)) then (Option.bind (((aU p1.2.2 s37.2).bind fun x83=>(aU r2 s31.2).bind fun x84=>(df (x67.1,x67.2.1,x67.2.2.1,x67.2.2.2) x84.2).bind fun r53=>(aU x83 r53).bind fun x85=>(chk (0<=s37.2)).bind fun _=>if (lZ (jc r1 s37.2) 1)==1 then (if decide (x85≥0) then ((chk (0<=x85)).bind fun _=>some (orI s37.1 (rC 1 x85))) else (some s37.1)) else (some s37.1):Option Int)) (fun s39=>some (.nxt (s39,IntKind.i64.wrap (s37.2+1))))) else (some (.brk (s37.1,s37.2)))
def dL (p1:Int×(List Bool)×(List (List Int))) (r2:List (Int×Bool)) (s31:(List Yq3)×Int) (x67:Int×Int×Int×Int) (s38:Int×Int) (s44:(List Yq3)×Int):Option (Out (List Yq3) ((List Yq3)×Int)):=
 if decide (s44.2<(p1.2.1.length:Int)) then (Option.bind (((chk (0<=s44.2)).bind fun _=>if (lZ (jc s38.1 s44.2) 1)==1 then ((aU r2 s31.2).bind fun x96=>(aU r2 s31.2).bind fun x97=>(hO (x67.1,x67.2.1,x67.2.2.1,x67.2.2.2) x97.2).bind fun r59=>(eg 32 s44.1 ([((x96.1,x96.2),r59,s44.2)])).bind fun z18=>some z18) else (some s44.1):Option (List Yq3))) (fun s46=>some (.nxt (s46,IntKind.i64.wrap (s44.2+1))))) else (some (.brk (s44.1,s44.2)))
def dM (p0:(List Int)×(List Yq1)) (p1:Int×(List Bool)×(List (List Int))) (r1:Int) (r2:List (Int×Bool)) (s31:(List Yq3)×Int):Option (Out (List Yq3) ((List Yq3)×Int)):=
 if decide (s31.2<(r2.length:Int)) then ((aU r2 s31.2).bind fun x66=>(bV (p0.1,p0.2) x66.1).bind fun r41=>(aU p0.2 r41).bind fun x67=>aZ (aH (dK p1 r1 r2 s31 x67) ba (0,0)) (fun r=>some (.ret r)) (fun s38=>aZ (aH (dL p1 r2 s31 x67 s38) ba (s31.1,0)) (fun r=>some (.ret r)) (fun s45=>some (.nxt (s45.1,IntKind.i64.wrap (s31.2+1)))))) else (some (.brk (s31.1,s31.2)))
def c8 (p0:(List Int)×(List Yq1)) (p1:Int×(List Bool)×(List (List Int))) (p2:Int) (p3:Int):Option (List Yq3):=
 (aU p0.1 p2).bind fun x1=>(eK (p1.1,p1.2.1,p1.2.2) p3 x1).bind fun r1=>(jk (p0.1,p0.2) p2).bind fun r2=>aZ (aH (dM p0 p1 r1 r2) ba (([] :List Yq3),0)) (fun r=>some r) (fun s32=>some s32.1)
def dN (p0:(List Int)×(List Yq1)) (p1:Int×(List Bool)×(List (List Int))) (s3:(List Int)×Int):Option (Out (List Int) ((List Int)×Int)):=
 if decide (s3.2<IntKind.i64.wrap ((p0.1.length:Int)*(p1.2.1.length:Int))) then ((eg 8 s3.1 ([-1])).bind fun z3=>some (.nxt (z3,IntKind.i64.wrap (s3.2+1)))) else (some (.brk (s3.1,s3.2)))
def dO (p1:Int×(List Bool)×(List (List Int))) (s21:(List Int)×(List Int)×Int) (r3:List Yq3) (s27:(List Int)×(List Int)×Int):Option (Out (List Int) ((List Int)×(List Int)×Int)):=
 if decide (s27.2.2<(r3.length:Int)) then (Option.bind (((aU r3 s27.2.2).bind fun x111=>(aU r3 s27.2.2).bind fun x112=>(aU s27.1 (IntKind.i64.wrap ((IntKind.i64.wrap (x111.2.1*(p1.2.1.length:Int)))+x112.2.2))).bind fun x113=>if decide (x113<0) then ((aU s27.2.1 s21.2.2).bind fun x114=>(aU s27.1 x114).bind fun x115=>(aU s27.1 (IntKind.i64.wrap ((IntKind.i64.wrap (x111.2.1*(p1.2.1.length:Int)))+x112.2.2))).bind fun x116=>(eg 8 s27.2.1 ([IntKind.i64.wrap ((IntKind.i64.wrap (x111.2.1*(p1.2.1.length:Int)))+x112.2.2)])).bind fun z21=>some (s27.1.set (IntKind.i64.wrap ((IntKind.i64.wrap (x111.2.1*(p1.2.1.length:Int)))+x112.2.2)).toNat (IntKind.i64.wrap (x115+1)),z21)) else (some (s27.1,s27.2.1)):Option ((List Int)×(List Int)))) (fun s29=>some (.nxt (s29.1,s29.2,IntKind.i64.wrap (s27.2.2+1))))) else (some (.brk (s27.1,s27.2.1,s27.2.2)))
def dP (p0:(List Int)×(List Yq1)) (p1:Int×(List Bool)×(List (List Int))) (s21:(List Int)×(List Int)×Int):Option (Out (List Int) ((List Int)×(List Int)×Int)):=
 if decide (s21.2.2<(s21.2.1.length:Int)) then ((aU s21.2.1 s21.2.2).bind fun x79=>(chk ((p1.2.1.length:Int)≠0)).bind fun _=>(aU s21.2.1 s21.2.2).bind fun x80=>(chk ((p1.2.1.length:Int)≠0)).bind fun _=>(c8 (p0.1,p0.2) (p1.1,p1.2.1,p1.2.2) (A3 x79 (p1.2.1.length:Int)) (Int.tmod x80 (p1.2.1.length:Int))).bind fun r3=>aZ (aH (dO p1 s21 r3) ba (s21.1,s21.2.1,0)) (fun r=>some (.ret r)) (fun s28=>some (.nxt (s28.1,s28.2.1,IntKind.i64.wrap (s21.2.2+1))))) else (some (.brk (s21.1,s21.2.1,s21.2.2)))
def fZ (p0:(List Int)×(List Yq1)) (p1:Int×(List Bool)×(List (List Int))) (p2:Int):Option (List Int):=
 aZ (aH (dN p0 p1) ba (([] :List Int),0)) (fun r=>some r) (fun s4=>(aU ([IntKind.i64.wrap ((IntKind.i64.wrap (p2*(p1.2.1.length:Int)))+p1.1)]) 0).bind fun x1=>(aU s4.1 x1).bind fun x2=>aZ (aH (dP p0 p1) ba (s4.1.set x1.toNat 0,[IntKind.i64.wrap ((IntKind.i64.wrap (p2*(p1.2.1.length:Int)))+p1.1)],0)) (fun r=>some r) (fun s22=>some s22.1))
def b9 (p1:Int×(List Bool)×(List (List Int))) (s17:Int×Int×(List Bool)×(List (List Int))×Int×(List Int)×(List Int)) (r5:List Yq3) (s23:Int×Int×(List Bool)×(List (List Int))×Int×(List Int)×(List Int)):Option (Out Yq4 (Int×Int×(List Bool)×(List (List Int))×Int×(List Int)×(List Int))):=
 if decide (s23.1<(r5.length:Int)) then ((aU s23.2.2.2.2.2.1 s17.1).bind fun x106=>if decide (x106≥0) then (Option.bind (((aU r5 s23.1).bind fun x113=>(aU r5 s23.1).bind fun x114=>(aU s23.2.2.2.2.2.1 (IntKind.i64.wrap ((IntKind.i64.wrap (x113.2.1*(p1.2.1.length:Int)))+x114.2.2))).bind fun x115=>(aU s23.2.2.2.2.2.1 s17.1).bind fun x116=>if x115==(IntKind.i64.wrap (x116+1)) then ((aU s23.2.2.2.2.2.2 (IntKind.i64.wrap ((IntKind.i64.wrap (x113.2.1*(p1.2.1.length:Int)))+x114.2.2))).bind fun x117=>(aU s23.2.2.2.2.2.2 (IntKind.i64.wrap ((IntKind.i64.wrap (x113.2.1*(p1.2.1.length:Int)))+x114.2.2))).bind fun x118=>some (s23.2.1,s23.2.2.1,s23.2.2.2.1,s23.2.2.2.2.1,s23.2.2.2.2.2.1,s23.2.2.2.2.2.2.set (IntKind.i64.wrap ((IntKind.i64.wrap (x113.2.1*(p1.2.1.length:Int)))+x114.2.2)).toNat (IntKind.i64.wrap (x117+1)))) else (some (s23.2.1,s23.2.2.1,s23.2.2.2.1,s23.2.2.2.2.1,s23.2.2.2.2.2.1,s23.2.2.2.2.2.2)):Option (Int×(List Bool)×(List (List Int))×Int×(List Int)×(List Int)))) (fun s25=>some (.nxt (IntKind.i64.wrap (s23.1+1),s25.1,s25.2.1,s25.2.2.1,s25.2.2.2.1,s25.2.2.2.2.1,s25.2.2.2.2.2)))) else (some (.brk (s23.1,s23.2.1,s23.2.2.1,s23.2.2.2.1,s23.2.2.2.2.1,s23.2.2.2.2.2.1,s23.2.2.2.2.2.2)))) else (some (.brk (s23.1,s23.2.1,s23.2.2.1,s23.2.2.2.1,s23.2.2.2.2.1,s23.2.2.2.2.2.1,s23.2.2.2.2.2.2)))
def dQ (p0:(List Int)×(List Yq1)) (p1:Int×(List Bool)×(List (List Int))) (s17:Int×Int×(List Bool)×(List (List Int))×Int×(List Int)×(List Int)):Option (Out Yq4 (Int×Int×(List Bool)×(List (List Int))×Int×(List Int)×(List Int))):=
 if decide (s17.1<(s17.2.2.2.2.2.1.length:Int)) then ((chk ((p1.2.1.length:Int)≠0)).bind fun _=>(chk ((p1.2.1.length:Int)≠0)).bind fun _=>(c8 (p0.1,p0.2) (p1.1,p1.2.1,p1.2.2) (A3 s17.1 (p1.2.1.length:Int)) (Int.tmod s17.1 (p1.2.1.length:Int))).bind fun r5=>aZ (aH (b9 p1 s17 r5) ba (0,s17.2.1,s17.2.2.1,s17.2.2.2.1,s17.2.2.2.2.1,s17.2.2.2.2.2.1,s17.2.2.2.2.2.2)) (fun r=>some (.ret r)) (fun s24=>some (.nxt (IntKind.i64.wrap (s17.1+1),s24.2.1,s24.2.2.1,s24.2.2.2.1,s24.2.2.2.2.1,s24.2.2.2.2.2.1,s24.2.2.2.2.2.2)))) else (some (.brk (s17.1,s17.2.1,s17.2.2.1,s17.2.2.2.1,s17.2.2.2.2.1,s17.2.2.2.2.2.1,s17.2.2.2.2.2.2)))
def c9 (p0:(List Int)×(List Yq1)) (p1:Int×(List Bool)×(List (List Int))) (p2:Int):Option Yq4:=
 (hH (p1.1,p1.2.1,p1.2.2)).bind fun r1=>(fZ (p0.1,p0.2) (p1.1,p1.2.1,p1.2.2) p2).bind fun r2=>(mkI 8 (r2.length:Int) (0:Int)).bind fun x1=>aZ (aH (dQ p0 p1) ba (0,r1.1,r1.2.1,r1.2.2,p2,r2,x1)) (fun r=>some r) (fun s18=>some ((s18.2.1,s18.2.2.1,s18.2.2.2.1),s18.2.2.2.2.1,s18.2.2.2.2.2.1,s18.2.2.2.2.2.2))
def cK (p0x:Int) (p1low:Int) (p2high:Int):Option Bool:=
 if decide (p0x≥p1low) then (some (decide (p0x<=p2high))) else (some false)
def dw (p0a:Int×(List Bool)×(List (List Int))) (s11:Int) (s15:Int):Option (Out Bool Int):=
 if decide (s15<9) then ((aU p0a.2.2 s11).bind fun x20=>(aU x20 s15).bind fun x21=>(cK x21 (-1) (IntKind.i64.wrap ((p0a.2.1.length:Int) - 1))).bind fun r22=>if r22 then (some (.nxt (IntKind.i64.wrap (s15+1)))) else (some (.ret false))) else (some (.brk s15))
def fO (p0a:Int×(List Bool)×(List (List Int))) (s11:Int):Option (Out Bool Int):=
 if decide (s11<(p0a.2.1.length:Int)) then ((aU p0a.2.2 s11).bind fun x15=>if (x15.length:Int) !=9 then (some (.ret false)) else (aZ (aH (dw p0a s11) ba 0) (fun r=>some (.ret r)) (fun s16=>some (.nxt (IntKind.i64.wrap (s11+1)))))) else (some (.brk s11))
def hY (p0a:Int×(List Bool)×(List (List Int))):Option Bool:=
 (cK p0a.1 0 (IntKind.i64.wrap ((p0a.2.1.length:Int) - 1))).bind fun r1=>if r1 then (if (p0a.2.2.length:Int) !=(p0a.2.1.length:Int) then (some false) else (aZ (aH (fO p0a) ba 0) (fun r=>some r) (fun s12=>some true))) else (some false)
def bt (p0a:Int×(List Bool)×(List (List Int))):Option Bool:=
 if decide ((p0a.2.1.length:Int)<=12) then ((hY (p0a.1,p0a.2.1,p0a.2.2)).bind fun r1=>some r1) else (some false)
def sj (p0g:(List Int)×(List Yq1)) (p1e:Int×Int×Int×Int):Option Bool:=
 (cK p1e.1 1 99).bind fun r1=>if r1 then ((cK p1e.2.1 0 (IntKind.i64.wrap ((p0g.1.length:Int) - 1))).bind fun r2=>if r2 then ((cK p1e.2.2.1 0 (IntKind.i64.wrap ((p0g.1.length:Int) - 1))).bind fun r3=>if r3 then ((cK p1e.2.2.2 0 2).bind fun r4=>some r4) else (some false)) else (some false)) else (some false)
def hZ (p0g:(List Int)×(List Yq1)) (s3:Int):Option (Out Bool Int):=
 if decide (s3<(p0g.1.length:Int)) then ((aU p0g.1 s3).bind fun x3=>(cK x3 0 2).bind fun r3=>if r3 then (some (.nxt (IntKind.i64.wrap (s3+1)))) else (some (.ret false))) else (some (.brk s3))
def eX (p0g:(List Int)×(List Yq1)) (s7:Int):Option (Out Bool Int):=
 if decide (s7<(p0g.2.length:Int)) then ((aU p0g.2 s7).bind fun x10=>(sj (p0g.1,p0g.2) (x10.1,x10.2.1,x10.2.2.1,x10.2.2.2)).bind fun r6=>if r6 then (if decide (s7>0) then ((aU p0g.2 (IntKind.i64.wrap (s7 - 1))).bind fun x11=>(aU p0g.2 s7).bind fun x12=>if decide (x11.1≥x12.1) then (some (.ret false)) else (some (.nxt (IntKind.i64.wrap (s7+1))))) else (some (.nxt (IntKind.i64.wrap (s7+1))))) else (some (.ret false))) else (some (.brk s7))
def bQ (p0g:(List Int)×(List Yq1)):Option Bool:=
 aZ (aH (hZ p0g) ba 0) (fun r=>some r) (fun s4=>aZ (aH (eX p0g) ba 0) (fun r=>some r) (fun s8=>(cK (p0g.1.length:Int) 1 5).bind fun r7=>if r7 then (some (decide ((p0g.2.length:Int)<=12))) else (some false)))
def eY (p0g:(List Int)×(List Yq1)) (p1a:Int×(List Bool)×(List (List Int))) (p2node:Int) (p3s:Int):Option Bool:=
 (bQ (p0g.1,p0g.2)).bind fun r1=>if r1 then ((bt (p1a.1,p1a.2.1,p1a.2.2)).bind fun r2=>if r2 then ((cK p2node 0 (IntKind.i64.wrap ((p0g.1.length:Int) - 1))).bind fun r3=>if r3 then ((cK p3s 0 (IntKind.i64.wrap ((p1a.2.1.length:Int) - 1))).bind fun r4=>some r4) else (some false)) else (some false)) else (some false)
def bg (p0g:(List Int)×(List Yq1)) (p1a:Int×(List Bool)×(List (List Int))) (p2source:Int):Option (Yq4×Bool):=
 (eY (p0g.1,p0g.2) (p1a.1,p1a.2.1,p1a.2.2) p2source 0).bind fun r1=>if r1 then ((c9 (p0g.1,p0g.2) (p1a.1,p1a.2.1,p1a.2.2) p2source).bind fun r2=>some (((r2.1.1,r2.1.2.1,r2.1.2.2),r2.2.1,r2.2.2.1,r2.2.2.2),true)) else (some (((0,[],[]),0,[],[]),false))
def fe (p0c:(List Int)×Int×Int):Option (Int×Int×Int):=
 Option.bind ((if decide (p0c.2.1<(p0c.1.length:Int)) then ((aU p0c.1 p0c.2.1).bind fun x1=>some (lZ (IntKind.i64.wrap ((lZ (LY (jc (IntKind.i64.wrap ((IntKind.i64.wrap (p0c.2.2*6364136223846793005))+1442695040888963407)) 33) (jc (IntKind.i64.wrap ((IntKind.i64.wrap (p0c.2.2*6364136223846793005))+1442695040888963407)) 45)) 255)+(IntKind.i64.wrap x1))) 255,IntKind.i64.wrap (p0c.2.1+1),IntKind.i64.wrap ((IntKind.i64.wrap (p0c.2.2*6364136223846793005))+1442695040888963407))) else (some (lZ (LY (jc (IntKind.i64.wrap ((IntKind.i64.wrap (p0c.2.2*6364136223846793005))+1442695040888963407)) 33) (jc (IntKind.i64.wrap ((IntKind.i64.wrap (p0c.2.2*6364136223846793005))+1442695040888963407)) 45)) 255,p0c.2.1,IntKind.i64.wrap ((IntKind.i64.wrap (p0c.2.2*6364136223846793005))+1442695040888963407))):Option (Int×Int×Int))) (fun s2=>some (s2.1,s2.2.1,s2.2.2))
def aN (p0c:(List Int)×Int×Int) (p1n:Int):Option (Int×Int×Int):=
 if decide (p1n<=0) then (some (0,p0c.2.1,p0c.2.2)) else (if decide (p1n<=256) then ((fe (p0c.1,p0c.2.1,p0c.2.2)).bind fun r0=>(chk (p1n≠0)).bind fun _=>some (Int.tmod r0.1 p1n,r0.2.1,r0.2.2)) else ((fe (p0c.1,p0c.2.1,p0c.2.2)).bind fun r2=>(fe (p0c.1,r2.2.1,r2.2.2)).bind fun r3=>(fe (p0c.1,r3.2.1,r3.2.2)).bind fun r4=>(fe (p0c.1,r4.2.1,r4.2.2)).bind fun r5=>(chk (p1n≠0)).bind fun _=>some (Int.tmod (IntKind.i64.wrap ((IntKind.i64.wrap ((IntKind.i64.wrap ((IntKind.i64.wrap (r2.1*16777216))+(IntKind.i64.wrap (r3.1*65536))))+(IntKind.i64.wrap (r4.1*256))))+r5.1)) p1n,r5.2.1,r5.2.2)))
def aX (p0c:(List Int)×Int×Int) (p1list:List Int):Option (Int×Int×Int):=
 (aN (p0c.1,p0c.2.1,p0c.2.2) (p1list.length:Int)).bind fun r0=>(aU p1list r0.1).bind fun x1=>some (x1,r0.2.1,r0.2.2)
def dR (p0p:(List Int)×Int×Int×(List Int)×Bool) (p1set:Int) (s6:Int×Int):Option (Out Int (Int×Int)):=
 if decide (s6.2<(p0p.1.length:Int)) then (Option.bind (((chk (0<=IntKind.i64.wrap (s6.2+1))).bind fun _=>if (lZ (jc p1set (IntKind.i64.wrap (s6.2+1))) 1)==1 then ((aU p0p.2.2.2.1 s6.2).bind fun x6=>some (orI s6.1 x6)) else (some s6.1):Option Int)) (fun s8=>some (.nxt (s8,IntKind.i64.wrap (s6.2+1))))) else (some (.brk (s6.1,s6.2)))
def dS (p0p:(List Int)×Int×Int×(List Int)×Bool) (p2letter:Int) (s7:Int×Int) (s13:Int×Int):Option (Out Int (Int×Int)):=
 if decide (s13.2<(p0p.1.length:Int)) then (Option.bind (((chk (0<=s13.2)).bind fun _=>if (lZ (jc s7.1 s13.2) 1)==1 then ((aU p0p.1 s13.2).bind fun x12=>if x12==p2letter then ((chk (0<=IntKind.i64.wrap (s13.2+1))).bind fun _=>some (orI s13.1 (rC 1 (IntKind.i64.wrap (s13.2+1))))) else (some s13.1)) else (some s13.1):Option Int)) (fun s15=>some (.nxt (s15,IntKind.i64.wrap (s13.2+1))))) else (some (.brk (s13.1,s13.2)))
def iL (p0p:(List Int)×Int×Int×(List Int)×Bool) (p1set:Int) (p2letter:Int):Option Int:=
 Option.bind ((if (lZ p1set 1)==1 then (some p0p.2.1) else (some 0):Option Int)) (fun s1=>aZ (aH (dR p0p p1set) ba (s1,0)) (fun r=>some r) (fun s7=>aZ (aH (dS p0p p2letter s7) ba (0,0)) (fun r=>some r) (fun s14=>some s14.1)))
def fP (p0p:(List Int)×Int×Int×(List Int)×Bool) (p1set:Int):Option Bool:=
 if (lZ p1set 1)==1 then (if p0p.2.2.2.2 then (some true) else (some ((lZ (jc p1set 1) p0p.2.2.1) !=0))) else (some ((lZ (jc p1set 1) p0p.2.2.1) !=0))
def ja (p0l:List Int) (p1x:Int) (s3:Int):Option (Out Int Int):=
 if decide (s3<(p0l.length:Int)) then ((aU p0l s3).bind fun x3=>if x3==p1x then (some (.ret s3)) else (some (.nxt (IntKind.i64.wrap (s3+1))))) else (some (.brk s3))
def jO (p0l:List Int) (p1x:Int):Option Int:=
 aZ (aH (ja p0l p1x) ba 0) (fun r=>some r) (fun s4=>some (-1))
def cR (p0:(List Int)×Int×Int×(List Int)×Bool) (s17:(List Int)×Int×Int×(List Bool)×(List (List Int))) (s23:(List Int)×(List Int)×Int):Option (Out (Yq2×Bool) ((List Int)×(List Int)×Int)):=
 if decide (s23.2.2<9) then ((aU s23.1 s17.2.1).bind fun x11=>(iL (p0.1,p0.2.1,p0.2.2.1,p0.2.2.2.1,p0.2.2.2.2) x11 s23.2.2).bind fun r27=>Option.bind ((if r27 !=0 then ((jO s23.1 r27).bind fun r29=>if decide (r29<0) then ((eg 8 s23.1 ([r27])).bind fun z30=>some (z30,(s23.1.length:Int))) else (some (s23.1,r29))) else (some (s23.1,-1)):Option ((List Int)×Int))) (fun s25=>(eg 8 s23.2.1 ([s25.2])).bind fun z31=>some (.nxt (s25.1,z31,IntKind.i64.wrap (s23.2.2+1))))) else (some (.brk (s23.1,s23.2.1,s23.2.2)))
def cT (p0:(List Int)×Int×Int×(List Int)×Bool) (p1:Int) (s17:(List Int)×Int×Int×(List Bool)×(List (List Int))):Option (Out (Yq2×Bool) ((List Int)×Int×Int×(List Bool)×(List (List Int)))):=
 if decide (s17.2.1<(s17.1.length:Int)) then (aZ (aH (cR p0 s17) ba (s17.1,([] :List Int),0)) (fun r=>some (.ret r)) (fun s24=>if decide ((s24.1.length:Int)>p1) then (some (.ret ((0,[],[]),false))) else ((aU s24.1 s17.2.1).bind fun x12=>(fP (p0.1,p0.2.1,p0.2.2.1,p0.2.2.2.1,p0.2.2.2.2) x12).bind fun r30=>(eg 1 s17.2.2.2.1 ([r30])).bind fun z32=>(eg 24 s17.2.2.2.2 ([s24.2.1])).bind fun z33=>some (.nxt (s24.1,IntKind.i64.wrap (s17.2.1+1),s17.2.2.1,z32,z33))))) else (some (.brk (s17.1,s17.2.1,s17.2.2.1,s17.2.2.2.1,s17.2.2.2.2)))
def cF (p0:(List Int)×Int×Int×(List Int)×Bool) (p1:Int):Option (Yq2×Bool):=
 aZ (aH (cT p0 p1) ba ([1],0,0,[],[])) (fun r=>some r) (fun s18=>some ((s18.2.2.1,s18.2.2.2.1,s18.2.2.2.2),true))
def ga (p0n:Int):Option Bool:=
 (cK p0n 0 8).bind fun r1=>some r1
def ic (p0:Int×Int×Int×Int):Option Int:=
 Option.bind ((if p0.1==1 then (some (p0.1==1)) else (some (p0.1==2)):Option Bool)) (fun s1=>if s1 then (if p0.2.1 !=0 then (some (-1)) else (if p0.2.2.1 !=0 then (some (-1)) else (if p0.2.2.2 !=0 then (some (-1)) else (some 0)))) else (if p0.1==3 then ((ga p0.2.1).bind fun r3=>if r3 then (if p0.2.2.1 !=0 then (some (-1)) else (if p0.2.2.2 !=0 then (some (-1)) else (some 0))) else (some (-1))) else (Option.bind ((if p0.1==4 then (some (p0.1==4)) else (some (p0.1==5)):Option Bool)) (fun s2=>if s2 then (if p0.2.1 !=0 then (some (-1)) else (if p0.2.2.1 !=0 then (some (-1)) else (if p0.2.2.2 !=0 then (some (-1)) else (some 2)))) else (if p0.1==6 then (if p0.2.1 !=0 then (some (-1)) else (if p0.2.2.1 !=0 then (some (-1)) else (if p0.2.2.2 !=0 then (some (-1)) else (some 1)))) else (if p0.1==7 then (if p0.2.1 !=0 then (some (-1)) else ((cK p0.2.2.2 1 3).bind fun r1=>if r1 then ((cK p0.2.2.1 0 p0.2.2.2).bind fun r2=>if r2 then (some 1) else (some (-1))) else (some (-1)))) else (some (-1))))))))
def jP (p0e:(List Yq1)) (s3:Int×Int):Option (Out Bool (Int×Int)):=
 if decide (s3.2<(p0e.length:Int)) then ((aU p0e s3.2).bind fun x3=>(ic (x3.1,x3.2.1,x3.2.2.1,x3.2.2.2)).bind fun r3=>if decide (r3<0) then (some (.ret false)) else (if decide (r3>s3.1) then (some (.ret false)) else (some (.nxt (IntKind.i64.wrap ((IntKind.i64.wrap (s3.1 - r3))+1),IntKind.i64.wrap (s3.2+1)))))) else (some (.brk (s3.1,s3.2)))
def lr (p0e:(List Yq1)):Option Bool:=
 aZ (aH (jP p0e) ba (0,0)) (fun r=>some r) (fun s4=>some (s4.1==1))
def dU (p0e:(List Yq1)):Option Bool:=
 if decide ((p0e.length:Int)<=24) then ((lr p0e).bind fun r1=>some r1) else (some false)
def fQ (p0l:List Yq1) (s3:Int×Int):Option (Out Int (Int×Int)):=
 if decide (s3.1>0) then ((aU p0l (IntKind.i64.wrap (s3.2 - 1))).bind fun x3=>(ic (x3.1,x3.2.1,x3.2.2.1,x3.2.2.2)).bind fun r3=>some (.nxt (IntKind.i64.wrap ((IntKind.i64.wrap (s3.1 - 1))+r3),IntKind.i64.wrap (s3.2 - 1)))) else (some (.brk (s3.1,s3.2)))
def dV (p0l:List Yq1):Option Int:=
 aZ (aH (fQ p0l) ba (1,(p0l.length:Int))) (fun r=>some r) (fun s4=>some s4.2)
def cd:Nat->(List Yq1)->Option Int
 | 0,_=>none
 | n+1,p0l =>
  (aU p0l (IntKind.i64.wrap ((p0l.length:Int) - 1))).bind fun x0=>Option.bind ((if x0.1==4 then (some (x0.1==4)) else (some (x0.1==5)):Option Bool)) (fun s1=>if s1 then ((chk (And (0<=(IntKind.i64.wrap ((p0l.length:Int) - 1))) ((IntKind.i64.wrap ((p0l.length:Int) - 1))<=(p0l.length:Int)))).bind fun _=>(dV (p0l.take ((IntKind.i64.wrap ((p0l.length:Int) - 1)).toNat))).bind fun r3=>(chk (And (0<=r3) (r3<=(p0l.length:Int)))).bind fun _=>((cd n) (p0l.take r3.toNat)).bind fun r9=>(chk (And (0<=r3) (And (r3<=(IntKind.i64.wrap ((p0l.length:Int) - 1))) ((IntKind.i64.wrap ((p0l.length:Int) - 1))<=(p0l.length:Int))))).bind fun _=>((cd n) ((p0l.take ((IntKind.i64.wrap ((p0l.length:Int) - 1)).toNat)).drop r3.toNat)).bind fun r11=>some (Min.min 100000 (IntKind.i64.wrap ((IntKind.i64.wrap (r9+r11))+1)))) else (if x0.1==6 then ((chk (And (0<=(IntKind.i64.wrap ((p0l.length:Int) - 1))) ((IntKind.i64.wrap ((p0l.length:Int) - 1))<=(p0l.length:Int)))).bind fun _=>((cd n) (p0l.take ((IntKind.i64.wrap ((p0l.length:Int) - 1)).toNat))).bind fun r13=>some (Min.min 100000 (IntKind.i64.wrap (r13+1)))) else (if x0.1==7 then ((chk (And (0<=(IntKind.i64.wrap ((p0l.length:Int) - 1))) ((IntKind.i64.wrap ((p0l.length:Int) - 1))<=(p0l.length:Int)))).bind fun _=>((cd n) (p0l.take ((IntKind.i64.wrap ((p0l.length:Int) - 1)).toNat))).bind fun r17=>some (Min.min 100000 (IntKind.i64.wrap ((IntKind.i64.wrap ((IntKind.i64.wrap (r17+3))*x0.2.2.2))+1)))) else (some 1))))
def nX (p0l:List Yq1):Option (List Yq1):=
 (eg 32 ([] :List Yq1) p0l).bind fun z1=>some z1
def b0 (p0a:(List Yq1)) (p1b:(List Yq1)) (p2t:Int×Int×Int×Int):Option (List Yq1):=
 (nX p0a).bind fun r1=>(eg 32 r1 p1b).bind fun z1=>(eg 32 z1 ([(p2t.1,p2t.2.1,p2t.2.2.1,p2t.2.2.2)])).bind fun z2=>some z2
def gM (p0kind:Int):Option (List Yq1):=
 some ([(p0kind,0,0,0)])
def ff:Nat->(List Yq1)->Int->Int->Option (List Yq1)
 | 0,_,_,_=>none
 | n+1,p0e,p1low,p2high =>
  if p2high==0 then ((gM 2).bind fun r0=>some r0) else (((ff n) p0e (Max.max 0 (IntKind.i64.wrap (p1low - 1))) (IntKind.i64.wrap (p2high - 1))).bind fun r3=>(b0 p0e r3 (4,0,0,0)).bind fun r4=>if decide (p1low>0) then (some r4) else ((gM 2).bind fun r7=>(b0 r4 r7 (5,0,0,0)).bind fun r8=>some r8))
def br:Nat->(List Yq1)->Option (List Yq1)
 | 0,_=>none
 | n+1,p0l =>
  (aU p0l (IntKind.i64.wrap ((p0l.length:Int) - 1))).bind fun x0=>Option.bind ((if x0.1==4 then (some (x0.1==4)) else (some (x0.1==5)):Option Bool)) (fun s1=>if s1 then ((chk (And (0<=(IntKind.i64.wrap ((p0l.length:Int) - 1))) ((IntKind.i64.wrap ((p0l.length:Int) - 1))<=(p0l.length:Int)))).bind fun _=>(dV (p0l.take ((IntKind.i64.wrap ((p0l.length:Int) - 1)).toNat))).bind fun r3=>(chk (And (0<=r3) (r3<=(p0l.length:Int)))).bind fun _=>((br n) (p0l.take r3.toNat)).bind fun r10=>(chk (And (0<=r3) (And (r3<=(IntKind.i64.wrap ((p0l.length:Int) - 1))) ((IntKind.i64.wrap ((p0l.length:Int) - 1))<=(p0l.length:Int))))).bind fun _=>((br n) ((p0l.take ((IntKind.i64.wrap ((p0l.length:Int) - 1)).toNat)).drop r3.toNat)).bind fun r12=>(b0 r10 r12 (x0.1,x0.2.1,x0.2.2.1,x0.2.2.2)).bind fun r13=>some r13) else (if x0.1==6 then ((chk (And (0<=(IntKind.i64.wrap ((p0l.length:Int) - 1))) ((IntKind.i64.wrap ((p0l.length:Int) - 1))<=(p0l.length:Int)))).bind fun _=>((br n) (p0l.take ((IntKind.i64.wrap ((p0l.length:Int) - 1)).toNat))).bind fun r18=>(b0 r18 ([] :List Yq1) (x0.1,x0.2.1,x0.2.2.1,x0.2.2.2)).bind fun r19=>some r19) else (if x0.1==7 then ((chk (And (0<=(IntKind.i64.wrap ((p0l.length:Int) - 1))) ((IntKind.i64.wrap ((p0l.length:Int) - 1))<=(p0l.length:Int)))).bind fun _=>((br n) (p0l.take ((IntKind.i64.wrap ((p0l.length:Int) - 1)).toNat))).bind fun r24=>(ff iE r24 x0.2.2.1 x0.2.2.2).bind fun r25=>some r25) else (some ([(x0.1,x0.2.1,x0.2.2.1,x0.2.2.2)])))))
def fR (p0e:(List Yq1)):Option (((List Yq1))×Bool):=
 (dU p0e).bind fun r1=>if r1 then ((cd iE p0e).bind fun r2=>if decide (r2>5000) then (some ([],false)) else ((br iE p0e).bind fun r3=>if decide ((r3.length:Int)>400) then (some ([],false)) else (some (r3,true)))) else (some ([],false))
def eL (p1from:Int) (p2to:Int) (s2:Int×List Int):Option (Out Yq6 (Int×List Int)):=
 if decide (s2.1<(s2.2.length:Int)) then (Option.bind (((chk (0<=s2.1)).bind fun _=>if (lZ (jc p1from s2.1) 1)==1 then ((aU s2.2 s2.1).bind fun x6=>(aU s2.2 s2.1).bind fun x7=>some (s2.2.set s2.1.toNat (orI x6 p2to))) else (some s2.2):Option (List Int))) (fun s8=>some (.nxt (IntKind.i64.wrap (s2.1+1),s8)))) else (some (.brk (s2.1,s2.2)))
def ig (p0p:(List Int)×Int×Int×(List Int)×Bool) (p1from:Int) (p2to:Int):Option Yq6:=
 aZ (aH (eL p1from p2to) ba (0,p0p.2.2.2.1)) (fun r9=>some r9) (fun s10=>some (p0p.1,p0p.2.1,p0p.2.2.1,s10.2,p0p.2.2.2.2))
def bI:Nat->Yq6->(List Yq1)->Option ((Bool×Int×Int)×(List Int)×Int×Int×(List Int)×Bool)
 | 0,_,_=>none
 | n+1,p0,p1 =>
  (aU p1 (IntKind.i64.wrap ((p1.length:Int) - 1))).bind fun x0=>if x0.1==2 then (some ((true,0,0),p0.1,p0.2.1,p0.2.2.1,p0.2.2.2.1,p0.2.2.2.2)) else (if x0.1==3 then ((eg 8 p0.1 ([x0.2.1])).bind fun z2=>(eg 8 p0.2.2.2.1 ([0])).bind fun z3=>some ((false,rC 1 (p0.1.length:Int),rC 1 (p0.1.length:Int)),z2,p0.2.1,p0.2.2.1,z3,p0.2.2.2.2)) else (if x0.1==4 then ((chk (And (0<=(IntKind.i64.wrap ((p1.length:Int) - 1))) ((IntKind.i64.wrap ((p1.length:Int) - 1))<=(p1.length:Int)))).bind fun _=>(dV (p1.take ((IntKind.i64.wrap ((p1.length:Int) - 1)).toNat))).bind fun r5=>(chk (And (0<=r5) (r5<=(p1.length:Int)))).bind fun _=>((bI n) (p0.1,p0.2.1,p0.2.2.1,p0.2.2.2.1,p0.2.2.2.2) (p1.take r5.toNat)).bind fun r7=>(chk (And (0<=r5) (And (r5<=(IntKind.i64.wrap ((p1.length:Int) - 1))) ((IntKind.i64.wrap ((p1.length:Int) - 1))<=(p1.length:Int))))).bind fun _=>((bI n) (r7.2.1,r7.2.2.1,r7.2.2.2.1,r7.2.2.2.2.1,r7.2.2.2.2.2) ((p1.take ((IntKind.i64.wrap ((p1.length:Int) - 1)).toNat)).drop r5.toNat)).bind fun r9=>(ig (r9.2.1,r9.2.2.1,r9.2.2.2.1,r9.2.2.2.2.1,r9.2.2.2.2.2) r7.1.2.2 r9.1.2.1).bind fun r10=>if r7.1.1 then (Option.bind ((if r7.1.1 then (some (r9.1.1,orI r7.1.2.1 r9.1.2.1,r9.1.2.2)) else (some (r9.1.1,r7.1.2.1,r9.1.2.2)):Option (Bool×Int×Int))) (fun s11=>Option.bind ((if r9.1.1 then (some (s11.1,s11.2.1,orI r7.1.2.2 r9.1.2.2)) else (some (s11.1,s11.2.1,s11.2.2)):Option (Bool×Int×Int))) (fun s12=>some ((s12.1,s12.2.1,s12.2.2),r10.1,r10.2.1,r10.2.2.1,r10.2.2.2.1,r10.2.2.2.2)))) else (Option.bind ((if r7.1.1 then (some (false,orI r7.1.2.1 r9.1.2.1,r9.1.2.2)) else (some (false,r7.1.2.1,r9.1.2.2)):Option (Bool×Int×Int))) (fun s13=>Option.bind ((if r9.1.1 then (some (s13.1,s13.2.1,orI r7.1.2.2 r9.1.2.2)) else (some (s13.1,s13.2.1,s13.2.2)):Option (Bool×Int×Int))) (fun s14=>some ((s14.1,s14.2.1,s14.2.2),r10.1,r10.2.1,r10.2.2.1,r10.2.2.2.1,r10.2.2.2.2))))) else (if x0.1==5 then ((chk (And (0<=(IntKind.i64.wrap ((p1.length:Int) - 1))) ((IntKind.i64.wrap ((p1.length:Int) - 1))<=(p1.length:Int)))).bind fun _=>(dV (p1.take ((IntKind.i64.wrap ((p1.length:Int) - 1)).toNat))).bind fun r16=>(chk (And (0<=r16) (r16<=(p1.length:Int)))).bind fun _=>((bI n) (p0.1,p0.2.1,p0.2.2.1,p0.2.2.2.1,p0.2.2.2.2) (p1.take r16.toNat)).bind fun r18=>(chk (And (0<=r16) (And (r16<=(IntKind.i64.wrap ((p1.length:Int) - 1))) ((IntKind.i64.wrap ((p1.length:Int) - 1))<=(p1.length:Int))))).bind fun _=>((bI n) (r18.2.1,r18.2.2.1,r18.2.2.2.1,r18.2.2.2.2.1,r18.2.2.2.2.2) ((p1.take ((IntKind.i64.wrap ((p1.length:Int) - 1)).toNat)).drop r16.toNat)).bind fun r20=>if r18.1.1 then (some ((true,orI r18.1.2.1 r20.1.2.1,orI r18.1.2.2 r20.1.2.2),r20.2.1,r20.2.2.1,r20.2.2.2.1,r20.2.2.2.2.1,r20.2.2.2.2.2)) else (some ((r20.1.1,orI r18.1.2.1 r20.1.2.1,orI r18.1.2.2 r20.1.2.2),r20.2.1,r20.2.2.1,r20.2.2.2.1,r20.2.2.2.2.1,r20.2.2.2.2.2))) else (if x0.1==6 then ((chk (And (0<=(IntKind.i64.wrap ((p1.length:Int) - 1))) ((IntKind.i64.wrap ((p1.length:Int) - 1))<=(p1.length:Int)))).bind fun _=>((bI n) (p0.1,p0.2.1,p0.2.2.1,p0.2.2.2.1,p0.2.2.2.2) (p1.take ((IntKind.i64.wrap ((p1.length:Int) - 1)).toNat))).bind fun r22=>(ig (r22.2.1,r22.2.2.1,r22.2.2.2.1,r22.2.2.2.2.1,r22.2.2.2.2.2) r22.1.2.2 r22.1.2.1).bind fun r23=>some ((true,r22.1.2.1,r22.1.2.2),r23.1,r23.2.1,r23.2.2.1,r23.2.2.2.1,r23.2.2.2.2)) else (some ((false,0,0),p0.1,p0.2.1,p0.2.2.1,p0.2.2.2.1,p0.2.2.2.2))))))
def bJ (r0:(List Yq1)×Bool) (s2:Int×Int):Option (Out (Yq6×Bool) (Int×Int)):=
 if decide (s2.2<(r0.1.length:Int)) then (Option.bind (((aU r0.1 s2.2).bind fun x3=>if x3.1==3 then (some (IntKind.i64.wrap (s2.1+1))) else (some s2.1):Option Int)) (fun s4=>some (.nxt (s4,IntKind.i64.wrap (s2.2+1))))) else (some (.brk (s2.1,s2.2)))
def dy (p0e:List Yq1):Option (Yq6×Bool):=
 (fR p0e).bind fun r0=>if r0.2 then (aZ (aH (bJ r0) ba (0,0)) (fun r5=>some r5) (fun s6=>if decide (s6.1>20) then (some ((([] :List Int),0,0,([] :List Int),false),false)) else ((bI iE (([] :List Int),0,0,([] :List Int),false) r0.1).bind fun r7=>some ((r7.2.1,r7.1.2.1,r7.1.2.2,r7.2.2.2.2.1,r7.1.1),true)))) else (some ((([] :List Int),0,0,([] :List Int),false),false))
def cw (p0c:(List Int)×Int×Int) (p1n:Int):Option (Bool×Int×Int):=
 (aN (p0c.1,p0c.2.1,p0c.2.2) p1n).bind fun r0=>some (r0.1==0,r0.2.1,r0.2.2)
def vP (p0s:ByteArray) (p1sep:Int) (s1:(List ByteArray)×Int×Int):Option (Out (List ByteArray) ((List ByteArray)×Int×Int)):=
 if decide (s1.2.2<((p0s.size:Nat):Int)) then (Option.bind (((xj p0s s1.2.2).bind fun z2=>if z2==p1sep then ((IU p0s s1.2.1 s1.2.2).bind fun z3=>(eg 16 s1.1 ([z3])).bind fun z4=>some (z4,IntKind.i64.wrap (s1.2.2+1))) else (some (s1.1,s1.2.1)):Option ((List ByteArray)×Int))) (fun s5=>some (.nxt (s5.1,s5.2,IntKind.i64.wrap (s1.2.2+1))))) else (some (.brk (s1.1,s1.2.1,s1.2.2)))
def vQ (p0s:ByteArray) (p1sep:Int):Option (List ByteArray):=
 aZ (aH (vP p0s p1sep) ba (([] :List ByteArray),0,0)) (fun r6=>some r6) (fun s7=>(IU p0s s7.2.1 ((p0s.size:Nat):Int)).bind fun z8=>(eg 16 s7.1 ([z8])).bind fun z9=>some z9)
def gj (p0n:Int):Option ByteArray:=
 (ga p0n).bind fun r1=>if r1 then ((aU ([(⟨#[97]⟩:ByteArray),(⟨#[97,45]⟩:ByteArray),(⟨#[98]⟩:ByteArray),(⟨#[98,45]⟩:ByteArray),(⟨#[99]⟩:ByteArray),(⟨#[99,45]⟩:ByteArray),(⟨#[48]⟩:ByteArray),(⟨#[49]⟩:ByteArray),(⟨#[50]⟩:ByteArray)]) p0n).bind fun x1=>some x1) else (some (⟨#[]⟩:ByteArray))
def oV (s1:Int×ByteArray):Option (Out ByteArray (Int×ByteArray)):=
 if s1.1 !=0 then (Option.bind ((if decide ((Int.tmod s1.1 10)<0) then (some (IntKind.i64.wrap (-(Int.tmod s1.1 10)))) else (some (Int.tmod s1.1 10)):Option Int)) (fun s2=>(IT (pY ([IntKind.u8.wrap (IntKind.i64.wrap (48+s2))])) s1.2).bind fun z3=>some (.nxt (A3 s1.1 10,z3)))) else (some (.brk (s1.1,s1.2)))
def jQ (p0n:Int):Option ByteArray:=
 if p0n==0 then (some (⟨#[48]⟩)) else (aZ (aH (oV) ba (p0n,(⟨#[]⟩:ByteArray))) (fun r4=>some r4) (fun s5=>if decide (p0n<0) then ((IT (⟨#[45]⟩) s5.2).bind fun z6=>some z6) else (some s5.2)))
def ql (p0t:Int×Int×Int×Int):Option ByteArray:=
 if p0t.1==1 then (some (⟨#[33]⟩)) else (if p0t.1==2 then (some (⟨#[40,41]⟩)) else (if p0t.1==3 then ((gj p0t.2.1).bind fun r0=>some r0) else (if p0t.1==4 then (some (⟨#[46]⟩)) else (if p0t.1==5 then (some (⟨#[124]⟩)) else (if p0t.1==6 then (some (⟨#[42]⟩)) else ((jQ p0t.2.2.1).bind fun r7=>(IT (⟨#[123]⟩) r7).bind fun z8=>(IT z8 (⟨#[44]⟩)).bind fun z9=>(jQ p0t.2.2.2).bind fun r10=>(IT z9 r10).bind fun z11=>(IT z11 (⟨#[125]⟩)).bind fun z12=>some z12))))))
def m9 (p0s:ByteArray) (s3:Int):Option (Out (Int×Bool) Int):=
 if decide (s3<9) then ((gj s3).bind fun r3=>if r3==p0s then (some (.ret (s3,true))) else (some (.nxt (IntKind.i64.wrap (s3+1))))) else (some (.brk s3))
def kH (p0s:ByteArray):Option (Int×Bool):=
 aZ (aH (m9 p0s) ba 0) (fun r=>some r) (fun s4=>some (0,false))
def tS (p0s:ByteArray) (s1:Int):Option (Out Yq1 Int):=
 if decide (s1<=6) then (if s1 !=3 then ((ql (s1,0,0,0)).bind fun r2=>if r2==p0s then (some (.ret (s1,0,0,0))) else (some (.nxt (IntKind.i64.wrap (s1+1))))) else (some (.nxt (IntKind.i64.wrap (s1+1))))) else (some (.brk s1))
def sk (p0s:ByteArray):Option Yq1:=
 aZ (aH (tS p0s) ba 1) (fun r3=>some r3) (fun s4=>(kH p0s).bind fun r5=>if r5.2 then (some (3,r5.1,0,0)) else (if ((p0s.size:Nat):Int)==5 then ((xj p0s 0).bind fun z6=>if z6==123 then ((xj p0s 2).bind fun z7=>if z7==44 then ((xj p0s 4).bind fun z8=>if z8==125 then ((xj p0s 1).bind fun z11=>(xj p0s 3).bind fun z12=>some (7,0,IntKind.i64.wrap ((IntKind.i64.wrap z11) - 48),IntKind.i64.wrap ((IntKind.i64.wrap z12) - 48))) else (some (0,0,0,0))) else (some (0,0,0,0))) else (some (0,0,0,0))) else (some (0,0,0,0))))
def oW (r1:List ByteArray) (s3:Int×(List Yq1)):Option (Out (((List Yq1))×Bool) (Int×(List Yq1))):=
 if decide (s3.1<(r1.length:Int)) then (if decide (s3.1<=24) then ((aU r1 s3.1).bind fun x3=>(sk x3).bind fun r4=>(eg 32 s3.2 ([(r4.1,r4.2.1,r4.2.2.1,r4.2.2.2)])).bind fun z3=>some (.nxt (IntKind.i64.wrap (s3.1+1),z3))) else (some (.brk (s3.1,s3.2)))) else (some (.brk (s3.1,s3.2)))
def eA (p0s:ByteArray):Option (((List Yq1))×Bool):=
 (vQ p0s 32).bind fun r1=>aZ (aH (oW r1) ba (0,[])) (fun r=>some r) (fun s4=>(dU s4.2).bind fun r5=>if r5 then (some (s4.2,true)) else (some ([],false)))
def lu (p0c:(List Int)×Int×Int) (p1list:List ByteArray):Option (ByteArray×Int×Int):=
 (aN (p0c.1,p0c.2.1,p0c.2.2) (p1list.length:Int)).bind fun r0=>(aU p1list r0.1).bind fun x1=>some (x1,r0.2.1,r0.2.2)
def jR (p0c:(List Int)×Int×Int):Option ((List Yq1)×Int×Int):=
 (lu (p0c.1,p0c.2.1,p0c.2.2) ([⟨#[97]⟩,⟨#[97,32,98,32,46]⟩,⟨#[97,32,42]⟩,⟨#[97,32,98,32,124,32,42]⟩,⟨#[97,32,97,45,32,46]⟩,⟨#[97,32,42,32,98,32,46]⟩,⟨#[97,32,98,32,42,32,46,32,99,32,46]⟩,⟨#[97,32,97,32,124,32,42]⟩,⟨#[97,32,98,32,46,32,42]⟩,⟨#[48,32,97,32,46,32,42]⟩,⟨#[97,32,49,32,46,32,98,32,46]⟩,⟨#[97,32,123,48,44,50,125]⟩,⟨#[97,32,98,32,124,32,123,49,44,51,125]⟩,⟨#[40,41]⟩,⟨#[33]⟩,⟨#[97,45,32,42,32,97,32,46]⟩,⟨#[97,32,98,45,32,46,32,42,32,99,32,124]⟩,⟨#[97,32,42,32,97,32,42,32,46]⟩,⟨#[97,32,48,32,124,32,42,32,98,32,46]⟩,⟨#[97,32,97,32,46,32,42]⟩,⟨#[97,32,98,32,46,32,98,32,97,32,46,32,124,32,42]⟩])).bind fun r0=>(eA r0.1).bind fun r1=>some (r1.1,r0.2.1,r0.2.2)
def lL (p0letter:Int):Option (List Yq1):=
 some ([(3,p0letter,0,0)])
def bM:Nat->((List Int)×Int×Int)->Int->Option ((List Yq1)×Int×Int)
 | 0,_,_=>none
 | n+1,p0,p1 =>
  if p1==0 then ((cw (p0.1,p0.2.1,p0.2.2) 12).bind fun r0=>if r0.1 then ((aX (p0.1,r0.2.1,r0.2.2) ([1,2])).bind fun r1=>(gM r1.1).bind fun r2=>some (r2,r1.2.1,r1.2.2)) else ((aX (p0.1,r0.2.1,r0.2.2) ([0,0,2,2,1,4,3,6,7])).bind fun r3=>(lL r3.1).bind fun r4=>some (r4,r3.2.1,r3.2.2))) else ((aN (p0.1,p0.2.1,p0.2.2) 6).bind fun r5=>Option.bind ((if r5.1==0 then (some (r5.1==0)) else (some (r5.1==1)):Option Bool)) (fun s6=>if s6 then (((bM n) (p0.1,r5.2.1,r5.2.2) (IntKind.i64.wrap (p1 - 1))).bind fun r7=>((bM n) (p0.1,r7.2.1,r7.2.2) (IntKind.i64.wrap (p1 - 1))).bind fun r8=>(b0 r7.1 r8.1 (4,0,0,0)).bind fun r9=>some (r9,r8.2.1,r8.2.2)) else (Option.bind ((if r5.1==2 then (some (r5.1==2)) else (some (r5.1==3)):Option Bool)) (fun s10=>if s10 then (((bM n) (p0.1,r5.2.1,r5.2.2) (IntKind.i64.wrap (p1 - 1))).bind fun r11=>((bM n) (p0.1,r11.2.1,r11.2.2) (IntKind.i64.wrap (p1 - 1))).bind fun r12=>(b0 r11.1 r12.1 (5,0,0,0)).bind fun r13=>some (r13,r12.2.1,r12.2.2)) else (if r5.1==4 then (((bM n) (p0.1,r5.2.1,r5.2.2) (IntKind.i64.wrap (p1 - 1))).bind fun r14=>(b0 r14.1 ([] :List Yq1) (6,0,0,0)).bind fun r15=>some (r15,r14.2.1,r14.2.2)) else ((aN (p0.1,r5.2.1,r5.2.2) 3).bind fun r16=>((bM n) (p0.1,r16.2.1,r16.2.2) (IntKind.i64.wrap (p1 - 1))).bind fun r17=>(aN (p0.1,r17.2.1,r17.2.2) (IntKind.i64.wrap ((IntKind.i64.wrap (1+r16.1))+1))).bind fun r18=>(b0 r17.1 ([] :List Yq1) (7,0,r18.1,IntKind.i64.wrap (1+r16.1))).bind fun r19=>some (r19,r18.2.1,r18.2.2)))))))
def lx (p0c:(List Int)×Int×Int):Option ((List Yq1)×Int×Int):=
 (cw (p0c.1,p0c.2.1,p0c.2.2) 2).bind fun r0=>if r0.1 then ((jR (p0c.1,r0.2.1,r0.2.2)).bind fun r1=>some (r1.1,r1.2.1,r1.2.2)) else ((aN (p0c.1,r0.2.1,r0.2.2) 3).bind fun r2=>(bM iE (p0c.1,r2.2.1,r2.2.2) (IntKind.i64.wrap (1+r2.1))).bind fun r3=>some (r3.1,r3.2.1,r3.2.2))
def dk (p0c:(List Int)×Int×Int) (r0:Int×Int×Int) (s6:(List Int)×Int×Int×Int):Option (Out (Yq5×Int×Int) ((List Int)×Int×Int×Int)):=
 if decide (s6.2.1<9) then ((cw (p0c.1,s6.2.2.1,s6.2.2.2) 3).bind fun r7=>Option.bind ((if r7.1 then (some ((-1),r7.2.1,r7.2.2)) else ((aN (p0c.1,r7.2.1,r7.2.2) (IntKind.i64.wrap (1+r0.1))).bind fun r8=>some (r8.1,r8.2.1,r8.2.2)):Option (Int×Int×Int))) (fun s9=>Option.bind ((if decide (s6.2.1>3) then (some (-1)) else (some s9.1):Option Int)) (fun s10=>(eg 8 s6.1 ([s10])).bind fun z11=>some (.nxt (z11,IntKind.i64.wrap (s6.2.1+1),s9.2.1,s9.2.2))))) else (some (.brk (s6.1,s6.2.1,s6.2.2.1,s6.2.2.2)))
def eQ (p0c:(List Int)×Int×Int) (r0:Int×Int×Int) (s4:Int×Int×(List Bool)×(List (List Int))×Int×Int):Option (Out (Yq5×Int×Int) (Int×Int×(List Bool)×(List (List Int))×Int×Int)):=
 if decide (s4.1<(IntKind.i64.wrap (1+r0.1))) then (aZ (aH (dk p0c r0) ba (([] :List Int),0,s4.2.2.2.2.1,s4.2.2.2.2.2)) (fun r12=>some (.ret r12)) (fun s13=>(cw (p0c.1,s13.2.2.1,s13.2.2.2) 3).bind fun r16=>(eg 1 s4.2.2.1 ([r16.1])).bind fun z17=>(eg 24 s4.2.2.2.1 ([s13.1])).bind fun z18=>some (.nxt (IntKind.i64.wrap (s4.1+1),s4.2.1,z17,z18,r16.2.1,r16.2.2)))) else (some (.brk (s4.1,s4.2.1,s4.2.2.1,s4.2.2.2.1,s4.2.2.2.2.1,s4.2.2.2.2.2)))
def fx (p0c:(List Int)×Int×Int):Option (Yq5×Int×Int):=
 (aN (p0c.1,p0c.2.1,p0c.2.2) 4).bind fun r0=>(aN (p0c.1,r0.2.1,r0.2.2) (IntKind.i64.wrap (1+r0.1))).bind fun r1=>aZ (aH (eQ p0c r0) ba (0,r1.1,([] :List Bool),([] :List (List Int)),r1.2.1,r1.2.2)) (fun r19=>some r19) (fun s20=>some ((s20.2.1,s20.2.2.1,s20.2.2.2.1),s20.2.2.2.2.1,s20.2.2.2.2.2))
def jl (p0c:(List Int)×Int×Int):Option (Yq5×Int×Int):=
 (cw (p0c.1,p0c.2.1,p0c.2.2) 3).bind fun r0=>if r0.1 then ((fx (p0c.1,r0.2.1,r0.2.2)).bind fun r1=>some ((r1.1.1,r1.1.2.1,r1.1.2.2),r1.2.1,r1.2.2)) else ((lx (p0c.1,r0.2.1,r0.2.2)).bind fun r2=>(dy r2.1).bind fun r3=>(cF (r3.1.1,r3.1.2.1,r3.1.2.2.1,r3.1.2.2.2.1,r3.1.2.2.2.2) 12).bind fun r4=>if r4.2 then (some ((r4.1.1,r4.1.2.1,r4.1.2.2),r2.2.1,r2.2.2)) else ((fx (p0c.1,r2.2.1,r2.2.2)).bind fun r5=>some ((r5.1.1,r5.1.2.1,r5.1.2.2),r5.2.1,r5.2.2)))
def jm (p0c:(List Int)×Int×Int):Option (Yq5×Int×Int):=
 (jl (p0c.1,p0c.2.1,p0c.2.2)).bind fun r0=>(aN (p0c.1,r0.2.1,r0.2.2) 14).bind fun r1=>Option.bind ((if r1.1==0 then ((aX (p0c.1,r1.2.1,r1.2.2) ([(-1),12,1])).bind fun r2=>some (r2.2.1,r2.2.2,r2.1,r0.1.2.1,r0.1.2.2)) else (if r1.1==1 then ((eg 1 r0.1.2.1 ([true])).bind fun z3=>some (r1.2.1,r1.2.2,r0.1.1,z3,r0.1.2.2)) else (if r1.1==2 then ((aU r0.1.2.2 0).bind fun x7=>(aX (p0c.1,r1.2.1,r1.2.2) ([(-2),12,0])).bind fun r8=>(aU x7 0).bind fun x9=>some (r8.2.1,r8.2.2,r0.1.1,r0.1.2.1,r0.1.2.2.set 0 (x7.set 0 r8.1))) else (if r1.1==3 then ((aU r0.1.2.2 0).bind fun x14=>(chk (And ((0:Int)<=8) (8<=(x14.length:Int)))).bind fun _=>(aU r0.1.2.2 0).bind fun x16=>(chk (0<((r0.1.2.2.set 0 ([] :List Int)).length:Int))).bind fun _=>some (r1.2.1,r1.2.2,r0.1.1,r0.1.2.1,r0.1.2.2.set 0 (x14.take 8))) else (some (r1.2.1,r1.2.2,r0.1.1,r0.1.2.1,r0.1.2.2))))):Option (Int×Int×Int×(List Bool)×List (List Int)))) (fun s18=>some ((s18.2.2.1,s18.2.2.2.1,s18.2.2.2.2),s18.1,s18.2.1))
def eM (p0c:(List Int)×Int×Int) (s3:Int×Int×Int×(List Int)×List Yq1):Option (Out (((List Int)×List Yq1)×Int×Int) (Int×Int×Int×(List Int)×List Yq1)):=
 if decide (s3.1>0) then ((aN (p0c.1,s3.2.1,s3.2.2.1) 3).bind fun r6=>(eg 8 s3.2.2.2.1 ([r6.1])).bind fun z7=>some (.nxt (IntKind.i64.wrap (s3.1 - 1),r6.2.1,r6.2.2,z7,s3.2.2.2.2))) else (some (.brk (s3.1,s3.2.1,s3.2.2.1,s3.2.2.2.1,s3.2.2.2.2)))
def fS (p0c:(List Int)×Int×Int) (s14:Int×Int×Int×Int×(List Int)×List Yq1):Option (Out (((List Int)×List Yq1)×Int×Int) (Int×Int×Int×Int×(List Int)×List Yq1)):=
 if decide (s14.2.1>0) then ((aN (p0c.1,s14.2.2.1,s14.2.2.2.1) 3).bind fun r15=>(aN (p0c.1,r15.2.1,r15.2.2) (s14.2.2.2.2.1.length:Int)).bind fun r20=>(aN (p0c.1,r20.2.1,r20.2.2) (s14.2.2.2.2.1.length:Int)).bind fun r21=>(aX (p0c.1,r21.2.1,r21.2.2) ([0,0,1,2])).bind fun r22=>(eg 32 s14.2.2.2.2.2 ([(IntKind.i64.wrap ((IntKind.i64.wrap (s14.1+1))+r15.1),r20.1,r21.1,r22.1)])).bind fun z23=>some (.nxt (IntKind.i64.wrap ((IntKind.i64.wrap (s14.1+1))+r15.1),IntKind.i64.wrap (s14.2.1 - 1),r22.2.1,r22.2.2,s14.2.2.2.2.1,z23))) else (some (.brk (s14.1,s14.2.1,s14.2.2.1,s14.2.2.2.1,s14.2.2.2.2.1,s14.2.2.2.2.2)))
def ij (p0c:(List Int)×Int×Int):Option (((List Int)×List Yq1)×Int×Int):=
 (aX (p0c.1,p0c.2.1,p0c.2.2) ([2,3,4,4,5])).bind fun r0=>aZ (aH (eM p0c) ba (r0.1,r0.2.1,r0.2.2,([] :List Int),([] :List Yq1))) (fun r8=>some r8) (fun s9=>(aX (p0c.1,s9.2.1,s9.2.2.1) ([4,8,11])).bind fun r10=>(aN (p0c.1,r10.2.1,r10.2.2) r10.1).bind fun r11=>aZ (aH (fS p0c) ba (0,r11.1,r11.2.1,r11.2.2,s9.2.2.2.1,s9.2.2.2.2)) (fun r24=>some r24) (fun s25=>some ((s25.2.2.2.2.1,s25.2.2.2.2.2),s25.2.2.1,s25.2.2.2.1)))
def kI (p0c:(List Int)×Int×Int):Option (((List Int)×List Yq1)×Int×Int):=
 (ij (p0c.1,p0c.2.1,p0c.2.2)).bind fun r0=>(aN (p0c.1,r0.2.1,r0.2.2) 14).bind fun r1=>Option.bind ((if r1.1==0 then ((aX (p0c.1,r1.2.1,r1.2.2) ([(-1),3,2])).bind fun r4=>(aU r0.1.1 0).bind fun x5=>some (r4.2.1,r4.2.2,r0.1.1.set 0 r4.1,r0.1.2)) else (if r1.1==1 then ((aX (p0c.1,r1.2.1,r1.2.2) ([0,1,99,100])).bind fun r11=>(aN (p0c.1,r11.2.1,r11.2.2) 6).bind fun r12=>(aN (p0c.1,r12.2.1,r12.2.2) 6).bind fun r13=>(aN (p0c.1,r13.2.1,r13.2.2) 4).bind fun r14=>(eg 32 r0.1.2 ([(r11.1,r12.1,r13.1,r14.1)])).bind fun z15=>some (r14.2.1,r14.2.2,r0.1.1,z15)) else (if r1.1==2 then (some (r1.2.1,r1.2.2,([] :List Int),r0.1.2)) else (some (r1.2.1,r1.2.2,r0.1.1,r0.1.2)))):Option (Int×Int×(List Int)×List Yq1))) (fun s16=>some ((s16.2.2.1,s16.2.2.2),s16.1,s16.2.1))
def jS (p0c:(List Int)×Int×Int):Option (((List Int)×List Yq1)×Yq5×Int×Int):=
 (ij (p0c.1,p0c.2.1,p0c.2.2)).bind fun r0=>(jl (p0c.1,r0.2.1,r0.2.2)).bind fun r1=>(cw (p0c.1,r1.2.1,r1.2.2) 16).bind fun r2=>Option.bind ((if r2.1 then ((kI (p0c.1,r2.2.1,r2.2.2)).bind fun r3=>some (r3.2.1,r3.2.2,r3.1.1,r3.1.2)) else (some (r2.2.1,r2.2.2,r0.1.1,r0.1.2)):Option (Int×Int×(List Int)×List Yq1))) (fun s4=>(cw (p0c.1,s4.1,s4.2.1) 16).bind fun r5=>Option.bind ((if r5.1 then ((jm (p0c.1,r5.2.1,r5.2.2)).bind fun r6=>some (r6.2.1,r6.2.2,r6.1.1,r6.1.2.1,r6.1.2.2)) else (some (r5.2.1,r5.2.2,r1.1.1,r1.1.2.1,r1.1.2.2)):Option (Int×Int×Int×(List Bool)×List (List Int)))) (fun s7=>some ((s4.2.2.1,s4.2.2.2),(s7.2.2.1,s7.2.2.2.1,s7.2.2.2.2),s7.1,s7.2.1)))
def jn (p0c:(List Int)×Int×Int) (p1g:(List Int)×List Yq1):Option (Int×Int×Int):=
 (cw (p0c.1,p0c.2.1,p0c.2.2) 14).bind fun r0=>if r0.1 then ((aX (p0c.1,r0.2.1,r0.2.2) ([(-1),5,9223372036854775807])).bind fun r1=>some (r1.1,r1.2.1,r1.2.2)) else ((aN (p0c.1,r0.2.1,r0.2.2) (Max.max 1 (p1g.1.length:Int))).bind fun r2=>some (r2.1,r2.2.1,r2.2.2))
def jT (p0:(List Int)×Int×Int):Option (((List Int)×List Yq1)×(Yq5×Int×(List Int)×List Int)×Int×Int):=
 (jS (p0.1,p0.2.1,p0.2.2)).bind fun r0=>(jn (p0.1,r0.2.2.1,r0.2.2.2) (r0.1.1,r0.1.2)).bind fun r3=>(bg (r0.1.1,r0.1.2) (r0.2.1.1,r0.2.1.2.1,r0.2.1.2.2) r3.1).bind fun r4=>(aN (p0.1,r3.2.1,r3.2.2) 16).bind fun r5=>Option.bind ((if r5.1==0 then (if decide ((r4.1.2.2.1.length:Int)>0) then ((aN (p0.1,r5.2.1,r5.2.2) (r4.1.2.2.1.length:Int)).bind fun r9=>(aX (p0.1,r9.2.1,r9.2.2) ([(-1),0,1,3])).bind fun r10=>(aU r4.1.2.2.1 r9.1).bind fun x11=>some (r10.2.1,r10.2.2,r4.1.1.1,r4.1.1.2.1,r4.1.1.2.2,r4.1.2.1,r4.1.2.2.1.set r9.1.toNat r10.1,r4.1.2.2.2)) else (some (r5.2.1,r5.2.2,r4.1.1.1,r4.1.1.2.1,r4.1.1.2.2,r4.1.2.1,r4.1.2.2.1,r4.1.2.2.2))) else (if r5.1==1 then (if decide ((r4.1.2.2.2.length:Int)>0) then ((aN (p0.1,r5.2.1,r5.2.2) (r4.1.2.2.2.length:Int)).bind fun r15=>(aX (p0.1,r15.2.1,r15.2.2) ([0,1,2])).bind fun r16=>(aU r4.1.2.2.2 r15.1).bind fun x17=>some (r16.2.1,r16.2.2,r4.1.1.1,r4.1.1.2.1,r4.1.1.2.2,r4.1.2.1,r4.1.2.2.1,r4.1.2.2.2.set r15.1.toNat r16.1)) else (some (r5.2.1,r5.2.2,r4.1.1.1,r4.1.1.2.1,r4.1.1.2.2,r4.1.2.1,r4.1.2.2.1,r4.1.2.2.2))) else (if r5.1==2 then (some (r5.2.1,r5.2.2,r4.1.1.1,r4.1.1.2.1,r4.1.1.2.2,IntKind.i64.wrap (r4.1.2.1+1),r4.1.2.2.1,r4.1.2.2.2)) else (some (r5.2.1,r5.2.2,r4.1.1.1,r4.1.1.2.1,r4.1.1.2.2,r4.1.2.1,r4.1.2.2.1,r4.1.2.2.2)))):Option (Int×Int×Int×(List Bool)×(List (List Int))×Int×(List Int)×List Int))) (fun s18=>some ((r0.1.1,r0.1.2),((s18.2.2.1,s18.2.2.2.1,s18.2.2.2.2.1),s18.2.2.2.2.2.1,s18.2.2.2.2.2.2.1,s18.2.2.2.2.2.2.2),s18.1,s18.2.1))
def na (p0c:(List Int)×Int×Int) (p1g:(List Int)×List Yq1):Option (Int×Int×Int):=
 if decide ((p1g.2.length:Int)>0) then ((cw (p0c.1,p0c.2.1,p0c.2.2) 6).bind fun r0=>if r0.1 then ((aX (p0c.1,r0.2.1,r0.2.2) ([0,1,50,(-1)])).bind fun r5=>some (r5.1,r5.2.1,r5.2.2)) else ((aN (p0c.1,r0.2.1,r0.2.2) (p1g.2.length:Int)).bind fun r3=>(aU p1g.2 r3.1).bind fun x4=>some (x4.1,r3.2.1,r3.2.2))) else ((aX (p0c.1,p0c.2.1,p0c.2.2) ([0,1,50,(-1)])).bind fun r6=>some (r6.1,r6.2.1,r6.2.2))
def dz (p0code:List Int):Option (((List Int)×List Yq1)×(Yq5×Int×(List Int)×List Int)×Int):=
 (m8 p0code).bind fun r0=>(jT (p0code,r0.1,r0.2)).bind fun r1=>(na (p0code,r1.2.2.1,r1.2.2.2) (r1.1.1,r1.1.2)).bind fun r3=>some ((r1.1.1,r1.1.2),((r1.2.1.1.1,r1.2.1.1.2.1,r1.2.1.1.2.2),r1.2.1.2.1,r1.2.1.2.2.1,r1.2.1.2.2.2),r3.1)
def cy (p0l:List Int):Option (List Int):=
 (eg 8 ([] :List Int) p0l).bind fun z1=>some z1
def gA (p0g:(List Int)×(List Yq1)):Option ((List Int)×(List Yq1)):=
 (cy p0g.1).bind fun r1=>(eg 32 ([] :List Yq1) p0g.2).bind fun z1=>some (r1,z1)
def cf (p0s:List Yq1) (p1f:Yq1->Option Bool) (s3:Int):Option (Out Int Int):=
 if decide (s3<(p0s.length:Int)) then ((aU p0s s3).bind fun x3=>(p1f (x3.1,x3.2.1,x3.2.2.1,x3.2.2.2)).bind fun r3=>if r3 then (some (.ret s3)) else (some (.nxt (IntKind.i64.wrap (s3+1))))) else (some (.brk s3))
def bz (p0s:List Yq1) (p1f:Yq1->Option Bool):Option Int:=
 aZ (aH (cf p0s p1f) ba 0) (fun r=>some r) (fun s4=>some (-1))
def il (p0e:Int×Int×Int×Int) (q0:Int):Option Bool:=
 some (p0e.1==q0)
def gB (p0g:(List Int)×(List Yq1)) (p1id:Int):Option Int:=
 (bz p0g.2 (fun a0=>il a0 p1id)).bind fun r1=>some r1
def bN (p0n:Int) (p1a:Int) (p2b:Int):Option Bool:=
 if decide (p0n≥p1a) then (some (decide (p0n<=p2b))) else (some false)
def jo (p0e:Int×Int×Int×Int) (p1nodes:Int):Option Bool:=
 (bN p0e.1 1 99).bind fun r1=>if r1 then ((bN p0e.2.1 0 (IntKind.i64.wrap (p1nodes - 1))).bind fun r2=>if r2 then ((bN p0e.2.2.1 0 (IntKind.i64.wrap (p1nodes - 1))).bind fun r3=>if r3 then ((bN p0e.2.2.2 0 2).bind fun r4=>some r4) else (some false)) else (some false)) else (some false)
def cg (p0g:(List Int)×(List Yq1)) (s3:Int):Option (Out Bool Int):=
 if decide (s3<(p0g.1.length:Int)) then ((aU p0g.1 s3).bind fun x3=>(bN x3 0 2).bind fun r3=>if r3 then (some (.nxt (IntKind.i64.wrap (s3+1)))) else (some (.ret false))) else (some (.brk s3))
def bA (p0g:(List Int)×(List Yq1)) (s7:Int):Option (Out Bool Int):=
 if decide (s7<(p0g.2.length:Int)) then ((aU p0g.2 s7).bind fun x8=>(jo (x8.1,x8.2.1,x8.2.2.1,x8.2.2.2) (p0g.1.length:Int)).bind fun r6=>if r6 then (if decide (s7>0) then ((aU p0g.2 (IntKind.i64.wrap (s7 - 1))).bind fun x9=>if decide (x9.1≥x8.1) then (some (.ret false)) else (some (.nxt (IntKind.i64.wrap (s7+1))))) else (some (.nxt (IntKind.i64.wrap (s7+1))))) else (some (.ret false))) else (some (.brk s7))
def bf (p0g:(List Int)×(List Yq1)):Option Bool:=
 aZ (aH (cg p0g) ba 0) (fun r=>some r) (fun s4=>aZ (aH (bA p0g) ba 0) (fun r=>some r) (fun s8=>(bN (p0g.1.length:Int) 1 5).bind fun r7=>if r7 then (some (decide ((p0g.2.length:Int)<=12))) else (some false)))
def bp (p0:List Yq1) (p1 p2:Int):Option (List Yq1):=R.Mk p0 p1 p2
def fT (p0g:(List Int)×List Yq1) (p1id:Int):Option (((List Int)×List Yq1)×Bool):=
 (gA (p0g.1,p0g.2)).bind fun r0=>(gB (p0g.1,p0g.2) p1id).bind fun r1=>if decide (r1<0) then (some ((r0.1,r0.2),false)) else ((bf (p0g.1,p0g.2)).bind fun r2=>if r2 then ((bp r0.2 r1 (IntKind.i64.wrap (r1+1))).bind fun r3=>some ((r0.1,r3),true)) else (some ((r0.1,r0.2),false)))
def bU (p0a:Int×(List Bool)×(List (List Int))) (s3:Int×Int×(List Bool)×(List (List Int))):Option (Out Yq2 (Int×Int×(List Bool)×(List (List Int)))):=
 if decide (s3.1<(p0a.2.2.length:Int)) then ((aU p0a.2.2 s3.1).bind fun x3=>(cy x3).bind fun r6=>(eg 24 s3.2.2.2 ([r6])).bind fun z4=>some (.nxt (IntKind.i64.wrap (s3.1+1),s3.2.1,s3.2.2.1,z4))) else (some (.brk (s3.1,s3.2.1,s3.2.2.1,s3.2.2.2)))
def bB (p0a:Int×(List Bool)×(List (List Int))):Option Yq2:=
 (eg 1 ([] :List Bool) p0a.2.1).bind fun z1=>aZ (aH (bU p0a) ba (0,p0a.1,z1,[])) (fun r=>some r) (fun s4=>some (s4.2.1,s4.2.2.1,s4.2.2.2))
def kJ (p0e:Int×Int×Int×Int) (p1inverse:Bool):Option Int:=
 if p1inverse then (some (IntKind.i64.wrap ((IntKind.i64.wrap (2*p0e.2.2.2))+1))) else (some (IntKind.i64.wrap (2*p0e.2.2.2)))
def im (p0g:(List Int)×List Yq1) (s3:Int×List (List Yq3)):Option (Out (List (List Yq3)) (Int×List (List Yq3))):=
 if decide (s3.1<(p0g.2.length:Int)) then ((aU p0g.2 s3.1).bind fun x4=>(aU s3.2 x4.2.1).bind fun x11=>(kJ (x4.1,x4.2.1,x4.2.2.1,x4.2.2.2) false).bind fun r12=>(eg 32 x11 ([((x4.1,false),r12,x4.2.2.1)])).bind fun z13=>(aU s3.2 x4.2.1).bind fun x14=>(chk (x4.2.1<((s3.2.set x4.2.1.toNat ([] :List Yq3)).length:Int))).bind fun _=>(chk (x4.2.1=x4.2.1)).bind fun _=>(aU (s3.2.set x4.2.1.toNat z13) x4.2.2.1).bind fun x23=>(kJ (x4.1,x4.2.1,x4.2.2.1,x4.2.2.2) true).bind fun r24=>(eg 32 x23 ([((x4.1,true),r24,x4.2.1)])).bind fun z25=>(aU (s3.2.set x4.2.1.toNat z13) x4.2.2.1).bind fun x26=>(chk (x4.2.2.1<(((s3.2.set x4.2.1.toNat z13).set x4.2.2.1.toNat ([] :List Yq3)).length:Int))).bind fun _=>(chk (x4.2.2.1=x4.2.2.1)).bind fun _=>some (.nxt (IntKind.i64.wrap (s3.1+1),(s3.2.set x4.2.1.toNat z13).set x4.2.2.1.toNat z25))) else (some (.brk (s3.1,s3.2)))
def nc (p0g:(List Int)×List Yq1):Option (List (List Yq3)):=
 (mkI 24 (p0g.1.length:Int) ([] :List Yq3)).bind fun z0=>aZ (aH (im p0g) ba (0,z0)) (fun r29=>some r29) (fun s30=>some s30.2)
def jb (p0set:Int) (s5:(List Int)×Int):Option (Out (List Int) ((List Int)×Int)):=
 (chk (0<=s5.2)).bind fun _=>if (jc p0set s5.2) !=0 then (Option.bind (((chk (0<=s5.2)).bind fun _=>if (lZ (jc p0set s5.2) 1)==1 then ((eg 8 s5.1 ([s5.2])).bind fun z6=>some z6) else (some s5.1):Option (List Int))) (fun s7=>some (.nxt (s7,IntKind.i64.wrap (s5.2+1))))) else (some (.brk (s5.1,s5.2)))
def fK (p0set:Int):Option (List Int):=
 aZ (aH (jb p0set) ba (([] :List Int),0)) (fun r=>some r) (fun s6=>some s6.1)
def kK (p0n:Int):Option Bool:=
 (bN p0n 0 8).bind fun r1=>some r1
def bc (p0a:Int×(List Bool)×(List (List Int))) (p1s:Int) (p2letter:Int):Option Int:=
 if decide (p1s<0) then (some (-1)) else ((kK p2letter).bind fun r1=>if r1 then ((aU p0a.2.2 p1s).bind fun x1=>(aU x1 p2letter).bind fun x2=>some x2) else (some (-1)))
def bG (p0a:Int×(List Bool)×(List (List Int))) (p2value:Int) (s3:Int×Int):Option (Out Int (Int×Int)):=
 if decide (s3.2≥0) then ((chk (0<=s3.2)).bind fun _=>if (lZ (jc s3.1 s3.2) 1)==0 then ((chk (0<=s3.2)).bind fun _=>(bc (p0a.1,p0a.2.1,p0a.2.2) s3.2 (IntKind.i64.wrap (6+p2value))).bind fun r3=>some (.nxt (orI s3.1 (rC 1 s3.2),r3))) else (some (.brk (s3.1,s3.2)))) else (some (.brk (s3.1,s3.2)))
def dW (p0a:Int×(List Bool)×(List (List Int))) (p1state:Int) (p2value:Int):Option Int:=
 aZ (aH (bG p0a p2value) ba (0,p1state)) (fun r=>some r) (fun s4=>some s4.1)
def gb (p0a:Int×(List Bool)×(List (List Int))) (p3letter:Int) (r19:List Int) (s23:Int×Int):Option (Out Int (Int×Int)):=
 if decide (s23.2<(r19.length:Int)) then (Option.bind (((aU r19 s23.2).bind fun x21=>(bc (p0a.1,p0a.2.1,p0a.2.2) x21 p3letter).bind fun r25=>if decide (r25≥0) then ((chk (0<=r25)).bind fun _=>some (orI s23.1 (rC 1 r25))) else (some s23.1):Option Int)) (fun s25=>some (.nxt (s25,IntKind.i64.wrap (s23.2+1))))) else (some (.brk (s23.1,s23.2)))
def dX (p0a:Int×(List Bool)×(List (List Int))) (p2value:Int) (p3letter:Int) (r1:List Int) (s17:Int×Int):Option (Out Int (Int×Int)):=
 if decide (s17.2<(r1.length:Int)) then ((aU r1 s17.2).bind fun x15=>(dW (p0a.1,p0a.2.1,p0a.2.2) x15 p2value).bind fun r18=>(fK r18).bind fun r19=>aZ (aH (gb p0a p3letter r19) ba (s17.1,0)) (fun r=>some (.ret r)) (fun s24=>some (.nxt (s24.1,IntKind.i64.wrap (s17.2+1))))) else (some (.brk (s17.1,s17.2)))
def kL (p0a:Int×(List Bool)×(List (List Int))) (p1set:Int) (p2value:Int) (p3letter:Int):Option Int:=
 (fK p1set).bind fun r1=>aZ (aH (dX p0a p2value p3letter r1) ba (0,0)) (fun r=>some r) (fun s18=>some s18.1)
def bC (p1:Int×(List Bool)×List (List Int)) (s4:Int×List (List Int)) (s7:Int×List (List Int)) (x10:(Int×Bool)×Int×Int) (r18:List Int) (s20:Int×List (List Int)):Option (Out (List (List Int)) (Int×List (List Int))):=
 if decide (s20.1<(r18.length:Int)) then ((aU r18 s20.1).bind fun x21=>(aU s20.2 (IntKind.i64.wrap ((IntKind.i64.wrap (s4.1*(p1.2.1.length:Int)))+s7.1))).bind fun x27=>(eg 8 x27 ([IntKind.i64.wrap ((IntKind.i64.wrap (x10.2.2*(p1.2.1.length:Int)))+x21)])).bind fun z28=>(aU s20.2 (IntKind.i64.wrap ((IntKind.i64.wrap (s4.1*(p1.2.1.length:Int)))+s7.1))).bind fun x29=>(chk ((IntKind.i64.wrap ((IntKind.i64.wrap (s4.1*(p1.2.1.length:Int)))+s7.1))<((s20.2.set ((IntKind.i64.wrap ((IntKind.i64.wrap (s4.1*(p1.2.1.length:Int)))+s7.1)).toNat) ([] :List Int)).length:Int))).bind fun _=>(chk ((IntKind.i64.wrap ((IntKind.i64.wrap (s4.1*(p1.2.1.length:Int)))+s7.1))=(IntKind.i64.wrap ((IntKind.i64.wrap (s4.1*(p1.2.1.length:Int)))+s7.1)))).bind fun _=>some (.nxt (IntKind.i64.wrap (s20.1+1),s20.2.set ((IntKind.i64.wrap ((IntKind.i64.wrap (s4.1*(p1.2.1.length:Int)))+s7.1)).toNat) z28))) else (some (.brk (s20.1,s20.2)))
def cj (p0:(List Int)×List Yq1) (p1:Int×(List Bool)×List (List Int)) (s4:Int×List (List Int)) (x5:List Yq3) (s7:Int×List (List Int)) (s9:Int×List (List Int)):Option (Out (List (List Int)) (Int×List (List Int))):=
 if decide (s9.1<(x5.length:Int)) then ((aU x5 s9.1).bind fun x10=>(chk (0<=s7.1)).bind fun _=>(aU p0.1 s4.1).bind fun x16=>(kL (p1.1,p1.2.1,p1.2.2) (rC 1 s7.1) x16 x10.2.1).bind fun r17=>(fK r17).bind fun r18=>aZ (aH (bC p1 s4 s7 x10 r18) ba (0,s9.2)) (fun r32=>some (.ret r32)) (fun s33=>some (.nxt (IntKind.i64.wrap (s9.1+1),s33.2)))) else (some (.brk (s9.1,s9.2)))
def cm (p0:(List Int)×List Yq1) (p1:Int×(List Bool)×List (List Int)) (s4:Int×List (List Int)) (x5:List Yq3) (s7:Int×List (List Int)):Option (Out (List (List Int)) (Int×List (List Int))):=
 if decide (s7.1<(p1.2.1.length:Int)) then (aZ (aH (cj p0 p1 s4 x5 s7) ba (0,s7.2)) (fun r34=>some (.ret r34)) (fun s35=>some (.nxt (IntKind.i64.wrap (s7.1+1),s35.2)))) else (some (.brk (s7.1,s7.2)))
def dg (p0:(List Int)×List Yq1) (p1:Int×(List Bool)×List (List Int)) (r1:List (List Yq3)) (s4:Int×List (List Int)):Option (Out (List (List Int)) (Int×List (List Int))):=
 if decide (s4.1<(r1.length:Int)) then ((aU r1 s4.1).bind fun x5=>aZ (aH (cm p0 p1 s4 x5) ba (0,s4.2)) (fun r36=>some (.ret r36)) (fun s37=>some (.nxt (IntKind.i64.wrap (s4.1+1),s37.2)))) else (some (.brk (s4.1,s4.2)))
def bw (p0:(List Int)×List Yq1) (p1:Int×(List Bool)×List (List Int)):Option (List (List Int)):=
 (mkI 24 (IntKind.i64.wrap ((p1.2.1.length:Int)*(p0.1.length:Int))) ([] :List Int)).bind fun z0=>(nc (p0.1,p0.2)).bind fun r1=>aZ (aH (dg p0 p1 r1) ba (0,z0)) (fun r38=>some r38) (fun s39=>some s39.2)
def bh (p0a:Int×(List Bool)×(List (List Int))) (x9:List Int) (s15:Int):Option (Out Bool Int):=
 if decide (s15<(x9.length:Int)) then ((aU x9 s15).bind fun x12=>(bN x12 (-1) (IntKind.i64.wrap ((p0a.2.1.length:Int) - 1))).bind fun r14=>if r14 then (some (.nxt (IntKind.i64.wrap (s15+1)))) else (some (.ret false))) else (some (.brk s15))
def bW (p0a:Int×(List Bool)×(List (List Int))) (s11:Int):Option (Out Bool Int):=
 if decide (s11<(p0a.2.2.length:Int)) then ((aU p0a.2.2 s11).bind fun x9=>aZ (aH (bh p0a x9) ba 0) (fun r=>some (.ret r)) (fun s16=>if (x9.length:Int) !=9 then (some (.ret false)) else (some (.nxt (IntKind.i64.wrap (s11+1)))))) else (some (.brk s11))
def bu (p0a:Int×(List Bool)×(List (List Int))):Option Bool:=
 (bN (p0a.2.1.length:Int) 1 12).bind fun r1=>if r1 then ((bN p0a.1 0 (IntKind.i64.wrap ((p0a.2.1.length:Int) - 1))).bind fun r2=>if r2 then (if (p0a.2.2.length:Int) !=(p0a.2.1.length:Int) then (some false) else (aZ (aH (bW p0a) ba 0) (fun r=>some r) (fun s12=>some true))) else (some false)) else (some false)
def gC (p0g:(List Int)×(List Yq1)) (p2nodes:List Int) (s3:Int):Option (Out Bool Int):=
 if decide (s3<(p2nodes.length:Int)) then ((aU p2nodes s3).bind fun x3=>(bN x3 0 (IntKind.i64.wrap ((p0g.1.length:Int) - 1))).bind fun r3=>if r3 then (some (.nxt (IntKind.i64.wrap (s3+1)))) else (some (.ret false))) else (some (.brk s3))
def cU (p0g:(List Int)×(List Yq1)) (p1a:Int×(List Bool)×(List (List Int))) (p2nodes:List Int):Option Bool:=
 aZ (aH (gC p0g p2nodes) ba 0) (fun r=>some r) (fun s4=>(bf (p0g.1,p0g.2)).bind fun r4=>if r4 then ((bu (p1a.1,p1a.2.1,p1a.2.2)).bind fun r5=>some r5) else (some false))
def mj (p0x:Int) (p1y:Int):Option (Int×Int):=
 some (IntKind.u32.wrap (jc (IntKind.u64.wrap ((IntKind.u64.wrap p0x)*(IntKind.u64.wrap p1y))) 32),IntKind.u32.wrap (IntKind.u64.wrap ((IntKind.u64.wrap p0x)*(IntKind.u64.wrap p1y))))
def iq (p0x:Int) (p1y:Int):Option (Int×Int):=
 some (IntKind.u64.wrap ((IntKind.u64.wrap ((IntKind.u64.wrap ((jc p0x 32)*(jc p1y 32)))+(jc (IntKind.u64.wrap ((IntKind.u64.wrap ((jc p0x 32)*(DP p1y 4294967295)))+(jc (IntKind.u64.wrap ((DP p0x 4294967295)*(DP p1y 4294967295))) 32))) 32)))+(jc (IntKind.u64.wrap ((DP (IntKind.u64.wrap ((IntKind.u64.wrap ((jc p0x 32)*(DP p1y 4294967295)))+(jc (IntKind.u64.wrap ((DP p0x 4294967295)*(DP p1y 4294967295))) 32))) 4294967295)+(IntKind.u64.wrap ((DP p0x 4294967295)*(jc p1y 32))))) 32)),IntKind.u64.wrap (p0x*p1y))
def jq (p0x:Int) (p1y:Int):Option (Int×Int):=
 (iq p0x p1y).bind fun r1=>some (r1.1,r1.2)
def gf (s4:Int×List Int):Option (Out (List Int) (Int×List Int)):=
 if decide (s4.1<(s4.2.length:Int)) then ((chk (And (0<=s4.1) (s4.1<=(s4.2.length:Int)))).bind fun _=>(chk (And (0<=s4.1) (s4.1<=(s4.2.length:Int)))).bind fun _=>(chk (And (0<=s4.1) (s4.1<=(s4.2.length:Int)))).bind fun _=>(chk (And (0<=s4.1) (s4.1<=(s4.2.length:Int)))).bind fun _=>some (.nxt (IntKind.i64.wrap (s4.1+((Min.min ((s4.2.take s4.1.toNat).length) (s4.2.length - s4.1.toNat):Nat):Int)),qY s4.2 s4.1.toNat (s4.2.take s4.1.toNat)))) else (some (.brk (s4.1,s4.2)))
def bs (p0x:List Int) (p1count:Int):Option (List Int):=
 if decide (p1count<0) then (none) else ((jq (IntKind.u64.wrap (p0x.length:Int)) (IntKind.u64.wrap p1count)).bind fun r0=>if decide (r0.1>0) then (none) else (if decide (r0.2>9223372036854775807) then (none) else ((mkI 8 (IntKind.i64.wrap r0.2) 0).bind fun z1=>aZ (aH (gf) ba (((Min.min p0x.length (z1.length - 0):Nat):Int),qY z1 0 p0x)) (fun r13=>some r13) (fun s14=>some s14.2))))
def bX (p1:List Int) (s3:(List Int)×Int×List Int):Option (Out (List Int) ((List Int)×Int×List Int)):=
 if decide (s3.2.1<(p1.length:Int)) then ((aU p1 s3.2.1).bind fun x4=>(aU s3.2.2 x4).bind fun x5=>(eg 8 s3.1 ([x4])).bind fun z6=>some (.nxt (z6,IntKind.i64.wrap (s3.2.1+1),s3.2.2.set x4.toNat 0))) else (some (.brk (s3.1,s3.2.1,s3.2.2)))
def bY (x13:List Int) (s15:(List Int)×Int×List Int):Option (Out (List Int) ((List Int)×Int×List Int)):=
 if decide (s15.2.1<(x13.length:Int)) then (Option.bind (((aU x13 s15.2.1).bind fun x16=>(aU s15.2.2 x16).bind fun x17=>if decide (x17<0) then ((aU s15.1 0).bind fun x18=>(aU s15.2.2 x18).bind fun x19=>(aU s15.2.2 x16).bind fun x20=>(eg 8 s15.1 ([x16])).bind fun z21=>some (z21,s15.2.2.set x16.toNat (IntKind.i64.wrap (x19+1)))) else (some (s15.1,s15.2.2)):Option ((List Int)×List Int))) (fun s22=>some (.nxt (s22.1,IntKind.i64.wrap (s15.2.1+1),s22.2)))) else (some (.brk (s15.1,s15.2.1,s15.2.2)))
def cz (p0:List (List Int)) (s11:(List Int)×List Int):Option (Out (List Int) ((List Int)×List Int)):=
 if decide ((s11.1.length:Int)>0) then ((aU s11.1 0).bind fun x12=>(aU p0 x12).bind fun x13=>aZ (aH (bY x13) ba (s11.1,0,s11.2)) (fun r23=>some (.ret r23)) (fun s24=>(chk (And ((0:Int)<=1) (1<=(s24.1.length:Int)))).bind fun _=>some (.nxt (s24.1.drop 1,s24.2.2)))) else (some (.brk (s11.1,s11.2)))
def gN (p0:List (List Int)) (p1:List Int):Option (List Int):=
 (bs ([(-1)]) (p0.length:Int)).bind fun r0=>aZ (aH (bX p1) ba (([] :List Int),0,r0)) (fun r7=>some r7) (fun s8=>aZ (aH (cz p0) ba (s8.1,s8.2.2)) (fun r26=>some r26) (fun s27=>some s27.2))
def b7 (p0g:(List Int)×List Yq1) (p1a:Int×(List Bool)×List (List Int)) (p2source:Int):Option (List Int):=
 (cU (p0g.1,p0g.2) (p1a.1,p1a.2.1,p1a.2.2) ([p2source])).bind fun r0=>if r0 then ((bw (p0g.1,p0g.2) (p1a.1,p1a.2.1,p1a.2.2)).bind fun r3=>(gN r3 ([IntKind.i64.wrap ((IntKind.i64.wrap (p2source*(p1a.2.1.length:Int)))+p1a.1)])).bind fun r4=>((chk (0<(r4.length:Int))).bind fun _=>some r4).bind fun r6=>some r6) else (some ([] :List Int))
def dm (r0:List Int) (s9:Int×List Int) (x10:List Int) (s12:Int×List Int):Option (Out ((Yq5×Int×(List Int)×List Int)×Bool) (Int×List Int)):=
 if decide (s12.1<(x10.length:Int)) then (Option.bind (((aU x10 s12.1).bind fun x13=>(aU r0 s9.1).bind fun x17=>if decide (x17≥0) then ((aU r0 s9.1).bind fun x18=>(aU r0 x13).bind fun x19=>if x18==(IntKind.i64.wrap (x19 - 1)) then ((aU s12.2 x13).bind fun x20=>(aU s12.2 x13).bind fun x21=>some (s12.2.set x13.toNat (IntKind.i64.wrap (x20+1)))) else (some s12.2)) else (some s12.2):Option (List Int))) (fun s22=>some (.nxt (IntKind.i64.wrap (s12.1+1),s22)))) else (some (.brk (s12.1,s12.2)))
def dn (r0:List Int) (r6:List (List Int)) (s9:Int×List Int):Option (Out ((Yq5×Int×(List Int)×List Int)×Bool) (Int×List Int)):=
 if decide (s9.1<(r6.length:Int)) then ((aU r6 s9.1).bind fun x10=>aZ (aH (dm r0 s9 x10) ba (0,s9.2)) (fun r23=>some (.ret r23)) (fun s24=>some (.nxt (IntKind.i64.wrap (s9.1+1),s24.2)))) else (some (.brk (s9.1,s9.2)))
def a8 (p0:(List Int)×List Yq1) (p1:Int×(List Bool)×List (List Int)) (p2:Int):Option ((Yq5×Int×(List Int)×List Int)×Bool):=
 (b7 (p0.1,p0.2) (p1.1,p1.2.1,p1.2.2) p2).bind fun r0=>if decide ((r0.length:Int)=0) then (some (((0,([] :List Bool),([] :List (List Int))),0,([] :List Int),([] :List Int)),false)) else ((chk (0<(r0.length:Int))).bind fun _=>(bB (p1.1,p1.2.1,p1.2.2)).bind fun r4=>(mkI 8 (r0.length:Int) 0).bind fun z5=>(bw (p0.1,p0.2) (p1.1,p1.2.1,p1.2.2)).bind fun r6=>aZ (aH (dn r0 r6) ba (0,z5)) (fun r25=>some r25) (fun s26=>some (((r4.1,r4.2.1,r4.2.2),p2,r0,s26.2),true)))
def bj (p0s1:List Bool) (p1s2:List Bool) (s3:Int):Option (Out Bool Int):=
 if decide (s3<(p0s1.length:Int)) then ((aU p0s1 s3).bind fun x5=>(aU p1s2 s3).bind fun x6=>if x5 !=x6 then (some (.ret false)) else (some (.nxt (IntKind.i64.wrap (s3+1))))) else (some (.brk s3))
def bZ (p0s1:List Bool) (p1s2:List Bool):Option Bool:=
 if (p0s1.length:Int) !=(p1s2.length:Int) then (some false) else (aZ (aH (bj p0s1 p1s2) ba 0) (fun r=>some r) (fun s4=>some true))
def aO (p0s1:List (List Int)) (p1s2:List (List Int)) (p2eq:(List Int)->(List Int)->Option Bool) (s3:Int):Option (Out Bool Int):=
 if decide (s3<(p0s1.length:Int)) then ((aU p0s1 s3).bind fun x5=>(aU p1s2 s3).bind fun x6=>(p2eq x5 x6).bind fun r9=>if r9 then (some (.nxt (IntKind.i64.wrap (s3+1)))) else (some (.ret false))) else (some (.brk s3))
def aY (p0s1:List (List Int)) (p1s2:List (List Int)) (p2eq:(List Int)->(List Int)->Option Bool):Option Bool:=
 if (p0s1.length:Int) !=(p1s2.length:Int) then (some false) else (aZ (aH (aO p0s1 p1s2 p2eq) ba 0) (fun r=>some r) (fun s4=>some true))
def bq (p0s1:List Int) (p1s2:List Int) (s3:Int):Option (Out Bool Int):=
 if decide (s3<(p0s1.length:Int)) then ((aU p0s1 s3).bind fun x5=>(aU p1s2 s3).bind fun x6=>if x5 !=x6 then (some (.ret false)) else (some (.nxt (IntKind.i64.wrap (s3+1))))) else (some (.brk s3))
def bm (p0s1:List Int) (p1s2:List Int):Option Bool:=
 if (p0s1.length:Int) !=(p1s2.length:Int) then (some false) else (aZ (aH (bq p0s1 p1s2) ba 0) (fun r=>some r) (fun s4=>some true))
def dh (p0x:List Int) (p1y:List Int):Option Bool:=
 (bm p0x p1y).bind fun r1=>some r1
def cV (p0a:Int×(List Bool)×(List (List Int))) (p1b:Int×(List Bool)×(List (List Int))):Option Bool:=
 if p0a.1==p1b.1 then ((bZ p0a.2.1 p1b.2.1).bind fun r1=>if r1 then ((aY p0a.2.2 p1b.2.2 (fun a0 a1=>dh a0 a1)).bind fun r2=>some r2) else (some false)) else (some false)
def eN (p0a:Yq2×Int×(List Int)×(List Int)) (p1b:Yq2×Int×(List Int)×(List Int)):Option Bool:=
 (cV (p0a.1.1,p0a.1.2.1,p0a.1.2.2) (p1b.1.1,p1b.1.2.1,p1b.1.2.2)).bind fun r1=>if r1 then (if p0a.2.1==p1b.2.1 then ((bm p0a.2.2.1 p1b.2.2.1).bind fun r2=>if r2 then ((bm p0a.2.2.2 p1b.2.2.2).bind fun r3=>some r3) else (some false)) else (some false)) else (some false)
def cn (p0g:(List Int)×(List Yq1)) (p1v:Yq2×Int×(List Int)×(List Int)):Option Bool:=
 (a8 (p0g.1,p0g.2) (p1v.1.1,p1v.1.2.1,p1v.1.2.2) p1v.2.1).bind fun r1=>if r1.2 then ((eN ((r1.1.1.1,r1.1.1.2.1,r1.1.1.2.2),r1.1.2.1,r1.1.2.2.1,r1.1.2.2.2) ((p1v.1.1,p1v.1.2.1,p1v.1.2.2),p1v.2.1,p1v.2.2.1,p1v.2.2.2)).bind fun r2=>some r2) else (some false)
def fg (p0v:Yq2×Int×(List Int)×(List Int)):Option Yq4:=
 (bB (p0v.1.1,p0v.1.2.1,p0v.1.2.2)).bind fun r1=>(cy p0v.2.2.1).bind fun r2=>(cy p0v.2.2.2).bind fun r3=>some ((r1.1,r1.2.1,r1.2.2),p0v.2.1,r2,r3)
def jr (p0old:(List Int)×(List Yq1)) (p1v:Yq2×Int×(List Int)×(List Int)) (p2g:(List Int)×(List Yq1)) (p3ok:Bool):Option (Yq4×Bool):=
 if p3ok then ((cn (p0old.1,p0old.2) ((p1v.1.1,p1v.1.2.1,p1v.1.2.2),p1v.2.1,p1v.2.2.1,p1v.2.2.2)).bind fun r2=>if r2 then ((a8 (p2g.1,p2g.2) (p1v.1.1,p1v.1.2.1,p1v.1.2.2) p1v.2.1).bind fun r4=>some (((r4.1.1.1,r4.1.1.2.1,r4.1.1.2.2),r4.1.2.1,r4.1.2.2.1,r4.1.2.2.2),r4.2)) else ((fg ((p1v.1.1,p1v.1.2.1,p1v.1.2.2),p1v.2.1,p1v.2.2.1,p1v.2.2.2)).bind fun r3=>some (((r3.1.1,r3.1.2.1,r3.1.2.2),r3.2.1,r3.2.2.1,r3.2.2.2),false))) else ((fg ((p1v.1.1,p1v.1.2.1,p1v.1.2.2),p1v.2.1,p1v.2.2.1,p1v.2.2.2)).bind fun r1=>some (((r1.1.1,r1.1.2.1,r1.1.2.2),r1.2.1,r1.2.2.1,r1.2.2.2),false))
def cq (p0g:(List Int)×(List Yq1)) (p1v:Yq2×Int×(List Int)×(List Int)) (p2id:Int):Option (Yq4×Bool):=
 (fT (p0g.1,p0g.2) p2id).bind fun r1=>(jr (p0g.1,p0g.2) ((p1v.1.1,p1v.1.2.1,p1v.1.2.2),p1v.2.1,p1v.2.2.1,p1v.2.2.2) (r1.1.1,r1.1.2) r1.2).bind fun r2=>some (((r2.1.1.1,r2.1.1.2.1,r2.1.1.2.2),r2.1.2.1,r2.1.2.2.1,r2.1.2.2.2),r2.2)
def eB (p1v:Yq2×Int×(List Int)×(List Int)) (r1:Yq4×Bool) (s5:(List Int)×Int):Option (Out (List Int) ((List Int)×Int)):=
 if decide (s5.2<(p1v.2.2.1.length:Int)) then (Option.bind (((aU p1v.2.2.1 s5.2).bind fun x11=>(aU r1.1.2.2.1 s5.2).bind fun x12=>if x11 !=x12 then ((eg 8 s5.1 ([s5.2])).bind fun z6=>some z6) else (some s5.1):Option (List Int))) (fun s7=>some (.nxt (s7,IntKind.i64.wrap (s5.2+1))))) else (some (.brk (s5.1,s5.2)))
def fU (p0g:(List Int)×(List Yq1)) (p1v:Yq2×Int×(List Int)×(List Int)) (p2id:Int):Option (List Int):=
 (cq (p0g.1,p0g.2) ((p1v.1.1,p1v.1.2.1,p1v.1.2.2),p1v.2.1,p1v.2.2.1,p1v.2.2.2) p2id).bind fun r1=>if r1.2 then (aZ (aH (eB p1v r1) ba (([] :List Int),0)) (fun r=>some r) (fun s6=>some s6.1)) else (some ([]))
def dY (p0a:List Int) (p1b:List Int) (s3:Int):Option (Out Bool Int):=
 if decide (s3<(p0a.length:Int)) then ((aU p0a s3).bind fun x5=>(aU p1b s3).bind fun x6=>if x5 !=x6 then (some (.ret false)) else (some (.nxt (IntKind.i64.wrap (s3+1))))) else (some (.brk s3))
def iM (p0a:List Int) (p1b:List Int):Option Bool:=
 if (p0a.length:Int) !=(p1b.length:Int) then (some false) else (aZ (aH (dY p0a p1b) ba 0) (fun r=>some r) (fun s4=>some true))
def iN (p0a:List Int) (p1b:List Int) (s3:Int):Option (Out Int Int):=
 if decide (s3<(p0a.length:Int)) then (if decide (s3<(p1b.length:Int)) then ((aU p0a s3).bind fun x9=>(aU p1b s3).bind fun x10=>if decide (x9<x10) then (some (.ret (-1))) else ((aU p0a s3).bind fun x11=>(aU p1b s3).bind fun x12=>if decide (x11>x12) then (some (.ret 1)) else (some (.nxt (IntKind.i64.wrap (s3+1)))))) else (some (.brk s3))) else (some (.brk s3))
def jt (p0a:List Int) (p1b:List Int):Option Int:=
 aZ (aH (iN p0a p1b) ba 0) (fun r=>some r) (fun s4=>if decide ((p0a.length:Int)<(p1b.length:Int)) then (some (-1)) else (if decide ((p0a.length:Int)>(p1b.length:Int)) then (some 1) else (some 0)))
def cL (p0:Int×(List Bool)×(List (List Int))) (p1:Int×(List Bool)×(List (List Int))) (s3:Int):Option (Out Bool Int):=
 if decide (s3<(p0.2.1.length:Int)) then ((aU p0.2.1 s3).bind fun x5=>(aU p1.2.1 s3).bind fun x6=>if x5 !=x6 then (some (.ret false)) else (some (.nxt (IntKind.i64.wrap (s3+1))))) else (some (.brk s3))
def cM (p0:Int×(List Bool)×(List (List Int))) (p1:Int×(List Bool)×(List (List Int))) (s7:Int):Option (Out Bool Int):=
 if decide (s7<(p0.2.2.length:Int)) then ((aU p0.2.2 s7).bind fun x11=>(aU p1.2.2 s7).bind fun x12=>(jt x11 x12).bind fun r9=>if r9 !=0 then (some (.ret false)) else (some (.nxt (IntKind.i64.wrap (s7+1))))) else (some (.brk s7))
def cW (p0:Int×(List Bool)×(List (List Int))) (p1:Int×(List Bool)×(List (List Int))):Option Bool:=
 if p0.1 !=p1.1 then (some false) else (if (p0.2.1.length:Int) !=(p1.2.1.length:Int) then (some false) else (if (p0.2.2.length:Int) !=(p1.2.2.length:Int) then (some false) else (aZ (aH (cL p0 p1) ba 0) (fun r=>some r) (fun s4=>aZ (aH (cM p0 p1) ba 0) (fun r=>some r) (fun s8=>some true)))))
def eO (p0a:Yq2×Int×(List Int)×(List Int)) (p1b:Yq2×Int×(List Int)×(List Int)):Option Bool:=
 (cW (p0a.1.1,p0a.1.2.1,p0a.1.2.2) (p1b.1.1,p1b.1.2.1,p1b.1.2.2)).bind fun r1=>if r1 then (if p0a.2.1==p1b.2.1 then ((jt p0a.2.2.1 p1b.2.2.1).bind fun r2=>if r2==0 then ((jt p0a.2.2.2 p1b.2.2.2).bind fun r3=>some (r3==0)) else (some false)) else (some false)) else (some false)
def cX (p0g:(List Int)×(List Yq1)) (p1v:Yq2×Int×(List Int)×(List Int)):Option Bool:=
 (bg (p0g.1,p0g.2) (p1v.1.1,p1v.1.2.1,p1v.1.2.2) p1v.2.1).bind fun r1=>if r1.2 then ((eO ((r1.1.1.1,r1.1.1.2.1,r1.1.1.2.2),r1.1.2.1,r1.1.2.2.1,r1.1.2.2.2) ((p1v.1.1,p1v.1.2.1,p1v.1.2.2),p1v.2.1,p1v.2.2.1,p1v.2.2.2)).bind fun r2=>some r2) else (some false)
def ju (p0g:(List Int)×(List Yq1)):Option ((List Int)×(List Yq1)):=
 (eg 8 ([] :List Int) p0g.1).bind fun z1=>(eg 32 ([] :List Yq1) p0g.2).bind fun z2=>some (z1,z2)
def fV (p0g:(List Int)×(List Yq1)) (p1id:Int):Option (((List Int)×(List Yq1))×Bool):=
 (bV (p0g.1,p0g.2) p1id).bind fun r1=>(bQ (p0g.1,p0g.2)).bind fun r2=>if r2 then (if decide (r1<0) then ((ju (p0g.1,p0g.2)).bind fun r4=>some ((r4.1,r4.2),false)) else ((eg 8 ([] :List Int) p0g.1).bind fun z1=>(chk (0<=r1/\r1<=(p0g.2.length:Int))).bind fun _=>(eg 32 ([] :List Yq1) (p0g.2.take r1.toNat)).bind fun z2=>(chk (0<=IntKind.i64.wrap (r1+1)/\IntKind.i64.wrap (r1+1)<=(p0g.2.length:Int))).bind fun _=>(eg 32 z2 (p0g.2.drop (IntKind.i64.wrap (r1+1)).toNat)).bind fun z3=>some ((z1,z3),true))) else ((ju (p0g.1,p0g.2)).bind fun r3=>some ((r3.1,r3.2),false))
def eC (p1v:Yq2×Int×(List Int)×(List Int)) (r3:Yq2×Int×(List Int)×(List Int)) (s5:(List Int)×Int):Option (Out (List Int) ((List Int)×Int)):=
 if decide (s5.2<(p1v.2.2.1.length:Int)) then (Option.bind (((aU r3.2.2.1 s5.2).bind fun x11=>(aU p1v.2.2.1 s5.2).bind fun x12=>if x11 !=x12 then ((eg 8 s5.1 ([s5.2])).bind fun z6=>some z6) else (some s5.1):Option (List Int))) (fun s7=>some (.nxt (s7,IntKind.i64.wrap (s5.2+1))))) else (some (.brk (s5.1,s5.2)))
def fW (p0g:(List Int)×(List Yq1)) (p1v:Yq2×Int×(List Int)×(List Int)) (p2id:Int):Option (List Int):=
 (fV (p0g.1,p0g.2) p2id).bind fun r1=>if r1.2 then ((cX (p0g.1,p0g.2) ((p1v.1.1,p1v.1.2.1,p1v.1.2.2),p1v.2.1,p1v.2.2.1,p1v.2.2.2)).bind fun r2=>if r2 then ((c9 (r1.1.1,r1.1.2) (p1v.1.1,p1v.1.2.1,p1v.1.2.2) p1v.2.1).bind fun r3=>aZ (aH (eC p1v r3) ba (([] :List Int),0)) (fun r=>some r) (fun s6=>some s6.1)) else (some ([] :List Int))) else (some ([] :List Int))
def j8 (p1:Yq2×Int×(List Int)×(List Int)) (r1:Yq4×Bool) (s3:Int):Option (Out Int Int):=
 if decide (s3<(r1.1.2.2.1.length:Int)) then ((aU r1.1.2.2.1 s3).bind fun x9=>(aU p1.2.2.1 s3).bind fun x10=>if x9 !=x10 then (some (.ret s3)) else ((aU r1.1.2.2.2 s3).bind fun x11=>(aU p1.2.2.2 s3).bind fun x12=>if x11 !=x12 then (some (.ret s3)) else (some (.nxt (IntKind.i64.wrap (s3+1)))))) else (some (.brk s3))
def gD (p0:(List Int)×(List Yq1)) (p1:Yq2×Int×(List Int)×(List Int)):Option Int:=
 (a8 (p0.1,p0.2) (p1.1.1,p1.1.2.1,p1.1.2.2) p1.2.1).bind fun r1=>if r1.2 then (if (r1.1.2.2.1.length:Int) !=(p1.2.2.1.length:Int) then (some (-2)) else (if (r1.1.2.2.2.length:Int) !=(p1.2.2.2.length:Int) then (some (-2)) else (aZ (aH (j8 p1 r1) ba 0) (fun r=>some r) (fun s4=>some (-1))))) else (some (-2))
def eT (p1:Yq2×Int×(List Int)×(List Int)) (r1:Yq4×Bool) (s3:Int):Option (Out Int Int):=
 if decide (s3<(r1.1.2.2.1.length:Int)) then ((aU r1.1.2.2.1 s3).bind fun x9=>(aU p1.2.2.1 s3).bind fun x10=>if x9 !=x10 then (some (.ret s3)) else ((aU r1.1.2.2.2 s3).bind fun x11=>(aU p1.2.2.2 s3).bind fun x12=>if x11 !=x12 then (some (.ret s3)) else (some (.nxt (IntKind.i64.wrap (s3+1)))))) else (some (.brk s3))
def gE (p0:(List Int)×(List Yq1)) (p1:Yq2×Int×(List Int)×(List Int)):Option Int:=
 (bg (p0.1,p0.2) (p1.1.1,p1.1.2.1,p1.1.2.2) p1.2.1).bind fun r1=>if r1.2 then (if (p1.2.2.1.length:Int) !=(r1.1.2.2.1.length:Int) then (some (-2)) else (if (p1.2.2.2.length:Int) !=(r1.1.2.2.1.length:Int) then (some (-2)) else (aZ (aH (eT p1 r1) ba 0) (fun r=>some r) (fun s4=>some (-1))))) else (some (-2))
def lz (p0l:List Int) (p1x:Int) (s3:Int):Option (Out Bool Int):=
 if decide (s3<(p0l.length:Int)) then ((aU p0l s3).bind fun x3=>if x3==p1x then (some (.ret true)) else (some (.nxt (IntKind.i64.wrap (s3+1))))) else (some (.brk s3))
def tT (p0l:List Int) (p1x:Int):Option Bool:=
 aZ (aH (lz p0l p1x) ba 0) (fun r=>some r) (fun s4=>some false)
def cY (r2:((List Int)×(List Yq1))×Yq4×Int) (s3:Int):Option (Out Bool Int):=
 if decide (s3<(r2.2.1.2.2.1.length:Int)) then ((aU r2.2.1.2.2.1 s3).bind fun x5=>(aU r2.2.1.2.2.2 s3).bind fun x6=>if (decide (x5>0)) !=(decide (x6>0)) then (some (.ret false)) else (some (.nxt (IntKind.i64.wrap (s3+1))))) else (some (.brk s3))
def cZ (r2:((List Int)×(List Yq1))×Yq4×Int) (r3:List Int) (r11:Yq4×Bool) (s7:Int):Option (Out Bool Int):=
 if decide (s7<(r2.2.1.2.2.1.length:Int)) then ((tT r3 s7).bind fun r14=>(aU r11.1.2.2.1 s7).bind fun x25=>(aU r2.2.1.2.2.1 s7).bind fun x26=>if r14 !=(x25 !=x26) then (some (.ret false)) else ((aU r11.1.2.2.1 s7).bind fun x27=>if decide (x27≥0) then ((aU r11.1.2.2.1 s7).bind fun x30=>(aU r2.2.1.2.2.1 s7).bind fun x31=>if decide (x30<x31) then (some (.ret false)) else ((aU r11.1.2.2.1 s7).bind fun x32=>if decide (x32≥0) then ((aU r2.2.1.2.2.1 s7).bind fun x33=>if decide (x33<0) then (some (.ret false)) else (some (.nxt (IntKind.i64.wrap (s7+1))))) else (some (.nxt (IntKind.i64.wrap (s7+1)))))) else ((aU r11.1.2.2.1 s7).bind fun x28=>if decide (x28≥0) then ((aU r2.2.1.2.2.1 s7).bind fun x29=>if decide (x29<0) then (some (.ret false)) else (some (.nxt (IntKind.i64.wrap (s7+1))))) else (some (.nxt (IntKind.i64.wrap (s7+1))))))) else (some (.brk s7))
def fX (p0:List Int):Option Bool:=
 (xB p0).bind fun r1=>if r1 then (some true) else ((dz p0).bind fun r2=>(fU (r2.1.1,r2.1.2) ((r2.2.1.1.1,r2.2.1.1.2.1,r2.2.1.1.2.2),r2.2.1.2.1,r2.2.1.2.2.1,r2.2.1.2.2.2) r2.2.2).bind fun r3=>(fW (r2.1.1,r2.1.2) ((r2.2.1.1.1,r2.2.1.1.2.1,r2.2.1.1.2.2),r2.2.1.2.1,r2.2.1.2.2.1,r2.2.1.2.2.2) r2.2.2).bind fun r4=>(iM r3 r4).bind fun r5=>if r5 then ((cn (r2.1.1,r2.1.2) ((r2.2.1.1.1,r2.2.1.1.2.1,r2.2.1.1.2.2),r2.2.1.2.1,r2.2.1.2.2.1,r2.2.1.2.2.2)).bind fun r6=>(cX (r2.1.1,r2.1.2) ((r2.2.1.1.1,r2.2.1.1.2.1,r2.2.1.1.2.2),r2.2.1.2.1,r2.2.1.2.2.1,r2.2.1.2.2.2)).bind fun r7=>if r6 !=r7 then (some false) else ((gD (r2.1.1,r2.1.2) ((r2.2.1.1.1,r2.2.1.1.2.1,r2.2.1.1.2.2),r2.2.1.2.1,r2.2.1.2.2.1,r2.2.1.2.2.2)).bind fun r8=>(gE (r2.1.1,r2.1.2) ((r2.2.1.1.1,r2.2.1.1.2.1,r2.2.1.1.2.2),r2.2.1.2.1,r2.2.1.2.2.1,r2.2.1.2.2.2)).bind fun r9=>if r8 !=r9 then (some false) else ((cX (r2.1.1,r2.1.2) ((r2.2.1.1.1,r2.2.1.1.2.1,r2.2.1.1.2.2),r2.2.1.2.1,r2.2.1.2.2.1,r2.2.1.2.2.2)).bind fun r10=>if r10 then (aZ (aH (cY r2) ba 0) (fun r=>some r) (fun s4=>(cq (r2.1.1,r2.1.2) ((r2.2.1.1.1,r2.2.1.1.2.1,r2.2.1.1.2.2),r2.2.1.2.1,r2.2.1.2.2.1,r2.2.1.2.2.2) r2.2.2).bind fun r11=>if r11.2 then (aZ (aH (cZ r2 r3 r11) ba 0) (fun r=>some r) (fun s8=>some true)) else (some ((r3.length:Int)==0)))) else (some ((r3.length:Int)==0))))) else (some false))
end D
namespace R
open Go.RowKit
open D
abbrev y5:Ty:=.int .u8
abbrev y22:Ty:=.sl 5 y5
abbrev y3:Ty:=.int .i64
abbrev NN:Ty:=.prod y22 (.prod y3 y3)
abbrev xC:Ty:=.prod y3 (.prod y3 (.prod y3 y3))
abbrev y4:Ty:=.bool
abbrev Jt:Ty:=.prod y3 y4
abbrev Ll:Ty:=.prod Jt (.prod y3 y3)
abbrev Ns:Ty:=.sl 164 Ll
abbrev Lm:Ty:=.int .u64
abbrev Ju:Ty:=.prod y3 (.prod y3 (.prod y3 y3))
abbrev Nt:Ty:=.prod y4 (.prod y3 y3)
abbrev Nu:Ty:=.sl 162 Jt
abbrev Nv:Ty:=.prod Jt (.prod y3 y3)
abbrev MM:Ty:=.sl 216 Nv
abbrev Nw:Ty:=.sl 214 MM
abbrev y24:Ty:=.sl 4 y4
abbrev y9:Ty:=.str
abbrev MN:Ty:=.sl 9 y9
abbrev y30:Ty:=.sl 3 y3
abbrev y25:Ty:=.sl 30 y30
abbrev Ln:Ty:=.int .u32
abbrev Lo:Ty:=.int .u64
abbrev y27:Ty:=.prod y3 (.prod y24 y25)
abbrev y39:Ty:=.sl 154 xC
abbrev y41:Ty:=.prod y30 y39
abbrev y43:Ty:=.prod y27 (.prod y3 (.prod y30 y30))
abbrev y54:Ty:=.prod y30 (.prod y3 (.prod y3 (.prod y30 y4)))
abbrev y67:Ty:=.sl 181 Ju
abbrev y69:Ty:=.wr y67
def tt:TT:=[(3,⟨false,1,none,y3,[],some 8,none,false,none,none,some (some .i64),false,none⟩),
 (4,⟨false,1,none,y4,[],some 1,none,true,none,none,none,false,none⟩),
 (5,⟨false,1,none,y5,[],some 1,none,false,none,none,some (some .u8),false,none⟩),
 (9,⟨false,1,none,y9,[],some 16,none,false,none,none,some none,false,none⟩),
 (22,⟨false,1,some 5,y22,[],some 24,none,false,none,none,none,false,none⟩),
 (24,⟨false,1,some 4,y24,[],some 24,none,false,none,none,none,false,none⟩),
 (25,⟨false,1,some 30,y25,[],some 24,none,false,none,none,none,false,none⟩),
 (27,⟨true,3,none,y27,[(0,0),(1,0),(2,0)],some 56,some [(0,1),(1,1),(2,1)],false,none,none,none,false,none⟩),
 (30,⟨false,1,some 3,y30,[],some 24,none,false,none,none,none,false,none⟩),
 (39,⟨false,1,some 154,y39,[],some 24,none,false,none,none,none,false,none⟩),
 (41,⟨true,2,none,y41,[(0,0),(1,0)],some 48,some [(0,1),(1,1)],false,none,none,none,false,none⟩),
 (43,⟨true,6,none,y43,[(0,2),(3,0),(4,0),(5,0)],some 112,some [(0,3),(3,1),(4,1),(5,1)],false,none,none,none,false,none⟩),
 (47,⟨false,1,none,.bool,[],none,none,false,none,none,none,true,none⟩),
 (54,⟨true,5,none,y54,[(0,0),(1,0),(2,0),(3,0),(4,0)],some 72,some [(0,1),(1,1),(2,1),(3,1),(4,1)],false,none,none,none,false,none⟩),
 (67,⟨false,1,some 181,y67,[],some 24,none,false,none,none,none,false,none⟩),
 (69,⟨true,1,none,y69,[(0,0)],some 24,some [(0,1)],false,none,none,none,false,none⟩),
 (139,⟨true,3,none,NN,[(0,0),(1,0),(2,0)],some 40,some [(0,1),(1,1),(2,1)],false,none,none,none,false,none⟩),
 (154,⟨true,4,none,xC,[(0,0),(1,0),(2,0),(3,0)],some 32,some [(0,1),(1,1),(2,1),(3,1)],false,none,none,none,false,none⟩),
 (159,⟨false,1,some 164,Ns,[],some 24,none,false,none,none,none,false,none⟩),
 (162,⟨true,2,none,Jt,[(0,0),(1,0)],some 16,some [(0,1),(1,1)],false,none,none,none,false,none⟩),
 (164,⟨true,4,none,Ll,[(0,1),(2,0),(3,0)],some 32,some [(0,2),(2,1),(3,1)],false,none,none,none,false,none⟩),
 (172,⟨false,1,none,Lm,[],some 8,none,false,none,none,some (some .u64),false,none⟩),
 (181,⟨true,4,none,Ju,[(0,0),(1,0),(2,0),(3,0)],some 32,some [(0,1),(1,1),(2,1),(3,1)],false,none,none,none,false,none⟩),
 (193,⟨true,3,none,Nt,[(0,0),(1,0),(2,0)],some 24,some [(0,1),(1,1),(2,1)],false,none,none,none,false,none⟩),
 (207,⟨false,1,some 162,Nu,[],some 24,none,false,none,none,none,false,none⟩),
 (212,⟨false,1,some 214,Nw,[],some 24,none,false,none,none,none,false,none⟩),
 (214,⟨false,1,some 216,MM,[],some 24,none,false,none,none,none,false,none⟩),
 (216,⟨true,4,none,Nv,[(0,1),(2,0),(3,0)],some 32,some [(0,2),(2,1),(3,1)],false,none,none,none,false,none⟩),
 (220,⟨false,1,none,.bool,[],none,none,false,none,none,none,true,none⟩),
 (244,⟨false,1,some 9,MN,[],some 24,none,false,none,none,none,false,none⟩),
 (262,⟨false,1,none,Ln,[],some 4,none,false,none,none,some (some .u32),false,none⟩),
 (265,⟨false,1,none,Lo,[],some 8,none,false,none,none,some (some .u64),false,none⟩)]
theorem FP:TTok Tryz.prog tt:=⟨mi (n:=1) (z:=.int .i64 0) ⟨⟨_,Tryz.underlying3,rfl⟩,by kernel_rfl⟩ rfl (by unfold TZ;kernel_rfl) rfl (bd rfl) (fun h=>by cases h) (fun k h=>by obtain rfl:=ae h;exact Tryz.underlying3),
 mi (n:=1) (z:=.bool false) ⟨⟨_,Tryz.underlying4,rfl⟩,by kernel_rfl⟩ rfl (by unfold TZ;kernel_rfl) rfl (bd rfl) (fun h=>Tryz.underlying4) (fun k h=>by cases h),
 mi (n:=1) (z:=.int .u8 0) ⟨⟨_,Tryz.underlying5,rfl⟩,by kernel_rfl⟩ rfl (by unfold TZ;kernel_rfl) rfl (bd rfl) (fun h=>by cases h) (fun k h=>by obtain rfl:=ae h;exact Tryz.underlying5),
 mi (n:=1) (z:=.string ⟨#[]⟩) ⟨⟨_,Tryz.underlying9,rfl⟩,by kernel_rfl⟩ rfl (by unfold TZ;kernel_rfl) rfl (bd rfl) (fun h=>by cases h) (fun k h=>by obtain rfl:=ae h;exact Tryz.underlying9),
 qk ⟨⟨_,Tryz.underlying22,rfl⟩,by kernel_rfl⟩ Tryz.underlying22 (by unfold TZ;kernel_rfl),
 qk ⟨⟨_,Tryz.underlying24,rfl⟩,by kernel_rfl⟩ Tryz.underlying24 (by unfold TZ;kernel_rfl),
 qk ⟨⟨_,Tryz.underlying25,rfl⟩,by kernel_rfl⟩ Tryz.underlying25 (by unfold TZ;kernel_rfl),
 oU (z:=.agg #[.int .i64 0,.slice none 0 0,.slice none 0 0]) ⟨⟨_,Tryz.underlying27,rfl⟩,by kernel_rfl⟩ rfl ⟨⟨_,_,Tryz.underlying27,rfl,rfl,by kernel_rfl⟩,⟨_,_,Tryz.underlying27,rfl,rfl,by kernel_rfl⟩,⟨_,_,Tryz.underlying27,rfl,rfl,by kernel_rfl⟩,trivial⟩ (by unfold TZ;kernel_rfl) rfl (bd rfl) ⟨_,Tryz.underlying27,by kernel_rfl⟩ (fun ks h=>by cases h),
 qk ⟨⟨_,Tryz.underlying30,rfl⟩,by kernel_rfl⟩ Tryz.underlying30 (by unfold TZ;kernel_rfl),
 qk ⟨⟨_,Tryz.underlying39,rfl⟩,by kernel_rfl⟩ Tryz.underlying39 (by unfold TZ;kernel_rfl),
 oU (z:=.agg #[.slice none 0 0,.slice none 0 0]) ⟨⟨_,Tryz.underlying41,rfl⟩,by kernel_rfl⟩ rfl ⟨⟨_,_,Tryz.underlying41,rfl,rfl,by kernel_rfl⟩,⟨_,_,Tryz.underlying41,rfl,rfl,by kernel_rfl⟩,trivial⟩ (by unfold TZ;kernel_rfl) rfl (bd rfl) ⟨_,Tryz.underlying41,by kernel_rfl⟩ (fun ks h=>by cases h),
 oU (z:=.agg #[.int .i64 0,.slice none 0 0,.slice none 0 0,.int .i64 0,.slice none 0 0,.slice none 0 0]) ⟨⟨_,Tryz.underlying43,rfl⟩,by kernel_rfl⟩ rfl ⟨⟨_,_,Tryz.underlying43,rfl,rfl,by kernel_rfl⟩,⟨_,_,Tryz.underlying43,rfl,rfl,by kernel_rfl⟩,⟨_,_,Tryz.underlying43,rfl,rfl,by kernel_rfl⟩,⟨_,_,Tryz.underlying43,rfl,rfl,by kernel_rfl⟩,trivial⟩ (by unfold TZ;kernel_rfl) rfl (bd rfl) ⟨_,Tryz.underlying43,by kernel_rfl⟩ (fun ks h=>by cases h),
 Lk (ty:=.bool) (b:=8) ⟨⟨_,Tryz.underlying47,rfl⟩,by kernel_rfl⟩ rfl (by unfold TZ;kernel_rfl),
 oU (z:=.agg #[.slice none 0 0,.int .i64 0,.int .i64 0,.slice none 0 0,.bool false]) ⟨⟨_,Tryz.underlying54,rfl⟩,by kernel_rfl⟩ rfl ⟨⟨_,_,Tryz.underlying54,rfl,rfl,by kernel_rfl⟩,⟨_,_,Tryz.underlying54,rfl,rfl,by kernel_rfl⟩,⟨_,_,Tryz.underlying54,rfl,rfl,by kernel_rfl⟩,⟨_,_,Tryz.underlying54,rfl,rfl,by kernel_rfl⟩,⟨_,_,Tryz.underlying54,rfl,rfl,by kernel_rfl⟩,trivial⟩ (by unfold TZ;kernel_rfl) rfl (bd rfl) ⟨_,Tryz.underlying54,by kernel_rfl⟩ (fun ks h=>by cases h),
 qk ⟨⟨_,Tryz.underlying67,rfl⟩,by kernel_rfl⟩ Tryz.underlying67 (by unfold TZ;kernel_rfl),
 oU (z:=.agg #[.slice none 0 0]) ⟨⟨_,Tryz.underlying69,rfl⟩,by kernel_rfl⟩ rfl ⟨⟨_,_,Tryz.underlying69,rfl,rfl,by kernel_rfl⟩,trivial⟩ (by unfold TZ;kernel_rfl) rfl (bd rfl) ⟨_,Tryz.underlying69,by kernel_rfl⟩ (fun ks h=>by cases h),
 oU (z:=.agg #[.slice none 0 0,.int .i64 0,.int .i64 0]) ⟨⟨_,Tryz.underlying139,rfl⟩,by kernel_rfl⟩ rfl ⟨⟨_,_,Tryz.underlying139,rfl,rfl,by kernel_rfl⟩,⟨_,_,Tryz.underlying139,rfl,rfl,by kernel_rfl⟩,⟨_,_,Tryz.underlying139,rfl,rfl,by kernel_rfl⟩,trivial⟩ (by unfold TZ;kernel_rfl) rfl (bd rfl) ⟨_,Tryz.underlying139,by kernel_rfl⟩ (fun ks h=>by cases h),
 oU (z:=.agg #[.int .i64 0,.int .i64 0,.int .i64 0,.int .i64 0]) ⟨⟨_,Tryz.underlying154,rfl⟩,by kernel_rfl⟩ rfl ⟨⟨_,_,Tryz.underlying154,rfl,rfl,by kernel_rfl⟩,⟨_,_,Tryz.underlying154,rfl,rfl,by kernel_rfl⟩,⟨_,_,Tryz.underlying154,rfl,rfl,by kernel_rfl⟩,⟨_,_,Tryz.underlying154,rfl,rfl,by kernel_rfl⟩,trivial⟩ (by unfold TZ;kernel_rfl) rfl (bd rfl) ⟨_,Tryz.underlying154,by kernel_rfl⟩ (fun ks h=>by cases h),
 qk ⟨⟨_,Tryz.underlying159,rfl⟩,by kernel_rfl⟩ Tryz.underlying159 (by unfold TZ;kernel_rfl),
 oU (z:=.agg #[.int .i64 0,.bool false]) ⟨⟨_,Tryz.underlying162,rfl⟩,by kernel_rfl⟩ rfl ⟨⟨_,_,Tryz.underlying162,rfl,rfl,by kernel_rfl⟩,⟨_,_,Tryz.underlying162,rfl,rfl,by kernel_rfl⟩,trivial⟩ (by unfold TZ;kernel_rfl) rfl (bd rfl) ⟨_,Tryz.underlying162,by kernel_rfl⟩ (fun ks h=>by cases h),
 oU (z:=.agg #[.int .i64 0,.bool false,.int .i64 0,.int .i64 0]) ⟨⟨_,Tryz.underlying164,rfl⟩,by kernel_rfl⟩ rfl ⟨⟨_,_,Tryz.underlying164,rfl,rfl,by kernel_rfl⟩,⟨_,_,Tryz.underlying164,rfl,rfl,by kernel_rfl⟩,⟨_,_,Tryz.underlying164,rfl,rfl,by kernel_rfl⟩,trivial⟩ (by unfold TZ;kernel_rfl) rfl (bd rfl) ⟨_,Tryz.underlying164,by kernel_rfl⟩ (fun ks h=>by cases h),
 mi (n:=1) (z:=.int .u64 0) ⟨⟨_,Tryz.underlying172,rfl⟩,by kernel_rfl⟩ rfl (by unfold TZ;kernel_rfl) rfl (bd rfl) (fun h=>by cases h) (fun k h=>by obtain rfl:=ae h;exact Tryz.underlying172),
 oU (z:=.agg #[.int .i64 0,.int .i64 0,.int .i64 0,.int .i64 0]) ⟨⟨_,Tryz.underlying181,rfl⟩,by kernel_rfl⟩ rfl ⟨⟨_,_,Tryz.underlying181,rfl,rfl,by kernel_rfl⟩,⟨_,_,Tryz.underlying181,rfl,rfl,by kernel_rfl⟩,⟨_,_,Tryz.underlying181,rfl,rfl,by kernel_rfl⟩,⟨_,_,Tryz.underlying181,rfl,rfl,by kernel_rfl⟩,trivial⟩ (by unfold TZ;kernel_rfl) rfl (bd rfl) ⟨_,Tryz.underlying181,by kernel_rfl⟩ (fun ks h=>by cases h),
 oU (z:=.agg #[.bool false,.int .i64 0,.int .i64 0]) ⟨⟨_,Tryz.underlying193,rfl⟩,by kernel_rfl⟩ rfl ⟨⟨_,_,Tryz.underlying193,rfl,rfl,by kernel_rfl⟩,⟨_,_,Tryz.underlying193,rfl,rfl,by kernel_rfl⟩,⟨_,_,Tryz.underlying193,rfl,rfl,by kernel_rfl⟩,trivial⟩ (by unfold TZ;kernel_rfl) rfl (bd rfl) ⟨_,Tryz.underlying193,by kernel_rfl⟩ (fun ks h=>by cases h),
 qk ⟨⟨_,Tryz.underlying207,rfl⟩,by kernel_rfl⟩ Tryz.underlying207 (by unfold TZ;kernel_rfl),
 qk ⟨⟨_,Tryz.underlying212,rfl⟩,by kernel_rfl⟩ Tryz.underlying212 (by unfold TZ;kernel_rfl),
 qk ⟨⟨_,Tryz.underlying214,rfl⟩,by kernel_rfl⟩ Tryz.underlying214 (by unfold TZ;kernel_rfl),
 oU (z:=.agg #[.int .i64 0,.bool false,.int .i64 0,.int .i64 0]) ⟨⟨_,Tryz.underlying216,rfl⟩,by kernel_rfl⟩ rfl ⟨⟨_,_,Tryz.underlying216,rfl,rfl,by kernel_rfl⟩,⟨_,_,Tryz.underlying216,rfl,rfl,by kernel_rfl⟩,⟨_,_,Tryz.underlying216,rfl,rfl,by kernel_rfl⟩,trivial⟩ (by unfold TZ;kernel_rfl) rfl (bd rfl) ⟨_,Tryz.underlying216,by kernel_rfl⟩ (fun ks h=>by cases h),
 Lk (ty:=.bool) (b:=8) ⟨⟨_,Tryz.underlying220,rfl⟩,by kernel_rfl⟩ rfl (by unfold TZ;kernel_rfl),
 qk ⟨⟨_,Tryz.underlying244,rfl⟩,by kernel_rfl⟩ Tryz.underlying244 (by unfold TZ;kernel_rfl),
 mi (n:=1) (z:=.int .u32 0) ⟨⟨_,Tryz.underlying262,rfl⟩,by kernel_rfl⟩ rfl (by unfold TZ;kernel_rfl) rfl (bd rfl) (fun h=>by cases h) (fun k h=>by obtain rfl:=ae h;exact Tryz.underlying262),
 mi (n:=1) (z:=.int .u64 0) ⟨⟨_,Tryz.underlying265,rfl⟩,by kernel_rfl⟩ rfl (by unfold TZ;kernel_rfl) rfl (bd rfl) (fun h=>by cases h) (fun k h=>by obtain rfl:=ae h;exact Tryz.underlying265),trivial⟩
theorem mixed:Tryz.prog.follows .mixedOrders=true:=by kernel_rfl
def Hh (fn:Func):Code:=match fn.body with
 | some c=>c
 | none=>.skip
theorem fk {k:FuncId} {fn:Func} {f:FS} (ft:FT) (hF:FTok Tryz.prog ft) (hf:Tryz.prog.funcs[k]? =some fn) (ann:Ann) (an:List (Nat×Ty):=[]) (tr:Trs:=[]) (hb:fn.body=some (Hh fn):=by rfl) (he:(fn.name == "runtime.NumGoroutine")=false:=by kernel_rfl) (hcl:f.cl=none:=by rfl) (hm:Nat.ble f.ps.length fn.ntmps=true:=by rfl) (hdp:(tw f.rs&&oS f.ps)=true:=by rfl)
  (hmod: ∀d,appP f.ps f.m d=fv ⟨tt,ft,an,fn.ntmps,tr⟩ (FL ⟨tt,ft,an,fn.ntmps,tr⟩ fn.results.toList f.rs f.ps d) (Hh fn) ann (fun r=>some r) (fun _ _=>none) (FL ⟨tt,ft,an,fn.ntmps,tr⟩ fn.results.toList f.rs f.ps d) (jK (oC f.ps d)):=by intro d;kernel_rfl):FOk Tryz.prog k f:=
 fok (V:=⟨tt,ft,an,fn.ntmps,tr⟩) FP hF mixed hf hb rfl (enters_of hf he hb) hcl (bd hm) hdp ann hmod
def C2:FS:=⟨[.rd y22],[y4],xB,none⟩
def vR:FS:=⟨[.rd y22],[.int .i64,.int .i64],m8,some (139,9)⟩
def qm:FS:=⟨[.rd y27],[y27],hH,none⟩
def jU:FS:=⟨[.rd y41,.rd y3],[y3],bV,none⟩
def lM:FS:=⟨[.rd y27,.rd y3,.rd y3],[y3],eK,none⟩
def sn:FS:=⟨[.rd y41,.rd y3],[Nu],jk,none⟩
def ng:FS:=⟨[.rd xC,.rd y4],[y3],df,none⟩
def vS:FS:=⟨[.rd xC,.rd y4],[y3],hO,none⟩
def kM:FS:=⟨[.rd y41,.rd y27,.rd y3,.rd y3],[Ns],c8,none⟩
def oF:FS:=⟨[.rd y41,.rd y27,.rd y3],[y30],fZ,none⟩
def kN:FS:=⟨[.rd y41,.rd y27,.rd y3],[y43],c9,none⟩
def jV:FS:=⟨[.rd y3,.rd y3,.rd y3],[y4],cK,none⟩
def qn:FS:=⟨[.rd y27],[y4],hY,none⟩
def gu:FS:=⟨[.rd y27],[y4],bt,none⟩
def so:FS:=⟨[.rd y41,.rd xC],[y4],sj,none⟩
def gk:FS:=⟨[.rd y41],[y4],bQ,none⟩
def qo:FS:=⟨[.rd y41,.rd y27,.rd y3,.rd y3],[y4],eY,none⟩
def gF:FS:=⟨[.rd y41,.rd y27,.rd y3],[y43,y4],bg,none⟩
def sp:FS:=⟨[.crs 139 5],[y3],fe,none⟩
def bD:FS:=⟨[.crs 139 5,.rd y3],[y3],aN,none⟩
def cA:FS:=⟨[.crs 139 5,.rd y30],[y3],aX,none⟩
def oG:FS:=⟨[.rd y54,.rd y3,.rd y3],[y3],iL,none⟩
def lN:FS:=⟨[.rd y54,.rd y3],[y4],fP,none⟩
def qp:FS:=⟨[.rd y30,.rd y3],[y3],jO,none⟩
def lO:FS:=⟨[.rd y54,.rd y3],[y27,y4],cF,none⟩
def kO:FS:=⟨[.rd y3],[y4],ga,none⟩
def mn:FS:=⟨[.rd Ju],[y3],ic,none⟩
def sq:FS:=⟨[.rd y69],[y4],lr,none⟩
def ir:FS:=⟨[.rd y69],[y4],dU,none⟩
def jW:FS:=⟨[.rd y67],[y3],dV,none⟩
def jX (n:Nat):FS:=⟨[.rd y67],[y3],cd n,none⟩
def sr:FS:=⟨[.rd y67],[y69],nX,none⟩
def lA:FS:=⟨[.rd y69,.rd y69,.rd Ju],[y69],b0,none⟩
def nY:FS:=⟨[.rd y3],[y69],gM,none⟩
def iO (n:Nat):FS:=⟨[.rd y69,.rd y3,.rd y3],[y69],ff n,none⟩
def gG (n:Nat):FS:=⟨[.rd y67],[y69],br n,none⟩
def lP:FS:=⟨[.rd y69],[y69,y4],fR,none⟩
def qq:FS:=⟨[.ptr 54 y54,.rd y3,.rd y3],[],ig,none⟩
def iP (n:Nat):FS:=⟨[.ptr 54 y54,.rd y67],[Nt],bI n,none⟩
def iQ:FS:=⟨[.rd y69],[y54,y4],dy,none⟩
def fh:FS:=⟨[.crs 139 5,.rd y3],[y4],cw,none⟩
def vT:FS:=⟨[.rd y9,.rd y5],[MN],vQ,none⟩
def gl:FS:=⟨[.rd y3],[y9],gj,none⟩
def nh:FS:=⟨[.rd y3],[y9],jQ,none⟩
def qu:FS:=⟨[.rd Ju],[y9],ql,none⟩
def kP:FS:=⟨[.rd y9],[y3,y4],kH,none⟩
def ss:FS:=⟨[.rd y9],[Ju],sk,none⟩
def ni:FS:=⟨[.rd y9],[y69,y4],eA,none⟩
def su:FS:=⟨[.crs 139 5,.rd MN],[y9],lu,none⟩
def qv:FS:=⟨[.crs 139 5],[y69],jR,none⟩
def lQ:FS:=⟨[.rd y3],[y69],lL,none⟩
def lB (n:Nat):FS:=⟨[.crs 139 5,.rd y3],[y69],bM n,none⟩
def sx:FS:=⟨[.crs 139 5],[y69],lx,none⟩
def nj:FS:=⟨[.crs 139 5],[y27],fx,none⟩
def nZ:FS:=⟨[.crs 139 5],[y27],jl,none⟩
def sy:FS:=⟨[.crs 139 5],[y27],jm,none⟩
def mo:FS:=⟨[.crs 139 5],[y41],ij,none⟩
def vU:FS:=⟨[.crs 139 5],[y41],kI,none⟩
def qw:FS:=⟨[.crs 139 5],[y41,y27],jS,none⟩
def sA:FS:=⟨[.crs 139 5,.rd y41],[y3],jn,none⟩
def qx:FS:=⟨[.crs 139 5],[y41,y43],jT,none⟩
def zm:FS:=⟨[.crs 139 5,.rd y41],[y3],na,none⟩
def iR:FS:=⟨[.rd y22],[y41,y43,y3],dz,none⟩
def iS:FS:=⟨[.rd y30],[y30],cy,none⟩
def nk:FS:=⟨[.rd y41],[y41],gA,none⟩
def cH:FS:=⟨[.rd y39,.fn [xC] [y4]],[y3],bz,none⟩
def kQ:FS:=⟨[.rd xC,.cap 3 y3],[y4],il,none⟩
def nl:FS:=⟨[.rd y41,.rd y3],[y3],gB,none⟩
def gO:FS:=⟨[.rd y3,.rd y3,.rd y3],[y4],bN,none⟩
def sB:FS:=⟨[.rd xC,.rd y3],[y4],jo,none⟩
def gm:FS:=⟨[.rd y41],[y4],bf,none⟩
def dq:FS:=⟨[.eat (.sl 154 xC),.rd y3,.rd y3],[.sl 154 xC],bp,none⟩
def lR:FS:=⟨[.rd y41,.rd y3],[y41,y4],fT,none⟩
def fL:FS:=⟨[.rd y27],[y27],bB,none⟩
def vV:FS:=⟨[.rd xC,.rd y4],[y3],kJ,none⟩
def zn:FS:=⟨[.rd y41],[Nw],nc,none⟩
def mq:FS:=⟨[.rd y3],[y30],fK,none⟩
def oH:FS:=⟨[.rd y3],[y4],kK,none⟩
def fy:FS:=⟨[.rd y27,.rd y3,.rd y3],[y3],bc,none⟩
def qy:FS:=⟨[.rd y27,.rd y3,.rd y3],[y3],dW,none⟩
def vW:FS:=⟨[.rd y27,.rd y3,.rd y3,.rd y3],[y3],kL,none⟩
def gp:FS:=⟨[.rd y41,.rd y27],[y25],bw,none⟩
def gx:FS:=⟨[.rd y27],[y4],bu,none⟩
def sC:FS:=⟨[.rd y41,.rd y27,.rd y30],[y4],cU,none⟩
def iu:FS:=⟨[.rd Ln,.rd Ln],[Ln,Ln],mj,none⟩
def iw:FS:=⟨[.rd Lo,.rd Lo],[Lo,Lo],iq,none⟩
def jv:FS:=⟨[.rd Lm,.rd Lm],[Lm,Lm],jq,none⟩
def dZ:FS:=⟨[.rd y30,.rd y3],[y30],bs,none⟩
def sD:FS:=⟨[.rd y25,.rd y30],[y30],gN,none⟩
def jw:FS:=⟨[.rd y41,.rd y27,.rd y3],[y30],b7,some (0,7)⟩
def gH:FS:=⟨[.rd y41,.rd y27,.rd y3],[y43,y4],a8,none⟩
def dA:FS:=⟨[.rd y24,.rd y24],[y4],bZ,none⟩
def bn:FS:=⟨[.rd y25,.rd y25,.fn [y30,y30] [y4]],[y4],aY,none⟩
def ct:FS:=⟨[.rd y30,.rd y30],[y4],bm,none⟩
def ix:FS:=⟨[.rd y30,.rd y30],[y4],dh,none⟩
def jx:FS:=⟨[.rd y27,.rd y27],[y4],cV,none⟩
def lS:FS:=⟨[.rd y43,.rd y43],[y4],eN,none⟩
def iy:FS:=⟨[.rd y41,.rd y43],[y4],cn,none⟩
def oJ:FS:=⟨[.rd y43],[y43],fg,none⟩
def sE:FS:=⟨[.rd y41,.rd y43,.rd y41,.rd y4],[y43,y4],jr,none⟩
def eZ:FS:=⟨[.rd y41,.rd y43,.rd y3],[y43,y4],cq,none⟩
def lT:FS:=⟨[.rd y41,.rd y43,.rd y3],[y30],fU,none⟩
def oK:FS:=⟨[.rd y30,.rd y30],[y4],iM,none⟩
def qz:FS:=⟨[.rd y30,.rd y30],[y3],jt,none⟩
def jy:FS:=⟨[.rd y27,.rd y27],[y4],cW,none⟩
def lU:FS:=⟨[.rd y43,.rd y43],[y4],eO,none⟩
def iz:FS:=⟨[.rd y41,.rd y43],[y4],cX,none⟩
def sF:FS:=⟨[.rd y41],[y41],ju,none⟩
def lV:FS:=⟨[.rd y41,.rd y3],[y41,y4],fV,none⟩
def lW:FS:=⟨[.rd y41,.rd y43,.rd y3],[y30],fW,none⟩
def nm:FS:=⟨[.rd y41,.rd y43],[y3],gD,none⟩
def np:FS:=⟨[.rd y41,.rd y43],[y3],gE,none⟩
def C3:FS:=⟨[.rd y30,.rd y3],[y4],tT,none⟩
def re:FS:=⟨[.rd y22],[y4],fX,none⟩
end R
namespace R
open Go.RowKit
open D
theorem Jv:FOk Tryz.prog 8 C2:=fk [] trivial Tryz.func8 .no
theorem C4:FOk Tryz.prog 66 vR:=Js (T:=139) (Lj (V:=⟨tt,[],[],32,[]⟩) FP trivial mixed Tryz.func66 rfl rfl (enters_of Tryz.func66 (by kernel_rfl) rfl) (bd rfl) (.two .no (.two .no (.two (.two .no (.loop [.slot 3 (.num .i64),.slot 4 (.num .i64)] .no)) .no))) (fun xs=>by kernel_rfl)) rfl
theorem xD:FOk Tryz.prog 160 qm:=fk [] trivial Tryz.func160 (.two .no (.two .no (.two (.two .no (.loop [.slot 4 (.num .i64),.box 3 [(.num .i64),(.own 4 y4),(.own 30 y30)]] .no)) .no)))
theorem nq:FOk Tryz.prog 157 jU:=fk [] trivial Tryz.func157 (.two .no (.two (.two .no (.loop [.slot 5 (.num .i64)] .no)) .no))
theorem rf:FOk Tryz.prog 226 lM:=fk [] trivial Tryz.func226 (.two .no (.two .no (.two (.loop [.slot 1 (.num .i64),.slot 7 (.num .i64)] .no) .no)))
theorem Ay:FOk Tryz.prog 227 sn:=fk [] trivial Tryz.func227 (.two .no (.two .no (.two (.two .no (.loop [.slot 5 (.own 162 Jt),.slot 6 (.num .i64)] (.two .no (.join [.slot 5 (.own 162 Jt)] (.join [.slot 5 (.own 162 Jt)] .no .no) .no)))) .no)))
theorem tU:FOk Tryz.prog 228 ng:=fk [] trivial Tryz.func228 .no
theorem C5:FOk Tryz.prog 229 vS:=fk [] trivial Tryz.func229 .no
theorem oL:FOk Tryz.prog 162 kM:=fk [(157,jU),(226,lM),(227,sn),(228,ng),(229,vS)] ⟨nq,rf,Ay,tU,C5,trivial⟩ Tryz.func162 (.two .no (.two .no (.two .no (.two .no (.two (.two .no (.loop [.slot 9 (.own 164 Ll),.slot 12 (.num .i64)] (.two .no (.two (.two .no (.two .no (.two (.two .no (.loop [.slot 14 (.num .i64),.slot 15 (.num .i64)] (.two .no (.join [.slot 14 (.num .i64)] .no .no)))) (.two .no (.loop [.slot 9 (.own 164 Ll),.slot 17 (.num .i64)] (.two .no (.join [.slot 9 (.own 164 Ll)] .no .no))))))) .no)))) .no)))))
theorem vX:FOk Tryz.prog 161 oF:=fk [(162,kM)] ⟨oL,trivial⟩ Tryz.func161 (.two .no (.two .no (.two .no (.two (.two .no (.loop [.slot 8 (.own 3 y3),.slot 9 (.num .i64)] .no)) (.two .no (.two .no (.two (.two .no (.loop [.row 8 3 y3,.slot 10 (.own 3 y3),.slot 11 (.num .i64)] (.two .no (.two (.two .no (.two .no (.loop [.row 8 3 y3,.slot 10 (.own 3 y3),.slot 13 (.num .i64)] (.two .no (.join [.row 8 3 y3,.slot 10 (.own 3 y3)] .no .no))))) .no)))) .no)))))))
theorem oM:FOk Tryz.prog 82 kN:=fk [(160,qm),(161,oF),(162,kM)] ⟨xD,vX,oL,trivial⟩ Tryz.func82 (.two .no (.two .no (.two .no (.two .no (.two (.two .no (.loop [.slot 9 (.num .i64),.box 8 [(.num .i64),(.own 4 y4),(.own 30 y30),(.num .i64),(.own 3 y3),(.own 3 y3)]] (.two .no (.two (.two .no (.two .no (.loop [.slot 11 (.num .i64),.box 8 [(.num .i64),(.own 4 y4),(.own 30 y30),(.num .i64),(.own 3 y3),(.own 3 y3)]] (.two .no (.join [.box 8 [(.num .i64),(.own 4 y4),(.own 30 y30),(.num .i64),(.own 3 y3),(.own 3 y3)]] .no .no))))) .no)))) .no)))))
theorem lC:FOk Tryz.prog 154 jV:=fk [] trivial Tryz.func154 .no
theorem xE:FOk Tryz.prog 77 qn:=fk [(154,jV)] ⟨lC,trivial⟩ Tryz.func77 (.two .no (.two .no (.two .no (.two (.two .no (.loop [.slot 4 (.num .i64)] (.two .no (.two (.two .no (.two .no (.loop [.slot 5 (.num .i64)] .no))) .no)))) .no))))
theorem lJ:FOk Tryz.prog 18 gu:=fk [(77,qn)] ⟨xE,trivial⟩ Tryz.func18 .no
theorem Az:FOk Tryz.prog 225 so:=fk [(154,jV)] ⟨lC,trivial⟩ Tryz.func225 .no
theorem j9:FOk Tryz.prog 158 gk:=fk [(154,jV),(225,so)] ⟨lC,Az,trivial⟩ Tryz.func158 (.two .no (.two (.two .no (.loop [.slot 3 (.num .i64)] .no)) (.two (.two .no (.loop [.slot 4 (.num .i64)] .no)) .no)))
theorem xF:FOk Tryz.prog 166 qo:=fk [(18,gu),(154,jV),(158,gk)] ⟨lJ,lC,j9,trivial⟩ Tryz.func166 .no
end R
namespace R
open Go.RowKit
open D
theorem jY:FOk Tryz.prog 85 gF:=fk [(82,kN),(166,qo)] ⟨oM,xF,trivial⟩ Tryz.func85 .no
theorem AA:FOk Tryz.prog 218 sp:=fk [] trivial Tryz.func218 (.two .no (.two .no (.two .no (.two (.two .no (.at [.slot 3 (.num .i64),.cur 0] .no)) .no))))
theorem bR:FOk Tryz.prog 146 bD:=fk [(218,sp)] ⟨AA,trivial⟩ Tryz.func146 .no
theorem di:FOk Tryz.prog 110 cA:=fk [(146,bD)] ⟨bR,trivial⟩ Tryz.func110 .no
theorem vY:FOk Tryz.prog 95 oG:=fk [] trivial Tryz.func95 (.two .no (.two .no (.join [.slot 7 (.num .i64)] .no (.two (.two .no (.loop [.slot 7 (.num .i64),.slot 8 (.num .i64)] (.two .no (.join [.slot 7 (.num .i64)] .no .no)))) (.two .no (.two (.two .no (.loop [.slot 9 (.num .i64),.slot 10 (.num .i64)] (.two .no (.join [.slot 9 (.num .i64)] .no .no)))) .no))))))
theorem rh:FOk Tryz.prog 96 lN:=fk [] trivial Tryz.func96 .no
theorem xG:FOk Tryz.prog 180 qp:=fk [] trivial Tryz.func180 (.two .no (.two (.two .no (.loop [.slot 5 (.num .i64)] .no)) .no))
theorem ri:FOk Tryz.prog 93 lO:=fk [(95,oG),(96,lN),(180,qp)] ⟨vY,rh,xG,trivial⟩ Tryz.func93 (.two .no (.two .no (.two .no (.two (.two .no (.loop [.slot 7 (.own 3 y3),.slot 8 (.num .i64),.box 6 [(.num .i64),(.own 4 y4),(.own 30 y30)]] (.two .no (.two (.two .no (.two (.two .no (.loop [.slot 7 (.own 3 y3),.slot 9 (.own 3 y3),.slot 10 (.num .i64)] (.two .no (.two (.two .no (.two .no (.join [.slot 7 (.own 3 y3),.slot 12 (.num .i64)] .no .no))) .no)))) .no)) .no)))) .no))))
theorem oN:FOk Tryz.prog 94 kO:=fk [(154,jV)] ⟨lC,trivial⟩ Tryz.func94 .no
theorem qA:FOk Tryz.prog 273 mn:=fk [(94,kO),(154,jV)] ⟨oN,lC,trivial⟩ Tryz.func273 (.two .no (.two (.two .no (.join [.slot 5 .boo] .no (.two .no (.two .no (.two .no (.join [.slot 37 .boo] .no .no)))))) .no))
theorem AB:FOk Tryz.prog 271 sq:=fk [(273,mn)] ⟨qA,trivial⟩ Tryz.func271 (.two .no (.two .no (.two (.two .no (.loop [.slot 3 (.num .i64),.slot 4 (.num .i64)] .no)) .no)))
theorem kR:FOk Tryz.prog 246 ir:=fk [(271,sq)] ⟨AB,trivial⟩ Tryz.func246 .no
theorem mr:FOk Tryz.prog 249 jW:=fk [(273,mn)] ⟨qA,trivial⟩ Tryz.func249 (.two .no (.two .no (.two .no (.two (.loop [.slot 3 (.num .i64),.slot 4 (.num .i64)] .no) .no))))
theorem qB: ∀n,FOk Tryz.prog 247 (jX n)
 | 0=>m7 (f:=jX 0) (enters_of Tryz.func247 (by kernel_rfl) rfl) rfl (fun d=>rfl)
 | n+1=>by
  have ih:=qB n
  exact fk [(247,(jX n)),(249,jW)] ⟨ih,mr,trivial⟩ Tryz.func247 (.two .no (.two .no (.two .no (.two (.two .no (.two (.two .no (.at [.slot 15 .boo] .no)) .no)) .no))))
theorem AC:FOk Tryz.prog 202 sr:=fk [] trivial Tryz.func202 .no
theorem n7:FOk Tryz.prog 263 lA:=fk [(202,sr)] ⟨AC,trivial⟩ Tryz.func263 .no
theorem sG:FOk Tryz.prog 261 nY:=fk [] trivial Tryz.func261 .no
end R
namespace R
open Go.RowKit
open D
theorem oO: ∀n,FOk Tryz.prog 272 (iO n)
 | 0=>m7 (f:=iO 0) (enters_of Tryz.func272 (by kernel_rfl) rfl) rfl (fun d=>rfl)
 | n+1=>by
  have ih:=oO n
  exact fk [(261,nY),(263,lA),(272,(iO n))] ⟨sG,n7,ih,trivial⟩ Tryz.func272 .no
theorem nr: ∀n,FOk Tryz.prog 248 (gG n)
 | 0=>m7 (f:=gG 0) (enters_of Tryz.func248 (by kernel_rfl) rfl) rfl (fun d=>rfl)
 | n+1=>by
  have ih:=nr n
  exact fk [(248,(gG n)),(249,jW),(263,lA),(272,(iO iE))] ⟨ih,mr,n7,(oO iE),trivial⟩ Tryz.func248 (.two .no (.two .no (.two .no (.two (.two .no (.two (.two .no (.at [.slot 15 .boo] .no)) .no)) .no))))
theorem rj:FOk Tryz.prog 207 lP:=fk [(246,ir),(247,(jX iE)),(248,(gG iE))] ⟨kR,(qB iE),(nr iE),trivial⟩ Tryz.func207 .no
theorem xH:FOk Tryz.prog 250 qq:=fk [] trivial Tryz.func250 (.two .no (.loop [.slot 6 (.num .i64),.par 4 [3] 3 y3] (.two .no (.two (.at [.par 4 [3] 3 y3] .no) .no))))
theorem oP: ∀n,FOk Tryz.prog 208 (iP n)
 | 0=>m7 (f:=iP 0) (enters_of Tryz.func208 (by kernel_rfl) rfl) rfl (fun d=>rfl)
 | n+1=>by
  have ih:=oP n
  exact fk [(208,(iP n)),(249,jW),(250,qq)] ⟨ih,mr,xH,trivial⟩ Tryz.func208 (.two .no (.two .no (.two .no (.two (.two .no (.two .no (.two .no (.two .no (.two .no (.two .no (.two (.two .no (.two .no (.two .no (.two .no (.two .no (.two (.two .no (.at [.box 11 [.boo,(.num .i64),(.num .i64)]] .no)) (.two (.two .no (.at [.box 11 [.boo,(.num .i64),(.num .i64)]] .no)) .no))))))) .no))))))) .no))))
theorem nt:FOk Tryz.prog 125 iQ:=fk [(207,lP),(208,(iP iE))] ⟨rj,(oP iE),trivial⟩ Tryz.func125 (.two .no (.two .no (.two .no (.two .no (.two (.two .no (.loop [.slot 6 (.num .i64),.slot 7 (.num .i64)] (.two .no (.two (.at [.slot 6 (.num .i64)] .no) .no)))) .no)))))
theorem fM:FOk Tryz.prog 144 fh:=fk [(146,bD)] ⟨bR,trivial⟩ Tryz.func144 .no
theorem C6:FOk Tryz.prog 276 vT:=fk [] trivial Tryz.func276 (.two .no (.two .no (.two .no (.two (.two .no (.loop [.slot 5 (.own 9 y9),.slot 6 (.num .i64),.slot 7 (.num .i64)] (.two .no (.two (.at [.slot 5 (.own 9 y9),.slot 6 (.num .i64)] .no) .no)))) .no))))
theorem ke:FOk Tryz.prog 309 gl:=fk [(94,kO)] ⟨oN,trivial⟩ Tryz.func309 .no
theorem tV:FOk Tryz.prog 310 nh:=fk [] trivial Tryz.func310 (.two .no (.two .no (.two .no (.two .no (.two (.loop [.slot 0 (.num .i64),.slot 3 .str] (.two .no (.two .no (.two (.two .no (.at [.slot 5 (.num .i64)] .no)) .no)))) .no)))))
theorem xI:FOk Tryz.prog 298 qu:=fk [(309,gl),(310,nh)] ⟨ke,tV,trivial⟩ Tryz.func298 .no
theorem qC:FOk Tryz.prog 299 kP:=fk [(309,gl)] ⟨ke,trivial⟩ Tryz.func299 (.two .no (.two (.two .no (.loop [.slot 4 (.num .i64)] .no)) .no))
theorem AD:FOk Tryz.prog 277 ss:=fk [(298,qu),(299,kP)] ⟨xI,qC,trivial⟩ Tryz.func277 (.two .no (.two (.two .no (.loop [.slot 3 (.num .i64)] .no)) .no))
theorem tW:FOk Tryz.prog 259 ni:=fk [(246,ir),(276,vT),(277,ss)] ⟨kR,C6,AD,trivial⟩ Tryz.func259 (.two .no (.two .no (.two .no (.two (.two .no (.loop [.slot 6 (.num .i64),.box 4 [(.own 181 Ju)]] .no)) .no))))
theorem AE:FOk Tryz.prog 260 su:=fk [(146,bD)] ⟨bR,trivial⟩ Tryz.func260 .no
theorem xJ:FOk Tryz.prog 238 qv:=fk [(259,ni),(260,su)] ⟨tW,AE,trivial⟩ Tryz.func238 .no
theorem rk:FOk Tryz.prog 262 lQ:=fk [] trivial Tryz.func262 .no
end R
namespace R
open Go.RowKit
open D
theorem sH: ∀n,FOk Tryz.prog 239 (lB n)
 | 0=>m7 (f:=lB 0) (enters_of Tryz.func239 (by kernel_rfl) rfl) rfl (fun d=>rfl)
 | n+1=>by
  have ih:=sH n
  exact fk [(110,cA),(144,fh),(146,bD),(239,(lB n)),(261,nY),(262,lQ),(263,lA)] ⟨di,fM,bR,ih,sG,rk,n7,trivial⟩ Tryz.func239 (.two .no (.two .no (.two (.two .no (.two (.two .no (.at [.slot 20 .boo] .no)) (.two .no (.two (.two .no (.at [.slot 33 .boo] .no)) .no)))) .no)))
theorem AF:FOk Tryz.prog 172 sx:=fk [(144,fh),(146,bD),(238,qv),(239,(lB iE))] ⟨fM,bR,xJ,(sH iE),trivial⟩ Tryz.func172 .no
theorem tX:FOk Tryz.prog 217 nj:=fk [(144,fh),(146,bD)] ⟨fM,bR,trivial⟩ Tryz.func217 (.two .no (.two .no (.two .no (.two (.two .no (.loop [.slot 5 (.num .i64),.box 4 [(.num .i64),(.own 4 .bool),(.own 30 y30)],.cur 0] (.two .no (.two (.two .no (.two (.two .no (.loop [.slot 6 (.own 3 y3),.slot 7 (.num .i64),.cur 0] (.two .no (.two (.two .no (.two (.two .no (.at [.slot 8 (.num .i64),.cur 0] .no)) (.two (.two .no (.at [.slot 8 (.num .i64)] .no)) .no))) .no)))) .no)) .no)))) .no))))
theorem sI:FOk Tryz.prog 145 nZ:=fk [(93,lO),(125,iQ),(144,fh),(172,sx),(217,nj)] ⟨ri,nt,fM,AF,tX,trivial⟩ Tryz.func145 .no
theorem AG:FOk Tryz.prog 67 sy:=fk [(110,cA),(145,nZ),(146,bD)] ⟨di,sI,bR,trivial⟩ Tryz.func67 (.two .no (.two .no (.two (.two .no (.at [.cur 0,.box 3 [(.num .i64),(.own 4 y4),(.own 30 y30)]] .no)) .no)))
theorem qD:FOk Tryz.prog 223 mo:=fk [(110,cA),(146,bD)] ⟨di,bR,trivial⟩ Tryz.func223 (.two .no (.two .no (.two (.two .no (.loop [.slot 4 (.num .i64),.cur 0,.box 3 [(.own 3 (.int .i64)),(.own 154 xC)]] .no)) (.two .no (.two (.two .no (.loop [.slot 5 (.num .i64),.slot 6 (.num .i64),.cur 0,.box 3 [(.own 3 (.int .i64)),(.own 154 xC)]] .no)) .no)))))
theorem C7:FOk Tryz.prog 224 vU:=fk [(110,cA),(146,bD),(223,mo)] ⟨di,bR,qD,trivial⟩ Tryz.func224 (.two .no (.two .no (.two (.two .no (.at [.cur 0,.box 3 [(.own 3 y3),(.own 154 xC)]] .no)) .no)))
theorem xK:FOk Tryz.prog 155 qw:=fk [(67,sy),(144,fh),(145,nZ),(223,mo),(224,vU)] ⟨AG,fM,sI,qD,C7,trivial⟩ Tryz.func155 (.two .no (.two .no (.two .no (.two (.two .no (.at [.cur 0,.box 4 [(.own 3 y3),(.own 154 xC)]] .no)) (.two (.two .no (.at [.cur 0,.box 5 [(.num .i64),(.own 4 y4),(.own 30 y30)]] .no)) .no)))))
theorem AH:FOk Tryz.prog 156 sA:=fk [(110,cA),(144,fh),(146,bD)] ⟨di,fM,bR,trivial⟩ Tryz.func156 .no
theorem xL:FOk Tryz.prog 79 qx:=fk [(85,gF),(110,cA),(146,bD),(155,qw),(156,sA)] ⟨jY,di,bR,xK,AH,trivial⟩ Tryz.func79 (.two .no (.two .no (.two .no (.two (.two .no (.at [.cur 0,.box 6 [(.num .i64),(.own 4 y4),(.own 30 y30),(.num .i64),(.own 3 y3),(.own 3 y3)]] .no)) .no))))
theorem FQ:FOk Tryz.prog 80 zm:=fk [(110,cA),(144,fh),(146,bD)] ⟨di,fM,bR,trivial⟩ Tryz.func80 .no
theorem nv:FOk Tryz.prog 21 iR:=fk [(66,vR),(79,qx),(80,zm)] ⟨C4,xL,FQ,trivial⟩ Tryz.func21 .no
theorem kS:FOk Tryz.prog 206 iS:=fk [] trivial Tryz.func206 .no
theorem tY:FOk Tryz.prog 167 nk:=fk [(206,iS)] ⟨kS,trivial⟩ Tryz.func167 .no
theorem fC:FOk Tryz.prog 235 cH:=fk [] trivial Tryz.func235 (.two .no (.two (.two .no (.loop [.slot 8 (.num .i64)] .no)) .no))
theorem qF:FOk Tryz.prog 236 kQ:=fk [] trivial Tryz.func236 .no
theorem tZ:FOk Tryz.prog 168 nl:=fk [(235,cH),(236,kQ)] ⟨fC,qF,trivial⟩ Tryz.func168 .no
end R
namespace R
open Go.RowKit
open D
theorem jz:FOk Tryz.prog 174 gO:=fk [] trivial Tryz.func174 .no
theorem AI:FOk Tryz.prog 237 sB:=fk [(174,gO)] ⟨jz,trivial⟩ Tryz.func237 .no
theorem kg:FOk Tryz.prog 169 gm:=fk [(174,gO),(237,sB)] ⟨jz,AI,trivial⟩ Tryz.func169 (.two .no (.two .no (.two (.two .no (.loop [.slot 14 (.num .i64)] .no)) (.two (.two .no (.loop [.slot 25 (.num .i64)] .no)) .no))))
theorem gq:FOk Tryz.prog 170 dq:=Jr (n:=3) (z:=(⟨.int .i64 0,rfl⟩,⟨.int .i64 0,rfl⟩,⟨.int .i64 0,rfl⟩,⟨.int .i64 0,rfl⟩)) rfl rfl (fok (V:=⟨tt,[],[(13,.raw),(22,.raw),(25,.raw),(31,.raw)],33,[]⟩) FP trivial mixed Tryz.func170 rfl rfl (enters_of Tryz.func170 (by kernel_rfl) rfl) rfl (bd rfl) rfl .no (fun d=>by kernel_rfl))
theorem rl:FOk Tryz.prog 87 lR:=fk [(167,nk),(168,nl),(169,gm),(170,dq)] ⟨tY,tZ,kg,gq,trivial⟩ Tryz.func87 .no
theorem jA:FOk Tryz.prog 124 fL:=fk [(206,iS)] ⟨kS,trivial⟩ Tryz.func124 (.two .no (.two .no (.two (.two .no (.loop [.slot 16 (.num .i64),.box 3 [(.num .i64),(.own 4 y4),(.own 30 y30)]] .no)) .no)))
theorem C8:FOk Tryz.prog 257 vV:=fk [] trivial Tryz.func257 .no
theorem FR:FOk Tryz.prog 232 zn:=fk [(257,vV)] ⟨C8,trivial⟩ Tryz.func232 (.two .no (.two .no (.two (.two .no (.loop [.slot 13 (.num .i64),.row 3 214 MM] .no)) .no)))
theorem qG:FOk Tryz.prog 233 mq:=fk [] trivial Tryz.func233 (.two .no (.two .no (.two (.two .no (.loop [.slot 3 (.own 3 y3),.slot 4 (.num .i64)] (.two .no (.join [.slot 3 (.own 3 y3)] .no .no)))) .no)))
theorem vZ:FOk Tryz.prog 175 oH:=fk [(174,gO)] ⟨jz,trivial⟩ Tryz.func175 .no
theorem iT:FOk Tryz.prog 103 fy:=fk [(175,oH)] ⟨vZ,trivial⟩ Tryz.func103 .no
theorem xM:FOk Tryz.prog 258 qy:=fk [(103,fy)] ⟨iT,trivial⟩ Tryz.func258 (.two .no (.two .no (.two (.two .no (.loop [.slot 7 (.num .i64),.slot 8 (.num .i64)] .no)) .no)))
theorem C9:FOk Tryz.prog 234 vW:=fk [(103,fy),(233,mq),(258,qy)] ⟨iT,qG,xM,trivial⟩ Tryz.func234 (.two .no (.two .no (.two (.two .no (.loop [.slot 9 (.num .i64),.slot 18 (.num .i64)] (.two .no (.two .no (.two (.two .no (.two .no (.loop [.slot 9 (.num .i64),.slot 28 (.num .i64)] (.two .no (.two .no (.join [.slot 9 (.num .i64)] .no .no)))))) .no))))) .no)))
theorem kh:FOk Tryz.prog 164 gp:=fk [(232,zn),(233,mq),(234,vW)] ⟨FR,qG,C9,trivial⟩ Tryz.func164 (.two .no (.two .no (.two .no (.two (.two .no (.loop [.slot 26 (.num .i64),.row 6 30 y30] (.two .no (.two .no (.two (.two .no (.two .no (.loop [.slot 9 (.num .i64),.row 6 30 y30] (.two .no (.two (.two .no (.loop [.slot 38 (.num .i64),.row 6 30 y30] (.two .no (.two .no (.two (.two .no (.two .no (.loop [.slot 55 (.num .i64),.row 6 30 y30] .no))) .no))))) .no))))) .no))))) .no))))
theorem lK:FOk Tryz.prog 97 gx:=fk [(174,gO)] ⟨jz,trivial⟩ Tryz.func97 (.two .no (.two .no (.two .no (.two (.two .no (.loop [.slot 32 (.num .i64)] (.two .no (.two .no (.two (.two .no (.two (.two .no (.loop [.slot 38 (.num .i64)] .no)) .no)) .no))))) .no))))
theorem AJ:FOk Tryz.prog 230 sC:=fk [(97,gx),(169,gm),(174,gO)] ⟨lK,kg,jz,trivial⟩ Tryz.func230 (.two .no (.two (.two .no (.loop [.slot 11 (.num .i64)] .no)) .no))
theorem mu:FOk Tryz.prog 278 iu:=fk [] trivial Tryz.func278 .no
end R
namespace R
open Go.RowKit
open D
theorem mw:FOk Tryz.prog 279 iw:=fk [] trivial Tryz.func279 .no
theorem n8:FOk Tryz.prog 264 jv:=fk [(278,iu),(279,iw)] ⟨mu,mw,trivial⟩ Tryz.func264 .no
theorem iA:FOk Tryz.prog 240 dZ:=fk [(264,jv)] ⟨n8,trivial⟩ Tryz.func240 (.two .no (.two .no (.two .no (.two .no (.two .no (.two .no (.two (.loop [.slot 8 (.num .i64),.row 7 3 (.int .i64)] .no) .no))))))) (an:=[(44,.bool)])
theorem AK:FOk Tryz.prog 231 sD:=fk [(240,dZ)] ⟨iA,trivial⟩ Tryz.func231 (.two .no (.two .no (.two .no (.two (.two .no (.loop [.slot 6 (.own 3 (.int .i64)),.slot 18 (.num .i64),.row 5 3 y3] .no)) (.two (.loop [.slot 6 (.own 3 (.int .i64)),.row 5 3 y3] (.two .no (.two (.two .no (.loop [.slot 6 (.own 3 y3),.slot 42 (.num .i64),.row 5 3 y3] (.two .no (.two .no (.two (.at [.slot 6 (.own 3 y3),.row 5 3 y3] .no) .no))))) .no))) .no))))) (an:=[(34,.bool)])
theorem n9:FOk Tryz.prog 163 jw:=NM (V:=⟨tt,[(164,gp),(230,sC),(231,sD)],[(1000000,.raw)],26,[]⟩) FP ⟨kh,AJ,AK,trivial⟩ mixed Tryz.func163 rfl rfl (enters_of Tryz.func163 (by kernel_rfl) rfl) ⟨rfl,rfl⟩ (bd rfl) rfl .no (fun d=>by kernel_rfl)
theorem jZ:FOk Tryz.prog 83 gH:=fk [(124,fL),(163,jw),(164,gp)] ⟨jA,n9,kh,trivial⟩ Tryz.func83 (.two .no (.two .no (.two .no (.two .no (.two (.two .no (.loop [.slot 33 (.num .i64),.par 21 [] 3 y3] (.two .no (.two .no (.two (.two .no (.two .no (.loop [.slot 40 (.num .i64),.par 21 [] 3 y3] (.two .no (.two .no (.two (.at [.par 21 [] 3 y3] .no) .no)))))) .no))))) .no)))))
theorem gI:FOk Tryz.prog 190 dA:=fk [] trivial Tryz.func190 (.two .no (.two .no (.two (.two .no (.loop [.slot 13 (.num .i64)] .no)) .no)))
theorem cB:FOk Tryz.prog 191 bn:=fk [] trivial Tryz.func191 (.two .no (.two .no (.two (.two .no (.loop [.slot 17 (.num .i64)] .no)) .no)))
theorem eD:FOk Tryz.prog 165 ct:=fk [] trivial Tryz.func165 (.two .no (.two .no (.two (.two .no (.loop [.slot 13 (.num .i64)] .no)) .no)))
theorem my:FOk Tryz.prog 192 ix:=fk [(165,ct)] ⟨eD,trivial⟩ Tryz.func192 .no
theorem oc:FOk Tryz.prog 105 jx:=fk [(190,dA),(191,bn),(192,ix)] ⟨gI,cB,my,trivial⟩ Tryz.func105 .no
theorem rp:FOk Tryz.prog 84 lS:=fk [(105,jx),(165,ct)] ⟨oc,eD,trivial⟩ Tryz.func84 .no
theorem kT:FOk Tryz.prog 25 iy:=fk [(83,gH),(84,lS)] ⟨jZ,rp,trivial⟩ Tryz.func25 .no
theorem v5:FOk Tryz.prog 171 oJ:=fk [(124,fL),(206,iS)] ⟨jA,kS,trivial⟩ Tryz.func171 .no
theorem AL:FOk Tryz.prog 88 sE:=fk [(25,iy),(83,gH),(171,oJ)] ⟨kT,jZ,v5,trivial⟩ Tryz.func88 .no
theorem iB:FOk Tryz.prog 29 eZ:=fk [(87,lR),(88,sE)] ⟨rl,AL,trivial⟩ Tryz.func29 .no
theorem rq:FOk Tryz.prog 22 lT:=fk [(29,eZ)] ⟨iB,trivial⟩ Tryz.func22 (.two .no (.two .no (.two .no (.two .no (.two (.two .no (.loop [.slot 9 (.own 3 y3),.slot 24 (.num .i64)] (.two .no (.two .no (.join [.slot 9 (.own 3 y3)] .no .no))))) .no)))))
end R
namespace R
open Go.RowKit
open D
theorem v7:FOk Tryz.prog 23 oK:=fk [] trivial Tryz.func23 (.two .no (.two .no (.two (.two .no (.loop [.slot 5 (.num .i64)] .no)) .no)))
theorem v8:FOk Tryz.prog 76 qz:=fk [] trivial Tryz.func76 (.two .no (.two (.two .no (.loop [.slot 5 (.num .i64)] .no)) .no))
theorem od:FOk Tryz.prog 17 jy:=fk [(76,qz)] ⟨v8,trivial⟩ Tryz.func17 (.two .no (.two .no (.two (.two .no (.loop [.slot 5 (.num .i64)] .no)) (.two (.two .no (.loop [.slot 6 (.num .i64)] .no)) .no))))
theorem rr:FOk Tryz.prog 86 lU:=fk [(17,jy),(76,qz)] ⟨od,v8,trivial⟩ Tryz.func86 .no
theorem kU:FOk Tryz.prog 26 iz:=fk [(85,gF),(86,lU)] ⟨jY,rr,trivial⟩ Tryz.func26 .no
theorem AM:FOk Tryz.prog 159 sF:=fk [] trivial Tryz.func159 .no
theorem ru:FOk Tryz.prog 81 lV:=fk [(157,jU),(158,gk),(159,sF)] ⟨nq,j9,AM,trivial⟩ Tryz.func81 .no
theorem rv:FOk Tryz.prog 24 lW:=fk [(26,iz),(81,lV),(82,kN)] ⟨kU,ru,oM,trivial⟩ Tryz.func24 (.two .no (.two .no (.two .no (.two .no (.two .no (.two (.two .no (.loop [.slot 7 (.own 3 y3),.slot 11 (.num .i64)] (.two .no (.join [.slot 7 (.own 3 y3)] .no .no)))) .no))))))
theorem ua:FOk Tryz.prog 27 nm:=fk [(83,gH)] ⟨jZ,trivial⟩ Tryz.func27 (.two .no (.two .no (.two .no (.two (.two .no (.loop [.slot 40 (.num .i64)] .no)) .no))))
theorem ub:FOk Tryz.prog 28 np:=fk [(85,gF)] ⟨jY,trivial⟩ Tryz.func28 (.two .no (.two .no (.two .no (.two (.two .no (.loop [.slot 7 (.num .i64)] .no)) .no))))
theorem Jw:FOk Tryz.prog 30 C3:=fk [] trivial Tryz.func30 (.two .no (.two (.two .no (.loop [.slot 5 (.num .i64)] .no)) .no))
theorem ry:FOk Tryz.prog 4 re:=fk [(8,C2),(21,iR),(22,lT),(23,oK),(24,lW),(25,iy),(26,iz),(27,nm),(28,np),(29,eZ),(30,C3)] ⟨Jv,nv,rq,v7,rv,kT,kU,ua,ub,iB,Jw,trivial⟩ Tryz.func4 (.two .no (.two .no (.two .no (.two .no (.two .no (.two .no (.two (.two .no (.loop [.slot 7 (.num .i64)] .no)) (.two .no (.two .no (.two (.two .no (.loop [.slot 10 (.num .i64)] .no)) .no))))))))))
end R
namespace D
open Go.RowKit
theorem rz (x0:List Int) (r:Bool) (hm:fX x0=some r) {I:Hp} {w0:World} (v0_0:Value) (r0_0:(ak 5 rU8).rd I [v0_0] x0) (hL:Lay Tryz.prog I):Con Tryz.prog 4 #[v0_0] I w0 [] (fun v=>v= .bool r) (fun _=>[]):=fun w C hs =>
 ((R.ry).con rfl w0 I undef [v0_0] (x0,()) r hL ⟨_,_,rfl,⟨[v0_0],rfl,r0_0⟩,rfl⟩ hm w C hs).mono fun e w' ⟨v,he,_,hst⟩=>by
  obtain ⟨h1,h2⟩:=R.mN (h1:=fun _=>rfl) (show St I w0 w' (Ch.own R.Ty.bool.rep [v] r::C) from hst)
  exact ⟨v,he,(List.cons.inj h1).1,h2⟩
end D
namespace D
open Go.RowKit
def I64 (n:Int):Prop:= -9223372036854775808<=n/\n<=9223372036854775807
class Data (α:Type) where
 lim:α->Prop
 sm:α->Prop
instance:Data Int:=⟨I64,fun _=>True⟩
instance:Data Bool:=⟨fun _=>True,fun _=>True⟩
instance:Data ByteArray:=⟨fun s=>s.size<=9223372036854775807,fun s=>s.size<=1048576⟩
instance {α β:Type} [Data α] [Data β] :Data (α×β):=⟨fun x=>Data.lim x.1/\Data.lim x.2,fun x=>Data.sm x.1/\Data.sm x.2⟩
instance {α:Type} [Data α] :Data (List α):=⟨fun xs=>xs.length<=9223372036854775807/\ ∀x,x∈xs->Data.lim x,fun xs=>xs.length<=1048576/\ ∀x,x∈xs->Data.sm x⟩
structure Opens (P:Program) (t:TypeId) {α:Type} [Data α] (R:Rep α):Prop where
 out: ∀ {H:Type} (enc:TypeId×Value->H) (w:World) (fuel:Nat) (cs:List Value) (x:DataW H×List MemPlace),DataW.trod enc P w 0 (fun _=>true) true fuel t cs=some x-> ∃a:α,R.rd (hp w) cs a/\Data.lim a
theorem FU {P:Program} {t:TypeId} (h:P.underlying t=some (.int .u8)):Opens P t rU8:=by
 constructor
 intro H enc w fuel cs x hx
 obtain ⟨n,rfl,-,hw⟩:=DataW.trod_int h hx
 refine ⟨n,rfl,show I64 n from ?_⟩
 simp[Lit.wf,IntKind.min,IntKind.max,IntKind.signed,IntKind.bits] at hw
 unfold I64
 omega
theorem xN {P:Program} {t e:TypeId} {α:Type} [Data α] {R:Rep α} {E:TypeId} (h:P.underlying t=some (.slice e)) (hc:P.cellsOf e=R.size) (h0:0<R.size) (he:Opens P e R):Opens P t (ak E R):=by
 constructor
 intro H enc w fuel cs x hx
 rcases Go.Deep.open_slice h hx with ⟨rfl,-⟩ | ⟨a,len,cap,m,n,D,Pl,rfl,-,hl,hm,hmm,-,hel⟩
 ·exact ⟨[],⟨none,0,rfl,by simp,.inl rfl⟩,Nat.zero_le _,fun x hx=>by cases hx⟩
 have hlm:m=cap:=by simpa using hmm
 subst hlm
 rw[hc] at hel
 by_cases hz:len=0
 ·subst hz
  exact ⟨[],⟨some a,m,rfl,by simp,.inl rfl⟩,Nat.zero_le _,fun x hx=>by cases hx⟩
 ·have hone: ∀i,i<len-> ∃c:List Value,∃y:α,c.length=R.size/\(∀j,j<R.size->w.cell? ((a.add (i*R.size)).add j)=c[j]?)/\R.rd (hp w) c y/\Data.lim y:=by
   intro i hi
   obtain ⟨c,h1,h2⟩:=hel i (by omega)
   obtain ⟨-,h3,h4⟩:=World.cells?_some h1
   obtain ⟨y,hy⟩:=he.out enc w _ _ _ h2
   exact ⟨c,y,h3,h4,hy⟩
  obtain ⟨c0,y0,hc0,hr0,-⟩:=hone 0 (by omega)
  have h00:=hr0 0 h0
  have hsome: ∃v,c0[0]? =some v:=⟨_,List.getElem?_eq_getElem (by omega)⟩
  obtain ⟨v,hv⟩:=hsome
  rw[hv] at h00
  have ha:(a.add (0*R.size)).add 0=a:=by simp[Addr.add]
  rw[ha] at h00
  obtain ⟨b,off,spot⟩:=a
  have hb: ∃ccs T fr,w.heap[b]? =some (.cells ccs T fr)/\spot=none:=by
   simp only[World.cell?] at h00
   split at h00
   ·rename_i ccs T fr heq
    cases spot with
    | none=>exact ⟨ccs,T,fr,heq,rfl⟩
    | some s=>simp at h00
   ·simp at h00
  obtain ⟨ccs,T,fr,hh,rfl⟩:=hb
  have hadd: ∀i j,(Addr.add ⟨b,off,none⟩ i).add j=⟨b,off+i+j,none⟩:=by
   intro i j
   by_cases h1:i=0 <;> by_cases h2:j=0 <;> simp[Addr.add,h1,h2,Nat.add_assoc]
  haveI:Inhabited α:=⟨y0⟩
  obtain ⟨X,hX⟩:=Go.Deep.choose_lt (α:=α) (n:=len) (p:=fun i y=> ∃c:List Value,c.length=R.size/\(∀j,j<R.size->ccs.toList[off+i*R.size+j]? =c[j]?)/\R.rd (hp w) c y/\Data.lim y) (fun i hi=>by
   obtain ⟨c,y,h1,h2,h3⟩:=hone i hi
   refine ⟨y,c,h1,fun j hj=>?_,h3⟩
   have:=h2 j hj
   rw[hadd] at this
   simp only[World.cell?,hh] at this
   simpa using this)
  have hlen:((List.range len).map X).length=len:=by simp
  have hel2: ∀i y,((List.range len).map X)[i]? =some y->i<len/\y=X i:=fun i y hy=>by
   have hi:i<len:=by have:=(List.getElem?_eq_some_iff.1 hy).1;omega
   exact ⟨hi,by simpa [hi] using hy.symm⟩
  refine ⟨(List.range len).map X,⟨some ⟨b,off,none⟩,m,by rw[hlen],by rw[hlen];unfold maxLen at hm;unfold lim;omega,.inr ⟨b,off,ccs,T,fr,rfl,hh,fun i y hy=>?_⟩⟩,by rw[hlen];unfold maxLen at hm;omega,fun y hy=>?_⟩
  ·obtain ⟨hi,rfl⟩:=hel2 i y hy
   obtain ⟨c,e1,e2,e3,-⟩:=hX i hi
   exact ⟨c,e1,e2,e3⟩
  ·obtain ⟨i,hi,he⟩:=List.mem_iff_getElem?.1 hy |>.imp fun i hi=>hel2 i y hi
   obtain ⟨-,-,-,-,e4⟩:=hX i hi
   rw[he];exact e4
theorem St.below {w0 w:World} {cs:List Ch} (h:St (hp w0) w0 w cs):Below w0.heap.size w0 w:=by
 obtain ⟨⟨h1,h2,h3,h4⟩,h5,-⟩:=h
 refine ⟨h1,h2,h3,h4,fun b hb=>?_⟩
 have e:w0.heap[b]? =some w0.heap[b]:=Array.getElem?_eq_getElem hb
 rw[e];exact h5 b _ e
end D
namespace D
open Go.RowKit
theorem be {n:Int} (h1: -9223372036854775808<=n) (h2:n<=9223372036854775807):IntKind.i64.wrap n=n:=by
 simp only[IntKind.wrap,IntKind.bits,IntKind.signed,Bool.true_and]
 split <;> rename_i h <;> simp at h <;> omega
theorem aI {i:Nat} (h:i<9223372036854775807):IntKind.i64.wrap ((i:Int)+1)=((i+1:Nat):Int):=by
 rw[be (by omega) (by omega)];rfl
theorem bO {α:Type} {xs:List α} {i:Nat} (h:i<xs.length):aU xs (i:Int)=some (xs[i]):=by
 unfold aU
 rw[if_pos (Int.natCast_nonneg _)]
 simp[h]
theorem jB {i n:Nat} (h:i<n):decide ((i:Int)<(n:Int))=true:=by simp[h]
theorem iC {n:Nat} :decide ((n:Int)<(n:Int))=false:=by simp
theorem oQ (k:Nat) (h:k<=9223372036854775807):k<ba:=by unfold ba;omega
theorem Da {α:Type} {b n:Nat} {z:α} (h:n*b<=140737488355328):mkI b (n:Int) z=some (List.replicate n z):=by
 unfold mkI
 rw[if_pos ⟨Int.natCast_nonneg _,by simpa using h⟩];simp
theorem v9 {R S:Type} {f:S->Option (Out R S)} (inv:Nat->S) (N:Nat) (h: ∀i,i<N->f (inv i)=some (.nxt (inv (i+1)))): ∀(m i k:Nat),i+m=N->aH f (k+m) (inv i)=aH f k (inv N)
 | 0,i,k,e=>by rw[show i=N by omega];rfl
 | m+1,i,k,e=>by
  rw[<-Nat.add_assoc,aH,h i (by omega)]
  exact v9 inv N h m (i+1) k (by omega)
theorem Db {R S:Type} {f:S->Option (Out R S)} (inv:Nat->S) (N:Nat) {s:S} (h: ∀i,i<N->f (inv i)=some (.nxt (inv (i+1)))) (he:f (inv N)=some (.brk s)) (hN:N<ba):aH f ba (inv 0)=some (.brk s):=by
 have e:ba=(ba - N - 1)+1+N:=by omega
 rw[e,v9 inv N h N 0 _ (by omega),aH,he]
theorem Nx {α:Type} [Data α] {f:Int×Int->Option (Out Int (Int×Int))} (xs:List α)
  (hstep: ∀i (h:i<xs.length) l,0<=l->l<=1048576-> ∃r,f (l,(i:Int))=some (if r<0 then .ret (-1) else .nxt (r,((i+1:Nat):Int)))/\(r<0\/(0<=r/\r<=l/\Data.sm xs[i])))
  (hend: ∀l,f (l,(xs.length:Int))=some (.brk (l,(xs.length:Int)))): ∀(m i k:Nat) (l:Int),i+m=xs.length->m<k->0<=l->l<=1048576->
   aH f k (l,(i:Int))=some (.ret (-1))\/ ∃r,aH f k (l,(i:Int))=some (.brk (r,(xs.length:Int)))/\0<=r/\r<=l/\ ∀j (h:j<xs.length),i<=j->Data.sm xs[j]
 | 0,i,k,l,e,hk,h0,h1=>by
  obtain ⟨k,rfl⟩: ∃q,k=q+1:=⟨k - 1,by omega⟩
  obtain rfl:i=xs.length:=by omega
  exact .inr ⟨l,by rw[aH,hend],h0,Int.le_refl _,fun j hj hi=>by omega⟩
 | m+1,i,k,l,e,hk,h0,h1=>by
  obtain ⟨k,rfl⟩: ∃q,k=q+1:=⟨k - 1,by omega⟩
  obtain ⟨r,e1,e2⟩:=hstep i (by omega) l h0 h1
  rw[aH,e1]
  rcases e2 with e2 | ⟨e2,e3,e4⟩
  ·rw[if_pos e2];exact .inl rfl
  ·rw[if_neg (by omega)]
   rcases Nx xs hstep hend m (i+1) k r (by omega) (by omega) e2 (by omega) with h | ⟨q,g1,g2,g3,g4⟩
   ·exact .inl h
   ·refine .inr ⟨q,g1,g2,by omega,fun j hj hi=>?_⟩
    by_cases hji:j=i
    ·subst hji;exact e4
    ·exact g4 j hj (by omega)
theorem szL {α:Type} [Data α] {f:Int×Int->Option (Out Int (Int×Int))} (xs:List α) {l:Int} (hN:xs.length<=9223372036854775807)
  (hstep: ∀i (h:i<xs.length) l,0<=l->l<=1048576-> ∃r,f (l,(i:Int))=some (if r<0 then .ret (-1) else .nxt (r,((i+1:Nat):Int)))/\(r<0\/(0<=r/\r<=l/\Data.sm xs[i])))
  (hend: ∀l,f (l,(xs.length:Int))=some (.brk (l,(xs.length:Int)))) (h0:0<=l) (h1:l<=1048576) :
  ∃r,(if decide (IntKind.i64.wrap (l - (xs.length:Int))<0) then (some (-1)) else (aZ (aH f ba (IntKind.i64.wrap (l - (xs.length:Int)),0)) (fun r=>some r) (fun s4=>some s4.1)))=some r/\(r<0\/(0<=r/\r<=l/\Data.sm xs)):=by
 rw[be (by omega) (by omega)]
 by_cases h:l - (xs.length:Int)<0
 ·exact ⟨-1,by rw[if_pos (decide_eq_true h)],.inl (by decide)⟩
 ·rw[if_neg (by simpa using h)]
  rcases Nx xs hstep hend xs.length 0 ba (l - xs.length) (by omega) (oQ _ hN) (by omega) (by omega) with e | ⟨r,e,g1,g2,g3⟩
  ·exact ⟨-1,by rw[show ((0:Int))=((0:Nat):Int) from rfl,e];rfl,.inl (by decide)⟩
  ·refine ⟨r,by rw[show ((0:Int))=((0:Nat):Int) from rfl,e];rfl,.inr ⟨g1,by omega,by omega,fun x hx=>?_⟩⟩
   obtain ⟨j,hj,rfl⟩:=List.getElem_of_mem hx
   exact g3 j hj (Nat.zero_le _)
theorem MO {α:Type} [DecidableEq α] {f:Int->Option (Out Bool Int)} (xs ys:List α) (hl:xs.length=ys.length)
  (hstep: ∀i (h:i<xs.length) (h':i<ys.length),f (i:Int)=some (if xs[i] =ys[i] then .nxt ((i+1:Nat):Int) else .ret false)) (hend:f (xs.length:Int)=some (.brk (xs.length:Int))): ∀(m i k:Nat),i+m=xs.length->m<k->
   aH f k (i:Int)=some (if xs.drop i=ys.drop i then .brk (xs.length:Int) else .ret false)
 | 0,i,k,e,hk=>by
  obtain ⟨k,rfl⟩: ∃q,k=q+1:=⟨k - 1,by omega⟩
  obtain rfl:i=xs.length:=by omega
  rw[aH,hend,List.drop_of_length_le (aA _),List.drop_of_length_le (by omega),if_pos rfl]
 | m+1,i,k,e,hk=>by
  obtain ⟨k,rfl⟩: ∃q,k=q+1:=⟨k - 1,by omega⟩
  have hi:i<xs.length:=by omega
  have hi':i<ys.length:=by omega
  have d1:=List.drop_eq_getElem_cons hi
  have d2:=List.drop_eq_getElem_cons hi'
  rw[aH,hstep i hi hi',d1,d2]
  by_cases h:xs[i] =ys[i]
  ·rw[if_pos h]
   simp only
   rw[MO xs ys hl hstep hend m (i+1) k (by omega) (by omega)]
   simp only[List.cons.injEq,h,true_and]
  ·rw[if_neg h]
   simp only[List.cons.injEq,h,false_and,if_false]
theorem eqL {α:Type} [DecidableEq α] {f:Int->Option (Out Bool Int)} (xs ys:List α) (hN:xs.length<=9223372036854775807)
  (hstep: ∀i (h:i<xs.length) (h':i<ys.length),f (i:Int)=some (if xs[i] =ys[i] then .nxt ((i+1:Nat):Int) else .ret false)) (hend:f (xs.length:Int)=some (.brk (xs.length:Int))) :
  (if (xs.length:Int) !=(ys.length:Int) then (some false) else (aZ (aH f ba 0) (fun r=>some r) (fun s4=>some true)))=some (decide (xs=ys)):=by
 by_cases hl:xs.length=ys.length
 ·rw[if_neg (by rw[hl];simp),show ((0:Int))=((0:Nat):Int) from rfl,MO xs ys hl hstep hend xs.length 0 ba (by omega) (oQ _ hN)]
  by_cases h:xs=ys
  ·subst h;simp[aZ]
  ·simp[aZ,h]
 ·have:xs≠ys:=fun e=>hl (by rw[e])
  rw[if_pos (by simp;omega)];simp[this]
theorem eqB {α:Type} [DecidableEq α] {f:Int->Option (Out Bool Int)} {K:Option Bool} (xs ys:List α) (hN:xs.length<=9223372036854775807) (hl:xs.length=ys.length)
  (hstep: ∀i (h:i<xs.length) (h':i<ys.length),f (i:Int)=some (if xs[i] =ys[i] then .nxt ((i+1:Nat):Int) else .ret false)) (hend:f (xs.length:Int)=some (.brk (xs.length:Int))) :
  aZ (aH f ba 0) (fun r=>some r) (fun s4=>K)=(if xs=ys then K else some false):=by
 rw[show ((0:Int))=((0:Nat):Int) from rfl,MO xs ys hl hstep hend xs.length 0 ba (by omega) (oQ _ hN)]
 by_cases h:xs=ys
 ·subst h;simp[aZ]
 ·simp[aZ,h]
theorem Lp {f:Int->Option (Out Int Int)} (xs ys:List Int)
  (hstep: ∀i (h:i<xs.length) (h':i<ys.length),f (i:Int)=some (if xs[i] < ys[i] then .ret (-1) else if xs[i] > ys[i] then .ret 1 else .nxt ((i+1:Nat):Int))) (hend: ∀i,xs.length<=i\/ys.length<=i->f (i:Int)=some (.brk (i:Int))): ∀(m i k:Nat),i+m=xs.length->m<k->
   (∃r,aH f k (i:Int)=some (.ret r)/\r≠0/\xs≠ys)\/ ∃s,aH f k (i:Int)=some (.brk s)/\(xs.length=ys.length->xs.drop i=ys.drop i)
 | 0,i,k,e,hk=>by
  obtain ⟨k,rfl⟩: ∃q,k=q+1:=⟨k - 1,by omega⟩
  exact .inr ⟨_,by rw[aH,hend i (.inl (by omega))],fun h=>by rw[List.drop_of_length_le (by omega),List.drop_of_length_le (by omega)]⟩
 | m+1,i,k,e,hk=>by
  obtain ⟨k,rfl⟩: ∃q,k=q+1:=⟨k - 1,by omega⟩
  have hi:i<xs.length:=by omega
  by_cases hi':i<ys.length
  ·have hne: ∀h:xs[i] ≠ys[i],xs≠ys:=fun h e=>h (by subst e;rfl)
   rw[aH,hstep i hi hi']
   by_cases h1:xs[i] < ys[i]
   ·rw[if_pos h1];exact .inl ⟨-1,rfl,by decide,hne (by omega)⟩
   ·rw[if_neg h1]
    by_cases h2:xs[i] > ys[i]
    ·rw[if_pos h2];exact .inl ⟨1,rfl,by decide,hne (by omega)⟩
    ·rw[if_neg h2]
     rcases Lp xs ys hstep hend m (i+1) k (by omega) (by omega) with h | ⟨s,g1,g2⟩
     ·exact .inl h
     ·refine .inr ⟨s,g1,fun hl=>?_⟩
      have h3:xs[i] =ys[i]:=by omega
      rw[List.drop_eq_getElem_cons hi,List.drop_eq_getElem_cons hi',g2 hl,h3]
  ·exact .inr ⟨_,by rw[aH,hend i (.inr (by omega))],fun h=>by omega⟩
instance:LawfulBEq ByteArray where
 eq_of_beq {a b} h:=ByteArray.ext (eq_of_beq (show (a.data==b.data)=true from h))
 rfl {a}:=beq_self_eq_true a.data
theorem wD {α β:Type} (p:α×β):(p.1,p.2)=p:=rfl
theorem fA {α:Type} [Data α] {xs:List α} (h:Data.sm xs):xs.length<=1048576/\ ∀x,x∈xs->Data.sm x:=h
end D
namespace D
open Go.RowKit
theorem dB {R S:Type} {f:S->Option (Out R S)} (Inv:Nat->S->Prop) (Q:Out R S->Prop) (N:Nat)
  (h: ∀i s,i<=N->Inv i s->(i<N/\ ∃s',f s=some (.nxt s')/\Inv (i+1) s')\/ ∃o,f s=some o/\(∀s',o≠ .nxt s')/\Q o) {s:S} (h0:Inv 0 s) (hN:N<ba): ∃o,aH f ba s=some o/\Q o:=by
 have key: ∀(k i:Nat) (s:S),i<=N->N<i+k->Inv i s-> ∃o,aH f k s=some o/\Q o:=by
  intro k
  induction k with
  | zero=>intro i s h1 h2;omega
  | succ k ih =>
   intro i s h1 h2 hI
   rcases h i s h1 hI with ⟨hi,s',e,hI'⟩ | ⟨o,e,hn,hq⟩
   ·obtain ⟨o,e',hq⟩:=ih (i+1) s' (by omega) (by omega) hI'
    exact ⟨o,by rw[aH,e];exact e',hq⟩
   ·refine ⟨o,?_,hq⟩
    rw[aH,e]
    cases o with
    | nxt s'=>exact absurd rfl (hn s')
    | brk s'=>rfl
    | ret r=>rfl
 exact key ba 0 s (by omega) (by omega) h0
theorem jC {R S:Type} {f:S->Option (Out R S)} (Inv:Nat->S->Prop) (N:Nat) (h: ∀i s,i<N->Inv i s-> ∃s',f s=some (.nxt s')/\Inv (i+1) s') (he: ∀s,Inv N s->f s=some (.brk s)) {s:S} (h0:Inv 0 s) (hN:N<ba): ∃s',aH f ba s=some (.brk s')/\Inv N s':=by
 obtain ⟨o,e,s',rfl,h⟩:=dB (f:=f) Inv (fun o=> ∃s',o= .brk s'/\Inv N s') N (fun i s hi hI=>by
  by_cases h1:i<N
  ·exact .inl ⟨h1,h i s h1 hI⟩
  ·obtain rfl:i=N:=by omega
   exact .inr ⟨_,he s hI,(fun s' e=>by cases e),s,rfl,hI⟩) h0 hN
 exact ⟨s',e,h⟩
theorem a6 {R S:Type} {f:S->Option (Out R S)} (st:Nat->S) (N:Nat) (h: ∀i,i<N->f (st i)=some (.nxt (st (i+1)))) (he:f (st N)=some (.brk (st N))) (hN:N<ba):aH f ba (st 0)=some (.brk (st N)):=Db st N h he hN
theorem jd {k:Nat} (h:k<=9223372036854775807):k<ba:=oQ k h
theorem pg {i:Nat} (h:i<=9223372036854775807):IntKind.i64.wrap (i:Int)=(i:Int):=be (by omega) (by omega)
theorem jD {i:Nat} (h:i<=9223372036854775807):IntKind.i64.wrap ((i:Int) - 1)=(i:Int) - 1:=be (by omega) (by omega)
theorem aS {α:Type} {b:Nat} {xs ys:List α} (h:(xs.length+ys.length)*b<=140737488355328):eg b xs ys=some (xs++ys):=by unfold eg;rw[if_pos h]
theorem iD {i n:Nat} :decide ((i:Int)<(n:Int))=decide (i<n):=by simp
theorem dt {R S T:Type} {x:Option (Out R S)} {r:R} {kr:R->Option T} {k:S->Option T} (h:x=some (.ret r)):aZ x kr k=kr r:=by rw[h];rfl
theorem aG {R S T:Type} {x:Option (Out R S)} {s:S} {kr:R->Option T} {k:S->Option T} (h:x=some (.brk s)):aZ x kr k=k s:=by rw[h];rfl
def nth {α:Type} [Inhabited α] (xs:List α) (i:Int):α:=xs.getD i.toNat default
section
variable {α:Type} [Inhabited α] {xs ys:List α}
theorem aE {i:Int} (h0:0<=i) (h1:i<xs.length):aU xs i=some (nth xs i):=by
 unfold aU nth
 rw[if_pos h0]
 have:i.toNat<xs.length:=by omega
 simp[List.getD_eq_getElem?_getD,this]
theorem eE {i:Nat} (h:i<xs.length):nth xs (i:Int)=xs[i]:=by simp[nth,List.getD_eq_getElem?_getD,h]
theorem bK {i:Int} (h0:0<=i) (h1:i<xs.length):nth xs i∈xs:=by
 have:i.toNat<xs.length:=by omega
 have e:nth xs i=xs[i.toNat]:=by simp[nth,List.getD_eq_getElem?_getD,this]
 rw[e];exact List.getElem_mem this
theorem qH {i:Int} (h0:0<=i) (h1:i<xs.length):nth (xs++ys) i=nth xs i:=by
 have:i.toNat<xs.length:=by omega
 simp[nth,List.getD_eq_getElem?_getD,List.getElem?_append_left this]
theorem Dc {β:Type} [Inhabited β] {f:α->β} {i:Int} (h0:0<=i) (h1:i<xs.length):nth (xs.map f) i=f (nth xs i):=by
 have:i.toNat<xs.length:=by omega
 simp[nth,List.getD_eq_getElem?_getD,this]
theorem qI {x:α} (h:x∈xs): ∃i:Nat,i<xs.length/\nth xs (i:Int)=x:=by
 obtain ⟨i,hi,rfl⟩:=List.getElem_of_mem h
 exact ⟨i,hi,eE hi⟩
theorem da {i:Int} {x:α} (h0:0<=i) (h1:i<xs.length):nth (xs.set i.toNat x) i=x:=by
 have:i.toNat<xs.length:=by omega
 simp[nth,List.getD_eq_getElem?_getD,this]
theorem c7 {i j:Int} {x:α} (h0:0<=i) (hj:0<=j) (h:i≠j):nth (xs.set i.toNat x) j=nth xs j:=by
 have:i.toNat≠j.toNat:=by omega
 simp[nth,List.getD_eq_getElem?_getD,List.getElem?_set_ne this]
end
section
variable {κ:Type} [DecidableEq κ]
def nbL (l:List κ):Option κ->List κ
 | none=>l
 | some x=>if x∈l then l else l++ [x]
def nbI (l:List κ):Option κ->Int
 | none=> -1
 | some x=>(l.idxOf x:Int)
def nbS (l:List κ) (os:List (Option κ)):List κ:=os.foldl nbL l
def nbR (l:List κ):List (Option κ)->List Int
 | [] =>[]
 | o::os=>nbI l o::nbR (nbL l o) os
theorem FV (l:List κ) (os:List (Option κ)) (o:Option κ):nbS l (os++ [o])=nbL (nbS l os) o:=by simp[nbS]
theorem zo: ∀(l:List κ) (os:List (Option κ)) (o:Option κ),nbR l (os++ [o])=nbR l os++ [nbI (nbS l os) o]
 | l,[],o=>rfl
 | l,p::os,o=>by
  show nbI l p::nbR (nbL l p) (os++ [o])=nbI l p::nbR (nbL l p) os++ [nbI (nbS (nbL l p) os) o]
  rw[zo (nbL l p) os o];rfl
theorem lD: ∀(l:List κ) (os:List (Option κ)),(nbR l os).length=os.length
 | l,[] =>rfl
 | l,o::os=>by show (nbR (nbL l o) os).length+1=_;rw[lD];rfl
theorem AN (l : List κ) (o : Option κ) : l <+: nbL l o := by
  cases o with
  | none => exact List.prefix_refl l
  | some x => unfold nbL; simp only; split
              · exact List.prefix_refl l
              · exact List.prefix_append l [x]
theorem lE: ∀(l:List κ) (os:List (Option κ)),l <+:nbS l os
 | l,[] =>List.prefix_refl l
 | l,o::os=>(AN l o).trans (lE (nbL l o) os)
theorem Dd {l : List κ} {o : Option κ} (h : l.Nodup) : (nbL l o).Nodup := by
  cases o with
  | none => exact h
  | some x => unfold nbL; simp only; split
              · exact h
              · rename_i hx; exact List.nodup_append.2 ⟨h, by simp, by rintro a ha b hb rfl; simp at hb; exact hx (hb ▸ ha)⟩
theorem wc: ∀ {l:List κ} {os:List (Option κ)},l.Nodup->(nbS l os).Nodup
 | l,[],h=>h
 | l,o::os,h=>wc (l:=nbL l o) (os:=os) (Dd h)
theorem Jx {l : List κ} {o : Option κ} {x : κ} : x ∈ nbL l o ↔ x ∈ l \/ o = some x := by
  cases o with
  | none => simp [nbL]
  | some y => unfold nbL; simp only; split
              · rename_i h; constructor
                · exact .inl
                · rintro (h' | h')
                  · exact h'
                  · simp at h'; exact h' ▸ h
              · simp; exact or_congr Iff.rfl eq_comm
theorem De: ∀ {l:List κ} {os:List (Option κ)} {x:κ},x∈nbS l os↔x∈l\/some x∈os
 | l,[],x=>by simp[nbS]
 | l,o::os,x=>by
  show x∈nbS (nbL l o) os↔_
  rw[De,Jx,List.mem_cons,or_assoc]
  exact or_congr Iff.rfl (or_congr eq_comm Iff.rfl)
theorem xO {l:List κ} {x:κ} (h:x∈l):nbL l (some x)=l:=by simp[nbL,h]
theorem xP {l:List κ} {x:κ} (h:x∉l):nbL l (some x)=l++ [x]:=by simp[nbL,h]
theorem we {l:List κ} {x:κ} (h:x∉l):l.idxOf x=l.length:=List.idxOf_eq_length h
def bfS (nx:κ->List (Option κ)) (first:κ):Nat->List κ
 | 0=>[first]
 | i+1=>match (bfS nx first i)[i]? with
  | some x=>nbS (bfS nx first i) (nx x)
  | none=>bfS nx first i
def bfR (nx:κ->List (Option κ)) (first:κ):Nat->List (List Int)
 | 0=>[]
 | i+1=>bfR nx first i++(match (bfS nx first i)[i]? with
  | some x=>[nbR (bfS nx first i) (nx x)]
  | none=>[])
variable {nx:κ->List (Option κ)} {first:κ}
theorem uc {i:Nat} (h:i<(bfS nx first i).length):bfS nx first (i+1)=nbS (bfS nx first i) (nx ((bfS nx first i)[i])):=by
 rw[bfS,List.getElem?_eq_getElem h]
theorem ph {i:Nat} (h:i<(bfS nx first i).length):bfR nx first (i+1)=bfR nx first i++ [nbR (bfS nx first i) (nx ((bfS nx first i)[i]))]:=by
 rw[bfR,List.getElem?_eq_getElem h]
theorem ee (i:Nat):bfS nx first i <+:bfS nx first (i+1):=by
 rw[bfS]
 split
 ·exact lE _ _
 ·exact List.prefix_refl _
theorem oe {i j:Nat} (h:i<=j):bfS nx first i <+:bfS nx first j:=by
 induction h with
 | refl=>exact List.prefix_refl _
 | step _ ih=>exact ih.trans (ee _)
theorem wg: ∀i,(bfS nx first i).Nodup
 | 0=>by simp[bfS]
 | i+1=>by
  rw[bfS]
  split
  ·exact wc (wg i)
  ·exact wg i
theorem nw {G:κ->Prop} (h0:G first) (h: ∀x,G x-> ∀y,some y∈nx x->G y): ∀i,∀x∈bfS nx first i,G x
 | 0=>by simp[bfS];exact h0
 | i+1=>by
  rw[bfS]
  split
  ·rename_i y hy
   intro x hx
   rcases De.1 hx with hx | hx
   ·exact nw h0 h i x hx
   ·exact h y (nw h0 h i y (List.mem_of_getElem? hy)) x hx
  ·exact nw h0 h i
theorem wh (i:Nat):(bfS nx first i)[0]? =some first:=by
 obtain ⟨t,ht⟩:=oe (nx:=nx) (first:=first) (Nat.zero_le i)
 rw[<-ht];rfl
theorem lF: ∀ {i:Nat},(∀j,j<i->j<(bfS nx first j).length)->(bfR nx first i).length=i
 | 0,_=>rfl
 | i+1,h=>by rw[ph (h i (by omega)),au,lF fun j hj=>h j (by omega)];rfl
def bfE (nx:κ->List (Option κ)) (first:κ) (N:Nat):Prop:=N=(bfS nx first N).length/\ ∀i,i<N->i<(bfS nx first i).length
end
end D
namespace D
open Go.RowKit
theorem zp (x:Int):0<=lZ x 255/\lZ x 255<=255:=by
 have h:(BitVec.ofInt 64 x &&& BitVec.ofInt 64 255).toNat<=255:=by
  rw[BitVec.toNat_and]
  exact Nat.le_trans Nat.and_le_right (by decide)
 unfold lZ
 rw[be (by omega) (by omega)]
 omega
def gr (xs:List Int) (i:Int):Prop:=0<=i/\i<=(xs.length:Int)
section
variable {xs:List Int} {i h:Int}
theorem MP (hl:xs.length<=1048576): ∃r:Int×Int,m8 xs=some r/\gr xs r.1:=by
 have key: ∃s,aH (iK xs) ba (IntKind.i64.wrap (10101+(xs.length:Int)),0)=some (.brk s):=by
  obtain ⟨o,e,s,rfl⟩:=dB (f:=iK xs) (fun j s=>s.2=(j:Int)) (fun o=> ∃s,o= .brk s) xs.length (fun j s hj hb=>by
   obtain ⟨a,b⟩:=s
   obtain rfl:b=(j:Int):=hb
   unfold iK
   simp only
   rw[iD]
   by_cases c0:j<xs.length
   ·rw[if_pos (by simpa using c0)]
    by_cases c:((j:Nat):Int)<4000
    ·rw[if_pos (by simpa using c),aE (by omega) (by omega)];simp only[aa]
     exact .inl ⟨c0,_,rfl,by show IntKind.i64.wrap ((j:Int)+1)=_;rw[be (by omega) (by omega)];omega⟩
    ·rw[if_neg (by simpa using c)]
     exact .inr ⟨_,rfl,(fun s' e=>by cases e),_,rfl⟩
   ·rw[if_neg (by simpa using c0)]
    exact .inr ⟨_,rfl,(fun s' e=>by cases e),_,rfl⟩) (s:=(IntKind.i64.wrap (10101+(xs.length:Int)),0)) rfl (jd (by omega))
  exact ⟨s,e⟩
 obtain ⟨s,hs⟩:=key
 unfold m8
 rw[aG hs]
 exact ⟨_,rfl,by show (0:Int)<=0;omega,by show (0:Int)<=_;omega⟩
theorem wi (hl:xs.length<=1048576) (hc:gr xs i): ∃r:Int×Int×Int,fe (xs,i,h)=some r/\(0<=r.1/\r.1<=255)/\gr xs r.2.1:=by
 unfold fe
 simp only
 by_cases c:i<(xs.length:Int)
 ·rw[if_pos (by simpa using c),aE hc.1 c];simp only[aa]
  refine ⟨_,rfl,zp _,?_⟩
  show gr xs (IntKind.i64.wrap (i+1))
  have:=hc.1
  rw[be (by omega) (by omega)]
  exact ⟨by omega,by omega⟩
 ·rw[if_neg (by simpa using c)];simp only[aa]
  exact ⟨_,rfl,zp _,hc⟩
theorem bS (hl:xs.length<=1048576) (hc:gr xs i) {n:Int} (hn:0<n): ∃r:Int×Int×Int,aN (xs,i,h) n=some r/\(0<=r.1/\r.1<n)/\gr xs r.2.1:=by
 unfold aN
 simp only
 rw[if_neg (by simpa using hn)]
 have hck:chk (n≠0)=some ():=by unfold chk;rw[if_pos (by omega)]
 by_cases c:n<=256
 ·rw[if_pos (by simpa using c)]
  obtain ⟨r,e,h1,h2⟩:=wi (h:=h) hl hc
  rw[e,hck];simp only[aa]
  exact ⟨_,rfl,⟨Int.tmod_nonneg _ h1.1,Int.tmod_lt_of_pos _ hn⟩,h2⟩
 ·rw[if_neg (by simpa using c)]
  obtain ⟨r1,e1,h1,k1⟩:=wi (h:=h) hl hc
  rw[e1];simp only[aa]
  obtain ⟨r2,e2,h2,k2⟩:=wi (h:=r1.2.2) hl k1
  rw[e2];simp only[aa]
  obtain ⟨r3,e3,h3,k3⟩:=wi (h:=r2.2.2) hl k2
  rw[e3];simp only[aa]
  obtain ⟨r4,e4,h4,k4⟩:=wi (h:=r3.2.2) hl k3
  rw[e4,hck];simp only[aa]
  have w1:IntKind.i64.wrap (r1.1*16777216)=r1.1*16777216:=be (by omega) (by omega)
  have w2:IntKind.i64.wrap (r2.1*65536)=r2.1*65536:=be (by omega) (by omega)
  have w3:IntKind.i64.wrap (r3.1*256)=r3.1*256:=be (by omega) (by omega)
  have w4:IntKind.i64.wrap (r1.1*16777216+r2.1*65536)=r1.1*16777216+r2.1*65536:=be (by omega) (by omega)
  have w5:IntKind.i64.wrap (r1.1*16777216+r2.1*65536+r3.1*256)=r1.1*16777216+r2.1*65536+r3.1*256:=be (by omega) (by omega)
  have w6:IntKind.i64.wrap (r1.1*16777216+r2.1*65536+r3.1*256+r4.1)=r1.1*16777216+r2.1*65536+r3.1*256+r4.1:=be (by omega) (by omega)
  rw[w1,w2,w3,w4,w5,w6]
  exact ⟨_,rfl,⟨Int.tmod_nonneg _ (by omega),Int.tmod_lt_of_pos _ hn⟩,k4⟩
theorem ny (hl:xs.length<=1048576) (hc:gr xs i) {n:Int} (hn:0<n): ∃r:Bool×Int×Int,cw (xs,i,h) n=some r/\gr xs r.2.1:=by
 obtain ⟨r,e,-,k⟩:=bS (h:=h) hl hc hn
 unfold cw
 simp only
 rw[e]
 exact ⟨_,rfl,k⟩
theorem cC (hl:xs.length<=1048576) (hc:gr xs i) {l:List Int} (h0:l≠ []): ∃r:Int×Int×Int,aX (xs,i,h) l=some r/\r.1∈l/\gr xs r.2.1:=by
 have hp:0<(l.length:Int):=by have:=List.length_pos_iff.2 h0;omega
 obtain ⟨r,e,h1,k⟩:=bS (h:=h) hl hc hp
 unfold aX
 simp only
 rw[e];simp only[aa]
 rw[aE h1.1 h1.2];simp only[aa]
 exact ⟨_,rfl,bK h1.1 h1.2,k⟩
theorem Lq (hl:xs.length<=1048576) (hc:gr xs i) {l:List ByteArray} (h0:l≠ []): ∃r:ByteArray×Int×Int,lu (xs,i,h) l=some r/\r.1∈l/\gr xs r.2.1:=by
 have hp:0<(l.length:Int):=by have:=List.length_pos_iff.2 h0;omega
 obtain ⟨r,e,h1,k⟩:=bS (h:=h) hl hc hp
 unfold lu
 simp only
 rw[e];simp only[aa]
 rw[aE h1.1 h1.2];simp only[aa]
 exact ⟨_,rfl,bK h1.1 h1.2,k⟩
end
end D
namespace D
open Go.RowKit
abbrev AutT:=Int×(List Bool)×(List (List Int))
structure VA (a:AutT) (n:Nat):Prop where
 len:a.2.1.length=n
 start:0<=a.1/\a.1<n
 nlen:a.2.2.length=n
 row: ∀r∈a.2.2,r.length=9
 ent: ∀r∈a.2.2,∀t∈r,-1<=t/\t<n
def mv (a:AutT) (s:Int) (k:Nat):Int:=nth (nth a.2.2 s) k
theorem Kh (x l h:Int):cK x l h=some (decide (l<=x/\x<=h)):=by
 unfold cK
 by_cases c:l<=x
 ·simp[c]
 ·have: ¬l<=x/\True:=⟨c,trivial⟩
  simp[c]
theorem Hi (x l h:Int):bN x l h=some (decide (l<=x/\x<=h)):=by
 unfold bN
 by_cases c:l<=x
 ·simp[c]
 ·simp[c]
theorem scan {α R:Type} [Inhabited α] {f:Int->Option (Out R Int)} (xs:List α) (p:α->Prop) [DecidablePred p] (r:R) (hN:xs.length<=9223372036854775807)
  (h: ∀i:Nat,i<xs.length->f (i:Int)=some (if p (nth xs i) then .nxt ((i+1:Nat):Int) else .ret r)) (he:f (xs.length:Int)=some (.brk (xs.length:Int))) :
  (aH f ba 0=some (.brk (xs.length:Int))/\ ∀x∈xs,p x)\/(aH f ba 0=some (.ret r)/\ ¬ ∀x∈xs,p x):=by
 obtain ⟨o,e,hq⟩:=dB (f:=f) (fun i s=>s=(i:Int)/\ ∀j:Nat,j<i->p (nth xs j)) (fun o=>(o= .brk (xs.length:Int)/\ ∀x∈xs,p x)\/(o= .ret r/\ ¬ ∀x∈xs,p x)) xs.length (s:=0) (by
  rintro i s hi ⟨rfl,hp⟩
  by_cases hl:i<xs.length
  ·by_cases c:p (nth xs i)
   ·refine .inl ⟨hl,_,by rw[h i hl,if_pos c],rfl,fun j hj=>?_⟩
    by_cases e:j=i
    ·subst e;exact c
    ·exact hp j (by omega)
   ·refine .inr ⟨_,by rw[h i hl,if_neg c],(fun s' e=>by cases e),.inr ⟨rfl,fun hx=>c (hx _ (bK (by omega) (by omega)))⟩⟩
  ·obtain rfl:i=xs.length:=by omega
   refine .inr ⟨_,he,(fun s' e=>by cases e),.inl ⟨rfl,fun x hx=>?_⟩⟩
   obtain ⟨j,hj,rfl⟩:=qI hx
   exact hp j hj) ⟨rfl,by omega⟩ (jd hN)
 rcases hq with ⟨rfl,hq⟩ | ⟨rfl,hq⟩
 ·exact .inl ⟨e,hq⟩
 ·exact .inr ⟨e,hq⟩
section
variable {a:AutT} {n:Nat} (V:VA a n)
include V
theorem VA.pos:0<n:=by have:=V.start;omega
theorem VA.rowAt {s:Int} (h0:0<=s) (h1:s<n):(nth a.2.2 s).length=9:=V.row _ (bK h0 (by rw[V.nlen];exact h1))
theorem VA.mv {s:Int} {k:Nat} (h0:0<=s) (h1:s<n) (hk:k<9): -1<=mv a s k/\mv a s k<n:=
 V.ent _ (bK h0 (by rw[V.nlen];exact h1)) _ (bK (by omega) (by rw[V.rowAt h0 h1];omega))
theorem VA.get {s:Int} (h0:0<=s) (h1:s<n):aU a.2.2 s=some (nth a.2.2 s):=aE h0 (by rw[V.nlen];exact h1)
theorem VA.get2 {s:Int} {k:Nat} (h0:0<=s) (h1:s<n) (hk:k<9):aU (nth a.2.2 s) (k:Int)=some (D.mv a s k):=aE (by omega) (by rw[V.rowAt h0 h1];omega)
theorem zq {s:Int} {k:Nat} (h0:0<=s) (h1:s<n) (hk:k<9):bc a s (k:Int)=some (mv a s k):=by
 unfold bc kK
 rw[if_neg (by simp;omega),Hi];simp only[aa]
 rw[if_pos (by simp;omega),V.get h0 h1];simp only[aa]
 rw[V.get2 h0 h1 hk];rfl
end
end D
end Go.Proofs.YtobhhnobjflbnaaGreat
