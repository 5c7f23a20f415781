/- FnRegistry: for every input the law returns true and changes nothing that was there. Part 5 of 7. -/
import Derived.Test.YtbhafdfiplkacaaGreatRC3
set_option linter.unusedVariables false
set_option linter.unusedSimpArgs false
set_option linter.unnecessarySimpa false
set_option linter.unusedSectionVars false
set_option maxRecDepth 1000000
namespace Go.Proofs.YtbhafdfiplkacaaGreat
namespace R
open Go.RowKit
open D
def GB (i:Nat):(p:PM)->p.den->AV
 | .rd t,d=>EC i t d
 | .ow t,d=>EX (ic i [] t d)
 | .fn a b,d=>.one (.fn ⟨i,[]⟩ a b d)
 | .cap T t,d=>.one (.fz ⟨i,[]⟩ T t d 0)
 | .capf T a b,d=>.one (.fzf ⟨i,[]⟩ T a b d)
 | .ptr _ _,_=>.one (.ptr ⟨i,[]⟩ 0)
 | .eat t,d=>EX (ic i [] t d)
 | .fk g,_=>.one (.val (.func (.func g) #[] #[]))
 | .crs _ _,_=>.one (.ptr ⟨i,[]⟩ 0)
def Cx (q i:Nat):(p:PM)->p.den->List (Hdr×Chk)
 | .ow t,d=>iG i [] t d
 | .ptr T t,d=>[(⟨i,[]⟩,.box T t d)]
 | .eat t,d=>iG i [] t d
 | .crs T E,d=>[(⟨i,[]⟩,.blk T [.rd ⟨q,[]⟩ (.sl E (.int .u8)) d.1,.val (.int .i64 d.2.1),.val (.int .i64 d.2.2)])]
 | _,_=>[]
def Cy:(i:Nat)->(ps:List PM)->denP ps->List (Nat×Nat×AV)
 | _,[],_=>[]
 | i,p::ps,d=>(i,i,GB i p d.1)::Cy (i+1) ps d.2
def zE (q:Nat):(i:Nat)->(ps:List PM)->denP ps->List Ent
 | _,[],_=>[]
 | i,p::ps,d=>(Cx q i p d.1).map (fun g=>(g.1,i,g.2))++zE q (i+1) ps d.2
def uj (ps:List PM) (d:denP ps):Sg:=⟨Cy 0 ps d,zE ps.length 0 ps d,ps.length+1⟩
def Ra (P:Program) (w0:World) (J:Hp) (θ:Th) (n i:Nat):(p:PM)->Value->p.den->Prop
 | .ow t,v,d=>(ic i [] t d).2.map (·.v θ)=gp t.isProd v/\ ∀x∈(ic i [] t d).2,x.ok P w0 J θ n
 | .ptr _ _,v,_=>hv θ ⟨i,[]⟩=v/\i<n
 | .crs _ _,v,_=>hv θ ⟨i,[]⟩=v/\i<n
 | _,_,_=>True
def StF (P:Program) (w0:World) (J:Hp) (θ:Th) (n:Nat):(i:Nat)->(ps:List PM)->List Value->denP ps->Prop
 | i,p::ps,v::vs,d=>Ra P w0 J θ n i p v d.1/\StF P w0 J θ n (i+1) ps vs d.2
 | _,_,_,_=>True
section
variable {P:Program} {w0 w:World} {J:Hp} {θ:Th} {n:Nat} {C:List Ch}
theorem rU {id:Nat} {pre:List Nat} {t:Ty} {d:t.den} : ∀g∈iG id pre t d,Ix g.2:=fC t d 0
theorem GC {p:PM} {i:Nat} {v:Value} {d:p.den} {ps:List PM} {vs:List Value} {e:denP ps} {γ:Value} {q:Nat} (hi:i<n) (hq:q<n) (hγ:θ q=γ) (hθ:θ i=v) (h:Qo P w0 J γ p v d) (hS:St J w0 w (owCh γ (p::ps) (v::vs) (d,e)++C)) :
  (∀chs,(GB i p d).ok P w0 J θ n chs)/\(GB i p d).v θ=v/\St J w0 w ((Cx q i p d).map (fun g=>toCh P θ (g.1,i,g.2))++(owCh γ ps vs e++C))/\(∀g∈Cx q i p d,Mw P w0 J θ n g.2/\g.1.id=i)/\Ra P w0 J θ n i p v d:=by
 cases p with
 | rd t =>
  obtain ⟨cs,h1,h2⟩:=h
  have hav:=fun chs=>lF (P:=P) (w0:=w0) (J:=J) (chs:=chs) hi hθ t d cs h2 h1
  exact ⟨fun chs=>(hav chs).1,(hav []).2,hS,fun g hg=>(by cases hg),trivial⟩
 | fn a b =>
  have hh:hv θ ⟨i,[]⟩=v:=hθ
  exact ⟨fun chs=>⟨hi,by rw[hh];exact h⟩,hh,hS,fun g hg=>(by cases hg),trivial⟩
 | cap T t =>
  obtain ⟨b,rfl,cells,h1,h2⟩:=h
  have hh:hv θ ⟨i,[]⟩= .pointer (some ⟨b,0,none⟩):=hθ
  refine ⟨fun chs=>⟨hi,cells,by rw[hh];exact h1,h2⟩,?_,hS,fun g hg=>(by cases hg),trivial⟩
  show Value.pointer (some ⟨bk (hv θ ⟨i,[]⟩),0,none⟩)=_
  rw[hh];rfl
 | capf T x y =>
  obtain ⟨b,rfl,u,h1,h2⟩:=h
  have hh:hv θ ⟨i,[]⟩= .pointer (some ⟨b,0,none⟩):=hθ
  refine ⟨fun chs=>⟨hi,u,by rw[hh];exact h1,h2⟩,?_,hS,fun g hg=>(by cases hg),trivial⟩
  show Value.pointer (some ⟨bk (hv θ ⟨i,[]⟩),0,none⟩)=_
  rw[hh];rfl
 | ptr T t =>
  obtain ⟨b,rfl⟩:=h
  have hh:hv θ ⟨i,[]⟩= .pointer (some ⟨b,0,none⟩):=hθ
  refine ⟨fun chs=>hi,?_,?_,fun g hg=>by obtain rfl:=ak hg;exact ⟨.inl trivial,rfl⟩,hh,hi⟩
  ·show Value.pointer (some ⟨bk (hv θ ⟨i,[]⟩),0,none⟩)=_
   rw[hh];rfl
  ·show St J w0 w (Ch.box (bk (hv θ ⟨i,[]⟩)) T t.rep d::_)
   rw[hh];exact hS
 | ow t =>
  have hS:St J w0 w (Ch.own t.rep (gp t.isProd v) d::(owCh γ ps vs e++C)):=hS
  obtain ⟨k1,k2,k3,k4,k5⟩:=pS (P:=P) (m:=i) (pre:=[]) (id:=i) (n:=n) hi (show hv θ ⟨i,[]⟩=v from hθ) h hS
  have q:=fun chs=>xk (P:=P) (w0:=w0) (J:=J) (θ:=θ) (n:=n) (chs:=chs) (ic i [] t d) (fun e=>nh e) k1
  exact ⟨fun chs=>(q chs).1,(q []).2.trans k3,k5,fun g hg=>⟨.inl (rU g hg),k4 g hg⟩,k2,k1⟩
 | eat t =>
  have hS:St J w0 w (Ch.own t.rep (gp t.isProd v) d::(owCh γ ps vs e++C)):=hS
  obtain ⟨k1,k2,k3,k4,k5⟩:=pS (P:=P) (m:=i) (pre:=[]) (id:=i) (n:=n) hi (show hv θ ⟨i,[]⟩=v from hθ) h hS
  have q:=fun chs=>xk (P:=P) (w0:=w0) (J:=J) (θ:=θ) (n:=n) (chs:=chs) (ic i [] t d) (fun e=>nh e) k1
  exact ⟨fun chs=>(q chs).1,(q []).2.trans k3,k5,fun g hg=>⟨.inl (rU g hg),k4 g hg⟩,trivial⟩
 | fk g =>
  obtain rfl:=h
  exact ⟨fun chs=>rfl,rfl,hS,fun g hg=>(by cases hg),trivial⟩
 | crs T E =>
  obtain ⟨⟨b,rfl⟩,hrd⟩:=h
  have hh:hv θ ⟨i,[]⟩= .pointer (some ⟨b,0,none⟩):=hθ
  have hg0:hv θ ⟨q,[]⟩=γ:=hγ
  refine ⟨fun chs=>hi,?_,?_,fun g hg=>?_,hh,hi⟩
  ·show Value.pointer (some ⟨bk (hv θ ⟨i,[]⟩),0,none⟩)=_
   rw[hh];rfl
  ·show St J w0 w (Ch.blk (bk (hv θ ⟨i,[]⟩)) [hv θ ⟨q,[]⟩,.int .i64 d.2.1,.int .i64 d.2.2] T::_)
   rw[hh,hg0];exact hS
  ·obtain rfl:=ak hg
   refine ⟨.inr ⟨_,_,rfl,fun z hz=>?_⟩,rfl⟩
   rcases ax hz with rfl | hz
   ·exact ⟨hq,by rw[hg0];exact hrd⟩
   ·rcases ax hz with rfl | hz
    ·exact Eq.refl true
    ·obtain rfl:=ak hz
     exact Eq.refl true
theorem Cz {γ:Value} {q:Nat} (hq:q<n) (hγ:θ q=γ): ∀ {ps:List PM} {i:Nat} {vs:List Value} {d:denP ps} {C:List Ch},PArgs P w0 J γ ps vs d->(∀j v,vs[j]? =some v->θ (i+j)=v)->i+ps.length<=n->St J w0 w (owCh γ ps vs d++C)->
  (∀e∈Cy i ps d,(∀chs,e.2.2.ok P w0 J θ n chs)/\i<=e.1/\e.2.1=e.1/\e.1<i+ps.length/\vs[e.1 - i]? =some (e.2.2.v θ))/\((Cy i ps d).Pairwise fun a b=>a.2.1≠b.2.1)/\St J w0 w ((zE q i ps d).map (toCh P θ)++C)/\(∀e∈zE q i ps d,∀chs,okE P w0 J θ n chs e)/\StF P w0 J θ n i ps vs d
 | [],i,vs,d,C,h,_,_,hS=>by
  have h:vs= []:=h
  subst h
  exact ⟨fun e he=>(by cases he),List.Pairwise.nil,hS,fun e he=>(by cases he),trivial⟩
 | p::ps,i,vs,d,C,h,hθ,hn,hS=>by
  obtain ⟨v,r,rfl,h1,h3⟩:=h
  rw[au] at hn
  obtain ⟨a1,a2,a3,a4,a5⟩:=GC (n:=n) (i:=i) (θ:=θ) (e:=d.2) (show i<n by omega) hq hγ (hθ 0 v rfl) h1 hS
  obtain ⟨k1,k2,k3,k4,k5⟩:=Cz hq hγ (i:=i+1) h3 (fun j u hj=>by
   have:=hθ (j+1) u hj
   rwa [show i+(j+1)=i+1+j from by omega] at this) (by omega) (a3.perm (List.perm_append_comm_assoc _ _ _))
  refine ⟨fun e he=>?_,List.pairwise_cons.2 ⟨fun e he hh=>?_,k2⟩,?_,fun e he chs=>?_,a5,k5⟩
  ·rcases ax he with rfl | he
   ·exact ⟨a1,aB _,rfl,by rw[au];show i<_;omega,by show (v::r)[i - i]? =_;rw[Nat.sub_self,a2];rfl⟩
   ·obtain ⟨q1,q2,q3,q4,q5⟩:=k1 e he
    refine ⟨q1,by omega,q3,by rw[au];omega,?_⟩
    rw[show e.1 - i=(e.1 - (i+1))+1 from by omega];exact q5
  ·have:=k1 e he
   have hh:i=e.2.1:=hh
   omega
  ·show St J w0 w (((Cx q i p d.1).map _++zE q (i+1) ps d.2).map (toCh P θ)++C)
   rw[aK,List.map_map]
   refine k3.perm ?_
   rw[ai]
   exact List.perm_append_comm_assoc _ _ _
  ·rcases aD he with he | he
   ·obtain ⟨g,hg,rfl⟩:=List.mem_map.1 he
    obtain ⟨g1,g2⟩:=a4 g hg
    exact xp g1 (aB _) (by omega) (by omega)
   ·exact k4 e he chs
theorem zF {γ:Value} : ∀ {ps:List PM} {vs:List Value} {d:denP ps},PArgs P w0 J γ ps vs d->vs.length=ps.length
 | [],vs,d,h=>by
  have h:vs= []:=h
  subst h;rfl
 | p::ps,vs,d,h=>by
  obtain ⟨v,r,rfl,h1,h3⟩:=h
  simpa using zF h3
end
def Nk (tt:TT) (s:Sg):ResultVar->Option AV
 | .tmp t=>look s.env t
 | .cell p T=>(HT (look s.env p)).bind fun h=>(td tt T).bind fun d=>(o7 h s.chs).bind fun b=>bM (Nat.beq b.cells.length d.n) (Qm d.agg b.cells)
theorem Nl {v:Option AV} {h:Hdr} (k:HT v=some h):v=some (.one (.ptr h 0)):=by
 unfold HT at k
 split at k
 ·rename_i h' off
  split at k
  ·rename_i ho
   rw[al ho,ae k]
  ·cases k
 ·cases k
section
variable {P:Program} {I:Hp} {w0 w:World} {F:Ch} {J:Hp} {θ:Th} {n:Nat} {s:Sg} {a:Act} {tt:TT}
theorem Nm (ha:Agr n a (envL θ s)) {t g:Nat} {T E:TypeId} {v:Value} {cs:List Ch} (h:(envL θ s).lookup t=some (.pointer (some ⟨g,0,none⟩))) (hs:St J w0 w cs) (i:Nat) (hi:cs[i]? =some (Ch.blk g [v] E)) (hT:TI P T false 1):As P a w (.cell t T) v:=by
 refine ⟨_,ha.2.2 t _ h,?_⟩
 have hg:=hs.heap i hi
 have hc:w.cell? ⟨g,0,none⟩=some v:=by simp[World.cell?,hg]
 simp[loadVar,Sem.run_bind,hT.run_agg,load,Sem.run,hc,Result.andThen]
theorem JE (hT:TTok P tt) (hS:Sim P I w0 F n J θ s a w) {r:ResultVar} {v:AV} (h:Nk tt s r=some v):As P a w r (v.v θ)/\v.ok P w0 J θ s.nxt s.chs:=by
 cases r with
 | tmp t=>exact ⟨LG hS.agr (eZ h),bz (x:=.tmp t) hS.fine h⟩
 | cell p T =>
  obtain ⟨hh,h1,h⟩:=bind_some (show (HT (look s.env p)).bind _=some v from h)
  obtain ⟨d,hd,h⟩:=bind_some h
  obtain ⟨b,hb,h⟩:=bind_some h
  obtain ⟨hl,h⟩:=aj h
  have hl:=al hl
  have hp:=hY hb
  have hok:=hS.fine.chs _ (hp.mem_iff.2 (List.mem_cons_self ..))
  obtain ⟨k1,k2⟩:=ER (chs:=s.chs) h hok.2.2
  refine ⟨?_,k1⟩
  have hlk:(envL θ s).lookup p=some (.pointer (some ⟨bk (hv θ hh),0,none⟩)):=eZ (Nl h1)
  have hst:=hS.st.perm ((hp.map (toCh P θ)).append_right [F])
  have hti:=(hT.get hd).ti
  cases hagg:d.agg with
  | true =>
   rw[hagg] at k2 hti
   rw[<-k2]
   exact H0 hS.agr hlk hst 0 rfl hti (by rw[List.length_map];exact hl)
  | false =>
   rw[hagg] at k2 hti h
   have h1':d.n=1:=by
    have:=(hT.get hd).one
    rw[hagg] at this
    simpa using this
   obtain ⟨x,hx⟩:=List.length_eq_one_iff.1 (hl.trans h1')
   rw[h1'] at hti
   rw[hx] at k2
   rw[<-k2]
   have hst2:St J w0 w (Ch.blk (bk (hv θ hh)) [x.v θ] b.T::(b.rest.map (toCh P θ)++ [F])):=by
    have:(toCh P θ (b.ent hh))=Ch.blk (bk (hv θ hh)) (b.cells.map (·.v θ)) b.T:=rfl
    rw[hx] at this
    rw[<-show toCh P θ (b.ent hh)=Ch.blk (bk (hv θ hh)) [x.v θ] b.T from this]
    exact hst
   exact Nm hS.agr hlk hst2 0 rfl hti
end
def Bb:(ts:List Ty)->List AV->List Ent->Option (gm ts×List Ent×List Ent)
 | [],[],chs=>some ((),[],chs)
 | t::ts,v::vs,chs=>bM (pV v==t.isProd) ((gK v).bind fun cs=>(cV t cs chs).bind fun q=>bM q.cells.isEmpty ((Bb ts vs q.rest).bind fun r=>some ((q.d,r.1),q.used++r.2.1,r.2.2)))
 | _,_,_=>none
def rk:(ts:List Ty)->List Value->gm ts->List Ch
 | t::ts,v::vs,d=>Ch.own t.rep (gp t.isProd v) d.1::rk ts vs d.2
 | _,_,_=>[]
theorem wq {P:Program} {w0:World} {J:Hp} {θ:Th} {n:Nat} {chs0:List Ent} : ∀ {ts:List Ty} {vs:List AV} {chs:List Ent} {r:gm ts×List Ent×List Ent},Bb ts vs chs=some r->(∀v∈vs,v.ok P w0 J θ n chs0)->
  chs.Perm (r.2.1++r.2.2)/\vs.length=ts.length/\lh J (r.2.1.map (toCh P θ)) (rk ts (vs.map (·.v θ)) r.1)/\ ∀(i:Nat) t v,ts[i]? =some t->vs[i]? =some v->lE (v.v θ)=t.isProd
 | [],[],chs,r,h,_=>by
  obtain rfl:=ae (show some _=some r from h)
  exact ⟨List.Perm.refl _,rfl,pK,fun i t v ht=>by simp at ht⟩
 | t::ts,v::vs,chs,r,h,hv'=>by
  obtain ⟨ha,h⟩:=aj (show bM (pV v==t.isProd) _=some r from h)
  have ha:pV v=t.isProd:=by simpa using ha
  obtain ⟨cs,hcs,h⟩:=bind_some h
  obtain ⟨q,hq,h⟩:=bind_some h
  obtain ⟨he,h⟩:=aj h
  obtain ⟨r',hr,h⟩:=bind_some h
  obtain rfl:=ae h
  obtain ⟨c1,c2⟩:=fR hcs (hv' v (by simp))
  obtain ⟨p,cc,e1,e2⟩:=gL (J:=J) (θ:=θ) hq c1
  rw[List.isEmpty_iff.1 he,List.append_nil] at e1
  subst e1
  obtain ⟨k1,k2,k3,k4⟩:=wq hr fun x hx=>hv' x (by simp[hx])
  have hcell:gp t.isProd (v.v θ)=cs.map (·.v θ)/\lE (v.v θ)=t.isProd:=by
   rw[<-ha]
   cases v with
   | agg xs =>
    obtain rfl:=ae (show some xs=some cs from hcs)
    exact ⟨rfl,rfl⟩
   | one x =>
    obtain rfl:=ae (show some [x] =some cs from hcs)
    refine ⟨rfl,?_⟩
    have h1:(x.v θ).oneCell'=true:=LV.one (show LV.ok P w0 J θ n x from hv' (.one x) (by simp))
    show lE (x.v θ)=false
    generalize x.v θ=u at h1
    cases u <;> first | rfl | cases h1
   | _=>cases hcs
  refine ⟨by rw[ai];exact p.trans (k1.append_left _),by rw[au,au,k2],?_,fun i t' v' ht hv0=>?_⟩
  ·show lh J ((q.used++r'.2.1).map _) (Ch.own t.rep (gp t.isProd (v.v θ)) q.d::rk ts (vs.map _) r'.1)
   rw[aK,hcell.1]
   exact nc e2 k3
  ·cases i with
   | zero =>
    obtain rfl:t=t':=by simpa using ht
    obtain rfl:v=v':=by simpa using hv0
    exact hcell.2
   | succ i=>exact k4 i t' v' (by simpa using ht) (by simpa using hv0)
 | [],_::_,chs,r,h,_=>by cases h
 | _::_,[],chs,r,h,_=>by cases h
def P8:List Value->Value
 | [v] =>v
 | vs=>.tuple vs.toArray
def CA (P:Program) (a:Act) (w:World):List ResultVar->List Value->Prop
 | [],vs=>vs= []
 | r::rs,vs=> ∃v us,vs=v::us/\As P a w r v/\CA P a w rs us
theorem rV {P:Program} {a:Act} {w:World} {f:ResultVar->Sem Value} (hf: ∀r v,As P a w r v->(f r).run P w= .ok v w): ∀ {l:List ResultVar} {vs:List Value},CA P a w l vs->(l.mapM f).run P w= .ok vs w
 | [],vs,h=>by
  have h:vs= []:=h
  subst h
  rw[List.mapM_nil];rfl
 | r::l,vs,h=>by
  obtain ⟨v,us,rfl,h1,h2⟩:=h
  rw[List.mapM_cons,Sem.run_bind,hf r v h1]
  simp only[Result.andThen_ok,Sem.run_bind,rV hf h2]
  rfl
def P9 (a:Act) (r:ResultVar):Sem Value:=match r with
 | .tmp t=>pure (a.tmps.getD t undef)
 | .cell p t=>do loadVar t (<-asAddr (a.tmps.getD p undef))
theorem Nn {P:Program} {a:Act} {w:World} {r:ResultVar} {v:Value} (h:As P a w r v):(P9 a r).run P w= .ok v w:=by
 cases r with
 | tmp t =>
  have h:a.tmps.getD t undef=v:=h
  show (pure (a.tmps.getD t undef):Sem Value).run P w=_
  rw[h];rfl
 | cell p T =>
  obtain ⟨A,h1,h2⟩:=h
  show ((asAddr (a.tmps.getD p undef)) >>=fun x=>loadVar T x).run P w=_
  rw[h1,Sem.run_bind]
  show Result.andThen (.ok A w) _=_
  rw[Result.andThen_ok];exact h2
theorem O4 {P:Program} {n:Nat} {a:Act} {w:World} {L:List (Nat×Value)} {fn:Func} {R:Ending->World->Prop} {vs:List Value} (ha:Agr n a L) (h:CA P a w fn.results.toList vs) (hR:R (.returned (P8 vs)) w):bodyPost P fn R .ret a w:=by
 refine ⟨ha.1,P8 vs,?_,hR⟩
 have hr:((fn.results.mapM (P9 a)):Sem (Array Value)).run P w= .ok vs.toArray w:=by
  rw[Array.mapM_eq_mapM_toList]
  have:=rV (f:=P9 a) (fun r v=>Nn) h
  simp[this,Sem.run_map]
 show ((fn.results.mapM (P9 a)) >>=fun vs=>pure (if h:vs.size=1 then vs[0] else .tuple vs):Sem Value).run P w=_
 rw[Sem.run_bind,hr,Result.andThen_ok]
 match vs with
 | [] =>rfl
 | [v] =>rfl
 | _::_::_=>rfl
def dM (g0:Nat):(i:Nat)->(ps:List PM)->denP ps->List Ent->Option (gm (outs ps)×List Ent×List Ent)
 | _,[],_,chs=>some ((),[],chs)
 | i,.ow t::ps,d,chs=>(cV t (ic i [] t d.1).2 chs).bind fun q=>bM q.cells.isEmpty ((dM g0 (i+1) ps d.2 q.rest).bind fun r=>some ((q.d,r.1),q.used++r.2.1,r.2.2))
 | i,.ptr T t::ps,d,chs=>(tJ ⟨i,[]⟩ T t chs).bind fun q=>(dM g0 (i+1) ps d.2 q.2.2).bind fun r=>some ((q.1,r.1),q.2.1++r.2.1,r.2.2)
 | i,.rd _::ps,d,chs=>dM g0 (i+1) ps d.2 chs
 | i,.fn _ _::ps,d,chs=>dM g0 (i+1) ps d.2 chs
 | i,.eat _::ps,d,chs=>dM g0 (i+1) ps d.2 chs
 | i,.cap _ _::ps,d,chs=>dM g0 (i+1) ps d.2 chs
 | i,.capf _ _ _::ps,d,chs=>dM g0 (i+1) ps d.2 chs
 | i,.fk _::ps,d,chs=>dM g0 (i+1) ps d.2 chs
 | i,.crs T E::ps,d,chs=>(o9 ⟨i,[]⟩ T E chs).bind fun q=>bM (Hdr.beq q.g ⟨g0,[]⟩) ((dM g0 (i+1) ps d.2 q.rest).bind fun r=>some ((q.d.2,r.1),q.ent::r.2.1,r.2.2))
theorem dV {P:Program} {w0:World} {J J':Hp} {θ θ':Th} {n n':Nat} {chs0:List Ent} (hJ:J.le J') (hs:Same n θ θ') {γ:Value} {g0:Nat} (hg0:g0<n) (hγ:θ g0=γ): ∀ {ps:List PM} {i:Nat} {d:denP ps} {chs:List Ent} {vs:List Value} {r:gm (outs ps)×List Ent×List Ent},dM g0 i ps d chs=some r->vs.length=ps.length->StF P w0 J θ n i ps vs d->(∀e∈chs,okE P w0 J' θ' n' chs0 e)->
  chs.Perm (r.2.1++r.2.2)/\lh J' (r.2.1.map (toCh P θ')) (outCh γ ps vs r.1)
 | [],i,d,chs,vs,r,h,_,_,_=>by
  obtain rfl:=ae (show some _=some r from h)
  exact ⟨List.Perm.refl _,pK⟩
 | p::ps,i,d,chs,[],r,h,hl,_,_=>by cases hl
 | .ow t::ps,i,d,chs,v::vs,r,h,hl,hF,hc=>by
  obtain ⟨q,hq,h⟩:=bind_some (show (cV t (ic i [] t d.1).2 chs).bind _=some r from h)
  obtain ⟨he,h⟩:=aj h
  obtain ⟨r',hr,h⟩:=bind_some h
  obtain rfl:=ae h
  obtain ⟨⟨k1,k2⟩,k3⟩:=hF
  obtain ⟨p,cc,e1,e2⟩:=gL (P:=P) (w0:=w0) (J:=J') (θ:=θ') (n:=n) hq fun x hx=>LV.ok_same hs (aB _) (k2 x hx) hJ
  rw[List.isEmpty_iff.1 he,List.append_nil] at e1
  subst e1
  rw[fg hs k2,k1] at e2
  obtain ⟨q1,q2⟩:=dV hJ hs hg0 hγ hr (by simpa using hl) k3 fun e he=>hc e (p.mem_iff.2 (by simp[he]))
  refine ⟨by rw[ai];exact p.trans (q1.append_left _),?_⟩
  show lh J' ((q.used++r'.2.1).map _) (Ch.own t.rep (gp t.isProd v) q.d::outCh γ ps vs r'.1)
  rw[aK]
  exact nc e2 q2
 | .ptr T t::ps,i,d,chs,v::vs,r,h,hl,hF,hc=>by
  obtain ⟨q,hq,h⟩:=bind_some (show (tJ ⟨i,[]⟩ T t chs).bind _=some r from h)
  obtain ⟨r',hr,h⟩:=bind_some h
  obtain rfl:=ae h
  obtain ⟨⟨k1,k2⟩,k3⟩:=hF
  obtain ⟨p,hb⟩:=vY (P:=P) (w0:=w0) (J:=J') (J':=J') (θ:=θ') hq Hp.le.rfl hc
  obtain ⟨q1,q2⟩:=dV hJ hs hg0 hγ hr (by simpa using hl) k3 fun e he=>hc e (p.mem_iff.2 (by simp[he]))
  refine ⟨by rw[ai];exact p.trans (q1.append_left _),?_⟩
  show lh J' ((q.2.1++r'.2.1).map _) (Ch.box (bk v) T t.rep q.1::outCh γ ps vs r'.1)
  rw[aK]
  have hh:hv θ' ⟨i,[]⟩=v:=(aV hs (show (⟨i,[]⟩:Hdr).id<n from k2)).trans k1
  rw[hh] at hb
  intro w F hsp
  obtain ⟨G,K,rfl,h1,h2⟩:=hsp.split
  exact ⟨G,K,rfl,hb w G h1,q2 w K h2⟩
 | .rd t::ps,i,d,chs,v::vs,r,h,hl,hF,hc=>dV (ps:=ps) hJ hs hg0 hγ (show dM g0 (i+1) ps d.2 chs=some r from h) (by simpa using hl) hF.2 hc
 | .fn _ _::ps,i,d,chs,v::vs,r,h,hl,hF,hc=>dV (ps:=ps) hJ hs hg0 hγ (show dM g0 (i+1) ps d.2 chs=some r from h) (by simpa using hl) hF.2 hc
 | .eat _::ps,i,d,chs,v::vs,r,h,hl,hF,hc=>dV (ps:=ps) hJ hs hg0 hγ (show dM g0 (i+1) ps d.2 chs=some r from h) (by simpa using hl) hF.2 hc
 | .cap _ _::ps,i,d,chs,v::vs,r,h,hl,hF,hc=>dV (ps:=ps) hJ hs hg0 hγ (show dM g0 (i+1) ps d.2 chs=some r from h) (by simpa using hl) hF.2 hc
 | .capf _ _ _::ps,i,d,chs,v::vs,r,h,hl,hF,hc=>dV (ps:=ps) hJ hs hg0 hγ (show dM g0 (i+1) ps d.2 chs=some r from h) (by simpa using hl) hF.2 hc
 | .fk _::ps,i,d,chs,v::vs,r,h,hl,hF,hc=>dV (ps:=ps) hJ hs hg0 hγ (show dM g0 (i+1) ps d.2 chs=some r from h) (by simpa using hl) hF.2 hc
 | .crs T E::ps,i,d,chs,v::vs,r,h,hl,hF,hc=>by
  obtain ⟨q,hq,h⟩:=bind_some (show (o9 ⟨i,[]⟩ T E chs).bind _=some r from h)
  obtain ⟨hb,h⟩:=aj h
  obtain ⟨r',hr,h⟩:=bind_some h
  obtain rfl:=ae h
  obtain ⟨⟨k1,k2⟩,k3⟩:=hF
  obtain ⟨p,ver,he⟩:=jO hq
  obtain ⟨q1,q2⟩:=dV hJ hs hg0 hγ hr (by simpa using hl) k3 fun e he=>hc e (p.mem_iff.2 (by simp[he]))
  refine ⟨p.trans (q1.cons _),?_⟩
  have hh:hv θ' ⟨i,[]⟩=v:=(aV hs (show (⟨i,[]⟩:Hdr).id<n from k2)).trans k1
  have hg:hv θ' q.g=γ:=by
   rw[Hdr.beq_eq hb]
   show vg (θ' g0) [] =γ
   rw[hs g0 hg0,hγ];rfl
  show lh J' (toCh P θ' q.ent::r'.2.1.map _) (Ch.blk (bk v) [γ,.int .i64 q.d.2.1,.int .i64 q.d.2.2] T::outCh γ ps vs r'.1)
  rw[he]
  intro w F hsp
  obtain ⟨G,K,rfl,h1,h2⟩:=hsp
  have h1:(Ch.blk (bk (hv θ' ⟨i,[]⟩)) [hv θ' q.g,.int .i64 q.d.2.1,.int .i64 q.d.2.2] T).holds J' w G:=h1
  rw[hh,hg] at h1
  exact ⟨G,K,rfl,h1,q2 w K h2⟩
def ofH:(ts:List Ty)->gm ts->dens ts
 | [],_=>()
 | [_],d=>d.1
 | _::u::ts,d=>(d.1,ofH (u::ts) d.2)
theorem Bc: ∀(ts:List Ty) (d:gm ts),toH ts (ofH ts d)=d
 | [],_=>rfl
 | [_],_=>rfl
 | _::u::ts,d=>congrArg (Prod.mk d.1) (Bc (u::ts) d.2)
def pD:(ts us:List Ty)->gm ts->gm us->gm (ts++us)
 | [],_,_,e=>e
 | _::ts,us,d,e=>(d.1,pD ts us d.2 e)
theorem xL: ∀(ts us:List Ty) (d:gm ts) (e:gm us),hFst ts us (pD ts us d e)=d
 | [],_,_,_=>rfl
 | _::ts,us,d,e=>congrArg (Prod.mk d.1) (xL ts us d.2 e)
theorem CB: ∀(ts us:List Ty) (d:gm ts) (e:gm us),hSnd ts us (pD ts us d e)=e
 | [],_,_,_=>rfl
 | _::ts,us,d,e=>CB ts us d.2 e
def uk (tt:TT) (s:Sg):List ResultVar->Option (List AV)
 | [] =>some []
 | r::rs=>(Nk tt s r).bind fun v=>(uk tt s rs).bind fun vs=>some (v::vs)
def Bd (s:Sg):List AV->List Hdr
 | [] =>[]
 | v::vs=>tY v++Bd s vs
def sS:List Ent->List Hdr
 | [] =>[]
 | e::l=>match e.2.2 with
  | .hole _ _ _ _ _ _ _ _ _ _=>e.1::sS l
  | _=>sS l
def O5:List AV->List (Bool×Hdr)
 | [] =>[]
 | v::vs=>Q8 true v++O5 vs
def zG (tr:Trs) (vs:List AV) (s:Sg):Sg:=match tr with
 | [] =>s
 | _=>IP tr (O5 vs) s
def JF (tr:Trs) (vs:List AV) (s0:Sg):Sg:=match zG tr vs s0 with
 | s=>p9 (Bd s0 vs++sS s.chs) s
def nlN:List AV->(ts:List Ty)->gm ts->Int
 | [.one (.own _)],[.sl _ t],d=>((List.length (α:=t.den) d.1:Nat):Int)
 | [.one (.val v)],[.sl _ _],_=>match isNil v with
  | true=>1
  | false=>0
 | _,_,_=>0
def O6 (an:List (Nat×Ty)) (vs:List AV) (ts:List Ty) (d:gm ts):Option Unit:=match tX 1000000 an with
 | true=>chk (0<nlN vs ts d)
 | false=>some ()
theorem O7 {vs:List AV} {ts:List Ty} {d:gm ts} {θ:Th} (h:0<nlN vs ts d) {v:Value} (hv:vs.map (·.v θ)= [v]):pQ ts d v:=by
 unfold nlN at h
 split at h
 ·intro h0
  omega
 ·split at h
  ·rename_i h1
   intro _
   have:=jE h1
   subst this
   simpa [AV.v,LV.v] using hv.symm
  ·omega
 ·omega
def Be (V:Env) (rvs:List ResultVar) (rs:List Ty) (ps:List PM) (d:denP ps) (s00:Sg):Option (dens (rs++outs ps)):=(uk V.tt s00 rvs).bind fun vs00=>IX vs00 s00 fun s0=>(uk V.tt s0 rvs).bind fun vs0=>match JF V.tr vs0 s0 with
 | s=>(uk V.tt s rvs).bind fun vs=>(Bb rs vs s.chs).bind fun r=>(dM ps.length 0 ps d r.2.2).bind fun o=>(O6 V.an vs rs r.1).bind fun _=>some (ofH _ (pD rs (outs ps) r.1 o.1))
end R
namespace R
open Go.RowKit
open D
theorem wt {vs:List Value} : ∀ {ts:List Ty} {i:Nat} {us:List Value} {d:gm ts},us.length=ts.length->(∀j v,us[j]? =some v->vs[i+j]? =some v)->pM i ts d (.tuple vs.toArray)=rk ts us d
 | [],i,us,d,h,_=>by
  cases us with
  | nil=>rfl
  | cons _ _=>cases h
 | t::ts,i,[],d,h,_=>by cases h
 | t::ts,i,u::us,d,h,k=>by
  have h0:vg (.tuple vs.toArray) [i] =u:=by
   show vs.toArray.getD i undef=u
   have:=k 0 u rfl
   rw[Nat.add_zero] at this
   simp[Array.getD_eq_getD_getElem?,this]
  show Ch.own t.rep (gp t.isProd (vg (.tuple vs.toArray) [i])) d.1::pM (i+1) ts d.2 _=Ch.own t.rep (gp t.isProd u) d.1::rk ts us d.2
  rw[h0,wt (us:=us) (by simpa using h) fun j v hj=>by
   have:=k (j+1) v (by simpa using hj)
   rwa [show i+(j+1)=i+1+j from by omega] at this]
theorem DM {ts:List Ty} {vs:List Value} {d:gm ts} (h:vs.length=ts.length):resGv ts d (P8 vs)=rk ts vs d:=by
 match ts,vs,d,h with
 | [],[],d,_=>rfl
 | [t],[v],d,_=>rfl
 | t::u::ts,v::w::vs,d,h =>
  show pM 0 _ d (.tuple (v::w::vs).toArray)=_
  exact wt h fun j x hj=>by rw[Nat.zero_add];exact hj
theorem JG {ts:List Ty} {vs:List Value} (h:vs.length=ts.length) (k: ∀(i:Nat) t v,ts[i]? =some t->vs[i]? =some v->lE v=t.isProd):resFa ts (P8 vs):=by
 match ts,vs,h with
 | [],[],_=>exact ⟨#[],rfl,rfl,fun i t ht=>by simp at ht⟩
 | [t],[v],_=>exact k 0 t v rfl rfl
 | t::u::ts,v::w::vs,h =>
  refine ⟨(v::w::vs).toArray,rfl,by simpa using h,fun i t' ht=>?_⟩
  have hlt:i<(v::w::vs).length:=by rw[h];exact (List.getElem?_eq_some_iff.1 ht).1
  have:=k i t' ((v::w::vs)[i]) ht (List.getElem?_eq_getElem hlt)
  rw[<-this,Array.getD_eq_getD_getElem?,List.getElem?_toArray,List.getElem?_eq_getElem hlt];rfl
theorem qf {P:Program} {I:Hp} {w0 w:World} {F:Ch} {J:Hp} {θ:Th} {n:Nat} {s:Sg} {a:Act} {tt:TT} (hT:TTok P tt) (hS:Sim P I w0 F n J θ s a w): ∀ {rs:List ResultVar} {vs:List AV},uk tt s rs=some vs->CA P a w rs (vs.map (·.v θ))/\ ∀v∈vs,v.ok P w0 J θ s.nxt s.chs
 | [],vs,h=>by
  obtain rfl:=ae (show some [] =some vs from h)
  exact ⟨rfl,fun v hv=>by cases hv⟩
 | r::rs,vs,h=>by
  obtain ⟨v,hv',h⟩:=bind_some (show (Nk tt s r).bind _=some vs from h)
  obtain ⟨us,hus,h⟩:=bind_some h
  obtain rfl:=ae h
  obtain ⟨k1,k2⟩:=JE hT hS hv'
  obtain ⟨q1,q2⟩:=qf hT hS hus
  refine ⟨⟨_,_,rfl,k1,q1⟩,fun x hx=>?_⟩
  rcases ax hx with rfl | hx
  ·exact k2
  ·exact q2 x hx
theorem GD {J:Hp} {a b c d:List Ch} (h:lh J a b) (k:lh J c d):lh J (a++c) (b++d):=fun w F hs=>by
 obtain ⟨G,K,rfl,e1,e2⟩:=hs.split
 exact (h w G e1).append (k w K e2)
theorem St.sepTo {J:Hp} {w0 w:World} {a b C:List Ch} (h:St J w0 w (a++C)) (k:lh J a b):St J w0 w (b++C):=by
 obtain ⟨h1,h2,F,h3,h4,h5⟩:=h
 obtain ⟨G,K,rfl,e1,e2⟩:=h3.split
 exact ⟨h1,h2,G++K,(k w G e1).append e2,h4,h5⟩
theorem od {P:Program} {n:Nat} {I:Hp} {w0:World} {k:FuncId} {fn:Func} {c:Code} {args:Array Value} {rn:List Ch} {fact:Value->Prop} {gv:Value->List Ch} (L:List (Nat×Value)) (hf:P.funcs[k]? =some fn) (hb:fn.body=some c) (hn:fn.ntmps=n) (hm:args.size<=n) (hL: ∀p∈L,args[p.1]? =some p.2)
  (h: ∀F w a,Agr n a L->St I w0 w (rn++ [F])->c.wp P (bodyPost P fn fun e w'=> ∃v,e= .returned v/\fact v/\ ∃J,I.le J/\St J w0 w' (gv v++ [F])) a w) (hd: ∀v,Ch.back (gv v)):Con P k args I w0 rn fact gv:=by
 intro w C hs
 have hs':St I w0 w (rn++ [Ch.fr I C]):=by
  obtain ⟨hb,hi,F,h1,h2,h3⟩:=hs
  obtain ⟨G,K,rfl,e1,e2⟩:=h1.split
  exact ⟨hb,hi,G++K,e1.append ⟨K,[],by simp,e2,rfl⟩,h2,h3⟩
 have:=h (Ch.fr I C) w { tmps:=args++Array.replicate (fn.ntmps - args.size) undef,defers:=[] } (Agr.start L (by omega) hL) hs'
 refine (calls_of_wp hf hb this).mono ?_
 rintro e w' ⟨v,rfl,hv,J,hJ,hs⟩
 exact ⟨v,rfl,hv,hs.back hJ (hd v)⟩
theorem JH {P:Program} {I:Hp} {w0 w:World} {F:Ch} {n:Nat} {J:Hp} {θ:Th} {s:Sg} {a:Act} {tr:Trs} {vs:List AV} (hS:Sim P I w0 F n J θ s a w): ∃J' θ',J.le J'/\Sim P I w0 F n J' θ' (JF tr vs s) a w/\Fr s θ (JF tr vs s) θ':=by
 have key: ∃J' θ',J.le J'/\Sim P I w0 F n J' θ' (zG tr vs s) a w/\Fr s θ (zG tr vs s) θ':=by
  unfold zG
  split
  ·exact ⟨J,θ,Hp.le.rfl,hS,Fr.rfl⟩
  ·exact pb hS
 obtain ⟨J',θ',h1,h2,h3⟩:=key
 obtain ⟨S2,F2⟩:=nY (V:=⟨[],[],[],n,[]⟩) (hs:=Bd s vs++sS (zG tr vs s).chs) h2
 exact ⟨J',θ',h1,S2,h3.trans F2⟩
theorem GE {V:Env} {P:Program} {w0:World} {F:Ch} {J:Hp} {θ:Th} (hT:TTok P V.tt) {fn:Func} {rs:List Ty} {ps:List PM} {d:denP ps} {vs:List Value} {s0:Sg} (k0:vs.length=ps.length) (k5:StF P w0 J θ (ps.length+1) 0 ps vs d) (hn0:ps.length+1<=s0.nxt) {γ:Value} (hγ:θ ps.length=γ): ∀r J' θ' s' a' w',Be V fn.results.toList rs ps d s'=some r->Sim P J w0 F V.n J' θ' s' a' w'->J.le J'->Fr s0 θ s' θ'->
  bodyPost P fn (fun e w'=> ∃v,e= .returned v/\(resFa rs v/\(tX 1000000 V.an=true->pQ rs (hFst rs (outs ps) (toH _ r)) v))/\ ∃J2,J.le J2/\St J2 w0 w' ((resGv rs (hFst rs (outs ps) (toH _ r)) v++outCh γ ps vs (hSnd rs (outs ps) (toH _ r)))++ [F])) .ret a' w':=by
 intro r J' θ' s' a' w' hrt hS' hJ hFr
 obtain ⟨vs00,hv00,hrt⟩:=bind_some (show (uk V.tt s' fn.results.toList).bind _=some r from hrt)
 obtain ⟨s0',hrt,S0,N0⟩:=Cg hrt (qf hT hS' hv00).2 hS'
 obtain ⟨vs0,hv0,hrt⟩:=bind_some hrt
 obtain ⟨J1,θ1,hJ1,S1,F1⟩:=JH (tr:=V.tr) (vs:=vs0) S0
 generalize JF V.tr vs0 s0'=s1 at hrt S1 F1
 have hle:s0.nxt<=s'.nxt:=hFr.1
 have hsame:Same (ps.length+1) θ θ1:=fun i hi=>(F1.same i (by omega)).trans (hFr.same i (by omega))
 replace hJ:=hJ.trans hJ1
 clear hJ1 F1 hS' S0 hFr
 revert J1 θ1
 clear J' θ'
 intro J' θ' S1 hsame hJ
 obtain ⟨us,hus,hrt⟩:=bind_some hrt
 obtain ⟨q,hq,hrt⟩:=bind_some hrt
 obtain ⟨o,ho,hrt⟩:=bind_some hrt
 obtain ⟨u0,hnl,hrt⟩:=bind_some hrt
 obtain rfl:=ae hrt
 obtain ⟨r1,r2⟩:=qf hT S1 hus
 obtain ⟨t1,t2,t3,t4⟩:=wq (J:=J') (θ:=θ') hq r2
 obtain ⟨o1,o2⟩:=dV (P:=P) (J:=J) (J':=J') (θ:=θ) (θ':=θ') (vs:=vs) (n:=ps.length+1) (n':=s1.nxt) (chs0:=s1.chs) hJ hsame (aw _) hγ ho k0 k5 fun e he=>S1.fine.chs e (t1.mem_iff.2 (by simp[he]))
 have hl:(us.map (·.v θ')).length=rs.length:=by rw[List.length_map];exact t2
 refine O4 S1.agr r1 ⟨_,rfl,⟨JG hl fun i t v ht hv1=>?_,fun han=>?_⟩,J',hJ,?_⟩
 ·rw[List.getElem?_map] at hv1
  obtain ⟨x,hx,rfl⟩:=Option.map_eq_some_iff.1 hv1
  exact t4 i t x ht hx
 ·rw[Bc,xL]
  unfold O6 at hnl
  rw[han] at hnl
  have hnl:0<nlN us rs q.1:=bF hnl
  rcases us with _ | ⟨x,us⟩
  ·cases hnl
  ·cases us with
   | nil=>exact O7 (θ:=θ') hnl rfl
   | cons y us=>unfold nlN at hnl;split at hnl <;> first | omega | simp_all
 ·rw[Bc,xL,CB,DM hl]
  have hp:=t1.trans (o1.append_left _)
  have h1:=S1.st.perm ((hp.map (toCh P θ')).append_right [F])
  have h2:St J' w0 w' ((q.2.1.map (toCh P θ')++o.2.1.map (toCh P θ'))++(o.2.2.map (toCh P θ')++ [F])):=by
   simpa [aK,ai] using h1
  have h3:=St.sepTo h2 (GD t3 o2)
  refine St.left (ds:=o.2.2.map (toCh P θ')) (h3.perm ?_)
  simp only[ai]
  exact List.Perm.append_left _ (List.Perm.append_left _ List.perm_append_comm)
theorem No {V:Env} {P:Program} (hT:TTok P V.tt) (hF:FTok P V.ft) (hmx:P.follows .mixedOrders=true) {k:FuncId} {fn:Func} {c:Code} {f:FS} (hf:P.funcs[k]? =some fn) (hb:fn.body=some c) (hn:fn.ntmps=V.n) (hen:Enters P k) (hm:f.ps.length<=V.n) (hdp:(xq f.rs&&tK f.ps)=true) (ann:Ann)
  (hmod: ∀d,appP f.ps f.m d=gf V (Be V fn.results.toList f.rs f.ps d) c ann (fun r=>some r) (fun _ _=>none) (Be V fn.results.toList f.rs f.ps d) (mV (uj f.ps d))): ∀w0 J γ vs (d:denP f.ps) r,Lay P J->PArgs P w0 J γ f.ps vs d->appP f.ps f.m d=some r->Con P k vs.toArray J w0 (owCh γ f.ps vs d) (fun v=>resFa f.rs v/\(tX 1000000 V.an=true->pQ f.rs (hFst f.rs (outs f.ps) (toH _ r)) v)) (fun v=>resGv f.rs (hFst f.rs (outs f.ps) (toH _ r)) v++outCh γ f.ps vs (hSnd f.rs (outs f.ps) (toH _ r))):=by
 rw[af] at hdp
 intro w0 J γ vs d r hlay ha hr
 rw[hmod] at hr
 have k0:=zF ha
 let θ:Th:=fun i=>if i=vs.length then γ else vs.getD i undef
 have hθ: ∀j v,vs[j]? =some v->θ (0+j)=v:=fun j v hj=>by
  show (if 0+j=vs.length then γ else vs.getD (0+j) undef)=v
  rw[Nat.zero_add,if_neg (Nat.ne_of_lt (List.getElem?_eq_some_iff.1 hj).1),List.getD_eq_getElem?_getD,hj];rfl
 have hθg:θ f.ps.length=γ:=by
  show (if f.ps.length=vs.length then γ else _)=γ
  rw[if_pos k0.symm]
 have hzip: ∀p∈(vs.zipIdx.map fun q=>(q.2,q.1)),vs.toArray[p.1]? =some p.2:=fun p hp=>by
  obtain ⟨q,hq,rfl⟩:=List.mem_map.1 hp
  obtain ⟨v,j⟩:=q
  have:=(List.mk_mem_zipIdx_iff_getElem? (x:=v) (i:=j)).1 hq
  simpa using this
 refine od (n:=V.n) (vs.zipIdx.map fun q=>(q.2,q.1)) hf hb hn (by rw[List.size_toArray,k0];exact hm) hzip (fun F w a hA hst=>?_) (fun v=>nW (dI _ _ _ hdp.2) _ _ hdp.1)
 ·obtain ⟨k1,k2,k3,k4,k5⟩:=Cz (n:=f.ps.length+1) (q:=f.ps.length) (C:=[F]) (aw _) hθg ha hθ (by omega) hst
  have hfine:Fine P w0 J θ (uj f.ps d):=⟨fun e he=>(k1 e he).1 _,fun e he=>by have:=k1 e he;show e.2.1<f.ps.length+1;omega,k2,fun e he=>k4 e he _,hlay⟩
  have hA':Agr V.n a (envL θ (uj f.ps d)):=hA.pick _ fun p hp=>by
   obtain ⟨e,he,rfl⟩:=List.mem_map.1 hp
   have h5:=(k1 e he).2.2.2.2
   rw[Nat.sub_zero] at h5
   have key: ∀(l:List Value) (k:Nat) (i:Nat) (v:Value),k<=i->l[i - k]? =some v->((l.zipIdx k).map fun q=>(q.2,q.1)).lookup i=some v:=by
    intro l
    induction l with
    | nil=>intro k i v _ h;simp at h
    | cons x l ih =>
     intro k i v hk h
     simp only[List.zipIdx_cons,List.map_cons,List.lookup_cons]
     by_cases e:i=k
     ·subst e
      simp at h
      simp[h]
     ·have:(i==k)=false:=by simpa using e
      rw[this]
      refine ih (k+1) i v (by omega) ?_
      rw[show i - k=(i - (k+1))+1 from by omega] at h
      simpa using h
   exact key vs 0 e.1 _ (Nat.zero_le _) h5
  have hS:Sim P J w0 F V.n J θ (uj f.ps d) a w:=⟨Hp.le.rfl,hA',k3,hfine⟩
  have fin:=GE (rs:=f.rs) (fn:=fn) (F:=F) hT k0 k5 (aB (uj f.ps d).nxt) hθg
  obtain ⟨θ0,hS0,hFr0⟩:=sL hS
  exact (mj (I:=J) (w0:=w0) (F:=F) hT hF hmx c).1 ann hr hS0 (fun J' θ' s' a' w' hk S' hJ hFr=>fin r J' θ' s' a' w' hk S' hJ (hFr0.trans hFr)) (fun i J' θ' s' a' w' hk=>by cases hk) (fun r' J' θ' s' a' w' hrt hrr hS' hJ hFr=>by
   obtain rfl:=ae hrr
   exact fin _ J' θ' s' a' w' hrt hS' hJ (hFr0.trans hFr))
theorem fok {V:Env} {P:Program} (hT:TTok P V.tt) (hF:FTok P V.ft) (hmx:P.follows .mixedOrders=true) {k:FuncId} {fn:Func} {c:Code} {f:FS} (hf:P.funcs[k]? =some fn) (hb:fn.body=some c) (hn:fn.ntmps=V.n) (hen:Enters P k) (hcl:f.cl=none) (hm:f.ps.length<=V.n) (hdp:(xq f.rs&&tK f.ps)=true) (ann:Ann)
  (hmod: ∀d,appP f.ps f.m d=gf V (Be V fn.results.toList f.rs f.ps d) c ann (fun r=>some r) (fun _ _=>none) (Be V fn.results.toList f.rs f.ps d) (mV (uj f.ps d))):FOk P k f:=
 ⟨fun q hq=>by (rw[hcl] at hq;cases hq),fun _=>hen,fun _ w0 J γ vs d r hlay ha hr w C hs=>(No hT hF hmx hf hb hn hen hm hdp ann hmod w0 J γ vs d r hlay ha hr w C hs).mono fun e w' ⟨v,h1,h2,h3⟩=>⟨v,h1,h2.1,h3⟩⟩
theorem CC {V:Env} {P:Program} (hT:TTok P V.tt) (hF:FTok P V.ft) (hmx:P.follows .mixedOrders=true) {k:FuncId} {fn:Func} {c:Code} {E b:Nat} (hf:P.funcs[k]? =some fn) (hb:fn.body=some c) (hn:fn.ntmps=V.n) (hen:Enters P k) (hm:1<=V.n) (ann:Ann)
  (hmod: ∀(E':TypeId) (bn:Bool) (xs:List Raw),(match bn with | true=>some ([] :List Raw) | false=>(cm b [] xs).bind fun zs=>some zs)=gf V (Be V fn.results.toList [.sl E .raw] [] ()) c ann (fun r=>some r) (fun _ _=>none) (Be V fn.results.toList [.sl E .raw] [] ()) ⟨[(0,0,.one (.rdn ⟨0,[]⟩ bn (.sl E' .raw) xs))],[],1⟩):qZ P k E b:=by
 refine ⟨hen,fun E' J w0 v xs zs hlay hrd pD=>?_⟩
 obtain ⟨bn,hbn⟩: ∃bn,tm v=bn:=⟨_,rfl⟩
 have hr:gf V (Be V fn.results.toList [.sl E .raw] [] ()) c ann (fun r=>some r) (fun _ _=>none) (Be V fn.results.toList [.sl E .raw] [] ()) ⟨[(0,0,.one (.rdn ⟨0,[]⟩ bn (.sl E' .raw) xs))],[],1⟩=some zs:=by
  rw[<-hmod E' bn xs]
  cases bn with
  | false =>
   show (cm b [] xs).bind _=_
   rw[pD];rfl
  | true =>
   obtain ⟨h1,-⟩:=pX pD
   obtain ⟨ao,cap,e,-,hx⟩:=hrd
   obtain rfl:v= .slice ao xs.length cap:=by simpa using e
   rcases hx with rfl | ⟨b,off,ccs,t,fr,rfl,-⟩
   ·rw[h1];rfl
   ·cases hbn
 let θ:Th:=fun _=>v
 have key:Con P k #[v] J w0 [] (fun v=>resFa [.sl E .raw] v/\(tX 1000000 V.an=true->pQ [.sl E .raw] (zs,()) v)) (fun v=>resGv [.sl E .raw] (zs,()) v++ []):=by
  refine od (n:=V.n) [(0,v)] hf hb hn hm (fun p hp=>by obtain rfl:=ak hp;rfl) (fun F w a hA hst=>?_) (fun u=>nW (D:=[]) trivial [.sl E .raw] (zs,()) rfl)
  have hfine:Fine P w0 J θ ⟨[(0,0,.one (.rdn ⟨0,[]⟩ bn (.sl E' .raw) xs))],[],1⟩:=⟨fun e he=>by obtain rfl:=ak he;exact ⟨Nat.one_pos,hrd,hbn⟩,fun e he=>by obtain rfl:=ak he;exact Nat.one_pos,List.pairwise_singleton _ _,fun e he=>(by cases he),hlay⟩
  have hS:Sim P J w0 F V.n J θ ⟨[(0,0,.one (.rdn ⟨0,[]⟩ bn (.sl E' .raw) xs))],[],1⟩ a w:=⟨Hp.le.rfl,hA,hst,hfine⟩
  have fin:=GE (V:=V) (θ:=θ) (J:=J) (w0:=w0) (rs:=[.sl E .raw]) (ps:=[]) (d:=()) (vs:=[]) (s0:=⟨[(0,0,.one (.rdn ⟨0,[]⟩ bn (.sl E' .raw) xs))],[],1⟩) (fn:=fn) (F:=F) hT rfl trivial (aB _) (γ:=θ 0) rfl
  exact (mj (I:=J) (w0:=w0) (F:=F) hT hF hmx c).1 ann hr hS (fun J' θ' s' a' w' hk S' hJ hFr=>fin _ J' θ' s' a' w' hk S' hJ hFr) (fun i J' θ' s' a' w' hk=>by cases hk) (fun r' J' θ' s' a' w' hrt hrr hS' hJ hFr=>by
   obtain rfl:=ae hrr
   exact fin _ J' θ' s' a' w' hrt hS' hJ hFr)
 exact fun w C hs=>(key w C hs).mono fun e w' ⟨v,h1,h2,h3⟩=>⟨v,h1,trivial,h3⟩
theorem GF {V:Env} {P:Program} (hT:TTok P V.tt) (hF:FTok P V.ft) (hmx:P.follows .mixedOrders=true) {k:FuncId} {fn:Func} {c:Code} {E E' b:Nat} {t:Ty} (hf:P.funcs[k]? =some fn) (hb:fn.body=some c) (hn:fn.ntmps=V.n) (hen:Enters P k) (hm:1<=V.n) (ann:Ann) (hbk:xq [.sl E t] =true)
  (hmod: ∀(bn:Bool) (xs:List t.den),((match bn with | true=>some ([] :List t.den) | false=>(cm b [] xs).bind fun zs=>some zs):Option (List t.den))=gf V (Be V fn.results.toList [.sl E t] [] ()) c ann (fun r=>some r) (fun _ _=>none) (Be V fn.results.toList [.sl E t] [] ()) ⟨[(0,0,.one (.rdn ⟨0,[]⟩ bn (.sl E' t) xs))],[],1⟩):FOk P k ⟨[.rd (.sl E' t)],[.sl E t],fun xs=>cm b [] xs,none⟩:=by
 refine ⟨fun q hq=>(by cases hq),fun _=>hen,fun _ w0 J γ vs d r hlay ha pD=>?_⟩
 obtain ⟨v,vs',rfl,hd,hnil⟩:=ha
 obtain rfl:vs'= []:=hnil
 obtain ⟨xs,u⟩:=d
 obtain ⟨cs,hcs,hrd⟩:=hd
 obtain rfl:cs= [v]:=hcs
 let zs:List t.den:=r
 have pD:cm b [] xs=some zs:=pD
 have hrd:(aq E' t.rep).rd J [v] xs:=hrd
 obtain ⟨bn,hbn⟩: ∃bn,tm v=bn:=⟨_,rfl⟩
 have hr:gf V (Be V fn.results.toList [.sl E t] [] ()) c ann (fun r=>some r) (fun _ _=>none) (Be V fn.results.toList [.sl E t] [] ()) ⟨[(0,0,.one (.rdn ⟨0,[]⟩ bn (.sl E' t) xs))],[],1⟩=some zs:=by
  rw[<-hmod bn xs]
  cases bn with
  | false =>
   show (cm b [] xs).bind _=_
   rw[pD];rfl
  | true =>
   obtain ⟨h1,-⟩:=pX pD
   obtain ⟨ao,cap,e,-,hx⟩:=hrd
   obtain rfl:v= .slice ao xs.length cap:=by simpa using e
   rcases hx with rfl | ⟨b,off,ccs,t,fr,rfl,-⟩
   ·rw[h1]
   ·cases hbn
 let θ:Th:=fun _=>v
 have key:Con P k #[v] J w0 [] (fun v=>resFa [.sl E t] v/\(tX 1000000 V.an=true->pQ [.sl E t] (zs,()) v)) (fun v=>resGv [.sl E t] (zs,()) v++ []):=by
  refine od (n:=V.n) [(0,v)] hf hb hn hm (fun p hp=>by obtain rfl:=ak hp;rfl) (fun F w a hA hst=>?_) (fun u=>nW (D:=[]) trivial [.sl E t] (zs,()) hbk)
  have hfine:Fine P w0 J θ ⟨[(0,0,.one (.rdn ⟨0,[]⟩ bn (.sl E' t) xs))],[],1⟩:=⟨fun e he=>by obtain rfl:=ak he;exact ⟨Nat.one_pos,hrd,hbn⟩,fun e he=>by obtain rfl:=ak he;exact Nat.one_pos,List.pairwise_singleton _ _,fun e he=>(by cases he),hlay⟩
  have hS:Sim P J w0 F V.n J θ ⟨[(0,0,.one (.rdn ⟨0,[]⟩ bn (.sl E' t) xs))],[],1⟩ a w:=⟨Hp.le.rfl,hA,hst,hfine⟩
  have fin:=GE (V:=V) (θ:=θ) (J:=J) (w0:=w0) (rs:=[.sl E t]) (ps:=[]) (d:=()) (vs:=[]) (s0:=⟨[(0,0,.one (.rdn ⟨0,[]⟩ bn (.sl E' t) xs))],[],1⟩) (fn:=fn) (F:=F) hT rfl trivial (aB _) (γ:=θ 0) rfl
  exact (mj (I:=J) (w0:=w0) (F:=F) hT hF hmx c).1 ann hr hS (fun J' θ' s' a' w' hk S' hJ hFr=>fin _ J' θ' s' a' w' hk S' hJ hFr) (fun i J' θ' s' a' w' hk=>by cases hk) (fun r' J' θ' s' a' w' hrt hrr hS' hJ hFr=>by
   obtain rfl:=ae hrr
   exact fin _ J' θ' s' a' w' hrt hS' hJ hFr)
 exact fun w C hs=>(key w C hs).mono fun e w' ⟨v,h1,h2,h3⟩=>⟨v,h1,h2.1,h3⟩
def dN:Nat->Ty
 | 0=>.raw
 | n+1=>.prod .raw (dN n)
def gg:(n:Nat)->(dN n).den->List Value
 | 0,p=>[p.1]
 | n+1,p=>p.1.1::gg n p.2
theorem il: ∀n,(dN n).rep.size=n+1
 | 0=>rfl
 | n+1=>by
  show 1+(dN n).rep.size=_
  rw[il n];omega
theorem Bf {I:Hp} : ∀(n:Nat) {cs:List Value} {p:(dN n).den},(dN n).rep.rd I cs p↔cs=gg n p
 | 0,cs,p=>Iff.rfl
 | n+1,cs,p=>by
  constructor
  ·rintro ⟨c,d,rfl,h1,h2⟩
   obtain rfl:c= [p.1.1]:=h1
   rw[(Bf n).1 h2];rfl
  ·rintro rfl
   exact ⟨[p.1.1],gg n p.2,rfl,rfl,(Bf n).2 rfl⟩
theorem xM {I:Hp} {w:World} : ∀(n:Nat) {cs:List Value} {p:(dN n).den} {F:List Nat},(dN n).rep.own I w cs p F->F= [] /\cs=gg n p
 | 0,cs,p,F,h=>by
  obtain ⟨h1,h2⟩:=h
  exact ⟨h1,h2⟩
 | n+1,cs,p,F,⟨c,d,G,K,h1,h2,h3,h4⟩=>by
  obtain ⟨rfl,h5⟩:=h3
  obtain ⟨rfl,h6⟩:=xM n h4
  have h5:c= [p.1.1]:=h5
  subst h1;subst h2;subst h5
  exact ⟨rfl,by rw[h6];rfl⟩
theorem Bg: ∀(n:Nat) (cs:List Value),cs.length=n+1->(∀u∈cs,u.oneCell'=true)-> ∃p:(dN n).den,gg n p=cs
 | 0,cs,hl,h1=>by
  obtain ⟨u,rfl⟩:=List.length_eq_one_iff.1 hl
  exact ⟨⟨u,h1 u (by simp)⟩,rfl⟩
 | n+1,u::cs,hl,h1=>by
  obtain ⟨p,hp⟩:=Bg n cs (by simpa using hl) (fun v hv=>h1 v (by simp[hv]))
  exact ⟨(⟨u,h1 u (by simp)⟩,p),by show u::gg n p=_;rw[hp]⟩
theorem Np {n:Nat} {E:TypeId} {α:Type} {R:Rep α} (h1:R.size=n+1) {I:Hp} {v:Value} {xs:List α} (h:(aq E R).rd I [v] xs): ∃ps:List (dN n).den,All2 (fun p x=>R.rd I (gg n p) x) ps xs/\(aq E (dN n).rep).rd I [v] ps:=by
 obtain ⟨ao,cap,e,hl,h⟩:=h
 obtain rfl:v= .slice ao xs.length cap:=by simpa using e
 rcases h with rfl | ⟨b,off,ccs,t,fr,rfl,h2,h3⟩
 ·exact ⟨[],.nil,ao,cap,rfl,hl,.inl rfl⟩
 ·have key: ∀(xs:List α) (k0:Nat),(∀i x,xs[i]? =some x-> ∃c:List Value,c.length=R.size/\(∀j,j<R.size->ccs.toList[off+(k0+i)*R.size+j]? =c[j]?)/\R.rd I c x)-> ∃ps:List (dN n).den,All2 (fun p x=>R.rd I (gg n p) x) ps xs/\ ∀i p,ps[i]? =some p->(gg n p).length=R.size/\ ∀j,j<R.size->ccs.toList[off+(k0+i)*R.size+j]? =(gg n p)[j]? :=by
   intro xs
   induction xs with
   | nil=>intro k0 _;exact ⟨[],.nil,fun i p hp=>by simp at hp⟩
   | cons x xs ih =>
    intro k0 h
    obtain ⟨c,e1,e2,e3⟩:=h 0 x rfl
    obtain ⟨p,rfl⟩:=Bg n c (e1.trans h1) (R.rd_one e3)
    obtain ⟨ps,q1,q2⟩:=ih (k0+1) fun i y hy=>by
     have:=h (i+1) y (by simpa using hy)
     rwa [show k0+(i+1)=k0+1+i from by omega] at this
    refine ⟨p::ps,.cons e3 q1,fun i u hu=>?_⟩
    cases i with
    | zero =>
     obtain rfl:p=u:=by simpa using hu
     exact ⟨e1,e2⟩
    | succ i =>
     have:=q2 i u (by simpa using hu)
     rwa [show k0+1+i=k0+(i+1) from by omega] at this
  obtain ⟨ps,q1,q2⟩:=key xs 0 (fun i x hx=>by rw[Nat.zero_add];exact h3 i x hx)
  have hlen:=q1.length_eq
  refine ⟨ps,q1,_,cap,by rw[hlen],by rw[hlen];exact hl,.inr ⟨b,off,ccs,t,fr,rfl,h2,fun i p hp=>?_⟩⟩
  obtain ⟨k1,k2⟩:=q2 i p hp
  rw[Nat.zero_add] at k2
  refine ⟨gg n p,by rw[k1,h1,il],fun j hj=>?_,(Bf n).2 rfl⟩
  rw[il] at hj⊢
  rw[<-h1]
  exact k2 j (by rw[h1];exact hj)
theorem CD {n:Nat} {α:Type} {R:Rep α} (h1:R.size=n+1) {I:Hp} {w:World} : ∀ {ps:List (dN n).den} {xs:List α} {cur:List Value} {F:List Nat},OwnEls (dN n).rep I w cur ps F->All2 (fun p x=>R.rd I (gg n p) x) ps xs->OwnEls (qR R) I w cur xs F
 | [],[],_,_,h,_=>h
 | p::ps,x::xs,cur,F,⟨c,rest,G,K,e1,e2,e3,e4,e5⟩,hh=>by
  cases hh with
  | cons hp hps =>
   obtain ⟨rfl,rfl⟩:=xM n e4
   exact ⟨gg n p,rest,[],K,e1,by rw[e2,il];exact h1.symm,e3,⟨rfl,hp⟩,CD h1 e5 hps⟩
 | [],_::_,_,_,_,hh=>by cases hh
 | _::_,[],_,_,_,hh=>by cases hh
theorem JI {n:Nat} {α:Type} {E:TypeId} {R:Rep α} (h1:R.size=n+1) {I:Hp} {w0 w:World} {C:List Ch} {v:Value} {xs:List α} {ps:List (dN n).den} (hp:All2 (fun p x=>R.rd I (gg n p) x) ps xs) (h:St I w0 w (Ch.own (aq E (dN n).rep) [v] ps::C)):St I w0 w (Ch.own (aq E (qR R)) [v] xs::C):=by
 obtain ⟨a1,a2,F,⟨G,K,rfl,⟨hl,k⟩,e⟩,a4,a5⟩:=h
 have hlen:=hp.length_eq
 rcases k with ⟨hv',rfl,rfl⟩ | ⟨g,ofs,cap,cur,K1,hv',k1,k2,k3,k4,rfl,k5⟩
 ·cases hp
  exact ⟨a1,a2,[] ++K,⟨[],K,rfl,⟨Nat.zero_le _,.inl ⟨hv',rfl,rfl⟩⟩,e⟩,a4,a5⟩
 ·exact ⟨a1,a2,(g::K1)++K,⟨g::K1,K,rfl,⟨by rw[<-hlen];exact hl,.inr ⟨g,ofs,cap,cur,K1,by rw[<-hlen];exact hv',k1,by rw[<-hlen];exact k2,k3,by rw[il] at k4;show ofs+cap*R.size<=_;rw[h1];exact k4,rfl,CD h1 k5 hp⟩⟩,e⟩,a4,a5⟩
theorem JJ {P:Program} {k:FuncId} {E E' b n:Nat} {t:Ty} (hs:t.size=n+1) (h:FOk P k ⟨[.rd (.sl E' (dN n))],[.sl E (dN n)],fun xs=>cm b [] xs,none⟩):FOk P k ⟨[.rd (.sl E' t)],[.sl E (.fro t)],fun xs=>cm b [] xs,none⟩:=by
 refine ⟨fun q hq=>(by cases hq),fun _=>h.en rfl,fun _ w0 J γ vs d r hlay ha pD=>?_⟩
 obtain ⟨v,vs',rfl,hd,hnil⟩:=ha
 obtain rfl:vs'= []:=hnil
 obtain ⟨xs,u⟩:=d
 obtain ⟨cs,hcs,hrd⟩:=hd
 obtain rfl:cs= [v]:=hcs
 let zs:List t.den:=r
 have pD:cm b [] xs=some zs:=pD
 have hrd:(aq E' t.rep).rd J [v] xs:=hrd
 have hsz:t.rep.size=n+1:=(Ty.rep_size t).trans hs
 obtain ⟨ps,hp,hps⟩:=Np hsz hrd
 obtain ⟨h1,h2⟩:=pX pD
 have hz:cm b [] ps=some ps:=h2 ps hp.length_eq
 have key:=h.con rfl w0 J undef [v] (ps,()) (show dens ([Ty.sl E (dN n)] ++ []) from ps) hlay ⟨v,[],rfl,⟨[v],rfl,hps⟩,rfl⟩ hz
 exact fun w C hs=>(key w C hs).mono fun e w' ⟨v,a1,a2,a3⟩=>⟨v,a1,a2,by
  have a3:St J w0 w' (Ch.own (aq E (dN n).rep) [v] ps::C):=a3
  have a4:=JI hsz hp a3
  show St J w0 w' (Ch.own (aq E (qR t.rep)) [v] zs::C)
  rw[h1];exact a4⟩
theorem gF {P:Program} {k:FuncId} {f:FS} (h:Enters P k) (hc:f.cl=none) (hm: ∀d,appP f.ps f.m d=none):FOk P k f:=
 ⟨fun q hq=>by (rw[hc] at hq;cases hq),fun _=>h,fun _ _ _ _ _ d r _ _ hr=>by rw[hm d] at hr;cases hr⟩
theorem zH {P:Program} {k:FuncId} {f:FS} {E b:Nat} (h:FOk P k ⟨f.ps,f.rs,f.m,none⟩) (hc:qZ P k E b) (hb:Nat.beq b 0=false:=by rfl) (h7:Nat.beq b 7=false:=by rfl) (h8:Nat.ble 1000 b=false:=by rfl) (h9:Nat.beq b 9=false:=by rfl):FOk P k ⟨f.ps,f.rs,f.m,some (E,b)⟩:=
 ⟨fun q hq=>by obtain rfl:=ae hq;exact ⟨⟨fun e=>(by rw[hb] at e;cases e),fun _ _ _ _=>hc,fun e=>(by rw[h8] at e;cases e)⟩,fun e=>(by rw[h7] at e;cases e),fun e=>(by rw[h9] at e;cases e)⟩,fun _=>h.en rfl,fun _=>h.con rfl⟩
end R
namespace R
open Go.RowKit
open D
theorem CE {n:Nat} {α:Type} {R:Rep α} (hR:R.Sh) (h1:R.size=n+1) {I:Hp} {w:World} : ∀ {xs:List α} {cur:List Value} {K:List Nat},OwnEls R I w cur xs K-> ∃ps:List (dN n).den,K= [] /\OwnEls (dN n).rep I w cur ps [] /\All2 (fun p x=>R.rd I (gg n p) x) ps xs
 | [],cur,K,h=>⟨[],h,rfl,.nil⟩
 | x::xs,cur,K,⟨c,rest,G,K1,e1,e2,e3,e4,e5⟩=>by
  obtain ⟨rfl,hrd⟩:=hR e4
  obtain ⟨p,rfl⟩:=Bg n c (e2.trans h1) (R.rd_one hrd)
  obtain ⟨ps,rfl,k2,k3⟩:=CE hR h1 e5
  have hraw: ∀(m:Nat) (q:(dN m).den),(dN m).rep.own I w (gg m q) q []:=by
   intro m
   induction m with
   | zero=>intro q;exact ⟨rfl,rfl⟩
   | succ m ih=>intro q;exact ⟨[q.1.1],gg m q.2,[],[],rfl,rfl,⟨rfl,rfl⟩,ih q.2⟩
  exact ⟨p::ps,e3,⟨gg n p,rest,[],[],e1,by rw[e2,h1,il],rfl,hraw n p,k2⟩,.cons hrd k3⟩
theorem xN {n:Nat} {α:Type} {E:TypeId} {R:Rep α} (hR:R.Sh) (h1:R.size=n+1) {I:Hp} {w0 w:World} {C:List Ch} {v:Value} {xs:List α} (h:St I w0 w (Ch.own (aq E R) [v] xs::C)): ∃ps:List (dN n).den,All2 (fun p x=>R.rd I (gg n p) x) ps xs/\St I w0 w (Ch.own (aq E (dN n).rep) [v] ps::C):=by
 obtain ⟨a1,a2,F,⟨G,K,rfl,⟨hl,k⟩,e⟩,a4,a5⟩:=h
 rcases k with ⟨hv',rfl,rfl⟩ | ⟨g,ofs,cap,cur,K1,hv',k1,k2,k3,k4,rfl,k5⟩
 ·exact ⟨[],.nil,a1,a2,[] ++K,⟨[],K,rfl,⟨Nat.zero_le _,.inl ⟨hv',rfl,rfl⟩⟩,e⟩,a4,a5⟩
 ·obtain ⟨ps,rfl,q1,q2⟩:=CE hR h1 k5
  have hlen:=q2.length_eq
  exact ⟨ps,q2,a1,a2,[g] ++K,⟨[g],K,rfl,⟨by rw[hlen];exact hl,.inr ⟨g,ofs,cap,cur,[],by rw[hlen];exact hv',k1,by rw[hlen];exact k2,k3,by rw[h1] at k4;rw[il];exact k4,rfl,q1⟩⟩,e⟩,a4,a5⟩
theorem zI {n:Nat} {α:Type} {R:Rep α} (hC:Cpy R R) (h1:R.size=n+1) {I:Hp} {w:World} : ∀ {ps:List (dN n).den} {xs:List α} {cur:List Value} {F:List Nat},OwnEls (dN n).rep I w cur ps F->All2 (fun p x=>R.rd I (gg n p) x) ps xs->OwnEls R I w cur xs F
 | [],[],_,_,h,_=>h
 | p::ps,x::xs,cur,F,⟨c,rest,G,K,e1,e2,e3,e4,e5⟩,hh=>by
  cases hh with
  | cons hp hps =>
   obtain ⟨rfl,rfl⟩:=xM n e4
   exact ⟨gg n p,rest,[],K,e1,by rw[e2,il];exact h1.symm,e3,hC hp,zI hC h1 e5 hps⟩
 | [],_::_,_,_,_,hh=>by cases hh
 | _::_,[],_,_,_,hh=>by cases hh
theorem um {n:Nat} {α:Type} {E:TypeId} {R:Rep α} (hC:Cpy R R) (h1:R.size=n+1) {I:Hp} {w0 w:World} {C:List Ch} {v:Value} {xs:List α} {ps:List (dN n).den} (hp:All2 (fun p x=>R.rd I (gg n p) x) ps xs) (h:St I w0 w (Ch.own (aq E (dN n).rep) [v] ps::C)):St I w0 w (Ch.own (aq E R) [v] xs::C):=by
 obtain ⟨a1,a2,F,⟨G,K,rfl,⟨hl,k⟩,e⟩,a4,a5⟩:=h
 have hlen:=hp.length_eq
 rcases k with ⟨hv',rfl,rfl⟩ | ⟨g,ofs,cap,cur,K1,hv',k1,k2,k3,k4,rfl,k5⟩
 ·cases hp
  exact ⟨a1,a2,[] ++K,⟨[],K,rfl,⟨Nat.zero_le _,.inl ⟨hv',rfl,rfl⟩⟩,e⟩,a4,a5⟩
 ·exact ⟨a1,a2,(g::K1)++K,⟨g::K1,K,rfl,⟨by rw[<-hlen];exact hl,.inr ⟨g,ofs,cap,cur,K1,by rw[<-hlen];exact hv',k1,by rw[<-hlen];exact k2,k3,by rw[il] at k4;rw[h1];exact k4,rfl,zI hC h1 k5 hp⟩⟩,e⟩,a4,a5⟩
theorem uo {α β:Type} {p:α->β->Prop} : ∀ {xs:List α} {ys:List β} (n:Nat),All2 p xs ys->All2 p (xs.take n) (ys.take n)
 | _,_,0,_=>.nil
 | _,_,n+1,.nil=>.nil
 | _,_,n+1,.cons h k=>.cons h (uo n k)
theorem sU {α β:Type} {p:α->β->Prop} : ∀ {xs:List α} {ys:List β} {xs':List α} {ys':List β},All2 p xs ys->All2 p xs' ys'->All2 p (xs++xs') (ys++ys')
 | _,_,_,_,.nil,h=>h
 | _,_,_,_,.cons h k,h'=>.cons h (sU k h')
def Qa {α:Type} (xs:List α) (i j:Int):Option (List α):=(chk (0<=i/\i<=j/\j<=(xs.length:Int))).bind fun _=>some (xs.take i.toNat++xs.drop j.toNat)
def Qb {α:Type} (z:α) (p0s:List α) (p1i p2j:Int):Option (List α):=
 (chk (And (0<=p1i) (And (p1i<=p2j) (And (p2j<=(p0s.length:Int)) ((0+(p0s.length:Int))<=(p0s.length:Int)))))).bind fun _=>if p1i==p2j then (some p0s) else ((chk (And ((0:Int)<=0) (And (0<=p1i) ((0+p1i)<=(p0s.length:Int))))).bind fun _=>(chk (And (0<=p2j) (And (p2j<=((p0s.length:Int) - 0)) ((0+((p0s.length:Int) - 0))<=(p0s.length:Int))))).bind fun _=>(chk (And ((0+0:Int)=0) (And ((0+p1i)<=(0+p2j)) (And ((0+p2j)<=(0+((p0s.length:Int) - 0))) ((0+((p0s.length:Int) - 0))<=(p0s.length:Int)))))).bind fun _=>(chk (And (0<=(((0+p1i)+((0+((p0s.length:Int) - 0)) - (0+p2j))) - 0)) (And ((((0+p1i)+((0+((p0s.length:Int) - 0)) - (0+p2j))) - 0)<=(p0s.length:Int)) ((0+(p0s.length:Int))<=((kN p0s ((0+p1i).toNat) ((0+p2j).toNat) ((0+((p0s.length:Int) - 0)).toNat)).length:Int))))).bind fun _=>(chk (And ((0+(((0+p1i)+((0+((p0s.length:Int) - 0)) - (0+p2j))) - 0))<=(0+(p0s.length:Int))) ((0+(p0s.length:Int))<=((kN p0s ((0+p1i).toNat) ((0+p2j).toNat) ((0+((p0s.length:Int) - 0)).toNat)).length:Int)))).bind fun _=>some (((ra (kN p0s ((0+p1i).toNat) ((0+p2j).toNat) ((0+((p0s.length:Int) - 0)).toNat)) ((0+(((0+p1i)+((0+((p0s.length:Int) - 0)) - (0+p2j))) - 0)).toNat) ((0+(p0s.length:Int)).toNat) z).take (((0+p1i)+((0+((p0s.length:Int) - 0)) - (0+p2j))).toNat)).drop ((0:Int).toNat)))
theorem chk_of {α:Type} {p:Prop} [Decidable p] {k:Unit->Option α} (h:p):(chk p).bind k=k ():=by
 unfold chk
 rw[if_pos h];rfl
theorem Nq {α:Type} {z:α} {xs:List α} {i j:Int} (h1:0<=i) (h2:i<=j) (h3:j<=(xs.length:Int)):Qb z xs i j=some (xs.take i.toNat++xs.drop j.toNat):=by
 have hsl:(kN xs ((0+i).toNat) ((0+j).toNat) ((0+((xs.length:Int) - 0)).toNat)).length=xs.length:=pY (by omega) (by omega) (by omega)
 unfold Qb
 rw[chk_of (by omega)]
 by_cases hij:i=j
 ·subst hij
  rw[if_pos (by simp),List.take_append_drop]
 ·rw[if_neg (by simpa using hij),chk_of (by omega),chk_of (by omega),chk_of (by omega),chk_of (by rw[hsl];omega),chk_of (by rw[hsl];omega)]
  have hzl:(ra (kN xs ((0+i).toNat) ((0+j).toNat) ((0+((xs.length:Int) - 0)).toNat)) ((0+(((0+i)+((0+((xs.length:Int) - 0)) - (0+j))) - 0)).toNat) ((0+(xs.length:Int)).toNat) z).length=xs.length:=by
   rw[rR (by omega) (by rw[hsl];omega),hsl]
  congr 1
  rw[show ((0:Int).toNat)=0 from rfl,List.drop_zero]
  apply List.ext_getElem?
  intro q
  have hi:(xs.take i.toNat).length=i.toNat:=by rw[aA];omega
  rw[List.getElem?_take]
  by_cases c:q<((0+i)+((0+((xs.length:Int) - 0)) - (0+j))).toNat
  ·rw[if_pos c,y8 (by omega) (by rw[hsl];omega),if_neg (by omega),we (by omega) (by omega) (by omega)]
   by_cases c1:q<i.toNat
   ·rw[if_neg (by omega),List.getElem?_append_left (by omega),List.getElem?_take,if_pos c1]
   ·rw[if_pos (by omega),List.getElem?_append_right (by omega),hi,List.getElem?_drop]
    congr 1;omega
  ·rw[if_neg c,List.getElem?_append_right (by omega),List.getElem?_drop,List.getElem?_eq_none (by omega)]
theorem Nr {P:Program} {k:FuncId} {E n:Nat} {u:Ty} {z:(dN n).den} (hu:u.sh=true) (hs:u.size=n+1) (h:FOk P k ⟨[.eat (.sl E (dN n)),.rd (.int .i64),.rd (.int .i64)],[.sl E (dN n)],Qb z,none⟩):FOk P k ⟨[.eat (.sl E u),.rd (.int .i64),.rd (.int .i64)],[.sl E u],Qa,none⟩:=by
 refine ⟨fun q hq=>(by cases hq),fun _=>h.en rfl,fun _ w0 J γ vs d r hlay ha pD=>?_⟩
 obtain ⟨v,vs1,rfl,hd,v2,vs2,rfl,hd2,v3,vs3,rfl,hd3,hnil⟩:=ha
 obtain rfl:vs3= []:=hnil
 obtain ⟨xs0,i0,j0,un⟩:=d
 let xs:List u.den:=xs0
 let i:Int:=i0
 let j:Int:=j0
 let zs:List u.den:=r
 have pD:Qa xs i j=some zs:=pD
 obtain ⟨u1,hc,hz⟩:=Option.bind_eq_some_iff.1 pD
 obtain ⟨c1,c2,c3⟩:=bF hc
 have hz:=ae hz
 have hsz:u.rep.size=n+1:=(Ty.rep_size u).trans hs
 intro w C hst
 have hst:St J w0 w (Ch.own (aq E u.rep) [v] xs::C):=hst
 obtain ⟨ps,hp,hst2⟩:=xN (Ty.sh_ok hu) hsz hst
 have hlen:=hp.length_eq
 have hm:Qb z ps i j=some (ps.take i.toNat++ps.drop j.toNat):=Nq c1 c2 (by rw[hlen];exact c3)
 have key:=h.con rfl w0 J undef [v,v2,v3] (ps,i,j,()) (show dens ([Ty.sl E (dN n)] ++ []) from ps.take i.toNat++ps.drop j.toNat) hlay ⟨v,_,rfl,hd,v2,_,rfl,hd2,v3,_,rfl,hd3,rfl⟩ hm
 refine (key w C hst2).mono fun e w' ⟨r,a1,a2,a3⟩=>⟨r,a1,a2,?_⟩
 have a3:St J w0 w' (Ch.own (aq E (dN n).rep) [r] (ps.take i.toNat++ps.drop j.toNat)::C):=a3
 show St J w0 w' (Ch.own (aq E u.rep) [r] zs::C)
 rw[<-hz]
 exact um (Ty.cpy hu) hsz (sU (uo _ hp) (kM _ hp)) a3
def Rb {α:Type} (b:Nat) (z:α) (xs:List α) (i:Int) (v:List α) (c:Nat):Option (List α×List α):=
 (chk ((0:Int)<=0/\0<=i/\0+i<=(xs.length:Int))).bind fun _ =>
 (chk ((0+0:Int)=0/\0+i<=(xs.length:Int)/\0<IntKind.i64.wrap (IntKind.i64.wrap ((xs.length:Int)+(v.length:Int)) - i)/\(c:Int)<(0+i)+IntKind.i64.wrap (IntKind.i64.wrap ((xs.length:Int)+(v.length:Int)) - i)/\((0+i)+IntKind.i64.wrap (IntKind.i64.wrap ((xs.length:Int)+(v.length:Int)) - i))*(b:Int)<=140737488355328)).bind fun _ =>
 (fun s2:List α=>(chk (0<=i/\i<=(s2.length:Int) - 0/\0+((s2.length:Int) - 0)<=(s2.length:Int))).bind fun _ =>
  (chk ((0:Int)<=0/\0<=min ((v.length:Int) - 0) ((0+((s2.length:Int) - 0)) - (0+i))/\0+min ((v.length:Int) - 0) ((0+((s2.length:Int) - 0)) - (0+i))<=(v.length:Int)/\0<=0+i/\0+i<=(s2.length:Int)/\0+((s2.length:Int) - 0)<=(s2.length:Int))).bind fun _ =>
  (fun s3:List α=>(chk (0<=IntKind.i64.wrap (i+(v.length:Int))/\IntKind.i64.wrap (i+(v.length:Int))<=(s3.length:Int) - 0/\0+((s3.length:Int) - 0)<=(s3.length:Int))).bind fun _ =>
   (chk (0<=i/\i<=(xs.length:Int) - 0/\0+((xs.length:Int) - 0)<=(xs.length:Int))).bind fun _ =>
   (chk (0<=0+i/\0<=min ((0+((xs.length:Int) - 0)) - (0+i)) ((0+((s3.length:Int) - 0)) - (0+IntKind.i64.wrap (i+(v.length:Int))))/\(0+i)+min ((0+((xs.length:Int) - 0)) - (0+i)) ((0+((s3.length:Int) - 0)) - (0+IntKind.i64.wrap (i+(v.length:Int))))<=(xs.length:Int)/\0<=0+IntKind.i64.wrap (i+(v.length:Int))/\0+IntKind.i64.wrap (i+(v.length:Int))<=(s3.length:Int)/\0+((s3.length:Int) - 0)<=(s3.length:Int))).bind fun _ =>
   some (qS s3 (0+IntKind.i64.wrap (i+(v.length:Int))).toNat (sA xs (0+i) (min ((0+((xs.length:Int) - 0)) - (0+i)) ((0+((s3.length:Int) - 0)) - (0+IntKind.i64.wrap (i+(v.length:Int)))))),v))
  (qS s2 (0+i).toNat (sA v 0 (min ((v.length:Int) - 0) ((0+((s2.length:Int) - 0)) - (0+i))))))
 (xs.take (0+i).toNat++List.replicate (IntKind.i64.wrap (IntKind.i64.wrap ((xs.length:Int)+(v.length:Int)) - i)).toNat z)
def Rc {α:Type} (xs:List α) (i:Int) (v:List α) (c:Nat):Option (List α×List α):=
 (fun w0 w:Int=>(chk ((xs.length:Int)<=w0/\w0<=(c:Int))).bind fun _ =>
  (chk (0<=w/\w<=w0 - 0/\w0 - 0<=w0 - 0)).bind fun _ =>
  (chk (0<v.length/\0+w<0+(w0 - 0))).bind fun _ =>
  (chk (0<=w/\w<=w0 - 0/\w0 - 0<=w0 - 0)).bind fun _ =>
  (chk (0<=i/\i<=w0 - 0/\w0 - 0<=w0 - 0)).bind fun _ =>
  (chk (0<=0+i/\0<=min ((0+(w0 - 0)) - (0+i)) ((0+(w0 - 0)) - (0+w))/\(0+i)+min ((0+(w0 - 0)) - (0+i)) ((0+(w0 - 0)) - (0+w))<=(xs.length:Int)/\0<=0+w/\0+w<=(xs.length:Int))).bind fun _ =>
  (chk ((0+w)+min ((0+(w0 - 0)) - (0+i)) ((0+(w0 - 0)) - (0+w))=w0/\(xs.length:Int)<=w0)).bind fun _ =>
  (fun s2:List α=>(chk (0<=i/\i<=(s2.length:Int) - 0/\0+((s2.length:Int) - 0)<=(s2.length:Int))).bind fun _ =>
   (chk ((0:Int)<=0/\0<=min ((v.length:Int) - 0) ((0+((s2.length:Int) - 0)) - (0+i))/\0+min ((v.length:Int) - 0) ((0+((s2.length:Int) - 0)) - (0+i))<=(v.length:Int)/\0<=0+i/\0+i<=(s2.length:Int)/\0+((s2.length:Int) - 0)<=(s2.length:Int))).bind fun _ =>
   some (qS s2 (0+i).toNat (sA v 0 (min ((v.length:Int) - 0) ((0+((s2.length:Int) - 0)) - (0+i)))),v))
  (qS xs (0+w).toNat (sA xs (0+i) (min ((0+(w0 - 0)) - (0+i)) ((0+(w0 - 0)) - (0+w))))))
 (IntKind.i64.wrap ((xs.length:Int)+(v.length:Int))) (IntKind.i64.wrap (i+(v.length:Int)))
noncomputable def QE {α:Type} (b:Nat) (z:α) (xs:List α) (i:Int) (v:List α):Option (List α×List α):=
 (chk (0<=i/\i<=(xs.length:Int) - 0/\0+((xs.length:Int) - 0)<=(xs.length:Int))).bind fun _ =>
 if (v.length:Int)==0 then some (xs,v) else if i==(xs.length:Int) then (cm b xs v).bind fun zs=>some (zs,v) else
 Ci xs.length fun c=>if PP .gtr (IntKind.i64.wrap ((xs.length:Int)+(v.length:Int))) (c:Int) then Rb b z xs i v c else Rc xs i v c
def Ns {α:Type} (b:Nat) (xs:List α) (i:Int) (v:List α):Option (List α×List α):=
 (chk (0<=i/\i<=(xs.length:Int)/\v.length=1/\1<=b/\(xs.length+1)*b<=140737488355328)).bind fun _=>some (xs.take i.toNat++(v++xs.drop i.toNat),v)
theorem GG {α:Type} {xs v:List α} {i q:Nat} (hi:i<=xs.length) (hv:v.length=1):(xs.take i++(v++xs.drop i))[q]? =if q<i then xs[q]? else if q=i then v[0]? else xs[q - 1]? :=by
 have hl:(xs.take i).length=i:=by rw[aA];omega
 by_cases c1:q<i
 ·rw[if_pos c1,List.getElem?_append_left (by omega),List.getElem?_take,if_pos c1]
 ·rw[if_neg c1,List.getElem?_append_right (by omega),hl]
  by_cases c2:q=i
  ·rw[if_pos c2,List.getElem?_append_left (by omega),c2,Nat.sub_self]
  ·rw[if_neg c2,List.getElem?_append_right (by omega),hv,List.getElem?_drop];congr 1;omega
set_option maxHeartbeats 1000000 in
theorem Nt {α:Type} {b:Nat} {z:α} {xs v:List α} {i:Int} {r:List α×List α} (h:Ns b xs i v=some r):QE b z xs i v=some r:=by
 obtain ⟨u,hc,h⟩:=Option.bind_eq_some_iff.1 h
 obtain ⟨h1,h2,hv,hb,hbig⟩:=bF hc
 obtain rfl:=ae h
 have hn:xs.length+1<=140737488355328:=by
  have:(xs.length+1)*1<=(xs.length+1)*b:=Nat.mul_le_mul_left _ hb
  omega
 obtain ⟨k,rfl⟩: ∃k:Nat,i=(k:Int):=⟨i.toNat,by omega⟩
 have hk:k<=xs.length:=by omega
 have w1:IntKind.i64.wrap ((xs.length:Int)+(v.length:Int))=((xs.length+1:Nat):Int):=by rw[hv,IntKind.wrap_i64];omega
 have w2:IntKind.i64.wrap ((k:Int)+(v.length:Int))=((k+1:Nat):Int):=by rw[hv,IntKind.wrap_i64];omega
 have w3:IntKind.i64.wrap (((xs.length+1:Nat):Int) - (k:Int))=((xs.length+1 - k:Nat):Int):=by rw[IntKind.wrap_i64];omega
 unfold QE
 rw[chk_of (by omega)]
 rw[if_neg (by rw[hv];decide)]
 by_cases hkn:k=xs.length
 ·subst hkn
  rw[if_pos (by simp)]
  have:cm b xs v=some (xs++v):=by unfold cm;rw[if_pos (by rw[hv];exact hbig)]
  rw[this]
  simp
 ·rw[if_neg (by simp;omega)]
  have tk:((k:Int)).toNat=k:=rfl
  have t0:(0+(k:Int)).toNat=k:=by omega
  have t1:(0+((k+1:Nat):Int)).toNat=k+1:=by omega
  have sv:sA v 0 1=v:=by
   unfold sA
   rw[show ((0:Int)+1).toNat=1 from rfl,show ((0:Int)).toNat=0 from rfl,List.drop_zero,List.take_of_length_le (by omega)]
  have sx:sA xs (0+(k:Int)) ((xs.length:Int) - (k:Int))=xs.drop k:=by
   unfold sA
   rw[t0,show (0+(k:Int)+((xs.length:Int) - (k:Int))).toNat=xs.length from by omega,List.take_length]
  have hdl:(xs.drop k).length=xs.length - k:=aT
  refine FU (by unfold maxLen;omega) fun c c1 c2=>?_
  have hcmp:PP .gtr (IntKind.i64.wrap ((xs.length:Int)+(v.length:Int))) (c:Int)=decide (((xs.length+1:Nat):Int)>(c:Int)):=by rw[w1];rfl
  rw[hcmp]
  by_cases hg:xs.length+1>c
  ·rw[if_pos (by simp;omega)]
   unfold Rb
   rw[w1,w2,w3]
   generalize hs2:xs.take (0+(k:Int)).toNat++List.replicate (((xs.length+1 - k:Nat):Int)).toNat z=s2
   have l2:s2.length=xs.length+1:=by rw[<-hs2,t0,ah,aA,List.length_replicate];omega
   have m1:min ((v.length:Int) - 0) ((0+((s2.length:Int) - 0)) - (0+(k:Int)))=1:=by rw[hv,l2];omega
   simp only[m1,sv,t0]
   have lc:(qS s2 k v).length=xs.length+1:=by rw[j6 (by omega),l2,hv];omega
   have m2:min ((0+((xs.length:Int) - 0)) - (0+(k:Int))) ((0+(((qS s2 k v).length:Int) - 0)) - (0+((k+1:Nat):Int)))=(xs.length:Int) - (k:Int):=by rw[lc];omega
   simp only[m2,sx,t1]
   have hbi:((xs.length+1:Nat):Int)*(b:Int)<=140737488355328:=by rw[<-Int.natCast_mul];omega
   rw[chk_of (by omega),chk_of (by
    refine ⟨by omega,by omega,by omega,by omega,?_⟩
    rw[show (0+(k:Int))+((xs.length+1 - k:Nat):Int)=((xs.length+1:Nat):Int) from by omega]
    exact hbi),chk_of (by rw[l2];omega),chk_of (by rw[l2,hv];omega),chk_of (by rw[lc];omega),chk_of (by omega),chk_of (by rw[lc];omega)]
   congr 2
   apply List.ext_getElem?
   intro q
   rw[p8 (by rw[lc];omega),hdl,tk,GG hk hv]
   by_cases q1:k+1<=q/\q<k+1+(xs.length - k)
   ·rw[if_pos q1,if_neg (by omega),if_neg (by omega),List.getElem?_drop];congr 1;omega
   ·rw[if_neg q1,p8 (by omega),hv]
    by_cases q2:q<k
    ·rw[if_neg (by omega),if_pos q2,<-hs2,t0,List.getElem?_append_left (by rw[aA];omega),List.getElem?_take,if_pos q2]
    ·by_cases q3:q=k
     ·rw[if_pos (by omega),if_neg q2,if_pos q3,q3,Nat.sub_self]
     ·rw[if_neg (by omega),if_neg q2,if_neg q3,List.getElem?_eq_none (by omega),List.getElem?_eq_none (by omega)]
  ·rw[if_neg (by simp;omega)]
   unfold Rc
   simp only
   rw[w1,w2]
   have m3:min ((0+((((xs.length+1:Nat):Int)) - 0)) - (0+(k:Int))) ((0+((((xs.length+1:Nat):Int)) - 0)) - (0+((k+1:Nat):Int)))=(xs.length:Int) - (k:Int):=by omega
   simp only[m3,sx,t0,t1]
   have lc:(qS xs (k+1) (xs.drop k)).length=xs.length+1:=by rw[j6 (by omega),hdl];omega
   have m4:min ((v.length:Int) - 0) ((0+(((qS xs (k+1) (xs.drop k)).length:Int) - 0)) - (0+(k:Int)))=1:=by rw[lc,hv];omega
   simp only[m4,sv]
   rw[chk_of (by omega),chk_of (by omega),chk_of (by rw[hv];omega),chk_of (by omega),chk_of (by omega),chk_of (by omega),chk_of (by omega),chk_of (by rw[lc];omega),chk_of (by rw[lc,hv];omega)]
   congr 2
   apply List.ext_getElem?
   intro q
   rw[p8 (by rw[lc];omega),hv,tk,GG hk hv]
   by_cases q3:q=k
   ·rw[if_pos (by omega),if_neg (by omega),if_pos q3,q3,Nat.sub_self]
   ·rw[if_neg (by omega),p8 (by omega),hdl]
    by_cases q2:q<k
    ·rw[if_neg (by omega),if_pos q2]
    ·rw[if_neg q2,if_neg q3]
     by_cases q4:q<k+1+(xs.length - k)
     ·rw[if_pos (by omega),List.getElem?_drop];congr 1;omega
     ·rw[if_neg (by omega),List.getElem?_eq_none (by omega),List.getElem?_eq_none (by omega)]
theorem O8 {P:Program} {k:FuncId} {E:TypeId} (h:PV P k):FOk P k ⟨[],[],none,some (E,0)⟩:=
 ⟨fun q hq=>(by obtain rfl:=ae hq;exact ⟨⟨fun _=>h,fun e=>(by cases e),fun e=>(by cases e)⟩,fun e=>(by cases e),fun e=>(by cases e)⟩),fun e=>(by cases e),fun e=>(by cases e)⟩
theorem Nu {P:Program} {k:FuncId} {E n b:Nat} {u:Ty} {z:(dN n).den} (hu:u.sh=true) (hs:u.size=n+1) (h:FOk P k ⟨[.eat (.sl E (dN n)),.rd (.int .i64),.ow (.sl E (dN n))],[.sl E (dN n)],QE b z,none⟩):FOk P k ⟨[.eat (.sl E u),.rd (.int .i64),.ow (.sl E u)],[.sl E u],Ns b,none⟩:=by
 refine ⟨fun q hq=>(by cases hq),fun _=>h.en rfl,fun _ w0 J γ vs d r hlay ha pD=>?_⟩
 obtain ⟨v,vs1,rfl,hd,v2,vs2,rfl,hd2,v3,vs3,rfl,hd3,hnil⟩:=ha
 obtain rfl:vs3= []:=hnil
 obtain ⟨xs0,i0,y0,un⟩:=d
 let xs:List u.den:=xs0
 let i:Int:=i0
 let ys:List u.den:=y0
 let zs:List u.den×List u.den:=r
 have pD:Ns b xs i ys=some zs:=pD
 obtain ⟨u1,hc,hz⟩:=Option.bind_eq_some_iff.1 pD
 have hc:=bF hc
 have hz:=ae hz
 have hsz:u.rep.size=n+1:=(Ty.rep_size u).trans hs
 intro w C hst
 have hst:St J w0 w (Ch.own (aq E u.rep) [v] xs::Ch.own (aq E u.rep) [v3] ys::C):=hst
 obtain ⟨ps,hp,hst2⟩:=xN (Ty.sh_ok hu) hsz hst
 obtain ⟨qs,hq,hst3⟩:=xN (Ty.sh_ok hu) hsz (hst2.perm (List.Perm.swap _ _ _))
 have hst4:=hst3.perm (List.Perm.swap _ _ _)
 have hlen:=hp.length_eq
 have hlen2:=hq.length_eq
 have hi:Ns b ps i qs=some (ps.take i.toNat++(qs++ps.drop i.toNat),qs):=by
  unfold Ns
  rw[chk_of (by rw[hlen,hlen2];exact hc)]
 have hm:=Nt (z:=z) hi
 have key:=h.con rfl w0 J undef [v,v2,v3] (ps,i,qs,()) (show dens ([Ty.sl E (dN n)] ++ [Ty.sl E (dN n)]) from (ps.take i.toNat++(qs++ps.drop i.toNat),qs)) hlay ⟨v,_,rfl,hd,v2,_,rfl,hd2,v3,_,rfl,hd3,rfl⟩ hm
 refine (key w C hst4).mono fun e w' ⟨r,a1,a2,a3⟩=>⟨r,a1,a2,?_⟩
 have a3:St J w0 w' (Ch.own (aq E (dN n).rep) [r] (ps.take i.toNat++(qs++ps.drop i.toNat))::Ch.own (aq E (dN n).rep) [v3] qs::C):=a3
 have b1:=um (Ty.cpy hu) hsz (sU (uo _ hp) (sU hq (kM _ hp))) a3
 have b2:=um (Ty.cpy hu) hsz hq (b1.perm (List.Perm.swap _ _ _))
 show St J w0 w' (Ch.own (aq E u.rep) [r] zs.1::Ch.own (aq E u.rep) [v3] zs.2::C)
 rw[<-hz]
 exact b2.perm (List.Perm.swap _ _ _)
end R
namespace R
open Go.RowKit
open D
def rtN (V:Env) (rvs:List ResultVar) (T:TypeId) (s:Sg):Option (Int×Int):=(uk V.tt s rvs).bind fun vs=>match vs with
 | [.one (.ptr h off)] =>bM (Nat.beq off 0) ((o7 h s.chs).bind fun b=>bM (Nat.beq b.T T) (match b.cells with
  | [.rd g _ _,.val (.int .i64 x),.val (.int .i64 y)] =>bM (Hdr.beq g ⟨0,[]⟩) (some (x,y))
  | _=>none))
 | _=>none
theorem O9 {V:Env} {P:Program} (hT:TTok P V.tt) (hF:FTok P V.ft) (hmx:P.follows .mixedOrders=true) {k:FuncId} {fn:Func} {c:Code} {E T:Nat} {t:Ty} {m:List t.den->Option (Int×Int)} (hf:P.funcs[k]? =some fn) (hb:fn.body=some c) (hn:fn.ntmps=V.n) (hen:Enters P k) (hm:1<=V.n) (ann:Ann)
  (hmod: ∀xs:List t.den,m xs=gf V (rtN V fn.results.toList T) c ann (fun r=>some r) (fun _ _=>none) (rtN V fn.results.toList T) ⟨[(0,0,.one (.rd ⟨0,[]⟩ (.sl E t) xs))],[],1⟩):NewOk P k T ⟨[.rd (.sl E t)],[.int .i64,.int .i64],m,some (T,9)⟩:=by
 refine ⟨hen,fun w0 J γ vs d r ns hlay ha pD hns=>?_⟩
 obtain ⟨v,vs',rfl,hd,hnil⟩:=ha
 obtain rfl:vs'= []:=hnil
 obtain ⟨xs,u⟩:=d
 obtain ⟨cs,hcs,hrd⟩:=hd
 obtain rfl:cs= [v]:=hcs
 obtain ⟨x,y⟩:=r
 have hr:=hmod xs
 rw[show m xs=some (x,y) from pD] at hr
 obtain rfl: [x,y] =ns:=ae hns
 let θ:Th:=fun _=>v
 refine od (n:=V.n) [(0,v)] hf hb hn hm (fun p hp=>by obtain rfl:=ak hp;rfl) (fun F w a hA hst=>?_) (fun u=>Ch.back_deeps ⟨Ko,trivial⟩)
 have hfine:Fine P w0 J θ ⟨[(0,0,.one (.rd ⟨0,[]⟩ (.sl E t) xs))],[],1⟩:=⟨fun e he=>by obtain rfl:=ak he;exact ⟨Nat.one_pos,hrd⟩,fun e he=>by obtain rfl:=ak he;exact Nat.one_pos,List.pairwise_singleton _ _,fun e he=>(by cases he),hlay⟩
 have hS:Sim P J w0 F V.n J θ ⟨[(0,0,.one (.rd ⟨0,[]⟩ (.sl E t) xs))],[],1⟩ a w:=⟨Hp.le.rfl,hA,hst,hfine⟩
 have fin: ∀r J' θ' s' a' w',rtN V fn.results.toList T s'=some r->Sim P J w0 F V.n J' θ' s' a' w'->J.le J'->Fr ⟨[(0,0,.one (.rd ⟨0,[]⟩ (.sl E t) xs))],[],1⟩ θ s' θ'->
   bodyPost P fn (fun e w'=> ∃u,e= .returned u/\(∃b,u= .pointer (some ⟨b,0,none⟩))/\ ∃J2,J.le J2/\St J2 w0 w' ([Ch.blk (bk u) ([v] ++ [r.1,r.2].map (Value.int .i64)) T] ++ [F])) .ret a' w':=by
  intro r J' θ' s' a' w' hrt S' hJ hFr
  obtain ⟨us,hus,hrt⟩:=bind_some hrt
  obtain ⟨r1,r2⟩:=qf hT S' hus
  split at hrt
  ·rename_i h off
   obtain ⟨ho,hrt⟩:=aj hrt
   obtain rfl:off=0:=al ho
   obtain ⟨b,hb',hrt⟩:=bind_some hrt
   obtain ⟨hT',hrt⟩:=aj hrt
   have hT':b.T=T:=al hT'
   split at hrt
   ·rename_i g ty d p q hcells
    obtain ⟨hg,hrt⟩:=aj hrt
    obtain rfl:=Hdr.beq_eq hg
    obtain rfl:=ae hrt
    refine O4 S'.agr r1 ⟨_,rfl,⟨bk (hv θ' h),rfl⟩,J',hJ,?_⟩
    have h1:=S'.st.perm (((hY hb').map (toCh P θ')).append_right [F])
    have e0:hv θ' ⟨0,[]⟩=v:=by
     show vg (θ' 0) [] =v
     rw[hFr.same 0 Nat.one_pos];rfl
    have h2:St J' w0 w' (Ch.blk (bk (hv θ' h)) (b.cells.map (·.v θ')) b.T::(b.rest.map (toCh P θ')++ [F])):=h1
    rw[hcells,hT'] at h2
    have h3:St J' w0 w' ([Ch.blk (bk (hv θ' h)) [hv θ' ⟨0,[]⟩,.int .i64 p,.int .i64 q] T] ++ [F] ++b.rest.map (toCh P θ')):=h2.perm ((List.perm_append_comm).cons _)
    rw[e0] at h3
    exact h3.left
   ·cases hrt
  ·cases hrt
 exact (mj (I:=J) (w0:=w0) (F:=F) hT hF hmx c).1 ann hr.symm hS (fun J' θ' s' a' w' hk S' hJ hFr=>fin _ J' θ' s' a' w' hk S' hJ hFr) (fun i J' θ' s' a' w' hk=>by cases hk) (fun r' J' θ' s' a' w' hrt hrr hS' hJ hFr=>by
  obtain rfl:=ae hrr
  exact fin _ J' θ' s' a' w' hrt hS' hJ hFr)
theorem Nv {P:Program} {k:FuncId} {f:FS} {T:Nat} (hc:NewOk P k T f) (hcl:f.cl=some (T,9)):FOk P k f:=by
 have ho:f.ov=true:=by unfold FS.ov;rw[hcl];rfl
 refine ⟨fun q hq=>?_,fun e=>(by rw[ho] at e;cases e),fun e=>(by rw[ho] at e;cases e)⟩
 rw[hcl] at hq
 obtain rfl:=ae hq
 exact ⟨⟨fun e=>(by cases e),fun _ _ _ e=>(by cases e),fun e=>(by cases e)⟩,fun e=>(by cases e),fun _=>hc⟩
end R
namespace R
open Go.RowKit
open D
def FldAll (P:Program) (T:TypeId):Nat->List (Nat×Nat)->Prop
 | _,[] =>True
 | i,q::l=>TF P T i q.1 q.2/\FldAll P T (i+1) l
theorem FldAll.get {P:Program} {T:TypeId} : ∀ {l:List (Nat×Nat)} {i:Nat},FldAll P T i l-> ∀f q,l[f]? =some q->TF P T (i+f) q.1 q.2
 | [],_,_,f,q,h=>by simp at h
 | x::l,i,⟨h1,h2⟩,f,q,h=>by
  cases f with
  | zero=>simp at h;subst h;exact h1
  | succ f =>
   have:=FldAll.get h2 f q (by simpa using h)
   rwa [show i+1+f=i+(f+1) from by omega] at this
section
variable {P:Program} {T:TypeId}
theorem pd {n b:Nat} {ty:Ty} {z:Value} {boo:Bool} {ik:Option (Option IntKind)} (h1:TI P T false 1) (h2:ty.size=1) (h3:TZ P T z 1 b) (h4:z.cells=(zeroCells ty).toArray) (h5:1<=b) (h6:boo=true->P.underlying T=some .bool) (h7: ∀k,ik=some k->P.underlying T=some (ikD k)):TDok P T ⟨false,1,none,ty,[],some b,none,boo,none,none,ik,false,none⟩:=
 ⟨h1,rfl,h2,fun E h=>by simp at h,fun f q h=>by simp at h,fun b' h=>by obtain rfl:=ae h;exact ⟨z,h3,h4,h5⟩,fun pl h=>by simp at h,h6,(fun ks h=>by cases h),(fun m h=>by cases h),h7,(fun h=>by cases h),fun e h=>by cases h⟩
theorem vB {E:TypeId} {t:Ty} (h1:TI P T false 1) (h2:P.underlying T=some (.slice E)) (h3:TZ P T (.slice none 0 0) 1 24):TDok P T ⟨false,1,some E,.sl E t,[],some 24,none,false,none,none,none,false,none⟩:=
 ⟨h1,rfl,rfl,fun E' h=>by obtain rfl:=ae h;exact h2,fun f q h=>by simp at h,fun b' h=>by obtain rfl:=ae h;exact ⟨_,h3,rfl,by decide⟩,fun pl h=>by simp at h,(fun h=>by cases h),(fun ks h=>by cases h),(fun m h=>by cases h),(fun k h=>by cases h),(fun h=>by cases h),fun e h=>by cases h⟩
theorem uq {n b:Nat} {ty:Ty} {fs pl:List (Nat×Nat)} {z:Value} {eq:Option (List (Option IntKind))} (h1:TI P T true n) (h2:ty.size=n) (h3:FldAll P T 0 fs) (h4:TZ P T z n b) (h5:z.cells=(zeroCells ty).toArray) (h6:1<=b) (h7:TB P T pl) (h8: ∀ks,eq=some ks-> ∀w,Curq ks fun xs ys r=>EqT P T (.agg xs.toArray) (.agg ys.toArray) r w):TDok P T ⟨true,n,none,ty,fs,some b,some pl,false,eq,none,none,false,none⟩:=
 ⟨h1,rfl,h2,fun E h=>by simp at h,fun f q h=>by have:=h3.get f q h;rwa [Nat.zero_add] at this,fun b' h=>by obtain rfl:=ae h;exact ⟨z,h4,h5,h6⟩,fun pl' h=>by obtain rfl:=ae h;exact h7,(fun h=>by cases h),h8,(fun m h=>by cases h),(fun k h=>by cases h),(fun h=>by cases h),fun e h=>by cases h⟩
theorem xO {ty:Ty} {b:Nat} (h1:TI P T false 1) (h2:ty.size=1) (h3:TZ P T .nilFunc 1 b):TDok P T ⟨false,1,none,ty,[],none,none,false,none,none,none,true,none⟩:=
 ⟨h1,rfl,h2,fun E h=>by simp at h,fun f q h=>by simp at h,(fun b' h=>by cases h),(fun pl h=>by cases h),(fun h=>by cases h),(fun ks h=>by cases h),(fun m' h=>by cases h),(fun k h=>by cases h),(fun _=>⟨b,h3⟩),fun e h=>by cases h⟩
theorem QF {m:MD} {ty:Ty} (h1:TI P T false 1) (h2:ty.size=1) (h3:MDok P T m):TDok P T ⟨false,1,none,ty,[],none,none,false,none,some m,none,false,none⟩:=
 ⟨h1,rfl,h2,fun E h=>by simp at h,fun f q h=>by simp at h,(fun b' h=>by cases h),(fun pl h=>by cases h),(fun h=>by cases h),(fun ks h=>by cases h),(fun m' h=>by obtain rfl:=ae h;exact h3),(fun k h=>by cases h),(fun h=>by cases h),fun e h=>by cases h⟩
theorem QG {e E:TypeId} {u:Ty} (h1:TI P T false 1) (h2:P.underlying T=some (.pointer e)) (h3:TZ P T (.pointer none) 1 8):TDok P T ⟨false,1,none,.fro (.tree e E u),[],some 8,none,false,none,none,none,false,some e⟩:=
 ⟨h1,rfl,rfl,fun E' h=>by simp at h,fun f q h=>by simp at h,fun b' h=>by obtain rfl:=ae h;exact ⟨_,h3,rfl,by decide⟩,fun pl h=>by simp at h,(fun h=>by cases h),(fun ks h=>by cases h),(fun m h=>by cases h),(fun k h=>by cases h),(fun h=>by cases h),fun e' h=>by obtain rfl:=ae h;exact h2⟩
end
end R
namespace D
open Go.RowKit
abbrev Yq1:Type:=(Int×Int×Int×Int)
abbrev Yq2:Type:=(Int×(List Bool)×(List (List Int)))
abbrev Yq3:Type:=(Int×((List Yq1))×Int)
abbrev Yq6:Type:=(Int×(List Bool)×List (List Int))
abbrev Yq4:Type:=((List Yq6)×List (Int×(List Yq1)×Int))
abbrev Yq5:Type:=((List Int)×Int×Int×(List Int)×Bool)
abbrev Yq7:Type:=(Int×(List Yq2)×(List Yq3))
abbrev Yq8:Type:=((List Yq2)×(List Yq3))
abbrev Yq9:Type:=(Int×Int×Bool×Int×Int)
def Bh (p0code:List Int):Option Bool:=
 some (decide ((p0code.length:Int)>1048576))
def kP (p0code:List Int) (s1:Int×Int):Option (Out (Int×Int) (Int×Int)):=
 if decide (s1.2<(p0code.length:Int)) then (if decide (s1.2<4000) then ((bj p0code s1.2).bind fun x2=>some (.nxt (pB (IntKind.i64.wrap ((IntKind.i64.wrap ((IntKind.i64.wrap (s1.1*131))+(IntKind.i64.wrap x2)))+7)) 1073741823,IntKind.i64.wrap (s1.2+1)))) else (some (.brk (s1.1,s1.2)))) else (some (.brk (s1.1,s1.2)))
def qg (p0code:List Int):Option (Int×Int):=
 a6 (aF (kP p0code) br (IntKind.i64.wrap (10101+(p0code.length:Int)),0)) (fun r3=>some r3) (fun s4=>some (0,s4.1))
def gT (p0c:(List Int)×Int×Int):Option (Int×Int×Int):=
 Option.bind ((if decide (p0c.2.1<(p0c.1.length:Int)) then ((bj p0c.1 p0c.2.1).bind fun x1=>some (pB (IntKind.i64.wrap ((pB (PR (m7 (IntKind.i64.wrap ((IntKind.i64.wrap (p0c.2.2*6364136223846793005))+1442695040888963407)) 33) (m7 (IntKind.i64.wrap ((IntKind.i64.wrap (p0c.2.2*6364136223846793005))+1442695040888963407)) 45)) 255)+(IntKind.i64.wrap x1))) 255,IntKind.i64.wrap (p0c.2.1+1),IntKind.i64.wrap ((IntKind.i64.wrap (p0c.2.2*6364136223846793005))+1442695040888963407))) else (some (pB (PR (m7 (IntKind.i64.wrap ((IntKind.i64.wrap (p0c.2.2*6364136223846793005))+1442695040888963407)) 33) (m7 (IntKind.i64.wrap ((IntKind.i64.wrap (p0c.2.2*6364136223846793005))+1442695040888963407)) 45)) 255,p0c.2.1,IntKind.i64.wrap ((IntKind.i64.wrap (p0c.2.2*6364136223846793005))+1442695040888963407))):Option (Int×Int×Int))) (fun s2=>some (s2.1,s2.2.1,s2.2.2))
def bm (p0c:(List Int)×Int×Int) (p1n:Int):Option (Int×Int×Int):=
 if decide (p1n<=0) then (some (0,p0c.2.1,p0c.2.2)) else (if decide (p1n<=256) then ((gT (p0c.1,p0c.2.1,p0c.2.2)).bind fun r0=>(chk (p1n≠0)).bind fun _=>some (Int.tmod r0.1 p1n,r0.2.1,r0.2.2)) else ((gT (p0c.1,p0c.2.1,p0c.2.2)).bind fun r2=>(gT (p0c.1,r2.2.1,r2.2.2)).bind fun r3=>(gT (p0c.1,r3.2.1,r3.2.2)).bind fun r4=>(gT (p0c.1,r4.2.1,r4.2.2)).bind fun r5=>(chk (p1n≠0)).bind fun _=>some (Int.tmod (IntKind.i64.wrap ((IntKind.i64.wrap ((IntKind.i64.wrap ((IntKind.i64.wrap (r2.1*16777216))+(IntKind.i64.wrap (r3.1*65536))))+(IntKind.i64.wrap (r4.1*256))))+r5.1)) p1n,r5.2.1,r5.2.2)))
def eN (p0c:(List Int)×Int×Int) (p1list:List Int):Option (Int×Int×Int):=
 (bm (p0c.1,p0c.2.1,p0c.2.2) (p1list.length:Int)).bind fun r0=>(bj p1list r0.1).bind fun x1=>some (x1,r0.2.1,r0.2.2)
def jG (p0x:Int) (p1low:Int) (p2high:Int):Option Bool:=
 if decide (p0x≥p1low) then (some (decide (p0x<=p2high))) else (some false)
def jc (p0n:Int):Option Bool:=
 (jG p0n 0 8).bind fun r1=>some r1
def j9 (p0:Int×Int×Int×Int):Option Int:=
 Option.bind ((if p0.1==1 then (some (p0.1==1)) else (some (p0.1==2)):Option Bool)) (fun s1=>if s1 then (if p0.2.1 !=0 then (some (-1)) else (if p0.2.2.1 !=0 then (some (-1)) else (if p0.2.2.2 !=0 then (some (-1)) else (some 0)))) else (if p0.1==3 then ((jc p0.2.1).bind fun r3=>if r3 then (if p0.2.2.1 !=0 then (some (-1)) else (if p0.2.2.2 !=0 then (some (-1)) else (some 0))) else (some (-1))) else (Option.bind ((if p0.1==4 then (some (p0.1==4)) else (some (p0.1==5)):Option Bool)) (fun s2=>if s2 then (if p0.2.1 !=0 then (some (-1)) else (if p0.2.2.1 !=0 then (some (-1)) else (if p0.2.2.2 !=0 then (some (-1)) else (some 2)))) else (if p0.1==6 then (if p0.2.1 !=0 then (some (-1)) else (if p0.2.2.1 !=0 then (some (-1)) else (if p0.2.2.2 !=0 then (some (-1)) else (some 1)))) else (if p0.1==7 then (if p0.2.1 !=0 then (some (-1)) else ((jG p0.2.2.2 1 3).bind fun r1=>if r1 then ((jG p0.2.2.1 0 p0.2.2.2).bind fun r2=>if r2 then (some 1) else (some (-1))) else (some (-1)))) else (some (-1))))))))
def mn (p0e:(List Yq1)) (s3:Int×Int):Option (Out Bool (Int×Int)):=
 if decide (s3.2<(p0e.length:Int)) then ((bj p0e s3.2).bind fun x3=>(j9 (x3.1,x3.2.1,x3.2.2.1,x3.2.2.2)).bind fun r3=>if decide (r3<0) then (some (.ret false)) else (if decide (r3>s3.1) then (some (.ret false)) else (some (.nxt (IntKind.i64.wrap ((IntKind.i64.wrap (s3.1 - r3))+1),IntKind.i64.wrap (s3.2+1)))))) else (some (.brk (s3.1,s3.2)))
def oe (p0e:(List Yq1)):Option Bool:=
 a6 (aF (mn p0e) br (0,0)) (fun r=>some r) (fun s4=>some (s4.1==1))
def fF (p0e:(List Yq1)):Option Bool:=
 if decide ((p0e.length:Int)<=24) then ((oe p0e).bind fun r1=>some r1) else (some false)
def iS (p0l:List Yq1) (s3:Int×Int):Option (Out Int (Int×Int)):=
 if decide (s3.1>0) then ((bj p0l (IntKind.i64.wrap (s3.2 - 1))).bind fun x3=>(j9 (x3.1,x3.2.1,x3.2.2.1,x3.2.2.2)).bind fun r3=>some (.nxt (IntKind.i64.wrap ((IntKind.i64.wrap (s3.1 - 1))+r3),IntKind.i64.wrap (s3.2 - 1)))) else (some (.brk (s3.1,s3.2)))
def fG (p0l:List Yq1):Option Int:=
 a6 (aF (iS p0l) br (1,(p0l.length:Int))) (fun r=>some r) (fun s4=>some s4.2)
def dn:Nat->(List Yq1)->Option Int
 | 0,_=>none
 | n+1,p0l =>
  (bj p0l (IntKind.i64.wrap ((p0l.length:Int) - 1))).bind fun x0=>Option.bind ((if x0.1==4 then (some (x0.1==4)) else (some (x0.1==5)):Option Bool)) (fun s1=>if s1 then ((chk (And (0<=(IntKind.i64.wrap ((p0l.length:Int) - 1))) ((IntKind.i64.wrap ((p0l.length:Int) - 1))<=(p0l.length:Int)))).bind fun _=>(fG (p0l.take ((IntKind.i64.wrap ((p0l.length:Int) - 1)).toNat))).bind fun r3=>(chk (And (0<=r3) (r3<=(p0l.length:Int)))).bind fun _=>((dn n) (p0l.take r3.toNat)).bind fun r9=>(chk (And (0<=r3) (And (r3<=(IntKind.i64.wrap ((p0l.length:Int) - 1))) ((IntKind.i64.wrap ((p0l.length:Int) - 1))<=(p0l.length:Int))))).bind fun _=>((dn n) ((p0l.take ((IntKind.i64.wrap ((p0l.length:Int) - 1)).toNat)).drop r3.toNat)).bind fun r11=>some (Min.min 100000 (IntKind.i64.wrap ((IntKind.i64.wrap (r9+r11))+1)))) else (if x0.1==6 then ((chk (And (0<=(IntKind.i64.wrap ((p0l.length:Int) - 1))) ((IntKind.i64.wrap ((p0l.length:Int) - 1))<=(p0l.length:Int)))).bind fun _=>((dn n) (p0l.take ((IntKind.i64.wrap ((p0l.length:Int) - 1)).toNat))).bind fun r13=>some (Min.min 100000 (IntKind.i64.wrap (r13+1)))) else (if x0.1==7 then ((chk (And (0<=(IntKind.i64.wrap ((p0l.length:Int) - 1))) ((IntKind.i64.wrap ((p0l.length:Int) - 1))<=(p0l.length:Int)))).bind fun _=>((dn n) (p0l.take ((IntKind.i64.wrap ((p0l.length:Int) - 1)).toNat))).bind fun r17=>some (Min.min 100000 (IntKind.i64.wrap ((IntKind.i64.wrap ((IntKind.i64.wrap (r17+3))*x0.2.2.2))+1)))) else (some 1))))
def dJ (p0l:List Yq1):Option (List Yq1):=
 (cm 32 ([] :List Yq1) p0l).bind fun z1=>some z1
def dh (p0a:(List Yq1)) (p1b:(List Yq1)) (p2t:Int×Int×Int×Int):Option (List Yq1):=
 (dJ p0a).bind fun r1=>(cm 32 r1 p1b).bind fun z1=>(cm 32 z1 ([(p2t.1,p2t.2.1,p2t.2.2.1,p2t.2.2.2)])).bind fun z2=>some z2
def jP (p0kind:Int):Option (List Yq1):=
 some ([(p0kind,0,0,0)])
def gU:Nat->(List Yq1)->Int->Int->Option (List Yq1)
 | 0,_,_,_=>none
 | n+1,p0e,p1low,p2high =>
  if p2high==0 then ((jP 2).bind fun r0=>some r0) else (((gU n) p0e (Max.max 0 (IntKind.i64.wrap (p1low - 1))) (IntKind.i64.wrap (p2high - 1))).bind fun r3=>(dh p0e r3 (4,0,0,0)).bind fun r4=>if decide (p1low>0) then (some r4) else ((jP 2).bind fun r7=>(dh r4 r7 (5,0,0,0)).bind fun r8=>some r8))
def cr:Nat->(List Yq1)->Option (List Yq1)
 | 0,_=>none
 | n+1,p0l =>
  (bj p0l (IntKind.i64.wrap ((p0l.length:Int) - 1))).bind fun x0=>Option.bind ((if x0.1==4 then (some (x0.1==4)) else (some (x0.1==5)):Option Bool)) (fun s1=>if s1 then ((chk (And (0<=(IntKind.i64.wrap ((p0l.length:Int) - 1))) ((IntKind.i64.wrap ((p0l.length:Int) - 1))<=(p0l.length:Int)))).bind fun _=>(fG (p0l.take ((IntKind.i64.wrap ((p0l.length:Int) - 1)).toNat))).bind fun r3=>(chk (And (0<=r3) (r3<=(p0l.length:Int)))).bind fun _=>((cr n) (p0l.take r3.toNat)).bind fun r10=>(chk (And (0<=r3) (And (r3<=(IntKind.i64.wrap ((p0l.length:Int) - 1))) ((IntKind.i64.wrap ((p0l.length:Int) - 1))<=(p0l.length:Int))))).bind fun _=>((cr n) ((p0l.take ((IntKind.i64.wrap ((p0l.length:Int) - 1)).toNat)).drop r3.toNat)).bind fun r12=>(dh r10 r12 (x0.1,x0.2.1,x0.2.2.1,x0.2.2.2)).bind fun r13=>some r13) else (if x0.1==6 then ((chk (And (0<=(IntKind.i64.wrap ((p0l.length:Int) - 1))) ((IntKind.i64.wrap ((p0l.length:Int) - 1))<=(p0l.length:Int)))).bind fun _=>((cr n) (p0l.take ((IntKind.i64.wrap ((p0l.length:Int) - 1)).toNat))).bind fun r18=>(dh r18 ([] :List Yq1) (x0.1,x0.2.1,x0.2.2.1,x0.2.2.2)).bind fun r19=>some r19) else (if x0.1==7 then ((chk (And (0<=(IntKind.i64.wrap ((p0l.length:Int) - 1))) ((IntKind.i64.wrap ((p0l.length:Int) - 1))<=(p0l.length:Int)))).bind fun _=>((cr n) (p0l.take ((IntKind.i64.wrap ((p0l.length:Int) - 1)).toNat))).bind fun r24=>(gU dE r24 x0.2.2.1 x0.2.2.2).bind fun r25=>some r25) else (some ([(x0.1,x0.2.1,x0.2.2.1,x0.2.2.2)])))))
def fh (p0e:(List Yq1)):Option (((List Yq1))×Bool):=
 (fF p0e).bind fun r1=>if r1 then ((dn dE p0e).bind fun r2=>if decide (r2>5000) then (some ([],false)) else ((cr dE p0e).bind fun r3=>if decide ((r3.length:Int)>400) then (some ([],false)) else (some (r3,true)))) else (some ([],false))
def gu (p1from:Int) (p2to:Int) (s2:Int×List Int):Option (Out Yq5 (Int×List Int)):=
 if decide (s2.1<(s2.2.length:Int)) then (Option.bind (((chk (0<=s2.1)).bind fun _=>if (pB (m7 p1from s2.1) 1)==1 then ((bj s2.2 s2.1).bind fun x6=>(bj s2.2 s2.1).bind fun x7=>some (s2.2.set s2.1.toNat (orI x6 p2to))) else (some s2.2):Option (List Int))) (fun s8=>some (.nxt (IntKind.i64.wrap (s2.1+1),s8)))) else (some (.brk (s2.1,s2.2)))
def ka (p0p:(List Int)×Int×Int×(List Int)×Bool) (p1from:Int) (p2to:Int):Option Yq5:=
 a6 (aF (gu p1from p2to) br (0,p0p.2.2.2.1)) (fun r9=>some r9) (fun s10=>some (p0p.1,p0p.2.1,p0p.2.2.1,s10.2,p0p.2.2.2.2))
def bT:Nat->Yq5->(List Yq1)->Option ((Bool×Int×Int)×(List Int)×Int×Int×(List Int)×Bool)
 | 0,_,_=>none
 | n+1,p0,p1 =>
  (bj p1 (IntKind.i64.wrap ((p1.length:Int) - 1))).bind fun x0=>if x0.1==2 then (some ((true,0,0),p0.1,p0.2.1,p0.2.2.1,p0.2.2.2.1,p0.2.2.2.2)) else (if x0.1==3 then ((cm 8 p0.1 ([x0.2.1])).bind fun z2=>(cm 8 p0.2.2.2.1 ([0])).bind fun z3=>some ((false,An 1 (p0.1.length:Int),An 1 (p0.1.length:Int)),z2,p0.2.1,p0.2.2.1,z3,p0.2.2.2.2)) else (if x0.1==4 then ((chk (And (0<=(IntKind.i64.wrap ((p1.length:Int) - 1))) ((IntKind.i64.wrap ((p1.length:Int) - 1))<=(p1.length:Int)))).bind fun _=>(fG (p1.take ((IntKind.i64.wrap ((p1.length:Int) - 1)).toNat))).bind fun r5=>(chk (And (0<=r5) (r5<=(p1.length:Int)))).bind fun _=>((bT n) (p0.1,p0.2.1,p0.2.2.1,p0.2.2.2.1,p0.2.2.2.2) (p1.take r5.toNat)).bind fun r7=>(chk (And (0<=r5) (And (r5<=(IntKind.i64.wrap ((p1.length:Int) - 1))) ((IntKind.i64.wrap ((p1.length:Int) - 1))<=(p1.length:Int))))).bind fun _=>((bT n) (r7.2.1,r7.2.2.1,r7.2.2.2.1,r7.2.2.2.2.1,r7.2.2.2.2.2) ((p1.take ((IntKind.i64.wrap ((p1.length:Int) - 1)).toNat)).drop r5.toNat)).bind fun r9=>(ka (r9.2.1,r9.2.2.1,r9.2.2.2.1,r9.2.2.2.2.1,r9.2.2.2.2.2) r7.1.2.2 r9.1.2.1).bind fun r10=>if r7.1.1 then (Option.bind ((if r7.1.1 then (some (r9.1.1,orI r7.1.2.1 r9.1.2.1,r9.1.2.2)) else (some (r9.1.1,r7.1.2.1,r9.1.2.2)):Option (Bool×Int×Int))) (fun s11=>Option.bind ((if r9.1.1 then (some (s11.1,s11.2.1,orI r7.1.2.2 r9.1.2.2)) else (some (s11.1,s11.2.1,s11.2.2)):Option (Bool×Int×Int))) (fun s12=>some ((s12.1,s12.2.1,s12.2.2),r10.1,r10.2.1,r10.2.2.1,r10.2.2.2.1,r10.2.2.2.2)))) else (Option.bind ((if r7.1.1 then (some (false,orI r7.1.2.1 r9.1.2.1,r9.1.2.2)) else (some (false,r7.1.2.1,r9.1.2.2)):Option (Bool×Int×Int))) (fun s13=>Option.bind ((if r9.1.1 then (some (s13.1,s13.2.1,orI r7.1.2.2 r9.1.2.2)) else (some (s13.1,s13.2.1,s13.2.2)):Option (Bool×Int×Int))) (fun s14=>some ((s14.1,s14.2.1,s14.2.2),r10.1,r10.2.1,r10.2.2.1,r10.2.2.2.1,r10.2.2.2.2))))) else (if x0.1==5 then ((chk (And (0<=(IntKind.i64.wrap ((p1.length:Int) - 1))) ((IntKind.i64.wrap ((p1.length:Int) - 1))<=(p1.length:Int)))).bind fun _=>(fG (p1.take ((IntKind.i64.wrap ((p1.length:Int) - 1)).toNat))).bind fun r16=>(chk (And (0<=r16) (r16<=(p1.length:Int)))).bind fun _=>((bT n) (p0.1,p0.2.1,p0.2.2.1,p0.2.2.2.1,p0.2.2.2.2) (p1.take r16.toNat)).bind fun r18=>(chk (And (0<=r16) (And (r16<=(IntKind.i64.wrap ((p1.length:Int) - 1))) ((IntKind.i64.wrap ((p1.length:Int) - 1))<=(p1.length:Int))))).bind fun _=>((bT n) (r18.2.1,r18.2.2.1,r18.2.2.2.1,r18.2.2.2.2.1,r18.2.2.2.2.2) ((p1.take ((IntKind.i64.wrap ((p1.length:Int) - 1)).toNat)).drop r16.toNat)).bind fun r20=>if r18.1.1 then (some ((true,orI r18.1.2.1 r20.1.2.1,orI r18.1.2.2 r20.1.2.2),r20.2.1,r20.2.2.1,r20.2.2.2.1,r20.2.2.2.2.1,r20.2.2.2.2.2)) else (some ((r20.1.1,orI r18.1.2.1 r20.1.2.1,orI r18.1.2.2 r20.1.2.2),r20.2.1,r20.2.2.1,r20.2.2.2.1,r20.2.2.2.2.1,r20.2.2.2.2.2))) else (if x0.1==6 then ((chk (And (0<=(IntKind.i64.wrap ((p1.length:Int) - 1))) ((IntKind.i64.wrap ((p1.length:Int) - 1))<=(p1.length:Int)))).bind fun _=>((bT n) (p0.1,p0.2.1,p0.2.2.1,p0.2.2.2.1,p0.2.2.2.2) (p1.take ((IntKind.i64.wrap ((p1.length:Int) - 1)).toNat))).bind fun r22=>(ka (r22.2.1,r22.2.2.1,r22.2.2.2.1,r22.2.2.2.2.1,r22.2.2.2.2.2) r22.1.2.2 r22.1.2.1).bind fun r23=>some ((true,r22.1.2.1,r22.1.2.2),r23.1,r23.2.1,r23.2.2.1,r23.2.2.2.1,r23.2.2.2.2)) else (some ((false,0,0),p0.1,p0.2.1,p0.2.2.1,p0.2.2.2.1,p0.2.2.2.2))))))
def cO (r0:(List Yq1)×Bool) (s2:Int×Int):Option (Out (Yq5×Bool) (Int×Int)):=
 if decide (s2.2<(r0.1.length:Int)) then (Option.bind (((bj r0.1 s2.2).bind fun x3=>if x3.1==3 then (some (IntKind.i64.wrap (s2.1+1))) else (some s2.1):Option Int)) (fun s4=>some (.nxt (s4,IntKind.i64.wrap (s2.2+1))))) else (some (.brk (s2.1,s2.2)))
def ct (p0e:List Yq1):Option (Yq5×Bool):=
 (fh p0e).bind fun r0=>if r0.2 then (a6 (aF (cO r0) br (0,0)) (fun r5=>some r5) (fun s6=>if decide (s6.1>20) then (some ((([] :List Int),0,0,([] :List Int),false),false)) else ((bT dE (([] :List Int),0,0,([] :List Int),false) r0.1).bind fun r7=>some ((r7.2.1,r7.1.2.1,r7.1.2.2,r7.2.2.2.2.1,r7.1.1),true)))) else (some ((([] :List Int),0,0,([] :List Int),false),false))
def fH (p0p:(List Int)×Int×Int×(List Int)×Bool) (p1set:Int) (s6:Int×Int):Option (Out Int (Int×Int)):=
 if decide (s6.2<(p0p.1.length:Int)) then (Option.bind (((chk (0<=IntKind.i64.wrap (s6.2+1))).bind fun _=>if (pB (m7 p1set (IntKind.i64.wrap (s6.2+1))) 1)==1 then ((bj p0p.2.2.2.1 s6.2).bind fun x6=>some (orI s6.1 x6)) else (some s6.1):Option Int)) (fun s8=>some (.nxt (s8,IntKind.i64.wrap (s6.2+1))))) else (some (.brk (s6.1,s6.2)))
def fI (p0p:(List Int)×Int×Int×(List Int)×Bool) (p2letter:Int) (s7:Int×Int) (s13:Int×Int):Option (Out Int (Int×Int)):=
 if decide (s13.2<(p0p.1.length:Int)) then (Option.bind (((chk (0<=s13.2)).bind fun _=>if (pB (m7 s7.1 s13.2) 1)==1 then ((bj p0p.1 s13.2).bind fun x12=>if x12==p2letter then ((chk (0<=IntKind.i64.wrap (s13.2+1))).bind fun _=>some (orI s13.1 (An 1 (IntKind.i64.wrap (s13.2+1))))) else (some s13.1)) else (some s13.1):Option Int)) (fun s15=>some (.nxt (s15,IntKind.i64.wrap (s13.2+1))))) else (some (.brk (s13.1,s13.2)))
def kQ (p0p:(List Int)×Int×Int×(List Int)×Bool) (p1set:Int) (p2letter:Int):Option Int:=
 Option.bind ((if (pB p1set 1)==1 then (some p0p.2.1) else (some 0):Option Int)) (fun s1=>a6 (aF (fH p0p p1set) br (s1,0)) (fun r=>some r) (fun s7=>a6 (aF (fI p0p p2letter s7) br (0,0)) (fun r=>some r) (fun s14=>some s14.1)))
def lu (p0l:List Int) (p1x:Int) (s3:Int):Option (Out Int Int):=
 if decide (s3<(p0l.length:Int)) then ((bj p0l s3).bind fun x3=>if x3==p1x then (some (.ret s3)) else (some (.nxt (IntKind.i64.wrap (s3+1))))) else (some (.brk s3))
def kc (p0l:List Int) (p1x:Int):Option Int:=
 a6 (aF (lu p0l p1x) br 0) (fun r=>some r) (fun s4=>some (-1))
def iT (p0p:(List Int)×Int×Int×(List Int)×Bool) (p1set:Int):Option Bool:=
 if (pB p1set 1)==1 then (if p0p.2.2.2.2 then (some true) else (some ((pB (m7 p1set 1) p0p.2.2.1) !=0))) else (some ((pB (m7 p1set 1) p0p.2.2.1) !=0))
def eu (p0:(List Int)×Int×Int×(List Int)×Bool) (s17:(List Int)×Int×Int×(List Bool)×(List (List Int))) (s23:(List Int)×(List Int)×Int):Option (Out (Yq2×Bool) ((List Int)×(List Int)×Int)):=
 if decide (s23.2.2<9) then ((bj s23.1 s17.2.1).bind fun x11=>(kQ (p0.1,p0.2.1,p0.2.2.1,p0.2.2.2.1,p0.2.2.2.2) x11 s23.2.2).bind fun r27=>Option.bind ((if r27 !=0 then ((kc s23.1 r27).bind fun r29=>if decide (r29<0) then ((cm 8 s23.1 ([r27])).bind fun z30=>some (z30,(s23.1.length:Int))) else (some (s23.1,r29))) else (some (s23.1,-1)):Option ((List Int)×Int))) (fun s25=>(cm 8 s23.2.1 ([s25.2])).bind fun z31=>some (.nxt (s25.1,z31,IntKind.i64.wrap (s23.2.2+1))))) else (some (.brk (s23.1,s23.2.1,s23.2.2)))
def ew (p0:(List Int)×Int×Int×(List Int)×Bool) (p1:Int) (s17:(List Int)×Int×Int×(List Bool)×(List (List Int))):Option (Out (Yq2×Bool) ((List Int)×Int×Int×(List Bool)×(List (List Int)))):=
 if decide (s17.2.1<(s17.1.length:Int)) then (a6 (aF (eu p0 s17) br (s17.1,([] :List Int),0)) (fun r=>some (.ret r)) (fun s24=>if decide ((s24.1.length:Int)>p1) then (some (.ret ((0,[],[]),false))) else ((bj s24.1 s17.2.1).bind fun x12=>(iT (p0.1,p0.2.1,p0.2.2.1,p0.2.2.2.1,p0.2.2.2.2) x12).bind fun r30=>(cm 1 s17.2.2.2.1 ([r30])).bind fun z32=>(cm 24 s17.2.2.2.2 ([s24.2.1])).bind fun z33=>some (.nxt (s24.1,IntKind.i64.wrap (s17.2.1+1),s17.2.2.1,z32,z33))))) else (some (.brk (s17.1,s17.2.1,s17.2.2.1,s17.2.2.2.1,s17.2.2.2.2)))
def cq (p0:(List Int)×Int×Int×(List Int)×Bool) (p1:Int):Option (Yq2×Bool):=
 a6 (aF (ew p0 p1) br ([1],0,0,[],[])) (fun r=>some r) (fun s18=>some ((s18.2.2.1,s18.2.2.2.1,s18.2.2.2.2),true))
def rl (s3:(List Int)×Int):Option (Out Yq2 ((List Int)×Int)):=
 if decide (s3.2<9) then ((cm 8 s3.1 ([-1])).bind fun z3=>some (.nxt (z3,IntKind.i64.wrap (s3.2+1)))) else (some (.brk (s3.1,s3.2)))
def lx:Option Yq2:=
 a6 (aF (rl) br (([] :List Int),0)) (fun r=>some r) (fun s4=>some (0,[false],[s4.1]))
def fa (p0:Int×(List Bool)×(List (List Int))) (p1:List Int) (p2:List Bool) (s17:(List Int)×(List Int)×Int×Int×(List Bool)×(List (List Int))) (s23:(List Int)×(List Int)×(List Int)×Int):Option (Out Yq2 ((List Int)×(List Int)×(List Int)×Int)):=
 if decide (s23.2.2.2<9) then ((bj s23.2.1 s17.2.2.1).bind fun x79=>(bj p0.2.2 x79).bind fun x80=>(bj x80 s23.2.2.2).bind fun x81=>Option.bind ((if decide (x81≥0) then ((bj p2 x81).bind fun x85=>if x85 then ((bj p1 x81).bind fun x86=>(kc s23.1 x86).bind fun r28=>if decide (r28<0) then ((bj p1 x81).bind fun x87=>(cm 8 s23.1 ([x87])).bind fun z47=>(cm 8 s23.2.1 ([x81])).bind fun z48=>some (z47,z48,(s23.1.length:Int))) else (some (s23.1,s23.2.1,r28))) else (some (s23.1,s23.2.1,-1))) else (some (s23.1,s23.2.1,-1)):Option ((List Int)×(List Int)×Int))) (fun s25=>(cm 8 s23.2.2.1 ([s25.2.2])).bind fun z49=>some (.nxt (s25.1,s25.2.1,z49,IntKind.i64.wrap (s23.2.2.2+1))))) else (some (.brk (s23.1,s23.2.1,s23.2.2.1,s23.2.2.2)))
def gG (p0:Int×(List Bool)×(List (List Int))) (p1:List Int) (p2:List Bool) (s17:(List Int)×(List Int)×Int×Int×(List Bool)×(List (List Int))):Option (Out Yq2 ((List Int)×(List Int)×Int×Int×(List Bool)×(List (List Int)))):=
 if decide (s17.2.2.1<(s17.1.length:Int)) then (a6 (aF (fa p0 p1 p2 s17) br (s17.1,s17.2.1,([] :List Int),0)) (fun r=>some (.ret r)) (fun s24=>(bj s24.2.1 s17.2.2.1).bind fun x88=>(bj p0.2.1 x88).bind fun x89=>(cm 1 s17.2.2.2.2.1 ([x89])).bind fun z50=>(cm 24 s17.2.2.2.2.2 ([s24.2.2.1])).bind fun z51=>some (.nxt (s24.1,s24.2.1,IntKind.i64.wrap (s17.2.2.1+1),s17.2.2.2.1,z50,z51)))) else (some (.brk (s17.1,s17.2.1,s17.2.2.1,s17.2.2.2.1,s17.2.2.2.2.1,s17.2.2.2.2.2)))
def fU (p0:Int×(List Bool)×(List (List Int))) (p1:List Int) (p2:List Bool):Option Yq2:=
 (bj p2 p0.1).bind fun x1=>if x1 then ((bj p1 p0.1).bind fun x2=>a6 (aF (gG p0 p1 p2) br ([x2],[p0.1],0,0,[],[])) (fun r=>some r) (fun s18=>some (s18.2.2.2.1,s18.2.2.2.2.1,s18.2.2.2.2.2))) else ((lx).bind fun r1=>some (r1.1,r1.2.1,r1.2.2))
def kR (p0a:List Int) (p1b:List Int) (s3:Int):Option (Out Int Int):=
 if decide (s3<(p0a.length:Int)) then (if decide (s3<(p1b.length:Int)) then ((bj p0a s3).bind fun x9=>(bj p1b s3).bind fun x10=>if decide (x9<x10) then (some (.ret (-1))) else ((bj p0a s3).bind fun x11=>(bj p1b s3).bind fun x12=>if decide (x11>x12) then (some (.ret 1)) else (some (.nxt (IntKind.i64.wrap (s3+1)))))) else (some (.brk s3))) else (some (.brk s3))
def lJ (p0a:List Int) (p1b:List Int):Option Int:=
 a6 (aF (kR p0a p1b) br 0) (fun r=>some r) (fun s4=>if decide ((p0a.length:Int)<(p1b.length:Int)) then (some (-1)) else (if decide ((p0a.length:Int)>(p1b.length:Int)) then (some 1) else (some 0)))
def gx (p0a:Int×(List Bool)×(List (List Int))) (s71:(List Bool)×Int) (s77:(List Bool)×Int):Option (Out (List Bool) ((List Bool)×Int)):=
 if decide (s77.2<9) then (Option.bind (((bj p0a.2.2 s71.2).bind fun x319=>(bj x319 s77.2).bind fun x320=>if decide (x320≥0) then ((bj p0a.2.2 s71.2).bind fun x321=>(bj x321 s77.2).bind fun x322=>(bj s77.1 x322).bind fun x323=>if x323 then ((bj s77.1 s71.2).bind fun x324=>some (s77.1.set s71.2.toNat true)) else (some s77.1)) else (some s77.1):Option (List Bool))) (fun s79=>some (.nxt (s79,IntKind.i64.wrap (s77.2+1))))) else (some (.brk (s77.1,s77.2)))
def gy (p0a:Int×(List Bool)×(List (List Int))) (s71:(List Bool)×Int):Option (Out (List Bool) ((List Bool)×Int)):=
 if decide (s71.2<(p0a.2.1.length:Int)) then (a6 (aF (gx p0a s71) br (s71.1,0)) (fun r=>some (.ret r)) (fun s78=>some (.nxt (s78.1,IntKind.i64.wrap (s71.2+1))))) else (some (.brk (s71.1,s71.2)))
def iU (p0a:Int×(List Bool)×(List (List Int))) (s53:(List Bool)×Int):Option (Out (List Bool) ((List Bool)×Int)):=
 if decide (s53.2<(p0a.2.1.length:Int)) then (a6 (aF (gy p0a) br (s53.1,0)) (fun r=>some (.ret r)) (fun s72=>some (.nxt (s72.1,IntKind.i64.wrap (s53.2+1))))) else (some (.brk (s53.1,s53.2)))
def iI (p0a:Int×(List Bool)×(List (List Int))):Option (List Bool):=
 (cm 1 ([] :List Bool) p0a.2.1).bind fun z1=>a6 (aF (iU p0a) br (z1,0)) (fun r=>some r) (fun s54=>some s54.1)
def jH (p0a:Int×(List Bool)×(List (List Int))) (p1classes:List Int) (p2s:Int) (s5:(List Int)×Int):Option (Out (List Int) ((List Int)×Int)):=
 if decide (s5.2<9) then (Option.bind (((bj p0a.2.2 p2s).bind fun x17=>(bj x17 s5.2).bind fun x18=>if decide (x18<0) then ((cm 8 s5.1 ([-1])).bind fun z12=>some z12) else ((bj p1classes x18).bind fun x19=>(cm 8 s5.1 ([x19])).bind fun z11=>some z11):Option (List Int))) (fun s7=>some (.nxt (s7,IntKind.i64.wrap (s5.2+1))))) else (some (.brk (s5.1,s5.2)))
def lK (p0a:Int×(List Bool)×(List (List Int))) (p1classes:List Int) (p2s:Int):Option (List Int):=
 (bj p1classes p2s).bind fun x1=>a6 (aF (jH p0a p1classes p2s) br ([x1],0)) (fun r=>some r) (fun s6=>some s6.1)
def ez (p0:Int×(List Bool)×List (List Int)) (r0:List Bool) (s2:(List Int)×Int):Option (Out (List Int) ((List Int)×Int)):=
 if decide (s2.2<(p0.2.1.length:Int)) then ((bj p0.2.1 s2.2).bind fun x3=>Option.bind ((if x3 then (some 1) else (some 0):Option Int)) (fun s4=>(bj r0 s2.2).bind fun x5=>Option.bind ((if x5 then (some s4) else (some (-1)):Option Int)) (fun s6=>(cm 8 s2.1 ([s6])).bind fun z7=>some (.nxt (z7,IntKind.i64.wrap (s2.2+1)))))) else (some (.brk (s2.1,s2.2)))
def eA (s13:(List (List Int))×(List Int)×Int) (r16:List Int) (s18:Int×Int):Option (Out (List Int) (Int×Int)):=
 if decide (s18.2<(s13.1.length:Int)) then (Option.bind (((bj s13.1 s18.2).bind fun x19=>(lJ x19 r16).bind fun r20=>if r20==0 then (some s18.2) else (some s18.1):Option Int)) (fun s21=>some (.nxt (s21,IntKind.i64.wrap (s18.2+1))))) else (some (.brk (s18.1,s18.2)))
def eB (p0:Int×(List Bool)×List (List Int)) (s11:(List Int)×Int) (s13:(List (List Int))×(List Int)×Int):Option (Out (List Int) ((List (List Int))×(List Int)×Int)):=
 if decide (s13.2.2<(p0.2.1.length:Int)) then (Option.bind (((bj s11.1 s13.2.2).bind fun x14=>if decide (x14<0) then ((cm 8 s13.2.1 ([(-1)])).bind fun z15=>some (s13.1,z15)) else ((lK (p0.1,p0.2.1,p0.2.2) s11.1 s13.2.2).bind fun r16=>a6 (aF (eA s13 r16) br ((-1),0)) (fun r22=>none) (fun s23=>Option.bind ((if decide (s23.1<0) then ((cm 24 s13.1 ([r16])).bind fun z24=>some (z24,(s13.1.length:Int))) else (some (s13.1,s23.1)):Option ((List (List Int))×Int))) (fun s25=>(cm 8 s13.2.1 ([s25.2])).bind fun z26=>some (s25.1,z26)))):Option ((List (List Int))×List Int))) (fun s27=>some (.nxt (s27.1,s27.2,IntKind.i64.wrap (s13.2.2+1))))) else (some (.brk (s13.1,s13.2.1,s13.2.2)))
def iJ (p0:Int×(List Bool)×List (List Int)) (s11:(List Int)×Int):Option (Out (List Int) ((List Int)×Int)):=
 if decide (s11.2<=(p0.2.1.length:Int)) then (a6 (aF (eB p0 s11) br (([] :List (List Int)),([] :List Int),0)) (fun r28=>some (.ret r28)) (fun s29=>(lJ s29.2.1 s11.1).bind fun r30=>if r30==0 then (some (.ret s11.1)) else (some (.nxt (s29.2.1,IntKind.i64.wrap (s11.2+1)))))) else (some (.brk (s11.1,s11.2)))
def gz (p0:Int×(List Bool)×List (List Int)):Option (List Int):=
 (iI (p0.1,p0.2.1,p0.2.2)).bind fun r0=>a6 (aF (ez p0 r0) br (([] :List Int),0)) (fun r8=>some r8) (fun s9=>a6 (aF (iJ p0) br (s9.1,0)) (fun r31=>some r31) (fun s32=>some s32.1))
def eC (p0a:Int×(List Bool)×(List (List Int))):Option Yq2:=
 (gz (p0a.1,p0a.2.1,p0a.2.2)).bind fun r1=>(iI (p0a.1,p0a.2.1,p0a.2.2)).bind fun r2=>(fU (p0a.1,p0a.2.1,p0a.2.2) r1 r2).bind fun r3=>some (r3.1,r3.2.1,r3.2.2)
def m_s_CompileExpr (p0e:(List Yq1)):Option (Yq2×Bool):=
 (ct p0e).bind fun r1=>if r1.2 then ((cq (r1.1.1,r1.1.2.1,r1.1.2.2.1,r1.1.2.2.2.1,r1.1.2.2.2.2) 200).bind fun r2=>if r2.2 then ((eC (r2.1.1,r2.1.2.1,r2.1.2.2)).bind fun r3=>if decide ((r3.2.1.length:Int)>12) then (some ((0,[],[]),false)) else (some ((r3.1,r3.2.1,r3.2.2),true))) else (some ((0,[],[]),false))) else (some ((0,[],[]),false))
def ed (p0:Int×(List Bool)×(List (List Int))) (p1:Int×(List Bool)×(List (List Int))) (s3:Int):Option (Out Bool Int):=
 if decide (s3<(p0.2.1.length:Int)) then ((bj p0.2.1 s3).bind fun x5=>(bj p1.2.1 s3).bind fun x6=>if x5 !=x6 then (some (.ret false)) else (some (.nxt (IntKind.i64.wrap (s3+1))))) else (some (.brk s3))
def eg (p0:Int×(List Bool)×(List (List Int))) (p1:Int×(List Bool)×(List (List Int))) (s7:Int):Option (Out Bool Int):=
 if decide (s7<(p0.2.2.length:Int)) then ((bj p0.2.2 s7).bind fun x11=>(bj p1.2.2 s7).bind fun x12=>(lJ x11 x12).bind fun r9=>if r9 !=0 then (some (.ret false)) else (some (.nxt (IntKind.i64.wrap (s7+1))))) else (some (.brk s7))
def di (p0:Int×(List Bool)×(List (List Int))) (p1:Int×(List Bool)×(List (List Int))):Option Bool:=
 if p0.1 !=p1.1 then (some false) else (if (p0.2.1.length:Int) !=(p1.2.1.length:Int) then (some false) else (if (p0.2.2.length:Int) !=(p1.2.2.length:Int) then (some false) else (a6 (aF (ed p0 p1) br 0) (fun r=>some r) (fun s4=>a6 (aF (eg p0 p1) br 0) (fun r=>some r) (fun s8=>some true)))))
def cP (p0l:List Yq2) (p1a:Int×(List Bool)×(List (List Int))) (s3:Int):Option (Out Int Int):=
 if decide (s3<(p0l.length:Int)) then ((bj p0l s3).bind fun x3=>(di (x3.1,x3.2.1,x3.2.2) (p1a.1,p1a.2.1,p1a.2.2)).bind fun r9=>if r9 then (some (.ret s3)) else (some (.nxt (IntKind.i64.wrap (s3+1))))) else (some (.brk s3))
def df (p0l:List Yq2) (p1a:Int×(List Bool)×(List (List Int))):Option Int:=
 a6 (aF (cP p0l p1a) br 0) (fun r=>some r) (fun s4=>some (-1))
def bc (p0:List Yq3) (s7:Int×(List Yq2)×(List Yq3)):Option (Out (Yq8×Bool) Yq7):=
 if decide (s7.1<(p0.length:Int)) then ((bj p0 s7.1).bind fun x17=>(m_s_CompileExpr x17.2.1).bind fun r20=>if r20.2 then ((bj p0 s7.1).bind fun x18=>(jG x18.1 1 99).bind fun r21=>if r21 then (if decide (s7.1>0) then ((bj p0 (IntKind.i64.wrap (s7.1 - 1))).bind fun x21=>(bj p0 s7.1).bind fun x22=>if decide (x21.1≥x22.1) then (some (.ret (([],[]),false))) else ((df s7.2.1 (r20.1.1,r20.1.2.1,r20.1.2.2)).bind fun r25=>Option.bind ((if decide (r25<0) then ((cm 56 s7.2.1 ([(r20.1.1,r20.1.2.1,r20.1.2.2)])).bind fun z17=>some ((s7.2.1.length:Int),z17,s7.2.2)) else (some (r25,s7.2.1,s7.2.2)):Option Yq7)) (fun s10=>(bj p0 s7.1).bind fun x23=>(bj p0 s7.1).bind fun x24=>(dJ x24.2.1).bind fun r27=>(cm 40 s10.2.2 ([(x23.1,r27,s10.1)])).bind fun z18=>some (.nxt (IntKind.i64.wrap (s7.1+1),s10.2.1,z18))))) else ((df s7.2.1 (r20.1.1,r20.1.2.1,r20.1.2.2)).bind fun r22=>Option.bind ((if decide (r22<0) then ((cm 56 s7.2.1 ([(r20.1.1,r20.1.2.1,r20.1.2.2)])).bind fun z14=>some ((s7.2.1.length:Int),z14,s7.2.2)) else (some (r22,s7.2.1,s7.2.2)):Option Yq7)) (fun s9=>(bj p0 s7.1).bind fun x19=>(bj p0 s7.1).bind fun x20=>(dJ x20.2.1).bind fun r24=>(cm 40 s9.2.2 ([(x19.1,r24,s9.1)])).bind fun z15=>some (.nxt (IntKind.i64.wrap (s7.1+1),s9.2.1,z15))))) else (some (.ret (([],[]),false)))) else (some (.ret (([],[]),false)))) else (some (.brk (s7.1,s7.2.1,s7.2.2)))
def bd (p0:List Yq3):Option (Yq8×Bool):=
 if decide ((p0.length:Int)>4) then (some (([],[]),false)) else (a6 (aF (bc p0) br (0,[],[])) (fun r=>some r) (fun s8=>some ((s8.2.1,s8.2.2),true)))
def fV (p0a:(List Yq1)) (p1b:(List Yq1)) (s3:Int):Option (Out Bool Int):=
 if decide (s3<(p0a.length:Int)) then ((bj p0a s3).bind fun x5=>(bj p1b s3).bind fun x6=>if (x5.1==x6.1)&&((x5.2.1==x6.2.1)&&((x5.2.2.1==x6.2.2.1)&&((x5.2.2.2==x6.2.2.2)&&true))) then (some (.nxt (IntKind.i64.wrap (s3+1)))) else (some (.ret false))) else (some (.brk s3))
def iV (p0a:(List Yq1)) (p1b:(List Yq1)):Option Bool:=
 if (p0a.length:Int) !=(p1b.length:Int) then (some false) else (a6 (aF (fV p0a p1b) br 0) (fun r=>some r) (fun s4=>some true))
def dB (p0:(List Yq2)×(List Yq3)) (p1:(List Yq2)×(List Yq3)) (s3:Int):Option (Out Bool Int):=
 if decide (s3<(p0.1.length:Int)) then ((bj p0.1 s3).bind fun x5=>(bj p1.1 s3).bind fun x6=>(di (x5.1,x5.2.1,x5.2.2) (x6.1,x6.2.1,x6.2.2)).bind fun r15=>if r15 then (some (.nxt (IntKind.i64.wrap (s3+1)))) else (some (.ret false))) else (some (.brk s3))
def dC (p0:(List Yq2)×(List Yq3)) (p1:(List Yq2)×(List Yq3)) (s7:Int):Option (Out Bool Int):=
 if decide (s7<(p0.2.length:Int)) then ((bj p0.2 s7).bind fun x19=>(bj p1.2 s7).bind fun x20=>if x19.1 !=x20.1 then (some (.ret false)) else ((bj p0.2 s7).bind fun x21=>(bj p1.2 s7).bind fun x22=>(iV x21.2.1 x22.2.1).bind fun r24=>if r24 then ((bj p0.2 s7).bind fun x23=>(bj p1.2 s7).bind fun x24=>if x23.2.2 !=x24.2.2 then (some (.ret false)) else (some (.nxt (IntKind.i64.wrap (s7+1))))) else (some (.ret false)))) else (some (.brk s7))
def eO (p0:(List Yq2)×(List Yq3)) (p1:(List Yq2)×(List Yq3)):Option Bool:=
 if (p0.1.length:Int) !=(p1.1.length:Int) then (some false) else (if (p0.2.length:Int) !=(p1.2.length:Int) then (some false) else (a6 (aF (dB p0 p1) br 0) (fun r=>some r) (fun s4=>a6 (aF (dC p0 p1) br 0) (fun r=>some r) (fun s8=>some true))))
def bL (p0r:(List Yq2)×(List Yq3)):Option Bool:=
 (bd p0r.2).bind fun r1=>if r1.2 then ((eO (r1.1.1,r1.1.2) (p0r.1,p0r.2)).bind fun r2=>some r2) else (some false)
def b7 (p0r:(List Yq2)×(List Yq3)) (p1id:Int) (s3:Int):Option (Out Int Int):=
 if decide (s3<(p0r.2.length:Int)) then ((bj p0r.2 s3).bind fun x3=>if x3.1==p1id then (some (.ret s3)) else (some (.nxt (IntKind.i64.wrap (s3+1))))) else (some (.brk s3))
def eP (p0r:(List Yq2)×(List Yq3)) (p1id:Int):Option Int:=
 a6 (aF (b7 p0r p1id) br 0) (fun r=>some r) (fun s4=>some (-1))
def gA (p0a:Int×(List Bool)×(List (List Int))) (s3:Int×Int×(List Bool)×(List (List Int))):Option (Out Yq2 (Int×Int×(List Bool)×(List (List Int)))):=
 if decide (s3.1<(p0a.2.2.length:Int)) then ((bj p0a.2.2 s3.1).bind fun x3=>(cm 8 ([] :List Int) x3).bind fun z6=>(cm 24 s3.2.2.2 ([z6])).bind fun z7=>some (.nxt (IntKind.i64.wrap (s3.1+1),s3.2.1,s3.2.2.1,z7))) else (some (.brk (s3.1,s3.2.1,s3.2.2.1,s3.2.2.2)))
def mo (p0a:Int×(List Bool)×(List (List Int))):Option Yq2:=
 (cm 1 ([] :List Bool) p0a.2.1).bind fun z1=>a6 (aF (gA p0a) br (0,p0a.1,z1,[])) (fun r=>some r) (fun s4=>some (s4.2.1,s4.2.2.1,s4.2.2.2))
def gB (p0r:(List Yq2)×(List Yq3)) (s3:Int×(List Yq2)×(List Yq3)):Option (Out Yq8 Yq7):=
 if decide (s3.1<(p0r.1.length:Int)) then ((bj p0r.1 s3.1).bind fun x3=>(mo (x3.1,x3.2.1,x3.2.2)).bind fun r9=>(cm 56 s3.2.1 ([(r9.1,r9.2.1,r9.2.2)])).bind fun z3=>some (.nxt (IntKind.i64.wrap (s3.1+1),z3,s3.2.2))) else (some (.brk (s3.1,s3.2.1,s3.2.2)))
def gC (p0r:(List Yq2)×(List Yq3)) (s7:Int×(List Yq2)×(List Yq3)):Option (Out Yq8 Yq7):=
 if decide (s7.1<(p0r.2.length:Int)) then ((bj p0r.2 s7.1).bind fun x6=>(dJ x6.2.1).bind fun r15=>(cm 40 s7.2.2 ([(x6.1,r15,x6.2.2)])).bind fun z6=>some (.nxt (IntKind.i64.wrap (s7.1+1),s7.2.1,z6))) else (some (.brk (s7.1,s7.2.1,s7.2.2)))
def iK (p0r:(List Yq2)×(List Yq3)):Option Yq8:=
 a6 (aF (gB p0r) br (0,[],[])) (fun r=>some r) (fun s4=>a6 (aF (gC p0r) br (0,s4.2.1,s4.2.2)) (fun r=>some r) (fun s8=>some (s8.2.1,s8.2.2)))
def jw (p0:(List Yq2)×(List Yq3)) (p1:Int) (s3:Int):Option (Out (Yq8×Bool) Int):=
 if decide (s3<(p0.2.length:Int)) then ((bj p0.2 s3).bind fun x3=>if decide (x3.1<p1) then (some (.nxt (IntKind.i64.wrap (s3+1)))) else (some (.brk s3))) else (some (.brk s3))
def dj (p0:(List Yq2)×(List Yq3)) (p1:Int) (p2:(List Yq1)):Option (Yq8×Bool):=
 (bL (p0.1,p0.2)).bind fun r1=>if r1 then ((eP (p0.1,p0.2) p1).bind fun r3=>if decide (r3≥0) then ((iK (p0.1,p0.2)).bind fun r6=>some ((r6.1,r6.2),false)) else (a6 (aF (jw p0 p1) br 0) (fun r=>some r) (fun s4=>(chk (0<=s4/\s4<=(p0.2.length:Int))).bind fun _=>(cm 40 ([] :List Yq3) (p0.2.take s4.toNat)).bind fun z1=>(cm 40 z1 ([(p1,p2,0)])).bind fun z2=>(chk (0<=s4/\s4<=(p0.2.length:Int))).bind fun _=>(cm 40 z2 (p0.2.drop s4.toNat)).bind fun z3=>(bd z3).bind fun r4=>if r4.2 then (some ((r4.1.1,r4.1.2),true)) else ((iK (p0.1,p0.2)).bind fun r5=>some ((r5.1,r5.2),false))))) else ((iK (p0.1,p0.2)).bind fun r2=>some ((r2.1,r2.2),false))
def zJ (p0s:ByteArray) (p1sep:Int) (s1:(List ByteArray)×Int×Int):Option (Out (List ByteArray) ((List ByteArray)×Int×Int)):=
 if decide (s1.2.2<((p0s.size:Nat):Int)) then (Option.bind (((AZ p0s s1.2.2).bind fun z2=>if z2==p1sep then ((MQ p0s s1.2.1 s1.2.2).bind fun z3=>(cm 16 s1.1 ([z3])).bind fun z4=>some (z4,IntKind.i64.wrap (s1.2.2+1))) else (some (s1.1,s1.2.1)):Option ((List ByteArray)×Int))) (fun s5=>some (.nxt (s5.1,s5.2,IntKind.i64.wrap (s1.2.2+1))))) else (some (.brk (s1.1,s1.2.1,s1.2.2)))
def zK (p0s:ByteArray) (p1sep:Int):Option (List ByteArray):=
 a6 (aF (zJ p0s p1sep) br (([] :List ByteArray),0,0)) (fun r6=>some r6) (fun s7=>(MQ p0s s7.2.1 ((p0s.size:Nat):Int)).bind fun z8=>(cm 16 s7.1 ([z8])).bind fun z9=>some z9)
def jo (p0n:Int):Option ByteArray:=
 (jc p0n).bind fun r1=>if r1 then ((bj ([(⟨#[97]⟩:ByteArray),(⟨#[97,45]⟩:ByteArray),(⟨#[98]⟩:ByteArray),(⟨#[98,45]⟩:ByteArray),(⟨#[99]⟩:ByteArray),(⟨#[99,45]⟩:ByteArray),(⟨#[48]⟩:ByteArray),(⟨#[49]⟩:ByteArray),(⟨#[50]⟩:ByteArray)]) p0n).bind fun x1=>some x1) else (some (⟨#[]⟩:ByteArray))
def sB (s1:Int×ByteArray):Option (Out ByteArray (Int×ByteArray)):=
 if s1.1 !=0 then (Option.bind ((if decide ((Int.tmod s1.1 10)<0) then (some (IntKind.i64.wrap (-(Int.tmod s1.1 10)))) else (some (Int.tmod s1.1 10)):Option Int)) (fun s2=>(MP (tV ([IntKind.u8.wrap (IntKind.i64.wrap (48+s2))])) s1.2).bind fun z3=>some (.nxt (PQ s1.1 10,z3)))) else (some (.brk (s1.1,s1.2)))
def mq (p0n:Int):Option ByteArray:=
 if p0n==0 then (some (⟨#[48]⟩)) else (a6 (aF (sB) br (p0n,(⟨#[]⟩:ByteArray))) (fun r4=>some r4) (fun s5=>if decide (p0n<0) then ((MP (⟨#[45]⟩) s5.2).bind fun z6=>some z6) else (some s5.2)))
def ur (p0t:Int×Int×Int×Int):Option ByteArray:=
 if p0t.1==1 then (some (⟨#[33]⟩)) else (if p0t.1==2 then (some (⟨#[40,41]⟩)) else (if p0t.1==3 then ((jo p0t.2.1).bind fun r0=>some r0) else (if p0t.1==4 then (some (⟨#[46]⟩)) else (if p0t.1==5 then (some (⟨#[124]⟩)) else (if p0t.1==6 then (some (⟨#[42]⟩)) else ((mq p0t.2.2.1).bind fun r7=>(MP (⟨#[123]⟩) r7).bind fun z8=>(MP z8 (⟨#[44]⟩)).bind fun z9=>(mq p0t.2.2.2).bind fun r10=>(MP z9 r10).bind fun z11=>(MP z11 (⟨#[125]⟩)).bind fun z12=>some z12))))))
def qi (p0s:ByteArray) (s3:Int):Option (Out (Int×Bool) Int):=
 if decide (s3<9) then ((jo s3).bind fun r3=>if r3==p0s then (some (.ret (s3,true))) else (some (.nxt (IntKind.i64.wrap (s3+1))))) else (some (.brk s3))
def nq (p0s:ByteArray):Option (Int×Bool):=
 a6 (aF (qi p0s) br 0) (fun r=>some r) (fun s4=>some (0,false))
def xP (p0s:ByteArray) (s1:Int):Option (Out Yq1 Int):=
 if decide (s1<=6) then (if s1 !=3 then ((ur (s1,0,0,0)).bind fun r2=>if r2==p0s then (some (.ret (s1,0,0,0))) else (some (.nxt (IntKind.i64.wrap (s1+1))))) else (some (.nxt (IntKind.i64.wrap (s1+1))))) else (some (.brk s1))
def wu (p0s:ByteArray):Option Yq1:=
 a6 (aF (xP p0s) br 1) (fun r3=>some r3) (fun s4=>(nq p0s).bind fun r5=>if r5.2 then (some (3,r5.1,0,0)) else (if ((p0s.size:Nat):Int)==5 then ((AZ p0s 0).bind fun z6=>if z6==123 then ((AZ p0s 2).bind fun z7=>if z7==44 then ((AZ p0s 4).bind fun z8=>if z8==125 then ((AZ p0s 1).bind fun z11=>(AZ p0s 3).bind fun z12=>some (7,0,IntKind.i64.wrap ((IntKind.i64.wrap z11) - 48),IntKind.i64.wrap ((IntKind.i64.wrap z12) - 48))) else (some (0,0,0,0))) else (some (0,0,0,0))) else (some (0,0,0,0))) else (some (0,0,0,0))))
def sC (r1:List ByteArray) (s3:Int×(List Yq1)):Option (Out (((List Yq1))×Bool) (Int×(List Yq1))):=
 if decide (s3.1<(r1.length:Int)) then (if decide (s3.1<=24) then ((bj r1 s3.1).bind fun x3=>(wu x3).bind fun r4=>(cm 32 s3.2 ([(r4.1,r4.2.1,r4.2.2.1,r4.2.2.2)])).bind fun z3=>some (.nxt (IntKind.i64.wrap (s3.1+1),z3))) else (some (.brk (s3.1,s3.2)))) else (some (.brk (s3.1,s3.2)))
def fW (p0s:ByteArray):Option (((List Yq1))×Bool):=
 (zK p0s 32).bind fun r1=>a6 (aF (sC r1) br (0,[])) (fun r=>some r) (fun s4=>(fF s4.2).bind fun r5=>if r5 then (some (s4.2,true)) else (some ([],false)))
def oh (p0c:(List Int)×Int×Int) (p1list:List ByteArray):Option (ByteArray×Int×Int):=
 (bm (p0c.1,p0c.2.1,p0c.2.2) (p1list.length:Int)).bind fun r0=>(bj p1list r0.1).bind fun x1=>some (x1,r0.2.1,r0.2.2)
def kd (p0c:(List Int)×Int×Int):Option ((List Yq1)×Int×Int):=
 (oh (p0c.1,p0c.2.1,p0c.2.2) ([⟨#[97]⟩,⟨#[97,32,98,32,46]⟩,⟨#[97,32,42]⟩,⟨#[97,32,98,32,124,32,42]⟩,⟨#[97,32,97,45,32,46]⟩,⟨#[97,32,42,32,98,32,46]⟩,⟨#[97,32,98,32,42,32,46,32,99,32,46]⟩,⟨#[97,32,97,32,124,32,42]⟩,⟨#[97,32,98,32,46,32,42]⟩,⟨#[48,32,97,32,46,32,42]⟩,⟨#[97,32,49,32,46,32,98,32,46]⟩,⟨#[97,32,123,48,44,50,125]⟩,⟨#[97,32,98,32,124,32,123,49,44,51,125]⟩,⟨#[40,41]⟩,⟨#[33]⟩,⟨#[97,45,32,42,32,97,32,46]⟩,⟨#[97,32,98,45,32,46,32,42,32,99,32,124]⟩,⟨#[97,32,42,32,97,32,42,32,46]⟩,⟨#[97,32,48,32,124,32,42,32,98,32,46]⟩,⟨#[97,32,97,32,46,32,42]⟩,⟨#[97,32,98,32,46,32,98,32,97,32,46,32,124,32,42]⟩])).bind fun r0=>(fW r0.1).bind fun r1=>some (r1.1,r0.2.1,r0.2.2)
def cW (p0c:(List Int)×Int×Int) (s3:Int×Int×Int×(List Yq6)×List (Int×(List Yq1)×Int)):Option (Out (Yq4×Int×Int) (Int×Int×Int×(List Yq6)×List (Int×(List Yq1)×Int))):=
 if decide (s3.1>0) then ((bm (p0c.1,s3.2.1,s3.2.2.1) 6).bind fun r7=>(kd (p0c.1,r7.2.1,r7.2.2)).bind fun r8=>(dj (s3.2.2.2.1,s3.2.2.2.2) (IntKind.i64.wrap (1+r7.1)) r8.1).bind fun r9=>some (.nxt (IntKind.i64.wrap (s3.1 - 1),r8.2.1,r8.2.2,r9.1.1,r9.1.2))) else (some (.brk (s3.1,s3.2.1,s3.2.2.1,s3.2.2.2.1,s3.2.2.2.2)))
def im (p0c:(List Int)×Int×Int):Option (Yq4×Int×Int):=
 (bm (p0c.1,p0c.2.1,p0c.2.2) 3).bind fun r0=>a6 (aF (cW p0c) br (IntKind.i64.wrap (1+r0.1),r0.2.1,r0.2.2,([] :List Yq6),([] :List (Int×(List Yq1)×Int)))) (fun r10=>some r10) (fun s11=>some ((s11.2.2.2.1,s11.2.2.2.2),s11.2.1,s11.2.2.1))
def fX (p0c:(List Int)×Int×Int) (p1n:Int):Option (Bool×Int×Int):=
 (bm (p0c.1,p0c.2.1,p0c.2.2) p1n).bind fun r0=>some (r0.1==0,r0.2.1,r0.2.2)
def oM (p0letter:Int):Option (List Yq1):=
 some ([(3,p0letter,0,0)])
def cX:Nat->((List Int)×Int×Int)->Int->Option ((List Yq1)×Int×Int)
 | 0,_,_=>none
 | n+1,p0,p1 =>
  if p1==0 then ((fX (p0.1,p0.2.1,p0.2.2) 12).bind fun r0=>if r0.1 then ((eN (p0.1,r0.2.1,r0.2.2) ([1,2])).bind fun r1=>(jP r1.1).bind fun r2=>some (r2,r1.2.1,r1.2.2)) else ((eN (p0.1,r0.2.1,r0.2.2) ([0,0,2,2,1,4,3,6,7])).bind fun r3=>(oM r3.1).bind fun r4=>some (r4,r3.2.1,r3.2.2))) else ((bm (p0.1,p0.2.1,p0.2.2) 6).bind fun r5=>Option.bind ((if r5.1==0 then (some (r5.1==0)) else (some (r5.1==1)):Option Bool)) (fun s6=>if s6 then (((cX n) (p0.1,r5.2.1,r5.2.2) (IntKind.i64.wrap (p1 - 1))).bind fun r7=>((cX n) (p0.1,r7.2.1,r7.2.2) (IntKind.i64.wrap (p1 - 1))).bind fun r8=>(dh r7.1 r8.1 (4,0,0,0)).bind fun r9=>some (r9,r8.2.1,r8.2.2)) else (Option.bind ((if r5.1==2 then (some (r5.1==2)) else (some (r5.1==3)):Option Bool)) (fun s10=>if s10 then (((cX n) (p0.1,r5.2.1,r5.2.2) (IntKind.i64.wrap (p1 - 1))).bind fun r11=>((cX n) (p0.1,r11.2.1,r11.2.2) (IntKind.i64.wrap (p1 - 1))).bind fun r12=>(dh r11.1 r12.1 (5,0,0,0)).bind fun r13=>some (r13,r12.2.1,r12.2.2)) else (if r5.1==4 then (((cX n) (p0.1,r5.2.1,r5.2.2) (IntKind.i64.wrap (p1 - 1))).bind fun r14=>(dh r14.1 ([] :List Yq1) (6,0,0,0)).bind fun r15=>some (r15,r14.2.1,r14.2.2)) else ((bm (p0.1,r5.2.1,r5.2.2) 3).bind fun r16=>((cX n) (p0.1,r16.2.1,r16.2.2) (IntKind.i64.wrap (p1 - 1))).bind fun r17=>(bm (p0.1,r17.2.1,r17.2.2) (IntKind.i64.wrap ((IntKind.i64.wrap (1+r16.1))+1))).bind fun r18=>(dh r17.1 ([] :List Yq1) (7,0,r18.1,IntKind.i64.wrap (1+r16.1))).bind fun r19=>some (r19,r18.2.1,r18.2.2)))))))
def lL (p0c:(List Int)×Int×Int):Option ((List Yq1)×Int×Int):=
 (fX (p0c.1,p0c.2.1,p0c.2.2) 2).bind fun r0=>if r0.1 then ((kd (p0c.1,r0.2.1,r0.2.2)).bind fun r1=>some (r1.1,r1.2.1,r1.2.2)) else ((bm (p0c.1,r0.2.1,r0.2.2) 3).bind fun r2=>(cX dE (p0c.1,r2.2.1,r2.2.2) (IntKind.i64.wrap (1+r2.1))).bind fun r3=>some (r3.1,r3.2.1,r3.2.2))
def fb (p0c:(List Int)×Int×Int) (r0:Int×Int×Int) (s6:(List Int)×Int×Int×Int):Option (Out (Yq6×Int×Int) ((List Int)×Int×Int×Int)):=
 if decide (s6.2.1<9) then ((fX (p0c.1,s6.2.2.1,s6.2.2.2) 3).bind fun r7=>Option.bind ((if r7.1 then (some ((-1),r7.2.1,r7.2.2)) else ((bm (p0c.1,r7.2.1,r7.2.2) (IntKind.i64.wrap (1+r0.1))).bind fun r8=>some (r8.1,r8.2.1,r8.2.2)):Option (Int×Int×Int))) (fun s9=>Option.bind ((if decide (s6.2.1>3) then (some (-1)) else (some s9.1):Option Int)) (fun s10=>(cm 8 s6.1 ([s10])).bind fun z11=>some (.nxt (z11,IntKind.i64.wrap (s6.2.1+1),s9.2.1,s9.2.2))))) else (some (.brk (s6.1,s6.2.1,s6.2.2.1,s6.2.2.2)))
def gH (p0c:(List Int)×Int×Int) (r0:Int×Int×Int) (s4:Int×Int×(List Bool)×(List (List Int))×Int×Int):Option (Out (Yq6×Int×Int) (Int×Int×(List Bool)×(List (List Int))×Int×Int)):=
 if decide (s4.1<(IntKind.i64.wrap (1+r0.1))) then (a6 (aF (fb p0c r0) br (([] :List Int),0,s4.2.2.2.2.1,s4.2.2.2.2.2)) (fun r12=>some (.ret r12)) (fun s13=>(fX (p0c.1,s13.2.2.1,s13.2.2.2) 3).bind fun r16=>(cm 1 s4.2.2.1 ([r16.1])).bind fun z17=>(cm 24 s4.2.2.2.1 ([s13.1])).bind fun z18=>some (.nxt (IntKind.i64.wrap (s4.1+1),s4.2.1,z17,z18,r16.2.1,r16.2.2)))) else (some (.brk (s4.1,s4.2.1,s4.2.2.1,s4.2.2.2.1,s4.2.2.2.2.1,s4.2.2.2.2.2)))
def iq (p0c:(List Int)×Int×Int):Option (Yq6×Int×Int):=
 (bm (p0c.1,p0c.2.1,p0c.2.2) 4).bind fun r0=>(bm (p0c.1,r0.2.1,r0.2.2) (IntKind.i64.wrap (1+r0.1))).bind fun r1=>a6 (aF (gH p0c r0) br (0,r1.1,([] :List Bool),([] :List (List Int)),r1.2.1,r1.2.2)) (fun r19=>some r19) (fun s20=>some ((s20.2.1,s20.2.2.1,s20.2.2.2.1),s20.2.2.2.2.1,s20.2.2.2.2.2))
def oi (p0c:(List Int)×Int×Int):Option (Yq6×Int×Int):=
 (fX (p0c.1,p0c.2.1,p0c.2.2) 3).bind fun r0=>if r0.1 then ((iq (p0c.1,r0.2.1,r0.2.2)).bind fun r1=>some ((r1.1.1,r1.1.2.1,r1.1.2.2),r1.2.1,r1.2.2)) else ((lL (p0c.1,r0.2.1,r0.2.2)).bind fun r2=>(ct r2.1).bind fun r3=>(cq (r3.1.1,r3.1.2.1,r3.1.2.2.1,r3.1.2.2.2.1,r3.1.2.2.2.2) 12).bind fun r4=>if r4.2 then (some ((r4.1.1,r4.1.2.1,r4.1.2.2),r2.2.1,r2.2.2)) else ((iq (p0c.1,r2.2.1,r2.2.2)).bind fun r5=>some ((r5.1.1,r5.1.2.1,r5.1.2.2),r5.2.1,r5.2.2)))
def oj (p0c:(List Int)×Int×Int):Option (Yq4×Int×Int):=
 (im (p0c.1,p0c.2.1,p0c.2.2)).bind fun r0=>(bm (p0c.1,r0.2.1,r0.2.2) 16).bind fun r1=>Option.bind ((if r1.1==0 then (if decide ((r0.1.2.length:Int)>0) then ((bm (p0c.1,r1.2.1,r1.2.2) 3).bind fun r4=>(bj r0.1.2 0).bind fun x5=>some (r4.2.1,r4.2.2,r0.1.1,r0.1.2.set 0 (x5.1,x5.2.1,r4.1))) else (some (r1.2.1,r1.2.2,r0.1.1,r0.1.2))) else (if r1.1==1 then (if decide ((r0.1.2.length:Int)>0) then ((eN (p0c.1,r1.2.1,r1.2.2) ([0,100,99])).bind fun r8=>(bj r0.1.2 0).bind fun x9=>some (r8.2.1,r8.2.2,r0.1.1,r0.1.2.set 0 (r8.1,x9.2))) else (some (r1.2.1,r1.2.2,r0.1.1,r0.1.2))) else (if r1.1==2 then ((oi (p0c.1,r1.2.1,r1.2.2)).bind fun r12=>(cm 56 r0.1.1 ([(r12.1.1,r12.1.2.1,r12.1.2.2)])).bind fun z13=>some (r12.2.1,r12.2.2,z13,r0.1.2)) else (some (r1.2.1,r1.2.2,r0.1.1,r0.1.2)))):Option (Int×Int×(List Yq6)×List (Int×(List Yq1)×Int)))) (fun s14=>some ((s14.2.2.1,s14.2.2.2),s14.1,s14.2.1))
def kS (s15:List Yq1):Option (Out ((List Yq1)×Int×Int) (List Yq1)):=
 if decide ((s15.length:Int)>0) then (if decide ((s15.length:Int)<24) then ((cm 32 s15 ([(6,0,0,0)])).bind fun z16=>some (.nxt z16)) else (some (.brk s15))) else (some (.brk s15))
def qj (p0c:(List Int)×Int×Int):Option ((List Yq1)×Int×Int):=
 (lL (p0c.1,p0c.2.1,p0c.2.2)).bind fun r0=>(bm (p0c.1,r0.2.1,r0.2.2) 14).bind fun r1=>Option.bind ((if r1.1==0 then ((chk (And ((0:Int)<=1) (1<=(r0.1.length:Int)))).bind fun _=>some (r1.2.1,r1.2.2,r0.1.drop 1)) else (if r1.1==1 then ((bm (p0c.1,r1.2.1,r1.2.2) 9).bind fun r8=>(bm (p0c.1,r8.2.1,r8.2.2) 10).bind fun r9=>(bm (p0c.1,r9.2.1,r9.2.2) 3).bind fun r10=>(bm (p0c.1,r10.2.1,r10.2.2) 5).bind fun r11=>(bj r0.1 0).bind fun x12=>some (r11.2.1,r11.2.2,r0.1.set 0 (r8.1,r9.1,r10.1,r11.1))) else (if r1.1==2 then (a6 (aF (kS) br r0.1) (fun r17=>none) (fun s18=>(fX (p0c.1,r1.2.1,r1.2.2) 2).bind fun r19=>if r19.1 then ((cm 32 s18 ([(6,0,0,0)])).bind fun z20=>some (r19.2.1,r19.2.2,z20)) else (some (r19.2.1,r19.2.2,s18)))) else (some (r1.2.1,r1.2.2,r0.1)))):Option (Int×Int×List Yq1))) (fun s21=>some (s21.2.2,s21.1,s21.2.1))
def dO (p0code:List Int):Option (Yq4×Int×List Yq1):=
 (qg p0code).bind fun r0=>(oj (p0code,r0.1,r0.2)).bind fun r1=>(eN (p0code,r1.2.1,r1.2.2) ([1,2,3,4,5,6,7,99,0,100])).bind fun r4=>(qj (p0code,r4.2.1,r4.2.2)).bind fun r5=>some ((r1.1.1,r1.1.2),r4.1,r5.1)
def bV (p0s1:List Bool) (p1s2:List Bool) (s3:Int):Option (Out Bool Int):=
 if decide (s3<(p0s1.length:Int)) then ((bj p0s1 s3).bind fun x5=>(bj p1s2 s3).bind fun x6=>if x5 !=x6 then (some (.ret false)) else (some (.nxt (IntKind.i64.wrap (s3+1))))) else (some (.brk s3))
def db (p0s1:List Bool) (p1s2:List Bool):Option Bool:=
 if (p0s1.length:Int) !=(p1s2.length:Int) then (some false) else (a6 (aF (bV p0s1 p1s2) br 0) (fun r=>some r) (fun s4=>some true))
def aU (p0s1:List (List Int)) (p1s2:List (List Int)) (p2eq:(List Int)->(List Int)->Option Bool) (s3:Int):Option (Out Bool Int):=
 if decide (s3<(p0s1.length:Int)) then ((bj p0s1 s3).bind fun x5=>(bj p1s2 s3).bind fun x6=>(p2eq x5 x6).bind fun r9=>if r9 then (some (.nxt (IntKind.i64.wrap (s3+1)))) else (some (.ret false))) else (some (.brk s3))
def bE (p0s1:List (List Int)) (p1s2:List (List Int)) (p2eq:(List Int)->(List Int)->Option Bool):Option Bool:=
 if (p0s1.length:Int) !=(p1s2.length:Int) then (some false) else (a6 (aF (aU p0s1 p1s2 p2eq) br 0) (fun r=>some r) (fun s4=>some true))
def b8 (p0s1:List Int) (p1s2:List Int) (s3:Int):Option (Out Bool Int):=
 if decide (s3<(p0s1.length:Int)) then ((bj p0s1 s3).bind fun x5=>(bj p1s2 s3).bind fun x6=>if x5 !=x6 then (some (.ret false)) else (some (.nxt (IntKind.i64.wrap (s3+1))))) else (some (.brk s3))
def cz (p0s1:List Int) (p1s2:List Int):Option Bool:=
 if (p0s1.length:Int) !=(p1s2.length:Int) then (some false) else (a6 (aF (b8 p0s1 p1s2) br 0) (fun r=>some r) (fun s4=>some true))
def eQ (p0x:List Int) (p1y:List Int):Option Bool:=
 (cz p0x p1y).bind fun r1=>some r1
def dk (p0a:Int×(List Bool)×(List (List Int))) (p1b:Int×(List Bool)×(List (List Int))):Option Bool:=
 if p0a.1==p1b.1 then ((db p0a.2.1 p1b.2.1).bind fun r1=>if r1 then ((bE p0a.2.2 p1b.2.2 (fun a0 a1=>eQ a0 a1)).bind fun r2=>some r2) else (some false)) else (some false)
def aL (p0s1:List Yq2) (p1s2:List Yq2) (p2eq:Yq2->Yq2->Option Bool) (s3:Int):Option (Out Bool Int):=
 if decide (s3<(p0s1.length:Int)) then ((bj p0s1 s3).bind fun x5=>(bj p1s2 s3).bind fun x6=>(p2eq (x5.1,x5.2.1,x5.2.2) (x6.1,x6.2.1,x6.2.2)).bind fun r15=>if r15 then (some (.nxt (IntKind.i64.wrap (s3+1)))) else (some (.ret false))) else (some (.brk s3))
def aS (p0s1:List Yq2) (p1s2:List Yq2) (p2eq:Yq2->Yq2->Option Bool):Option Bool:=
 if (p0s1.length:Int) !=(p1s2.length:Int) then (some false) else (a6 (aF (aL p0s1 p1s2 p2eq) br 0) (fun r=>some r) (fun s4=>some true))
def aJ (p0s1:List Yq3) (p1s2:List Yq3) (p2eq:Yq3->Yq3->Option Bool) (s3:Int):Option (Out Bool Int):=
 if decide (s3<(p0s1.length:Int)) then ((bj p0s1 s3).bind fun x5=>(bj p1s2 s3).bind fun x6=>(p2eq (x5.1,x5.2.1,x5.2.2) (x6.1,x6.2.1,x6.2.2)).bind fun r9=>if r9 then (some (.nxt (IntKind.i64.wrap (s3+1)))) else (some (.ret false))) else (some (.brk s3))
def aQ (p0s1:List Yq3) (p1s2:List Yq3) (p2eq:Yq3->Yq3->Option Bool):Option Bool:=
 if (p0s1.length:Int) !=(p1s2.length:Int) then (some false) else (a6 (aF (aJ p0s1 p1s2 p2eq) br 0) (fun r=>some r) (fun s4=>some true))
def bR (p0s1:List Yq1) (p1s2:List Yq1) (s3:Int):Option (Out Bool Int):=
 if decide (s3<(p0s1.length:Int)) then ((bj p0s1 s3).bind fun x5=>(bj p1s2 s3).bind fun x6=>if (x5.1==x6.1)&&((x5.2.1==x6.2.1)&&((x5.2.2.1==x6.2.2.1)&&((x5.2.2.2==x6.2.2.2)&&true))) then (some (.nxt (IntKind.i64.wrap (s3+1)))) else (some (.ret false))) else (some (.brk s3))
def bX (p0s1:List Yq1) (p1s2:List Yq1):Option Bool:=
 if (p0s1.length:Int) !=(p1s2.length:Int) then (some false) else (a6 (aF (bR p0s1 p1s2) br 0) (fun r=>some r) (fun s4=>some true))
def iW (p0a:(List Yq1)) (p1b:(List Yq1)):Option Bool:=
 (bX p0a p1b).bind fun r1=>some r1
def fc (p0a:Int×((List Yq1))×Int) (p1b:Int×((List Yq1))×Int):Option Bool:=
 if p0a.1==p1b.1 then ((iW p0a.2.1 p1b.2.1).bind fun r1=>if r1 then (some (p0a.2.2==p1b.2.2)) else (some false)) else (some false)
def cE (p0a:(List Yq2)×(List Yq3)) (p1b:(List Yq2)×(List Yq3)):Option Bool:=
 (aS p0a.1 p1b.1 (fun a0 a1=>dk a0 a1)).bind fun r1=>if r1 then ((aQ p0a.2 p1b.2 (fun a0 a1=>fc a0 a1)).bind fun r2=>some r2) else (some false)
def iL (p0n:Int) (p1a:Int) (p2b:Int):Option Bool:=
 if decide (p0n≥p1a) then (some (decide (p0n<=p2b))) else (some false)
def gV (p0n:Int):Option Bool:=
 (iL p0n 0 8).bind fun r1=>some r1
def mr (p0t:Int×Int×Int×Int):Option Bool:=
 if p0t.1==3 then ((gV p0t.2.1).bind fun r3=>if r3 then (if p0t.2.2.1==0 then (some (p0t.2.2.2==0)) else (some false)) else (some false)) else (if p0t.1==7 then (if p0t.2.1==0 then ((iL p0t.2.2.1 0 p0t.2.2.2).bind fun r1=>if r1 then ((iL p0t.2.2.2 1 3).bind fun r2=>some r2) else (some false)) else (some false)) else (Option.bind ((if p0t.1==1 then (some (p0t.1==1)) else (if p0t.1==2 then (some (p0t.1==2)) else (if p0t.1==4 then (some (p0t.1==4)) else (if p0t.1==5 then (some (p0t.1==5)) else (some (p0t.1==6))))):Option Bool)) (fun s1=>if s1 then (some ((p0t.1==p0t.1)&&((p0t.2.1==0)&&((p0t.2.2.1==0)&&((p0t.2.2.2==0)&&true))))) else (some false))))
def mu (p0e:List Yq1) (s1:(List (Tr Yq1))×Int):Option (Out (Tr Yq1) ((List (Tr Yq1))×Int)):=
 if decide (s1.2<(p0e.length:Int)) then ((bj p0e s1.2).bind fun x2=>Option.bind ((Option.bind ((if x2.1==4 then (some (x2.1==4)) else (some (x2.1==5)):Option Bool)) (fun s3=>if s3 then (some 2) else (Option.bind ((if x2.1==6 then (some (x2.1==6)) else (some (x2.1==7)):Option Bool)) (fun s4=>if s4 then (some 1) else (some 0)))):Option Int)) (fun s5=>(mr (x2.1,x2.2.1,x2.2.2.1,x2.2.2.2)).bind fun r6=>if r6 then (if decide ((IntKind.i64.wrap ((s1.1.length:Int) - s5))<0) then (some (.ret Tr.nil)) else ((chk (And (0<=(IntKind.i64.wrap ((s1.1.length:Int) - s5))) ((IntKind.i64.wrap ((s1.1.length:Int) - s5))<=(s1.1.length:Int)))).bind fun _=>(cm 8 ([] :List (Tr Yq1)) (s1.1.drop ((IntKind.i64.wrap ((s1.1.length:Int) - s5)).toNat))).bind fun z10=>(chk (And (0<=(IntKind.i64.wrap ((s1.1.length:Int) - s5))) ((IntKind.i64.wrap ((s1.1.length:Int) - s5))<=(s1.1.length:Int)))).bind fun _=>(cm 8 (s1.1.take ((IntKind.i64.wrap ((s1.1.length:Int) - s5)).toNat)) ([Tr.node (x2.1,x2.2.1,x2.2.2.1,x2.2.2.2) z10])).bind fun z12=>some (.nxt (z12,IntKind.i64.wrap (s1.2+1))))) else (some (.ret Tr.nil)))) else (some (.brk (s1.1,s1.2)))
def jQ (p0e:List Yq1):Option (Tr Yq1):=
 a6 (aF (mu p0e) br (([] :List (Tr Yq1)),0)) (fun r13=>some r13) (fun s14=>if (s14.1.length:Int) !=1 then (some Tr.nil) else ((bj s14.1 0).bind fun x15=>some x15))
def om (p0e:List Yq1):Option Bool:=
 (jQ p0e).bind fun r0=>some (cond.match_1 (fun (u4:Bool)=>Bool) (Tr.isNil r0) (fun (u5:Unit)=>false) (fun (u6:Unit)=>true))
def ir (p0e:(List Yq1)):Option Bool:=
 if decide ((p0e.length:Int)<=24) then ((om p0e).bind fun r1=>some r1) else (some false)
def bB (mrec:(Tr Yq1)->Option Int) (p0x:Tr Yq1) (z1:Yq1×List (Tr Yq1)) (s3:Int×Int):Option (Out Int (Int×Int)):=
 if decide (s3.2<(z1.2.length:Int)) then (Option.bind (((bj z1.2 s3.2).bind fun x4=>(Tr.get p0x).bind fun z5=>(Tr.get p0x).bind fun z6=>if z6.1.1==7 then ((mrec x4).bind fun r10=>(Tr.get p0x).bind fun z11=>(Tr.get p0x).bind fun z12=>some (IntKind.i64.wrap (s3.1+(IntKind.i64.wrap ((IntKind.i64.wrap (r10+3))*z12.1.2.2.2))))) else ((mrec x4).bind fun r13=>some (IntKind.i64.wrap (s3.1+r13))):Option Int)) (fun s14=>some (.nxt (s14,IntKind.i64.wrap (s3.2+1))))) else (some (.brk (s3.1,s3.2)))
def bJ:Nat->(Tr Yq1)->Option Int
 | 0,_=>none
 | n+1,p0x =>
  (Tr.get p0x).bind fun z0=>(Tr.get p0x).bind fun z1=>a6 (aF (bB (bJ n) p0x z1) br (1,0)) (fun r15=>some r15) (fun s16=>some (Min.min s16.1 100000))
def xQ (p0kind:Int):Option (Tr Yq1):=
 some (Tr.node (p0kind,0,0,0) ([] :List (Tr Yq1)))
def gW:Nat->(Tr Yq1)->Int->Int->Option (Tr Yq1)
 | 0,_,_,_=>none
 | n+1,p0x,p1low,p2high =>
  if p2high==0 then ((xQ 2).bind fun r0=>some r0) else (((gW n) p0x (Max.max 0 (IntKind.i64.wrap (p1low - 1))) (IntKind.i64.wrap (p2high - 1))).bind fun r1=>if decide (p1low>0) then (some (Tr.node (4,0,0,0) ([p0x,r1]))) else ((xQ 2).bind fun r2=>some (Tr.node (5,0,0,0) ([Tr.node (4,0,0,0) ([p0x,r1]),r2]))))
def a9 (mrec:(Tr Yq1)->Option (Tr Yq1)) (z23:Yq1×List (Tr Yq1)) (s26:Int×Int×Int×Int×Int×List (Tr Yq1)):Option (Out (Tr Yq1) (Int×Int×Int×Int×Int×List (Tr Yq1))):=
 if decide (s26.1<(z23.2.length:Int)) then ((bj z23.2 s26.1).bind fun x27=>(mrec x27).bind fun r30=>(cm 8 s26.2.2.2.2.2 ([r30])).bind fun z31=>some (.nxt (IntKind.i64.wrap (s26.1+1),s26.2.1,s26.2.2.1,s26.2.2.2.1,s26.2.2.2.2.1,z31))) else (some (.brk (s26.1,s26.2.1,s26.2.2.1,s26.2.2.2.1,s26.2.2.2.2.1,s26.2.2.2.2.2)))
def bp:Nat->(Tr Yq1)->Option (Tr Yq1)
 | 0,_=>none
 | n+1,p0x =>
  (Tr.get p0x).bind fun z0=>(Tr.get p0x).bind fun z1=>if z1.1.1==7 then ((Tr.get p0x).bind fun z11=>(Tr.get p0x).bind fun z12=>(bj z12.2 0).bind fun x13=>((bp n) x13).bind fun r14=>(Tr.get p0x).bind fun z15=>(Tr.get p0x).bind fun z16=>(Tr.get p0x).bind fun z17=>(Tr.get p0x).bind fun z18=>(gW dE r14 z16.1.2.2.1 z18.1.2.2.2).bind fun r19=>some r19) else ((Tr.get p0x).bind fun z20=>(Tr.get p0x).bind fun z21=>(Tr.get p0x).bind fun z22=>(Tr.get p0x).bind fun z23=>a6 (aF (a9 (bp n) z23) br (0,z21.1.1,z21.1.2.1,z21.1.2.2.1,z21.1.2.2.2,([] :List (Tr Yq1)))) (fun r32=>some r32) (fun s33=>some (Tr.node (s33.2.1,s33.2.2.1,s33.2.2.2.1,s33.2.2.2.2.1) s33.2.2.2.2.2)))
def aZ (mrec:(Tr Yq1)->(List Yq1)->Option (List Yq1)) (z1:Yq1×List (Tr Yq1)) (s4:Int×List Yq1):Option (Out (List Yq1) (Int×List Yq1)):=
 if decide (s4.1<(z1.2.length:Int)) then ((bj z1.2 s4.1).bind fun x5=>(mrec x5 s4.2).bind fun r6=>some (.nxt (IntKind.i64.wrap (s4.1+1),r6))) else (some (.brk (s4.1,s4.2)))
def be:Nat->(Tr Yq1)->(List Yq1)->Option (List Yq1)
 | 0,_,_=>none
 | n+1,p0x,p1out =>
  (Tr.get p0x).bind fun z0=>(Tr.get p0x).bind fun z1=>a6 (aF (aZ (be n) z1) br (0,p1out)) (fun r7=>some r7) (fun s8=>(Tr.get p0x).bind fun z12=>(Tr.get p0x).bind fun z13=>(cm 32 s8.2 ([(z13.1.1,z13.1.2.1,z13.1.2.2.1,z13.1.2.2.2)])).bind fun z14=>some z14)
def mw (p0x:Tr Yq1):Option (List Yq1):=
 (be dE p0x ([] :List Yq1)).bind fun r0=>some r0
def iX (p0e:List Yq1):Option ((List Yq1)×Bool):=
 (ir p0e).bind fun r0=>if r0 then ((jQ p0e).bind fun r1=>(bJ dE r1).bind fun r2=>if decide (r2>5000) then (some (([] :List Yq1),false)) else ((bp dE r1).bind fun r3=>(mw r3).bind fun r4=>if decide ((r4.length:Int)>400) then (some (([] :List Yq1),false)) else (some (r4,true)))) else (some (([] :List Yq1),false))
def cv (p0p:(List Int)×Int×Int×(List Int)×Bool) (p1last:Int) (p2first:Int) (s2:Int×List Int):Option (Out Yq5 (Int×List Int)):=
 if decide (s2.1<(p0p.2.2.2.1.length:Int)) then (Option.bind (((chk (0<=s2.1)).bind fun _=>if (pB (m7 p1last s2.1) 1)==1 then ((bj s2.2 s2.1).bind fun x4=>(bj s2.2 s2.1).bind fun x5=>some (s2.2.set s2.1.toNat (orI x4 p2first))) else (some s2.2):Option (List Int))) (fun s6=>some (.nxt (IntKind.i64.wrap (s2.1+1),s6)))) else (some (.brk (s2.1,s2.2)))
def c7 (p0p:(List Int)×Int×Int×(List Int)×Bool) (p1last:Int) (p2first:Int):Option Yq5:=
 a6 (aF (cv p0p p1last p2first) br (0,p0p.2.2.2.1)) (fun r7=>some r7) (fun s8=>some (p0p.1,p0p.2.1,p0p.2.2.1,s8.2,p0p.2.2.2.2))
def bq:Nat->Yq5->(Tr Yq1)->Option ((Int×Int×Bool)×(List Int)×Int×Int×(List Int)×Bool)
 | 0,_,_=>none
 | n+1,p0,p1 =>
  (Tr.get p1).bind fun z0=>(Tr.get p1).bind fun z1=>if z1.1.1==2 then (some ((0,0,true),p0.1,p0.2.1,p0.2.2.1,p0.2.2.2.1,p0.2.2.2.2)) else (if z1.1.1==3 then ((Tr.get p1).bind fun z5=>(Tr.get p1).bind fun z6=>(cm 8 p0.1 ([z6.1.2.1])).bind fun z7=>(cm 8 p0.2.2.2.1 ([0])).bind fun z8=>some ((An 1 (p0.1.length:Int),An 1 (p0.1.length:Int),false),z7,p0.2.1,p0.2.2.1,z8,p0.2.2.2.2)) else (if z1.1.1==5 then ((Tr.get p1).bind fun z17=>(Tr.get p1).bind fun z18=>(bj z18.2 0).bind fun x19=>((bq n) (p0.1,p0.2.1,p0.2.2.1,p0.2.2.2.1,p0.2.2.2.2) x19).bind fun r20=>(Tr.get p1).bind fun z21=>(Tr.get p1).bind fun z22=>(bj z22.2 1).bind fun x23=>((bq n) r20.2 x23).bind fun r24=>if r20.1.2.2 then (some ((orI r20.1.1 r24.1.1,orI r20.1.2.1 r24.1.2.1,true),r24.2.1,r24.2.2.1,r24.2.2.2.1,r24.2.2.2.2.1,r24.2.2.2.2.2)) else (some ((orI r20.1.1 r24.1.1,orI r20.1.2.1 r24.1.2.1,r24.1.2.2),r24.2.1,r24.2.2.1,r24.2.2.2.1,r24.2.2.2.2.1,r24.2.2.2.2.2))) else (if z1.1.1==4 then ((Tr.get p1).bind fun z33=>(Tr.get p1).bind fun z34=>(bj z34.2 0).bind fun x35=>((bq n) (p0.1,p0.2.1,p0.2.2.1,p0.2.2.2.1,p0.2.2.2.2) x35).bind fun r36=>(Tr.get p1).bind fun z37=>(Tr.get p1).bind fun z38=>(bj z38.2 1).bind fun x39=>((bq n) r36.2 x39).bind fun r40=>(c7 (r40.2.1,r40.2.2.1,r40.2.2.2.1,r40.2.2.2.2.1,r40.2.2.2.2.2) r36.1.2.1 r40.1.1).bind fun r41=>if r36.1.2.2 then (Option.bind ((if r36.1.2.2 then (some (orI r36.1.1 r40.1.1,r40.1.2.1,r40.1.2.2)) else (some (r36.1.1,r40.1.2.1,r40.1.2.2)):Option (Int×Int×Bool))) (fun s42=>Option.bind ((if r40.1.2.2 then (some (s42.1,orI s42.2.1 r36.1.2.1,s42.2.2)) else (some (s42.1,s42.2.1,s42.2.2)):Option (Int×Int×Bool))) (fun s43=>some ((s43.1,s43.2.1,s43.2.2),r41.1,r41.2.1,r41.2.2.1,r41.2.2.2.1,r41.2.2.2.2)))) else (Option.bind ((if r36.1.2.2 then (some (orI r36.1.1 r40.1.1,r40.1.2.1,false)) else (some (r36.1.1,r40.1.2.1,false)):Option (Int×Int×Bool))) (fun s44=>Option.bind ((if r40.1.2.2 then (some (s44.1,orI s44.2.1 r36.1.2.1,s44.2.2)) else (some (s44.1,s44.2.1,s44.2.2)):Option (Int×Int×Bool))) (fun s45=>some ((s45.1,s45.2.1,s45.2.2),r41.1,r41.2.1,r41.2.2.1,r41.2.2.2.1,r41.2.2.2.2))))) else (if z1.1.1==6 then ((Tr.get p1).bind fun z46=>(Tr.get p1).bind fun z47=>(bj z47.2 0).bind fun x48=>((bq n) (p0.1,p0.2.1,p0.2.2.1,p0.2.2.2.1,p0.2.2.2.2) x48).bind fun r49=>(c7 (r49.2.1,r49.2.2.1,r49.2.2.2.1,r49.2.2.2.2.1,r49.2.2.2.2.2) r49.1.2.1 r49.1.1).bind fun r50=>some ((r49.1.1,r49.1.2.1,true),r50.1,r50.2.1,r50.2.2.1,r50.2.2.2.1,r50.2.2.2.2)) else (some ((0,0,false),p0.1,p0.2.1,p0.2.2.1,p0.2.2.2.1,p0.2.2.2.2))))))
def cQ (r0:(List Yq1)×Bool) (s2:Int×Int):Option (Out (Yq5×Bool) (Int×Int)):=
 if decide (s2.2<(r0.1.length:Int)) then (Option.bind (((bj r0.1 s2.2).bind fun x3=>if x3.1==3 then (some (IntKind.i64.wrap (s2.1+1))) else (some s2.1):Option Int)) (fun s4=>some (.nxt (s4,IntKind.i64.wrap (s2.2+1))))) else (some (.brk (s2.1,s2.2)))
def fq (p0e:List Yq1):Option (Yq5×Bool):=
 (iX p0e).bind fun r0=>if r0.2 then (a6 (aF (cQ r0) br (0,0)) (fun r5=>some r5) (fun s6=>if decide (s6.1>20) then (some ((([] :List Int),0,0,([] :List Int),false),false)) else ((jQ r0.1).bind fun r7=>(bq dE (([] :List Int),0,0,([] :List Int),false) r7).bind fun r8=>some ((r8.2.1,r8.1.1,r8.1.2.1,r8.2.2.2.2.1,r8.1.2.2),true)))) else (some ((([] :List Int),0,0,([] :List Int),false),false))
def dq (p3:Int->Int->Option (Int×Bool)) (s29:(List Int)×(List (Int×Int))×Int×Int×(List Bool)×(List (List Int))) (s39:(List Int)×(List (Int×Int))×(List Int)×Int):Option (Out (Yq2×Bool) ((List Int)×(List (Int×Int))×(List Int)×Int)):=
 if decide (s39.2.2.2<9) then (Option.bind (((bj s39.1 s29.2.2.1).bind fun x20=>(p3 x20 s39.2.2.2).bind fun r20=>if r20.2 then ((chk (iOk r20.1=true)).bind fun _=>Option.bind ((if (lkM s39.2.1 r20.1).isSome then (some (s39.1,s39.2.1,(lkM s39.2.1 r20.1).getD 0)) else ((Et s39.2.1 iOk iOk r20.1 (s39.1.length:Int)).bind fun m37=>(cm 8 s39.1 ([r20.1])).bind fun z75=>some (z75,m37,(s39.1.length:Int))):Option ((List Int)×(List (Int×Int))×Int))) (fun s43=>(cm 8 s39.2.2.1 ([s43.2.2])).bind fun z76=>some (s43.1,s43.2.1,z76))) else ((cm 8 s39.2.2.1 ([-1])).bind fun z73=>some (s39.1,s39.2.1,z73)):Option ((List Int)×(List (Int×Int))×(List Int)))) (fun s42=>some (.nxt (s42.1,s42.2.1,s42.2.2,IntKind.i64.wrap (s39.2.2.2+1))))) else (some (.brk (s39.1,s39.2.1,s39.2.2.1,s39.2.2.2)))
def bU (p1:Int) (p2:Int->Option Bool) (p3:Int->Int->Option (Int×Bool)) (s29:(List Int)×(List (Int×Int))×Int×Int×(List Bool)×(List (List Int))):Option (Out (Yq2×Bool) ((List Int)×(List (Int×Int))×Int×Int×(List Bool)×(List (List Int)))):=
 if decide (s29.2.2.1<(s29.1.length:Int)) then (a6 (aF (dq p3 s29) br (s29.1,s29.2.1,([] :List Int),0)) (fun r=>some (.ret r)) (fun s40=>if decide ((s40.1.length:Int)>p1) then (some (.ret ((0,[],[]),false))) else ((bj s40.1 s29.2.2.1).bind fun x21=>(p2 x21).bind fun r21=>(cm 1 s29.2.2.2.2.1 ([r21])).bind fun z77=>(cm 24 s29.2.2.2.2.2 ([s40.2.2.1])).bind fun z78=>some (.nxt (s40.1,s40.2.1,IntKind.i64.wrap (s29.2.2.1+1),s29.2.2.2.1,z77,z78))))) else (some (.brk (s29.1,s29.2.1,s29.2.2.1,s29.2.2.2.1,s29.2.2.2.2.1,s29.2.2.2.2.2)))
def dK (p0:Int) (p1:Int) (p2:Int->Option Bool) (p3:Int->Int->Option (Int×Bool)):Option (Yq2×Bool):=
 (Et ([] :List (Int×Int)) iOk iOk p0 0).bind fun m1=>a6 (aF (bU p1 p2 p3) br ([p0],m1,0,0,[],[])) (fun r=>some r) (fun s30=>some ((s30.2.2.2.1,s30.2.2.2.2.1,s30.2.2.2.2.2),true))
def cR (p0p:(List Int)×Int×Int×(List Int)×Bool) (p1set:Int):Option Bool:=
 if (pB p1set 1)==1 then (if p0p.2.2.2.2 then (some true) else (some ((pB (m7 p1set 1) p0p.2.2.1) !=0))) else (some ((pB (m7 p1set 1) p0p.2.2.1) !=0))
def cA (p0p:(List Int)×Int×Int×(List Int)×Bool) (p1set:Int) (s6:Int×Int):Option (Out Int (Int×Int)):=
 if decide (s6.2<(p0p.2.2.2.1.length:Int)) then (Option.bind (((bj p0p.2.2.2.1 s6.2).bind fun x6=>(chk (0<=IntKind.i64.wrap (s6.2+1))).bind fun _=>if (pB (m7 p1set (IntKind.i64.wrap (s6.2+1))) 1)==1 then (some (orI s6.1 x6)) else (some s6.1):Option Int)) (fun s8=>some (.nxt (s8,IntKind.i64.wrap (s6.2+1))))) else (some (.brk (s6.1,s6.2)))
def cB (p0p:(List Int)×Int×Int×(List Int)×Bool) (p2letter:Int) (s7:Int×Int) (s13:Int×Int):Option (Out Int (Int×Int)):=
 if decide (s13.2<(p0p.1.length:Int)) then (Option.bind (((bj p0p.1 s13.2).bind fun x12=>if x12==p2letter then ((chk (0<=s13.2)).bind fun _=>if (pB (m7 s7.1 s13.2) 1)==1 then ((chk (0<=IntKind.i64.wrap (s13.2+1))).bind fun _=>some (orI s13.1 (An 1 (IntKind.i64.wrap (s13.2+1))))) else (some s13.1)) else (some s13.1):Option Int)) (fun s15=>some (.nxt (s15,IntKind.i64.wrap (s13.2+1))))) else (some (.brk (s13.1,s13.2)))
def eR (p0p:(List Int)×Int×Int×(List Int)×Bool) (p1set:Int) (p2letter:Int):Option Int:=
 Option.bind ((if (pB p1set 1)==1 then (some p0p.2.1) else (some 0):Option Int)) (fun s1=>a6 (aF (cA p0p p1set) br (s1,0)) (fun r=>some r) (fun s7=>a6 (aF (cB p0p p2letter s7) br (0,0)) (fun r=>some r) (fun s14=>some s14.1)))
def cF (p0set:Int) (p1letter:Int) (q0:(List Int)×Int×Int×(List Int)×Bool):Option (Int×Bool):=
 (eR (q0.1,q0.2.1,q0.2.2.1,q0.2.2.2.1,q0.2.2.2.2) p0set p1letter).bind fun r1=>some (r1,r1 !=0)
def fJ (p0p:(List Int)×Int×Int×(List Int)×Bool) (p1most:Int):Option (Yq2×Bool):=
 (dK 1 p1most (fun a0=>cR (p0p.1,p0p.2.1,p0p.2.2.1,p0p.2.2.2.1,p0p.2.2.2.2) a0) (fun a0 a1=>cF a0 a1 (p0p.1,p0p.2.1,p0p.2.2.1,p0p.2.2.2.1,p0p.2.2.2.2))).bind fun r1=>some ((r1.1.1,r1.1.2.1,r1.1.2.2),r1.2)
def cS (s5:Bool×Int×List Bool) (x6:List Int) (s8:Bool×Int×List Bool):Option (Out (List Bool) (Bool×Int×List Bool)):=
 if decide (s8.2.1<(x6.length:Int)) then (Option.bind (((bj x6 s8.2.1).bind fun x9=>if decide (x9≥0) then ((bj s8.2.2 x9).bind fun x10=>if x10 then ((bj s8.2.2 s5.2.1).bind fun x11=>if x11 then (some (s8.1,s8.2.2)) else ((bj s8.2.2 s5.2.1).bind fun x12=>some (true,s8.2.2.set s5.2.1.toNat true))) else (some (s8.1,s8.2.2))) else (some (s8.1,s8.2.2)):Option (Bool×List Bool))) (fun s13=>some (.nxt (s13.1,IntKind.i64.wrap (s8.2.1+1),s13.2)))) else (some (.brk (s8.1,s8.2.1,s8.2.2)))
def cT (p0a:Int×(List Bool)×List (List Int)) (s5:Bool×Int×List Bool):Option (Out (List Bool) (Bool×Int×List Bool)):=
 if decide (s5.2.1<(p0a.2.2.length:Int)) then ((bj p0a.2.2 s5.2.1).bind fun x6=>a6 (aF (cS s5 x6) br (s5.1,0,s5.2.2)) (fun r14=>some (.ret r14)) (fun s15=>some (.nxt (s15.1,IntKind.i64.wrap (s5.2.1+1),s15.2.2)))) else (some (.brk (s5.1,s5.2.1,s5.2.2)))
def fK (p0a:Int×(List Bool)×List (List Int)) (s3:Bool×List Bool):Option (Out (List Bool) (Bool×List Bool)):=
 if s3.1 then (a6 (aF (cT p0a) br (false,0,s3.2)) (fun r16=>some (.ret r16)) (fun s17=>some (.nxt (s17.1,s17.2.2)))) else (some (.brk (s3.1,s3.2)))
def dP (p0a:Int×(List Bool)×List (List Int)):Option (List Bool):=
 (cm 1 ([] :List Bool) p0a.2.1).bind fun z0=>a6 (aF (fK p0a) br (true,z0)) (fun r18=>some r18) (fun s19=>some s19.2)
def bW (p0s:List (List Int)) (p1f:(List Int)->Option Bool) (s3:Int):Option (Out Int Int):=
 if decide (s3<(p0s.length:Int)) then ((bj p0s s3).bind fun x3=>(p1f x3).bind fun r6=>if r6 then (some (.ret s3)) else (some (.nxt (IntKind.i64.wrap (s3+1))))) else (some (.brk s3))
def bP (p0s:List (List Int)) (p1f:(List Int)->Option Bool):Option Int:=
 a6 (aF (bW p0s p1f) br 0) (fun r=>some r) (fun s4=>some (-1))
def fl (p0x:List Int) (q0:List Int):Option Bool:=
 (cz p0x q0).bind fun r1=>some r1
def cw (p1:List Int) (x57:List Int) (s52:Int×(List Int)):Option (Out ((List Int)×Int) (Int×(List Int))):=
 if decide (s52.1<(x57.length:Int)) then ((bj x57 s52.1).bind fun x64=>Option.bind ((if decide (x64≥0) then ((bj p1 x64).bind fun x66=>some x66) else (some x64):Option Int)) (fun s54=>(cm 8 s52.2 ([s54])).bind fun z38=>some (.nxt (IntKind.i64.wrap (s52.1+1),z38)))) else (some (.brk (s52.1,s52.2)))
def de (p0:Int×(List Bool)×(List (List Int))) (p1:List Int) (s37:(List (List Int))×(List Int)×Int):Option (Out ((List Int)×Int) ((List (List Int))×(List Int)×Int)):=
 if decide (s37.2.2<(p1.length:Int)) then (Option.bind (((bj p1 s37.2.2).bind fun x56=>if decide (x56<0) then ((cm 8 s37.2.1 ([-1])).bind fun z42=>some (s37.1,z42)) else ((bj p0.2.2 s37.2.2).bind fun x57=>a6 (aF (cw p1 x57) br (0,[x56])) (fun _=>none) (fun s53=>(bP s37.1 (fun a0=>fl a0 s53.2)).bind fun r12=>Option.bind ((if decide (r12<0) then ((cm 24 s37.1 ([s53.2])).bind fun z40=>some (z40,(s37.1.length:Int))) else (some (s37.1,r12)):Option ((List (List Int))×Int))) (fun s55=>(cm 8 s37.2.1 ([s55.2])).bind fun z41=>some (s55.1,z41)))):Option ((List (List Int))×(List Int)))) (fun s47=>some (.nxt (s47.1,s47.2,IntKind.i64.wrap (s37.2.2+1))))) else (some (.brk (s37.1,s37.2.1,s37.2.2)))
def c8 (p0:Int×(List Bool)×(List (List Int))) (p1:List Int):Option ((List Int)×Int):=
 a6 (aF (de p0 p1) br (([] :List (List Int)),([] :List Int),0)) (fun r=>some r) (fun s38=>some (s38.2.1,(s38.1.length:Int)))
def cd (p0a:Int×(List Bool)×(List (List Int))) (r1:List Bool) (s5:(List Int)×Int):Option (Out (List Int) ((List Int)×Int)):=
 if decide (s5.2<(r1.length:Int)) then (Option.bind (((bj r1 s5.2).bind fun x11=>if x11 then ((bj p0a.2.1 s5.2).bind fun x12=>if x12 then ((cm 8 s5.1 ([1])).bind fun z18=>some z18) else ((cm 8 s5.1 ([0])).bind fun z17=>some z17)) else ((cm 8 s5.1 ([-1])).bind fun z16=>some z16):Option (List Int))) (fun s7=>some (.nxt (s7,IntKind.i64.wrap (s5.2+1))))) else (some (.brk (s5.1,s5.2)))
def eD (p0a:Int×(List Bool)×(List (List Int))) (s10:(List Int)×Int):Option (Out (List Int) ((List Int)×Int)):=
 (c8 (p0a.1,p0a.2.1,p0a.2.2) s10.1).bind fun r4=>if r4.2==s10.2 then (some (.ret r4.1)) else (some (.nxt (r4.1,r4.2)))
def cU (p0a:Int×(List Bool)×(List (List Int))):Option (List Int):=
 (dP (p0a.1,p0a.2.1,p0a.2.2)).bind fun r1=>a6 (aF (cd p0a r1) br (([] :List Int),0)) (fun r=>some r) (fun s6=>a6 (aF (eD p0a) br (s6.1,-1)) (fun r=>some r) (fun s11=>none))
def pe (p0x:Int) (p1y:Int):Option (Int×Int):=
 some (IntKind.u32.wrap (m7 (IntKind.u64.wrap ((IntKind.u64.wrap p0x)*(IntKind.u64.wrap p1y))) 32),IntKind.u32.wrap (IntKind.u64.wrap ((IntKind.u64.wrap p0x)*(IntKind.u64.wrap p1y))))
def ke (p0x:Int) (p1y:Int):Option (Int×Int):=
 some (IntKind.u64.wrap ((IntKind.u64.wrap ((IntKind.u64.wrap ((m7 p0x 32)*(m7 p1y 32)))+(m7 (IntKind.u64.wrap ((IntKind.u64.wrap ((m7 p0x 32)*(HO p1y 4294967295)))+(m7 (IntKind.u64.wrap ((HO p0x 4294967295)*(HO p1y 4294967295))) 32))) 32)))+(m7 (IntKind.u64.wrap ((HO (IntKind.u64.wrap ((IntKind.u64.wrap ((m7 p0x 32)*(HO p1y 4294967295)))+(m7 (IntKind.u64.wrap ((HO p0x 4294967295)*(HO p1y 4294967295))) 32))) 4294967295)+(IntKind.u64.wrap ((HO p0x 4294967295)*(m7 p1y 32))))) 32)),IntKind.u64.wrap (p0x*p1y))
def lM (p0x:Int) (p1y:Int):Option (Int×Int):=
 (ke p0x p1y).bind fun r1=>some (r1.1,r1.2)
def jd (s4:Int×List Int):Option (Out (List Int) (Int×List Int)):=
 if decide (s4.1<(s4.2.length:Int)) then ((chk (And (0<=s4.1) (s4.1<=(s4.2.length:Int)))).bind fun _=>(chk (And (0<=s4.1) (s4.1<=(s4.2.length:Int)))).bind fun _=>(chk (And (0<=s4.1) (s4.1<=(s4.2.length:Int)))).bind fun _=>(chk (And (0<=s4.1) (s4.1<=(s4.2.length:Int)))).bind fun _=>some (.nxt (IntKind.i64.wrap (s4.1+((Min.min ((s4.2.take s4.1.toNat).length) (s4.2.length - s4.1.toNat):Nat):Int)),vu s4.2 s4.1.toNat (s4.2.take s4.1.toNat)))) else (some (.brk (s4.1,s4.2)))
def fL (p0x:List Int) (p1count:Int):Option (List Int):=
 if decide (p1count<0) then (none) else ((lM (IntKind.u64.wrap (p0x.length:Int)) (IntKind.u64.wrap p1count)).bind fun r0=>if decide (r0.1>0) then (none) else (if decide (r0.2>9223372036854775807) then (none) else ((mkI 8 (IntKind.i64.wrap r0.2) 0).bind fun z1=>a6 (aF (jd) br (((Min.min p0x.length (z1.length - 0):Nat):Int),vu z1 0 p0x)) (fun r13=>some r13) (fun s14=>some s14.2))))
def pf:Option Yq2:=
 (fL ([-1]) 9).bind fun r1=>some (0,[false],[r1])
def cY (p0s:List Int) (p1v:Int) (s3:Int):Option (Out Int Int):=
 if decide (s3<(p0s.length:Int)) then ((bj p0s s3).bind fun x3=>if p1v==x3 then (some (.ret s3)) else (some (.nxt (IntKind.i64.wrap (s3+1))))) else (some (.brk s3))
def dF (p0s:List Int) (p1v:Int):Option Int:=
 a6 (aF (cY p0s p1v) br 0) (fun r=>some r) (fun s4=>some (-1))
def aX (p0class:Int) (q0:List Int):Option Int:=
 (dF q0 p0class).bind fun r1=>some r1
def cf (p0c:Int) (q0:Int×(List Bool)×(List (List Int))) (q1:Int->Option Int):Option Bool:=
 (q1 p0c).bind fun r1=>(bj q0.2.1 r1).bind fun x1=>some x1
def dQ (p0a:Int×(List Bool)×(List (List Int))) (p1s:Int) (p2letter:Int):Option Int:=
 if decide (p1s<0) then (some (-1)) else ((gV p2letter).bind fun r1=>if r1 then ((bj p0a.2.2 p1s).bind fun x1=>(bj x1 p2letter).bind fun x2=>some x2) else (some (-1)))
def cg (p0c:Int) (p1letter:Int) (q0:Int×(List Bool)×(List (List Int))) (q1:Int->Option Int) (q2:List Int):Option (Int×Bool):=
 (q1 p0c).bind fun r1=>(dQ (q0.1,q0.2.1,q0.2.2) r1 p1letter).bind fun r2=>if decide (r2<0) then (some (0,false)) else ((bj q2 r2).bind fun x1=>if decide (x1<0) then (some (0,false)) else ((bj q2 r2).bind fun x2=>some (x2,true)))
def bZ (p0a:Int×(List Bool)×(List (List Int))):Option Yq2:=
 (cU (p0a.1,p0a.2.1,p0a.2.2)).bind fun r1=>(bj r1 p0a.1).bind fun x1=>if decide (x1<0) then ((pf).bind fun r3=>some (r3.1,r3.2.1,r3.2.2)) else ((bj r1 p0a.1).bind fun x2=>(dK x2 (r1.length:Int) (fun a0=>cf a0 (p0a.1,p0a.2.1,p0a.2.2) (fun a0=>aX a0 r1)) (fun a0 a1=>cg a0 a1 (p0a.1,p0a.2.1,p0a.2.2) (fun a0=>aX a0 r1) r1)).bind fun r2=>some (r2.1.1,r2.1.2.1,r2.1.2.2))
def uu (p0a:Int×(List Bool)×(List (List Int))):Option (Yq2×Bool):=
 (bZ (p0a.1,p0a.2.1,p0a.2.2)).bind fun r1=>if decide ((r1.2.1.length:Int)>12) then (some ((0,[],[]),false)) else (some ((r1.1,r1.2.1,r1.2.2),true))
def fM (p0e:(List Yq1)):Option (Yq2×Bool):=
 (fq p0e).bind fun r1=>if r1.2 then ((fJ (r1.1.1,r1.1.2.1,r1.1.2.2.1,r1.1.2.2.2.1,r1.1.2.2.2.2) 200).bind fun r2=>if r2.2 then ((uu (r2.1.1,r2.1.2.1,r2.1.2.2)).bind fun r3=>some ((r3.1.1,r3.1.2.1,r3.1.2.2),r3.2)) else (some ((0,[],[]),false))) else (some ((0,[],[]),false))
def eJ (p0e:(List Yq1)):Option (List Yq1):=
 (cm 32 ([] :List Yq1) p0e).bind fun z1=>some z1
def bH (p0s:List Yq2) (p1f:Yq2->Option Bool) (s3:Int):Option (Out Int Int):=
 if decide (s3<(p0s.length:Int)) then ((bj p0s s3).bind fun x3=>(p1f (x3.1,x3.2.1,x3.2.2)).bind fun r9=>if r9 then (some (.ret s3)) else (some (.nxt (IntKind.i64.wrap (s3+1))))) else (some (.brk s3))
def aW (p0s:List Yq2) (p1f:Yq2->Option Bool):Option Int:=
 a6 (aF (bH p0s p1f) br 0) (fun r=>some r) (fun s4=>some (-1))
def je (p0b:Int×(List Bool)×(List (List Int))) (q0:Int×(List Bool)×(List (List Int))):Option Bool:=
 (dk (q0.1,q0.2.1,q0.2.2) (p0b.1,p0b.2.1,p0b.2.2)).bind fun r1=>some r1
def iu (p0:List Yq3) (s7:Int×(List Yq2)×(List Yq3)):Option (Out (Yq8×Bool) Yq7):=
 if decide (s7.1<(p0.length:Int)) then ((bj p0 s7.1).bind fun x5=>(fM x5.2.1).bind fun r16=>if r16.2 then ((iL x5.1 1 99).bind fun r17=>if r17 then (if decide (s7.1>0) then ((bj p0 (IntKind.i64.wrap (s7.1 - 1))).bind fun x6=>if decide (x6.1≥x5.1) then (some (.ret (([],[]),false))) else ((aW s7.2.1 (fun a0=>je a0 (r16.1.1,r16.1.2.1,r16.1.2.2))).bind fun r20=>Option.bind ((if decide (r20<0) then ((cm 56 s7.2.1 ([(r16.1.1,r16.1.2.1,r16.1.2.2)])).bind fun z17=>some ((s7.2.1.length:Int),z17,s7.2.2)) else (some (r20,s7.2.1,s7.2.2)):Option Yq7)) (fun s10=>(eJ x5.2.1).bind fun r21=>(cm 40 s10.2.2 ([(x5.1,r21,s10.1)])).bind fun z18=>some (.nxt (IntKind.i64.wrap (s7.1+1),s10.2.1,z18))))) else ((aW s7.2.1 (fun a0=>je a0 (r16.1.1,r16.1.2.1,r16.1.2.2))).bind fun r18=>Option.bind ((if decide (r18<0) then ((cm 56 s7.2.1 ([(r16.1.1,r16.1.2.1,r16.1.2.2)])).bind fun z14=>some ((s7.2.1.length:Int),z14,s7.2.2)) else (some (r18,s7.2.1,s7.2.2)):Option Yq7)) (fun s9=>(eJ x5.2.1).bind fun r19=>(cm 40 s9.2.2 ([(x5.1,r19,s9.1)])).bind fun z15=>some (.nxt (IntKind.i64.wrap (s7.1+1),s9.2.1,z15))))) else (some (.ret (([],[]),false)))) else (some (.ret (([],[]),false)))) else (some (.brk (s7.1,s7.2.1,s7.2.2)))
def jR (p0:List Yq3):Option (Yq8×Bool):=
 a6 (aF (iu p0) br (0,[],[])) (fun r=>some r) (fun s8=>some ((s8.2.1,s8.2.2),decide ((p0.length:Int)<=4)))
def ba (p0r:(List Yq2)×(List Yq3)):Option Bool:=
 (jR p0r.2).bind fun r1=>if r1.2 then ((cE (r1.1.1,r1.1.2) (p0r.1,p0r.2)).bind fun r2=>some r2) else (some false)
def a7 (p0s:List Yq3) (p1f:Yq3->Option Bool) (s3:Int):Option (Out Int Int):=
 if decide (s3<(p0s.length:Int)) then ((bj p0s s3).bind fun x3=>(p1f (x3.1,x3.2.1,x3.2.2)).bind fun r6=>if r6 then (some (.ret s3)) else (some (.nxt (IntKind.i64.wrap (s3+1))))) else (some (.brk s3))
def bK (p0s:List Yq3) (p1f:Yq3->Option Bool):Option Int:=
 a6 (aF (a7 p0s p1f) br 0) (fun r=>some r) (fun s4=>some (-1))
def iw (p0q:Int×((List Yq1))×Int) (q0:Int):Option Bool:=
 some (p0q.1==q0)
def cL (p0r:(List Yq2)×(List Yq3)) (p1id:Int):Option Int:=
 (bK p0r.2 (fun a0=>iw a0 p1id)).bind fun r1=>some r1
def nr (p0l:List Int):Option (List Int):=
 (cm 8 ([] :List Int) p0l).bind fun z1=>some z1
def c9 (p0a:Int×(List Bool)×(List (List Int))) (s3:Int×Int×(List Bool)×(List (List Int))):Option (Out Yq2 (Int×Int×(List Bool)×(List (List Int)))):=
 if decide (s3.1<(p0a.2.2.length:Int)) then ((bj p0a.2.2 s3.1).bind fun x3=>(nr x3).bind fun r6=>(cm 24 s3.2.2.2 ([r6])).bind fun z4=>some (.nxt (IntKind.i64.wrap (s3.1+1),s3.2.1,s3.2.2.1,z4))) else (some (.brk (s3.1,s3.2.1,s3.2.2.1,s3.2.2.2)))
def eE (p0a:Int×(List Bool)×(List (List Int))):Option Yq2:=
 (cm 1 ([] :List Bool) p0a.2.1).bind fun z1=>a6 (aF (c9 p0a) br (0,p0a.1,z1,[])) (fun r=>some r) (fun s4=>some (s4.2.1,s4.2.2.1,s4.2.2.2))
def dt (p0r:(List Yq2)×(List Yq3)) (s3:Int×(List Yq2)×(List Yq3)):Option (Out Yq8 Yq7):=
 if decide (s3.1<(p0r.1.length:Int)) then ((bj p0r.1 s3.1).bind fun x3=>(eE (x3.1,x3.2.1,x3.2.2)).bind fun r9=>(cm 56 s3.2.1 ([(r9.1,r9.2.1,r9.2.2)])).bind fun z3=>some (.nxt (IntKind.i64.wrap (s3.1+1),z3,s3.2.2))) else (some (.brk (s3.1,s3.2.1,s3.2.2)))
def du (p0r:(List Yq2)×(List Yq3)) (s7:Int×(List Yq2)×(List Yq3)):Option (Out Yq8 Yq7):=
 if decide (s7.1<(p0r.2.length:Int)) then ((bj p0r.2 s7.1).bind fun x6=>(eJ x6.2.1).bind fun r15=>(cm 40 s7.2.2 ([(x6.1,r15,x6.2.2)])).bind fun z6=>some (.nxt (IntKind.i64.wrap (s7.1+1),s7.2.1,z6))) else (some (.brk (s7.1,s7.2.1,s7.2.2)))
def cx (p0r:(List Yq2)×(List Yq3)):Option Yq8:=
 a6 (aF (dt p0r) br (0,[],[])) (fun r=>some r) (fun s4=>a6 (aF (du p0r) br (0,s4.2.1,s4.2.2)) (fun r=>some r) (fun s8=>some (s8.2.1,s8.2.2)))
def bu (p0:List Yq3) (p1:Int) (p2:List Yq3):Option ((List Yq3)×(List Yq3)):=R.Ns 40 p0 p1 p2
def aM (p0:List Yq3):Option (List Yq3):=cm 40 [] p0
def jx (p0r:(List Yq6)×List (Int×(List Yq1)×Int)) (p1id:Int) (s4:Int):Option (Out (Yq4×Bool) Int):=
 if decide (s4<(p0r.2.length:Int)) then ((bj p0r.2 s4).bind fun x5=>if decide (x5.1<p1id) then (some (.nxt (IntKind.i64.wrap (s4+1)))) else (some (.brk s4))) else (some (.brk s4))
def fY (p0r:(List Yq6)×List (Int×(List Yq1)×Int)) (p1id:Int) (p2e:List Yq1):Option (Yq4×Bool):=
 (ba (p0r.1,p0r.2)).bind fun r0=>if r0 then ((cL (p0r.1,p0r.2) p1id).bind fun r1=>if decide (r1≥0) then ((cx (p0r.1,p0r.2)).bind fun r2=>some ((r2.1,r2.2),false)) else (a6 (aF (jx p0r p1id) br 0) (fun r6=>some r6) (fun s7=>(aM p0r.2).bind fun r11=>(bu r11 s7 ([(p1id,p2e,0)])).bind fun r12=>(jR r12.1).bind fun r13=>if r13.2 then (some ((r13.1.1,r13.1.2),true)) else ((cx (p0r.1,p0r.2)).bind fun r14=>some ((r14.1,r14.2),false))))) else ((cx (p0r.1,p0r.2)).bind fun r15=>some ((r15.1,r15.2),false))
def bw (p0:List Yq3) (p1 p2:Int):Option (List Yq3):=R.Qa p0 p1 p2
def eS (p0r:(List Yq6)×List (Int×(List Yq1)×Int)) (p1id:Int):Option (Yq4×Bool):=
 (cL (p0r.1,p0r.2) p1id).bind fun r0=>if decide (r0<0) then ((cx (p0r.1,p0r.2)).bind fun r1=>some ((r1.1,r1.2),false)) else ((ba (p0r.1,p0r.2)).bind fun r2=>if r2 then ((aM p0r.2).bind fun r4=>(bw r4 r0 (IntKind.i64.wrap (r0+1))).bind fun r5=>(jR r5).bind fun r6=>some ((r6.1.1,r6.1.2),r6.2)) else ((cx (p0r.1,p0r.2)).bind fun r3=>some ((r3.1,r3.2),false)))
def fu (p0r:(List Yq2)×(List Yq3)) (p1id:Int):Option (Yq2×Bool):=
 (cL (p0r.1,p0r.2) p1id).bind fun r1=>if decide (r1<0) then (some ((0,[],[]),false)) else ((ba (p0r.1,p0r.2)).bind fun r2=>if r2 then ((bj p0r.2 r1).bind fun x1=>(bj p0r.1 x1.2.2).bind fun x2=>(eE (x2.1,x2.2.1,x2.2.2)).bind fun r5=>some ((r5.1,r5.2.1,r5.2.2),true)) else (some ((0,[],[]),false)))
def fj (p0a:Int×(List Bool)×(List (List Int))) (s11:Int) (s15:Int):Option (Out Bool Int):=
 if decide (s15<9) then ((bj p0a.2.2 s11).bind fun x20=>(bj x20 s15).bind fun x21=>(jG x21 (-1) (IntKind.i64.wrap ((p0a.2.1.length:Int) - 1))).bind fun r22=>if r22 then (some (.nxt (IntKind.i64.wrap (s15+1)))) else (some (.ret false))) else (some (.brk s15))
def iY (p0a:Int×(List Bool)×(List (List Int))) (s11:Int):Option (Out Bool Int):=
 if decide (s11<(p0a.2.1.length:Int)) then ((bj p0a.2.2 s11).bind fun x15=>if (x15.length:Int) !=9 then (some (.ret false)) else (a6 (aF (fj p0a s11) br 0) (fun r=>some (.ret r)) (fun s16=>some (.nxt (IntKind.i64.wrap (s11+1)))))) else (some (.brk s11))
def kg (p0a:Int×(List Bool)×(List (List Int))):Option Bool:=
 (jG p0a.1 0 (IntKind.i64.wrap ((p0a.2.1.length:Int) - 1))).bind fun r1=>if r1 then (if (p0a.2.2.length:Int) !=(p0a.2.1.length:Int) then (some false) else (a6 (aF (iY p0a) br 0) (fun r=>some r) (fun s12=>some true))) else (some false)
def bQ (p0a:Int×(List Bool)×(List (List Int))):Option Bool:=
 if decide ((p0a.2.1.length:Int)<=12) then ((kg (p0a.1,p0a.2.1,p0a.2.2)).bind fun r1=>some r1) else (some false)
def ix (p0a:Int×(List Bool)×(List (List Int))) (p1s:Int):Option Bool:=
 if decide (p1s≥0) then ((bj p0a.2.1 p1s).bind fun x1=>some x1) else (some false)
def lz (p0l:List Yq9) (s3:Int×(List Int)):Option (Out (List Int) (Int×(List Int))):=
 if decide (s3.1>0) then ((bj p0l s3.1).bind fun x5=>(cm 8 ([x5.2.2.2.2]) s3.2).bind fun z3=>(bj p0l s3.1).bind fun x6=>some (.nxt (x6.2.2.2.1,z3))) else (some (.brk (s3.1,s3.2)))
def my (p0l:List Yq9) (p1k:Int):Option (List Int):=
 a6 (aF (lz p0l) br (p1k,([] :List Int))) (fun r=>some r) (fun s4=>some s4.2)
def kh (p0a:Int×(List Bool)×(List (List Int))) (p1s:Int) (p2k:Int):Option Int:=
 if decide (p1s<0) then (some (-1)) else ((bj p0a.2.2 p1s).bind fun x1=>(bj x1 p2k).bind fun x2=>some x2)
def jI (p0l:List Yq9) (p1x:Int×Int×Bool×Int×Int) (s3:Int):Option (Out Bool Int):=
 if decide (s3<(p0l.length:Int)) then ((bj p0l s3).bind fun x7=>if x7.1==p1x.1 then ((bj p0l s3).bind fun x8=>if x8.2.1==p1x.2.1 then ((bj p0l s3).bind fun x9=>if x9.2.2.1==p1x.2.2.1 then (some (.ret true)) else (some (.nxt (IntKind.i64.wrap (s3+1))))) else (some (.nxt (IntKind.i64.wrap (s3+1))))) else (some (.nxt (IntKind.i64.wrap (s3+1))))) else (some (.brk s3))
def oo (p0l:List Yq9) (p1x:Int×Int×Bool×Int×Int):Option Bool:=
 a6 (aF (jI p0l p1x) br 0) (fun r=>some r) (fun s4=>some false)
def fe (p0:Int×(List Bool)×(List (List Int))) (p2:Int×(List Bool)×(List (List Int))) (s19:(List Yq9)×Int) (s26:(List Yq9)×Int):Option (Out ((List Int)×Bool) ((List Yq9)×Int)):=
 if decide (s26.2<9) then (Option.bind (((bj s26.1 s19.2).bind fun x41=>(kh (p0.1,p0.2.1,p0.2.2) x41.1 s26.2).bind fun r70=>(bj s26.1 s19.2).bind fun x42=>(kh (p2.1,p2.2.1,p2.2.2) x42.2.1 s26.2).bind fun r71=>(oo s26.1 (r70,r71,false,s19.2,s26.2)).bind fun r72=>if r72 then (some s26.1) else ((cm 40 s26.1 ([(r70,r71,false,s19.2,s26.2)])).bind fun z18=>some z18):Option (List Yq9))) (fun s28=>some (.nxt (s28,IntKind.i64.wrap (s26.2+1))))) else (some (.brk (s26.1,s26.2)))
def jq (p0:Int×(List Bool)×(List (List Int))) (p2:Int×(List Bool)×(List (List Int))) (p4:Bool) (s19:(List Yq9)×Int):Option (Out ((List Int)×Bool) ((List Yq9)×Int)):=
 if decide (s19.2<(s19.1.length:Int)) then ((bj s19.1 s19.2).bind fun x29=>(ix (p0.1,p0.2.1,p0.2.2) x29.1).bind fun r49=>(bj s19.1 s19.2).bind fun x30=>(ix (p2.1,p2.2.1,p2.2.2) x30.2.1).bind fun r50=>Option.bind (if r50 then (if r49 then (if r49 then (if r50 then some false else some (!p4)) else some false) else some true) else (if r49 then (if r50 then some false else some (!p4)) else some false):Option Bool) (fun b57=>if b57 then ((my s19.1 s19.2).bind fun r54=>some (.ret (r54,true))) else (a6 (aF (fe p0 p2 s19) br (s19.1,0)) (fun r=>some (.ret r)) (fun s27=>some (.nxt (s27.1,IntKind.i64.wrap (s19.2+1))))))) else (some (.brk (s19.1,s19.2)))
def iy (p0:Int×(List Bool)×(List (List Int))) (p1:Int) (p2:Int×(List Bool)×(List (List Int))) (p3:Int) (p4:Bool):Option ((List Int)×Bool):=
 a6 (aF (jq p0 p2 p4) br ([(p1,p3,false,0,0)],0)) (fun r=>some r) (fun s20=>some (([] :List Int),false))
def kj (p0a:Int×(List Bool)×(List (List Int))) (p1b:Int×(List Bool)×(List (List Int))):Option ((List Int)×Bool):=
 (bQ (p0a.1,p0a.2.1,p0a.2.2)).bind fun r1=>if r1 then ((bQ (p1b.1,p1b.2.1,p1b.2.2)).bind fun r2=>if r2 then ((iy (p0a.1,p0a.2.1,p0a.2.2) p0a.1 (p1b.1,p1b.2.1,p1b.2.2) p1b.1 true).bind fun r3=>some (r3.1,r3.2)) else (some (([] :List Int),false))) else (some (([] :List Int),false))
def da (p0a:Int×(List Bool)×(List (List Int))) (p1b:Int×(List Bool)×(List (List Int))):Option Bool:=
 (kj (p0a.1,p0a.2.1,p0a.2.2) (p1b.1,p1b.2.1,p1b.2.2)).bind fun r1=>(bQ (p0a.1,p0a.2.1,p0a.2.2)).bind fun r2=>if r2 then ((bQ (p1b.1,p1b.2.1,p1b.2.2)).bind fun r3=>if r3 then (some (!r1.2)) else (some false)) else (some false)
def eF (p0a:Int×(List Bool)×(List (List Int))) (p1b:Int×(List Bool)×(List (List Int))):Option Bool:=
 (da (p0a.1,p0a.2.1,p0a.2.2) (p1b.1,p1b.2.1,p1b.2.2)).bind fun r1=>if r1 then ((da (p1b.1,p1b.2.1,p1b.2.2) (p0a.1,p0a.2.1,p0a.2.2)).bind fun r2=>some r2) else (some false)
def eG (r2:Yq4×Bool) (s15:Int) (s18:Int):Option (Out Bool Int):=
 if decide (s18<s15) then ((bj r2.1.1 s15).bind fun x22=>(bj r2.1.1 s18).bind fun x23=>(eF (x22.1,x22.2.1,x22.2.2) (x23.1,x23.2.1,x23.2.2)).bind fun r24=>if r24 then (some (.ret false)) else (some (.nxt (IntKind.i64.wrap (s18+1))))) else (some (.brk s18))
def cG (r2:Yq4×Bool) (s15:Int):Option (Out Bool Int):=
 if decide (s15<(r2.1.1.length:Int)) then ((bL (r2.1.1,r2.1.2)).bind fun r16=>if r16 then (a6 (aF (eG r2 s15) br 0) (fun r25=>some (.ret r25)) (fun s26=>some (.nxt (IntKind.i64.wrap (s15+1))))) else (some (.brk s15))) else (some (.brk s15))
def iZ (p0:List Int):Option Bool:=
 (Bh p0).bind fun r0=>if r0 then (some true) else ((dO p0).bind fun r1=>(fY (r1.1.1,r1.1.2) r1.2.1 r1.2.2).bind fun r2=>(dj (r1.1.1,r1.1.2) r1.2.1 r1.2.2).bind fun r3=>if r2.2 !=r3.2 then (some false) else ((cE (r2.1.1,r2.1.2) (r3.1.1,r3.1.2)).bind fun r4=>if r4 then ((ba (r1.1.1,r1.1.2)).bind fun r5=>(bL (r1.1.1,r1.1.2)).bind fun r6=>if r5 !=r6 then (some false) else (Eo (S:=Unit) (if r2.2 then ((eS (r2.1.1,r2.1.2) r1.2.1).bind fun r7=>(fu (r2.1.1,r2.1.2) r1.2.1).bind fun r8=>(m_s_CompileExpr r1.2.2).bind fun r9=>if r7.2 then ((cE (r7.1.1,r7.1.2) (r1.1.1,r1.1.2)).bind fun r10=>if r10 then (if r8.2 then ((di (r8.1.1,r8.1.2.1,r8.1.2.2) (r9.1.1,r9.1.2.1,r9.1.2.2)).bind fun r11=>if r11 then ((cL (r2.1.1,r2.1.2) r1.2.1).bind fun r12=>if decide (r12<0) then (some (.inl false)) else (some (.inr ()))) else (some (.inl false))) else (some (.inl false))) else (some (.inl false))) else (some (.inl false))) else (some (.inr ()))) (fun s13=>a6 (aF (cG r2) br 0) (fun r27=>some r27) (fun s28=>some true)))) else (some false)))
end D
namespace R
open Go.RowKit
open D
abbrev y3:Ty:=.int .i64
abbrev rW:Ty:=.prod y3 (.prod y3 (.prod y3 y3))
abbrev t116:Ty:=.tree 187 116 rW
abbrev y47:Ty:=.sl 3 y3
abbrev y4:Ty:=.bool
abbrev CF:Ty:=.prod y47 (.prod y3 (.prod y3 (.prod y47 y4)))
abbrev QH:Ty:=.fro t116
abbrev y9:Ty:=.str
abbrev QI:Ty:=.sl 9 y9
abbrev y5:Ty:=.int .u8
abbrev y22:Ty:=.sl 5 y5
abbrev Rr:Ty:=.prod y22 (.prod y3 y3)
abbrev Rd:Ty:=.prod y4 (.prod y3 y3)
abbrev Qc:Ty:=.sl 116 QH
abbrev Rs:Ty:=.prod rW Qc
abbrev Re:Ty:=.prod y3 (.prod y3 y4)
abbrev Pa:Ty:=.int .u64
abbrev y38:Ty:=.sl 4 y4
abbrev y39:Ty:=.sl 47 y47
abbrev y41:Ty:=.prod y3 (.prod y38 y39)
abbrev y24:Ty:=.sl 41 y41
abbrev y28:Ty:=.sl 156 rW
abbrev y30:Ty:=.wr y28
abbrev y95:Ty:=.prod y3 (.prod y30 y3)
abbrev y25:Ty:=.sl 95 y95
abbrev y27:Ty:=.prod y24 y25
abbrev N6:Ty:=.prod y3 (.prod y3 (.prod y4 (.prod y3 y3)))
abbrev QJ:Ty:=.sl 295 N6
abbrev Pb:Ty:=.int .u32
abbrev Pc:Ty:=.int .u64
theorem ti3:TI Tryz.prog 3 false 1:=⟨⟨_,Tryz.underlying3,rfl⟩,by kernel_rfl⟩
theorem Pd (a0:Int) (a1:Int) (a2:Int) (a3:Int) (b0:Int) (b1:Int) (b2:Int) (b3:Int) (w:World):EqT Tryz.prog 156 (.agg #[.int .i64 a0,.int .i64 a1,.int .i64 a2,.int .i64 a3]) (.agg #[.int .i64 b0,.int .i64 b1,.int .i64 b2,.int .i64 b3]) ((a0==b0)&&((a1==b1)&&((a2==b2)&&((a3==b3)&&true)))) w:=Oi w Tryz.underlying156 (by kernel_rfl) (by kernel_rfl) (sF rfl (rM ti3 rfl) (rM ti3 rfl) (run_equalIn_int w 9998 3 _ _ _ _ Tryz.underlying3) (sF rfl (rM ti3 rfl) (rM ti3 rfl) (run_equalIn_int w 9998 3 _ _ _ _ Tryz.underlying3) (sF rfl (rM ti3 rfl) (rM ti3 rfl) (run_equalIn_int w 9998 3 _ _ _ _ Tryz.underlying3) (sF rfl (rM ti3 rfl) (rM ti3 rfl) (run_equalIn_int w 9998 3 _ _ _ _ Tryz.underlying3) (LP w)))))
theorem mz3 (w:World):(zeroValue 3).run Tryz.prog w= .ok (.int .i64 0) w:=by kernel_rfl
theorem kk3:KeyOk Tryz.prog 3 (fun n:Int=>Value.int .i64 n) LW iOk:=Ol Tryz.underlying3
theorem ek3:EltOk Tryz.prog 3 (fun n:Int=>Value.int .i64 n) LW iOk 0:=Om Tryz.underlying3 mz3
def tt:TT:=[(3,⟨false,1,none,y3,[],some 8,none,false,none,none,some (some .i64),false,none⟩),
 (4,⟨false,1,none,y4,[],some 1,none,true,none,none,none,false,none⟩),
 (5,⟨false,1,none,y5,[],some 1,none,false,none,none,some (some .u8),false,none⟩),
 (9,⟨false,1,none,y9,[],some 16,none,false,none,none,some none,false,none⟩),
 (22,⟨false,1,some 5,y22,[],some 24,none,false,none,none,none,false,none⟩),
 (24,⟨false,1,some 41,y24,[],some 24,none,false,none,none,none,false,none⟩),
 (25,⟨false,1,some 95,y25,[],some 24,none,false,none,none,none,false,none⟩),
 (27,⟨true,2,none,y27,[(0,0),(1,0)],some 48,some [(0,1),(1,1)],false,none,none,none,false,none⟩),
 (28,⟨false,1,some 156,y28,[],some 24,none,false,none,none,none,false,none⟩),
 (30,⟨true,1,none,y30,[(0,0)],some 24,some [(0,1)],false,none,none,none,false,none⟩),
 (38,⟨false,1,some 4,y38,[],some 24,none,false,none,none,none,false,none⟩),
 (39,⟨false,1,some 47,y39,[],some 24,none,false,none,none,none,false,none⟩),
 (41,⟨true,3,none,y41,[(0,0),(1,0),(2,0)],some 56,some [(0,1),(1,1),(2,1)],false,none,none,none,false,none⟩),
 (45,⟨false,1,none,.bool,[],none,none,false,none,none,none,true,none⟩),
 (47,⟨false,1,some 3,y47,[],some 24,none,false,none,none,none,false,none⟩),
 (54,⟨false,1,none,.bool,[],none,none,false,none,none,none,true,none⟩),
 (95,⟨true,3,none,y95,[(0,0),(1,0),(2,0)],some 40,some [(0,1),(1,1),(2,1)],false,none,none,none,false,none⟩),
 (101,⟨false,1,none,.bool,[],none,none,false,none,none,none,true,none⟩),
 (105,⟨true,5,none,CF,[(0,0),(1,0),(2,0),(3,0),(4,0)],some 72,some [(0,1),(1,1),(2,1),(3,1),(4,1)],false,none,none,none,false,none⟩),
 (111,⟨false,1,none,.bool,[],none,none,false,none,none,none,true,none⟩),
 (116,⟨false,1,none,QH,[],some 8,none,false,none,none,none,false,some 187⟩),
 (134,⟨false,1,some 9,QI,[],some 24,none,false,none,none,none,false,none⟩),
 (153,⟨true,3,none,Rr,[(0,0),(1,0),(2,0)],some 40,some [(0,1),(1,1),(2,1)],false,none,none,none,false,none⟩),
 (156,⟨true,4,none,rW,[(0,0),(1,0),(2,0),(3,0)],some 32,some [(0,1),(1,1),(2,1),(3,1)],false,some [some .i64,some .i64,some .i64,some .i64],none,none,false,none⟩),
 (159,⟨false,1,none,.bool,[],none,none,false,none,none,none,true,none⟩),
 (169,⟨true,3,none,Rd,[(0,0),(1,0),(2,0)],some 24,some [(0,1),(1,1),(2,1)],false,none,none,none,false,none⟩),
 (183,⟨false,1,some 116,Qc,[],some 24,none,false,none,none,none,false,none⟩),
 (187,⟨true,5,none,Rs,[(0,3),(4,0)],some 56,some [(0,4),(4,1)],false,none,none,none,false,none⟩),
 (194,⟨true,3,none,Re,[(0,0),(1,0),(2,0)],some 24,some [(0,1),(1,1),(2,1)],false,none,none,none,false,none⟩),
 (197,⟨false,1,none,.bool,[],none,none,false,none,none,none,true,none⟩),
 (199,⟨false,1,none,.bool,[],none,none,false,none,none,none,true,none⟩),
 (226,⟨false,1,none,Pa,[],some 8,none,false,none,none,some (some .u64),false,none⟩),
 (247,⟨false,1,none,.bool,[],none,none,false,none,some ⟨3,3,.int,.int⟩,none,false,none⟩),
 (250,⟨false,1,none,.bool,[],none,none,false,none,none,none,true,none⟩),
 (295,⟨true,5,none,N6,[(0,0),(1,0),(2,0),(3,0),(4,0)],some 40,some [(0,1),(1,1),(2,1),(3,1),(4,1)],false,none,none,none,false,none⟩),
 (296,⟨false,1,some 295,QJ,[],some 24,none,false,none,none,none,false,none⟩),
 (333,⟨false,1,none,.bool,[],none,none,false,none,none,none,true,none⟩),
 (345,⟨false,1,none,Pb,[],some 4,none,false,none,none,some (some .u32),false,none⟩),
 (347,⟨false,1,none,Pc,[],some 8,none,false,none,none,some (some .u64),false,none⟩)]
theorem zL:TTok Tryz.prog tt:=⟨pd (n:=1) (z:=.int .i64 0) ⟨⟨_,Tryz.underlying3,rfl⟩,by kernel_rfl⟩ rfl (by unfold TZ;kernel_rfl) rfl (bO rfl) (fun h=>by cases h) (fun k h=>by obtain rfl:=ae h;exact Tryz.underlying3),
 pd (n:=1) (z:=.bool false) ⟨⟨_,Tryz.underlying4,rfl⟩,by kernel_rfl⟩ rfl (by unfold TZ;kernel_rfl) rfl (bO rfl) (fun h=>Tryz.underlying4) (fun k h=>by cases h),
 pd (n:=1) (z:=.int .u8 0) ⟨⟨_,Tryz.underlying5,rfl⟩,by kernel_rfl⟩ rfl (by unfold TZ;kernel_rfl) rfl (bO rfl) (fun h=>by cases h) (fun k h=>by obtain rfl:=ae h;exact Tryz.underlying5),
 pd (n:=1) (z:=.string ⟨#[]⟩) ⟨⟨_,Tryz.underlying9,rfl⟩,by kernel_rfl⟩ rfl (by unfold TZ;kernel_rfl) rfl (bO rfl) (fun h=>by cases h) (fun k h=>by obtain rfl:=ae h;exact Tryz.underlying9),
 vB ⟨⟨_,Tryz.underlying22,rfl⟩,by kernel_rfl⟩ Tryz.underlying22 (by unfold TZ;kernel_rfl),
 vB ⟨⟨_,Tryz.underlying24,rfl⟩,by kernel_rfl⟩ Tryz.underlying24 (by unfold TZ;kernel_rfl),
 vB ⟨⟨_,Tryz.underlying25,rfl⟩,by kernel_rfl⟩ Tryz.underlying25 (by unfold TZ;kernel_rfl),
 uq (z:=.agg #[.slice none 0 0,.slice none 0 0]) ⟨⟨_,Tryz.underlying27,rfl⟩,by kernel_rfl⟩ rfl ⟨⟨_,_,Tryz.underlying27,rfl,rfl,by kernel_rfl⟩,⟨_,_,Tryz.underlying27,rfl,rfl,by kernel_rfl⟩,trivial⟩ (by unfold TZ;kernel_rfl) rfl (bO rfl) ⟨_,Tryz.underlying27,by kernel_rfl⟩ (fun ks h=>by cases h),
 vB ⟨⟨_,Tryz.underlying28,rfl⟩,by kernel_rfl⟩ Tryz.underlying28 (by unfold TZ;kernel_rfl),
 uq (z:=.agg #[.slice none 0 0]) ⟨⟨_,Tryz.underlying30,rfl⟩,by kernel_rfl⟩ rfl ⟨⟨_,_,Tryz.underlying30,rfl,rfl,by kernel_rfl⟩,trivial⟩ (by unfold TZ;kernel_rfl) rfl (bO rfl) ⟨_,Tryz.underlying30,by kernel_rfl⟩ (fun ks h=>by cases h),
 vB ⟨⟨_,Tryz.underlying38,rfl⟩,by kernel_rfl⟩ Tryz.underlying38 (by unfold TZ;kernel_rfl),
 vB ⟨⟨_,Tryz.underlying39,rfl⟩,by kernel_rfl⟩ Tryz.underlying39 (by unfold TZ;kernel_rfl),
 uq (z:=.agg #[.int .i64 0,.slice none 0 0,.slice none 0 0]) ⟨⟨_,Tryz.underlying41,rfl⟩,by kernel_rfl⟩ rfl ⟨⟨_,_,Tryz.underlying41,rfl,rfl,by kernel_rfl⟩,⟨_,_,Tryz.underlying41,rfl,rfl,by kernel_rfl⟩,⟨_,_,Tryz.underlying41,rfl,rfl,by kernel_rfl⟩,trivial⟩ (by unfold TZ;kernel_rfl) rfl (bO rfl) ⟨_,Tryz.underlying41,by kernel_rfl⟩ (fun ks h=>by cases h),
 xO (ty:=.bool) (b:=8) ⟨⟨_,Tryz.underlying45,rfl⟩,by kernel_rfl⟩ rfl (by unfold TZ;kernel_rfl),
 vB ⟨⟨_,Tryz.underlying47,rfl⟩,by kernel_rfl⟩ Tryz.underlying47 (by unfold TZ;kernel_rfl),
 xO (ty:=.bool) (b:=8) ⟨⟨_,Tryz.underlying54,rfl⟩,by kernel_rfl⟩ rfl (by unfold TZ;kernel_rfl),
 uq (z:=.agg #[.int .i64 0,.slice none 0 0,.int .i64 0]) ⟨⟨_,Tryz.underlying95,rfl⟩,by kernel_rfl⟩ rfl ⟨⟨_,_,Tryz.underlying95,rfl,rfl,by kernel_rfl⟩,⟨_,_,Tryz.underlying95,rfl,rfl,by kernel_rfl⟩,⟨_,_,Tryz.underlying95,rfl,rfl,by kernel_rfl⟩,trivial⟩ (by unfold TZ;kernel_rfl) rfl (bO rfl) ⟨_,Tryz.underlying95,by kernel_rfl⟩ (fun ks h=>by cases h),
 xO (ty:=.bool) (b:=8) ⟨⟨_,Tryz.underlying101,rfl⟩,by kernel_rfl⟩ rfl (by unfold TZ;kernel_rfl),
 uq (z:=.agg #[.slice none 0 0,.int .i64 0,.int .i64 0,.slice none 0 0,.bool false]) ⟨⟨_,Tryz.underlying105,rfl⟩,by kernel_rfl⟩ rfl ⟨⟨_,_,Tryz.underlying105,rfl,rfl,by kernel_rfl⟩,⟨_,_,Tryz.underlying105,rfl,rfl,by kernel_rfl⟩,⟨_,_,Tryz.underlying105,rfl,rfl,by kernel_rfl⟩,⟨_,_,Tryz.underlying105,rfl,rfl,by kernel_rfl⟩,⟨_,_,Tryz.underlying105,rfl,rfl,by kernel_rfl⟩,trivial⟩ (by unfold TZ;kernel_rfl) rfl (bO rfl) ⟨_,Tryz.underlying105,by kernel_rfl⟩ (fun ks h=>by cases h),
 xO (ty:=.bool) (b:=8) ⟨⟨_,Tryz.underlying111,rfl⟩,by kernel_rfl⟩ rfl (by unfold TZ;kernel_rfl),
 QG (e:=187) (E:=116) (u:=rW) ⟨⟨_,Tryz.underlying116,rfl⟩,by kernel_rfl⟩ Tryz.underlying116 (by unfold TZ;kernel_rfl),
 vB ⟨⟨_,Tryz.underlying134,rfl⟩,by kernel_rfl⟩ Tryz.underlying134 (by unfold TZ;kernel_rfl),
 uq (z:=.agg #[.slice none 0 0,.int .i64 0,.int .i64 0]) ⟨⟨_,Tryz.underlying153,rfl⟩,by kernel_rfl⟩ rfl ⟨⟨_,_,Tryz.underlying153,rfl,rfl,by kernel_rfl⟩,⟨_,_,Tryz.underlying153,rfl,rfl,by kernel_rfl⟩,⟨_,_,Tryz.underlying153,rfl,rfl,by kernel_rfl⟩,trivial⟩ (by unfold TZ;kernel_rfl) rfl (bO rfl) ⟨_,Tryz.underlying153,by kernel_rfl⟩ (fun ks h=>by cases h),
 uq (z:=.agg #[.int .i64 0,.int .i64 0,.int .i64 0,.int .i64 0]) ⟨⟨_,Tryz.underlying156,rfl⟩,by kernel_rfl⟩ rfl ⟨⟨_,_,Tryz.underlying156,rfl,rfl,by kernel_rfl⟩,⟨_,_,Tryz.underlying156,rfl,rfl,by kernel_rfl⟩,⟨_,_,Tryz.underlying156,rfl,rfl,by kernel_rfl⟩,⟨_,_,Tryz.underlying156,rfl,rfl,by kernel_rfl⟩,trivial⟩ (by unfold TZ;kernel_rfl) rfl (bO rfl) ⟨_,Tryz.underlying156,by kernel_rfl⟩ (fun ks h=>by obtain rfl:=ae h;exact fun w a0 b0 a1 b1 a2 b2 a3 b3=>Pd a0 a1 a2 a3 b0 b1 b2 b3 w),
 xO (ty:=.bool) (b:=8) ⟨⟨_,Tryz.underlying159,rfl⟩,by kernel_rfl⟩ rfl (by unfold TZ;kernel_rfl),
 uq (z:=.agg #[.bool false,.int .i64 0,.int .i64 0]) ⟨⟨_,Tryz.underlying169,rfl⟩,by kernel_rfl⟩ rfl ⟨⟨_,_,Tryz.underlying169,rfl,rfl,by kernel_rfl⟩,⟨_,_,Tryz.underlying169,rfl,rfl,by kernel_rfl⟩,⟨_,_,Tryz.underlying169,rfl,rfl,by kernel_rfl⟩,trivial⟩ (by unfold TZ;kernel_rfl) rfl (bO rfl) ⟨_,Tryz.underlying169,by kernel_rfl⟩ (fun ks h=>by cases h),
 vB ⟨⟨_,Tryz.underlying183,rfl⟩,by kernel_rfl⟩ Tryz.underlying183 (by unfold TZ;kernel_rfl),
 uq (z:=.agg #[.int .i64 0,.int .i64 0,.int .i64 0,.int .i64 0,.slice none 0 0]) ⟨⟨_,Tryz.underlying187,rfl⟩,by kernel_rfl⟩ rfl ⟨⟨_,_,Tryz.underlying187,rfl,rfl,by kernel_rfl⟩,⟨_,_,Tryz.underlying187,rfl,rfl,by kernel_rfl⟩,trivial⟩ (by unfold TZ;kernel_rfl) rfl (bO rfl) ⟨_,Tryz.underlying187,by kernel_rfl⟩ (fun ks h=>by cases h),
 uq (z:=.agg #[.int .i64 0,.int .i64 0,.bool false]) ⟨⟨_,Tryz.underlying194,rfl⟩,by kernel_rfl⟩ rfl ⟨⟨_,_,Tryz.underlying194,rfl,rfl,by kernel_rfl⟩,⟨_,_,Tryz.underlying194,rfl,rfl,by kernel_rfl⟩,⟨_,_,Tryz.underlying194,rfl,rfl,by kernel_rfl⟩,trivial⟩ (by unfold TZ;kernel_rfl) rfl (bO rfl) ⟨_,Tryz.underlying194,by kernel_rfl⟩ (fun ks h=>by cases h),
 xO (ty:=.bool) (b:=8) ⟨⟨_,Tryz.underlying197,rfl⟩,by kernel_rfl⟩ rfl (by unfold TZ;kernel_rfl),
 xO (ty:=.bool) (b:=8) ⟨⟨_,Tryz.underlying199,rfl⟩,by kernel_rfl⟩ rfl (by unfold TZ;kernel_rfl),
 pd (n:=1) (z:=.int .u64 0) ⟨⟨_,Tryz.underlying226,rfl⟩,by kernel_rfl⟩ rfl (by unfold TZ;kernel_rfl) rfl (bO rfl) (fun h=>by cases h) (fun k h=>by obtain rfl:=ae h;exact Tryz.underlying226),
 QF (m:=⟨3,3,.int,.int⟩) (ty:=.bool) ⟨⟨_,Tryz.underlying247,rfl⟩,by kernel_rfl⟩ rfl ⟨Tryz.underlying247,kk3,ek3⟩,
 xO (ty:=.bool) (b:=8) ⟨⟨_,Tryz.underlying250,rfl⟩,by kernel_rfl⟩ rfl (by unfold TZ;kernel_rfl),
 uq (z:=.agg #[.int .i64 0,.int .i64 0,.bool false,.int .i64 0,.int .i64 0]) ⟨⟨_,Tryz.underlying295,rfl⟩,by kernel_rfl⟩ rfl ⟨⟨_,_,Tryz.underlying295,rfl,rfl,by kernel_rfl⟩,⟨_,_,Tryz.underlying295,rfl,rfl,by kernel_rfl⟩,⟨_,_,Tryz.underlying295,rfl,rfl,by kernel_rfl⟩,⟨_,_,Tryz.underlying295,rfl,rfl,by kernel_rfl⟩,⟨_,_,Tryz.underlying295,rfl,rfl,by kernel_rfl⟩,trivial⟩ (by unfold TZ;kernel_rfl) rfl (bO rfl) ⟨_,Tryz.underlying295,by kernel_rfl⟩ (fun ks h=>by cases h),
 vB ⟨⟨_,Tryz.underlying296,rfl⟩,by kernel_rfl⟩ Tryz.underlying296 (by unfold TZ;kernel_rfl),
 xO (ty:=.bool) (b:=8) ⟨⟨_,Tryz.underlying333,rfl⟩,by kernel_rfl⟩ rfl (by unfold TZ;kernel_rfl),
 pd (n:=1) (z:=.int .u32 0) ⟨⟨_,Tryz.underlying345,rfl⟩,by kernel_rfl⟩ rfl (by unfold TZ;kernel_rfl) rfl (bO rfl) (fun h=>by cases h) (fun k h=>by obtain rfl:=ae h;exact Tryz.underlying345),
 pd (n:=1) (z:=.int .u64 0) ⟨⟨_,Tryz.underlying347,rfl⟩,by kernel_rfl⟩ rfl (by unfold TZ;kernel_rfl) rfl (bO rfl) (fun h=>by cases h) (fun k h=>by obtain rfl:=ae h;exact Tryz.underlying347),trivial⟩
theorem mixed:Tryz.prog.follows .mixedOrders=true:=by kernel_rfl
def K6 (fn:Func):Code:=match fn.body with
 | some c=>c
 | none=>.skip
theorem fk {k:FuncId} {fn:Func} {f:FS} (ft:FT) (hF:FTok Tryz.prog ft) (hf:Tryz.prog.funcs[k]? =some fn) (ann:Ann) (an:List (Nat×Ty):=[]) (tr:Trs:=[]) (hb:fn.body=some (K6 fn):=by rfl) (he:(fn.name == "runtime.NumGoroutine")=false:=by kernel_rfl) (hcl:f.cl=none:=by rfl) (hm:Nat.ble f.ps.length fn.ntmps=true:=by rfl) (hdp:(xq f.rs&&tK f.ps)=true:=by rfl)
  (hmod: ∀d,appP f.ps f.m d=gf ⟨tt,ft,an,fn.ntmps,tr⟩ (Be ⟨tt,ft,an,fn.ntmps,tr⟩ fn.results.toList f.rs f.ps d) (K6 fn) ann (fun r=>some r) (fun _ _=>none) (Be ⟨tt,ft,an,fn.ntmps,tr⟩ fn.results.toList f.rs f.ps d) (mV (uj f.ps d)):=by intro d;kernel_rfl):FOk Tryz.prog k f:=
 fok (V:=⟨tt,ft,an,fn.ntmps,tr⟩) zL hF mixed hf hb rfl (enters_of hf he hb) hcl (bO hm) hdp ann hmod
def GH:FS:=⟨[.rd y22],[y4],Bh,none⟩
def zM:FS:=⟨[.rd y22],[.int .i64,.int .i64],qg,some (153,9)⟩
def wv:FS:=⟨[.crs 153 5],[y3],gT,none⟩
def dW:FS:=⟨[.crs 153 5,.rd y3],[y3],bm,none⟩
def jJ:FS:=⟨[.crs 153 5,.rd y47],[y3],eN,none⟩
def qk:FS:=⟨[.rd y3,.rd y3,.rd y3],[y4],jG,none⟩
def nt:FS:=⟨[.rd y3],[y4],jc,none⟩
def pg:FS:=⟨[.rd rW],[y3],j9,none⟩
def wx:FS:=⟨[.rd y30],[y4],oe,none⟩
def kl:FS:=⟨[.rd y30],[y4],fF,none⟩
def mz:FS:=⟨[.rd y28],[y3],fG,none⟩
def mA (n:Nat):FS:=⟨[.rd y28],[y3],dn n,none⟩
def oq:FS:=⟨[.rd y28],[y30],dJ,none⟩
def ot:FS:=⟨[.rd y30,.rd y30,.rd rW],[y30],dh,none⟩
def rm:FS:=⟨[.rd y3],[y30],jP,none⟩
def kT (n:Nat):FS:=⟨[.rd y30,.rd y3,.rd y3],[y30],gU n,none⟩
def jK (n:Nat):FS:=⟨[.rd y28],[y30],cr n,none⟩
def oN:FS:=⟨[.rd y30],[y30,y4],fh,none⟩
def uv:FS:=⟨[.ptr 105 CF,.rd y3,.rd y3],[],ka,none⟩
def kU (n:Nat):FS:=⟨[.ptr 105 CF,.rd y28],[Rd],bT n,none⟩
def iz:FS:=⟨[.rd y30],[CF,y4],ct,none⟩
def rX:FS:=⟨[.rd CF,.rd y3,.rd y3],[y3],kQ,none⟩
def ph:FS:=⟨[.rd y47,.rd y3],[y3],kc,none⟩
def oO:FS:=⟨[.rd CF,.rd y3],[y4],iT,none⟩
def lA:FS:=⟨[.rd CF,.rd y3],[y41,y4],cq,none⟩
def oP:FS:=⟨[],[y41],lx,none⟩
def ql:FS:=⟨[.rd y41,.rd y47,.rd y38],[y41],fU,none⟩
def uw:FS:=⟨[.rd y47,.rd y47],[y3],lJ,none⟩
def pj:FS:=⟨[.rd y41],[y38],iI,none⟩
def wz:FS:=⟨[.rd y41,.rd y47,.rd y3],[y47],lK,none⟩
def oQ:FS:=⟨[.rd y41],[y47],gz,none⟩
def nv:FS:=⟨[.rd y41],[y41],eC,none⟩
def km:FS:=⟨[.rd y30],[y41,y4],m_s_CompileExpr,none⟩
def fZ:FS:=⟨[.rd y41,.rd y41],[y4],di,none⟩
def rY:FS:=⟨[.rd y24,.rd y41],[y3],df,none⟩
def nw:FS:=⟨[.rd y25],[y27,y4],bd,none⟩
def oR:FS:=⟨[.rd y30,.rd y30],[y4],iV,none⟩
def ko:FS:=⟨[.rd y27,.rd y27],[y4],eO,none⟩
def gN:FS:=⟨[.rd y27],[y4],bL,none⟩
def qm:FS:=⟨[.rd y27,.rd y3],[y3],eP,none⟩
def uy:FS:=⟨[.rd y41],[y41],mo,none⟩
def uz:FS:=⟨[.rd y27],[y27],iK,none⟩
def iM:FS:=⟨[.rd y27,.rd y3,.rd y30],[y27,y4],dj,none⟩
def zN:FS:=⟨[.rd y9,.rd y5],[QI],zK,none⟩
def jr:FS:=⟨[.rd y3],[y9],jo,none⟩
def qn:FS:=⟨[.rd y3],[y9],mq,none⟩
def uA:FS:=⟨[.rd rW],[y9],ur,none⟩
def nz:FS:=⟨[.rd y9],[y3,y4],nq,none⟩
def wA:FS:=⟨[.rd y9],[rW],wu,none⟩
def qo:FS:=⟨[.rd y9],[y30,y4],fW,none⟩
def wB:FS:=⟨[.crs 153 5,.rd QI],[y9],oh,none⟩
def pn:FS:=⟨[.crs 153 5],[y30],kd,none⟩
def nA:FS:=⟨[.crs 153 5],[y27],im,none⟩
def jS:FS:=⟨[.crs 153 5,.rd y3],[y4],fX,none⟩
def oS:FS:=⟨[.rd y3],[y30],oM,none⟩
def ou (n:Nat):FS:=⟨[.crs 153 5,.rd y3],[y30],cX n,none⟩
def rp:FS:=⟨[.crs 153 5],[y30],lL,none⟩
def qp:FS:=⟨[.crs 153 5],[y41],iq,none⟩
def wC:FS:=⟨[.crs 153 5],[y41],oi,none⟩
def wD:FS:=⟨[.crs 153 5],[y27],oj,none⟩
def zO:FS:=⟨[.crs 153 5],[y30],qj,none⟩
def jf:FS:=⟨[.rd y22],[y27,y3,y30],dO,none⟩
def fv:FS:=⟨[.rd y38,.rd y38],[y4],db,none⟩
def bY:FS:=⟨[.rd y39,.rd y39,.fn [y47,y47] [y4]],[y4],bE,none⟩
def dH:FS:=⟨[.rd y47,.rd y47],[y4],cz,none⟩
def kp:FS:=⟨[.rd y47,.rd y47],[y4],eQ,none⟩
def iN:FS:=⟨[.rd y41,.rd y41],[y4],dk,none⟩
def bA:FS:=⟨[.rd y24,.rd y24,.fn [y41,y41] [y4]],[y4],aS,none⟩
def bf:FS:=⟨[.rd y25,.rd y25,.fn [y95,y95] [y4]],[y4],aQ,none⟩
def eK:FS:=⟨[.rd y28,.rd y28],[y4],bX,none⟩
def oT:FS:=⟨[.rd y30,.rd y30],[y4],iW,none⟩
def mP:FS:=⟨[.rd y95,.rd y95],[y4],fc,none⟩
def gO:FS:=⟨[.rd y27,.rd y27],[y4],cE,none⟩
def ox:FS:=⟨[.rd y3,.rd y3,.rd y3],[y4],iL,none⟩
def nB:FS:=⟨[.rd y3],[y4],gV,none⟩
def uB:FS:=⟨[.rd rW],[y4],mr,none⟩
def bC:FS:=⟨[.rd Qc],[Qc],fun _=>none,some (116,8)⟩
def oy:FS:=⟨[.rd y30],[t116],jQ,none⟩
def wE:FS:=⟨[.rd y30],[y4],om,none⟩
def nC:FS:=⟨[.rd y30],[y4],ir,none⟩
def ja (n:Nat):FS:=⟨[.rd t116],[y3],bJ n,none⟩
def CG:FS:=⟨[.rd y3],[t116],xQ,none⟩
def kV (n:Nat):FS:=⟨[.eat t116,.rd y3,.rd y3],[t116],gW n,none⟩
def iA (n:Nat):FS:=⟨[.rd t116],[t116],bp n,none⟩
def gI (n:Nat):FS:=⟨[.rd t116,.ptr 30 y30],[],be n,none⟩
def qq:FS:=⟨[.rd t116],[y30],mw,none⟩
def oU:FS:=⟨[.rd y30],[y30,y4],iX,none⟩
def jy:FS:=⟨[.ptr 105 CF,.rd y3,.rd y3],[],c7,none⟩
def eT (n:Nat):FS:=⟨[.ptr 105 CF,.rd t116],[Re],bq n,none⟩
def kW:FS:=⟨[.rd y30],[CF,y4],fq,none⟩
def jt:FS:=⟨[.rd y3,.rd y3,.fn [y3] [y4],.fn [y3,y3] [y3,y4]],[y41,y4],dK,none⟩
def jg:FS:=⟨[.rd CF,.rd y3],[y4],cR,none⟩
def kt:FS:=⟨[.rd CF,.rd y3,.rd y3],[y3],eR,none⟩
def lN:FS:=⟨[.rd y3,.rd y3,.cap 105 CF],[y3,y4],cF,none⟩
def nD:FS:=⟨[.rd CF,.rd y3],[y41,y4],fJ,none⟩
def bG:FS:=⟨[.rd y38],[y38],fun _=>none,some (4,1)⟩
def kX:FS:=⟨[.rd y41],[y38],dP,none⟩
def dD:FS:=⟨[.rd y39,.fn [y47] [y4]],[y3],bP,none⟩
def iC:FS:=⟨[.rd y47,.cap 47 y47],[y4],fl,none⟩
def jz:FS:=⟨[.rd y41,.rd y47],[y47,y3],c8,none⟩
def jh:FS:=⟨[.rd y41],[y47],cU,none⟩
def ku:FS:=⟨[.rd Pb,.rd Pb],[Pb,Pb],pe,none⟩
def ky:FS:=⟨[.rd Pc,.rd Pc],[Pc,Pc],ke,none⟩
def lO:FS:=⟨[.rd Pa,.rd Pa],[Pa,Pa],lM,none⟩
def fN:FS:=⟨[.rd y47,.rd y3],[y47],fL,none⟩
def uC:FS:=⟨[],[y41],pf,none⟩
def gi:FS:=⟨[.rd y47,.rd y3],[y3],dF,none⟩
def gX:FS:=⟨[.rd y3,.cap 47 y47],[y3],aX,none⟩
def gY:FS:=⟨[.rd y3,.cap 41 y41,.capf 250 [y3] [y3]],[y4],cf,none⟩
def kY:FS:=⟨[.rd y41,.rd y3,.rd y3],[y3],dQ,none⟩
def gZ:FS:=⟨[.rd y3,.rd y3,.cap 41 y41,.capf 250 [y3] [y3],.cap 47 y47],[y3,y4],cg,none⟩
def iD:FS:=⟨[.rd y41],[y41],bZ,none⟩
def zP:FS:=⟨[.rd y41],[y41,y4],uu,none⟩
def nE:FS:=⟨[.rd y30],[y41,y4],fM,none⟩
def nF:FS:=⟨[.rd y30],[y30],eJ,none⟩
def cy:FS:=⟨[.rd y24,.fn [y41] [y4]],[y3],aW,none⟩
def rZ:FS:=⟨[.rd y41,.cap 41 y41],[y4],je,none⟩
def oz:FS:=⟨[.rd y25],[y27,y4],jR,none⟩
def dw:FS:=⟨[.rd y27],[y4],ba,none⟩
def cj:FS:=⟨[.rd y25,.fn [y95] [y4]],[y3],bK,none⟩
def nG:FS:=⟨[.rd y95,.cap 3 y3],[y4],iw,none⟩
def iB:FS:=⟨[.rd y27,.rd y3],[y3],cL,none⟩
def sd:FS:=⟨[.rd y47],[y47],nr,none⟩
def iO:FS:=⟨[.rd y41],[y41],eE,none⟩
def ju:FS:=⟨[.rd y27],[y27],cx,none⟩
def cC:FS:=⟨[.eat (.sl 95 (.fro y95)),.rd y3,.ow (.sl 95 (.fro y95))],[.sl 95 (.fro y95)],bu,none⟩
def bS:FS:=⟨[.rd y25],[.sl 95 (.fro y95)],aM,none⟩
def lP:FS:=⟨[.rd y27,.rd y3,.rd y30],[y27,y4],fY,none⟩
def cD:FS:=⟨[.eat (.sl 95 (.fro y95)),.rd y3,.rd y3],[.sl 95 (.fro y95)],bw,none⟩
def kz:FS:=⟨[.rd y27,.rd y3],[y27,y4],eS,none⟩
def kZ:FS:=⟨[.rd y27,.rd y3],[y41,y4],fu,none⟩
def uD:FS:=⟨[.rd y41],[y4],kg,none⟩
def gk:FS:=⟨[.rd y41],[y4],bQ,none⟩
def qu:FS:=⟨[.rd y41,.rd y3],[y4],ix,none⟩
def uE:FS:=⟨[.rd QJ,.rd y3],[y47],my,none⟩
def uF:FS:=⟨[.rd y41,.rd y3,.rd y3],[y3],kh,none⟩
def wF:FS:=⟨[.rd QJ,.rd N6],[y4],oo,none⟩
def qv:FS:=⟨[.rd y41,.rd y3,.rd y41,.rd y3,.rd y4],[y47,y4],iy,none⟩
def nH:FS:=⟨[.rd y41,.rd y41],[y47,y4],kj,none⟩
def jA:FS:=⟨[.rd y41,.rd y41],[y4],da,none⟩
def lQ:FS:=⟨[.rd y41,.rd y41],[y4],eF,none⟩
def vC:FS:=⟨[.rd y22],[y4],iZ,none⟩
end R
namespace R
open Go.RowKit
open D
theorem Nw:FOk Tryz.prog 8 GH:=fk [] trivial Tryz.func8 .no
theorem GI:FOk Tryz.prog 50 zM:=Nv (T:=153) (O9 (V:=⟨tt,[],[],32,[]⟩) zL trivial mixed Tryz.func50 rfl rfl (enters_of Tryz.func50 (by kernel_rfl) rfl) (bO rfl) (.two .no (.two .no (.two (.two .no (.loop [.slot 3 (.num .i64),.slot 4 (.num .i64)] .no)) .no))) (fun xs=>by kernel_rfl)) rfl
theorem DN:FOk Tryz.prog 183 wv:=fk [] trivial Tryz.func183 (.two .no (.two .no (.two .no (.two (.two .no (.at [.slot 3 (.num .i64),.cur 0] .no)) .no))))
theorem eU:FOk Tryz.prog 102 dW:=fk [(183,wv)] ⟨DN,trivial⟩ Tryz.func102 .no
theorem mB:FOk Tryz.prog 52 jJ:=fk [(102,dW)] ⟨eU,trivial⟩ Tryz.func52 .no
theorem sV:FOk Tryz.prog 110 qk:=fk [] trivial Tryz.func110 .no
theorem sf:FOk Tryz.prog 295 nt:=fk [(110,qk)] ⟨sV,trivial⟩ Tryz.func295 .no
theorem uG:FOk Tryz.prog 232 pg:=fk [(110,qk),(295,nt)] ⟨sV,sf,trivial⟩ Tryz.func232 (.two .no (.two (.two .no (.join [.slot 5 .boo] .no (.two .no (.two .no (.two .no (.join [.slot 37 .boo] .no .no)))))) .no))
theorem DO:FOk Tryz.prog 160 wx:=fk [(232,pg)] ⟨uG,trivial⟩ Tryz.func160 (.two .no (.two .no (.two (.two .no (.loop [.slot 3 (.num .i64),.slot 4 (.num .i64)] .no)) .no)))
theorem nI:FOk Tryz.prog 84 kl:=fk [(160,wx)] ⟨DO,trivial⟩ Tryz.func84 .no
theorem po:FOk Tryz.prog 163 mz:=fk [(232,pg)] ⟨uG,trivial⟩ Tryz.func163 (.two .no (.two .no (.two .no (.two (.loop [.slot 3 (.num .i64),.slot 4 (.num .i64)] .no) .no))))
theorem uH: ∀n,FOk Tryz.prog 215 (mA n)
 | 0=>gF (f:=mA 0) (enters_of Tryz.func215 (by kernel_rfl) rfl) rfl (fun d=>rfl)
 | n+1=>by
  have ih:=uH n
  exact fk [(163,mz),(215,(mA n))] ⟨po,ih,trivial⟩ Tryz.func215 (.two .no (.two .no (.two .no (.two (.two .no (.two (.two .no (.at [.slot 15 .boo] .no)) .no)) .no))))
theorem rq:FOk Tryz.prog 129 oq:=fk [] trivial Tryz.func129 .no
theorem rr:FOk Tryz.prog 254 ot:=fk [(129,oq)] ⟨rq,trivial⟩ Tryz.func254 .no
theorem wG:FOk Tryz.prog 252 rm:=fk [] trivial Tryz.func252 .no
theorem sg: ∀n,FOk Tryz.prog 287 (kT n)
 | 0=>gF (f:=kT 0) (enters_of Tryz.func287 (by kernel_rfl) rfl) rfl (fun d=>rfl)
 | n+1=>by
  have ih:=sg n
  exact fk [(252,rm),(254,ot),(287,(kT n))] ⟨wG,rr,ih,trivial⟩ Tryz.func287 .no
theorem qw: ∀n,FOk Tryz.prog 216 (jK n)
 | 0=>gF (f:=jK 0) (enters_of Tryz.func216 (by kernel_rfl) rfl) rfl (fun d=>rfl)
 | n+1=>by
  have ih:=qw n
  exact fk [(163,mz),(216,(jK n)),(254,ot),(287,(kT dE))] ⟨po,ih,rr,(sg dE),trivial⟩ Tryz.func216 (.two .no (.two .no (.two .no (.two (.two .no (.two (.two .no (.at [.slot 15 .boo] .no)) .no)) .no))))
end R
namespace R
open Go.RowKit
open D
theorem vD:FOk Tryz.prog 134 oN:=fk [(84,kl),(215,(mA dE)),(216,(jK dE))] ⟨nI,(uH dE),(qw dE),trivial⟩ Tryz.func134 .no
theorem Bi:FOk Tryz.prog 217 uv:=fk [] trivial Tryz.func217 (.two .no (.loop [.slot 6 (.num .i64),.par 4 [3] 3 y3] (.two .no (.two (.at [.par 4 [3] 3 y3] .no) .no))))
theorem sj: ∀n,FOk Tryz.prog 135 (kU n)
 | 0=>gF (f:=kU 0) (enters_of Tryz.func135 (by kernel_rfl) rfl) rfl (fun d=>rfl)
 | n+1=>by
  have ih:=sj n
  exact fk [(135,(kU n)),(163,mz),(217,uv)] ⟨ih,po,Bi,trivial⟩ Tryz.func135 (.two .no (.two .no (.two .no (.two (.two .no (.two .no (.two .no (.two .no (.two .no (.two .no (.two (.two .no (.two .no (.two .no (.two .no (.two .no (.two (.two .no (.at [.box 11 [.boo,(.num .i64),(.num .i64)]] .no)) (.two (.two .no (.at [.box 11 [.boo,(.num .i64),(.num .i64)]] .no)) .no))))))) .no))))))) .no))))
theorem ld:FOk Tryz.prog 67 iz:=fk [(134,oN),(135,(kU dE))] ⟨vD,(sj dE),trivial⟩ Tryz.func67 (.two .no (.two .no (.two .no (.two .no (.two (.two .no (.loop [.slot 6 (.num .i64),.slot 7 (.num .i64)] (.two .no (.two (.at [.slot 6 (.num .i64)] .no) .no)))) .no)))))
theorem zQ:FOk Tryz.prog 136 rX:=fk [] trivial Tryz.func136 (.two .no (.two .no (.join [.slot 7 (.num .i64)] .no (.two (.two .no (.loop [.slot 7 (.num .i64),.slot 8 (.num .i64)] (.two .no (.join [.slot 7 (.num .i64)] .no .no)))) (.two .no (.two (.two .no (.loop [.slot 9 (.num .i64),.slot 10 (.num .i64)] (.two .no (.join [.slot 9 (.num .i64)] .no .no)))) .no))))))
theorem uI:FOk Tryz.prog 137 ph:=fk [] trivial Tryz.func137 (.two .no (.two (.two .no (.loop [.slot 5 (.num .i64)] .no)) .no))
theorem vE:FOk Tryz.prog 138 oO:=fk [] trivial Tryz.func138 .no
theorem oV:FOk Tryz.prog 68 lA:=fk [(136,rX),(137,ph),(138,oO)] ⟨zQ,uI,vE,trivial⟩ Tryz.func68 (.two .no (.two .no (.two .no (.two (.two .no (.loop [.slot 7 (.own 3 y3),.slot 8 (.num .i64),.box 6 [(.num .i64),(.own 4 y4),(.own 47 y47)]] (.two .no (.two (.two .no (.two (.two .no (.loop [.slot 7 (.own 3 y3),.slot 9 (.own 3 y3),.slot 10 (.num .i64)] (.two .no (.two (.two .no (.two .no (.join [.slot 7 (.own 3 y3),.slot 12 (.num .i64)] .no .no))) .no)))) .no)) .no)))) .no))))
theorem vF:FOk Tryz.prog 218 oP:=fk [] trivial Tryz.func218 (.two .no (.two .no (.two (.two .no (.loop [.slot 1 (.own 3 y3),.slot 2 (.num .i64)] .no)) .no)))
theorem xR:FOk Tryz.prog 139 ql:=fk [(137,ph),(218,oP)] ⟨uI,vF,trivial⟩ Tryz.func139 (.two .no (.two .no (.two .no (.two .no (.two .no (.two (.two .no (.loop [.slot 8 (.own 3 y3),.slot 9 (.own 3 y3),.slot 10 (.num .i64),.box 7 [(.num .i64),(.own 4 y4),(.own 47 y47)]] (.two .no (.two (.two .no (.two (.two .no (.loop [.slot 8 (.own 3 y3),.slot 9 (.own 3 y3),.slot 11 (.own 3 y3),.slot 12 (.num .i64)] (.two .no (.two (.two .no (.two .no (.join [.slot 8 (.own 3 y3),.slot 9 (.own 3 y3),.slot 14 (.num .i64)] .no .no))) .no)))) .no)) .no)))) .no))))))
theorem zR:FOk Tryz.prog 70 uw:=fk [] trivial Tryz.func70 (.two .no (.two (.two .no (.loop [.slot 5 (.num .i64)] .no)) .no))
theorem uJ:FOk Tryz.prog 141 pj:=fk [] trivial Tryz.func141 (.two .no (.two .no (.two (.two .no (.loop [.row 3 4 y4,.slot 4 (.num .i64)] (.two .no (.two (.two .no (.loop [.row 3 4 y4,.slot 5 (.num .i64)] (.two .no (.two (.two .no (.loop [.row 3 4 y4,.slot 6 (.num .i64)] (.two .no (.join [.row 3 4 y4] .no .no)))) .no)))) .no)))) .no)))
theorem DP:FOk Tryz.prog 219 wz:=fk [] trivial Tryz.func219 (.two .no (.two .no (.two (.two .no (.loop [.slot 7 (.own 3 y3),.slot 8 (.num .i64)] (.two .no (.join [.slot 7 (.own 3 y3)] .no .no)))) .no)))
theorem vG:FOk Tryz.prog 140 oQ:=fk [(70,uw),(141,pj),(219,wz)] ⟨zR,uJ,DP,trivial⟩ Tryz.func140 (.two .no (.two .no (.two .no (.two (.two .no (.loop [.slot 4 (.own 3 y3),.slot 5 (.num .i64)] (.two .no (.two (.two .no (.two (.two .no (.at [.slot 6 (.num .i64)] .no)) (.two (.two .no (.at [.slot 6 (.num .i64)] .no)) .no))) .no)))) (.two (.two .no (.loop [.slot 4 (.own 3 y3),.slot 7 (.num .i64)] (.two .no (.two (.two .no (.two .no (.two (.two .no (.loop [.slot 8 (.own 47 y47),.slot 9 (.own 3 y3),.slot 10 (.num .i64)] (.two .no (.two (.at [.slot 8 (.own 47 y47),.slot 9 (.own 3 y3)] (.two .no (.two .no (.two .no (.two (.two .no (.loop [.slot 12 (.num .i64),.slot 13 (.num .i64)] (.two .no (.two (.at [.slot 12 (.num .i64)] .no) .no)))) (.two (.two .no (.at [.slot 8 (.own 47 y47),.slot 12 (.num .i64),.gone 11] .no)) .no)))))) .no)))) .no))) .no)))) .no)))))
theorem uK:FOk Tryz.prog 69 nv:=fk [(139,ql),(140,oQ),(141,pj)] ⟨xR,vG,uJ,trivial⟩ Tryz.func69 .no
theorem nJ:FOk Tryz.prog 17 km:=fk [(67,iz),(68,lA),(69,nv)] ⟨ld,oV,uK,trivial⟩ Tryz.func17 .no
theorem iP:FOk Tryz.prog 18 fZ:=fk [(70,uw)] ⟨zR,trivial⟩ Tryz.func18 (.two .no (.two .no (.two (.two .no (.loop [.slot 5 (.num .i64)] .no)) (.two (.two .no (.loop [.slot 6 (.num .i64)] .no)) .no))))
end R
namespace R
open Go.RowKit
open D
theorem zS:FOk Tryz.prog 130 rY:=fk [(18,fZ)] ⟨iP,trivial⟩ Tryz.func130 (.two .no (.two (.two .no (.loop [.slot 5 (.num .i64)] .no)) .no))
theorem sn:FOk Tryz.prog 60 nw:=fk [(17,km),(110,qk),(129,oq),(130,rY)] ⟨nJ,sV,rq,zS,trivial⟩ Tryz.func60 (.two .no (.two .no (.two .no (.two (.two .no (.loop [.slot 5 (.num .i64),.box 4 [(.own 41 y41),(.own 95 y95)]] (.two .no (.two (.two .no (.two .no (.two .no (.join [.slot 8 (.num .i64),.box 4 [(.own 41 y41),(.own 95 y95)],.gone 6] .no .no)))) .no)))) .no))))
theorem vH:FOk Tryz.prog 132 oR:=fk [] trivial Tryz.func132 (.two .no (.two .no (.two (.two .no (.loop [.slot 5 (.num .i64)] .no)) .no)))
theorem pq:FOk Tryz.prog 64 ko:=fk [(18,fZ),(132,oR)] ⟨iP,vH,trivial⟩ Tryz.func64 (.two .no (.two .no (.two (.two .no (.loop [.slot 5 (.num .i64)] .no)) (.two (.two .no (.loop [.slot 6 (.num .i64)] .no)) .no))))
theorem kA:FOk Tryz.prog 14 gN:=fk [(60,nw),(64,ko)] ⟨sn,pq,trivial⟩ Tryz.func14 .no
theorem xS:FOk Tryz.prog 58 qm:=fk [] trivial Tryz.func58 (.two .no (.two (.two .no (.loop [.slot 5 (.num .i64)] .no)) .no))
theorem Bj:FOk Tryz.prog 128 uy:=fk [] trivial Tryz.func128 (.two .no (.two .no (.two (.two .no (.loop [.slot 4 (.num .i64),.box 3 [(.num .i64),(.own 4 y4),(.own 47 y47)]] .no)) .no)))
theorem Bk:FOk Tryz.prog 59 uz:=fk [(128,uy),(129,oq)] ⟨Bj,rq,trivial⟩ Tryz.func59 (.two .no (.two .no (.two (.two .no (.loop [.slot 4 (.num .i64),.box 3 [(.own 41 y41),(.own 95 y95)]] .no)) (.two (.two .no (.loop [.slot 5 (.num .i64),.box 3 [(.own 41 y41),(.own 95 y95)]] .no)) .no))))
theorem lR:FOk Tryz.prog 11 iM:=fk [(14,gN),(58,qm),(59,uz),(60,nw)] ⟨kA,xS,Bk,sn,trivial⟩ Tryz.func11 (.two .no (.two .no (.two .no (.two (.loop [.slot 8 (.num .i64)] .no) .no)))) (an:=[(40,(.fro y95)),(49,(.fro y95))])
theorem GJ:FOk Tryz.prog 304 zN:=fk [] trivial Tryz.func304 (.two .no (.two .no (.two .no (.two (.two .no (.loop [.slot 5 (.own 9 y9),.slot 6 (.num .i64),.slot 7 (.num .i64)] (.two .no (.two (.at [.slot 5 (.own 9 y9),.slot 6 (.num .i64)] .no) .no)))) .no))))
theorem mQ:FOk Tryz.prog 357 jr:=fk [(295,nt)] ⟨sf,trivial⟩ Tryz.func357 .no
theorem xT:FOk Tryz.prog 358 qn:=fk [] trivial Tryz.func358 (.two .no (.two .no (.two .no (.two .no (.two (.loop [.slot 0 (.num .i64),.slot 3 .str] (.two .no (.two .no (.two (.two .no (.at [.slot 5 (.num .i64)] .no)) .no)))) .no)))))
theorem Bl:FOk Tryz.prog 336 uA:=fk [(357,jr),(358,qn)] ⟨mQ,xT,trivial⟩ Tryz.func336 .no
theorem uL:FOk Tryz.prog 337 nz:=fk [(357,jr)] ⟨mQ,trivial⟩ Tryz.func337 (.two .no (.two (.two .no (.loop [.slot 4 (.num .i64)] .no)) .no))
theorem DQ:FOk Tryz.prog 305 wA:=fk [(336,uA),(337,nz)] ⟨Bl,uL,trivial⟩ Tryz.func305 (.two .no (.two (.two .no (.loop [.slot 3 (.num .i64)] .no)) .no))
theorem xU:FOk Tryz.prog 250 qo:=fk [(84,kl),(304,zN),(305,wA)] ⟨nI,GJ,DQ,trivial⟩ Tryz.func250 (.two .no (.two .no (.two .no (.two (.two .no (.loop [.slot 6 (.num .i64),.box 4 [(.own 156 rW)]] .no)) .no))))
theorem DR:FOk Tryz.prog 251 wB:=fk [(102,dW)] ⟨eU,trivial⟩ Tryz.func251 .no
end R
namespace R
open Go.RowKit
open D
theorem uM:FOk Tryz.prog 180 pn:=fk [(250,qo),(251,wB)] ⟨xU,DR,trivial⟩ Tryz.func180 .no
theorem uN:FOk Tryz.prog 121 nA:=fk [(11,iM),(102,dW),(180,pn)] ⟨lR,eU,uM,trivial⟩ Tryz.func121 (.two .no (.two .no (.two (.two .no (.loop [.slot 4 (.num .i64),.cur 0,.box 3 [(.own 41 y41),(.own 95 y95)]] .no)) .no)))
theorem lS:FOk Tryz.prog 100 jS:=fk [(102,dW)] ⟨eU,trivial⟩ Tryz.func100 .no
theorem vI:FOk Tryz.prog 253 oS:=fk [] trivial Tryz.func253 .no
theorem wH: ∀n,FOk Tryz.prog 181 (ou n)
 | 0=>gF (f:=ou 0) (enters_of Tryz.func181 (by kernel_rfl) rfl) rfl (fun d=>rfl)
 | n+1=>by
  have ih:=wH n
  exact fk [(52,jJ),(100,jS),(102,dW),(181,(ou n)),(252,rm),(253,oS),(254,ot)] ⟨mB,lS,eU,ih,wG,vI,rr,trivial⟩ Tryz.func181 (.two .no (.two .no (.two (.two .no (.two (.two .no (.at [.slot 20 .boo] .no)) (.two .no (.two (.two .no (.at [.slot 33 .boo] .no)) .no)))) .no)))
theorem wI:FOk Tryz.prog 99 rp:=fk [(100,jS),(102,dW),(180,pn),(181,(ou dE))] ⟨lS,eU,uM,(wH dE),trivial⟩ Tryz.func99 .no
theorem xV:FOk Tryz.prog 212 qp:=fk [(100,jS),(102,dW)] ⟨lS,eU,trivial⟩ Tryz.func212 (.two .no (.two .no (.two .no (.two (.two .no (.loop [.slot 5 (.num .i64),.box 4 [(.num .i64),(.own 4 .bool),(.own 47 y47)],.cur 0] (.two .no (.two (.two .no (.two (.two .no (.loop [.slot 6 (.own 3 y3),.slot 7 (.num .i64),.cur 0] (.two .no (.two (.two .no (.two (.two .no (.at [.slot 8 (.num .i64),.cur 0] .no)) (.two (.two .no (.at [.slot 8 (.num .i64)] .no)) .no))) .no)))) .no)) .no)))) .no))))
theorem DS:FOk Tryz.prog 122 wC:=fk [(67,iz),(68,lA),(99,rp),(100,jS),(212,qp)] ⟨ld,oV,wI,lS,xV,trivial⟩ Tryz.func122 .no
theorem DT:FOk Tryz.prog 51 wD:=fk [(52,jJ),(102,dW),(121,nA),(122,wC)] ⟨mB,eU,uN,DS,trivial⟩ Tryz.func51 (.two .no (.two .no (.two (.two .no (.at [.cur 0,.box 3 [(.own 41 y41),(.own 95 y95)]] .no)) .no)))
theorem GK:FOk Tryz.prog 53 zO:=fk [(99,rp),(100,jS),(102,dW)] ⟨wI,lS,eU,trivial⟩ Tryz.func53 (.two .no (.two .no (.two (.two .no (.at [.cur 0,.box 3 [(.own 156 rW)]] (.two .no (.two .no (.two .no (.two .no (.two .no (.two (.two (.loop [.box 3 [(.own 156 rW)]] .no) .no) .no)))))))) .no))) (an:=[(12,.bool)])
theorem nK:FOk Tryz.prog 9 jf:=fk [(50,zM),(51,wD),(52,jJ),(53,zO)] ⟨GI,DT,mB,GK,trivial⟩ Tryz.func9 .no
theorem jL:FOk Tryz.prog 89 fv:=fk [] trivial Tryz.func89 (.two .no (.two .no (.two (.two .no (.loop [.slot 13 (.num .i64)] .no)) .no)))
theorem dR:FOk Tryz.prog 90 bY:=fk [] trivial Tryz.func90 (.two .no (.two .no (.two (.two .no (.loop [.slot 17 (.num .i64)] .no)) .no)))
theorem gj:FOk Tryz.prog 92 dH:=fk [] trivial Tryz.func92 (.two .no (.two .no (.two (.two .no (.loop [.slot 13 (.num .i64)] .no)) .no)))
theorem pv:FOk Tryz.prog 91 kp:=fk [(92,dH)] ⟨gj,trivial⟩ Tryz.func91 .no
theorem lT:FOk Tryz.prog 33 iN:=fk [(89,fv),(90,bY),(91,kp)] ⟨jL,dR,pv,trivial⟩ Tryz.func33 .no
theorem cn:FOk Tryz.prog 61 bA:=fk [] trivial Tryz.func61 (.two .no (.two .no (.two (.two .no (.loop [.slot 17 (.num .i64)] .no)) .no)))
end R
namespace R
open Go.RowKit
open D
theorem b9:FOk Tryz.prog 62 bf:=fk [] trivial Tryz.func62 (.two .no (.two .no (.two (.two .no (.loop [.slot 17 (.num .i64)] .no)) .no)))
theorem ji:FOk Tryz.prog 214 eK:=fk [] trivial Tryz.func214 (.two .no (.two .no (.two (.two .no (.loop [.slot 13 (.num .i64)] .no)) .no)))
theorem vJ:FOk Tryz.prog 131 oT:=fk [(214,eK)] ⟨ji,trivial⟩ Tryz.func131 .no
theorem sD:FOk Tryz.prog 63 mP:=fk [(131,oT)] ⟨vJ,trivial⟩ Tryz.func63 .no
theorem kB:FOk Tryz.prog 12 gO:=fk [(33,iN),(61,bA),(62,bf),(63,mP)] ⟨lT,cn,b9,sD,trivial⟩ Tryz.func12 .no
theorem ru:FOk Tryz.prog 96 ox:=fk [] trivial Tryz.func96 .no
theorem so:FOk Tryz.prog 229 nB:=fk [(96,ox)] ⟨ru,trivial⟩ Tryz.func229 .no
theorem Bm:FOk Tryz.prog 152 uB:=fk [(96,ox),(229,nB)] ⟨ru,so,trivial⟩ Tryz.func152 (.two .no (.two (.two .no (.two .no (.two .no (.two .no (.two .no (.join [.slot 37 .boo] .no .no)))))) .no))
theorem jv:FOk Tryz.prog 153 bC:=zH (f:=bC) (gF (f:=⟨bC.ps,bC.rs,bC.m,none⟩) (enters_of Tryz.func153 (by kernel_rfl) rfl) rfl (fun d=>rfl)) (CC (V:=⟨tt,[],[(5,.raw)],8,[]⟩) zL trivial mixed Tryz.func153 rfl rfl (enters_of Tryz.func153 (by kernel_rfl) rfl) (bO rfl) .no (fun E bn xs=>by cases bn <;> kernel_rfl))
theorem rv:FOk Tryz.prog 82 oy:=fk [(152,uB),(153,bC)] ⟨Bm,jv,trivial⟩ Tryz.func82 (.two .no (.two .no (.two (.two .no (.loop [.slot 3 (.own 116 QH),.slot 13 (.num .i64)] (.two .no (.two .no (.two (.two .no (.two .no (.two (.two .no (.at [.slot 6 (.num .i64)] (.two (.two .no (.at [.slot 19 .boo] .no)) (.two .no (.two (.two .no (.at [.slot 22 .boo] .no)) .no))))) .no))) .no))))) .no))) (tr:=[(187,116,rW)])
theorem DU:FOk Tryz.prog 151 wE:=fk [(82,oy)] ⟨rv,trivial⟩ Tryz.func151 .no (tr:=[(187,116,rW)])
theorem uO:FOk Tryz.prog 81 nC:=fk [(151,wE)] ⟨DU,trivial⟩ Tryz.func81 .no
theorem oW: ∀n,FOk Tryz.prog 234 (ja n)
 | 0=>gF (f:=ja 0) (enters_of Tryz.func234 (by kernel_rfl) rfl) rfl (fun d=>rfl)
 | n+1=>by
  have ih:=oW n
  exact fk [(234,(ja n))] ⟨ih,trivial⟩ Tryz.func234 (.two .no (.two .no (.two (.two .no (.loop [.slot 3 (.num .i64),.slot 11 (.num .i64)] (.two .no (.two .no (.two (.at [.slot 3 (.num .i64)] .no) .no))))) .no))) (tr:=[(187,116,rW)])
theorem JK:FOk Tryz.prog 320 CG:=fk [] trivial Tryz.func320 .no (tr:=[(187,116,rW)])
theorem sp: ∀n,FOk Tryz.prog 296 (kV n)
 | 0=>gF (f:=kV 0) (enters_of Tryz.func296 (by kernel_rfl) rfl) rfl (fun d=>rfl)
 | n+1=>by
  have ih:=sp n
  exact fk [(296,(kV n)),(320,CG)] ⟨ih,JK,trivial⟩ Tryz.func296 .no (tr:=[(187,116,rW)])
theorem nL: ∀n,FOk Tryz.prog 235 (iA n)
 | 0=>gF (f:=iA 0) (enters_of Tryz.func235 (by kernel_rfl) rfl) rfl (fun d=>rfl)
 | n+1=>by
  have ih:=nL n
  exact fk [(235,(iA n)),(296,(kV dE))] ⟨ih,(sp dE),trivial⟩ Tryz.func235 (.two .no (.two .no (.two .no (.two (.two .no (.loop [.slot 41 (.num .i64),.box 3 [(.num .i64),(.num .i64),(.num .i64),(.num .i64),(.own 116 (.tree 187 116 rW))]] .no)) .no)))) (an:=[(52,t116)]) (tr:=[(187,116,rW)])
theorem mR: ∀n,FOk Tryz.prog 297 (gI n)
 | 0=>gF (f:=gI 0) (enters_of Tryz.func297 (by kernel_rfl) rfl) rfl (fun d=>rfl)
 | n+1=>by
  have ih:=mR n
  exact fk [(297,(gI n))] ⟨ih,trivial⟩ Tryz.func297 (.two (.two .no (.loop [.slot 11 (.num .i64),.box 1 [(.own 156 rW)]] .no)) .no) (tr:=[(187,116,rW)])
end R
end Go.Proofs.YtbhafdfiplkacaaGreat
