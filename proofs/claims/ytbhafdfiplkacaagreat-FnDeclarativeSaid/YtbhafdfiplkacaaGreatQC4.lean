/- FnDeclarative: for every input the law returns true and changes nothing that was there. Part 5 of 8. -/
import Derived.Test.YtbhafdfiplkacaaGreatQC3
set_option linter.unusedVariables false
set_option linter.unusedSimpArgs false
set_option linter.unnecessarySimpa false
set_option linter.unusedSectionVars false
set_option maxRecDepth 1000000
namespace Go.Proofs.YtbhafdfiplkacaaGreat
namespace R
open Go.RowKit
open D
def KR (i:Nat):(p:PM)->p.den->AV
 | .rd t,d=>I8 i t d
 | .ow t,d=>Js (jF i [] t d)
 | .fn a b,d=>.one (.fn ⟨i,[]⟩ a b d)
 | .cap T t,d=>.one (.fz ⟨i,[]⟩ T t d 0)
 | .capf T a b,d=>.one (.fzf ⟨i,[]⟩ T a b d)
 | .ptr _ _,_=>.one (.ptr ⟨i,[]⟩ 0)
 | .eat t,d=>Js (jF i [] t d)
 | .fk g,_=>.one (.val (.func (.func g) #[] #[]))
 | .crs _ _,_=>.one (.ptr ⟨i,[]⟩ 0)
def Gf (q i:Nat):(p:PM)->p.den->List (Hdr×Chk)
 | .ow t,d=>j4 i [] t d
 | .ptr T t,d=>[(⟨i,[]⟩,.box T t d)]
 | .eat t,d=>j4 i [] t d
 | .crs T E,d=>[(⟨i,[]⟩,.blk T [.rd ⟨q,[]⟩ (.sl E (.int .u8)) d.1,.val (.int .i64 d.2.1),.val (.int .i64 d.2.2)])]
 | _,_=>[]
def Gg:(i:Nat)->(ps:List PM)->denP ps->List (Nat×Nat×AV)
 | _,[],_=>[]
 | i,p::ps,d=>(i,i,KR i p d.1)::Gg (i+1) ps d.2
def CF (q:Nat):(i:Nat)->(ps:List PM)->denP ps->List Ent
 | _,[],_=>[]
 | i,p::ps,d=>(Gf q i p d.1).map (fun g=>(g.1,i,g.2))++CF q (i+1) ps d.2
def vn (ps:List PM) (d:denP ps):Sg:=⟨Gg 0 ps d,CF ps.length 0 ps d,ps.length+1⟩
def Xw (P:Program) (w0:World) (J:Hp) (θ:Th) (n i:Nat):(p:PM)->Value->p.den->Prop
 | .ow t,v,d=>(jF i [] t d).2.map (·.v θ)=iO t.isProd v/\ ∀x∈(jF i [] t d).2,x.ok P w0 J θ n
 | .ptr _ _,v,_=>hv θ ⟨i,[]⟩=v/\i<n
 | .crs _ _,v,_=>hv θ ⟨i,[]⟩=v/\i<n
 | _,_,_=>True
def StF (P:Program) (w0:World) (J:Hp) (θ:Th) (n:Nat):(i:Nat)->(ps:List PM)->List Value->denP ps->Prop
 | i,p::ps,v::vs,d=>Xw P w0 J θ n i p v d.1/\StF P w0 J θ n (i+1) ps vs d.2
 | _,_,_,_=>True
section
variable {P:Program} {w0 w:World} {J:Hp} {θ:Th} {n:Nat} {C:List Ch}
theorem vo {id:Nat} {pre:List Nat} {t:Ty} {d:t.den} : ∀g∈j4 id pre t d,Nn g.2:=gI t d 0
theorem KS {p:PM} {i:Nat} {v:Value} {d:p.den} {ps:List PM} {vs:List Value} {e:denP ps} {γ:Value} {q:Nat} (hi:i<n) (hq:q<n) (hγ:θ q=γ) (hθ:θ i=v) (h:Wx P w0 J γ p v d) (hS:St J w0 w (owCh γ (p::ps) (v::vs) (d,e)++C)) :
  (∀chs,(KR i p d).ok P w0 J θ n chs)/\(KR i p d).v θ=v/\St J w0 w ((Gf q i p d).map (fun g=>toCh P θ (g.1,i,g.2))++(owCh γ ps vs e++C))/\(∀g∈Gf q i p d,RK P w0 J θ n g.2/\g.1.id=i)/\Xw P w0 J θ n i p v d:=by
 cases p with
 | rd t =>
  obtain ⟨cs,h1,h2⟩:=h
  have hav:=fun chs=>nS (P:=P) (w0:=w0) (J:=J) (chs:=chs) hi hθ t d cs h2 h1
  exact ⟨fun chs=>(hav chs).1,(hav []).2,hS,fun g hg=>(by cases hg),trivial⟩
 | fn a b =>
  have hh:hv θ ⟨i,[]⟩=v:=hθ
  exact ⟨fun chs=>⟨hi,by rw[hh];exact h⟩,hh,hS,fun g hg=>(by cases hg),trivial⟩
 | cap T t =>
  obtain ⟨b,rfl,cells,h1,h2⟩:=h
  have hh:hv θ ⟨i,[]⟩= .pointer (some ⟨b,0,none⟩):=hθ
  refine ⟨fun chs=>⟨hi,cells,by rw[hh];exact h1,h2⟩,?_,hS,fun g hg=>(by cases hg),trivial⟩
  show Value.pointer (some ⟨bk (hv θ ⟨i,[]⟩),0,none⟩)=_
  rw[hh];rfl
 | capf T x y =>
  obtain ⟨b,rfl,u,h1,h2⟩:=h
  have hh:hv θ ⟨i,[]⟩= .pointer (some ⟨b,0,none⟩):=hθ
  refine ⟨fun chs=>⟨hi,u,by rw[hh];exact h1,h2⟩,?_,hS,fun g hg=>(by cases hg),trivial⟩
  show Value.pointer (some ⟨bk (hv θ ⟨i,[]⟩),0,none⟩)=_
  rw[hh];rfl
 | ptr T t =>
  obtain ⟨b,rfl⟩:=h
  have hh:hv θ ⟨i,[]⟩= .pointer (some ⟨b,0,none⟩):=hθ
  refine ⟨fun chs=>hi,?_,?_,fun g hg=>by obtain rfl:=au hg;exact ⟨.inl trivial,rfl⟩,hh,hi⟩
  ·show Value.pointer (some ⟨bk (hv θ ⟨i,[]⟩),0,none⟩)=_
   rw[hh];rfl
  ·show St J w0 w (Ch.box (bk (hv θ ⟨i,[]⟩)) T t.rep d::_)
   rw[hh];exact hS
 | ow t =>
  have hS:St J w0 w (Ch.own t.rep (iO t.isProd v) d::(owCh γ ps vs e++C)):=hS
  obtain ⟨k1,k2,k3,k4,k5⟩:=sQ (P:=P) (m:=i) (pre:=[]) (id:=i) (n:=n) hi (show hv θ ⟨i,[]⟩=v from hθ) h hS
  have q:=fun chs=>Ay (P:=P) (w0:=w0) (J:=J) (θ:=θ) (n:=n) (chs:=chs) (jF i [] t d) (fun e=>pR e) k1
  exact ⟨fun chs=>(q chs).1,(q []).2.trans k3,k5,fun g hg=>⟨.inl (vo g hg),k4 g hg⟩,k2,k1⟩
 | eat t =>
  have hS:St J w0 w (Ch.own t.rep (iO t.isProd v) d::(owCh γ ps vs e++C)):=hS
  obtain ⟨k1,k2,k3,k4,k5⟩:=sQ (P:=P) (m:=i) (pre:=[]) (id:=i) (n:=n) hi (show hv θ ⟨i,[]⟩=v from hθ) h hS
  have q:=fun chs=>Ay (P:=P) (w0:=w0) (J:=J) (θ:=θ) (n:=n) (chs:=chs) (jF i [] t d) (fun e=>pR e) k1
  exact ⟨fun chs=>(q chs).1,(q []).2.trans k3,k5,fun g hg=>⟨.inl (vo g hg),k4 g hg⟩,trivial⟩
 | fk g =>
  obtain rfl:=h
  exact ⟨fun chs=>rfl,rfl,hS,fun g hg=>(by cases hg),trivial⟩
 | crs T E =>
  obtain ⟨⟨b,rfl⟩,hrd⟩:=h
  have hh:hv θ ⟨i,[]⟩= .pointer (some ⟨b,0,none⟩):=hθ
  have hg0:hv θ ⟨q,[]⟩=γ:=hγ
  refine ⟨fun chs=>hi,?_,?_,fun g hg=>?_,hh,hi⟩
  ·show Value.pointer (some ⟨bk (hv θ ⟨i,[]⟩),0,none⟩)=_
   rw[hh];rfl
  ·show St J w0 w (Ch.blk (bk (hv θ ⟨i,[]⟩)) [hv θ ⟨q,[]⟩,.int .i64 d.2.1,.int .i64 d.2.2] T::_)
   rw[hh,hg0];exact hS
  ·obtain rfl:=au hg
   refine ⟨.inr ⟨_,_,rfl,fun z hz=>?_⟩,rfl⟩
   rcases ay hz with rfl | hz
   ·exact ⟨hq,by rw[hg0];exact hrd⟩
   ·rcases ay hz with rfl | hz
    ·exact Eq.refl true
    ·obtain rfl:=au hz
     exact Eq.refl true
theorem Gh {γ:Value} {q:Nat} (hq:q<n) (hγ:θ q=γ): ∀ {ps:List PM} {i:Nat} {vs:List Value} {d:denP ps} {C:List Ch},PArgs P w0 J γ ps vs d->(∀j v,vs[j]? =some v->θ (i+j)=v)->i+ps.length<=n->St J w0 w (owCh γ ps vs d++C)->
  (∀e∈Gg i ps d,(∀chs,e.2.2.ok P w0 J θ n chs)/\i<=e.1/\e.2.1=e.1/\e.1<i+ps.length/\vs[e.1 - i]? =some (e.2.2.v θ))/\((Gg i ps d).Pairwise fun a b=>a.2.1≠b.2.1)/\St J w0 w ((CF q i ps d).map (toCh P θ)++C)/\(∀e∈CF q i ps d,∀chs,okE P w0 J θ n chs e)/\StF P w0 J θ n i ps vs d
 | [],i,vs,d,C,h,_,_,hS=>by
  have h:vs= []:=h
  subst h
  exact ⟨fun e he=>(by cases he),List.Pairwise.nil,hS,fun e he=>(by cases he),trivial⟩
 | p::ps,i,vs,d,C,h,hθ,hn,hS=>by
  obtain ⟨v,r,rfl,h1,h3⟩:=h
  rw[al] at hn
  obtain ⟨a1,a2,a3,a4,a5⟩:=KS (n:=n) (i:=i) (θ:=θ) (e:=d.2) (show i<n by omega) hq hγ (hθ 0 v rfl) h1 hS
  obtain ⟨k1,k2,k3,k4,k5⟩:=Gh hq hγ (i:=i+1) h3 (fun j u hj=>by
   have:=hθ (j+1) u hj
   rwa [show i+(j+1)=i+1+j from by omega] at this) (by omega) (a3.perm (List.perm_append_comm_assoc _ _ _))
  refine ⟨fun e he=>?_,List.pairwise_cons.2 ⟨fun e he hh=>?_,k2⟩,?_,fun e he chs=>?_,a5,k5⟩
  ·rcases ay he with rfl | he
   ·exact ⟨a1,aq _,rfl,by rw[al];show i<_;omega,by show (v::r)[i - i]? =_;rw[Nat.sub_self,a2];rfl⟩
   ·obtain ⟨q1,q2,q3,q4,q5⟩:=k1 e he
    refine ⟨q1,by omega,q3,by rw[al];omega,?_⟩
    rw[show e.1 - i=(e.1 - (i+1))+1 from by omega];exact q5
  ·have:=k1 e he
   have hh:i=e.2.1:=hh
   omega
  ·show St J w0 w (((Gf q i p d.1).map _++CF q (i+1) ps d.2).map (toCh P θ)++C)
   rw[aK,List.map_map]
   refine k3.perm ?_
   rw[aj]
   exact List.perm_append_comm_assoc _ _ _
  ·rcases aI he with he | he
   ·obtain ⟨g,hg,rfl⟩:=List.mem_map.1 he
    obtain ⟨g1,g2⟩:=a4 g hg
    exact AD g1 (aq _) (by omega) (by omega)
   ·exact k4 e he chs
theorem CG {γ:Value} : ∀ {ps:List PM} {vs:List Value} {d:denP ps},PArgs P w0 J γ ps vs d->vs.length=ps.length
 | [],vs,d,h=>by
  have h:vs= []:=h
  subst h;rfl
 | p::ps,vs,d,h=>by
  obtain ⟨v,r,rfl,h1,h3⟩:=h
  simpa using CG h3
end
def Sx (tt:TT) (s:Sg):ResultVar->Option AV
 | .tmp t=>look s.env t
 | .cell p T=>(MI (look s.env p)).bind fun h=>(td tt T).bind fun d=>(rO h s.chs).bind fun b=>bN (Nat.beq b.cells.length d.n) (Wv d.agg b.cells)
theorem Sy {v:Option AV} {h:Hdr} (k:MI v=some h):v=some (.one (.ptr h 0)):=by
 unfold MI at k
 split at k
 ·rename_i h' off
  split at k
  ·rename_i ho
   rw[ax ho,ae k]
  ·cases k
 ·cases k
section
variable {P:Program} {I:Hp} {w0 w:World} {F:Ch} {J:Hp} {θ:Th} {n:Nat} {s:Sg} {a:Act} {tt:TT}
theorem Sz (ha:Agr n a (envL θ s)) {t g:Nat} {T E:TypeId} {v:Value} {cs:List Ch} (h:(envL θ s).lookup t=some (.pointer (some ⟨g,0,none⟩))) (hs:St J w0 w cs) (i:Nat) (hi:cs[i]? =some (Ch.blk g [v] E)) (hT:TI P T false 1):DF P a w (.cell t T) v:=by
 refine ⟨_,ha.2.2 t _ h,?_⟩
 have hg:=hs.heap i hi
 have hc:w.cell? ⟨g,0,none⟩=some v:=by simp[World.cell?,hg]
 simp[loadVar,Sem.run_bind,hT.run_agg,load,Sem.run,hc,Result.andThen]
theorem OA (hT:TTok P tt) (hS:Sim P I w0 F n J θ s a w) {r:ResultVar} {v:AV} (h:Sx tt s r=some v):DF P a w r (v.v θ)/\v.ok P w0 J θ s.nxt s.chs:=by
 cases r with
 | tmp t=>exact ⟨Q3 hS.agr (fW h),bj (x:=.tmp t) hS.fine h⟩
 | cell p T =>
  obtain ⟨hh,h1,h⟩:=bind_some (show (MI (look s.env p)).bind _=some v from h)
  obtain ⟨d,hd,h⟩:=bind_some h
  obtain ⟨b,hb,h⟩:=bind_some h
  obtain ⟨hl,h⟩:=aw h
  have hl:=ax hl
  have hp:=jD hb
  have hok:=hS.fine.chs _ (hp.mem_iff.2 (List.mem_cons_self ..))
  obtain ⟨k1,k2⟩:=Jm (chs:=s.chs) h hok.2.2
  refine ⟨?_,k1⟩
  have hlk:(envL θ s).lookup p=some (.pointer (some ⟨bk (hv θ hh),0,none⟩)):=fW (Sy h1)
  have hst:=hS.st.perm ((hp.map (toCh P θ)).append_right [F])
  have hti:=(hT.get hd).ti
  cases hagg:d.agg with
  | true =>
   rw[hagg] at k2 hti
   rw[<-k2]
   exact MQ hS.agr hlk hst 0 rfl hti (by rw[List.length_map];exact hl)
  | false =>
   rw[hagg] at k2 hti h
   have h1':d.n=1:=by
    have:=(hT.get hd).one
    rw[hagg] at this
    simpa using this
   obtain ⟨x,hx⟩:=List.length_eq_one_iff.1 (hl.trans h1')
   rw[h1'] at hti
   rw[hx] at k2
   rw[<-k2]
   have hst2:St J w0 w (Ch.blk (bk (hv θ hh)) [x.v θ] b.T::(b.rest.map (toCh P θ)++ [F])):=by
    have:(toCh P θ (b.ent hh))=Ch.blk (bk (hv θ hh)) (b.cells.map (·.v θ)) b.T:=rfl
    rw[hx] at this
    rw[<-show toCh P θ (b.ent hh)=Ch.blk (bk (hv θ hh)) [x.v θ] b.T from this]
    exact hst
   exact Sz hS.agr hlk hst2 0 rfl hti
end
def En:(ts:List Ty)->List AV->List Ent->Option (iN ts×List Ent×List Ent)
 | [],[],chs=>some ((),[],chs)
 | t::ts,v::vs,chs=>bN (sU v==t.isProd) ((jj v).bind fun cs=>(dt t cs chs).bind fun q=>bN q.cells.isEmpty ((En ts vs q.rest).bind fun r=>some ((q.d,r.1),q.used++r.2.1,r.2.2)))
 | _,_,_=>none
def uA:(ts:List Ty)->List Value->iN ts->List Ch
 | t::ts,v::vs,d=>Ch.own t.rep (iO t.isProd v) d.1::uA ts vs d.2
 | _,_,_=>[]
theorem zq {P:Program} {w0:World} {J:Hp} {θ:Th} {n:Nat} {chs0:List Ent} : ∀ {ts:List Ty} {vs:List AV} {chs:List Ent} {r:iN ts×List Ent×List Ent},En ts vs chs=some r->(∀v∈vs,v.ok P w0 J θ n chs0)->
  chs.Perm (r.2.1++r.2.2)/\vs.length=ts.length/\nz J (r.2.1.map (toCh P θ)) (uA ts (vs.map (·.v θ)) r.1)/\ ∀(i:Nat) t v,ts[i]? =some t->vs[i]? =some v->l9 (v.v θ)=t.isProd
 | [],[],chs,r,h,_=>by
  obtain rfl:=ae (show some _=some r from h)
  exact ⟨List.Perm.refl _,rfl,sJ,fun i t v ht=>by simp at ht⟩
 | t::ts,v::vs,chs,r,h,hv'=>by
  obtain ⟨ha,h⟩:=aw (show bN (sU v==t.isProd) _=some r from h)
  have ha:sU v=t.isProd:=by simpa using ha
  obtain ⟨cs,hcs,h⟩:=bind_some h
  obtain ⟨q,hq,h⟩:=bind_some h
  obtain ⟨he,h⟩:=aw h
  obtain ⟨r',hr,h⟩:=bind_some h
  obtain rfl:=ae h
  obtain ⟨c1,c2⟩:=ig hcs (hv' v (by simp))
  obtain ⟨p,cc,e1,e2⟩:=jk (J:=J) (θ:=θ) hq c1
  rw[List.isEmpty_iff.1 he,List.append_nil] at e1
  subst e1
  obtain ⟨k1,k2,k3,k4⟩:=zq hr fun x hx=>hv' x (by simp[hx])
  have hcell:iO t.isProd (v.v θ)=cs.map (·.v θ)/\l9 (v.v θ)=t.isProd:=by
   rw[<-ha]
   cases v with
   | agg xs =>
    obtain rfl:=ae (show some xs=some cs from hcs)
    exact ⟨rfl,rfl⟩
   | one x =>
    obtain rfl:=ae (show some [x] =some cs from hcs)
    refine ⟨rfl,?_⟩
    have h1:(x.v θ).oneCell'=true:=LV.one (show LV.ok P w0 J θ n x from hv' (.one x) (by simp))
    show l9 (x.v θ)=false
    generalize x.v θ=u at h1
    cases u <;> first | rfl | cases h1
   | _=>cases hcs
  refine ⟨by rw[aj];exact p.trans (k1.append_left _),by rw[al,al,k2],?_,fun i t' v' ht hv0=>?_⟩
  ·show nz J ((q.used++r'.2.1).map _) (Ch.own t.rep (iO t.isProd (v.v θ)) q.d::uA ts (vs.map _) r'.1)
   rw[aK,hcell.1]
   exact pP e2 k3
  ·cases i with
   | zero =>
    obtain rfl:t=t':=by simpa using ht
    obtain rfl:v=v':=by simpa using hv0
    exact hcell.2
   | succ i=>exact k4 i t' v' (by simpa using ht) (by simpa using hv0)
 | [],_::_,chs,r,h,_=>by cases h
 | _::_,[],chs,r,h,_=>by cases h
def Wk:List Value->Value
 | [v] =>v
 | vs=>.tuple vs.toArray
def Gi (P:Program) (a:Act) (w:World):List ResultVar->List Value->Prop
 | [],vs=>vs= []
 | r::rs,vs=> ∃v us,vs=v::us/\DF P a w r v/\Gi P a w rs us
theorem vp {P:Program} {a:Act} {w:World} {f:ResultVar->Sem Value} (hf: ∀r v,DF P a w r v->(f r).run P w= .ok v w): ∀ {l:List ResultVar} {vs:List Value},Gi P a w l vs->(l.mapM f).run P w= .ok vs w
 | [],vs,h=>by
  have h:vs= []:=h
  subst h
  rw[List.mapM_nil];rfl
 | r::l,vs,h=>by
  obtain ⟨v,us,rfl,h1,h2⟩:=h
  rw[List.mapM_cons,Sem.run_bind,hf r v h1]
  simp only[Result.andThen_ok,Sem.run_bind,vp hf h2]
  rfl
def Wl (a:Act) (r:ResultVar):Sem Value:=match r with
 | .tmp t=>pure (a.tmps.getD t undef)
 | .cell p t=>do loadVar t (<-asAddr (a.tmps.getD p undef))
theorem SC {P:Program} {a:Act} {w:World} {r:ResultVar} {v:Value} (h:DF P a w r v):(Wl a r).run P w= .ok v w:=by
 cases r with
 | tmp t =>
  have h:a.tmps.getD t undef=v:=h
  show (pure (a.tmps.getD t undef):Sem Value).run P w=_
  rw[h];rfl
 | cell p T =>
  obtain ⟨A,h1,h2⟩:=h
  show ((asAddr (a.tmps.getD p undef)) >>=fun x=>loadVar T x).run P w=_
  rw[h1,Sem.run_bind]
  show Result.andThen (.ok A w) _=_
  rw[Result.andThen_ok];exact h2
theorem UY {P:Program} {n:Nat} {a:Act} {w:World} {L:List (Nat×Value)} {fn:Func} {R:Ending->World->Prop} {vs:List Value} (ha:Agr n a L) (h:Gi P a w fn.results.toList vs) (hR:R (.returned (Wk vs)) w):bodyPost P fn R .ret a w:=by
 refine ⟨ha.1,Wk vs,?_,hR⟩
 have hr:((fn.results.mapM (Wl a)):Sem (Array Value)).run P w= .ok vs.toArray w:=by
  rw[Array.mapM_eq_mapM_toList]
  have:=vp (f:=Wl a) (fun r v=>SC) h
  simp[this,Sem.run_map]
 show ((fn.results.mapM (Wl a)) >>=fun vs=>pure (if h:vs.size=1 then vs[0] else .tuple vs):Sem Value).run P w=_
 rw[Sem.run_bind,hr,Result.andThen_ok]
 match vs with
 | [] =>rfl
 | [v] =>rfl
 | _::_::_=>rfl
def eH (g0:Nat):(i:Nat)->(ps:List PM)->denP ps->List Ent->Option (iN (outs ps)×List Ent×List Ent)
 | _,[],_,chs=>some ((),[],chs)
 | i,.ow t::ps,d,chs=>(dt t (jF i [] t d.1).2 chs).bind fun q=>bN q.cells.isEmpty ((eH g0 (i+1) ps d.2 q.rest).bind fun r=>some ((q.d,r.1),q.used++r.2.1,r.2.2))
 | i,.ptr T t::ps,d,chs=>(wQ ⟨i,[]⟩ T t chs).bind fun q=>(eH g0 (i+1) ps d.2 q.2.2).bind fun r=>some ((q.1,r.1),q.2.1++r.2.1,r.2.2)
 | i,.rd _::ps,d,chs=>eH g0 (i+1) ps d.2 chs
 | i,.fn _ _::ps,d,chs=>eH g0 (i+1) ps d.2 chs
 | i,.eat _::ps,d,chs=>eH g0 (i+1) ps d.2 chs
 | i,.cap _ _::ps,d,chs=>eH g0 (i+1) ps d.2 chs
 | i,.capf _ _ _::ps,d,chs=>eH g0 (i+1) ps d.2 chs
 | i,.fk _::ps,d,chs=>eH g0 (i+1) ps d.2 chs
 | i,.crs T E::ps,d,chs=>(rQ ⟨i,[]⟩ T E chs).bind fun q=>bN (Hdr.beq q.g ⟨g0,[]⟩) ((eH g0 (i+1) ps d.2 q.rest).bind fun r=>some ((q.d.2,r.1),q.ent::r.2.1,r.2.2))
theorem eR {P:Program} {w0:World} {J J':Hp} {θ θ':Th} {n n':Nat} {chs0:List Ent} (hJ:J.le J') (hs:Same n θ θ') {γ:Value} {g0:Nat} (hg0:g0<n) (hγ:θ g0=γ): ∀ {ps:List PM} {i:Nat} {d:denP ps} {chs:List Ent} {vs:List Value} {r:iN (outs ps)×List Ent×List Ent},eH g0 i ps d chs=some r->vs.length=ps.length->StF P w0 J θ n i ps vs d->(∀e∈chs,okE P w0 J' θ' n' chs0 e)->
  chs.Perm (r.2.1++r.2.2)/\nz J' (r.2.1.map (toCh P θ')) (outCh γ ps vs r.1)
 | [],i,d,chs,vs,r,h,_,_,_=>by
  obtain rfl:=ae (show some _=some r from h)
  exact ⟨List.Perm.refl _,sJ⟩
 | p::ps,i,d,chs,[],r,h,hl,_,_=>by cases hl
 | .ow t::ps,i,d,chs,v::vs,r,h,hl,hF,hc=>by
  obtain ⟨q,hq,h⟩:=bind_some (show (dt t (jF i [] t d.1).2 chs).bind _=some r from h)
  obtain ⟨he,h⟩:=aw h
  obtain ⟨r',hr,h⟩:=bind_some h
  obtain rfl:=ae h
  obtain ⟨⟨k1,k2⟩,k3⟩:=hF
  obtain ⟨p,cc,e1,e2⟩:=jk (P:=P) (w0:=w0) (J:=J') (θ:=θ') (n:=n) hq fun x hx=>LV.ok_same hs (aq _) (k2 x hx) hJ
  rw[List.isEmpty_iff.1 he,List.append_nil] at e1
  subst e1
  rw[gb hs k2,k1] at e2
  obtain ⟨q1,q2⟩:=eR hJ hs hg0 hγ hr (by simpa using hl) k3 fun e he=>hc e (p.mem_iff.2 (by simp[he]))
  refine ⟨by rw[aj];exact p.trans (q1.append_left _),?_⟩
  show nz J' ((q.used++r'.2.1).map _) (Ch.own t.rep (iO t.isProd v) q.d::outCh γ ps vs r'.1)
  rw[aK]
  exact pP e2 q2
 | .ptr T t::ps,i,d,chs,v::vs,r,h,hl,hF,hc=>by
  obtain ⟨q,hq,h⟩:=bind_some (show (wQ ⟨i,[]⟩ T t chs).bind _=some r from h)
  obtain ⟨r',hr,h⟩:=bind_some h
  obtain rfl:=ae h
  obtain ⟨⟨k1,k2⟩,k3⟩:=hF
  obtain ⟨p,hb⟩:=y8 (P:=P) (w0:=w0) (J:=J') (J':=J') (θ:=θ') hq Hp.le.rfl hc
  obtain ⟨q1,q2⟩:=eR hJ hs hg0 hγ hr (by simpa using hl) k3 fun e he=>hc e (p.mem_iff.2 (by simp[he]))
  refine ⟨by rw[aj];exact p.trans (q1.append_left _),?_⟩
  show nz J' ((q.2.1++r'.2.1).map _) (Ch.box (bk v) T t.rep q.1::outCh γ ps vs r'.1)
  rw[aK]
  have hh:hv θ' ⟨i,[]⟩=v:=(aV hs (show (⟨i,[]⟩:Hdr).id<n from k2)).trans k1
  rw[hh] at hb
  intro w F hsp
  obtain ⟨G,K,rfl,h1,h2⟩:=hsp.split
  exact ⟨G,K,rfl,hb w G h1,q2 w K h2⟩
 | .rd t::ps,i,d,chs,v::vs,r,h,hl,hF,hc=>eR (ps:=ps) hJ hs hg0 hγ (show eH g0 (i+1) ps d.2 chs=some r from h) (by simpa using hl) hF.2 hc
 | .fn _ _::ps,i,d,chs,v::vs,r,h,hl,hF,hc=>eR (ps:=ps) hJ hs hg0 hγ (show eH g0 (i+1) ps d.2 chs=some r from h) (by simpa using hl) hF.2 hc
 | .eat _::ps,i,d,chs,v::vs,r,h,hl,hF,hc=>eR (ps:=ps) hJ hs hg0 hγ (show eH g0 (i+1) ps d.2 chs=some r from h) (by simpa using hl) hF.2 hc
 | .cap _ _::ps,i,d,chs,v::vs,r,h,hl,hF,hc=>eR (ps:=ps) hJ hs hg0 hγ (show eH g0 (i+1) ps d.2 chs=some r from h) (by simpa using hl) hF.2 hc
 | .capf _ _ _::ps,i,d,chs,v::vs,r,h,hl,hF,hc=>eR (ps:=ps) hJ hs hg0 hγ (show eH g0 (i+1) ps d.2 chs=some r from h) (by simpa using hl) hF.2 hc
 | .fk _::ps,i,d,chs,v::vs,r,h,hl,hF,hc=>eR (ps:=ps) hJ hs hg0 hγ (show eH g0 (i+1) ps d.2 chs=some r from h) (by simpa using hl) hF.2 hc
 | .crs T E::ps,i,d,chs,v::vs,r,h,hl,hF,hc=>by
  obtain ⟨q,hq,h⟩:=bind_some (show (rQ ⟨i,[]⟩ T E chs).bind _=some r from h)
  obtain ⟨hb,h⟩:=aw h
  obtain ⟨r',hr,h⟩:=bind_some h
  obtain rfl:=ae h
  obtain ⟨⟨k1,k2⟩,k3⟩:=hF
  obtain ⟨p,ver,he⟩:=lU hq
  obtain ⟨q1,q2⟩:=eR hJ hs hg0 hγ hr (by simpa using hl) k3 fun e he=>hc e (p.mem_iff.2 (by simp[he]))
  refine ⟨p.trans (q1.cons _),?_⟩
  have hh:hv θ' ⟨i,[]⟩=v:=(aV hs (show (⟨i,[]⟩:Hdr).id<n from k2)).trans k1
  have hg:hv θ' q.g=γ:=by
   rw[Hdr.beq_eq hb]
   show vg (θ' g0) [] =γ
   rw[hs g0 hg0,hγ];rfl
  show nz J' (toCh P θ' q.ent::r'.2.1.map _) (Ch.blk (bk v) [γ,.int .i64 q.d.2.1,.int .i64 q.d.2.2] T::outCh γ ps vs r'.1)
  rw[he]
  intro w F hsp
  obtain ⟨G,K,rfl,h1,h2⟩:=hsp
  have h1:(Ch.blk (bk (hv θ' ⟨i,[]⟩)) [hv θ' q.g,.int .i64 q.d.2.1,.int .i64 q.d.2.2] T).holds J' w G:=h1
  rw[hh,hg] at h1
  exact ⟨G,K,rfl,h1,q2 w K h2⟩
def ofH:(ts:List Ty)->iN ts->dens ts
 | [],_=>()
 | [_],d=>d.1
 | _::u::ts,d=>(d.1,ofH (u::ts) d.2)
theorem Eo: ∀(ts:List Ty) (d:iN ts),toH ts (ofH ts d)=d
 | [],_=>rfl
 | [_],_=>rfl
 | _::u::ts,d=>congrArg (Prod.mk d.1) (Eo (u::ts) d.2)
def xl:(ts us:List Ty)->iN ts->iN us->iN (ts++us)
 | [],_,_,e=>e
 | _::ts,us,d,e=>(d.1,xl ts us d.2 e)
theorem AZ: ∀(ts us:List Ty) (d:iN ts) (e:iN us),hFst ts us (xl ts us d e)=d
 | [],_,_,_=>rfl
 | _::ts,us,d,e=>congrArg (Prod.mk d.1) (AZ ts us d.2 e)
theorem Gj: ∀(ts us:List Ty) (d:iN ts) (e:iN us),hSnd ts us (xl ts us d e)=e
 | [],_,_,_=>rfl
 | _::ts,us,d,e=>Gj ts us d.2 e
def xm (tt:TT) (s:Sg):List ResultVar->Option (List AV)
 | [] =>some []
 | r::rs=>(Sx tt s r).bind fun v=>(xm tt s rs).bind fun vs=>some (v::vs)
def Ep (s:Sg):List AV->List Hdr
 | [] =>[]
 | v::vs=>xa v++Ep s vs
def vX:List Ent->List Hdr
 | [] =>[]
 | e::l=>match e.2.2 with
  | .hole _ _ _ _ _ _ _ _ _ _=>e.1::vX l
  | _=>vX l
def UZ:List AV->List (Bool×Hdr)
 | [] =>[]
 | v::vs=>Xu true v++UZ vs
def CH (tr:Trs) (vs:List AV) (s:Sg):Sg:=match tr with
 | [] =>s
 | _=>ND tr (UZ vs) s
def OB (tr:Trs) (vs:List AV) (s0:Sg):Sg:=match CH tr vs s0 with
 | s=>sZ (Ep s0 vs++vX s.chs) s
def nlN:List AV->(ts:List Ty)->iN ts->Int
 | [.one (.own _)],[.sl _ t],d=>((List.length (α:=t.den) d.1:Nat):Int)
 | [.one (.val v)],[.sl _ _],_=>match isNil v with
  | true=>1
  | false=>0
 | _,_,_=>0
def U0 (an:List (Nat×Ty)) (vs:List AV) (ts:List Ty) (d:iN ts):Option Unit:=match w9 1000000 an with
 | true=>chk (0<nlN vs ts d)
 | false=>some ()
theorem U1 {vs:List AV} {ts:List Ty} {d:iN ts} {θ:Th} (h:0<nlN vs ts d) {v:Value} (hv:vs.map (·.v θ)= [v]):vd ts d v:=by
 unfold nlN at h
 split at h
 ·intro h0
  omega
 ·split at h
  ·rename_i h1
   intro _
   have:=lI h1
   subst this
   simpa [AV.v,LV.v] using hv.symm
  ·omega
 ·omega
def HS (V:Env) (rvs:List ResultVar) (rs:List Ty) (ps:List PM) (d:denP ps) (s00:Sg):Option (dens (rs++outs ps)):=(xm V.tt s00 rvs).bind fun vs00=>NM vs00 s00 fun s0=>(xm V.tt s0 rvs).bind fun vs0=>match OB V.tr vs0 s0 with
 | s=>(xm V.tt s rvs).bind fun vs=>(En rs vs s.chs).bind fun r=>(eH ps.length 0 ps d r.2.2).bind fun o=>(U0 V.an vs rs r.1).bind fun _=>some (ofH _ (xl rs (outs ps) r.1 o.1))
end R
namespace R
open Go.RowKit
open D
theorem zr {vs:List Value} : ∀ {ts:List Ty} {i:Nat} {us:List Value} {d:iN ts},us.length=ts.length->(∀j v,us[j]? =some v->vs[i+j]? =some v)->sL i ts d (.tuple vs.toArray)=uA ts us d
 | [],i,us,d,h,_=>by
  cases us with
  | nil=>rfl
  | cons _ _=>cases h
 | t::ts,i,[],d,h,_=>by cases h
 | t::ts,i,u::us,d,h,k=>by
  have h0:vg (.tuple vs.toArray) [i] =u:=by
   show vs.toArray.getD i undef=u
   have:=k 0 u rfl
   rw[Nat.add_zero] at this
   simp[Array.getD_eq_getD_getElem?,this]
  show Ch.own t.rep (iO t.isProd (vg (.tuple vs.toArray) [i])) d.1::sL (i+1) ts d.2 _=Ch.own t.rep (iO t.isProd u) d.1::uA ts us d.2
  rw[h0,zr (us:=us) (by simpa using h) fun j v hj=>by
   have:=k (j+1) v (by simpa using hj)
   rwa [show i+(j+1)=i+1+j from by omega] at this]
theorem HT {ts:List Ty} {vs:List Value} {d:iN ts} (h:vs.length=ts.length):resGv ts d (Wk vs)=uA ts vs d:=by
 match ts,vs,d,h with
 | [],[],d,_=>rfl
 | [t],[v],d,_=>rfl
 | t::u::ts,v::w::vs,d,h =>
  show sL 0 _ d (.tuple (v::w::vs).toArray)=_
  exact zr h fun j x hj=>by rw[Nat.zero_add];exact hj
theorem OC {ts:List Ty} {vs:List Value} (h:vs.length=ts.length) (k: ∀(i:Nat) t v,ts[i]? =some t->vs[i]? =some v->l9 v=t.isProd):resFa ts (Wk vs):=by
 match ts,vs,h with
 | [],[],_=>exact ⟨#[],rfl,rfl,fun i t ht=>by simp at ht⟩
 | [t],[v],_=>exact k 0 t v rfl rfl
 | t::u::ts,v::w::vs,h =>
  refine ⟨(v::w::vs).toArray,rfl,by simpa using h,fun i t' ht=>?_⟩
  have hlt:i<(v::w::vs).length:=by rw[h];exact (List.getElem?_eq_some_iff.1 ht).1
  have:=k i t' ((v::w::vs)[i]) ht (List.getElem?_eq_getElem hlt)
  rw[<-this,Array.getD_eq_getD_getElem?,List.getElem?_toArray,List.getElem?_eq_getElem hlt];rfl
theorem tg {P:Program} {I:Hp} {w0 w:World} {F:Ch} {J:Hp} {θ:Th} {n:Nat} {s:Sg} {a:Act} {tt:TT} (hT:TTok P tt) (hS:Sim P I w0 F n J θ s a w): ∀ {rs:List ResultVar} {vs:List AV},xm tt s rs=some vs->Gi P a w rs (vs.map (·.v θ))/\ ∀v∈vs,v.ok P w0 J θ s.nxt s.chs
 | [],vs,h=>by
  obtain rfl:=ae (show some [] =some vs from h)
  exact ⟨rfl,fun v hv=>by cases hv⟩
 | r::rs,vs,h=>by
  obtain ⟨v,hv',h⟩:=bind_some (show (Sx tt s r).bind _=some vs from h)
  obtain ⟨us,hus,h⟩:=bind_some h
  obtain rfl:=ae h
  obtain ⟨k1,k2⟩:=OA hT hS hv'
  obtain ⟨q1,q2⟩:=tg hT hS hus
  refine ⟨⟨_,_,rfl,k1,q1⟩,fun x hx=>?_⟩
  rcases ay hx with rfl | hx
  ·exact k2
  ·exact q2 x hx
theorem KT {J:Hp} {a b c d:List Ch} (h:nz J a b) (k:nz J c d):nz J (a++c) (b++d):=fun w F hs=>by
 obtain ⟨G,K,rfl,e1,e2⟩:=hs.split
 exact (h w G e1).append (k w K e2)
theorem St.sepTo {J:Hp} {w0 w:World} {a b C:List Ch} (h:St J w0 w (a++C)) (k:nz J a b):St J w0 w (b++C):=by
 obtain ⟨h1,h2,F,h3,h4,h5⟩:=h
 obtain ⟨G,K,rfl,e1,e2⟩:=h3.split
 exact ⟨h1,h2,G++K,(k w G e1).append e2,h4,h5⟩
theorem uB {P:Program} {n:Nat} {I:Hp} {w0:World} {k:FuncId} {fn:Func} {c:Code} {args:Array Value} {rn:List Ch} {fact:Value->Prop} {gv:Value->List Ch} (L:List (Nat×Value)) (hf:P.funcs[k]? =some fn) (hb:fn.body=some c) (hn:fn.ntmps=n) (hm:args.size<=n) (hL: ∀p∈L,args[p.1]? =some p.2)
  (h: ∀F w a,Agr n a L->St I w0 w (rn++ [F])->c.wp P (bodyPost P fn fun e w'=> ∃v,e= .returned v/\fact v/\ ∃J,I.le J/\St J w0 w' (gv v++ [F])) a w) (hd: ∀v,Ch.back (gv v)):Con P k args I w0 rn fact gv:=by
 intro w C hs
 have hs':St I w0 w (rn++ [Ch.fr I C]):=by
  obtain ⟨hb,hi,F,h1,h2,h3⟩:=hs
  obtain ⟨G,K,rfl,e1,e2⟩:=h1.split
  exact ⟨hb,hi,G++K,e1.append ⟨K,[],by simp,e2,rfl⟩,h2,h3⟩
 have:=h (Ch.fr I C) w { tmps:=args++Array.replicate (fn.ntmps - args.size) undef,defers:=[] } (Agr.start L (by omega) hL) hs'
 refine (calls_of_wp hf hb this).mono ?_
 rintro e w' ⟨v,rfl,hv,J,hJ,hs⟩
 exact ⟨v,rfl,hv,hs.back hJ (hd v)⟩
theorem OD {P:Program} {I:Hp} {w0 w:World} {F:Ch} {n:Nat} {J:Hp} {θ:Th} {s:Sg} {a:Act} {tr:Trs} {vs:List AV} (hS:Sim P I w0 F n J θ s a w): ∃J' θ',J.le J'/\Sim P I w0 F n J' θ' (OB tr vs s) a w/\Fr s θ (OB tr vs s) θ':=by
 have key: ∃J' θ',J.le J'/\Sim P I w0 F n J' θ' (CH tr vs s) a w/\Fr s θ (CH tr vs s) θ':=by
  unfold CH
  split
  ·exact ⟨J,θ,Hp.le.rfl,hS,Fr.rfl⟩
  ·exact rS hS
 obtain ⟨J',θ',h1,h2,h3⟩:=key
 obtain ⟨S2,F2⟩:=qF (V:=⟨[],[],[],n,[]⟩) (hs:=Ep s vs++vX (CH tr vs s).chs) h2
 exact ⟨J',θ',h1,S2,h3.trans F2⟩
theorem Qg {V:Env} {P:Program} {w0:World} {F:Ch} {J:Hp} {θ:Th} (hT:TTok P V.tt) {fn:Func} {rs:List Ty} {ps:List PM} {d:denP ps} {vs:List Value} {s0:Sg} (k0:vs.length=ps.length) (k5:StF P w0 J θ (ps.length+1) 0 ps vs d) (hn0:ps.length+1<=s0.nxt) {γ:Value} (hγ:θ ps.length=γ): ∀r J' θ' s' a' w',HS V fn.results.toList rs ps d s'=some r->Sim P J w0 F V.n J' θ' s' a' w'->J.le J'->Fr s0 θ s' θ'->
  bodyPost P fn (fun e w'=> ∃v,e= .returned v/\(resFa rs v/\(w9 1000000 V.an=true->vd rs (hFst rs (outs ps) (toH _ r)) v))/\ ∃J2,J.le J2/\St J2 w0 w' ((resGv rs (hFst rs (outs ps) (toH _ r)) v++outCh γ ps vs (hSnd rs (outs ps) (toH _ r)))++ [F])) .ret a' w':=by
 intro r J' θ' s' a' w' hrt hS' hJ hFr
 obtain ⟨vs00,hv00,hrt⟩:=bind_some (show (xm V.tt s' fn.results.toList).bind _=some r from hrt)
 obtain ⟨s0',hrt,S0,N0⟩:=FP hrt (tg hT hS' hv00).2 hS'
 obtain ⟨vs0,hv0,hrt⟩:=bind_some hrt
 obtain ⟨J1,θ1,hJ1,S1,F1⟩:=OD (tr:=V.tr) (vs:=vs0) S0
 generalize OB V.tr vs0 s0'=s1 at hrt S1 F1
 have hle:s0.nxt<=s'.nxt:=hFr.1
 have hsame:Same (ps.length+1) θ θ1:=fun i hi=>(F1.same i (by omega)).trans (hFr.same i (by omega))
 replace hJ:=hJ.trans hJ1
 clear hJ1 F1 hS' S0 hFr
 revert J1 θ1
 clear J' θ'
 intro J' θ' S1 hsame hJ
 obtain ⟨us,hus,hrt⟩:=bind_some hrt
 obtain ⟨q,hq,hrt⟩:=bind_some hrt
 obtain ⟨o,ho,hrt⟩:=bind_some hrt
 obtain ⟨u0,hnl,hrt⟩:=bind_some hrt
 obtain rfl:=ae hrt
 obtain ⟨r1,r2⟩:=tg hT S1 hus
 obtain ⟨t1,t2,t3,t4⟩:=zq (J:=J') (θ:=θ') hq r2
 obtain ⟨o1,o2⟩:=eR (P:=P) (J:=J) (J':=J') (θ:=θ) (θ':=θ') (vs:=vs) (n:=ps.length+1) (n':=s1.nxt) (chs0:=s1.chs) hJ hsame (aB _) hγ ho k0 k5 fun e he=>S1.fine.chs e (t1.mem_iff.2 (by simp[he]))
 have hl:(us.map (·.v θ')).length=rs.length:=by rw[List.length_map];exact t2
 refine UY S1.agr r1 ⟨_,rfl,⟨OC hl fun i t v ht hv1=>?_,fun han=>?_⟩,J',hJ,?_⟩
 ·rw[List.getElem?_map] at hv1
  obtain ⟨x,hx,rfl⟩:=Option.map_eq_some_iff.1 hv1
  exact t4 i t x ht hx
 ·rw[Eo,AZ]
  unfold U0 at hnl
  rw[han] at hnl
  have hnl:0<nlN us rs q.1:=bE hnl
  rcases us with _ | ⟨x,us⟩
  ·cases hnl
  ·cases us with
   | nil=>exact U1 (θ:=θ') hnl rfl
   | cons y us=>unfold nlN at hnl;split at hnl <;> first | omega | simp_all
 ·rw[Eo,AZ,Gj,HT hl]
  have hp:=t1.trans (o1.append_left _)
  have h1:=S1.st.perm ((hp.map (toCh P θ')).append_right [F])
  have h2:St J' w0 w' ((q.2.1.map (toCh P θ')++o.2.1.map (toCh P θ'))++(o.2.2.map (toCh P θ')++ [F])):=by
   simpa [aK,aj] using h1
  have h3:=St.sepTo h2 (KT t3 o2)
  refine St.left (ds:=o.2.2.map (toCh P θ')) (h3.perm ?_)
  simp only[aj]
  exact List.Perm.append_left _ (List.Perm.append_left _ List.perm_append_comm)
theorem Er {V:Env} {P:Program} (hT:TTok P V.tt) (hF:FTok P V.ft) (hmx:P.follows .mixedOrders=true) {k:FuncId} {fn:Func} {c:Code} {f:FS} (hf:P.funcs[k]? =some fn) (hb:fn.body=some c) (hn:fn.ntmps=V.n) (hen:Enters P k) (hm:f.ps.length<=V.n) (hdp:(AE f.rs&&vA f.ps)=true) (ann:Ann)
  (hmod: ∀d,appP f.ps f.m d=iR V (HS V fn.results.toList f.rs f.ps d) c ann (fun r=>some r) (fun _ _=>none) (HS V fn.results.toList f.rs f.ps d) (oM (vn f.ps d))): ∀w0 J γ vs (d:denP f.ps) r,Lay P J->PArgs P w0 J γ f.ps vs d->appP f.ps f.m d=some r->Con P k vs.toArray J w0 (owCh γ f.ps vs d) (fun v=>resFa f.rs v/\(w9 1000000 V.an=true->vd f.rs (hFst f.rs (outs f.ps) (toH _ r)) v)) (fun v=>resGv f.rs (hFst f.rs (outs f.ps) (toH _ r)) v++outCh γ f.ps vs (hSnd f.rs (outs f.ps) (toH _ r))):=by
 rw[ai] at hdp
 intro w0 J γ vs d r hlay ha hr
 rw[hmod] at hr
 have k0:=CG ha
 let θ:Th:=fun i=>if i=vs.length then γ else vs.getD i undef
 have hθ: ∀j v,vs[j]? =some v->θ (0+j)=v:=fun j v hj=>by
  show (if 0+j=vs.length then γ else vs.getD (0+j) undef)=v
  rw[Nat.zero_add,if_neg (Nat.ne_of_lt (List.getElem?_eq_some_iff.1 hj).1),List.getD_eq_getElem?_getD,hj];rfl
 have hθg:θ f.ps.length=γ:=by
  show (if f.ps.length=vs.length then γ else _)=γ
  rw[if_pos k0.symm]
 have hzip: ∀p∈(vs.zipIdx.map fun q=>(q.2,q.1)),vs.toArray[p.1]? =some p.2:=fun p hp=>by
  obtain ⟨q,hq,rfl⟩:=List.mem_map.1 hp
  obtain ⟨v,j⟩:=q
  have:=(List.mk_mem_zipIdx_iff_getElem? (x:=v) (i:=j)).1 hq
  simpa using this
 refine uB (n:=V.n) (vs.zipIdx.map fun q=>(q.2,q.1)) hf hb hn (by rw[List.size_toArray,k0];exact hm) hzip (fun F w a hA hst=>?_) (fun v=>uo (eB _ _ _ hdp.2) _ _ hdp.1)
 ·obtain ⟨k1,k2,k3,k4,k5⟩:=Gh (n:=f.ps.length+1) (q:=f.ps.length) (C:=[F]) (aB _) hθg ha hθ (by omega) hst
  have hfine:Fine P w0 J θ (vn f.ps d):=⟨fun e he=>(k1 e he).1 _,fun e he=>by have:=k1 e he;show e.2.1<f.ps.length+1;omega,k2,fun e he=>k4 e he _,hlay⟩
  have hA':Agr V.n a (envL θ (vn f.ps d)):=hA.pick _ fun p hp=>by
   obtain ⟨e,he,rfl⟩:=List.mem_map.1 hp
   have h5:=(k1 e he).2.2.2.2
   rw[Nat.sub_zero] at h5
   have key: ∀(l:List Value) (k:Nat) (i:Nat) (v:Value),k<=i->l[i - k]? =some v->((l.zipIdx k).map fun q=>(q.2,q.1)).lookup i=some v:=by
    intro l
    induction l with
    | nil=>intro k i v _ h;simp at h
    | cons x l ih =>
     intro k i v hk h
     simp only[List.zipIdx_cons,List.map_cons,List.lookup_cons]
     by_cases e:i=k
     ·subst e
      simp at h
      simp[h]
     ·have:(i==k)=false:=by simpa using e
      rw[this]
      refine ih (k+1) i v (by omega) ?_
      rw[show i - k=(i - (k+1))+1 from by omega] at h
      simpa using h
   exact key vs 0 e.1 _ (Nat.zero_le _) h5
  have hS:Sim P J w0 F V.n J θ (vn f.ps d) a w:=⟨Hp.le.rfl,hA',k3,hfine⟩
  have fin:=Qg (rs:=f.rs) (fn:=fn) (F:=F) hT k0 k5 (aq (vn f.ps d).nxt) hθg
  obtain ⟨θ0,hS0,hFr0⟩:=vQ hS
  exact (rV (I:=J) (w0:=w0) (F:=F) hT hF hmx c).1 ann hr hS0 (fun J' θ' s' a' w' hk S' hJ hFr=>fin r J' θ' s' a' w' hk S' hJ (hFr0.trans hFr)) (fun i J' θ' s' a' w' hk=>by cases hk) (fun r' J' θ' s' a' w' hrt hrr hS' hJ hFr=>by
   obtain rfl:=ae hrr
   exact fin _ J' θ' s' a' w' hrt hS' hJ (hFr0.trans hFr))
theorem fok {V:Env} {P:Program} (hT:TTok P V.tt) (hF:FTok P V.ft) (hmx:P.follows .mixedOrders=true) {k:FuncId} {fn:Func} {c:Code} {f:FS} (hf:P.funcs[k]? =some fn) (hb:fn.body=some c) (hn:fn.ntmps=V.n) (hen:Enters P k) (hcl:f.cl=none) (hm:f.ps.length<=V.n) (hdp:(AE f.rs&&vA f.ps)=true) (ann:Ann)
  (hmod: ∀d,appP f.ps f.m d=iR V (HS V fn.results.toList f.rs f.ps d) c ann (fun r=>some r) (fun _ _=>none) (HS V fn.results.toList f.rs f.ps d) (oM (vn f.ps d))):FOk P k f:=
 ⟨fun q hq=>by (rw[hcl] at hq;cases hq),fun _=>hen,fun _ w0 J γ vs d r hlay ha hr w C hs=>(Er hT hF hmx hf hb hn hen hm hdp ann hmod w0 J γ vs d r hlay ha hr w C hs).mono fun e w' ⟨v,h1,h2,h3⟩=>⟨v,h1,h2.1,h3⟩⟩
theorem XS {V:Env} {P:Program} (hT:TTok P V.tt) (hF:FTok P V.ft) (hmx:P.follows .mixedOrders=true) {k:FuncId} {fn:Func} {c:Code} {f:FS} (hf:P.funcs[k]? =some fn) (hb:fn.body=some c) (hn:fn.ntmps=V.n) (hen:Enters P k) (hcl:f.cl=some (0,7)/\w9 1000000 V.an=true) (hm:f.ps.length<=V.n) (hdp:(AE f.rs&&vA f.ps)=true) (ann:Ann)
  (hmod: ∀d,appP f.ps f.m d=iR V (HS V fn.results.toList f.rs f.ps d) c ann (fun r=>some r) (fun _ _=>none) (HS V fn.results.toList f.rs f.ps d) (oM (vn f.ps d))):FOk P k f:=
 ⟨fun q hq=>by
  rw[hcl.1] at hq
  obtain rfl:=ae hq
  exact ⟨⟨fun e=>(by cases e),fun _ e=>(by cases e),fun e=>(by cases e)⟩,(fun _ w0 J γ vs d r hlay ha hr w C hs=>(Er hT hF hmx hf hb hn hen hm hdp ann hmod w0 J γ vs d r hlay ha hr w C hs).mono fun e w' ⟨v,h1,h2,h3⟩=>⟨v,h1,⟨h2.1,h2.2 hcl.2⟩,h3⟩),fun e=>(by cases e)⟩,fun _=>hen,fun _ w0 J γ vs d r hlay ha hr w C hs=>(Er hT hF hmx hf hb hn hen hm hdp ann hmod w0 J γ vs d r hlay ha hr w C hs).mono fun e w' ⟨v,h1,h2,h3⟩=>⟨v,h1,h2.1,h3⟩⟩
theorem Gk {V:Env} {P:Program} (hT:TTok P V.tt) (hF:FTok P V.ft) (hmx:P.follows .mixedOrders=true) {k:FuncId} {fn:Func} {c:Code} {E b:Nat} (hf:P.funcs[k]? =some fn) (hb:fn.body=some c) (hn:fn.ntmps=V.n) (hen:Enters P k) (hm:1<=V.n) (ann:Ann)
  (hmod: ∀(E':TypeId) (bn:Bool) (xs:List Raw),(match bn with | true=>some ([] :List Raw) | false=>(dm b [] xs).bind fun zs=>some zs)=iR V (HS V fn.results.toList [.sl E .raw] [] ()) c ann (fun r=>some r) (fun _ _=>none) (HS V fn.results.toList [.sl E .raw] [] ()) ⟨[(0,0,.one (.rdn ⟨0,[]⟩ bn (.sl E' .raw) xs))],[],1⟩):uj P k E b:=by
 refine ⟨hen,fun E' J w0 v xs zs hlay hrd xl=>?_⟩
 obtain ⟨bn,hbn⟩: ∃bn,yX v=bn:=⟨_,rfl⟩
 have hr:iR V (HS V fn.results.toList [.sl E .raw] [] ()) c ann (fun r=>some r) (fun _ _=>none) (HS V fn.results.toList [.sl E .raw] [] ()) ⟨[(0,0,.one (.rdn ⟨0,[]⟩ bn (.sl E' .raw) xs))],[],1⟩=some zs:=by
  rw[<-hmod E' bn xs]
  cases bn with
  | false =>
   show (dm b [] xs).bind _=_
   rw[xl];rfl
  | true =>
   obtain ⟨h1,-⟩:=AI xl
   obtain ⟨ao,cap,e,-,hx⟩:=hrd
   obtain rfl:v= .slice ao xs.length cap:=by simpa using e
   rcases hx with rfl | ⟨b,off,ccs,t,fr,rfl,-⟩
   ·rw[h1];rfl
   ·cases hbn
 let θ:Th:=fun _=>v
 have key:Con P k #[v] J w0 [] (fun v=>resFa [.sl E .raw] v/\(w9 1000000 V.an=true->vd [.sl E .raw] (zs,()) v)) (fun v=>resGv [.sl E .raw] (zs,()) v++ []):=by
  refine uB (n:=V.n) [(0,v)] hf hb hn hm (fun p hp=>by obtain rfl:=au hp;rfl) (fun F w a hA hst=>?_) (fun u=>uo (D:=[]) trivial [.sl E .raw] (zs,()) rfl)
  have hfine:Fine P w0 J θ ⟨[(0,0,.one (.rdn ⟨0,[]⟩ bn (.sl E' .raw) xs))],[],1⟩:=⟨fun e he=>by obtain rfl:=au he;exact ⟨Nat.one_pos,hrd,hbn⟩,fun e he=>by obtain rfl:=au he;exact Nat.one_pos,List.pairwise_singleton _ _,fun e he=>(by cases he),hlay⟩
  have hS:Sim P J w0 F V.n J θ ⟨[(0,0,.one (.rdn ⟨0,[]⟩ bn (.sl E' .raw) xs))],[],1⟩ a w:=⟨Hp.le.rfl,hA,hst,hfine⟩
  have fin:=Qg (V:=V) (θ:=θ) (J:=J) (w0:=w0) (rs:=[.sl E .raw]) (ps:=[]) (d:=()) (vs:=[]) (s0:=⟨[(0,0,.one (.rdn ⟨0,[]⟩ bn (.sl E' .raw) xs))],[],1⟩) (fn:=fn) (F:=F) hT rfl trivial (aq _) (γ:=θ 0) rfl
  exact (rV (I:=J) (w0:=w0) (F:=F) hT hF hmx c).1 ann hr hS (fun J' θ' s' a' w' hk S' hJ hFr=>fin _ J' θ' s' a' w' hk S' hJ hFr) (fun i J' θ' s' a' w' hk=>by cases hk) (fun r' J' θ' s' a' w' hrt hrr hS' hJ hFr=>by
   obtain rfl:=ae hrr
   exact fin _ J' θ' s' a' w' hrt hS' hJ hFr)
 exact fun w C hs=>(key w C hs).mono fun e w' ⟨v,h1,h2,h3⟩=>⟨v,h1,trivial,h3⟩
theorem gr {P:Program} {k:FuncId} {f:FS} (h:Enters P k) (hc:f.cl=none) (hm: ∀d,appP f.ps f.m d=none):FOk P k f:=
 ⟨fun q hq=>by (rw[hc] at hq;cases hq),fun _=>h,fun _ _ _ _ _ d r _ _ hr=>by rw[hm d] at hr;cases hr⟩
theorem CI {P:Program} {k:FuncId} {f:FS} {E b:Nat} (h:FOk P k ⟨f.ps,f.rs,f.m,none⟩) (hc:uj P k E b) (hb:Nat.beq b 0=false:=by rfl) (h7:Nat.beq b 7=false:=by rfl) (h8:Nat.ble 1000 b=false:=by rfl) (h9:Nat.beq b 9=false:=by rfl):FOk P k ⟨f.ps,f.rs,f.m,some (E,b)⟩:=
 ⟨fun q hq=>by obtain rfl:=ae hq;exact ⟨⟨fun e=>(by rw[hb] at e;cases e),fun _ _ _ _=>hc,fun e=>(by rw[h8] at e;cases e)⟩,fun e=>(by rw[h7] at e;cases e),fun e=>(by rw[h9] at e;cases e)⟩,fun _=>h.en rfl,fun _=>h.con rfl⟩
end R
namespace R
open Go.RowKit
open D
end R
namespace R
open Go.RowKit
open D
def rtN (V:Env) (rvs:List ResultVar) (T:TypeId) (s:Sg):Option (Int×Int):=(xm V.tt s rvs).bind fun vs=>match vs with
 | [.one (.ptr h off)] =>bN (Nat.beq off 0) ((rO h s.chs).bind fun b=>bN (Nat.beq b.T T) (match b.cells with
  | [.rd g _ _,.val (.int .i64 x),.val (.int .i64 y)] =>bN (Hdr.beq g ⟨0,[]⟩) (some (x,y))
  | _=>none))
 | _=>none
theorem U2 {V:Env} {P:Program} (hT:TTok P V.tt) (hF:FTok P V.ft) (hmx:P.follows .mixedOrders=true) {k:FuncId} {fn:Func} {c:Code} {E T:Nat} {t:Ty} {m:List t.den->Option (Int×Int)} (hf:P.funcs[k]? =some fn) (hb:fn.body=some c) (hn:fn.ntmps=V.n) (hen:Enters P k) (hm:1<=V.n) (ann:Ann)
  (hmod: ∀xs:List t.den,m xs=iR V (rtN V fn.results.toList T) c ann (fun r=>some r) (fun _ _=>none) (rtN V fn.results.toList T) ⟨[(0,0,.one (.rd ⟨0,[]⟩ (.sl E t) xs))],[],1⟩):NewOk P k T ⟨[.rd (.sl E t)],[.int .i64,.int .i64],m,some (T,9)⟩:=by
 refine ⟨hen,fun w0 J γ vs d r ns hlay ha xl hns=>?_⟩
 obtain ⟨v,vs',rfl,hd,hnil⟩:=ha
 obtain rfl:vs'= []:=hnil
 obtain ⟨xs,u⟩:=d
 obtain ⟨cs,hcs,hrd⟩:=hd
 obtain rfl:cs= [v]:=hcs
 obtain ⟨x,y⟩:=r
 have hr:=hmod xs
 rw[show m xs=some (x,y) from xl] at hr
 obtain rfl: [x,y] =ns:=ae hns
 let θ:Th:=fun _=>v
 refine uB (n:=V.n) [(0,v)] hf hb hn hm (fun p hp=>by obtain rfl:=au hp;rfl) (fun F w a hA hst=>?_) (fun u=>Ch.back_deeps ⟨Py,trivial⟩)
 have hfine:Fine P w0 J θ ⟨[(0,0,.one (.rd ⟨0,[]⟩ (.sl E t) xs))],[],1⟩:=⟨fun e he=>by obtain rfl:=au he;exact ⟨Nat.one_pos,hrd⟩,fun e he=>by obtain rfl:=au he;exact Nat.one_pos,List.pairwise_singleton _ _,fun e he=>(by cases he),hlay⟩
 have hS:Sim P J w0 F V.n J θ ⟨[(0,0,.one (.rd ⟨0,[]⟩ (.sl E t) xs))],[],1⟩ a w:=⟨Hp.le.rfl,hA,hst,hfine⟩
 have fin: ∀r J' θ' s' a' w',rtN V fn.results.toList T s'=some r->Sim P J w0 F V.n J' θ' s' a' w'->J.le J'->Fr ⟨[(0,0,.one (.rd ⟨0,[]⟩ (.sl E t) xs))],[],1⟩ θ s' θ'->
   bodyPost P fn (fun e w'=> ∃u,e= .returned u/\(∃b,u= .pointer (some ⟨b,0,none⟩))/\ ∃J2,J.le J2/\St J2 w0 w' ([Ch.blk (bk u) ([v] ++ [r.1,r.2].map (Value.int .i64)) T] ++ [F])) .ret a' w':=by
  intro r J' θ' s' a' w' hrt S' hJ hFr
  obtain ⟨us,hus,hrt⟩:=bind_some hrt
  obtain ⟨r1,r2⟩:=tg hT S' hus
  split at hrt
  ·rename_i h off
   obtain ⟨ho,hrt⟩:=aw hrt
   obtain rfl:off=0:=ax ho
   obtain ⟨b,hb',hrt⟩:=bind_some hrt
   obtain ⟨hT',hrt⟩:=aw hrt
   have hT':b.T=T:=ax hT'
   split at hrt
   ·rename_i g ty d p q hcells
    obtain ⟨hg,hrt⟩:=aw hrt
    obtain rfl:=Hdr.beq_eq hg
    obtain rfl:=ae hrt
    refine UY S'.agr r1 ⟨_,rfl,⟨bk (hv θ' h),rfl⟩,J',hJ,?_⟩
    have h1:=S'.st.perm (((jD hb').map (toCh P θ')).append_right [F])
    have e0:hv θ' ⟨0,[]⟩=v:=by
     show vg (θ' 0) [] =v
     rw[hFr.same 0 Nat.one_pos];rfl
    have h2:St J' w0 w' (Ch.blk (bk (hv θ' h)) (b.cells.map (·.v θ')) b.T::(b.rest.map (toCh P θ')++ [F])):=h1
    rw[hcells,hT'] at h2
    have h3:St J' w0 w' ([Ch.blk (bk (hv θ' h)) [hv θ' ⟨0,[]⟩,.int .i64 p,.int .i64 q] T] ++ [F] ++b.rest.map (toCh P θ')):=h2.perm ((List.perm_append_comm).cons _)
    rw[e0] at h3
    exact h3.left
   ·cases hrt
  ·cases hrt
 exact (rV (I:=J) (w0:=w0) (F:=F) hT hF hmx c).1 ann hr.symm hS (fun J' θ' s' a' w' hk S' hJ hFr=>fin _ J' θ' s' a' w' hk S' hJ hFr) (fun i J' θ' s' a' w' hk=>by cases hk) (fun r' J' θ' s' a' w' hrt hrr hS' hJ hFr=>by
  obtain rfl:=ae hrr
  exact fin _ J' θ' s' a' w' hrt hS' hJ hFr)
theorem SD {P:Program} {k:FuncId} {f:FS} {T:Nat} (hc:NewOk P k T f) (hcl:f.cl=some (T,9)):FOk P k f:=by
 have ho:f.ov=true:=by unfold FS.ov;rw[hcl];rfl
 refine ⟨fun q hq=>?_,fun e=>(by rw[ho] at e;cases e),fun e=>(by rw[ho] at e;cases e)⟩
 rw[hcl] at hq
 obtain rfl:=ae hq
 exact ⟨⟨fun e=>(by cases e),fun _ _ _ e=>(by cases e),fun e=>(by cases e)⟩,fun e=>(by cases e),fun _=>hc⟩
end R
namespace R
open Go.RowKit Go.Shelf Go.Sort
open D
abbrev PT:Ty:=.prod (.int .i64) (.int .i64)
def vC (x:Int×Int):List Value:=[.int .i64 x.1,.int .i64 x.2]
theorem Gn (x:Int×Int):(vC x).length=2:=rfl
theorem OE (x:Int×Int): ∀v∈vC x,v.oneCell'=true:=by
 intro v hv
 simp only[vC,List.mem_cons,List.not_mem_nil,or_false] at hv
 rcases hv with rfl | rfl <;> rfl
def HU (cf:Int×Int->Int×Int->Int) (xs:List (Int×Int)):List (Int×Int):=xs.mergeSort fun x y=> !(ltOf cf) y x
def OF (cf:Int×Int->Int×Int->Int) (xs:List (Int×Int)):Option (List (Int×Int)):=(chk (xs.length<4611686018427387904)).bind fun _=>some (HU cf xs)
theorem CJ (cf:Int×Int->Int×Int->Int) (xs:List (Int×Int)):(HU cf xs).length=xs.length:=List.length_mergeSort _
theorem St.grown {I:Hp} {w0 w:World} {cs:List Ch} (h:St I w0 w cs) (os:Array Obj):St I w0 (grow w os) cs:=by
 refine St.step (w:=w) (c:=[]) (c':=[]) h rfl rfl rfl (by simp[grow]) ?_
 rintro F rfl - -
 exact ⟨fun b hb _=>heap_grow_old w os hb,[],rfl,List.nodup_nil,by simp⟩
theorem KU (d:Array (Int×Int)) {i j:Nat} {z:Int×Int} (h:d.toList[i]? =some z) (hj:j<2):(flatK vC 2 d)[i*2+j]? =(vC z)[j]? :=by
 have hi:i<d.size:=by
  rcases Nat.lt_or_ge i d.size with c | c
  ·exact c
  ·rw[List.getElem?_eq_none (by simpa using c)] at h;cases h
 have hlt:i*2+j<d.size*2:=by omega
 have hb:=get_flatK vC 2 d (i*2+j) hlt
 have hs:i*2+j<(flatK vC 2 d).size:=by rw[size_flatK];exact hlt
 rw[getElem!_pos (flatK vC 2 d) _ hs] at hb
 rw[Array.getElem?_eq_getElem hs,hb,show (i*2+j) / 2=i from by omega,show (i*2+j) % 2=j from by omega]
 have hz:d[i]! =z:=by
  rw[getElem!_pos d _ hi]
  rw[List.getElem?_eq_getElem (by simpa using hi)] at h
  simpa using ae h
 rw[hz,getElem!_pos (vC z) _ (by rw[Gn];exact hj),List.getElem?_eq_getElem]
theorem SE {I:Hp} {c:List Value} {x:Int×Int} (h:PT.rep.rd I c x):c=vC x:=by
 obtain ⟨c1,c2,rfl,h1,h2⟩:=h
 obtain rfl:c1= [_]:=h1
 obtain rfl:c2= [_]:=h2
 rfl
theorem SF {I:Hp} (x:Int×Int):PT.rep.rd I (vC x) x:=⟨[_],[_],rfl,rfl,rfl⟩
theorem KV {P:Program} {ρ:Ren} (L:SlLaysF0.n6 P ρ) (aE: ∀w,(isAgg (ρ.t 24)).run P w= .ok true w) (zE: ∀w,(Go.sizeOf (ρ.t 24)).run P w= .ok 2 w) {cf:Int×Int->Int×Int->Int} (hO:SWO (ltOf cf)) (hT: ∀x y,(ltOf cf) x y=false->(ltOf cf) y x=false->x=y) {g:FuncId} (eg:Enters P g) (hcmp: ∀blk off size w,CmpLays P g #[] vC 2 cf blk off size w) (en:Enters P (ρ.f 6)) (E:TypeId) :
  FOk P (ρ.f 6) ⟨[.ow (.sl E PT),.fk g],[],fun xs _=>OF cf xs,none⟩:=by
 refine ⟨fun q hq=>(by cases hq),fun _=>en,fun _ w0 J γ vs d r hlay ha xl=>?_⟩
 obtain ⟨v,vs1,rfl,hd,v2,vs2,rfl,rfl,hnil⟩:=ha
 obtain rfl:vs2= []:=hnil
 obtain ⟨xs0,u1,un⟩:=d
 let xs:List (Int×Int):=xs0
 let zs:List (Int×Int):=r
 have xl:OF cf xs=some zs:=xl
 obtain ⟨u1,hc,hz⟩:=Option.bind_eq_some_iff.1 xl
 have hc:=bE hc
 have hz:=ae hz
 intro w C hst
 have hst:St J w0 w (Ch.own (aA E PT.rep) [v] xs::C):=hst
 clear xl
 rename_i happ0
 clear happ0 hd
 clear_value xs
 have hfin: ∀ {e:Ending} {w':World},(∃W,e= .returned (.tuple #[])/\w'=W/\St J w0 W (Ch.own (aA E PT.rep) [v] zs::C))-> ∃v':Value,e= .returned v'/\(∃vs:Array Value,v'= .tuple vs/\vs.size=0/\ ∀(i:Nat) (t:Ty),([] :List Ty)[i]? =some t->l9 (vs.getD i undef)=t.isProd)/\St J w0 w' (Ch.own (aA E PT.rep) [v] zs::C):=by
  rintro e w' ⟨W,rfl,rfl,h⟩
  exact ⟨_,rfl,⟨#[],rfl,rfl,fun i t h=>(by simp at h)⟩,h⟩
 have hcase:(v= .slice none 0 0/\xs= [])\/ ∃g' ofs n cap,v= .slice (some ⟨g',ofs,none⟩) n cap:=by
  obtain ⟨hb,hi,F,⟨G,K,rfl,⟨hl,e2⟩,e3⟩,h4,h5⟩:=hst
  rcases e2 with ⟨hv,h1,_⟩ | ⟨g',ofs',cap',cur,K1,hv,_⟩
  ·exact .inl ⟨List.cons.inj hv |>.1,h1⟩
  ·exact .inr ⟨_,_,_,_,List.cons.inj hv |>.1⟩
 rcases hcase with ⟨rfl,hx⟩ | ⟨g',ofs,n,cap,rfl⟩
 ·refine (AnyF.slices_SortFunc_none L none 0 (.func (.func g) #[] #[]) w).mono fun e w' ⟨he,hw⟩=>hfin ⟨_,he,hw,?_⟩
  rw[<-hz,hx,show HU cf [] = [] from List.mergeSort_nil ..]
  rw[hx] at hst
  exact hst
 ·obtain ⟨hn,h1,h2,cur,hg,hroom,hat⟩:=vj (R:=PT.rep) (k:=2) (Ty.sh_ok (t:=PT) rfl) rfl hst
  obtain rfl:=hn
  have hH:HoldsK vC 2 w g' ofs xs.toArray:=by
   intro j hj
   rw[size_flatK] at hj
   have hj:j<xs.length*2:=by simpa using hj
   have hi:j / 2<xs.length:=by omega
   obtain ⟨c,e1,e2,e3⟩:=hat (j / 2) _ (List.getElem?_eq_getElem hi)
   have hcj:=e2 (j % 2) (Nat.mod_lt _ (by omega))
   rw[show j / 2*2+j % 2=j from by omega,SE e3] at hcj
   have hf:=KU xs.toArray (i:=j / 2) (j:=j % 2) (z:=xs[j / 2]) (by simpa using List.getElem?_eq_getElem hi) (Nat.mod_lt _ (by omega))
   rw[show j / 2*2+j % 2=j from by omega] at hf
   have hs:j<(flatK vC 2 xs.toArray).size:=by rw[size_flatK];simpa using hj
   refine ⟨?_,?_⟩
   ·unfold World.cell?
    simp only[hg]
    rw[List.getElem?_drop] at hcj
    rw[getElem!_pos (flatK vC 2 xs.toArray) _ hs,<-Array.getElem?_toList,hcj,<-hf,Array.getElem?_eq_getElem hs]
    rfl
   ·unfold World.frozen?
    simp only[hg]
    simp
  have hblk:g'<w.heap.size:=by
   rcases Nat.lt_or_ge g' w.heap.size with c | c
   ·exact c
   ·rw[Array.getElem?_eq_none c] at hg;cases hg
  have key:=AnyQ.slices_SortFunc_total L 2 aE zE vC Gn OE cf hO g #[] g' ofs cap xs.toArray w eg (hcmp _ _ _ _) hH hblk (by simpa using hc) hT
  rw[show xs.toArray.size=xs.length from List.size_toArray] at key
  refine key.mono ?_
  rintro e w' ⟨he,m,os,rfl⟩
  refine hfin ⟨_,he,rfl,?_⟩
  show St J w0 (grow (putRow id (Sort.ahead w m) g' ofs (flatK vC 2 (HU cf xs).toArray)) os) _
  rw[hz]
  have hlen:zs.length=xs.length:=by rw[<-hz];exact CJ _ _
  have hfl:(flatK vC 2 zs.toArray).toList.length=(flatK vC 2 xs.toArray).size:=by rw[Array.length_toList,size_flatK,size_flatK];simp[hlen]
  have hq:=Go.Lib.putRow_eq_setCells id w g' ofs (flatK vC 2 xs.toArray) (flatK vC 2 zs.toArray).toList m hH hfl
  rw[Array.toArray_toList] at hq
  rw[hq,List.map_id]
  refine St.grown ?_ os
  have hst2:St J w0 (w.drewN m) (Ch.own (aA E PT.rep) [.slice (some ⟨g',ofs,none⟩) xs.length cap] xs::C):=hst.drawn rfl rfl rfl rfl
  have hcapz:zs.length<=cap:=by rw[hlen];exact h1
  have hlimz:zs.length<=lim:=by
   have:lim=2 ^ 63 - 1:=rfl
   have:maxLen=2 ^ 63 - 1:=rfl
   omega
  have hlt: ∀(i:Nat) (z:Int×Int),zs[i]? =some z->i<xs.length:=fun i z hi=>by
   rcases Nat.lt_or_ge i zs.length with c | c
   ·omega
   ·rw[List.getElem?_eq_none c] at hi;cases hi
  have hnw: ∀(i:Nat) (z:Int×Int),zs[i]? =some z-> ∀j,j<2->(flatK vC 2 zs.toArray).toList[(i - 0)*2+j]? =(vC z)[j]? :=fun i z hi j hj=>by
   rw[Nat.sub_zero,Array.getElem?_toList]
   exact KU zs.toArray (by simpa using hi) hj
  have h3:=wU (p:=0) (cnt:=xs.length) (zs:=zs) (news:=(flatK vC 2 zs.toArray).toList) (Ty.sh_ok (t:=PT) rfl) (Ty.cpy (t:=PT) rfl) (k:=2) rfl (by rw[hfl,size_flatK];simp) (by omega) hcapz hlimz (fun i z hi=>.inl ⟨Nat.zero_le _,(by have:=hlt i z hi;omega),vC z,rfl,hnw i z hi,SF z⟩) hst2
  rw[Nat.zero_mul,Nat.add_zero,show @List.length PT.den zs=xs.length from hlen] at h3
  exact h3
def cmpI (a b:Int):Int:=if a<b then -1 else if b<a then 1 else 0
def HV (x y:Int×Int):Int:=if x.1=y.1 then cmpI x.2 y.2 else cmpI x.1 y.1
theorem KW {a b:Int} :cmpI a b<0↔a<b:=by
 unfold cmpI
 split
 ·simp_all
 ·split <;> simp_all
theorem KX {x y:Int×Int} :ltOf HV x y=true↔x.1<y.1\/x.1=y.1/\x.2<y.2:=by
 unfold ltOf HV
 rw[decide_eq_true_iff]
 split
 ·rw[KW];omega
 ·rw[KW];omega
theorem vY {x y:Int×Int} :ltOf HV x y=false↔ ¬(x.1<y.1\/x.1=y.1/\x.2<y.2):=by
 rw[<-KX,Bool.not_eq_true]
theorem OG:SWO (ltOf HV) where
 irrefl x:=by rw[vY];omega
 trans x y z h k:=by rw[KX] at *;omega
 ntrans x y z h k:=by rw[vY] at *;omega
theorem OH (x y:Int×Int) (h:ltOf HV x y=false) (k:ltOf HV y x=false):x=y:=by
 rw[vY] at h k
 exact Prod.ext (by omega) (by omega)
end R
namespace R
open Go.Shelf
def th:Go.Shelf.Ren:=⟨fun | 6=>259 | 15=>303 | 14=>310 | 28=>334 | 29=>335 | 20=>338 | 21=>339 | 22=>340 | 23=>341 | 24=>342 | 25=>343 | 26=>344 | 27=>345 | 46=>359 | 47=>352 | 48=>353 | 49=>360 | 50=>361 | 57=>364 | n=>n,fun | 22=>55 | 24=>65 | 25=>125 | 3=>3 | 39=>226 | 0=>0 | 53=>345 | 55=>347 | 4=>4 | 46=>338 | 45=>337 | 50=>248 | 5=>5 | 9=>9 | 66=>361 | 70=>365 | 76=>369 | 77=>259 | n=>n,fun | n=>n⟩
theorem yJ:Go.Proofs.SlLaysF0.n6 Tryz.prog th:= {
 mixed:=by kernel_rfl
 f6:=⟨Tryz.f259.name,by decide,Tryz.func259.trans (congrArg some (by kernel_rfl))⟩
 f14:=⟨Tryz.f310.name,by decide,Tryz.func310.trans (congrArg some (by kernel_rfl))⟩
 f15:=Tryz.func303.trans (congrArg some (by kernel_rfl))
 f20:=⟨Tryz.f338.name,by decide,Tryz.func338.trans (congrArg some (by kernel_rfl))⟩
 f21:=⟨Tryz.f339.name,by decide,Tryz.func339.trans (congrArg some (by kernel_rfl))⟩
 f22:=⟨Tryz.f340.name,by decide,Tryz.func340.trans (congrArg some (by kernel_rfl))⟩
 f23:=⟨Tryz.f341.name,by decide,Tryz.func341.trans (congrArg some (by kernel_rfl))⟩
 f24:=⟨Tryz.f342.name,by decide,Tryz.func342.trans (congrArg some (by kernel_rfl))⟩
 f25:=⟨Tryz.f343.name,by decide,Tryz.func343.trans (congrArg some (by kernel_rfl))⟩
 f26:=⟨Tryz.f344.name,by decide,Tryz.func344.trans (congrArg some (by kernel_rfl))⟩
 f27:=⟨Tryz.f345.name,by decide,Tryz.func345.trans (congrArg some (by kernel_rfl))⟩
 f28:=Tryz.func334.trans (congrArg some (by kernel_rfl))
 f29:=Tryz.func335.trans (congrArg some (by kernel_rfl))
 f46:=⟨Tryz.f359.name,by decide,Tryz.func359.trans (congrArg some (by kernel_rfl))⟩
 f47:=Tryz.func352.trans (congrArg some (by kernel_rfl))
 f48:=Tryz.func353.trans (congrArg some (by kernel_rfl))
 f49:=⟨Tryz.f360.name,by decide,Tryz.func360.trans (congrArg some (by kernel_rfl))⟩
 f50:=⟨Tryz.f361.name,by decide,Tryz.func361.trans (congrArg some (by kernel_rfl))⟩
 f57:=⟨Tryz.f364.name,by decide,Tryz.func364.trans (congrArg some (by kernel_rfl))⟩
 t0:=Tryz.underlying0
 a0:=Tryz.isAgg0
 z0:=Tryz.sizeOf0
 v0:=Tryz.zeroValue0
 t3:=Tryz.underlying3
 a3:=Tryz.isAgg3
 z3:=Tryz.sizeOf3
 v3:=Tryz.zeroValue3
 t4:=Tryz.underlying4
 a4:=Tryz.isAgg4
 z4:=Tryz.sizeOf4
 v4:=Tryz.zeroValue4
 t5:=Tryz.underlying5
 a5:=Tryz.isAgg5
 z5:=Tryz.sizeOf5
 v5:=Tryz.zeroValue5
 t9:=Tryz.underlying9
 a9:=Tryz.isAgg9
 z9:=Tryz.sizeOf9
 v9:=Tryz.zeroValue9
 t22:=Tryz.underlying55
 a22:=Tryz.isAgg55
 z22:=Tryz.sizeOf55
 v22:=Tryz.zeroValue55
 t25:=Tryz.underlying125
 a25:=Tryz.isAgg125
 z25:=Tryz.sizeOf125
 v25:=Tryz.zeroValue125
 t39:=Tryz.underlying226
 a39:=Tryz.isAgg226
 z39:=Tryz.sizeOf226
 v39:=Tryz.zeroValue226
 t45:=Tryz.underlying337
 a45:=Tryz.isAgg337
 z45:=Tryz.sizeOf337
 v45:=Tryz.zeroValue337
 t46:=Tryz.underlying338
 a46:=Tryz.isAgg338
 z46:=Tryz.sizeOf338
 v46:=Tryz.zeroValue338
 t50:=Tryz.underlying248
 a50:=Tryz.isAgg248
 z50:=Tryz.sizeOf248
 v50:=Tryz.zeroValue248
 t53:=Tryz.underlying345
 a53:=Tryz.isAgg345
 z53:=Tryz.sizeOf345
 v53:=Tryz.zeroValue345
 t55:=Tryz.underlying347
 a55:=Tryz.isAgg347
 z55:=Tryz.sizeOf347
 v55:=Tryz.zeroValue347
 t66:=Tryz.underlying361
 a66:=Tryz.isAgg361
 z66:=Tryz.sizeOf361
 v66:=Tryz.zeroValue361
 t70:=Tryz.underlying365
 a70:=Tryz.isAgg365
 z70:=Tryz.sizeOf365
 v70:=Tryz.zeroValue365
 t76:=Tryz.underlying369
 a76:=Tryz.isAgg369
 z76:=Tryz.sizeOf369
 v76:=Tryz.zeroValue369
 t77:=Tryz.underlying259
 a77:=Tryz.isAgg259
 z77:=Tryz.sizeOf259
 v77:=Tryz.zeroValue259 }
end R
namespace R
open Go.RowKit Go.Shelf Go.Sort
open D
abbrev IT:Ty:=.int .i64
def OI (xs:List Int):Option (List Int):=(chk (xs.length<4611686018427387904)).bind fun _=>some (xs.mergeSort fun x y=>decide (x<=y))
theorem St.grownI {I:Hp} {w0 w:World} {cs:List Ch} (h:St I w0 w cs) (os:Array Obj):St I w0 (grow w os) cs:=by
 refine St.step (w:=w) (c:=[]) (c':=[]) h rfl rfl rfl (by simp[grow]) ?_
 rintro F rfl - -
 exact ⟨fun b hb _=>heap_grow_old w os hb,[],rfl,List.nodup_nil,by simp⟩
theorem KY {P:Program} {ρ:Ren} (L:Lays.n189 P ρ) (en:Enters P (ρ.f 189)) (E:TypeId) :
  FOk P (ρ.f 189) ⟨[.ow (.sl E IT)],[],fun xs=>OI xs,none⟩:=by
 refine ⟨fun q hq=>(by cases hq),fun _=>en,fun _ w0 J γ vs d r hlay ha xl=>?_⟩
 obtain ⟨v,vs1,rfl,hd,hnil⟩:=ha
 obtain rfl:vs1= []:=hnil
 obtain ⟨xs0,un⟩:=d
 let xs:List Int:=xs0
 let zs:List Int:=r
 have xl:OI xs=some zs:=xl
 obtain ⟨u1,hc,hz⟩:=Option.bind_eq_some_iff.1 xl
 have hc:=bE hc
 have hz:=ae hz
 intro w C hst
 have hst:St J w0 w (Ch.own (aA E IT.rep) [v] xs::C):=hst
 clear xl
 rename_i happ0
 clear happ0 hd
 clear_value xs
 have hfin: ∀ {e:Ending} {w':World},(∃W,e= .returned (.tuple #[])/\w'=W/\St J w0 W (Ch.own (aA E IT.rep) [v] zs::C))-> ∃v':Value,e= .returned v'/\(∃vs:Array Value,v'= .tuple vs/\vs.size=0/\ ∀(i:Nat) (t:Ty),([] :List Ty)[i]? =some t->l9 (vs.getD i undef)=t.isProd)/\St J w0 w' (Ch.own (aA E IT.rep) [v] zs::C):=by
  rintro e w' ⟨W,rfl,rfl,h⟩
  exact ⟨_,rfl,⟨#[],rfl,rfl,fun i t h=>(by simp at h)⟩,h⟩
 have hcase:(v= .slice none 0 0/\xs= [])\/ ∃g' ofs n cap,v= .slice (some ⟨g',ofs,none⟩) n cap:=by
  obtain ⟨hb,hi,F,⟨G,K,rfl,⟨hl,e2⟩,e3⟩,h4,h5⟩:=hst
  rcases e2 with ⟨hv,h1,_⟩ | ⟨g',ofs',cap',cur,K1,hv,_⟩
  ·exact .inl ⟨List.cons.inj hv |>.1,h1⟩
  ·exact .inr ⟨_,_,_,_,List.cons.inj hv |>.1⟩
 rcases hcase with ⟨rfl,hx⟩ | ⟨g',ofs,n,cap,rfl⟩
 ·refine (Any.slices_Sort_int_none L none 0 w).mono fun e w' ⟨he,hw⟩=>hfin ⟨_,he,hw,?_⟩
  rw[<-hz,hx,List.mergeSort_nil]
  rw[hx] at hst
  exact hst
 ·obtain ⟨hn,h1,h2,cur,hg,hroom,hat⟩:=vj (R:=IT.rep) (k:=1) (Ty.sh_ok (t:=IT) rfl) rfl hst
  obtain rfl:=hn
  have hH:Holds (Value.int .i64) w g' ofs xs.toArray:=by
   intro j hj
   have hj:j<xs.length:=by simpa using hj
   obtain ⟨c,e1,e2,e3⟩:=hat j _ (List.getElem?_eq_getElem hj)
   have hcj:=e2 0 Nat.one_pos
   obtain rfl:c= [.int .i64 xs[j]]:=e3
   rw[Nat.mul_one,Nat.add_zero,List.getElem?_drop] at hcj
   refine ⟨?_,?_⟩
   ·unfold World.cell?
    simp only[hg]
    rw[<-Array.getElem?_toList,hcj,getElem!_pos xs.toArray _ (by simpa using hj)]
    simp
   ·unfold World.frozen?
    simp only[hg]
    simp
  have hblk:g'<w.heap.size:=by
   rcases Nat.lt_or_ge g' w.heap.size with c | c
   ·exact c
   ·rw[Array.getElem?_eq_none c] at hg;cases hg
  refine (Any.slices_Sort_int L g' ofs cap xs w hH hblk hc).mono ?_
  rintro e w' ⟨he,m,os,rfl⟩
  refine hfin ⟨_,he,rfl,?_⟩
  have hlen:zs.length=xs.length:=by rw[<-hz];exact List.length_mergeSort _
  rw[hz,Go.Lib.sorted_world (Value.int .i64) w g' ofs m xs.toArray zs os hH (by simpa using hlen)]
  refine St.grownI ?_ os
  have hst2:St J w0 (w.drewN m) (Ch.own (aA E IT.rep) [.slice (some ⟨g',ofs,none⟩) xs.length cap] xs::C):=hst.drawn rfl rfl rfl rfl
  have hcapz:zs.length<=cap:=by rw[hlen];exact h1
  have hlimz:zs.length<=lim:=by
   have:lim=2 ^ 63 - 1:=rfl
   have:maxLen=2 ^ 63 - 1:=rfl
   omega
  have h3:=wU (p:=0) (cnt:=xs.length) (zs:=zs) (news:=zs.map (Value.int .i64)) (Ty.sh_ok (t:=IT) rfl) (Ty.cpy (t:=IT) rfl) (k:=1) rfl (by simp[hlen]) (by omega) hcapz hlimz (fun i z hi=>.inl ⟨Nat.zero_le _,(by
   have:=(List.getElem?_eq_some_iff.1 hi).1
   have:i<zs.length:=this
   omega),[.int .i64 z],rfl,fun j hj=>by
    obtain rfl:j=0:=by omega
    rw[Nat.sub_zero,Nat.mul_one,Nat.add_zero,List.getElem?_map]
    have hi:zs[i]? =some z:=hi
    rw[hi];rfl,rfl⟩) hst2
  rw[Nat.zero_mul,Nat.add_zero,show @List.length IT.den zs=xs.length from hlen] at h3
  exact h3
end R
namespace R
open Go.Shelf
def xn:Go.Shelf.Ren:=⟨fun | 189=>248 | 125=>303 | 257=>302 | 128=>334 | 129=>335 | 294=>325 | 295=>326 | 296=>327 | 297=>328 | 298=>329 | 299=>330 | 216=>331 | 300=>332 | 301=>333 | 328=>351 | 329=>352 | 330=>353 | 331=>354 | 332=>355 | 215=>356 | 343=>363 | n=>n,fun | 28=>47 | 3=>3 | 46=>226 | 0=>0 | 51=>345 | 53=>347 | 4=>4 | 183=>338 | 182=>337 | 131=>248 | 5=>5 | 9=>9 | 218=>361 | 222=>365 | 228=>369 | 229=>259 | n=>n,fun | n=>n⟩
theorem Es:Go.Proofs.Lays.n189 Tryz.prog xn:= {
 mixed:=by kernel_rfl
 f125:=Tryz.func303.trans (congrArg some (by kernel_rfl))
 f128:=Tryz.func334.trans (congrArg some (by kernel_rfl))
 f129:=Tryz.func335.trans (congrArg some (by kernel_rfl))
 f189:=Tryz.func248.trans (congrArg some (by kernel_rfl))
 f215:=Tryz.func356.trans (congrArg some (by kernel_rfl))
 f216:=Tryz.func331.trans (congrArg some (by kernel_rfl))
 f257:=Tryz.func302.trans (congrArg some (by kernel_rfl))
 f294:=Tryz.func325.trans (congrArg some (by kernel_rfl))
 f295:=Tryz.func326.trans (congrArg some (by kernel_rfl))
 f296:=Tryz.func327.trans (congrArg some (by kernel_rfl))
 f297:=Tryz.func328.trans (congrArg some (by kernel_rfl))
 f298:=Tryz.func329.trans (congrArg some (by kernel_rfl))
 f299:=Tryz.func330.trans (congrArg some (by kernel_rfl))
 f300:=Tryz.func332.trans (congrArg some (by kernel_rfl))
 f301:=Tryz.func333.trans (congrArg some (by kernel_rfl))
 f328:=Tryz.func351.trans (congrArg some (by kernel_rfl))
 f329:=Tryz.func352.trans (congrArg some (by kernel_rfl))
 f330:=Tryz.func353.trans (congrArg some (by kernel_rfl))
 f331:=Tryz.func354.trans (congrArg some (by kernel_rfl))
 f332:=Tryz.func355.trans (congrArg some (by kernel_rfl))
 f343:=Tryz.func363.trans (congrArg some (by kernel_rfl))
 t0:=Tryz.underlying0
 a0:=Tryz.isAgg0
 z0:=Tryz.sizeOf0
 v0:=Tryz.zeroValue0
 t3:=Tryz.underlying3
 a3:=Tryz.isAgg3
 z3:=Tryz.sizeOf3
 v3:=Tryz.zeroValue3
 t4:=Tryz.underlying4
 a4:=Tryz.isAgg4
 z4:=Tryz.sizeOf4
 v4:=Tryz.zeroValue4
 t5:=Tryz.underlying5
 a5:=Tryz.isAgg5
 z5:=Tryz.sizeOf5
 v5:=Tryz.zeroValue5
 t9:=Tryz.underlying9
 a9:=Tryz.isAgg9
 z9:=Tryz.sizeOf9
 v9:=Tryz.zeroValue9
 t28:=Tryz.underlying47
 a28:=Tryz.isAgg47
 z28:=Tryz.sizeOf47
 v28:=Tryz.zeroValue47
 t46:=Tryz.underlying226
 a46:=Tryz.isAgg226
 z46:=Tryz.sizeOf226
 v46:=Tryz.zeroValue226
 t51:=Tryz.underlying345
 a51:=Tryz.isAgg345
 z51:=Tryz.sizeOf345
 v51:=Tryz.zeroValue345
 t53:=Tryz.underlying347
 a53:=Tryz.isAgg347
 z53:=Tryz.sizeOf347
 v53:=Tryz.zeroValue347
 t131:=Tryz.underlying248
 a131:=Tryz.isAgg248
 z131:=Tryz.sizeOf248
 v131:=Tryz.zeroValue248
 t182:=Tryz.underlying337
 a182:=Tryz.isAgg337
 z182:=Tryz.sizeOf337
 v182:=Tryz.zeroValue337
 t183:=Tryz.underlying338
 a183:=Tryz.isAgg338
 z183:=Tryz.sizeOf338
 v183:=Tryz.zeroValue338
 t218:=Tryz.underlying361
 a218:=Tryz.isAgg361
 z218:=Tryz.sizeOf361
 v218:=Tryz.zeroValue361
 t222:=Tryz.underlying365
 a222:=Tryz.isAgg365
 z222:=Tryz.sizeOf365
 v222:=Tryz.zeroValue365
 t228:=Tryz.underlying369
 a228:=Tryz.isAgg369
 z228:=Tryz.sizeOf369
 v228:=Tryz.zeroValue369
 t229:=Tryz.underlying259
 a229:=Tryz.isAgg259
 z229:=Tryz.sizeOf259
 v229:=Tryz.zeroValue259 }
end R
namespace R
open Go.RowKit
open D
def FldAll (P:Program) (T:TypeId):Nat->List (Nat×Nat)->Prop
 | _,[] =>True
 | i,q::l=>TF P T i q.1 q.2/\FldAll P T (i+1) l
theorem FldAll.get {P:Program} {T:TypeId} : ∀ {l:List (Nat×Nat)} {i:Nat},FldAll P T i l-> ∀f q,l[f]? =some q->TF P T (i+f) q.1 q.2
 | [],_,_,f,q,h=>by simp at h
 | x::l,i,⟨h1,h2⟩,f,q,h=>by
  cases f with
  | zero=>simp at h;subst h;exact h1
  | succ f =>
   have:=FldAll.get h2 f q (by simpa using h)
   rwa [show i+1+f=i+(f+1) from by omega] at this
section
variable {P:Program} {T:TypeId}
theorem rW {n b:Nat} {ty:Ty} {z:Value} {boo:Bool} {ik:Option (Option IntKind)} (h1:TI P T false 1) (h2:ty.size=1) (h3:TZ P T z 1 b) (h4:z.cells=(zeroCells ty).toArray) (h5:1<=b) (h6:boo=true->P.underlying T=some .bool) (h7: ∀k,ik=some k->P.underlying T=some (ikD k)):TDok P T ⟨false,1,none,ty,[],some b,none,boo,none,none,ik,false,none⟩:=
 ⟨h1,rfl,h2,fun E h=>by simp at h,fun f q h=>by simp at h,fun b' h=>by obtain rfl:=ae h;exact ⟨z,h3,h4,h5⟩,fun pl h=>by simp at h,h6,(fun ks h=>by cases h),(fun m h=>by cases h),h7,(fun h=>by cases h),fun e h=>by cases h⟩
theorem pY {E:TypeId} {t:Ty} (h1:TI P T false 1) (h2:P.underlying T=some (.slice E)) (h3:TZ P T (.slice none 0 0) 1 24):TDok P T ⟨false,1,some E,.sl E t,[],some 24,none,false,none,none,none,false,none⟩:=
 ⟨h1,rfl,rfl,fun E' h=>by obtain rfl:=ae h;exact h2,fun f q h=>by simp at h,fun b' h=>by obtain rfl:=ae h;exact ⟨_,h3,rfl,by decide⟩,fun pl h=>by simp at h,(fun h=>by cases h),(fun ks h=>by cases h),(fun m h=>by cases h),(fun k h=>by cases h),(fun h=>by cases h),fun e h=>by cases h⟩
theorem oQ {n b:Nat} {ty:Ty} {fs pl:List (Nat×Nat)} {z:Value} {eq:Option (List (Option IntKind))} (h1:TI P T true n) (h2:ty.size=n) (h3:FldAll P T 0 fs) (h4:TZ P T z n b) (h5:z.cells=(zeroCells ty).toArray) (h6:1<=b) (h7:TB P T pl) (h8: ∀ks,eq=some ks-> ∀w,Curq ks fun xs ys r=>EqT P T (.agg xs.toArray) (.agg ys.toArray) r w):TDok P T ⟨true,n,none,ty,fs,some b,some pl,false,eq,none,none,false,none⟩:=
 ⟨h1,rfl,h2,fun E h=>by simp at h,fun f q h=>by have:=h3.get f q h;rwa [Nat.zero_add] at this,fun b' h=>by obtain rfl:=ae h;exact ⟨z,h4,h5,h6⟩,fun pl' h=>by obtain rfl:=ae h;exact h7,(fun h=>by cases h),h8,(fun m h=>by cases h),(fun k h=>by cases h),(fun h=>by cases h),fun e h=>by cases h⟩
theorem vD {ty:Ty} {b:Nat} (h1:TI P T false 1) (h2:ty.size=1) (h3:TZ P T .nilFunc 1 b):TDok P T ⟨false,1,none,ty,[],none,none,false,none,none,none,true,none⟩:=
 ⟨h1,rfl,h2,fun E h=>by simp at h,fun f q h=>by simp at h,(fun b' h=>by cases h),(fun pl h=>by cases h),(fun h=>by cases h),(fun ks h=>by cases h),(fun m' h=>by cases h),(fun k h=>by cases h),(fun _=>⟨b,h3⟩),fun e h=>by cases h⟩
theorem U3 {m:MD} {ty:Ty} (h1:TI P T false 1) (h2:ty.size=1) (h3:MDok P T m):TDok P T ⟨false,1,none,ty,[],none,none,false,none,some m,none,false,none⟩:=
 ⟨h1,rfl,h2,fun E h=>by simp at h,fun f q h=>by simp at h,(fun b' h=>by cases h),(fun pl h=>by cases h),(fun h=>by cases h),(fun ks h=>by cases h),(fun m' h=>by obtain rfl:=ae h;exact h3),(fun k h=>by cases h),(fun h=>by cases h),fun e h=>by cases h⟩
theorem WN {e E:TypeId} {u:Ty} (h1:TI P T false 1) (h2:P.underlying T=some (.pointer e)) (h3:TZ P T (.pointer none) 1 8):TDok P T ⟨false,1,none,.fro (.tree e E u),[],some 8,none,false,none,none,none,false,some e⟩:=
 ⟨h1,rfl,rfl,fun E' h=>by simp at h,fun f q h=>by simp at h,fun b' h=>by obtain rfl:=ae h;exact ⟨_,h3,rfl,by decide⟩,fun pl h=>by simp at h,(fun h=>by cases h),(fun ks h=>by cases h),(fun m h=>by cases h),(fun k h=>by cases h),(fun h=>by cases h),fun e' h=>by obtain rfl:=ae h;exact h2⟩
end
end R
namespace D
open Go.RowKit
abbrev Yq1:Type:=(Int×Int×Int×Int)
abbrev Yq2:Type:=(List (Int×Int))
abbrev Yq3:Type:=(Int×(List Bool)×(List (List Int)))
abbrev Yq4:Type:=((Int×Bool)×Int×Int)
abbrev Yq5:Type:=((List Int)×Int×Int×(List Int)×Bool)
abbrev Yq6:Type:=(Out Yq2 (Yq2×Int))
abbrev Yq7:Type:=(Out (List Int) ((List Int)×Int))
abbrev Yq8:Type:=(Out Int (Int×Int))
def Et (p0code:List Int):Option Bool:=
 some (decide ((p0code.length:Int)>1048576))
def mS (p0code:List Int) (s1:Int×Int):Option (Out (Int×Int) (Int×Int)):=
 if decide (s1.2<(p0code.length:Int)) then (if decide (s1.2<4000) then ((aR p0code s1.2).bind fun x2=>some (.nxt (lf (IntKind.i64.wrap ((IntKind.i64.wrap ((IntKind.i64.wrap (s1.1*131))+(IntKind.i64.wrap x2)))+7)) 1073741823,IntKind.i64.wrap (s1.2+1)))) else (some (.brk (s1.1,s1.2)))) else (some (.brk (s1.1,s1.2)))
def tj (p0code:List Int):Option (Int×Int):=
 aO (aC (mS p0code) aP (IntKind.i64.wrap (10101+(p0code.length:Int)),0)) (fun r3=>some r3) (fun s4=>some (0,s4.1))
def ju (p0c:(List Int)×Int×Int):Option (Int×Int×Int):=
 Option.bind ((if decide (p0c.2.1<(p0c.1.length:Int)) then ((aR p0c.1 p0c.2.1).bind fun x1=>some (lf (IntKind.i64.wrap ((lf (V2 (ku (IntKind.i64.wrap ((IntKind.i64.wrap (p0c.2.2*6364136223846793005))+1442695040888963407)) 33) (ku (IntKind.i64.wrap ((IntKind.i64.wrap (p0c.2.2*6364136223846793005))+1442695040888963407)) 45)) 255)+(IntKind.i64.wrap x1))) 255,IntKind.i64.wrap (p0c.2.1+1),IntKind.i64.wrap ((IntKind.i64.wrap (p0c.2.2*6364136223846793005))+1442695040888963407))) else (some (lf (V2 (ku (IntKind.i64.wrap ((IntKind.i64.wrap (p0c.2.2*6364136223846793005))+1442695040888963407)) 33) (ku (IntKind.i64.wrap ((IntKind.i64.wrap (p0c.2.2*6364136223846793005))+1442695040888963407)) 45)) 255,p0c.2.1,IntKind.i64.wrap ((IntKind.i64.wrap (p0c.2.2*6364136223846793005))+1442695040888963407))):Option (Int×Int×Int))) (fun s2=>some (s2.1,s2.2.1,s2.2.2))
def bd (p0c:(List Int)×Int×Int) (p1n:Int):Option (Int×Int×Int):=
 if decide (p1n<=0) then (some (0,p0c.2.1,p0c.2.2)) else (if decide (p1n<=256) then ((ju (p0c.1,p0c.2.1,p0c.2.2)).bind fun r0=>(chk (p1n≠0)).bind fun _=>some (Int.tmod r0.1 p1n,r0.2.1,r0.2.2)) else ((ju (p0c.1,p0c.2.1,p0c.2.2)).bind fun r2=>(ju (p0c.1,r2.2.1,r2.2.2)).bind fun r3=>(ju (p0c.1,r3.2.1,r3.2.2)).bind fun r4=>(ju (p0c.1,r4.2.1,r4.2.2)).bind fun r5=>(chk (p1n≠0)).bind fun _=>some (Int.tmod (IntKind.i64.wrap ((IntKind.i64.wrap ((IntKind.i64.wrap ((IntKind.i64.wrap (r2.1*16777216))+(IntKind.i64.wrap (r3.1*65536))))+(IntKind.i64.wrap (r4.1*256))))+r5.1)) p1n,r5.2.1,r5.2.2)))
def c7 (p0c:(List Int)×Int×Int) (p1list:List Int):Option (Int×Int×Int):=
 (bd (p0c.1,p0c.2.1,p0c.2.2) (p1list.length:Int)).bind fun r0=>(aR p1list r0.1).bind fun x1=>some (x1,r0.2.1,r0.2.2)
def cq (p0x:Int) (p1low:Int) (p2high:Int):Option Bool:=
 if decide (p0x≥p1low) then (some (decide (p0x<=p2high))) else (some false)
def kM (p0n:Int):Option Bool:=
 (cq p0n 0 8).bind fun r1=>some r1
def mi (p0:Int×Int×Int×Int):Option Int:=
 Option.bind ((if p0.1==1 then (some (p0.1==1)) else (some (p0.1==2)):Option Bool)) (fun s1=>if s1 then (if p0.2.1 !=0 then (some (-1)) else (if p0.2.2.1 !=0 then (some (-1)) else (if p0.2.2.2 !=0 then (some (-1)) else (some 0)))) else (if p0.1==3 then ((kM p0.2.1).bind fun r3=>if r3 then (if p0.2.2.1 !=0 then (some (-1)) else (if p0.2.2.2 !=0 then (some (-1)) else (some 0))) else (some (-1))) else (Option.bind ((if p0.1==4 then (some (p0.1==4)) else (some (p0.1==5)):Option Bool)) (fun s2=>if s2 then (if p0.2.1 !=0 then (some (-1)) else (if p0.2.2.1 !=0 then (some (-1)) else (if p0.2.2.2 !=0 then (some (-1)) else (some 2)))) else (if p0.1==6 then (if p0.2.1 !=0 then (some (-1)) else (if p0.2.2.1 !=0 then (some (-1)) else (if p0.2.2.2 !=0 then (some (-1)) else (some 1)))) else (if p0.1==7 then (if p0.2.1 !=0 then (some (-1)) else ((cq p0.2.2.2 1 3).bind fun r1=>if r1 then ((cq p0.2.2.1 0 p0.2.2.2).bind fun r2=>if r2 then (some 1) else (some (-1))) else (some (-1)))) else (some (-1))))))))
def oR (p0e:(List Yq1)) (s3:Int×Int):Option (Out Bool (Int×Int)):=
 if decide (s3.2<(p0e.length:Int)) then ((aR p0e s3.2).bind fun x3=>(mi (x3.1,x3.2.1,x3.2.2.1,x3.2.2.2)).bind fun r3=>if decide (r3<0) then (some (.ret false)) else (if decide (r3>s3.1) then (some (.ret false)) else (some (.nxt (IntKind.i64.wrap ((IntKind.i64.wrap (s3.1 - r3))+1),IntKind.i64.wrap (s3.2+1)))))) else (some (.brk (s3.1,s3.2)))
def qL (p0e:(List Yq1)):Option Bool:=
 aO (aC (oR p0e) aP (0,0)) (fun r=>some r) (fun s4=>some (s4.1==1))
def fu (p0e:(List Yq1)):Option Bool:=
 if decide ((p0e.length:Int)<=24) then ((qL p0e).bind fun r1=>some r1) else (some false)
def kz (p0l:List Yq1) (s3:Int×Int):Option Yq8:=
 if decide (s3.1>0) then ((aR p0l (IntKind.i64.wrap (s3.2 - 1))).bind fun x3=>(mi (x3.1,x3.2.1,x3.2.2.1,x3.2.2.2)).bind fun r3=>some (.nxt (IntKind.i64.wrap ((IntKind.i64.wrap (s3.1 - 1))+r3),IntKind.i64.wrap (s3.2 - 1)))) else (some (.brk (s3.1,s3.2)))
def eS (p0l:List Yq1):Option Int:=
 aO (aC (kz p0l) aP (1,(p0l.length:Int))) (fun r=>some r) (fun s4=>some s4.2)
def dN:Nat->(List Yq1)->Option Int
 | 0,_=>none
 | n+1,p0l =>
  (aR p0l (IntKind.i64.wrap ((p0l.length:Int) - 1))).bind fun x0=>Option.bind ((if x0.1==4 then (some (x0.1==4)) else (some (x0.1==5)):Option Bool)) (fun s1=>if s1 then ((chk (And (0<=(IntKind.i64.wrap ((p0l.length:Int) - 1))) ((IntKind.i64.wrap ((p0l.length:Int) - 1))<=(p0l.length:Int)))).bind fun _=>(eS (p0l.take ((IntKind.i64.wrap ((p0l.length:Int) - 1)).toNat))).bind fun r3=>(chk (And (0<=r3) (r3<=(p0l.length:Int)))).bind fun _=>((dN n) (p0l.take r3.toNat)).bind fun r9=>(chk (And (0<=r3) (And (r3<=(IntKind.i64.wrap ((p0l.length:Int) - 1))) ((IntKind.i64.wrap ((p0l.length:Int) - 1))<=(p0l.length:Int))))).bind fun _=>((dN n) ((p0l.take ((IntKind.i64.wrap ((p0l.length:Int) - 1)).toNat)).drop r3.toNat)).bind fun r11=>some (Min.min 100000 (IntKind.i64.wrap ((IntKind.i64.wrap (r9+r11))+1)))) else (if x0.1==6 then ((chk (And (0<=(IntKind.i64.wrap ((p0l.length:Int) - 1))) ((IntKind.i64.wrap ((p0l.length:Int) - 1))<=(p0l.length:Int)))).bind fun _=>((dN n) (p0l.take ((IntKind.i64.wrap ((p0l.length:Int) - 1)).toNat))).bind fun r13=>some (Min.min 100000 (IntKind.i64.wrap (r13+1)))) else (if x0.1==7 then ((chk (And (0<=(IntKind.i64.wrap ((p0l.length:Int) - 1))) ((IntKind.i64.wrap ((p0l.length:Int) - 1))<=(p0l.length:Int)))).bind fun _=>((dN n) (p0l.take ((IntKind.i64.wrap ((p0l.length:Int) - 1)).toNat))).bind fun r17=>some (Min.min 100000 (IntKind.i64.wrap ((IntKind.i64.wrap ((IntKind.i64.wrap (r17+3))*x0.2.2.2))+1)))) else (some 1))))
def uC (p0l:List Yq1):Option (List Yq1):=
 (dm 32 ([] :List Yq1) p0l).bind fun z1=>some z1
def dK (p0a:(List Yq1)) (p1b:(List Yq1)) (p2t:Int×Int×Int×Int):Option (List Yq1):=
 (uC p0a).bind fun r1=>(dm 32 r1 p1b).bind fun z1=>(dm 32 z1 ([(p2t.1,p2t.2.1,p2t.2.2.1,p2t.2.2.2)])).bind fun z2=>some z2
def lV (p0kind:Int):Option (List Yq1):=
 some ([(p0kind,0,0,0)])
def jv:Nat->(List Yq1)->Int->Int->Option (List Yq1)
 | 0,_,_,_=>none
 | n+1,p0e,p1low,p2high =>
  if p2high==0 then ((lV 2).bind fun r0=>some r0) else (((jv n) p0e (Max.max 0 (IntKind.i64.wrap (p1low - 1))) (IntKind.i64.wrap (p2high - 1))).bind fun r3=>(dK p0e r3 (4,0,0,0)).bind fun r4=>if decide (p1low>0) then (some r4) else ((lV 2).bind fun r7=>(dK r4 r7 (5,0,0,0)).bind fun r8=>some r8))
def ct:Nat->(List Yq1)->Option (List Yq1)
 | 0,_=>none
 | n+1,p0l =>
  (aR p0l (IntKind.i64.wrap ((p0l.length:Int) - 1))).bind fun x0=>Option.bind ((if x0.1==4 then (some (x0.1==4)) else (some (x0.1==5)):Option Bool)) (fun s1=>if s1 then ((chk (And (0<=(IntKind.i64.wrap ((p0l.length:Int) - 1))) ((IntKind.i64.wrap ((p0l.length:Int) - 1))<=(p0l.length:Int)))).bind fun _=>(eS (p0l.take ((IntKind.i64.wrap ((p0l.length:Int) - 1)).toNat))).bind fun r3=>(chk (And (0<=r3) (r3<=(p0l.length:Int)))).bind fun _=>((ct n) (p0l.take r3.toNat)).bind fun r10=>(chk (And (0<=r3) (And (r3<=(IntKind.i64.wrap ((p0l.length:Int) - 1))) ((IntKind.i64.wrap ((p0l.length:Int) - 1))<=(p0l.length:Int))))).bind fun _=>((ct n) ((p0l.take ((IntKind.i64.wrap ((p0l.length:Int) - 1)).toNat)).drop r3.toNat)).bind fun r12=>(dK r10 r12 (x0.1,x0.2.1,x0.2.2.1,x0.2.2.2)).bind fun r13=>some r13) else (if x0.1==6 then ((chk (And (0<=(IntKind.i64.wrap ((p0l.length:Int) - 1))) ((IntKind.i64.wrap ((p0l.length:Int) - 1))<=(p0l.length:Int)))).bind fun _=>((ct n) (p0l.take ((IntKind.i64.wrap ((p0l.length:Int) - 1)).toNat))).bind fun r18=>(dK r18 ([] :List Yq1) (x0.1,x0.2.1,x0.2.2.1,x0.2.2.2)).bind fun r19=>some r19) else (if x0.1==7 then ((chk (And (0<=(IntKind.i64.wrap ((p0l.length:Int) - 1))) ((IntKind.i64.wrap ((p0l.length:Int) - 1))<=(p0l.length:Int)))).bind fun _=>((ct n) (p0l.take ((IntKind.i64.wrap ((p0l.length:Int) - 1)).toNat))).bind fun r24=>(jv dn r24 x0.2.2.1 x0.2.2.2).bind fun r25=>some r25) else (some ([(x0.1,x0.2.1,x0.2.2.1,x0.2.2.2)])))))
def kA (p0e:(List Yq1)):Option (((List Yq1))×Bool):=
 (fu p0e).bind fun r1=>if r1 then ((dN dn p0e).bind fun r2=>if decide (r2>5000) then (some ([],false)) else ((ct dn p0e).bind fun r3=>if decide ((r3.length:Int)>400) then (some ([],false)) else (some (r3,true)))) else (some ([],false))
def iS (p1from:Int) (p2to:Int) (s2:Int×List Int):Option (Out Yq5 (Int×List Int)):=
 if decide (s2.1<(s2.2.length:Int)) then (Option.bind (((chk (0<=s2.1)).bind fun _=>if (lf (ku p1from s2.1) 1)==1 then ((aR s2.2 s2.1).bind fun x6=>(aR s2.2 s2.1).bind fun x7=>some (s2.2.set s2.1.toNat (orI x6 p2to))) else (some s2.2):Option (List Int))) (fun s8=>some (.nxt (IntKind.i64.wrap (s2.1+1),s8)))) else (some (.brk (s2.1,s2.2)))
def mj (p0p:(List Int)×Int×Int×(List Int)×Bool) (p1from:Int) (p2to:Int):Option Yq5:=
 aO (aC (iS p1from p2to) aP (0,p0p.2.2.2.1)) (fun r9=>some r9) (fun s10=>some (p0p.1,p0p.2.1,p0p.2.2.1,s10.2,p0p.2.2.2.2))
def bS:Nat->Yq5->(List Yq1)->Option ((Bool×Int×Int)×(List Int)×Int×Int×(List Int)×Bool)
 | 0,_,_=>none
 | n+1,p0,p1 =>
  (aR p1 (IntKind.i64.wrap ((p1.length:Int) - 1))).bind fun x0=>if x0.1==2 then (some ((true,0,0),p0.1,p0.2.1,p0.2.2.1,p0.2.2.2.1,p0.2.2.2.2)) else (if x0.1==3 then ((dm 8 p0.1 ([x0.2.1])).bind fun z2=>(dm 8 p0.2.2.2.1 ([0])).bind fun z3=>some ((false,pL 1 (p0.1.length:Int),pL 1 (p0.1.length:Int)),z2,p0.2.1,p0.2.2.1,z3,p0.2.2.2.2)) else (if x0.1==4 then ((chk (And (0<=(IntKind.i64.wrap ((p1.length:Int) - 1))) ((IntKind.i64.wrap ((p1.length:Int) - 1))<=(p1.length:Int)))).bind fun _=>(eS (p1.take ((IntKind.i64.wrap ((p1.length:Int) - 1)).toNat))).bind fun r5=>(chk (And (0<=r5) (r5<=(p1.length:Int)))).bind fun _=>((bS n) (p0.1,p0.2.1,p0.2.2.1,p0.2.2.2.1,p0.2.2.2.2) (p1.take r5.toNat)).bind fun r7=>(chk (And (0<=r5) (And (r5<=(IntKind.i64.wrap ((p1.length:Int) - 1))) ((IntKind.i64.wrap ((p1.length:Int) - 1))<=(p1.length:Int))))).bind fun _=>((bS n) (r7.2.1,r7.2.2.1,r7.2.2.2.1,r7.2.2.2.2.1,r7.2.2.2.2.2) ((p1.take ((IntKind.i64.wrap ((p1.length:Int) - 1)).toNat)).drop r5.toNat)).bind fun r9=>(mj (r9.2.1,r9.2.2.1,r9.2.2.2.1,r9.2.2.2.2.1,r9.2.2.2.2.2) r7.1.2.2 r9.1.2.1).bind fun r10=>if r7.1.1 then (Option.bind ((if r7.1.1 then (some (r9.1.1,orI r7.1.2.1 r9.1.2.1,r9.1.2.2)) else (some (r9.1.1,r7.1.2.1,r9.1.2.2)):Option (Bool×Int×Int))) (fun s11=>Option.bind ((if r9.1.1 then (some (s11.1,s11.2.1,orI r7.1.2.2 r9.1.2.2)) else (some (s11.1,s11.2.1,s11.2.2)):Option (Bool×Int×Int))) (fun s12=>some ((s12.1,s12.2.1,s12.2.2),r10.1,r10.2.1,r10.2.2.1,r10.2.2.2.1,r10.2.2.2.2)))) else (Option.bind ((if r7.1.1 then (some (false,orI r7.1.2.1 r9.1.2.1,r9.1.2.2)) else (some (false,r7.1.2.1,r9.1.2.2)):Option (Bool×Int×Int))) (fun s13=>Option.bind ((if r9.1.1 then (some (s13.1,s13.2.1,orI r7.1.2.2 r9.1.2.2)) else (some (s13.1,s13.2.1,s13.2.2)):Option (Bool×Int×Int))) (fun s14=>some ((s14.1,s14.2.1,s14.2.2),r10.1,r10.2.1,r10.2.2.1,r10.2.2.2.1,r10.2.2.2.2))))) else (if x0.1==5 then ((chk (And (0<=(IntKind.i64.wrap ((p1.length:Int) - 1))) ((IntKind.i64.wrap ((p1.length:Int) - 1))<=(p1.length:Int)))).bind fun _=>(eS (p1.take ((IntKind.i64.wrap ((p1.length:Int) - 1)).toNat))).bind fun r16=>(chk (And (0<=r16) (r16<=(p1.length:Int)))).bind fun _=>((bS n) (p0.1,p0.2.1,p0.2.2.1,p0.2.2.2.1,p0.2.2.2.2) (p1.take r16.toNat)).bind fun r18=>(chk (And (0<=r16) (And (r16<=(IntKind.i64.wrap ((p1.length:Int) - 1))) ((IntKind.i64.wrap ((p1.length:Int) - 1))<=(p1.length:Int))))).bind fun _=>((bS n) (r18.2.1,r18.2.2.1,r18.2.2.2.1,r18.2.2.2.2.1,r18.2.2.2.2.2) ((p1.take ((IntKind.i64.wrap ((p1.length:Int) - 1)).toNat)).drop r16.toNat)).bind fun r20=>if r18.1.1 then (some ((true,orI r18.1.2.1 r20.1.2.1,orI r18.1.2.2 r20.1.2.2),r20.2.1,r20.2.2.1,r20.2.2.2.1,r20.2.2.2.2.1,r20.2.2.2.2.2)) else (some ((r20.1.1,orI r18.1.2.1 r20.1.2.1,orI r18.1.2.2 r20.1.2.2),r20.2.1,r20.2.2.1,r20.2.2.2.1,r20.2.2.2.2.1,r20.2.2.2.2.2))) else (if x0.1==6 then ((chk (And (0<=(IntKind.i64.wrap ((p1.length:Int) - 1))) ((IntKind.i64.wrap ((p1.length:Int) - 1))<=(p1.length:Int)))).bind fun _=>((bS n) (p0.1,p0.2.1,p0.2.2.1,p0.2.2.2.1,p0.2.2.2.2) (p1.take ((IntKind.i64.wrap ((p1.length:Int) - 1)).toNat))).bind fun r22=>(mj (r22.2.1,r22.2.2.1,r22.2.2.2.1,r22.2.2.2.2.1,r22.2.2.2.2.2) r22.1.2.2 r22.1.2.1).bind fun r23=>some ((true,r22.1.2.1,r22.1.2.2),r23.1,r23.2.1,r23.2.2.1,r23.2.2.2.1,r23.2.2.2.2)) else (some ((false,0,0),p0.1,p0.2.1,p0.2.2.1,p0.2.2.2.1,p0.2.2.2.2))))))
def c9 (r0:(List Yq1)×Bool) (s2:Int×Int):Option (Out (Yq5×Bool) (Int×Int)):=
 if decide (s2.2<(r0.1.length:Int)) then (Option.bind (((aR r0.1 s2.2).bind fun x3=>if x3.1==3 then (some (IntKind.i64.wrap (s2.1+1))) else (some s2.1):Option Int)) (fun s4=>some (.nxt (s4,IntKind.i64.wrap (s2.2+1))))) else (some (.brk (s2.1,s2.2)))
def du (p0e:List Yq1):Option (Yq5×Bool):=
 (kA p0e).bind fun r0=>if r0.2 then (aO (aC (c9 r0) aP (0,0)) (fun r5=>some r5) (fun s6=>if decide (s6.1>20) then (some ((([] :List Int),0,0,([] :List Int),false),false)) else ((bS dn (([] :List Int),0,0,([] :List Int),false) r0.1).bind fun r7=>some ((r7.2.1,r7.1.2.1,r7.1.2.2,r7.2.2.2.2.1,r7.1.1),true)))) else (some ((([] :List Int),0,0,([] :List Int),false),false))
def gL (p0p:(List Int)×Int×Int×(List Int)×Bool) (p1set:Int) (s6:Int×Int):Option Yq8:=
 if decide (s6.2<(p0p.1.length:Int)) then (Option.bind (((chk (0<=IntKind.i64.wrap (s6.2+1))).bind fun _=>if (lf (ku p1set (IntKind.i64.wrap (s6.2+1))) 1)==1 then ((aR p0p.2.2.2.1 s6.2).bind fun x6=>some (orI s6.1 x6)) else (some s6.1):Option Int)) (fun s8=>some (.nxt (s8,IntKind.i64.wrap (s6.2+1))))) else (some (.brk (s6.1,s6.2)))
def gM (p0p:(List Int)×Int×Int×(List Int)×Bool) (p2letter:Int) (s7:Int×Int) (s13:Int×Int):Option Yq8:=
 if decide (s13.2<(p0p.1.length:Int)) then (Option.bind (((chk (0<=s13.2)).bind fun _=>if (lf (ku s7.1 s13.2) 1)==1 then ((aR p0p.1 s13.2).bind fun x12=>if x12==p2letter then ((chk (0<=IntKind.i64.wrap (s13.2+1))).bind fun _=>some (orI s13.1 (pL 1 (IntKind.i64.wrap (s13.2+1))))) else (some s13.1)) else (some s13.1):Option Int)) (fun s15=>some (.nxt (s15,IntKind.i64.wrap (s13.2+1))))) else (some (.brk (s13.1,s13.2)))
def mT (p0p:(List Int)×Int×Int×(List Int)×Bool) (p1set:Int) (p2letter:Int):Option Int:=
 Option.bind ((if (lf p1set 1)==1 then (some p0p.2.1) else (some 0):Option Int)) (fun s1=>aO (aC (gL p0p p1set) aP (s1,0)) (fun r=>some r) (fun s7=>aO (aC (gM p0p p2letter s7) aP (0,0)) (fun r=>some r) (fun s14=>some s14.1)))
def nG (p0l:List Int) (p1x:Int) (s3:Int):Option (Out Int Int):=
 if decide (s3<(p0l.length:Int)) then ((aR p0l s3).bind fun x3=>if x3==p1x then (some (.ret s3)) else (some (.nxt (IntKind.i64.wrap (s3+1))))) else (some (.brk s3))
def mn (p0l:List Int) (p1x:Int):Option Int:=
 aO (aC (nG p0l p1x) aP 0) (fun r=>some r) (fun s4=>some (-1))
def kB (p0p:(List Int)×Int×Int×(List Int)×Bool) (p1set:Int):Option Bool:=
 if (lf p1set 1)==1 then (if p0p.2.2.2.2 then (some true) else (some ((lf (ku p1set 1) p0p.2.2.1) !=0))) else (some ((lf (ku p1set 1) p0p.2.2.1) !=0))
def fv (p0:(List Int)×Int×Int×(List Int)×Bool) (s17:(List Int)×Int×Int×(List Bool)×(List (List Int))) (s23:(List Int)×(List Int)×Int):Option (Out (Yq3×Bool) ((List Int)×(List Int)×Int)):=
 if decide (s23.2.2<9) then ((aR s23.1 s17.2.1).bind fun x11=>(mT (p0.1,p0.2.1,p0.2.2.1,p0.2.2.2.1,p0.2.2.2.2) x11 s23.2.2).bind fun r27=>Option.bind ((if r27 !=0 then ((mn s23.1 r27).bind fun r29=>if decide (r29<0) then ((dm 8 s23.1 ([r27])).bind fun z30=>some (z30,(s23.1.length:Int))) else (some (s23.1,r29))) else (some (s23.1,-1)):Option ((List Int)×Int))) (fun s25=>(dm 8 s23.2.1 ([s25.2])).bind fun z31=>some (.nxt (s25.1,z31,IntKind.i64.wrap (s23.2.2+1))))) else (some (.brk (s23.1,s23.2.1,s23.2.2)))
def fw (p0:(List Int)×Int×Int×(List Int)×Bool) (p1:Int) (s17:(List Int)×Int×Int×(List Bool)×(List (List Int))):Option (Out (Yq3×Bool) ((List Int)×Int×Int×(List Bool)×(List (List Int)))):=
 if decide (s17.2.1<(s17.1.length:Int)) then (aO (aC (fv p0 s17) aP (s17.1,([] :List Int),0)) (fun r=>some (.ret r)) (fun s24=>if decide ((s24.1.length:Int)>p1) then (some (.ret ((0,[],[]),false))) else ((aR s24.1 s17.2.1).bind fun x12=>(kB (p0.1,p0.2.1,p0.2.2.1,p0.2.2.2.1,p0.2.2.2.2) x12).bind fun r30=>(dm 1 s17.2.2.2.1 ([r30])).bind fun z32=>(dm 24 s17.2.2.2.2 ([s24.2.1])).bind fun z33=>some (.nxt (s24.1,IntKind.i64.wrap (s17.2.1+1),s17.2.2.1,z32,z33))))) else (some (.brk (s17.1,s17.2.1,s17.2.2.1,s17.2.2.2.1,s17.2.2.2.2)))
def gf (p0:(List Int)×Int×Int×(List Int)×Bool) (p1:Int):Option (Yq3×Bool):=
 aO (aC (fw p0 p1) aP ([1],0,0,[],[])) (fun r=>some r) (fun s18=>some ((s18.2.2.1,s18.2.2.2.1,s18.2.2.2.2),true))
def uD (s3:(List Int)×Int):Option (Out Yq3 ((List Int)×Int)):=
 if decide (s3.2<9) then ((dm 8 s3.1 ([-1])).bind fun z3=>some (.nxt (z3,IntKind.i64.wrap (s3.2+1)))) else (some (.brk (s3.1,s3.2)))
def nH:Option Yq3:=
 aO (aC (uD) aP (([] :List Int),0)) (fun r=>some r) (fun s4=>some (0,[false],[s4.1]))
def fX (p0:Int×(List Bool)×(List (List Int))) (p1:List Int) (p2:List Bool) (s17:(List Int)×(List Int)×Int×Int×(List Bool)×(List (List Int))) (s23:(List Int)×(List Int)×(List Int)×Int):Option (Out Yq3 ((List Int)×(List Int)×(List Int)×Int)):=
 if decide (s23.2.2.2<9) then ((aR s23.2.1 s17.2.2.1).bind fun x79=>(aR p0.2.2 x79).bind fun x80=>(aR x80 s23.2.2.2).bind fun x81=>Option.bind ((if decide (x81≥0) then ((aR p2 x81).bind fun x85=>if x85 then ((aR p1 x81).bind fun x86=>(mn s23.1 x86).bind fun r28=>if decide (r28<0) then ((aR p1 x81).bind fun x87=>(dm 8 s23.1 ([x87])).bind fun z47=>(dm 8 s23.2.1 ([x81])).bind fun z48=>some (z47,z48,(s23.1.length:Int))) else (some (s23.1,s23.2.1,r28))) else (some (s23.1,s23.2.1,-1))) else (some (s23.1,s23.2.1,-1)):Option ((List Int)×(List Int)×Int))) (fun s25=>(dm 8 s23.2.2.1 ([s25.2.2])).bind fun z49=>some (.nxt (s25.1,s25.2.1,z49,IntKind.i64.wrap (s23.2.2.2+1))))) else (some (.brk (s23.1,s23.2.1,s23.2.2.1,s23.2.2.2)))
def jc (p0:Int×(List Bool)×(List (List Int))) (p1:List Int) (p2:List Bool) (s17:(List Int)×(List Int)×Int×Int×(List Bool)×(List (List Int))):Option (Out Yq3 ((List Int)×(List Int)×Int×Int×(List Bool)×(List (List Int)))):=
 if decide (s17.2.2.1<(s17.1.length:Int)) then (aO (aC (fX p0 p1 p2 s17) aP (s17.1,s17.2.1,([] :List Int),0)) (fun r=>some (.ret r)) (fun s24=>(aR s24.2.1 s17.2.2.1).bind fun x88=>(aR p0.2.1 x88).bind fun x89=>(dm 1 s17.2.2.2.2.1 ([x89])).bind fun z50=>(dm 24 s17.2.2.2.2.2 ([s24.2.2.1])).bind fun z51=>some (.nxt (s24.1,s24.2.1,IntKind.i64.wrap (s17.2.2.1+1),s17.2.2.2.1,z50,z51)))) else (some (.brk (s17.1,s17.2.1,s17.2.2.1,s17.2.2.2.1,s17.2.2.2.2.1,s17.2.2.2.2.2)))
def im (p0:Int×(List Bool)×(List (List Int))) (p1:List Int) (p2:List Bool):Option Yq3:=
 (aR p2 p0.1).bind fun x1=>if x1 then ((aR p1 p0.1).bind fun x2=>aO (aC (jc p0 p1 p2) aP ([x2],[p0.1],0,0,[],[])) (fun r=>some r) (fun s18=>some (s18.2.2.2.1,s18.2.2.2.2.1,s18.2.2.2.2.2))) else ((nH).bind fun r1=>some (r1.1,r1.2.1,r1.2.2))
def mU (p0a:List Int) (p1b:List Int) (s3:Int):Option (Out Int Int):=
 if decide (s3<(p0a.length:Int)) then (if decide (s3<(p1b.length:Int)) then ((aR p0a s3).bind fun x9=>(aR p1b s3).bind fun x10=>if decide (x9<x10) then (some (.ret (-1))) else ((aR p0a s3).bind fun x11=>(aR p1b s3).bind fun x12=>if decide (x11>x12) then (some (.ret 1)) else (some (.nxt (IntKind.i64.wrap (s3+1)))))) else (some (.brk s3))) else (some (.brk s3))
def nW (p0a:List Int) (p1b:List Int):Option Int:=
 aO (aC (mU p0a p1b) aP 0) (fun r=>some r) (fun s4=>if decide ((p0a.length:Int)<(p1b.length:Int)) then (some (-1)) else (if decide ((p0a.length:Int)>(p1b.length:Int)) then (some 1) else (some 0)))
def iT (p0a:Int×(List Bool)×(List (List Int))) (s71:(List Bool)×Int) (s77:(List Bool)×Int):Option (Out (List Bool) ((List Bool)×Int)):=
 if decide (s77.2<9) then (Option.bind (((aR p0a.2.2 s71.2).bind fun x319=>(aR x319 s77.2).bind fun x320=>if decide (x320≥0) then ((aR p0a.2.2 s71.2).bind fun x321=>(aR x321 s77.2).bind fun x322=>(aR s77.1 x322).bind fun x323=>if x323 then ((aR s77.1 s71.2).bind fun x324=>some (s77.1.set s71.2.toNat true)) else (some s77.1)) else (some s77.1):Option (List Bool))) (fun s79=>some (.nxt (s79,IntKind.i64.wrap (s77.2+1))))) else (some (.brk (s77.1,s77.2)))
def iU (p0a:Int×(List Bool)×(List (List Int))) (s71:(List Bool)×Int):Option (Out (List Bool) ((List Bool)×Int)):=
 if decide (s71.2<(p0a.2.1.length:Int)) then (aO (aC (iT p0a s71) aP (s71.1,0)) (fun r=>some (.ret r)) (fun s78=>some (.nxt (s78.1,IntKind.i64.wrap (s71.2+1))))) else (some (.brk (s71.1,s71.2)))
def kC (p0a:Int×(List Bool)×(List (List Int))) (s53:(List Bool)×Int):Option (Out (List Bool) ((List Bool)×Int)):=
 if decide (s53.2<(p0a.2.1.length:Int)) then (aO (aC (iU p0a) aP (s53.1,0)) (fun r=>some (.ret r)) (fun s72=>some (.nxt (s72.1,IntKind.i64.wrap (s53.2+1))))) else (some (.brk (s53.1,s53.2)))
def j6 (p0a:Int×(List Bool)×(List (List Int))):Option (List Bool):=
 (dm 1 ([] :List Bool) p0a.2.1).bind fun z1=>aO (aC (kC p0a) aP (z1,0)) (fun r=>some r) (fun s54=>some s54.1)
def lK (p0a:Int×(List Bool)×(List (List Int))) (p1classes:List Int) (p2s:Int) (s5:(List Int)×Int):Option Yq7:=
 if decide (s5.2<9) then (Option.bind (((aR p0a.2.2 p2s).bind fun x17=>(aR x17 s5.2).bind fun x18=>if decide (x18<0) then ((dm 8 s5.1 ([-1])).bind fun z12=>some z12) else ((aR p1classes x18).bind fun x19=>(dm 8 s5.1 ([x19])).bind fun z11=>some z11):Option (List Int))) (fun s7=>some (.nxt (s7,IntKind.i64.wrap (s5.2+1))))) else (some (.brk (s5.1,s5.2)))
def nX (p0a:Int×(List Bool)×(List (List Int))) (p1classes:List Int) (p2s:Int):Option (List Int):=
 (aR p1classes p2s).bind fun x1=>aO (aC (lK p0a p1classes p2s) aP ([x1],0)) (fun r=>some r) (fun s6=>some s6.1)
def fx (p0:Int×(List Bool)×List (List Int)) (r0:List Bool) (s2:(List Int)×Int):Option Yq7:=
 if decide (s2.2<(p0.2.1.length:Int)) then ((aR p0.2.1 s2.2).bind fun x3=>Option.bind ((if x3 then (some 1) else (some 0):Option Int)) (fun s4=>(aR r0 s2.2).bind fun x5=>Option.bind ((if x5 then (some s4) else (some (-1)):Option Int)) (fun s6=>(dm 8 s2.1 ([s6])).bind fun z7=>some (.nxt (z7,IntKind.i64.wrap (s2.2+1)))))) else (some (.brk (s2.1,s2.2)))
def fy (s13:(List (List Int))×(List Int)×Int) (r16:List Int) (s18:Int×Int):Option (Out (List Int) (Int×Int)):=
 if decide (s18.2<(s13.1.length:Int)) then (Option.bind (((aR s13.1 s18.2).bind fun x19=>(nW x19 r16).bind fun r20=>if r20==0 then (some s18.2) else (some s18.1):Option Int)) (fun s21=>some (.nxt (s21,IntKind.i64.wrap (s18.2+1))))) else (some (.brk (s18.1,s18.2)))
def fA (p0:Int×(List Bool)×List (List Int)) (s11:(List Int)×Int) (s13:(List (List Int))×(List Int)×Int):Option (Out (List Int) ((List (List Int))×(List Int)×Int)):=
 if decide (s13.2.2<(p0.2.1.length:Int)) then (Option.bind (((aR s11.1 s13.2.2).bind fun x14=>if decide (x14<0) then ((dm 8 s13.2.1 ([(-1)])).bind fun z15=>some (s13.1,z15)) else ((nX (p0.1,p0.2.1,p0.2.2) s11.1 s13.2.2).bind fun r16=>aO (aC (fy s13 r16) aP ((-1),0)) (fun r22=>none) (fun s23=>Option.bind ((if decide (s23.1<0) then ((dm 24 s13.1 ([r16])).bind fun z24=>some (z24,(s13.1.length:Int))) else (some (s13.1,s23.1)):Option ((List (List Int))×Int))) (fun s25=>(dm 8 s13.2.1 ([s25.2])).bind fun z26=>some (s25.1,z26)))):Option ((List (List Int))×List Int))) (fun s27=>some (.nxt (s27.1,s27.2,IntKind.i64.wrap (s13.2.2+1))))) else (some (.brk (s13.1,s13.2.1,s13.2.2)))
def j7 (p0:Int×(List Bool)×List (List Int)) (s11:(List Int)×Int):Option Yq7:=
 if decide (s11.2<=(p0.2.1.length:Int)) then (aO (aC (fA p0 s11) aP (([] :List (List Int)),([] :List Int),0)) (fun r28=>some (.ret r28)) (fun s29=>(nW s29.2.1 s11.1).bind fun r30=>if r30==0 then (some (.ret s11.1)) else (some (.nxt (s29.2.1,IntKind.i64.wrap (s11.2+1)))))) else (some (.brk (s11.1,s11.2)))
def iV (p0:Int×(List Bool)×List (List Int)):Option (List Int):=
 (j6 (p0.1,p0.2.1,p0.2.2)).bind fun r0=>aO (aC (fx p0 r0) aP (([] :List Int),0)) (fun r8=>some r8) (fun s9=>aO (aC (j7 p0) aP (s9.1,0)) (fun r31=>some r31) (fun s32=>some s32.1))
def fB (p0a:Int×(List Bool)×(List (List Int))):Option Yq3:=
 (iV (p0a.1,p0a.2.1,p0a.2.2)).bind fun r1=>(j6 (p0a.1,p0a.2.1,p0a.2.2)).bind fun r2=>(im (p0a.1,p0a.2.1,p0a.2.2) r1 r2).bind fun r3=>some (r3.1,r3.2.1,r3.2.2)
def dO (p0e:(List Yq1)):Option (Yq3×Bool):=
 (du p0e).bind fun r1=>if r1.2 then ((gf (r1.1.1,r1.1.2.1,r1.1.2.2.1,r1.1.2.2.2.1,r1.1.2.2.2.2) 200).bind fun r2=>if r2.2 then ((fB (r2.1.1,r2.1.2.1,r2.1.2.2)).bind fun r3=>if decide ((r3.2.1.length:Int)>12) then (some ((0,[],[]),false)) else (some ((r3.1,r3.2.1,r3.2.2),true))) else (some ((0,[],[]),false))) else (some ((0,[],[]),false))
def fc (p0:Int×(List Bool)×(List (List Int))) (p1:Int×(List Bool)×(List (List Int))) (s3:Int):Option (Out Bool Int):=
 if decide (s3<(p0.2.1.length:Int)) then ((aR p0.2.1 s3).bind fun x5=>(aR p1.2.1 s3).bind fun x6=>if x5 !=x6 then (some (.ret false)) else (some (.nxt (IntKind.i64.wrap (s3+1))))) else (some (.brk s3))
def fe (p0:Int×(List Bool)×(List (List Int))) (p1:Int×(List Bool)×(List (List Int))) (s7:Int):Option (Out Bool Int):=
 if decide (s7<(p0.2.2.length:Int)) then ((aR p0.2.2 s7).bind fun x11=>(aR p1.2.2 s7).bind fun x12=>(nW x11 x12).bind fun r9=>if r9 !=0 then (some (.ret false)) else (some (.nxt (IntKind.i64.wrap (s7+1))))) else (some (.brk s7))
def nY (p0:Int×(List Bool)×(List (List Int))) (p1:Int×(List Bool)×(List (List Int))):Option Bool:=
 if p0.1 !=p1.1 then (some false) else (if (p0.2.1.length:Int) !=(p1.2.1.length:Int) then (some false) else (if (p0.2.2.length:Int) !=(p1.2.2.length:Int) then (some false) else (aO (aC (fc p0 p1) aP 0) (fun r=>some r) (fun s4=>aO (aC (fe p0 p1) aP 0) (fun r=>some r) (fun s8=>some true)))))
def CK (p0s:ByteArray) (p1sep:Int) (s1:(List ByteArray)×Int×Int):Option (Out (List ByteArray) ((List ByteArray)×Int×Int)):=
 if decide (s1.2.2<((p0s.size:Nat):Int)) then (Option.bind (((Eb p0s s1.2.2).bind fun z2=>if z2==p1sep then ((R1 p0s s1.2.1 s1.2.2).bind fun z3=>(dm 16 s1.1 ([z3])).bind fun z4=>some (z4,IntKind.i64.wrap (s1.2.2+1))) else (some (s1.1,s1.2.1)):Option ((List ByteArray)×Int))) (fun s5=>some (.nxt (s5.1,s5.2,IntKind.i64.wrap (s1.2.2+1))))) else (some (.brk (s1.1,s1.2.1,s1.2.2)))
def CL (p0s:ByteArray) (p1sep:Int):Option (List ByteArray):=
 aO (aC (CK p0s p1sep) aP (([] :List ByteArray),0,0)) (fun r6=>some r6) (fun s7=>(R1 p0s s7.2.1 ((p0s.size:Nat):Int)).bind fun z8=>(dm 16 s7.1 ([z8])).bind fun z9=>some z9)
def lh (p0n:Int):Option ByteArray:=
 (kM p0n).bind fun r1=>if r1 then ((aR ([(⟨#[97]⟩:ByteArray),(⟨#[97,45]⟩:ByteArray),(⟨#[98]⟩:ByteArray),(⟨#[98,45]⟩:ByteArray),(⟨#[99]⟩:ByteArray),(⟨#[99,45]⟩:ByteArray),(⟨#[48]⟩:ByteArray),(⟨#[49]⟩:ByteArray),(⟨#[50]⟩:ByteArray)]) p0n).bind fun x1=>some x1) else (some (⟨#[]⟩:ByteArray))
def vE (s1:Int×ByteArray):Option (Out ByteArray (Int×ByteArray)):=
 if s1.1 !=0 then (Option.bind ((if decide ((Int.tmod s1.1 10)<0) then (some (IntKind.i64.wrap (-(Int.tmod s1.1 10)))) else (some (Int.tmod s1.1 10)):Option Int)) (fun s2=>(R0 (w7 ([IntKind.u8.wrap (IntKind.i64.wrap (48+s2))])) s1.2).bind fun z3=>some (.nxt (Dz s1.1 10,z3)))) else (some (.brk (s1.1,s1.2)))
def oS (p0n:Int):Option ByteArray:=
 if p0n==0 then (some (⟨#[48]⟩)) else (aO (aC (vE) aP (p0n,(⟨#[]⟩:ByteArray))) (fun r4=>some r4) (fun s5=>if decide (p0n<0) then ((R0 (⟨#[45]⟩) s5.2).bind fun z6=>some z6) else (some s5.2)))
def xo (p0t:Int×Int×Int×Int):Option ByteArray:=
 if p0t.1==1 then (some (⟨#[33]⟩)) else (if p0t.1==2 then (some (⟨#[40,41]⟩)) else (if p0t.1==3 then ((lh p0t.2.1).bind fun r0=>some r0) else (if p0t.1==4 then (some (⟨#[46]⟩)) else (if p0t.1==5 then (some (⟨#[124]⟩)) else (if p0t.1==6 then (some (⟨#[42]⟩)) else ((oS p0t.2.2.1).bind fun r7=>(R0 (⟨#[123]⟩) r7).bind fun z8=>(R0 z8 (⟨#[44]⟩)).bind fun z9=>(oS p0t.2.2.2).bind fun r10=>(R0 z9 r10).bind fun z11=>(R0 z11 (⟨#[125]⟩)).bind fun z12=>some z12))))))
def tk (p0s:ByteArray) (s3:Int):Option (Out (Int×Bool) Int):=
 if decide (s3<9) then ((lh s3).bind fun r3=>if r3==p0s then (some (.ret (s3,true))) else (some (.nxt (IntKind.i64.wrap (s3+1))))) else (some (.brk s3))
def pZ (p0s:ByteArray):Option (Int×Bool):=
 aO (aC (tk p0s) aP 0) (fun r=>some r) (fun s4=>some (0,false))
def A0 (p0s:ByteArray) (s1:Int):Option (Out Yq1 Int):=
 if decide (s1<=6) then (if s1 !=3 then ((xo (s1,0,0,0)).bind fun r2=>if r2==p0s then (some (.ret (s1,0,0,0))) else (some (.nxt (IntKind.i64.wrap (s1+1))))) else (some (.nxt (IntKind.i64.wrap (s1+1))))) else (some (.brk s1))
def zt (p0s:ByteArray):Option Yq1:=
 aO (aC (A0 p0s) aP 1) (fun r3=>some r3) (fun s4=>(pZ p0s).bind fun r5=>if r5.2 then (some (3,r5.1,0,0)) else (if ((p0s.size:Nat):Int)==5 then ((Eb p0s 0).bind fun z6=>if z6==123 then ((Eb p0s 2).bind fun z7=>if z7==44 then ((Eb p0s 4).bind fun z8=>if z8==125 then ((Eb p0s 1).bind fun z11=>(Eb p0s 3).bind fun z12=>some (7,0,IntKind.i64.wrap ((IntKind.i64.wrap z11) - 48),IntKind.i64.wrap ((IntKind.i64.wrap z12) - 48))) else (some (0,0,0,0))) else (some (0,0,0,0))) else (some (0,0,0,0))) else (some (0,0,0,0))))
def vF (r1:List ByteArray) (s3:Int×(List Yq1)):Option (Out (((List Yq1))×Bool) (Int×(List Yq1))):=
 if decide (s3.1<(r1.length:Int)) then (if decide (s3.1<=24) then ((aR r1 s3.1).bind fun x3=>(zt x3).bind fun r4=>(dm 32 s3.2 ([(r4.1,r4.2.1,r4.2.2.1,r4.2.2.2)])).bind fun z3=>some (.nxt (IntKind.i64.wrap (s3.1+1),z3))) else (some (.brk (s3.1,s3.2)))) else (some (.brk (s3.1,s3.2)))
def iq (p0s:ByteArray):Option (((List Yq1))×Bool):=
 (CL p0s 32).bind fun r1=>aO (aC (vF r1) aP (0,[])) (fun r=>some r) (fun s4=>(fu s4.2).bind fun r5=>if r5 then (some (s4.2,true)) else (some ([],false)))
def qM (p0c:(List Int)×Int×Int) (p1list:List ByteArray):Option (ByteArray×Int×Int):=
 (bd (p0c.1,p0c.2.1,p0c.2.2) (p1list.length:Int)).bind fun r0=>(aR p1list r0.1).bind fun x1=>some (x1,r0.2.1,r0.2.2)
def oT (p0c:(List Int)×Int×Int):Option ((List Yq1)×Int×Int):=
 (qM (p0c.1,p0c.2.1,p0c.2.2) ([⟨#[97]⟩,⟨#[97,32,98,32,46]⟩,⟨#[97,32,42]⟩,⟨#[97,32,98,32,124,32,42]⟩,⟨#[97,32,97,45,32,46]⟩,⟨#[97,32,42,32,98,32,46]⟩,⟨#[97,32,98,32,42,32,46,32,99,32,46]⟩,⟨#[97,32,97,32,124,32,42]⟩,⟨#[97,32,98,32,46,32,42]⟩,⟨#[48,32,97,32,46,32,42]⟩,⟨#[97,32,49,32,46,32,98,32,46]⟩,⟨#[97,32,123,48,44,50,125]⟩,⟨#[97,32,98,32,124,32,123,49,44,51,125]⟩,⟨#[40,41]⟩,⟨#[33]⟩,⟨#[97,45,32,42,32,97,32,46]⟩,⟨#[97,32,98,45,32,46,32,42,32,99,32,124]⟩,⟨#[97,32,42,32,97,32,42,32,46]⟩,⟨#[97,32,48,32,124,32,42,32,98,32,46]⟩,⟨#[97,32,97,32,46,32,42]⟩,⟨#[97,32,98,32,46,32,98,32,97,32,46,32,124,32,42]⟩])).bind fun r0=>(iq r0.1).bind fun r1=>some (r1.1,r0.2.1,r0.2.2)
def lW (p0c:(List Int)×Int×Int) (p1n:Int):Option (Bool×Int×Int):=
 (bd (p0c.1,p0c.2.1,p0c.2.2) p1n).bind fun r0=>some (r0.1==0,r0.2.1,r0.2.2)
def rq (p0letter:Int):Option (List Yq1):=
 some ([(3,p0letter,0,0)])
def dw:Nat->((List Int)×Int×Int)->Int->Option ((List Yq1)×Int×Int)
 | 0,_,_=>none
 | n+1,p0,p1 =>
  if p1==0 then ((lW (p0.1,p0.2.1,p0.2.2) 12).bind fun r0=>if r0.1 then ((c7 (p0.1,r0.2.1,r0.2.2) ([1,2])).bind fun r1=>(lV r1.1).bind fun r2=>some (r2,r1.2.1,r1.2.2)) else ((c7 (p0.1,r0.2.1,r0.2.2) ([0,0,2,2,1,4,3,6,7])).bind fun r3=>(rq r3.1).bind fun r4=>some (r4,r3.2.1,r3.2.2))) else ((bd (p0.1,p0.2.1,p0.2.2) 6).bind fun r5=>Option.bind ((if r5.1==0 then (some (r5.1==0)) else (some (r5.1==1)):Option Bool)) (fun s6=>if s6 then (((dw n) (p0.1,r5.2.1,r5.2.2) (IntKind.i64.wrap (p1 - 1))).bind fun r7=>((dw n) (p0.1,r7.2.1,r7.2.2) (IntKind.i64.wrap (p1 - 1))).bind fun r8=>(dK r7.1 r8.1 (4,0,0,0)).bind fun r9=>some (r9,r8.2.1,r8.2.2)) else (Option.bind ((if r5.1==2 then (some (r5.1==2)) else (some (r5.1==3)):Option Bool)) (fun s10=>if s10 then (((dw n) (p0.1,r5.2.1,r5.2.2) (IntKind.i64.wrap (p1 - 1))).bind fun r11=>((dw n) (p0.1,r11.2.1,r11.2.2) (IntKind.i64.wrap (p1 - 1))).bind fun r12=>(dK r11.1 r12.1 (5,0,0,0)).bind fun r13=>some (r13,r12.2.1,r12.2.2)) else (if r5.1==4 then (((dw n) (p0.1,r5.2.1,r5.2.2) (IntKind.i64.wrap (p1 - 1))).bind fun r14=>(dK r14.1 ([] :List Yq1) (6,0,0,0)).bind fun r15=>some (r15,r14.2.1,r14.2.2)) else ((bd (p0.1,r5.2.1,r5.2.2) 3).bind fun r16=>((dw n) (p0.1,r16.2.1,r16.2.2) (IntKind.i64.wrap (p1 - 1))).bind fun r17=>(bd (p0.1,r17.2.1,r17.2.2) (IntKind.i64.wrap ((IntKind.i64.wrap (1+r16.1))+1))).bind fun r18=>(dK r17.1 ([] :List Yq1) (7,0,r18.1,IntKind.i64.wrap (1+r16.1))).bind fun r19=>some (r19,r18.2.1,r18.2.2)))))))
def qN (p0c:(List Int)×Int×Int):Option ((List Yq1)×Int×Int):=
 (lW (p0c.1,p0c.2.1,p0c.2.2) 2).bind fun r0=>if r0.1 then ((oT (p0c.1,r0.2.1,r0.2.2)).bind fun r1=>some (r1.1,r1.2.1,r1.2.2)) else ((bd (p0c.1,r0.2.1,r0.2.2) 3).bind fun r2=>(dw dn (p0c.1,r2.2.1,r2.2.2) (IntKind.i64.wrap (1+r2.1))).bind fun r3=>some (r3.1,r3.2.1,r3.2.2))
def iW (p0c:(List Int)×Int×Int) (s3:Int×Int×Int×(List Int)×List Yq1):Option (Out (((List Int)×List Yq1)×Int×Int) (Int×Int×Int×(List Int)×List Yq1)):=
 if decide (s3.1>0) then ((bd (p0c.1,s3.2.1,s3.2.2.1) 3).bind fun r6=>(dm 8 s3.2.2.2.1 ([r6.1])).bind fun z7=>some (.nxt (IntKind.i64.wrap (s3.1 - 1),r6.2.1,r6.2.2,z7,s3.2.2.2.2))) else (some (.brk (s3.1,s3.2.1,s3.2.2.1,s3.2.2.2.1,s3.2.2.2.2)))
def kD (p0c:(List Int)×Int×Int) (s14:Int×Int×Int×Int×(List Int)×List Yq1):Option (Out (((List Int)×List Yq1)×Int×Int) (Int×Int×Int×Int×(List Int)×List Yq1)):=
 if decide (s14.2.1>0) then ((bd (p0c.1,s14.2.2.1,s14.2.2.2.1) 3).bind fun r15=>(bd (p0c.1,r15.2.1,r15.2.2) (s14.2.2.2.2.1.length:Int)).bind fun r20=>(bd (p0c.1,r20.2.1,r20.2.2) (s14.2.2.2.2.1.length:Int)).bind fun r21=>(c7 (p0c.1,r21.2.1,r21.2.2) ([0,0,1,2])).bind fun r22=>(dm 32 s14.2.2.2.2.2 ([(IntKind.i64.wrap ((IntKind.i64.wrap (s14.1+1))+r15.1),r20.1,r21.1,r22.1)])).bind fun z23=>some (.nxt (IntKind.i64.wrap ((IntKind.i64.wrap (s14.1+1))+r15.1),IntKind.i64.wrap (s14.2.1 - 1),r22.2.1,r22.2.2,s14.2.2.2.2.1,z23))) else (some (.brk (s14.1,s14.2.1,s14.2.2.1,s14.2.2.2.1,s14.2.2.2.2.1,s14.2.2.2.2.2)))
def oU (p0c:(List Int)×Int×Int):Option (((List Int)×List Yq1)×Int×Int):=
 (c7 (p0c.1,p0c.2.1,p0c.2.2) ([2,3,4,4,5])).bind fun r0=>aO (aC (iW p0c) aP (r0.1,r0.2.1,r0.2.2,([] :List Int),([] :List Yq1))) (fun r8=>some r8) (fun s9=>(c7 (p0c.1,s9.2.1,s9.2.2.1) ([4,8,11])).bind fun r10=>(bd (p0c.1,r10.2.1,r10.2.2) r10.1).bind fun r11=>aO (aC (kD p0c) aP (0,r11.1,r11.2.1,r11.2.2,s9.2.2.2.1,s9.2.2.2.2)) (fun r24=>some r24) (fun s25=>some ((s25.2.2.2.2.1,s25.2.2.2.2.2),s25.2.2.1,s25.2.2.2.1)))
def tl (p0c:(List Int)×Int×Int):Option (((List Int)×List Yq1)×Int×Int):=
 (oU (p0c.1,p0c.2.1,p0c.2.2)).bind fun r0=>(bd (p0c.1,r0.2.1,r0.2.2) 14).bind fun r1=>Option.bind ((if r1.1==0 then ((c7 (p0c.1,r1.2.1,r1.2.2) ([(-1),3,2])).bind fun r4=>(aR r0.1.1 0).bind fun x5=>some (r4.2.1,r4.2.2,r0.1.1.set 0 r4.1,r0.1.2)) else (if r1.1==1 then ((c7 (p0c.1,r1.2.1,r1.2.2) ([0,1,99,100])).bind fun r11=>(bd (p0c.1,r11.2.1,r11.2.2) 6).bind fun r12=>(bd (p0c.1,r12.2.1,r12.2.2) 6).bind fun r13=>(bd (p0c.1,r13.2.1,r13.2.2) 4).bind fun r14=>(dm 32 r0.1.2 ([(r11.1,r12.1,r13.1,r14.1)])).bind fun z15=>some (r14.2.1,r14.2.2,r0.1.1,z15)) else (if r1.1==2 then (some (r1.2.1,r1.2.2,([] :List Int),r0.1.2)) else (some (r1.2.1,r1.2.2,r0.1.1,r0.1.2)))):Option (Int×Int×(List Int)×List Yq1))) (fun s16=>some ((s16.2.2.1,s16.2.2.2),s16.1,s16.2.1))
def bV (p0s1:List Bool) (p1s2:List Bool) (s3:Int):Option (Out Bool Int):=
 if decide (s3<(p0s1.length:Int)) then ((aR p0s1 s3).bind fun x5=>(aR p1s2 s3).bind fun x6=>if x5 !=x6 then (some (.ret false)) else (some (.nxt (IntKind.i64.wrap (s3+1))))) else (some (.brk s3))
def dE (p0s1:List Bool) (p1s2:List Bool):Option Bool:=
 if (p0s1.length:Int) !=(p1s2.length:Int) then (some false) else (aO (aC (bV p0s1 p1s2) aP 0) (fun r=>some r) (fun s4=>some true))
def aU (p0s1:List (List Int)) (p1s2:List (List Int)) (p2eq:(List Int)->(List Int)->Option Bool) (s3:Int):Option (Out Bool Int):=
 if decide (s3<(p0s1.length:Int)) then ((aR p0s1 s3).bind fun x5=>(aR p1s2 s3).bind fun x6=>(p2eq x5 x6).bind fun r9=>if r9 then (some (.nxt (IntKind.i64.wrap (s3+1)))) else (some (.ret false))) else (some (.brk s3))
def bz (p0s1:List (List Int)) (p1s2:List (List Int)) (p2eq:(List Int)->(List Int)->Option Bool):Option Bool:=
 if (p0s1.length:Int) !=(p1s2.length:Int) then (some false) else (aO (aC (aU p0s1 p1s2 p2eq) aP 0) (fun r=>some r) (fun s4=>some true))
def cg (p0s1:List Int) (p1s2:List Int) (s3:Int):Option (Out Bool Int):=
 if decide (s3<(p0s1.length:Int)) then ((aR p0s1 s3).bind fun x5=>(aR p1s2 s3).bind fun x6=>if x5 !=x6 then (some (.ret false)) else (some (.nxt (IntKind.i64.wrap (s3+1))))) else (some (.brk s3))
def cO (p0s1:List Int) (p1s2:List Int):Option Bool:=
 if (p0s1.length:Int) !=(p1s2.length:Int) then (some false) else (aO (aC (cg p0s1 p1s2) aP 0) (fun r=>some r) (fun s4=>some true))
def fP (p0x:List Int) (p1y:List Int):Option Bool:=
 (cO p0x p1y).bind fun r1=>some r1
def ir (p0a:Int×(List Bool)×(List (List Int))) (p1b:Int×(List Bool)×(List (List Int))):Option Bool:=
 if p0a.1==p1b.1 then ((dE p0a.2.1 p1b.2.1).bind fun r1=>if r1 then ((bz p0a.2.2 p1b.2.2 (fun a0 a1=>fP a0 a1)).bind fun r2=>some r2) else (some false)) else (some false)
def bq (p0n:Int) (p1a:Int) (p2b:Int):Option Bool:=
 if decide (p0n≥p1a) then (some (decide (p0n<=p2b))) else (some false)
def fK (p0n:Int):Option Bool:=
 (bq p0n 0 8).bind fun r1=>some r1
def oV (p0t:Int×Int×Int×Int):Option Bool:=
 if p0t.1==3 then ((fK p0t.2.1).bind fun r3=>if r3 then (if p0t.2.2.1==0 then (some (p0t.2.2.2==0)) else (some false)) else (some false)) else (if p0t.1==7 then (if p0t.2.1==0 then ((bq p0t.2.2.1 0 p0t.2.2.2).bind fun r1=>if r1 then ((bq p0t.2.2.2 1 3).bind fun r2=>some r2) else (some false)) else (some false)) else (Option.bind ((if p0t.1==1 then (some (p0t.1==1)) else (if p0t.1==2 then (some (p0t.1==2)) else (if p0t.1==4 then (some (p0t.1==4)) else (if p0t.1==5 then (some (p0t.1==5)) else (some (p0t.1==6))))):Option Bool)) (fun s1=>if s1 then (some ((p0t.1==p0t.1)&&((p0t.2.1==0)&&((p0t.2.2.1==0)&&((p0t.2.2.2==0)&&true))))) else (some false))))
def oW (p0e:List Yq1) (s1:(List (Tr Yq1))×Int):Option (Out (Tr Yq1) ((List (Tr Yq1))×Int)):=
 if decide (s1.2<(p0e.length:Int)) then ((aR p0e s1.2).bind fun x2=>Option.bind ((Option.bind ((if x2.1==4 then (some (x2.1==4)) else (some (x2.1==5)):Option Bool)) (fun s3=>if s3 then (some 2) else (Option.bind ((if x2.1==6 then (some (x2.1==6)) else (some (x2.1==7)):Option Bool)) (fun s4=>if s4 then (some 1) else (some 0)))):Option Int)) (fun s5=>(oV (x2.1,x2.2.1,x2.2.2.1,x2.2.2.2)).bind fun r6=>if r6 then (if decide ((IntKind.i64.wrap ((s1.1.length:Int) - s5))<0) then (some (.ret Tr.nil)) else ((chk (And (0<=(IntKind.i64.wrap ((s1.1.length:Int) - s5))) ((IntKind.i64.wrap ((s1.1.length:Int) - s5))<=(s1.1.length:Int)))).bind fun _=>(dm 8 ([] :List (Tr Yq1)) (s1.1.drop ((IntKind.i64.wrap ((s1.1.length:Int) - s5)).toNat))).bind fun z10=>(chk (And (0<=(IntKind.i64.wrap ((s1.1.length:Int) - s5))) ((IntKind.i64.wrap ((s1.1.length:Int) - s5))<=(s1.1.length:Int)))).bind fun _=>(dm 8 (s1.1.take ((IntKind.i64.wrap ((s1.1.length:Int) - s5)).toNat)) ([Tr.node (x2.1,x2.2.1,x2.2.2.1,x2.2.2.2) z10])).bind fun z12=>some (.nxt (z12,IntKind.i64.wrap (s1.2+1))))) else (some (.ret Tr.nil)))) else (some (.brk (s1.1,s1.2)))
def j8 (p0e:List Yq1):Option (Tr Yq1):=
 aO (aC (oW p0e) aP (([] :List (Tr Yq1)),0)) (fun r13=>some r13) (fun s14=>if (s14.1.length:Int) !=1 then (some Tr.nil) else ((aR s14.1 0).bind fun x15=>some x15))
def qO (p0e:List Yq1):Option Bool:=
 (j8 p0e).bind fun r0=>some (cond.match_1 (fun (u4:Bool)=>Bool) (Tr.isNil r0) (fun (u5:Unit)=>false) (fun (u6:Unit)=>true))
def gN (p0e:(List Yq1)):Option Bool:=
 if decide ((p0e.length:Int)<=24) then ((qO p0e).bind fun r1=>some r1) else (some false)
def br (mrec:(Tr Yq1)->Option Int) (p0x:Tr Yq1) (z1:Yq1×List (Tr Yq1)) (s3:Int×Int):Option Yq8:=
 if decide (s3.2<(z1.2.length:Int)) then (Option.bind (((aR z1.2 s3.2).bind fun x4=>(Tr.get p0x).bind fun z5=>(Tr.get p0x).bind fun z6=>if z6.1.1==7 then ((mrec x4).bind fun r10=>(Tr.get p0x).bind fun z11=>(Tr.get p0x).bind fun z12=>some (IntKind.i64.wrap (s3.1+(IntKind.i64.wrap ((IntKind.i64.wrap (r10+3))*z12.1.2.2.2))))) else ((mrec x4).bind fun r13=>some (IntKind.i64.wrap (s3.1+r13))):Option Int)) (fun s14=>some (.nxt (s14,IntKind.i64.wrap (s3.2+1))))) else (some (.brk (s3.1,s3.2)))
def bI:Nat->(Tr Yq1)->Option Int
 | 0,_=>none
 | n+1,p0x =>
  (Tr.get p0x).bind fun z0=>(Tr.get p0x).bind fun z1=>aO (aC (br (bI n) p0x z1) aP (1,0)) (fun r15=>some r15) (fun s16=>some (Min.min s16.1 100000))
def A1 (p0kind:Int):Option (Tr Yq1):=
 some (Tr.node (p0kind,0,0,0) ([] :List (Tr Yq1)))
def jw:Nat->(Tr Yq1)->Int->Int->Option (Tr Yq1)
 | 0,_,_,_=>none
 | n+1,p0x,p1low,p2high =>
  if p2high==0 then ((A1 2).bind fun r0=>some r0) else (((jw n) p0x (Max.max 0 (IntKind.i64.wrap (p1low - 1))) (IntKind.i64.wrap (p2high - 1))).bind fun r1=>if decide (p1low>0) then (some (Tr.node (4,0,0,0) ([p0x,r1]))) else ((A1 2).bind fun r2=>some (Tr.node (5,0,0,0) ([Tr.node (4,0,0,0) ([p0x,r1]),r2]))))
def ba (mrec:(Tr Yq1)->Option (Tr Yq1)) (z23:Yq1×List (Tr Yq1)) (s26:Int×Int×Int×Int×Int×List (Tr Yq1)):Option (Out (Tr Yq1) (Int×Int×Int×Int×Int×List (Tr Yq1))):=
 if decide (s26.1<(z23.2.length:Int)) then ((aR z23.2 s26.1).bind fun x27=>(mrec x27).bind fun r30=>(dm 8 s26.2.2.2.2.2 ([r30])).bind fun z31=>some (.nxt (IntKind.i64.wrap (s26.1+1),s26.2.1,s26.2.2.1,s26.2.2.2.1,s26.2.2.2.2.1,z31))) else (some (.brk (s26.1,s26.2.1,s26.2.2.1,s26.2.2.2.1,s26.2.2.2.2.1,s26.2.2.2.2.2)))
def bg:Nat->(Tr Yq1)->Option (Tr Yq1)
 | 0,_=>none
 | n+1,p0x =>
  (Tr.get p0x).bind fun z0=>(Tr.get p0x).bind fun z1=>if z1.1.1==7 then ((Tr.get p0x).bind fun z11=>(Tr.get p0x).bind fun z12=>(aR z12.2 0).bind fun x13=>((bg n) x13).bind fun r14=>(Tr.get p0x).bind fun z15=>(Tr.get p0x).bind fun z16=>(Tr.get p0x).bind fun z17=>(Tr.get p0x).bind fun z18=>(jw dn r14 z16.1.2.2.1 z18.1.2.2.2).bind fun r19=>some r19) else ((Tr.get p0x).bind fun z20=>(Tr.get p0x).bind fun z21=>(Tr.get p0x).bind fun z22=>(Tr.get p0x).bind fun z23=>aO (aC (ba (bg n) z23) aP (0,z21.1.1,z21.1.2.1,z21.1.2.2.1,z21.1.2.2.2,([] :List (Tr Yq1)))) (fun r32=>some r32) (fun s33=>some (Tr.node (s33.2.1,s33.2.2.1,s33.2.2.2.1,s33.2.2.2.2.1) s33.2.2.2.2.2)))
def aY (mrec:(Tr Yq1)->(List Yq1)->Option (List Yq1)) (z1:Yq1×List (Tr Yq1)) (s4:Int×List Yq1):Option (Out (List Yq1) (Int×List Yq1)):=
 if decide (s4.1<(z1.2.length:Int)) then ((aR z1.2 s4.1).bind fun x5=>(mrec x5 s4.2).bind fun r6=>some (.nxt (IntKind.i64.wrap (s4.1+1),r6))) else (some (.brk (s4.1,s4.2)))
def bf:Nat->(Tr Yq1)->(List Yq1)->Option (List Yq1)
 | 0,_,_=>none
 | n+1,p0x,p1out =>
  (Tr.get p0x).bind fun z0=>(Tr.get p0x).bind fun z1=>aO (aC (aY (bf n) z1) aP (0,p1out)) (fun r7=>some r7) (fun s8=>(Tr.get p0x).bind fun z12=>(Tr.get p0x).bind fun z13=>(dm 32 s8.2 ([(z13.1.1,z13.1.2.1,z13.1.2.2.1,z13.1.2.2.2)])).bind fun z14=>some z14)
def oX (p0x:Tr Yq1):Option (List Yq1):=
 (bf dn p0x ([] :List Yq1)).bind fun r0=>some r0
def kE (p0e:List Yq1):Option ((List Yq1)×Bool):=
 (gN p0e).bind fun r0=>if r0 then ((j8 p0e).bind fun r1=>(bI dn r1).bind fun r2=>if decide (r2>5000) then (some (([] :List Yq1),false)) else ((bg dn r1).bind fun r3=>(oX r3).bind fun r4=>if decide ((r4.length:Int)>400) then (some (([] :List Yq1),false)) else (some (r4,true)))) else (some (([] :List Yq1),false))
def cw (p0p:(List Int)×Int×Int×(List Int)×Bool) (p1last:Int) (p2first:Int) (s2:Int×List Int):Option (Out Yq5 (Int×List Int)):=
 if decide (s2.1<(p0p.2.2.2.1.length:Int)) then (Option.bind (((chk (0<=s2.1)).bind fun _=>if (lf (ku p1last s2.1) 1)==1 then ((aR s2.2 s2.1).bind fun x4=>(aR s2.2 s2.1).bind fun x5=>some (s2.2.set s2.1.toNat (orI x4 p2first))) else (some s2.2):Option (List Int))) (fun s6=>some (.nxt (IntKind.i64.wrap (s2.1+1),s6)))) else (some (.brk (s2.1,s2.2)))
def dA (p0p:(List Int)×Int×Int×(List Int)×Bool) (p1last:Int) (p2first:Int):Option Yq5:=
 aO (aC (cw p0p p1last p2first) aP (0,p0p.2.2.2.1)) (fun r7=>some r7) (fun s8=>some (p0p.1,p0p.2.1,p0p.2.2.1,s8.2,p0p.2.2.2.2))
def bh:Nat->Yq5->(Tr Yq1)->Option ((Int×Int×Bool)×(List Int)×Int×Int×(List Int)×Bool)
 | 0,_,_=>none
 | n+1,p0,p1 =>
  (Tr.get p1).bind fun z0=>(Tr.get p1).bind fun z1=>if z1.1.1==2 then (some ((0,0,true),p0.1,p0.2.1,p0.2.2.1,p0.2.2.2.1,p0.2.2.2.2)) else (if z1.1.1==3 then ((Tr.get p1).bind fun z5=>(Tr.get p1).bind fun z6=>(dm 8 p0.1 ([z6.1.2.1])).bind fun z7=>(dm 8 p0.2.2.2.1 ([0])).bind fun z8=>some ((pL 1 (p0.1.length:Int),pL 1 (p0.1.length:Int),false),z7,p0.2.1,p0.2.2.1,z8,p0.2.2.2.2)) else (if z1.1.1==5 then ((Tr.get p1).bind fun z17=>(Tr.get p1).bind fun z18=>(aR z18.2 0).bind fun x19=>((bh n) (p0.1,p0.2.1,p0.2.2.1,p0.2.2.2.1,p0.2.2.2.2) x19).bind fun r20=>(Tr.get p1).bind fun z21=>(Tr.get p1).bind fun z22=>(aR z22.2 1).bind fun x23=>((bh n) r20.2 x23).bind fun r24=>if r20.1.2.2 then (some ((orI r20.1.1 r24.1.1,orI r20.1.2.1 r24.1.2.1,true),r24.2.1,r24.2.2.1,r24.2.2.2.1,r24.2.2.2.2.1,r24.2.2.2.2.2)) else (some ((orI r20.1.1 r24.1.1,orI r20.1.2.1 r24.1.2.1,r24.1.2.2),r24.2.1,r24.2.2.1,r24.2.2.2.1,r24.2.2.2.2.1,r24.2.2.2.2.2))) else (if z1.1.1==4 then ((Tr.get p1).bind fun z33=>(Tr.get p1).bind fun z34=>(aR z34.2 0).bind fun x35=>((bh n) (p0.1,p0.2.1,p0.2.2.1,p0.2.2.2.1,p0.2.2.2.2) x35).bind fun r36=>(Tr.get p1).bind fun z37=>(Tr.get p1).bind fun z38=>(aR z38.2 1).bind fun x39=>((bh n) r36.2 x39).bind fun r40=>(dA (r40.2.1,r40.2.2.1,r40.2.2.2.1,r40.2.2.2.2.1,r40.2.2.2.2.2) r36.1.2.1 r40.1.1).bind fun r41=>if r36.1.2.2 then (Option.bind ((if r36.1.2.2 then (some (orI r36.1.1 r40.1.1,r40.1.2.1,r40.1.2.2)) else (some (r36.1.1,r40.1.2.1,r40.1.2.2)):Option (Int×Int×Bool))) (fun s42=>Option.bind ((if r40.1.2.2 then (some (s42.1,orI s42.2.1 r36.1.2.1,s42.2.2)) else (some (s42.1,s42.2.1,s42.2.2)):Option (Int×Int×Bool))) (fun s43=>some ((s43.1,s43.2.1,s43.2.2),r41.1,r41.2.1,r41.2.2.1,r41.2.2.2.1,r41.2.2.2.2)))) else (Option.bind ((if r36.1.2.2 then (some (orI r36.1.1 r40.1.1,r40.1.2.1,false)) else (some (r36.1.1,r40.1.2.1,false)):Option (Int×Int×Bool))) (fun s44=>Option.bind ((if r40.1.2.2 then (some (s44.1,orI s44.2.1 r36.1.2.1,s44.2.2)) else (some (s44.1,s44.2.1,s44.2.2)):Option (Int×Int×Bool))) (fun s45=>some ((s45.1,s45.2.1,s45.2.2),r41.1,r41.2.1,r41.2.2.1,r41.2.2.2.1,r41.2.2.2.2))))) else (if z1.1.1==6 then ((Tr.get p1).bind fun z46=>(Tr.get p1).bind fun z47=>(aR z47.2 0).bind fun x48=>((bh n) (p0.1,p0.2.1,p0.2.2.1,p0.2.2.2.1,p0.2.2.2.2) x48).bind fun r49=>(dA (r49.2.1,r49.2.2.1,r49.2.2.2.1,r49.2.2.2.2.1,r49.2.2.2.2.2) r49.1.2.1 r49.1.1).bind fun r50=>some ((r49.1.1,r49.1.2.1,true),r50.1,r50.2.1,r50.2.2.1,r50.2.2.2.1,r50.2.2.2.2)) else (some ((0,0,false),p0.1,p0.2.1,p0.2.2.1,p0.2.2.2.1,p0.2.2.2.2))))))
def da (r0:(List Yq1)×Bool) (s2:Int×Int):Option (Out (Yq5×Bool) (Int×Int)):=
 if decide (s2.2<(r0.1.length:Int)) then (Option.bind (((aR r0.1 s2.2).bind fun x3=>if x3.1==3 then (some (IntKind.i64.wrap (s2.1+1))) else (some s2.1):Option Int)) (fun s4=>some (.nxt (s4,IntKind.i64.wrap (s2.2+1))))) else (some (.brk (s2.1,s2.2)))
def gu (p0e:List Yq1):Option (Yq5×Bool):=
 (kE p0e).bind fun r0=>if r0.2 then (aO (aC (da r0) aP (0,0)) (fun r5=>some r5) (fun s6=>if decide (s6.1>20) then (some ((([] :List Int),0,0,([] :List Int),false),false)) else ((j8 r0.1).bind fun r7=>(bh dn (([] :List Int),0,0,([] :List Int),false) r7).bind fun r8=>some ((r8.2.1,r8.1.1,r8.1.2.1,r8.2.2.2.2.1,r8.1.2.2),true)))) else (some ((([] :List Int),0,0,([] :List Int),false),false))
def dP (p3:Int->Int->Option (Int×Bool)) (s29:(List Int)×Yq2×Int×Int×(List Bool)×(List (List Int))) (s39:(List Int)×Yq2×(List Int)×Int):Option (Out (Yq3×Bool) ((List Int)×Yq2×(List Int)×Int)):=
 if decide (s39.2.2.2<9) then (Option.bind (((aR s39.1 s29.2.2.1).bind fun x20=>(p3 x20 s39.2.2.2).bind fun r20=>if r20.2 then ((chk (iOk r20.1=true)).bind fun _=>Option.bind ((if (lkM s39.2.1 r20.1).isSome then (some (s39.1,s39.2.1,(lkM s39.2.1 r20.1).getD 0)) else ((IZ s39.2.1 iOk iOk r20.1 (s39.1.length:Int)).bind fun m37=>(dm 8 s39.1 ([r20.1])).bind fun z75=>some (z75,m37,(s39.1.length:Int))):Option ((List Int)×Yq2×Int))) (fun s43=>(dm 8 s39.2.2.1 ([s43.2.2])).bind fun z76=>some (s43.1,s43.2.1,z76))) else ((dm 8 s39.2.2.1 ([-1])).bind fun z73=>some (s39.1,s39.2.1,z73)):Option ((List Int)×Yq2×(List Int)))) (fun s42=>some (.nxt (s42.1,s42.2.1,s42.2.2,IntKind.i64.wrap (s39.2.2.2+1))))) else (some (.brk (s39.1,s39.2.1,s39.2.2.1,s39.2.2.2)))
def bT (p1:Int) (p2:Int->Option Bool) (p3:Int->Int->Option (Int×Bool)) (s29:(List Int)×Yq2×Int×Int×(List Bool)×(List (List Int))):Option (Out (Yq3×Bool) ((List Int)×Yq2×Int×Int×(List Bool)×(List (List Int)))):=
 if decide (s29.2.2.1<(s29.1.length:Int)) then (aO (aC (dP p3 s29) aP (s29.1,s29.2.1,([] :List Int),0)) (fun r=>some (.ret r)) (fun s40=>if decide ((s40.1.length:Int)>p1) then (some (.ret ((0,[],[]),false))) else ((aR s40.1 s29.2.2.1).bind fun x21=>(p2 x21).bind fun r21=>(dm 1 s29.2.2.2.2.1 ([r21])).bind fun z77=>(dm 24 s29.2.2.2.2.2 ([s40.2.2.1])).bind fun z78=>some (.nxt (s40.1,s40.2.1,IntKind.i64.wrap (s29.2.2.1+1),s29.2.2.2.1,z77,z78))))) else (some (.brk (s29.1,s29.2.1,s29.2.2.1,s29.2.2.2.1,s29.2.2.2.2.1,s29.2.2.2.2.2)))
def eC (p0:Int) (p1:Int) (p2:Int->Option Bool) (p3:Int->Int->Option (Int×Bool)):Option (Yq3×Bool):=
 (IZ ([] :List (Int×Int)) iOk iOk p0 0).bind fun m1=>aO (aC (bT p1 p2 p3) aP ([p0],m1,0,0,[],[])) (fun r=>some r) (fun s30=>some ((s30.2.2.2.1,s30.2.2.2.2.1,s30.2.2.2.2.2),true))
def db (p0p:(List Int)×Int×Int×(List Int)×Bool) (p1set:Int):Option Bool:=
 if (lf p1set 1)==1 then (if p0p.2.2.2.2 then (some true) else (some ((lf (ku p1set 1) p0p.2.2.1) !=0))) else (some ((lf (ku p1set 1) p0p.2.2.1) !=0))
def cP (p0p:(List Int)×Int×Int×(List Int)×Bool) (p1set:Int) (s6:Int×Int):Option Yq8:=
 if decide (s6.2<(p0p.2.2.2.1.length:Int)) then (Option.bind (((aR p0p.2.2.2.1 s6.2).bind fun x6=>(chk (0<=IntKind.i64.wrap (s6.2+1))).bind fun _=>if (lf (ku p1set (IntKind.i64.wrap (s6.2+1))) 1)==1 then (some (orI s6.1 x6)) else (some s6.1):Option Int)) (fun s8=>some (.nxt (s8,IntKind.i64.wrap (s6.2+1))))) else (some (.brk (s6.1,s6.2)))
def cQ (p0p:(List Int)×Int×Int×(List Int)×Bool) (p2letter:Int) (s7:Int×Int) (s13:Int×Int):Option Yq8:=
 if decide (s13.2<(p0p.1.length:Int)) then (Option.bind (((aR p0p.1 s13.2).bind fun x12=>if x12==p2letter then ((chk (0<=s13.2)).bind fun _=>if (lf (ku s7.1 s13.2) 1)==1 then ((chk (0<=IntKind.i64.wrap (s13.2+1))).bind fun _=>some (orI s13.1 (pL 1 (IntKind.i64.wrap (s13.2+1))))) else (some s13.1)) else (some s13.1):Option Int)) (fun s15=>some (.nxt (s15,IntKind.i64.wrap (s13.2+1))))) else (some (.brk (s13.1,s13.2)))
def fQ (p0p:(List Int)×Int×Int×(List Int)×Bool) (p1set:Int) (p2letter:Int):Option Int:=
 Option.bind ((if (lf p1set 1)==1 then (some p0p.2.1) else (some 0):Option Int)) (fun s1=>aO (aC (cP p0p p1set) aP (s1,0)) (fun r=>some r) (fun s7=>aO (aC (cQ p0p p2letter s7) aP (0,0)) (fun r=>some r) (fun s14=>some s14.1)))
def cT (p0set:Int) (p1letter:Int) (q0:(List Int)×Int×Int×(List Int)×Bool):Option (Int×Bool):=
 (fQ (q0.1,q0.2.1,q0.2.2.1,q0.2.2.2.1,q0.2.2.2.2) p0set p1letter).bind fun r1=>some (r1,r1 !=0)
def gO (p0p:(List Int)×Int×Int×(List Int)×Bool) (p1most:Int):Option (Yq3×Bool):=
 (eC 1 p1most (fun a0=>db (p0p.1,p0p.2.1,p0p.2.2.1,p0p.2.2.2.1,p0p.2.2.2.2) a0) (fun a0 a1=>cT a0 a1 (p0p.1,p0p.2.1,p0p.2.2.1,p0p.2.2.2.1,p0p.2.2.2.2))).bind fun r1=>some ((r1.1.1,r1.1.2.1,r1.1.2.2),r1.2)
def de (s5:Bool×Int×List Bool) (x6:List Int) (s8:Bool×Int×List Bool):Option (Out (List Bool) (Bool×Int×List Bool)):=
 if decide (s8.2.1<(x6.length:Int)) then (Option.bind (((aR x6 s8.2.1).bind fun x9=>if decide (x9≥0) then ((aR s8.2.2 x9).bind fun x10=>if x10 then ((aR s8.2.2 s5.2.1).bind fun x11=>if x11 then (some (s8.1,s8.2.2)) else ((aR s8.2.2 s5.2.1).bind fun x12=>some (true,s8.2.2.set s5.2.1.toNat true))) else (some (s8.1,s8.2.2))) else (some (s8.1,s8.2.2)):Option (Bool×List Bool))) (fun s13=>some (.nxt (s13.1,IntKind.i64.wrap (s8.2.1+1),s13.2)))) else (some (.brk (s8.1,s8.2.1,s8.2.2)))
def df (p0a:Int×(List Bool)×List (List Int)) (s5:Bool×Int×List Bool):Option (Out (List Bool) (Bool×Int×List Bool)):=
 if decide (s5.2.1<(p0a.2.2.length:Int)) then ((aR p0a.2.2 s5.2.1).bind fun x6=>aO (aC (de s5 x6) aP (s5.1,0,s5.2.2)) (fun r14=>some (.ret r14)) (fun s15=>some (.nxt (s15.1,IntKind.i64.wrap (s5.2.1+1),s15.2.2)))) else (some (.brk (s5.1,s5.2.1,s5.2.2)))
def gP (p0a:Int×(List Bool)×List (List Int)) (s3:Bool×List Bool):Option (Out (List Bool) (Bool×List Bool)):=
 if s3.1 then (aO (aC (df p0a) aP (false,0,s3.2)) (fun r16=>some (.ret r16)) (fun s17=>some (.nxt (s17.1,s17.2.2)))) else (some (.brk (s3.1,s3.2)))
def eI (p0a:Int×(List Bool)×List (List Int)):Option (List Bool):=
 (dm 1 ([] :List Bool) p0a.2.1).bind fun z0=>aO (aC (gP p0a) aP (true,z0)) (fun r18=>some r18) (fun s19=>some s19.2)
def bZ (p0s:List (List Int)) (p1f:(List Int)->Option Bool) (s3:Int):Option (Out Int Int):=
 if decide (s3<(p0s.length:Int)) then ((aR p0s s3).bind fun x3=>(p1f x3).bind fun r6=>if r6 then (some (.ret s3)) else (some (.nxt (IntKind.i64.wrap (s3+1))))) else (some (.brk s3))
def bO (p0s:List (List Int)) (p1f:(List Int)->Option Bool):Option Int:=
 aO (aC (bZ p0s p1f) aP 0) (fun r=>some r) (fun s4=>some (-1))
def gp (p0x:List Int) (q0:List Int):Option Bool:=
 (cO p0x q0).bind fun r1=>some r1
def cy (p1:List Int) (x57:List Int) (s52:Int×(List Int)):Option (Out ((List Int)×Int) (Int×(List Int))):=
 if decide (s52.1<(x57.length:Int)) then ((aR x57 s52.1).bind fun x64=>Option.bind ((if decide (x64≥0) then ((aR p1 x64).bind fun x66=>some x66) else (some x64):Option Int)) (fun s54=>(dm 8 s52.2 ([s54])).bind fun z38=>some (.nxt (IntKind.i64.wrap (s52.1+1),z38)))) else (some (.brk (s52.1,s52.2)))
def dF (p0:Int×(List Bool)×(List (List Int))) (p1:List Int) (s37:(List (List Int))×(List Int)×Int):Option (Out ((List Int)×Int) ((List (List Int))×(List Int)×Int)):=
 if decide (s37.2.2<(p1.length:Int)) then (Option.bind (((aR p1 s37.2.2).bind fun x56=>if decide (x56<0) then ((dm 8 s37.2.1 ([-1])).bind fun z42=>some (s37.1,z42)) else ((aR p0.2.2 s37.2.2).bind fun x57=>aO (aC (cy p1 x57) aP (0,[x56])) (fun _=>none) (fun s53=>(bO s37.1 (fun a0=>gp a0 s53.2)).bind fun r12=>Option.bind ((if decide (r12<0) then ((dm 24 s37.1 ([s53.2])).bind fun z40=>some (z40,(s37.1.length:Int))) else (some (s37.1,r12)):Option ((List (List Int))×Int))) (fun s55=>(dm 8 s37.2.1 ([s55.2])).bind fun z41=>some (s55.1,z41)))):Option ((List (List Int))×(List Int)))) (fun s47=>some (.nxt (s47.1,s47.2,IntKind.i64.wrap (s37.2.2+1))))) else (some (.brk (s37.1,s37.2.1,s37.2.2)))
def dB (p0:Int×(List Bool)×(List (List Int))) (p1:List Int):Option ((List Int)×Int):=
 aO (aC (dF p0 p1) aP (([] :List (List Int)),([] :List Int),0)) (fun r=>some r) (fun s38=>some (s38.2.1,(s38.1.length:Int)))
def cj (p0a:Int×(List Bool)×(List (List Int))) (r1:List Bool) (s5:(List Int)×Int):Option Yq7:=
 if decide (s5.2<(r1.length:Int)) then (Option.bind (((aR r1 s5.2).bind fun x11=>if x11 then ((aR p0a.2.1 s5.2).bind fun x12=>if x12 then ((dm 8 s5.1 ([1])).bind fun z18=>some z18) else ((dm 8 s5.1 ([0])).bind fun z17=>some z17)) else ((dm 8 s5.1 ([-1])).bind fun z16=>some z16):Option (List Int))) (fun s7=>some (.nxt (s7,IntKind.i64.wrap (s5.2+1))))) else (some (.brk (s5.1,s5.2)))
def fC (p0a:Int×(List Bool)×(List (List Int))) (s10:(List Int)×Int):Option Yq7:=
 (dB (p0a.1,p0a.2.1,p0a.2.2) s10.1).bind fun r4=>if r4.2==s10.2 then (some (.ret r4.1)) else (some (.nxt (r4.1,r4.2)))
def dg (p0a:Int×(List Bool)×(List (List Int))):Option (List Int):=
 (eI (p0a.1,p0a.2.1,p0a.2.2)).bind fun r1=>aO (aC (cj p0a r1) aP (([] :List Int),0)) (fun r=>some r) (fun s6=>aO (aC (fC p0a) aP (s6.1,-1)) (fun r=>some r) (fun s11=>none))
def rX (p0x:Int) (p1y:Int):Option (Int×Int):=
 some (IntKind.u32.wrap (ku (IntKind.u64.wrap ((IntKind.u64.wrap p0x)*(IntKind.u64.wrap p1y))) 32),IntKind.u32.wrap (IntKind.u64.wrap ((IntKind.u64.wrap p0x)*(IntKind.u64.wrap p1y))))
def mo (p0x:Int) (p1y:Int):Option (Int×Int):=
 some (IntKind.u64.wrap ((IntKind.u64.wrap ((IntKind.u64.wrap ((ku p0x 32)*(ku p1y 32)))+(ku (IntKind.u64.wrap ((IntKind.u64.wrap ((ku p0x 32)*(MC p1y 4294967295)))+(ku (IntKind.u64.wrap ((MC p0x 4294967295)*(MC p1y 4294967295))) 32))) 32)))+(ku (IntKind.u64.wrap ((MC (IntKind.u64.wrap ((IntKind.u64.wrap ((ku p0x 32)*(MC p1y 4294967295)))+(ku (IntKind.u64.wrap ((MC p0x 4294967295)*(MC p1y 4294967295))) 32))) 4294967295)+(IntKind.u64.wrap ((MC p0x 4294967295)*(ku p1y 32))))) 32)),IntKind.u64.wrap (p0x*p1y))
def nZ (p0x:Int) (p1y:Int):Option (Int×Int):=
 (mo p0x p1y).bind fun r1=>some (r1.1,r1.2)
def kN (s4:Int×List Int):Option (Out (List Int) (Int×List Int)):=
 if decide (s4.1<(s4.2.length:Int)) then ((chk (And (0<=s4.1) (s4.1<=(s4.2.length:Int)))).bind fun _=>(chk (And (0<=s4.1) (s4.1<=(s4.2.length:Int)))).bind fun _=>(chk (And (0<=s4.1) (s4.1<=(s4.2.length:Int)))).bind fun _=>(chk (And (0<=s4.1) (s4.1<=(s4.2.length:Int)))).bind fun _=>some (.nxt (IntKind.i64.wrap (s4.1+((Min.min ((s4.2.take s4.1.toNat).length) (s4.2.length - s4.1.toNat):Nat):Int)),yD s4.2 s4.1.toNat (s4.2.take s4.1.toNat)))) else (some (.brk (s4.1,s4.2)))
def bU (p0x:List Int) (p1count:Int):Option (List Int):=
 if decide (p1count<0) then (none) else ((nZ (IntKind.u64.wrap (p0x.length:Int)) (IntKind.u64.wrap p1count)).bind fun r0=>if decide (r0.1>0) then (none) else (if decide (r0.2>9223372036854775807) then (none) else ((mkI 8 (IntKind.i64.wrap r0.2) 0).bind fun z1=>aO (aC (kN) aP (((Min.min p0x.length (z1.length - 0):Nat):Int),yD z1 0 p0x)) (fun r13=>some r13) (fun s14=>some s14.2))))
def rY:Option Yq3:=
 (bU ([-1]) 9).bind fun r1=>some (0,[false],[r1])
def bs (p0s:List Int) (p1v:Int) (s3:Int):Option (Out Int Int):=
 if decide (s3<(p0s.length:Int)) then ((aR p0s s3).bind fun x3=>if p1v==x3 then (some (.ret s3)) else (some (.nxt (IntKind.i64.wrap (s3+1))))) else (some (.brk s3))
def bL (p0s:List Int) (p1v:Int):Option Int:=
 aO (aC (bs p0s p1v) aP 0) (fun r=>some r) (fun s4=>some (-1))
def aX (p0class:Int) (q0:List Int):Option Int:=
 (bL q0 p0class).bind fun r1=>some r1
def cm (p0c:Int) (q0:Int×(List Bool)×(List (List Int))) (q1:Int->Option Int):Option Bool:=
 (q1 p0c).bind fun r1=>(aR q0.2.1 r1).bind fun x1=>some x1
def bc (p0a:Int×(List Bool)×(List (List Int))) (p1s:Int) (p2letter:Int):Option Int:=
 if decide (p1s<0) then (some (-1)) else ((fK p2letter).bind fun r1=>if r1 then ((aR p0a.2.2 p1s).bind fun x1=>(aR x1 p2letter).bind fun x2=>some x2) else (some (-1)))
def cn (p0c:Int) (p1letter:Int) (q0:Int×(List Bool)×(List (List Int))) (q1:Int->Option Int) (q2:List Int):Option (Int×Bool):=
 (q1 p0c).bind fun r1=>(bc (q0.1,q0.2.1,q0.2.2) r1 p1letter).bind fun r2=>if decide (r2<0) then (some (0,false)) else ((aR q2 r2).bind fun x1=>if decide (x1<0) then (some (0,false)) else ((aR q2 r2).bind fun x2=>some (x2,true)))
def cd (p0a:Int×(List Bool)×(List (List Int))):Option Yq3:=
 (dg (p0a.1,p0a.2.1,p0a.2.2)).bind fun r1=>(aR r1 p0a.1).bind fun x1=>if decide (x1<0) then ((rY).bind fun r3=>some (r3.1,r3.2.1,r3.2.2)) else ((aR r1 p0a.1).bind fun x2=>(eC x2 (r1.length:Int) (fun a0=>cm a0 (p0a.1,p0a.2.1,p0a.2.2) (fun a0=>aX a0 r1)) (fun a0 a1=>cn a0 a1 (p0a.1,p0a.2.1,p0a.2.2) (fun a0=>aX a0 r1) r1)).bind fun r2=>some (r2.1.1,r2.1.2.1,r2.1.2.2))
def xp (p0a:Int×(List Bool)×(List (List Int))):Option (Yq3×Bool):=
 (cd (p0a.1,p0a.2.1,p0a.2.2)).bind fun r1=>if decide ((r1.2.1.length:Int)>12) then (some ((0,[],[]),false)) else (some ((r1.1,r1.2.1,r1.2.2),true))
def gQ (p0e:(List Yq1)):Option (Yq3×Bool):=
 (gu p0e).bind fun r1=>if r1.2 then ((gO (r1.1.1,r1.1.2.1,r1.1.2.2.1,r1.1.2.2.2.1,r1.1.2.2.2.2) 200).bind fun r2=>if r2.2 then ((xp (r2.1.1,r2.1.2.1,r2.1.2.2)).bind fun r3=>some ((r3.1.1,r3.1.2.1,r3.1.2.2),r3.2)) else (some ((0,[],[]),false))) else (some ((0,[],[]),false))
def p7 (p0l:List Int):Option (List Int):=
 (dm 8 ([] :List Int) p0l).bind fun z1=>some z1
def bW (p0a:Int×(List Bool)×(List (List Int))) (x9:List Int) (s15:Int):Option (Out Bool Int):=
 if decide (s15<(x9.length:Int)) then ((aR x9 s15).bind fun x12=>(bq x12 (-1) (IntKind.i64.wrap ((p0a.2.1.length:Int) - 1))).bind fun r14=>if r14 then (some (.nxt (IntKind.i64.wrap (s15+1)))) else (some (.ret false))) else (some (.brk s15))
def dG (p0a:Int×(List Bool)×(List (List Int))) (s11:Int):Option (Out Bool Int):=
 if decide (s11<(p0a.2.2.length:Int)) then ((aR p0a.2.2 s11).bind fun x9=>aO (aC (bW p0a x9) aP 0) (fun r=>some (.ret r)) (fun s16=>if (x9.length:Int) !=9 then (some (.ret false)) else (some (.nxt (IntKind.i64.wrap (s11+1)))))) else (some (.brk s11))
def bF (p0a:Int×(List Bool)×(List (List Int))):Option Bool:=
 (bq (p0a.2.1.length:Int) 1 12).bind fun r1=>if r1 then ((bq p0a.1 0 (IntKind.i64.wrap ((p0a.2.1.length:Int) - 1))).bind fun r2=>if r2 then (if (p0a.2.2.length:Int) !=(p0a.2.1.length:Int) then (some false) else (aO (aC (dG p0a) aP 0) (fun r=>some r) (fun s12=>some true))) else (some false)) else (some false)
def gg (p0a:Int×(List Bool)×(List (List Int))) (s11:Int) (s15:Int):Option (Out Bool Int):=
 if decide (s15<9) then ((aR p0a.2.2 s11).bind fun x20=>(aR x20 s15).bind fun x21=>(cq x21 (-1) (IntKind.i64.wrap ((p0a.2.1.length:Int) - 1))).bind fun r22=>if r22 then (some (.nxt (IntKind.i64.wrap (s15+1)))) else (some (.ret false))) else (some (.brk s15))
def kF (p0a:Int×(List Bool)×(List (List Int))) (s11:Int):Option (Out Bool Int):=
 if decide (s11<(p0a.2.1.length:Int)) then ((aR p0a.2.2 s11).bind fun x15=>if (x15.length:Int) !=9 then (some (.ret false)) else (aO (aC (gg p0a s11) aP 0) (fun r=>some (.ret r)) (fun s16=>some (.nxt (IntKind.i64.wrap (s11+1)))))) else (some (.brk s11))
def oY (p0a:Int×(List Bool)×(List (List Int))):Option Bool:=
 (cq p0a.1 0 (IntKind.i64.wrap ((p0a.2.1.length:Int) - 1))).bind fun r1=>if r1 then (if (p0a.2.2.length:Int) !=(p0a.2.1.length:Int) then (some false) else (aO (aC (kF p0a) aP 0) (fun r=>some r) (fun s12=>some true))) else (some false)
def cG (p0a:Int×(List Bool)×(List (List Int))):Option Bool:=
 if decide ((p0a.2.1.length:Int)<=12) then ((oY (p0a.1,p0a.2.1,p0a.2.2)).bind fun r1=>some r1) else (some false)
def n9 (p0e:Int×Int×Int×Int) (p1nodes:Int):Option Bool:=
 (bq p0e.1 1 99).bind fun r1=>if r1 then ((bq p0e.2.1 0 (IntKind.i64.wrap (p1nodes - 1))).bind fun r2=>if r2 then ((bq p0e.2.2.1 0 (IntKind.i64.wrap (p1nodes - 1))).bind fun r3=>if r3 then ((bq p0e.2.2.2 0 2).bind fun r4=>some r4) else (some false)) else (some false)) else (some false)
def dQ (p0g:(List Int)×(List Yq1)) (s3:Int):Option (Out Bool Int):=
 if decide (s3<(p0g.1.length:Int)) then ((aR p0g.1 s3).bind fun x3=>(bq x3 0 2).bind fun r3=>if r3 then (some (.nxt (IntKind.i64.wrap (s3+1)))) else (some (.ret false))) else (some (.brk s3))
def cU (p0g:(List Int)×(List Yq1)) (s7:Int):Option (Out Bool Int):=
 if decide (s7<(p0g.2.length:Int)) then ((aR p0g.2 s7).bind fun x8=>(n9 (x8.1,x8.2.1,x8.2.2.1,x8.2.2.2) (p0g.1.length:Int)).bind fun r6=>if r6 then (if decide (s7>0) then ((aR p0g.2 (IntKind.i64.wrap (s7 - 1))).bind fun x9=>if decide (x9.1≥x8.1) then (some (.ret false)) else (some (.nxt (IntKind.i64.wrap (s7+1))))) else (some (.nxt (IntKind.i64.wrap (s7+1))))) else (some (.ret false))) else (some (.brk s7))
def aQ (p0g:(List Int)×(List Yq1)):Option Bool:=
 aO (aC (dQ p0g) aP 0) (fun r=>some r) (fun s4=>aO (aC (cU p0g) aP 0) (fun r=>some r) (fun s8=>(bq (p0g.1.length:Int) 1 5).bind fun r7=>if r7 then (some (decide ((p0g.2.length:Int)<=12))) else (some false)))
def bX (p0g:(List Int)×(List Yq1)) (p2nodes:List Int) (s3:Int):Option (Out Bool Int):=
 if decide (s3<(p2nodes.length:Int)) then ((aR p2nodes s3).bind fun x3=>(bq x3 0 (IntKind.i64.wrap ((p0g.1.length:Int) - 1))).bind fun r3=>if r3 then (some (.nxt (IntKind.i64.wrap (s3+1)))) else (some (.ret false))) else (some (.brk s3))
def bC (p0g:(List Int)×(List Yq1)) (p1a:Int×(List Bool)×(List (List Int))) (p2nodes:List Int):Option Bool:=
 aO (aC (bX p0g p2nodes) aP 0) (fun r=>some r) (fun s4=>(aQ (p0g.1,p0g.2)).bind fun r4=>if r4 then ((bF (p1a.1,p1a.2.1,p1a.2.2)).bind fun r5=>some r5) else (some false))
def dH (p1:List Int) (s3:(List Int)×Int×List Int):Option (Out (List Int) ((List Int)×Int×List Int)):=
 if decide (s3.2.1<(p1.length:Int)) then ((aR p1 s3.2.1).bind fun x4=>(aR s3.2.2 x4).bind fun x5=>(dm 8 s3.1 ([x4])).bind fun z6=>some (.nxt (z6,IntKind.i64.wrap (s3.2.1+1),s3.2.2.set x4.toNat 0))) else (some (.brk (s3.1,s3.2.1,s3.2.2)))
def dI (x13:List Int) (s15:(List Int)×Int×List Int):Option (Out (List Int) ((List Int)×Int×List Int)):=
 if decide (s15.2.1<(x13.length:Int)) then (Option.bind (((aR x13 s15.2.1).bind fun x16=>(aR s15.2.2 x16).bind fun x17=>if decide (x17<0) then ((aR s15.1 0).bind fun x18=>(aR s15.2.2 x18).bind fun x19=>(aR s15.2.2 x16).bind fun x20=>(dm 8 s15.1 ([x16])).bind fun z21=>some (z21,s15.2.2.set x16.toNat (IntKind.i64.wrap (x19+1)))) else (some (s15.1,s15.2.2)):Option ((List Int)×List Int))) (fun s22=>some (.nxt (s22.1,IntKind.i64.wrap (s15.2.1+1),s22.2)))) else (some (.brk (s15.1,s15.2.1,s15.2.2)))
def eJ (p0:List (List Int)) (s11:(List Int)×List Int):Option (Out (List Int) ((List Int)×List Int)):=
 if decide ((s11.1.length:Int)>0) then ((aR s11.1 0).bind fun x12=>(aR p0 x12).bind fun x13=>aO (aC (dI x13) aP (s11.1,0,s11.2)) (fun r23=>some (.ret r23)) (fun s24=>(chk (And ((0:Int)<=1) (1<=(s24.1.length:Int)))).bind fun _=>some (.nxt (s24.1.drop 1,s24.2.2)))) else (some (.brk (s11.1,s11.2)))
def lX (p0:List (List Int)) (p1:List Int):Option (List Int):=
 (bU ([(-1)]) (p0.length:Int)).bind fun r0=>aO (aC (dH p1) aP (([] :List Int),0,r0)) (fun r7=>some r7) (fun s8=>aO (aC (eJ p0) aP (s8.1,s8.2.2)) (fun r26=>some r26) (fun s27=>some s27.2))
def p8 (p0e:Int×Int×Int×Int) (p1inverse:Bool):Option Int:=
 if p1inverse then (some (IntKind.i64.wrap ((IntKind.i64.wrap (2*p0e.2.2.2))+1))) else (some (IntKind.i64.wrap (2*p0e.2.2.2)))
def mq (p0g:(List Int)×List Yq1) (s3:Int×List (List Yq4)):Option (Out (List (List Yq4)) (Int×List (List Yq4))):=
 if decide (s3.1<(p0g.2.length:Int)) then ((aR p0g.2 s3.1).bind fun x4=>(aR s3.2 x4.2.1).bind fun x11=>(p8 (x4.1,x4.2.1,x4.2.2.1,x4.2.2.2) false).bind fun r12=>(dm 32 x11 ([((x4.1,false),r12,x4.2.2.1)])).bind fun z13=>(aR s3.2 x4.2.1).bind fun x14=>(chk (x4.2.1<((s3.2.set x4.2.1.toNat ([] :List Yq4)).length:Int))).bind fun _=>(chk (x4.2.1=x4.2.1)).bind fun _=>(aR (s3.2.set x4.2.1.toNat z13) x4.2.2.1).bind fun x23=>(p8 (x4.1,x4.2.1,x4.2.2.1,x4.2.2.2) true).bind fun r24=>(dm 32 x23 ([((x4.1,true),r24,x4.2.1)])).bind fun z25=>(aR (s3.2.set x4.2.1.toNat z13) x4.2.2.1).bind fun x26=>(chk (x4.2.2.1<(((s3.2.set x4.2.1.toNat z13).set x4.2.2.1.toNat ([] :List Yq4)).length:Int))).bind fun _=>(chk (x4.2.2.1=x4.2.2.1)).bind fun _=>some (.nxt (IntKind.i64.wrap (s3.1+1),(s3.2.set x4.2.1.toNat z13).set x4.2.2.1.toNat z25))) else (some (.brk (s3.1,s3.2)))
def qP (p0g:(List Int)×List Yq1):Option (List (List Yq4)):=
 (mkI 24 (p0g.1.length:Int) ([] :List Yq4)).bind fun z0=>aO (aC (mq p0g) aP (0,z0)) (fun r29=>some r29) (fun s30=>some s30.2)
def nI (p0set:Int) (s5:(List Int)×Int):Option Yq7:=
 (chk (0<=s5.2)).bind fun _=>if (ku p0set s5.2) !=0 then (Option.bind (((chk (0<=s5.2)).bind fun _=>if (lf (ku p0set s5.2) 1)==1 then ((dm 8 s5.1 ([s5.2])).bind fun z6=>some z6) else (some s5.1):Option (List Int))) (fun s7=>some (.nxt (s7,IntKind.i64.wrap (s5.2+1))))) else (some (.brk (s5.1,s5.2)))
def gR (p0set:Int):Option (List Int):=
 aO (aC (nI p0set) aP (([] :List Int),0)) (fun r=>some r) (fun s6=>some s6.1)
def bJ (p0a:Int×(List Bool)×(List (List Int))) (p2value:Int) (s3:Int×Int):Option Yq8:=
 if decide (s3.2≥0) then ((chk (0<=s3.2)).bind fun _=>if (lf (ku s3.1 s3.2) 1)==0 then ((chk (0<=s3.2)).bind fun _=>(bc (p0a.1,p0a.2.1,p0a.2.2) s3.2 (IntKind.i64.wrap (6+p2value))).bind fun r3=>some (.nxt (orI s3.1 (pL 1 s3.2),r3))) else (some (.brk (s3.1,s3.2)))) else (some (.brk (s3.1,s3.2)))
def dR (p0a:Int×(List Bool)×(List (List Int))) (p1state:Int) (p2value:Int):Option Int:=
 aO (aC (bJ p0a p2value) aP (0,p1state)) (fun r=>some r) (fun s4=>some s4.1)
def kO (p0a:Int×(List Bool)×(List (List Int))) (p3letter:Int) (r19:List Int) (s23:Int×Int):Option Yq8:=
 if decide (s23.2<(r19.length:Int)) then (Option.bind (((aR r19 s23.2).bind fun x21=>(bc (p0a.1,p0a.2.1,p0a.2.2) x21 p3letter).bind fun r25=>if decide (r25≥0) then ((chk (0<=r25)).bind fun _=>some (orI s23.1 (pL 1 r25))) else (some s23.1):Option Int)) (fun s25=>some (.nxt (s25,IntKind.i64.wrap (s23.2+1))))) else (some (.brk (s23.1,s23.2)))
def gS (p0a:Int×(List Bool)×(List (List Int))) (p2value:Int) (p3letter:Int) (r1:List Int) (s17:Int×Int):Option Yq8:=
 if decide (s17.2<(r1.length:Int)) then ((aR r1 s17.2).bind fun x15=>(dR (p0a.1,p0a.2.1,p0a.2.2) x15 p2value).bind fun r18=>(gR r18).bind fun r19=>aO (aC (kO p0a p3letter r19) aP (s17.1,0)) (fun r=>some (.ret r)) (fun s24=>some (.nxt (s24.1,IntKind.i64.wrap (s17.2+1))))) else (some (.brk (s17.1,s17.2)))
def p9 (p0a:Int×(List Bool)×(List (List Int))) (p1set:Int) (p2value:Int) (p3letter:Int):Option Int:=
 (gR p1set).bind fun r1=>aO (aC (gS p0a p2value p3letter r1) aP (0,0)) (fun r=>some r) (fun s18=>some s18.1)
def cV (p1:Int×(List Bool)×List (List Int)) (s4:Int×List (List Int)) (s7:Int×List (List Int)) (x10:(Int×Bool)×Int×Int) (r18:List Int) (s20:Int×List (List Int)):Option (Out (List (List Int)) (Int×List (List Int))):=
 if decide (s20.1<(r18.length:Int)) then ((aR r18 s20.1).bind fun x21=>(aR s20.2 (IntKind.i64.wrap ((IntKind.i64.wrap (s4.1*(p1.2.1.length:Int)))+s7.1))).bind fun x27=>(dm 8 x27 ([IntKind.i64.wrap ((IntKind.i64.wrap (x10.2.2*(p1.2.1.length:Int)))+x21)])).bind fun z28=>(aR s20.2 (IntKind.i64.wrap ((IntKind.i64.wrap (s4.1*(p1.2.1.length:Int)))+s7.1))).bind fun x29=>(chk ((IntKind.i64.wrap ((IntKind.i64.wrap (s4.1*(p1.2.1.length:Int)))+s7.1))<((s20.2.set ((IntKind.i64.wrap ((IntKind.i64.wrap (s4.1*(p1.2.1.length:Int)))+s7.1)).toNat) ([] :List Int)).length:Int))).bind fun _=>(chk ((IntKind.i64.wrap ((IntKind.i64.wrap (s4.1*(p1.2.1.length:Int)))+s7.1))=(IntKind.i64.wrap ((IntKind.i64.wrap (s4.1*(p1.2.1.length:Int)))+s7.1)))).bind fun _=>some (.nxt (IntKind.i64.wrap (s20.1+1),s20.2.set ((IntKind.i64.wrap ((IntKind.i64.wrap (s4.1*(p1.2.1.length:Int)))+s7.1)).toNat) z28))) else (some (.brk (s20.1,s20.2)))
def dS (p0:(List Int)×List Yq1) (p1:Int×(List Bool)×List (List Int)) (s4:Int×List (List Int)) (x5:List Yq4) (s7:Int×List (List Int)) (s9:Int×List (List Int)):Option (Out (List (List Int)) (Int×List (List Int))):=
 if decide (s9.1<(x5.length:Int)) then ((aR x5 s9.1).bind fun x10=>(chk (0<=s7.1)).bind fun _=>(aR p0.1 s4.1).bind fun x16=>(p9 (p1.1,p1.2.1,p1.2.2) (pL 1 s7.1) x16 x10.2.1).bind fun r17=>(gR r17).bind fun r18=>aO (aC (cV p1 s4 s7 x10 r18) aP (0,s9.2)) (fun r32=>some (.ret r32)) (fun s33=>some (.nxt (IntKind.i64.wrap (s9.1+1),s33.2)))) else (some (.brk (s9.1,s9.2)))
def dU (p0:(List Int)×List Yq1) (p1:Int×(List Bool)×List (List Int)) (s4:Int×List (List Int)) (x5:List Yq4) (s7:Int×List (List Int)):Option (Out (List (List Int)) (Int×List (List Int))):=
 if decide (s7.1<(p1.2.1.length:Int)) then (aO (aC (dS p0 p1 s4 x5 s7) aP (0,s7.2)) (fun r34=>some (.ret r34)) (fun s35=>some (.nxt (IntKind.i64.wrap (s7.1+1),s35.2)))) else (some (.brk (s7.1,s7.2)))
def fR (p0:(List Int)×List Yq1) (p1:Int×(List Bool)×List (List Int)) (r1:List (List Yq4)) (s4:Int×List (List Int)):Option (Out (List (List Int)) (Int×List (List Int))):=
 if decide (s4.1<(r1.length:Int)) then ((aR r1 s4.1).bind fun x5=>aO (aC (dU p0 p1 s4 x5) aP (0,s4.2)) (fun r36=>some (.ret r36)) (fun s37=>some (.nxt (IntKind.i64.wrap (s4.1+1),s37.2)))) else (some (.brk (s4.1,s4.2)))
def eD (p0:(List Int)×List Yq1) (p1:Int×(List Bool)×List (List Int)):Option (List (List Int)):=
 (mkI 24 (IntKind.i64.wrap ((p1.2.1.length:Int)*(p0.1.length:Int))) ([] :List Int)).bind fun z0=>(qP (p0.1,p0.2)).bind fun r1=>aO (aC (fR p0 p1 r1) aP (0,z0)) (fun r38=>some r38) (fun s39=>some s39.2)
def fD (p0g:(List Int)×List Yq1) (p1a:Int×(List Bool)×List (List Int)) (p2source:Int):Option (List Int):=
 (bC (p0g.1,p0g.2) (p1a.1,p1a.2.1,p1a.2.2) ([p2source])).bind fun r0=>if r0 then ((eD (p0g.1,p0g.2) (p1a.1,p1a.2.1,p1a.2.2)).bind fun r3=>(lX r3 ([IntKind.i64.wrap ((IntKind.i64.wrap (p2source*(p1a.2.1.length:Int)))+p1a.1)])).bind fun r4=>((chk (0<(r4.length:Int))).bind fun _=>some r4).bind fun r6=>some r6) else (some ([] :List Int))
def jd (p0a:Int×(List Bool)×(List (List Int))) (r7:List Int) (s15:Int):Option (Out Bool Int):=
 if decide (s15<(r7.length:Int)) then ((aR r7 s15).bind fun x20=>(aR p0a.2.1 x20).bind fun x21=>if x21 then (some (.ret true)) else (some (.nxt (IntKind.i64.wrap (s15+1))))) else (some (.brk s15))
def eE (p0a:Int×(List Bool)×(List (List Int))) (p2value:Int) (r1:List Int) (s11:Int):Option (Out Bool Int):=
 if decide (s11<(r1.length:Int)) then ((aR r1 s11).bind fun x15=>(dR (p0a.1,p0a.2.1,p0a.2.2) x15 p2value).bind fun r6=>(gR r6).bind fun r7=>aO (aC (jd p0a r7) aP 0) (fun r=>some (.ret r)) (fun s16=>some (.nxt (IntKind.i64.wrap (s11+1))))) else (some (.brk s11))
def jI (p0a:Int×(List Bool)×(List (List Int))) (p1set:Int) (p2value:Int):Option Bool:=
 (gR p1set).bind fun r1=>aO (aC (eE p0a p2value r1) aP 0) (fun r=>some r) (fun s12=>some false)
def eT (p0:List Int):Option (List Int):=R.OI p0
def bY (p0s:List Int) (s1:Int) (s8:Int×Int×List Int):Option (Out (List Int) (Int×Int×List Int)):=
 if decide (s8.2.1<((0+((p0s.length:Int) - 0)) - (0+s1))) then (Option.bind (((chk (And (0<=s8.2.1) (s8.2.1<((0+((p0s.length:Int) - 0)) - (0+s1))))).bind fun _=>(aR s8.2.2 ((0+s1)+s8.2.1)).bind fun x14=>(chk (And (0<=(IntKind.i64.wrap (s8.2.1 - 1))) ((IntKind.i64.wrap (s8.2.1 - 1))<((0+((p0s.length:Int) - 0)) - (0+s1))))).bind fun _=>(aR s8.2.2 ((0+s1)+(IntKind.i64.wrap (s8.2.1 - 1)))).bind fun x16=>if x14 !=x16 then ((chk (And (0<=s8.2.1) (s8.2.1<((0+((p0s.length:Int) - 0)) - (0+s1))))).bind fun _=>(aR s8.2.2 ((0+s1)+s8.2.1)).bind fun x18=>(aR s8.2.2 s8.1).bind fun x19=>some (IntKind.i64.wrap (s8.1+1),s8.2.2.set s8.1.toNat x18)) else (some (s8.1,s8.2.2)):Option (Int×List Int))) (fun s20=>some (.nxt (s20.1,IntKind.i64.wrap (s8.2.1+1),s20.2)))) else (some (.brk (s8.1,s8.2.1,s8.2.2)))
def bG (p0s:List Int) (s1:Int):Option (Out (List Int) Int):=
 if decide (s1<(p0s.length:Int)) then ((aR p0s s1).bind fun x4=>(aR p0s (IntKind.i64.wrap (s1 - 1))).bind fun x5=>if x4==x5 then ((chk (And (0<=s1) (And (s1<=((p0s.length:Int) - 0)) ((0+((p0s.length:Int) - 0))<=(p0s.length:Int))))).bind fun _=>aO (aC (bY p0s s1) aP (s1,1,p0s)) (fun r21=>some (.ret r21)) (fun s22=>(chk (And (0<=s22.1) (And (s22.1<=((s22.2.2.length:Int) - 0)) ((0+((s22.2.2.length:Int) - 0))<=(s22.2.2.length:Int))))).bind fun _=>(chk (And ((0+s22.1)<=(0+((s22.2.2.length:Int) - 0))) ((0+((s22.2.2.length:Int) - 0))<=(s22.2.2.length:Int)))).bind fun _=>(chk (And ((0:Int)<=0) (And (0<=s22.1) ((0+s22.1)<=((pF s22.2.2 ((0+s22.1).toNat) ((0+((s22.2.2.length:Int) - 0)).toNat) 0).length:Int))))).bind fun _=>some (.ret (((pF s22.2.2 ((0+s22.1).toNat) ((0+((s22.2.2.length:Int) - 0)).toNat) 0).take ((0+s22.1).toNat)).drop 0)))) else (some (.nxt (IntKind.i64.wrap (s1+1))))) else (some (.brk s1))
def cr (p0s:List Int):Option (List Int):=
 if decide ((p0s.length:Int)<2) then (some p0s) else (aO (aC (bG p0s) aP 1) (fun r26=>some r26) (fun s27=>some p0s))
def jJ (p0l:List Int):Option (List Int):=
 (p7 p0l).bind fun r0=>(eT r0).bind fun r1=>(cr r1).bind fun r2=>some r2
def tm (s2:(List Int)×Int):Option Yq7:=
 if decide (s2.2<((0:Nat):Int)) then (none) else (some (.brk (s2.1,s2.2)))
def eK (p0g:(List Int)×List Yq1) (p1a:Int×(List Bool)×List (List Int)) (r0:List Int) (s7:(List Int)×Int):Option Yq7:=
 if decide (s7.2<(r0.length:Int)) then (Option.bind (((aR r0 s7.2).bind fun x8=>if decide (x8≥0) then ((chk ((p1a.2.1.length:Int)≠0)).bind fun _=>(chk (0<=(Int.tmod s7.2 (p1a.2.1.length:Int)))).bind fun _=>(chk ((p1a.2.1.length:Int)≠0)).bind fun _=>(aR p0g.1 (Dz s7.2 (p1a.2.1.length:Int))).bind fun x17=>(jI (p1a.1,p1a.2.1,p1a.2.2) (pL 1 (Int.tmod s7.2 (p1a.2.1.length:Int))) x17).bind fun r18=>if r18 then ((chk ((p1a.2.1.length:Int)≠0)).bind fun _=>(dm 8 s7.1 ([Dz s7.2 (p1a.2.1.length:Int)])).bind fun z20=>some z20) else (some s7.1)) else (some s7.1):Option (List Int))) (fun s21=>some (.nxt (s21,IntKind.i64.wrap (s7.2+1))))) else (some (.brk (s7.1,s7.2)))
def dV (p0g:(List Int)×List Yq1) (p1a:Int×(List Bool)×List (List Int)) (p2source:Int):Option (List Int):=
 (fD (p0g.1,p0g.2) (p1a.1,p1a.2.1,p1a.2.2) p2source).bind fun r0=>if decide ((r0.length:Int)=0) then (aO (aC (tm) aP (([] :List Int),0)) (fun r3=>some r3) (fun s4=>(jJ s4.1).bind fun r5=>some r5)) else (aO (aC (eK p0g p1a r0) aP (([] :List Int),0)) (fun r22=>some r22) (fun s23=>(jJ s23.1).bind fun r24=>some r24))
def j9 (s11:Yq2×Int) (r4:List Int) (s15:Yq2×Int):Option Yq6:=
 if decide (s15.2<(r4.length:Int)) then ((aR r4 s15.2).bind fun x9=>(dm 16 s15.1 ([(s11.2,x9)])).bind fun z9=>some (.nxt (z9,IntKind.i64.wrap (s15.2+1)))) else (some (.brk (s15.1,s15.2)))
def fE (p0g:(List Int)×(List Yq1)) (p1a:Int×(List Bool)×(List (List Int))) (s11:Yq2×Int):Option Yq6:=
 if decide (s11.2<(p0g.1.length:Int)) then ((dV (p0g.1,p0g.2) (p1a.1,p1a.2.1,p1a.2.2) s11.2).bind fun r4=>aO (aC (j9 s11 r4) aP (s11.1,0)) (fun r=>some (.ret r)) (fun s16=>some (.nxt (s16.1,IntKind.i64.wrap (s11.2+1))))) else (some (.brk (s11.1,s11.2)))
def iX (p0g:(List Int)×(List Yq1)) (p1a:Int×(List Bool)×(List (List Int))):Option Yq2:=
 (bC (p0g.1,p0g.2) (p1a.1,p1a.2.1,p1a.2.2) ([])).bind fun r1=>if r1 then (aO (aC (fE p0g p1a) aP (([] :List (Int×Int)),0)) (fun r=>some r) (fun s12=>some s12.1)) else (some ([]))
def zu (p0g:(List Int)×(List Yq1)) (p1e:Int×Int×Int×Int):Option Bool:=
 (cq p1e.1 1 99).bind fun r1=>if r1 then ((cq p1e.2.1 0 (IntKind.i64.wrap ((p0g.1.length:Int) - 1))).bind fun r2=>if r2 then ((cq p1e.2.2.1 0 (IntKind.i64.wrap ((p0g.1.length:Int) - 1))).bind fun r3=>if r3 then ((cq p1e.2.2.2 0 2).bind fun r4=>some r4) else (some false)) else (some false)) else (some false)
def mr (p0g:(List Int)×(List Yq1)) (s3:Int):Option (Out Bool Int):=
 if decide (s3<(p0g.1.length:Int)) then ((aR p0g.1 s3).bind fun x3=>(cq x3 0 2).bind fun r3=>if r3 then (some (.nxt (IntKind.i64.wrap (s3+1)))) else (some (.ret false))) else (some (.brk s3))
def jm (p0g:(List Int)×(List Yq1)) (s7:Int):Option (Out Bool Int):=
 if decide (s7<(p0g.2.length:Int)) then ((aR p0g.2 s7).bind fun x10=>(zu (p0g.1,p0g.2) (x10.1,x10.2.1,x10.2.2.1,x10.2.2.2)).bind fun r6=>if r6 then (if decide (s7>0) then ((aR p0g.2 (IntKind.i64.wrap (s7 - 1))).bind fun x11=>(aR p0g.2 s7).bind fun x12=>if decide (x11.1≥x12.1) then (some (.ret false)) else (some (.nxt (IntKind.i64.wrap (s7+1))))) else (some (.nxt (IntKind.i64.wrap (s7+1))))) else (some (.ret false))) else (some (.brk s7))
def a6 (p0g:(List Int)×(List Yq1)):Option Bool:=
 aO (aC (mr p0g) aP 0) (fun r=>some r) (fun s4=>aO (aC (jm p0g) aP 0) (fun r=>some r) (fun s8=>(cq (p0g.1.length:Int) 1 5).bind fun r7=>if r7 then (some (decide ((p0g.2.length:Int)<=12))) else (some false)))
def jn (p0g:(List Int)×(List Yq1)) (p1a:Int×(List Bool)×(List (List Int))) (p2node:Int) (p3s:Int):Option Bool:=
 (a6 (p0g.1,p0g.2)).bind fun r1=>if r1 then ((cG (p1a.1,p1a.2.1,p1a.2.2)).bind fun r2=>if r2 then ((cq p2node 0 (IntKind.i64.wrap ((p0g.1.length:Int) - 1))).bind fun r3=>if r3 then ((cq p3s 0 (IntKind.i64.wrap ((p1a.2.1.length:Int) - 1))).bind fun r4=>some r4) else (some false)) else (some false)) else (some false)
def jK (p0g:(List Int)×(List Yq1)) (p1node:Int) (s9:(List (Int×Bool))×Int):Option (Out (List (Int×Bool)) ((List (Int×Bool))×Int)):=
 if decide (s9.2<(p0g.2.length:Int)) then (Option.bind ((Option.bind (((aR p0g.2 s9.2).bind fun x33=>if x33.2.1==p1node then ((aR p0g.2 s9.2).bind fun x34=>(dm 16 s9.1 ([(x34.1,false)])).bind fun z17=>some z17) else (some s9.1):Option (List (Int×Bool)))) (fun s13=>(aR p0g.2 s9.2).bind fun x35=>if x35.2.2.1==p1node then ((aR p0g.2 s9.2).bind fun x36=>(dm 16 s13 ([(x36.1,true)])).bind fun z18=>some z18) else (some s13)):Option (List (Int×Bool)))) (fun s12=>some (.nxt (s12,IntKind.i64.wrap (s9.2+1))))) else (some (.brk (s9.1,s9.2)))
def qQ (p0g:(List Int)×(List Yq1)) (p1node:Int):Option (List (Int×Bool)):=
 aO (aC (jK p0g p1node) aP (([] :List (Int×Bool)),0)) (fun r=>some r) (fun s10=>some s10.1)
def ke (p0a:Int×(List Bool)×(List (List Int))) (p2v:Int) (s3:Int×Int):Option Yq8:=
 if decide (s3.1≥0) then ((chk (0<=s3.1)).bind fun _=>if (lf (ku s3.2 s3.1) 1)==0 then ((chk (0<=s3.1)).bind fun _=>(aR p0a.2.2 s3.1).bind fun x5=>(aR x5 (IntKind.i64.wrap (6+p2v))).bind fun x6=>some (.nxt (x6,orI s3.2 (pL 1 s3.1)))) else (some (.brk (s3.1,s3.2)))) else (some (.brk (s3.1,s3.2)))
def gi (p0a:Int×(List Bool)×(List (List Int))) (p1s:Int) (p2v:Int):Option Int:=
 aO (aC (ke p0a p2v) aP (p1s,0)) (fun r=>some r) (fun s4=>some s4.2)
def lj (p0g:(List Int)×(List Yq1)) (p1id:Int) (s3:Int):Option (Out Int Int):=
 if decide (s3<(p0g.2.length:Int)) then ((aR p0g.2 s3).bind fun x3=>if x3.1==p1id then (some (.ret s3)) else (some (.nxt (IntKind.i64.wrap (s3+1))))) else (some (.brk s3))
def jL (p0g:(List Int)×(List Yq1)) (p1id:Int):Option Int:=
 aO (aC (lj p0g p1id) aP 0) (fun r=>some r) (fun s4=>some (-1))
def iu (p0e:Int×Int×Int×Int) (p1inverse:Bool):Option Int:=
 if p1inverse then (some (IntKind.i64.wrap ((IntKind.i64.wrap (2*p0e.2.2.2))+1))) else (some (IntKind.i64.wrap (2*p0e.2.2.2)))
def oc (p0e:Int×Int×Int×Int) (p1inverse:Bool):Option Int:=
 if p1inverse then (some p0e.2.1) else (some p0e.2.2.1)
def gT (p1:Int×(List Bool)×(List (List Int))) (r1:Int) (r2:List (Int×Bool)) (s31:(List Yq4)×Int) (x67:Int×Int×Int×Int) (s37:Int×Int):Option (Out (List Yq4) (Int×Int)):=
 if decide (s37.2<(p1.2.1.length:Int)) then (Option.bind (((aR p1.2.2 s37.2).bind fun x83=>(aR r2 s31.2).bind fun x84=>(iu (x67.1,x67.2.1,x67.2.2.1,x67.2.2.2) x84.2).bind fun r53=>(aR x83 r53).bind fun x85=>(chk (0<=s37.2)).bind fun _=>if (lf (ku r1 s37.2) 1)==1 then (if decide (x85≥0) then ((chk (0<=x85)).bind fun _=>some (orI s37.1 (pL 1 x85))) else (some s37.1)) else (some s37.1):Option Int)) (fun s39=>some (.nxt (s39,IntKind.i64.wrap (s37.2+1))))) else (some (.brk (s37.1,s37.2)))
def gU (p1:Int×(List Bool)×(List (List Int))) (r2:List (Int×Bool)) (s31:(List Yq4)×Int) (x67:Int×Int×Int×Int) (s38:Int×Int) (s44:(List Yq4)×Int):Option (Out (List Yq4) ((List Yq4)×Int)):=
 if decide (s44.2<(p1.2.1.length:Int)) then (Option.bind (((chk (0<=s44.2)).bind fun _=>if (lf (ku s38.1 s44.2) 1)==1 then ((aR r2 s31.2).bind fun x96=>(aR r2 s31.2).bind fun x97=>(oc (x67.1,x67.2.1,x67.2.2.1,x67.2.2.2) x97.2).bind fun r59=>(dm 32 s44.1 ([((x96.1,x96.2),r59,s44.2)])).bind fun z18=>some z18) else (some s44.1):Option (List Yq4))) (fun s46=>some (.nxt (s46,IntKind.i64.wrap (s44.2+1))))) else (some (.brk (s44.1,s44.2)))
def gV (p0:(List Int)×(List Yq1)) (p1:Int×(List Bool)×(List (List Int))) (r1:Int) (r2:List (Int×Bool)) (s31:(List Yq4)×Int):Option (Out (List Yq4) ((List Yq4)×Int)):=
 if decide (s31.2<(r2.length:Int)) then ((aR r2 s31.2).bind fun x66=>(jL (p0.1,p0.2) x66.1).bind fun r41=>(aR p0.2 r41).bind fun x67=>aO (aC (gT p1 r1 r2 s31 x67) aP (0,0)) (fun r=>some (.ret r)) (fun s38=>aO (aC (gU p1 r2 s31 x67 s38) aP (s31.1,0)) (fun r=>some (.ret r)) (fun s45=>some (.nxt (s45.1,IntKind.i64.wrap (s31.2+1)))))) else (some (.brk (s31.1,s31.2)))
def kP (p0:(List Int)×(List Yq1)) (p1:Int×(List Bool)×(List (List Int))) (p2:Int) (p3:Int):Option (List Yq4):=
 (aR p0.1 p2).bind fun x1=>(gi (p1.1,p1.2.1,p1.2.2) p3 x1).bind fun r1=>(qQ (p0.1,p0.2) p2).bind fun r2=>aO (aC (gV p0 p1 r1 r2) aP (([] :List Yq4),0)) (fun r=>some r) (fun s32=>some s32.1)
def gW (p0:(List Int)×(List Yq1)) (p1:Int×(List Bool)×(List (List Int))) (s3:(List Int)×Int):Option Yq7:=
 if decide (s3.2<IntKind.i64.wrap ((p0.1.length:Int)*(p1.2.1.length:Int))) then ((dm 8 s3.1 ([-1])).bind fun z3=>some (.nxt (z3,IntKind.i64.wrap (s3.2+1)))) else (some (.brk (s3.1,s3.2)))
def gX (p1:Int×(List Bool)×(List (List Int))) (s21:(List Int)×(List Int)×Int) (r3:List Yq4) (s27:(List Int)×(List Int)×Int):Option (Out (List Int) ((List Int)×(List Int)×Int)):=
 if decide (s27.2.2<(r3.length:Int)) then (Option.bind (((aR r3 s27.2.2).bind fun x111=>(aR r3 s27.2.2).bind fun x112=>(aR s27.1 (IntKind.i64.wrap ((IntKind.i64.wrap (x111.2.1*(p1.2.1.length:Int)))+x112.2.2))).bind fun x113=>if decide (x113<0) then ((aR s27.2.1 s21.2.2).bind fun x114=>(aR s27.1 x114).bind fun x115=>(aR s27.1 (IntKind.i64.wrap ((IntKind.i64.wrap (x111.2.1*(p1.2.1.length:Int)))+x112.2.2))).bind fun x116=>(dm 8 s27.2.1 ([IntKind.i64.wrap ((IntKind.i64.wrap (x111.2.1*(p1.2.1.length:Int)))+x112.2.2)])).bind fun z21=>some (s27.1.set (IntKind.i64.wrap ((IntKind.i64.wrap (x111.2.1*(p1.2.1.length:Int)))+x112.2.2)).toNat (IntKind.i64.wrap (x115+1)),z21)) else (some (s27.1,s27.2.1)):Option ((List Int)×(List Int)))) (fun s29=>some (.nxt (s29.1,s29.2,IntKind.i64.wrap (s27.2.2+1))))) else (some (.brk (s27.1,s27.2.1,s27.2.2)))
def gY (p0:(List Int)×(List Yq1)) (p1:Int×(List Bool)×(List (List Int))) (s21:(List Int)×(List Int)×Int):Option (Out (List Int) ((List Int)×(List Int)×Int)):=
 if decide (s21.2.2<(s21.2.1.length:Int)) then ((aR s21.2.1 s21.2.2).bind fun x79=>(chk ((p1.2.1.length:Int)≠0)).bind fun _=>(aR s21.2.1 s21.2.2).bind fun x80=>(chk ((p1.2.1.length:Int)≠0)).bind fun _=>(kP (p0.1,p0.2) (p1.1,p1.2.1,p1.2.2) (Dz x79 (p1.2.1.length:Int)) (Int.tmod x80 (p1.2.1.length:Int))).bind fun r3=>aO (aC (gX p1 s21 r3) aP (s21.1,s21.2.1,0)) (fun r=>some (.ret r)) (fun s28=>some (.nxt (s28.1,s28.2.1,IntKind.i64.wrap (s21.2.2+1))))) else (some (.brk (s21.1,s21.2.1,s21.2.2)))
def mV (p0:(List Int)×(List Yq1)) (p1:Int×(List Bool)×(List (List Int))) (p2:Int):Option (List Int):=
 aO (aC (gW p0 p1) aP (([] :List Int),0)) (fun r=>some r) (fun s4=>(aR ([IntKind.i64.wrap ((IntKind.i64.wrap (p2*(p1.2.1.length:Int)))+p1.1)]) 0).bind fun x1=>(aR s4.1 x1).bind fun x2=>aO (aC (gY p0 p1) aP (s4.1.set x1.toNat 0,[IntKind.i64.wrap ((IntKind.i64.wrap (p2*(p1.2.1.length:Int)))+p1.1)],0)) (fun r=>some r) (fun s22=>some s22.1))
def fF (p1a:Int×(List Bool)×(List (List Int))) (r1:Int) (s3:Int):Option (Out Bool Int):=
 if decide (s3<(p1a.2.1.length:Int)) then ((chk (0<=s3)).bind fun _=>if (lf (ku r1 s3) 1)==1 then ((aR p1a.2.1 s3).bind fun x4=>if x4 then (some (.ret true)) else (some (.nxt (IntKind.i64.wrap (s3+1))))) else (some (.nxt (IntKind.i64.wrap (s3+1))))) else (some (.brk s3))
def kG (p0g:(List Int)×(List Yq1)) (p1a:Int×(List Bool)×(List (List Int))) (p2node:Int) (p3s:Int):Option Bool:=
 (aR p0g.1 p2node).bind fun x1=>(gi (p1a.1,p1a.2.1,p1a.2.2) p3s x1).bind fun r1=>aO (aC (fF p1a r1) aP 0) (fun r=>some r) (fun s4=>some false)
def kQ (p0m:Int) (s5:(List Int)×Int):Option Yq7:=
 if decide (s5.2<30) then (Option.bind (((chk (0<=s5.2)).bind fun _=>if (lf (ku p0m s5.2) 1)==1 then ((dm 8 s5.1 ([s5.2])).bind fun z6=>some z6) else (some s5.1):Option (List Int))) (fun s7=>some (.nxt (s7,IntKind.i64.wrap (s5.2+1))))) else (some (.brk (s5.1,s5.2)))
def xq (p0m:Int):Option (List Int):=
 aO (aC (kQ p0m) aP (([] :List Int),0)) (fun r=>some r) (fun s6=>some s6.1)
def iY (p0g:(List Int)×(List Yq1)) (p1a:Int×(List Bool)×(List (List Int))) (r1:List Int) (s5:Int×Int):Option (Out (List Int) (Int×Int)):=
 if decide (s5.2<(r1.length:Int)) then (Option.bind (((aR r1 s5.2).bind fun x6=>if decide (x6≥0) then ((chk ((p1a.2.1.length:Int)≠0)).bind fun _=>(chk ((p1a.2.1.length:Int)≠0)).bind fun _=>(kG (p0g.1,p0g.2) (p1a.1,p1a.2.1,p1a.2.2) (Dz s5.2 (p1a.2.1.length:Int)) (Int.tmod s5.2 (p1a.2.1.length:Int))).bind fun r7=>if r7 then ((chk ((p1a.2.1.length:Int)≠0)).bind fun _=>(chk (0<=Dz s5.2 (p1a.2.1.length:Int))).bind fun _=>some (orI s5.1 (pL 1 (Dz s5.2 (p1a.2.1.length:Int))))) else (some s5.1)) else (some s5.1):Option Int)) (fun s7=>some (.nxt (s7,IntKind.i64.wrap (s5.2+1))))) else (some (.brk (s5.1,s5.2)))
def oZ (p0g:(List Int)×(List Yq1)) (p1a:Int×(List Bool)×(List (List Int))) (p2source:Int):Option (List Int):=
 (mV (p0g.1,p0g.2) (p1a.1,p1a.2.1,p1a.2.2) p2source).bind fun r1=>aO (aC (iY p0g p1a r1) aP (0,0)) (fun r=>some r) (fun s6=>(xq s6.1).bind fun r8=>some r8)
def kg (s11:Yq2×Int) (r6:List Int) (s15:Yq2×Int):Option Yq6:=
 if decide (s15.2<(r6.length:Int)) then ((aR r6 s15.2).bind fun x9=>(dm 16 s15.1 ([(s11.2,x9)])).bind fun z9=>some (.nxt (z9,IntKind.i64.wrap (s15.2+1)))) else (some (.brk (s15.1,s15.2)))
def cW (p0g:(List Int)×(List Yq1)) (p1a:Int×(List Bool)×(List (List Int))) (s11:Yq2×Int):Option Yq6:=
 if decide (s11.2<(p0g.1.length:Int)) then ((jn (p0g.1,p0g.2) (p1a.1,p1a.2.1,p1a.2.2) 0 0).bind fun r5=>if r5 then ((oZ (p0g.1,p0g.2) (p1a.1,p1a.2.1,p1a.2.2) s11.2).bind fun r6=>aO (aC (kg s11 r6) aP (s11.1,0)) (fun r=>some (.ret r)) (fun s16=>some (.nxt (s16.1,IntKind.i64.wrap (s11.2+1))))) else (some (.brk (s11.1,s11.2)))) else (some (.brk (s11.1,s11.2)))
def nJ (p0g:(List Int)×(List Yq1)) (p1a:Int×(List Bool)×(List (List Int))):Option Yq2:=
 aO (aC (cW p0g p1a) aP (([] :List (Int×Int)),0)) (fun r=>some r) (fun s12=>some s12.1)
def iw (p0a:List (Int×Int)) (p1b:List (Int×Int)) (s3:Int):Option (Out Bool Int):=
 if decide (s3<(p0a.length:Int)) then ((aR p0a s3).bind fun x5=>(aR p1b s3).bind fun x6=>if (x5.1==x6.1)&&((x5.2==x6.2)&&true) then (some (.nxt (IntKind.i64.wrap (s3+1)))) else (some (.ret false))) else (some (.brk s3))
def gj (p0a:List (Int×Int)) (p1b:List (Int×Int)):Option Bool:=
 if (p0a.length:Int) !=(p1b.length:Int) then (some false) else (aO (aC (iw p0a p1b) aP 0) (fun r=>some r) (fun s4=>some true))
def kh (p0a:Int×Int) (p1b:Int×Int):Option Bool:=
 if decide (p0a.1<p1b.1) then (some true) else (if p0a.1==p1b.1 then (some (decide (p0a.2<p1b.2))) else (some false))
def lL (p0l:List (Int×Int)) (p1p:Int×Int) (s1:Int):Option (Out Yq2 Int):=
 if decide (s1<(p0l.length:Int)) then ((aR p0l s1).bind fun x4=>(kh (x4.1,x4.2) (p1p.1,p1p.2)).bind fun r5=>if r5 then (some (.nxt (IntKind.i64.wrap (s1+1)))) else (some (.brk s1))) else (some (.brk s1))
def ix (p0l:List (Int×Int)) (p1p:Int×Int):Option Yq2:=
 aO (aC (lL p0l p1p) aP 0) (fun r6=>some r6) (fun s7=>if decide (s7<(p0l.length:Int)) then ((aR p0l s7).bind fun x9=>if Bool.and.match_1 (fun (u10:Bool)=>Bool) (x9.1==p1p.1) (fun (u11:Unit)=>false) (fun (u12:Unit)=>Bool.and.match_1 (fun (u13:Bool)=>Bool) (x9.2==p1p.2) (fun (u14:Unit)=>false) (fun (u15:Unit)=>true)) then (some p0l) else ((chk (And (0<=s7) (s7<=(p0l.length:Int)))).bind fun _=>(dm 16 ([] :List (Int×Int)) ((p0l.take s7.toNat).drop 0)).bind fun z22=>(dm 16 z22 ([(p1p.1,p1p.2)])).bind fun z23=>(chk (And (0<=s7) (s7<=(p0l.length:Int)))).bind fun _=>(dm 16 z23 ((p0l.take p0l.length).drop s7.toNat)).bind fun z25=>some z25)) else ((chk (And (0<=s7) (s7<=(p0l.length:Int)))).bind fun _=>(dm 16 ([] :List (Int×Int)) ((p0l.take s7.toNat).drop 0)).bind fun z32=>(dm 16 z32 ([(p1p.1,p1p.2)])).bind fun z33=>(chk (And (0<=s7) (s7<=(p0l.length:Int)))).bind fun _=>(dm 16 z33 ((p0l.take p0l.length).drop s7.toNat)).bind fun z35=>some z35))
def mW (s15:List Yq1):Option (Out ((List Yq1)×Int×Int) (List Yq1)):=
 if decide ((s15.length:Int)>0) then (if decide ((s15.length:Int)<24) then ((dm 32 s15 ([(6,0,0,0)])).bind fun z16=>some (.nxt z16)) else (some (.brk s15))) else (some (.brk s15))
def tn (p0c:(List Int)×Int×Int):Option ((List Yq1)×Int×Int):=
 (qN (p0c.1,p0c.2.1,p0c.2.2)).bind fun r0=>(bd (p0c.1,r0.2.1,r0.2.2) 14).bind fun r1=>Option.bind ((if r1.1==0 then ((chk (And ((0:Int)<=1) (1<=(r0.1.length:Int)))).bind fun _=>some (r1.2.1,r1.2.2,r0.1.drop 1)) else (if r1.1==1 then ((bd (p0c.1,r1.2.1,r1.2.2) 9).bind fun r8=>(bd (p0c.1,r8.2.1,r8.2.2) 10).bind fun r9=>(bd (p0c.1,r9.2.1,r9.2.2) 3).bind fun r10=>(bd (p0c.1,r10.2.1,r10.2.2) 5).bind fun r11=>(aR r0.1 0).bind fun x12=>some (r11.2.1,r11.2.2,r0.1.set 0 (r8.1,r9.1,r10.1,r11.1))) else (if r1.1==2 then (aO (aC (mW) aP r0.1) (fun r17=>none) (fun s18=>(lW (p0c.1,r1.2.1,r1.2.2) 2).bind fun r19=>if r19.1 then ((dm 32 s18 ([(6,0,0,0)])).bind fun z20=>some (r19.2.1,r19.2.2,z20)) else (some (r19.2.1,r19.2.2,s18)))) else (some (r1.2.1,r1.2.2,r0.1)))):Option (Int×Int×List Yq1))) (fun s21=>some (s21.2.2,s21.1,s21.2.1))
def ff (p0code:List Int):Option (((List Int)×List Yq1)×List Yq1):=
 (tj p0code).bind fun r0=>(tl (p0code,r0.1,r0.2)).bind fun r1=>(tn (p0code,r1.2.1,r1.2.2)).bind fun r2=>some ((r1.1.1,r1.1.2),r2.1)
def cz (p0n:Int) (s3:Yq2×Int):Option Yq6:=
 if decide (s3.2<p0n) then ((dm 16 s3.1 ([(s3.2,s3.2)])).bind fun z3=>some (.nxt (z3,IntKind.i64.wrap (s3.2+1)))) else (some (.brk (s3.1,s3.2)))
def cH (p0n:Int):Option Yq2:=
 if decide (p0n>5) then (some ([])) else (aO (aC (cz p0n) aP (([] :List (Int×Int)),0)) (fun r=>some r) (fun s4=>some s4.1))
def jM (p0a:Int) (p1b:Int):Option Int:=
 if decide (p0a<p1b) then (some (-1)) else (if decide (p0a>p1b) then (some 1) else (some 0))
def fY (p0a:Int×Int) (p1b:Int×Int):Option Int:=
 if p0a.1 !=p1b.1 then ((jM p0a.1 p1b.1).bind fun r2=>some r2) else ((jM p0a.2 p1b.2).bind fun r1=>some r1)
def cX (p0:List (Int×Int)) (p1:Unit):Option Yq2:=R.OF R.HV p0
def bR (p0s:List (Int×Int)) (s1:Int) (s14:Int×Int×List (Int×Int)):Option (Out Yq2 (Int×Int×List (Int×Int))):=
 if decide (s14.2.1<((0+((p0s.length:Int) - 0)) - (0+s1))) then (Option.bind (((chk (And (0<=s14.2.1) (s14.2.1<((0+((p0s.length:Int) - 0)) - (0+s1))))).bind fun _=>(aR s14.2.2 ((0+s1)+s14.2.1)).bind fun x20=>(chk (And (0<=(IntKind.i64.wrap (s14.2.1 - 1))) ((IntKind.i64.wrap (s14.2.1 - 1))<((0+((p0s.length:Int) - 0)) - (0+s1))))).bind fun _=>(aR s14.2.2 ((0+s1)+(IntKind.i64.wrap (s14.2.1 - 1)))).bind fun x22=>if Bool.and.match_1 (fun (u23:Bool)=>Bool) (x20.1==x22.1) (fun (u24:Unit)=>false) (fun (u25:Unit)=>Bool.and.match_1 (fun (u26:Bool)=>Bool) (x20.2==x22.2) (fun (u27:Unit)=>false) (fun (u28:Unit)=>true)) then (some (s14.1,s14.2.2)) else ((chk (And (0<=s14.2.1) (s14.2.1<((0+((p0s.length:Int) - 0)) - (0+s1))))).bind fun _=>(aR s14.2.2 ((0+s1)+s14.2.1)).bind fun x30=>(aR s14.2.2 s14.1).bind fun x31=>some (IntKind.i64.wrap (s14.1+1),s14.2.2.set s14.1.toNat (x30.1,x30.2))):Option (Int×List (Int×Int)))) (fun s32=>some (.nxt (s32.1,IntKind.i64.wrap (s14.2.1+1),s32.2)))) else (some (.brk (s14.1,s14.2.1,s14.2.2)))
def bA (p0s:List (Int×Int)) (s1:Int):Option (Out Yq2 Int):=
 if decide (s1<(p0s.length:Int)) then ((aR p0s s1).bind fun x4=>(aR p0s (IntKind.i64.wrap (s1 - 1))).bind fun x5=>if Bool.and.match_1 (fun (u6:Bool)=>Bool) (x4.1==x5.1) (fun (u7:Unit)=>false) (fun (u8:Unit)=>Bool.and.match_1 (fun (u9:Bool)=>Bool) (x4.2==x5.2) (fun (u10:Unit)=>false) (fun (u11:Unit)=>true)) then ((chk (And (0<=s1) (And (s1<=((p0s.length:Int) - 0)) ((0+((p0s.length:Int) - 0))<=(p0s.length:Int))))).bind fun _=>aO (aC (bR p0s s1) aP (s1,1,p0s)) (fun r33=>some (.ret r33)) (fun s34=>(chk (And (0<=s34.1) (And (s34.1<=((s34.2.2.length:Int) - 0)) ((0+((s34.2.2.length:Int) - 0))<=(s34.2.2.length:Int))))).bind fun _=>(chk (And ((0+s34.1)<=(0+((s34.2.2.length:Int) - 0))) ((0+((s34.2.2.length:Int) - 0))<=(s34.2.2.length:Int)))).bind fun _=>(chk (And ((0:Int)<=0) (And (0<=s34.1) ((0+s34.1)<=((pF s34.2.2 ((0+s34.1).toNat) ((0+((s34.2.2.length:Int) - 0)).toNat) (0,0)).length:Int))))).bind fun _=>some (.ret (((pF s34.2.2 ((0+s34.1).toNat) ((0+((s34.2.2.length:Int) - 0)).toNat) (0,0)).take ((0+s34.1).toNat)).drop 0)))) else (some (.nxt (IntKind.i64.wrap (s1+1))))) else (some (.brk s1))
def b7 (p0s:List (Int×Int)):Option Yq2:=
 if decide ((p0s.length:Int)<2) then (some p0s) else (aO (aC (bA p0s) aP 1) (fun r38=>some r38) (fun s39=>some p0s))
def jo (p0l:List (Int×Int)):Option Yq2:=
 (dm 16 ([] :List (Int×Int)) p0l).bind fun z0=>(cX z0 ()).bind fun r1=>(b7 r1).bind fun r2=>some r2
def o6 (p0g:(List Int)×(List Yq1)) (p1node:Int) (p2letter:Int):Option Bool:=
 (aQ (p0g.1,p0g.2)).bind fun r1=>if r1 then ((bq p1node 0 (IntKind.i64.wrap ((p0g.1.length:Int) - 1))).bind fun r2=>if r2 then ((fK p2letter).bind fun r3=>if r3 then ((aR p0g.1 p1node).bind fun x1=>some (p2letter==(IntKind.i64.wrap (6+x1)))) else (some false)) else (some false)) else (some false)
def dh (p1letter:Int) (s4:Yq2×Int) (x5:List Yq4) (s7:Yq2×Int):Option Yq6:=
 if decide (s7.2<(x5.length:Int)) then (Option.bind (((aR x5 s7.2).bind fun x8=>if x8.2.1==p1letter then ((dm 16 s7.1 ([(s4.2,x8.2.2)])).bind fun z9=>some z9) else (some s7.1):Option Yq2)) (fun s10=>some (.nxt (s10,IntKind.i64.wrap (s7.2+1))))) else (some (.brk (s7.1,s7.2)))
def di (p0g:(List Int)×List Yq1) (p1letter:Int) (r2:List (List Yq4)) (s4:Yq2×Int):Option Yq6:=
 if decide (s4.2<(r2.length:Int)) then (Option.bind (((aR r2 s4.2).bind fun x5=>aO (aC (dh p1letter s4 x5) aP (s4.1,0)) (fun r11=>none) (fun s12=>(o6 (p0g.1,p0g.2) s4.2 p1letter).bind fun r13=>if r13 then ((dm 16 s12.1 ([(s4.2,s4.2)])).bind fun z14=>some z14) else (some s12.1)):Option Yq2)) (fun s15=>some (.nxt (s15,IntKind.i64.wrap (s4.2+1))))) else (some (.brk (s4.1,s4.2)))
def gx (p0g:(List Int)×List Yq1) (p1letter:Int):Option Yq2:=
 (aQ (p0g.1,p0g.2)).bind fun r0=>if r0 then ((fK p1letter).bind fun r1=>if r1 then ((qP (p0g.1,p0g.2)).bind fun r2=>aO (aC (di p0g p1letter r2) aP (([] :List (Int×Int)),0)) (fun r16=>some r16) (fun s17=>(jo s17.1).bind fun r18=>some r18)) else (some ([] :List (Int×Int)))) else (some ([] :List (Int×Int)))
def cA (p1b:List (Int×Int)) (x15:Int×Int) (s23:Yq2×Int):Option Yq6:=
 if decide (s23.2<(p1b.length:Int)) then (Option.bind (((aR p1b s23.2).bind fun x21=>if x15.2==x21.1 then ((dm 16 s23.1 ([(x15.1,x21.2)])).bind fun z18=>some z18) else (some s23.1):Option Yq2)) (fun s25=>some (.nxt (s25,IntKind.i64.wrap (s23.2+1))))) else (some (.brk (s23.1,s23.2)))
def cB (p1b:List (Int×Int)) (r1:List (Int×Int)) (s17:Yq2×Int):Option Yq6:=
 if decide (s17.2<(r1.length:Int)) then ((aR r1 s17.2).bind fun x15=>aO (aC (cA p1b x15) aP (s17.1,0)) (fun r=>some (.ret r)) (fun s24=>some (.nxt (s24.1,IntKind.i64.wrap (s17.2+1))))) else (some (.brk (s17.1,s17.2)))
def cJ (p0a:List (Int×Int)) (p1b:List (Int×Int)):Option Yq2:=
 (jo p0a).bind fun r1=>aO (aC (cB p1b r1) aP (([] :List (Int×Int)),0)) (fun r=>some r) (fun s18=>(jo s18.1).bind fun r2=>some r2)
def gk (p0a:List (Int×Int)) (p1b:List (Int×Int)):Option Yq2:=
 (dm 16 ([] :List (Int×Int)) p0a).bind fun z1=>(dm 16 z1 p1b).bind fun z2=>(jo z2).bind fun r1=>some r1
def cC (p0l:List (Int×Int)) (s3:Int):Option (Out Bool Int):=
 if decide (s3<(p0l.length:Int)) then ((aR p0l s3).bind fun x5=>(bq x5.1 0 4).bind fun r7=>if r7 then ((bq x5.2 0 4).bind fun r8=>if r8 then (if decide (s3>0) then ((aR p0l (IntKind.i64.wrap (s3 - 1))).bind fun x6=>(fY (x6.1,x6.2) (x5.1,x5.2)).bind fun r9=>if decide (r9≥0) then (some (.ret false)) else (some (.nxt (IntKind.i64.wrap (s3+1))))) else (some (.nxt (IntKind.i64.wrap (s3+1))))) else (some (.ret false))) else (some (.ret false))) else (some (.brk s3))
def dJ (p0l:List (Int×Int)):Option Bool:=
 aO (aC (cC p0l) aP 0) (fun r=>some r) (fun s4=>some true)
def eh (p1l:List (Int×Int)) (s3:Yq2):Option (Out Yq2 Yq2):=
 (cJ s3 p1l).bind fun r8=>(gk s3 r8).bind fun r9=>if (r9.length:Int)==(s3.length:Int) then (some (.ret s3)) else (some (.nxt r9))
def fS (p0n:Int) (p1l:List (Int×Int)):Option Yq2:=
 (bq p0n 1 5).bind fun r1=>if r1 then ((dJ p1l).bind fun r2=>if r2 then ((cH p0n).bind fun r3=>aO (aC (eh p1l) aP r3) (fun r=>some r) (fun s4=>none)) else (some ([]))) else (some ([]))
def cK (p1l:List (Int×Int)) (p2low:Int) (p3high:Int) (s5:Yq2×Yq2×Int):Option (Out Yq2 (Yq2×Yq2×Int)):=
 if decide (s5.2.2<=p3high) then (Option.bind ((if decide (s5.2.2≥p2low) then ((gk s5.1 s5.2.1).bind fun r12=>some r12) else (some s5.1):Option Yq2)) (fun s7=>(cJ s5.2.1 p1l).bind fun r13=>some (.nxt (s7,r13,IntKind.i64.wrap (s5.2.2+1))))) else (some (.brk (s5.1,s5.2.1,s5.2.2)))
def iy (p0n:Int) (p1l:List (Int×Int)) (p2low:Int) (p3high:Int):Option Yq2:=
 (bq p0n 1 5).bind fun r1=>if r1 then ((dJ p1l).bind fun r2=>if r2 then (if decide (p2low<0) then (some ([])) else ((bq p3high 0 3).bind fun r3=>if r3 then ((cH p0n).bind fun r4=>aO (aC (cK p1l p2low p3high) aP (([] :List (Int×Int)),r4,0)) (fun r=>some r) (fun s6=>some s6.1)) else (some ([])))) else (some ([]))) else (some ([]))
def be:Nat->(Tr Yq1)->((List Int)×List Yq1)->Option Yq2 
 | 0,_,_=>none
 | n+1,p0,p1 =>
  (Tr.get p0).bind fun z0=>(Tr.get p0).bind fun z1=>if z1.1.1==2 then ((cH (p1.1.length:Int)).bind fun r2=>some r2) else (if z1.1.1==3 then ((Tr.get p0).bind fun z6=>(Tr.get p0).bind fun z7=>(gx (p1.1,p1.2) z7.1.2.1).bind fun r8=>some r8) else (if z1.1.1==4 then ((Tr.get p0).bind fun z18=>(Tr.get p0).bind fun z19=>(aR z19.2 0).bind fun x20=>((be n) x20 (p1.1,p1.2)).bind fun r21=>(Tr.get p0).bind fun z22=>(Tr.get p0).bind fun z23=>(aR z23.2 1).bind fun x24=>((be n) x24 (p1.1,p1.2)).bind fun r25=>(cJ r21 r25).bind fun r26=>some r26) else (if z1.1.1==5 then ((Tr.get p0).bind fun z36=>(Tr.get p0).bind fun z37=>(aR z37.2 0).bind fun x38=>((be n) x38 (p1.1,p1.2)).bind fun r39=>(Tr.get p0).bind fun z40=>(Tr.get p0).bind fun z41=>(aR z41.2 1).bind fun x42=>((be n) x42 (p1.1,p1.2)).bind fun r43=>(gk r39 r43).bind fun r44=>some r44) else (if z1.1.1==6 then ((Tr.get p0).bind fun z50=>(Tr.get p0).bind fun z51=>(aR z51.2 0).bind fun x52=>((be n) x52 (p1.1,p1.2)).bind fun r53=>(fS (p1.1.length:Int) r53).bind fun r54=>some r54) else (if z1.1.1==7 then ((Tr.get p0).bind fun z64=>(Tr.get p0).bind fun z65=>(aR z65.2 0).bind fun x66=>((be n) x66 (p1.1,p1.2)).bind fun r67=>(Tr.get p0).bind fun z68=>(Tr.get p0).bind fun z69=>(Tr.get p0).bind fun z70=>(Tr.get p0).bind fun z71=>(iy (p1.1.length:Int) r67 z69.1.2.2.1 z71.1.2.2.2).bind fun r72=>some r72) else (some ([] :List (Int×Int))))))))
def eF (p0g:(List Int)×List Yq1) (p1e:List Yq1):Option (Yq2×Bool):=
 (aQ (p0g.1,p0g.2)).bind fun r0=>if r0 then ((gN p1e).bind fun r1=>if r1 then ((j8 p1e).bind fun r4=>(be dn r4 (p0g.1,p0g.2)).bind fun r5=>some (r5,true)) else (some (([] :List (Int×Int)),false))) else (some (([] :List (Int×Int)),false))
def cD (p0n:Int) (s3:Yq2×Int):Option Yq6:=
 if decide (s3.2<p0n) then (if decide (p0n<=5) then ((dm 16 s3.1 ([(s3.2,s3.2)])).bind fun z3=>some (.nxt (z3,IntKind.i64.wrap (s3.2+1)))) else (some (.brk (s3.1,s3.2)))) else (some (.brk (s3.1,s3.2)))
def cL (p0n:Int):Option Yq2:=
 aO (aC (cD p0n) aP (([] :List (Int×Int)),0)) (fun r=>some r) (fun s4=>some s4.1)
def o7 (p0g:(List Int)×(List Yq1)) (p1node:Int) (p2letter:Int):Option Bool:=
 (a6 (p0g.1,p0g.2)).bind fun r1=>if r1 then ((cq p1node 0 (IntKind.i64.wrap ((p0g.1.length:Int) - 1))).bind fun r2=>if r2 then ((cq p2letter 6 8).bind fun r3=>if r3 then ((aR p0g.1 p1node).bind fun x1=>some (x1==(IntKind.i64.wrap (p2letter - 6)))) else (some false)) else (some false)) else (some false)
def dj (p0:(List Int)×(List Yq1)) (p1:Int) (s5:Yq2×Int):Option Yq6:=
 if decide (s5.2<(p0.1.length:Int)) then (Option.bind (((o7 (p0.1,p0.2) s5.2 p1).bind fun r12=>if r12 then ((ix s5.1 (s5.2,s5.2)).bind fun r13=>some r13) else (some s5.1):Option Yq2)) (fun s7=>some (.nxt (s7,IntKind.i64.wrap (s5.2+1))))) else (some (.brk (s5.1,s5.2)))
def dk (p0:(List Int)×(List Yq1)) (p1:Int) (s16:Yq2×Int):Option Yq6:=
 if decide (s16.2<(p0.2.length:Int)) then (Option.bind (((aR p0.2 s16.2).bind fun x6=>Option.bind ((if (IntKind.i64.wrap (2*x6.2.2.2))==p1 then ((ix s16.1 (x6.2.1,x6.2.2.1)).bind fun r30=>some r30) else (some s16.1):Option Yq2)) (fun s20=>if (IntKind.i64.wrap ((IntKind.i64.wrap (2*x6.2.2.2))+1))==p1 then ((ix s20 (x6.2.2.1,x6.2.1)).bind fun r31=>some r31) else (some s20)):Option Yq2)) (fun s19=>some (.nxt (s19,IntKind.i64.wrap (s16.2+1))))) else (some (.brk (s16.1,s16.2)))
def gy (p0:(List Int)×(List Yq1)) (p1:Int):Option Yq2:=
 (a6 (p0.1,p0.2)).bind fun r1=>if r1 then (aO (aC (dj p0 p1) aP (([] :List (Int×Int)),0)) (fun r=>some r) (fun s6=>aO (aC (dk p0 p1) aP (s6.1,0)) (fun r=>some r) (fun s17=>some s17.1))) else (some ([] :List (Int×Int)))
def cE (p0a:List (Int×Int)) (p1b:List (Int×Int)) (s17:Yq2×Int) (s23:Yq2×Int):Option Yq6:=
 if decide (s23.2<(p1b.length:Int)) then (Option.bind (((aR p0a s17.2).bind fun x69=>(aR p1b s23.2).bind fun x70=>if x69.2==x70.1 then ((aR p0a s17.2).bind fun x71=>(aR p1b s23.2).bind fun x72=>(ix s23.1 (x71.1,x72.2)).bind fun r18=>some r18) else (some s23.1):Option Yq2)) (fun s25=>some (.nxt (s25,IntKind.i64.wrap (s23.2+1))))) else (some (.brk (s23.1,s23.2)))
def cF (p0a:List (Int×Int)) (p1b:List (Int×Int)) (s17:Yq2×Int):Option Yq6:=
 if decide (s17.2<(p0a.length:Int)) then (aO (aC (cE p0a p1b s17) aP (s17.1,0)) (fun r=>some (.ret r)) (fun s24=>some (.nxt (s24.1,IntKind.i64.wrap (s17.2+1))))) else (some (.brk (s17.1,s17.2)))
def cM (p0a:List (Int×Int)) (p1b:List (Int×Int)):Option Yq2:=
 aO (aC (cF p0a p1b) aP (([] :List (Int×Int)),0)) (fun r=>some r) (fun s18=>some s18.1)
def iz (p0a:List (Int×Int)) (s3:Yq2×Int):Option Yq6:=
 if decide (s3.2<(p0a.length:Int)) then ((aR p0a s3.2).bind fun x3=>(ix s3.1 (x3.1,x3.2)).bind fun r3=>some (.nxt (r3,IntKind.i64.wrap (s3.2+1)))) else (some (.brk (s3.1,s3.2)))
def iB (p1b:List (Int×Int)) (s7:Yq2×Int):Option Yq6:=
 if decide (s7.2<(p1b.length:Int)) then ((aR p1b s7.2).bind fun x6=>(ix s7.1 (x6.1,x6.2)).bind fun r6=>some (.nxt (r6,IntKind.i64.wrap (s7.2+1)))) else (some (.brk (s7.1,s7.2)))
def gl (p0a:List (Int×Int)) (p1b:List (Int×Int)):Option Yq2:=
 aO (aC (iz p0a) aP (([] :List (Int×Int)),0)) (fun r=>some r) (fun s4=>aO (aC (iB p1b) aP (s4.1,0)) (fun r=>some r) (fun s8=>some s8.1))
def mu (p0l:List (Int×Int)) (s3:Int):Option (Out Bool Int):=
 if decide (s3<(p0l.length:Int)) then ((aR p0l s3).bind fun x9=>(cq x9.1 0 4).bind fun r7=>if r7 then ((aR p0l s3).bind fun x10=>(cq x10.2 0 4).bind fun r8=>if r8 then (if decide (s3>0) then ((aR p0l (IntKind.i64.wrap (s3 - 1))).bind fun x11=>(aR p0l s3).bind fun x12=>(kh (x11.1,x11.2) (x12.1,x12.2)).bind fun r9=>if r9 then (some (.nxt (IntKind.i64.wrap (s3+1)))) else (some (.ret false))) else (some (.nxt (IntKind.i64.wrap (s3+1))))) else (some (.ret false))) else (some (.ret false))) else (some (.brk s3))
def fL (p0l:List (Int×Int)):Option Bool:=
 aO (aC (mu p0l) aP 0) (fun r=>some r) (fun s4=>some true)
def cR (p1l:List (Int×Int)) (s3:Yq2×Int):Option Yq6:=
 if decide (s3.2<5) then ((cM s3.1 p1l).bind fun r8=>(gl s3.1 r8).bind fun r9=>some (.nxt (r9,IntKind.i64.wrap (s3.2+1)))) else (some (.brk (s3.1,s3.2)))
def cY (p0n:Int) (p1l:List (Int×Int)):Option Yq2:=
 (cq p0n 1 5).bind fun r1=>if r1 then ((fL p1l).bind fun r2=>if r2 then ((cL p0n).bind fun r3=>aO (aC (cR p1l) aP (r3,0)) (fun r=>some r) (fun s4=>some s4.1)) else (some ([] :List (Int×Int)))) else (some ([] :List (Int×Int)))
def bm (p1l:List (Int×Int)) (p2low:Int) (p3high:Int) (s5:Yq2×Yq2×Int):Option (Out Yq2 (Yq2×Yq2×Int)):=
 if decide (s5.2.2<=p3high) then (Option.bind ((if decide (s5.2.2≥p2low) then ((gl s5.1 s5.2.1).bind fun r12=>some r12) else (some s5.1):Option Yq2)) (fun s7=>(cM s5.2.1 p1l).bind fun r13=>some (.nxt (s7,r13,IntKind.i64.wrap (s5.2.2+1))))) else (some (.brk (s5.1,s5.2.1,s5.2.2)))
def dL (p0n:Int) (p1l:List (Int×Int)) (p2low:Int) (p3high:Int):Option Yq2:=
 (cq p0n 1 5).bind fun r1=>if r1 then ((fL p1l).bind fun r2=>if r2 then ((cq p3high 0 3).bind fun r3=>if r3 then (if decide (p2low<0) then (some ([] :List (Int×Int))) else ((cL p0n).bind fun r4=>aO (aC (bm p1l p2low p3high) aP (([] :List (Int×Int)),r4,0)) (fun r=>some r) (fun s6=>some s6.1))) else (some ([] :List (Int×Int)))) else (some ([] :List (Int×Int)))) else (some ([] :List (Int×Int)))
def bP:Nat->((List Int)×List Yq1)->(List Yq1)->Option Yq2 
 | 0,_,_=>none
 | n+1,p0,p1 =>
  (aR p1 (IntKind.i64.wrap ((p1.length:Int) - 1))).bind fun x0=>if x0.1==2 then ((cL (p0.1.length:Int)).bind fun r1=>some r1) else (if x0.1==3 then ((gy (p0.1,p0.2) x0.2.1).bind fun r2=>some r2) else (if x0.1==4 then ((chk (And (0<=(IntKind.i64.wrap ((p1.length:Int) - 1))) ((IntKind.i64.wrap ((p1.length:Int) - 1))<=(p1.length:Int)))).bind fun _=>(eS (p1.take ((IntKind.i64.wrap ((p1.length:Int) - 1)).toNat))).bind fun r4=>(chk (And (0<=r4) (r4<=(p1.length:Int)))).bind fun _=>((bP n) (p0.1,p0.2) (p1.take r4.toNat)).bind fun r11=>(chk (And (0<=r4) (And (r4<=(IntKind.i64.wrap ((p1.length:Int) - 1))) ((IntKind.i64.wrap ((p1.length:Int) - 1))<=(p1.length:Int))))).bind fun _=>((bP n) (p0.1,p0.2) ((p1.take ((IntKind.i64.wrap ((p1.length:Int) - 1)).toNat)).drop r4.toNat)).bind fun r13=>(cM r11 r13).bind fun r14=>some r14) else (if x0.1==5 then ((chk (And (0<=(IntKind.i64.wrap ((p1.length:Int) - 1))) ((IntKind.i64.wrap ((p1.length:Int) - 1))<=(p1.length:Int)))).bind fun _=>(eS (p1.take ((IntKind.i64.wrap ((p1.length:Int) - 1)).toNat))).bind fun r16=>(chk (And (0<=r16) (r16<=(p1.length:Int)))).bind fun _=>((bP n) (p0.1,p0.2) (p1.take r16.toNat)).bind fun r23=>(chk (And (0<=r16) (And (r16<=(IntKind.i64.wrap ((p1.length:Int) - 1))) ((IntKind.i64.wrap ((p1.length:Int) - 1))<=(p1.length:Int))))).bind fun _=>((bP n) (p0.1,p0.2) ((p1.take ((IntKind.i64.wrap ((p1.length:Int) - 1)).toNat)).drop r16.toNat)).bind fun r25=>(gl r23 r25).bind fun r26=>some r26) else (if x0.1==6 then ((chk (And (0<=(IntKind.i64.wrap ((p1.length:Int) - 1))) ((IntKind.i64.wrap ((p1.length:Int) - 1))<=(p1.length:Int)))).bind fun _=>((bP n) (p0.1,p0.2) (p1.take ((IntKind.i64.wrap ((p1.length:Int) - 1)).toNat))).bind fun r31=>(cY (p0.1.length:Int) r31).bind fun r32=>some r32) else (if x0.1==7 then ((chk (And (0<=(IntKind.i64.wrap ((p1.length:Int) - 1))) ((IntKind.i64.wrap ((p1.length:Int) - 1))<=(p1.length:Int)))).bind fun _=>((bP n) (p0.1,p0.2) (p1.take ((IntKind.i64.wrap ((p1.length:Int) - 1)).toNat))).bind fun r37=>(dL (p0.1.length:Int) r37 x0.2.2.1 x0.2.2.2).bind fun r38=>some r38) else (some ([] :List (Int×Int))))))))
def dx (p0g:(List Int)×(List Yq1)) (p1e:(List Yq1)):Option (Yq2×Bool):=
 (a6 (p0g.1,p0g.2)).bind fun r1=>if r1 then ((fu p1e).bind fun r2=>if r2 then ((bP dn (p0g.1,p0g.2) p1e).bind fun r3=>some (r3,true)) else (some (([] :List (Int×Int)),false))) else (some (([] :List (Int×Int)),false))
def dy (p0s:List Int) (p1v:Int):Option Bool:=
 (bL p0s p1v).bind fun r1=>some (decide (r1≥0))
def fT (p0g:(List Int)×(List Yq1)) (p1a:Int×(List Bool)×(List (List Int))) (p2x:Int) (p3y:Int):Option Bool:=
 (dV (p0g.1,p0g.2) (p1a.1,p1a.2.1,p1a.2.2) p2x).bind fun r1=>(dy r1 p3y).bind fun r2=>some r2
def qR (p0l:List Int) (p1x:Int) (s3:Int):Option (Out Bool Int):=
 if decide (s3<(p0l.length:Int)) then ((aR p0l s3).bind fun x3=>if x3==p1x then (some (.ret true)) else (some (.nxt (IntKind.i64.wrap (s3+1))))) else (some (.brk s3))
def A2 (p0l:List Int) (p1x:Int):Option Bool:=
 aO (aC (qR p0l p1x) aP 0) (fun r=>some r) (fun s4=>some false)
def je (p0g:(List Int)×(List Yq1)) (p1a:Int×(List Bool)×(List (List Int))) (p2target:Int) (s5:(List Int)×Int):Option Yq7:=
 if decide (s5.2<(p0g.1.length:Int)) then (Option.bind (((fT (p0g.1,p0g.2) (p1a.1,p1a.2.1,p1a.2.2) s5.2 p2target).bind fun r7=>if r7 then ((dm 8 s5.1 ([s5.2])).bind fun z6=>some z6) else (some s5.1):Option (List Int))) (fun s7=>some (.nxt (s7,IntKind.i64.wrap (s5.2+1))))) else (some (.brk (s5.1,s5.2)))
def jN (p0g:(List Int)×(List Yq1)) (p1a:Int×(List Bool)×(List (List Int))) (p2target:Int):Option (List Int):=
 (bC (p0g.1,p0g.2) (p1a.1,p1a.2.1,p1a.2.2) ([p2target])).bind fun r1=>if r1 then (aO (aC (je p0g p1a p2target) aP (([] :List Int),0)) (fun r=>some r) (fun s6=>some s6.1)) else (some ([]))
def dC (r2:((List Int)×(List Yq1))×((List Yq1))) (r6:Yq3×Bool) (r9:List (Int×Int)) (s3:Int):Option (Out Bool Int):=
 if decide (s3<(r9.length:Int)) then ((aR r9 s3).bind fun x9=>(aR r9 s3).bind fun x10=>(fT (r2.1.1,r2.1.2) (r6.1.1,r6.1.2.1,r6.1.2.2) x9.1 x10.2).bind fun r16=>if r16 then ((aR r9 s3).bind fun x11=>(jN (r2.1.1,r2.1.2) (r6.1.1,r6.1.2.1,r6.1.2.2) x11.2).bind fun r17=>(aR r9 s3).bind fun x12=>(A2 r17 x12.1).bind fun r18=>if r18 then (some (.nxt (IntKind.i64.wrap (s3+1)))) else (some (.ret false))) else (some (.ret false))) else (some (.brk s3))
def iC (p0:List Int):Option Bool:=
 (Et p0).bind fun r1=>if r1 then (some true) else ((ff p0).bind fun r2=>(eF (r2.1.1,r2.1.2) r2.2).bind fun r3=>(dx (r2.1.1,r2.1.2) r2.2).bind fun r4=>if r3.2 !=r4.2 then (some false) else ((gj r3.1 r4.1).bind fun r5=>if r5 then ((gQ r2.2).bind fun r6=>(dO r2.2).bind fun r7=>if r6.2 !=r7.2 then (some false) else ((ir (r6.1.1,r6.1.2.1,r6.1.2.2) (r7.1.1,r7.1.2.1,r7.1.2.2)).bind fun r8=>if r8 then (if r3.2 then (if r6.2 then ((iX (r2.1.1,r2.1.2) (r6.1.1,r6.1.2.1,r6.1.2.2)).bind fun r9=>aO (aC (dC r2 r6 r9) aP 0) (fun r=>some r) (fun s4=>(gj r9 r4.1).bind fun r19=>if r19 then ((dJ r9).bind fun r20=>some r20) else (some false))) else (some true)) else (some true)) else (some false))) else (some false)))
end D
end Go.Proofs.YtbhafdfiplkacaaGreat
