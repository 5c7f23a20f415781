/- FnExactEngineRegister: for every input the law returns true and changes nothing that was there. Part 6 of 9. -/
import Derived.Test.YtcobhgbgllfniaaGreatDoorEC4
set_option linter.unusedVariables false
set_option linter.unusedSimpArgs false
set_option linter.unnecessarySimpa false
set_option linter.unusedSectionVars false
set_option maxRecDepth 1000000
namespace Go.Proofs.YtcobhgbgllfniaaGreatDoor
namespace R
open Go.RowKit
open D
def Oh (i:Nat):(p:PM)->p.den->AV
 | .rd t,d=>MC i t d
 | .ow t,d=>MZ (kh i [] t d)
 | .fn a b,d=>.one (.fn ⟨i,[]⟩ a b d)
 | .cap T t,d=>.one (.fz ⟨i,[]⟩ T t d 0)
 | .capf T a b,d=>.one (.fzf ⟨i,[]⟩ T a b d)
 | .ptr _ _,_=>.one (.ptr ⟨i,[]⟩ 0)
 | .eat t,d=>MZ (kh i [] t d)
 | .fk g,_=>.one (.val (.func (.func g) #[] #[]))
 | .crs _ _,_=>.one (.ptr ⟨i,[]⟩ 0)
def JV (q i:Nat):(p:PM)->p.den->List (Hdr×Chk)
 | .ow t,d=>kY i [] t d
 | .ptr T t,d=>[(⟨i,[]⟩,.box T t d)]
 | .eat t,d=>kY i [] t d
 | .crs T E,d=>[(⟨i,[]⟩,.blk T [.rd ⟨q,[]⟩ (.sl E (.int .u8)) d.1,.val (.int .i64 d.2.1),.val (.int .i64 d.2.2)])]
 | _,_=>[]
def JW:(i:Nat)->(ps:List PM)->denP ps->List (Nat×Nat×AV)
 | _,[],_=>[]
 | i,p::ps,d=>(i,i,Oh i p d.1)::JW (i+1) ps d.2
def Gk (q:Nat):(i:Nat)->(ps:List PM)->denP ps->List Ent
 | _,[],_=>[]
 | i,p::ps,d=>(JV q i p d.1).map (fun g=>(g.1,i,g.2))++Gk q (i+1) ps d.2
def As (ps:List PM) (d:denP ps):Sg:=⟨JW 0 ps d,Gk ps.length 0 ps d,ps.length+1⟩
def ZN (P:Program) (w0:World) (J:Hp) (θ:Th) (n i:Nat):(p:PM)->Value->p.den->Prop
 | .ow t,v,d=>(kh i [] t d).2.map (·.v θ)=iY t.isProd v/\ ∀x∈(kh i [] t d).2,x.ok P w0 J θ n
 | .ptr _ _,v,_=>hv θ ⟨i,[]⟩=v/\i<n
 | .crs _ _,v,_=>hv θ ⟨i,[]⟩=v/\i<n
 | _,_,_=>True
def StF (P:Program) (w0:World) (J:Hp) (θ:Th) (n:Nat):(i:Nat)->(ps:List PM)->List Value->denP ps->Prop
 | i,p::ps,v::vs,d=>ZN P w0 J θ n i p v d.1/\StF P w0 J θ n (i+1) ps vs d.2
 | _,_,_,_=>True
section
variable {P:Program} {w0 w:World} {J:Hp} {θ:Th} {n:Nat} {C:List Ch}
theorem xT {id:Nat} {pre:List Nat} {t:Ty} {d:t.den} : ∀g∈kY id pre t d,Qy g.2:=gT t d 0
theorem Oi {p:PM} {i:Nat} {v:Value} {d:p.den} {ps:List PM} {vs:List Value} {e:denP ps} {γ:Value} {q:Nat} (hi:i<n) (hq:q<n) (hγ:θ q=γ) (hθ:θ i=v) (h:YM P w0 J γ p v d) (hS:St J w0 w (owCh γ (p::ps) (v::vs) (d,e)++C)) :
  (∀chs,(Oh i p d).ok P w0 J θ n chs)/\(Oh i p d).v θ=v/\St J w0 w ((JV q i p d).map (fun g=>toCh P θ (g.1,i,g.2))++(owCh γ ps vs e++C))/\(∀g∈JV q i p d,UY P w0 J θ n g.2/\g.1.id=i)/\ZN P w0 J θ n i p v d:=by
 cases p with
 | rd t =>
  obtain ⟨cs,h1,h2⟩:=h
  have hav:=fun chs=>pb (P:=P) (w0:=w0) (J:=J) (chs:=chs) hi hθ t d cs h2 h1
  exact ⟨fun chs=>(hav chs).1,(hav []).2,hS,fun g hg=>(by cases hg),trivial⟩
 | fn a b =>
  have hh:hv θ ⟨i,[]⟩=v:=hθ
  exact ⟨fun chs=>⟨hi,by rw[hh];exact h⟩,hh,hS,fun g hg=>(by cases hg),trivial⟩
 | cap T t =>
  obtain ⟨b,rfl,cells,h1,h2⟩:=h
  have hh:hv θ ⟨i,[]⟩= .pointer (some ⟨b,0,none⟩):=hθ
  refine ⟨fun chs=>⟨hi,cells,by rw[hh];exact h1,h2⟩,?_,hS,fun g hg=>(by cases hg),trivial⟩
  show Value.pointer (some ⟨bk (hv θ ⟨i,[]⟩),0,none⟩)=_
  rw[hh];rfl
 | capf T x y =>
  obtain ⟨b,rfl,u,h1,h2⟩:=h
  have hh:hv θ ⟨i,[]⟩= .pointer (some ⟨b,0,none⟩):=hθ
  refine ⟨fun chs=>⟨hi,u,by rw[hh];exact h1,h2⟩,?_,hS,fun g hg=>(by cases hg),trivial⟩
  show Value.pointer (some ⟨bk (hv θ ⟨i,[]⟩),0,none⟩)=_
  rw[hh];rfl
 | ptr T t =>
  obtain ⟨b,rfl⟩:=h
  have hh:hv θ ⟨i,[]⟩= .pointer (some ⟨b,0,none⟩):=hθ
  refine ⟨fun chs=>hi,?_,?_,fun g hg=>by obtain rfl:=aw hg;exact ⟨.inl trivial,rfl⟩,hh,hi⟩
  ·show Value.pointer (some ⟨bk (hv θ ⟨i,[]⟩),0,none⟩)=_
   rw[hh];rfl
  ·show St J w0 w (Ch.box (bk (hv θ ⟨i,[]⟩)) T t.rep d::_)
   rw[hh];exact hS
 | ow t =>
  have hS:St J w0 w (Ch.own t.rep (iY t.isProd v) d::(owCh γ ps vs e++C)):=hS
  obtain ⟨k1,k2,k3,k4,k5⟩:=vo (P:=P) (m:=i) (pre:=[]) (id:=i) (n:=n) hi (show hv θ ⟨i,[]⟩=v from hθ) h hS
  have q:=fun chs=>Dv (P:=P) (w0:=w0) (J:=J) (θ:=θ) (n:=n) (chs:=chs) (kh i [] t d) (fun e=>rA e) k1
  exact ⟨fun chs=>(q chs).1,(q []).2.trans k3,k5,fun g hg=>⟨.inl (xT g hg),k4 g hg⟩,k2,k1⟩
 | eat t =>
  have hS:St J w0 w (Ch.own t.rep (iY t.isProd v) d::(owCh γ ps vs e++C)):=hS
  obtain ⟨k1,k2,k3,k4,k5⟩:=vo (P:=P) (m:=i) (pre:=[]) (id:=i) (n:=n) hi (show hv θ ⟨i,[]⟩=v from hθ) h hS
  have q:=fun chs=>Dv (P:=P) (w0:=w0) (J:=J) (θ:=θ) (n:=n) (chs:=chs) (kh i [] t d) (fun e=>rA e) k1
  exact ⟨fun chs=>(q chs).1,(q []).2.trans k3,k5,fun g hg=>⟨.inl (xT g hg),k4 g hg⟩,trivial⟩
 | fk g =>
  obtain rfl:=h
  exact ⟨fun chs=>rfl,rfl,hS,fun g hg=>(by cases hg),trivial⟩
 | crs T E =>
  obtain ⟨⟨b,rfl⟩,hrd⟩:=h
  have hh:hv θ ⟨i,[]⟩= .pointer (some ⟨b,0,none⟩):=hθ
  have hg0:hv θ ⟨q,[]⟩=γ:=hγ
  refine ⟨fun chs=>hi,?_,?_,fun g hg=>?_,hh,hi⟩
  ·show Value.pointer (some ⟨bk (hv θ ⟨i,[]⟩),0,none⟩)=_
   rw[hh];rfl
  ·show St J w0 w (Ch.blk (bk (hv θ ⟨i,[]⟩)) [hv θ ⟨q,[]⟩,.int .i64 d.2.1,.int .i64 d.2.2] T::_)
   rw[hh,hg0];exact hS
  ·obtain rfl:=aw hg
   refine ⟨.inr ⟨_,_,rfl,fun z hz=>?_⟩,rfl⟩
   rcases aA hz with rfl | hz
   ·exact ⟨hq,by rw[hg0];exact hrd⟩
   ·rcases aA hz with rfl | hz
    ·exact Eq.refl true
    ·obtain rfl:=aw hz
     exact Eq.refl true
theorem JX {γ:Value} {q:Nat} (hq:q<n) (hγ:θ q=γ): ∀ {ps:List PM} {i:Nat} {vs:List Value} {d:denP ps} {C:List Ch},PArgs P w0 J γ ps vs d->(∀j v,vs[j]? =some v->θ (i+j)=v)->i+ps.length<=n->St J w0 w (owCh γ ps vs d++C)->
  (∀e∈JW i ps d,(∀chs,e.2.2.ok P w0 J θ n chs)/\i<=e.1/\e.2.1=e.1/\e.1<i+ps.length/\vs[e.1 - i]? =some (e.2.2.v θ))/\((JW i ps d).Pairwise fun a b=>a.2.1≠b.2.1)/\St J w0 w ((Gk q i ps d).map (toCh P θ)++C)/\(∀e∈Gk q i ps d,∀chs,okE P w0 J θ n chs e)/\StF P w0 J θ n i ps vs d
 | [],i,vs,d,C,h,_,_,hS=>by
  have h:vs= []:=h
  subst h
  exact ⟨fun e he=>(by cases he),List.Pairwise.nil,hS,fun e he=>(by cases he),trivial⟩
 | p::ps,i,vs,d,C,h,hθ,hn,hS=>by
  obtain ⟨v,r,rfl,h1,h3⟩:=h
  rw[ak] at hn
  obtain ⟨a1,a2,a3,a4,a5⟩:=Oi (n:=n) (i:=i) (θ:=θ) (e:=d.2) (show i<n by omega) hq hγ (hθ 0 v rfl) h1 hS
  obtain ⟨k1,k2,k3,k4,k5⟩:=JX hq hγ (i:=i+1) h3 (fun j u hj=>by
   have:=hθ (j+1) u hj
   rwa [show i+(j+1)=i+1+j from by omega] at this) (by omega) (a3.perm (List.perm_append_comm_assoc _ _ _))
  refine ⟨fun e he=>?_,List.pairwise_cons.2 ⟨fun e he hh=>?_,k2⟩,?_,fun e he chs=>?_,a5,k5⟩
  ·rcases aA he with rfl | he
   ·exact ⟨a1,aC _,rfl,by rw[ak];show i<_;omega,by show (v::r)[i - i]? =_;rw[Nat.sub_self,a2];rfl⟩
   ·obtain ⟨q1,q2,q3,q4,q5⟩:=k1 e he
    refine ⟨q1,by omega,q3,by rw[ak];omega,?_⟩
    rw[show e.1 - i=(e.1 - (i+1))+1 from by omega];exact q5
  ·have:=k1 e he
   have hh:i=e.2.1:=hh
   omega
  ·show St J w0 w (((JV q i p d.1).map _++Gk q (i+1) ps d.2).map (toCh P θ)++C)
   rw[aO,List.map_map]
   refine k3.perm ?_
   rw[ai]
   exact List.perm_append_comm_assoc _ _ _
  ·rcases aI he with he | he
   ·obtain ⟨g,hg,rfl⟩:=List.mem_map.1 he
    obtain ⟨g1,g2⟩:=a4 g hg
    exact DA g1 (aC _) (by omega) (by omega)
   ·exact k4 e he chs
theorem Gl {γ:Value} : ∀ {ps:List PM} {vs:List Value} {d:denP ps},PArgs P w0 J γ ps vs d->vs.length=ps.length
 | [],vs,d,h=>by
  have h:vs= []:=h
  subst h;rfl
 | p::ps,vs,d,h=>by
  obtain ⟨v,r,rfl,h1,h3⟩:=h
  simpa using Gl h3
end
def VH (tt:TT) (s:Sg):ResultVar->Option AV
 | .tmp t=>look s.env t
 | .cell p T=>(PV (look s.env p)).bind fun h=>(td tt T).bind fun d=>(vj h s.chs).bind fun b=>bT (Nat.beq b.cells.length d.n) (YK d.agg b.cells)
theorem VI {v:Option AV} {h:Hdr} (k:PV v=some h):v=some (.one (.ptr h 0)):=by
 unfold PV at k
 split at k
 ·rename_i h' off
  split at k
  ·rename_i ho
   rw[au ho,ae k]
  ·cases k
 ·cases k
section
variable {P:Program} {I:Hp} {w0 w:World} {F:Ch} {J:Hp} {θ:Th} {n:Nat} {s:Sg} {a:Act} {tt:TT}
theorem VJ (ha:Agr n a (envL θ s)) {t g:Nat} {T E:TypeId} {v:Value} {cs:List Ch} (h:(envL θ s).lookup t=some (.pointer (some ⟨g,0,none⟩))) (hs:St J w0 w cs) (i:Nat) (hi:cs[i]? =some (Ch.blk g [v] E)) (hT:TI P T false 1):Hq P a w (.cell t T) v:=by
 refine ⟨_,ha.2.2 t _ h,?_⟩
 have hg:=hs.heap i hi
 have hc:w.cell? ⟨g,0,none⟩=some v:=by simp[World.cell?,hg]
 simp[loadVar,Sem.run_bind,hT.run_agg,load,Sem.run,hc,Result.andThen]
theorem RD (hT:TTok P tt) (hS:Sim P I w0 F n J θ s a w) {r:ResultVar} {v:AV} (h:VH tt s r=some v):Hq P a w r (v.v θ)/\v.ok P w0 J θ s.nxt s.chs:=by
 cases r with
 | tmp t=>exact ⟨Ui hS.agr (gq h),bF (x:=.tmp t) hS.fine h⟩
 | cell p T =>
  obtain ⟨hh,h1,h⟩:=bind_some (show (PV (look s.env p)).bind _=some v from h)
  obtain ⟨d,hd,h⟩:=bind_some h
  obtain ⟨b,hb,h⟩:=bind_some h
  obtain ⟨hl,h⟩:=al h
  have hl:=au hl
  have hp:=lB hb
  have hok:=hS.fine.chs _ (hp.mem_iff.2 (List.mem_cons_self ..))
  obtain ⟨k1,k2⟩:=MT (chs:=s.chs) h hok.2.2
  refine ⟨?_,k1⟩
  have hlk:(envL θ s).lookup p=some (.pointer (some ⟨bk (hv θ hh),0,none⟩)):=gq (VI h1)
  have hst:=hS.st.perm ((hp.map (toCh P θ)).append_right [F])
  have hti:=(hT.get hd).ti
  cases hagg:d.agg with
  | true =>
   rw[hagg] at k2 hti
   rw[<-k2]
   exact P4 hS.agr hlk hst 0 rfl hti (by rw[List.length_map];exact hl)
  | false =>
   rw[hagg] at k2 hti h
   have h1':d.n=1:=by
    have:=(hT.get hd).one
    rw[hagg] at this
    simpa using this
   obtain ⟨x,hx⟩:=List.length_eq_one_iff.1 (hl.trans h1')
   rw[h1'] at hti
   rw[hx] at k2
   rw[<-k2]
   have hst2:St J w0 w (Ch.blk (bk (hv θ hh)) [x.v θ] b.T::(b.rest.map (toCh P θ)++ [F])):=by
    have:(toCh P θ (b.ent hh))=Ch.blk (bk (hv θ hh)) (b.cells.map (·.v θ)) b.T:=rfl
    rw[hx] at this
    rw[<-show toCh P θ (b.ent hh)=Ch.blk (bk (hv θ hh)) [x.v θ] b.T from this]
    exact hst
   exact VJ hS.agr hlk hst2 0 rfl hti
end
def Ia:(ts:List Ty)->List AV->List Ent->Option (iX ts×List Ent×List Ent)
 | [],[],chs=>some ((),[],chs)
 | t::ts,v::vs,chs=>bT (vr v==t.isProd) ((jJ v).bind fun cs=>(du t cs chs).bind fun q=>bT q.cells.isEmpty ((Ia ts vs q.rest).bind fun r=>some ((q.d,r.1),q.used++r.2.1,r.2.2)))
 | _,_,_=>none
def wW:(ts:List Ty)->List Value->iX ts->List Ch
 | t::ts,v::vs,d=>Ch.own t.rep (iY t.isProd v) d.1::wW ts vs d.2
 | _,_,_=>[]
theorem CE {P:Program} {w0:World} {J:Hp} {θ:Th} {n:Nat} {chs0:List Ent} : ∀ {ts:List Ty} {vs:List AV} {chs:List Ent} {r:iX ts×List Ent×List Ent},Ia ts vs chs=some r->(∀v∈vs,v.ok P w0 J θ n chs0)->
  chs.Perm (r.2.1++r.2.2)/\vs.length=ts.length/\oO J (r.2.1.map (toCh P θ)) (wW ts (vs.map (·.v θ)) r.1)/\ ∀(i:Nat) t v,ts[i]? =some t->vs[i]? =some v->pa (v.v θ)=t.isProd
 | [],[],chs,r,h,_=>by
  obtain rfl:=ae (show some _=some r from h)
  exact ⟨List.Perm.refl _,rfl,ve,fun i t v ht=>by simp at ht⟩
 | t::ts,v::vs,chs,r,h,hv'=>by
  obtain ⟨ha,h⟩:=al (show bT (vr v==t.isProd) _=some r from h)
  have ha:vr v=t.isProd:=by simpa using ha
  obtain ⟨cs,hcs,h⟩:=bind_some h
  obtain ⟨q,hq,h⟩:=bind_some h
  obtain ⟨he,h⟩:=al h
  obtain ⟨r',hr,h⟩:=bind_some h
  obtain rfl:=ae h
  obtain ⟨c1,c2⟩:=iy hcs (hv' v (by simp))
  obtain ⟨p,cc,e1,e2⟩:=jK (J:=J) (θ:=θ) hq c1
  rw[List.isEmpty_iff.1 he,List.append_nil] at e1
  subst e1
  obtain ⟨k1,k2,k3,k4⟩:=CE hr fun x hx=>hv' x (by simp[hx])
  have hcell:iY t.isProd (v.v θ)=cs.map (·.v θ)/\pa (v.v θ)=t.isProd:=by
   rw[<-ha]
   cases v with
   | agg xs =>
    obtain rfl:=ae (show some xs=some cs from hcs)
    exact ⟨rfl,rfl⟩
   | one x =>
    obtain rfl:=ae (show some [x] =some cs from hcs)
    refine ⟨rfl,?_⟩
    have h1:(x.v θ).oneCell'=true:=LV.one (show LV.ok P w0 J θ n x from hv' (.one x) (by simp))
    show pa (x.v θ)=false
    generalize x.v θ=u at h1
    cases u <;> first | rfl | cases h1
   | _=>cases hcs
  refine ⟨by rw[ai];exact p.trans (k1.append_left _),by rw[ak,ak,k2],?_,fun i t' v' ht hv0=>?_⟩
  ·show oO J ((q.used++r'.2.1).map _) (Ch.own t.rep (iY t.isProd (v.v θ)) q.d::wW ts (vs.map _) r'.1)
   rw[aO,hcell.1]
   exact ry e2 k3
  ·cases i with
   | zero =>
    obtain rfl:t=t':=by simpa using ht
    obtain rfl:v=v':=by simpa using hv0
    exact hcell.2
   | succ i=>exact k4 i t' v' (by simpa using ht) (by simpa using hv0)
 | [],_::_,chs,r,h,_=>by cases h
 | _::_,[],chs,r,h,_=>by cases h
def Yt:List Value->Value
 | [v] =>v
 | vs=>.tuple vs.toArray
def JY (P:Program) (a:Act) (w:World):List ResultVar->List Value->Prop
 | [],vs=>vs= []
 | r::rs,vs=> ∃v us,vs=v::us/\Hq P a w r v/\JY P a w rs us
theorem xU {P:Program} {a:Act} {w:World} {f:ResultVar->Sem Value} (hf: ∀r v,Hq P a w r v->(f r).run P w= .ok v w): ∀ {l:List ResultVar} {vs:List Value},JY P a w l vs->(l.mapM f).run P w= .ok vs w
 | [],vs,h=>by
  have h:vs= []:=h
  subst h
  rw[List.mapM_nil];rfl
 | r::l,vs,h=>by
  obtain ⟨v,us,rfl,h1,h2⟩:=h
  rw[List.mapM_cons,Sem.run_bind,hf r v h1]
  simp only[Result.andThen_ok,Sem.run_bind,xU hf h2]
  rfl
def Yu (a:Act) (r:ResultVar):Sem Value:=match r with
 | .tmp t=>pure (a.tmps.getD t undef)
 | .cell p t=>do loadVar t (<-asAddr (a.tmps.getD p undef))
theorem VK {P:Program} {a:Act} {w:World} {r:ResultVar} {v:Value} (h:Hq P a w r v):(Yu a r).run P w= .ok v w:=by
 cases r with
 | tmp t =>
  have h:a.tmps.getD t undef=v:=h
  show (pure (a.tmps.getD t undef):Sem Value).run P w=_
  rw[h];rfl
 | cell p T =>
  obtain ⟨A,h1,h2⟩:=h
  show ((asAddr (a.tmps.getD p undef)) >>=fun x=>loadVar T x).run P w=_
  rw[h1,Sem.run_bind]
  show Result.andThen (.ok A w) _=_
  rw[Result.andThen_ok];exact h2
theorem Y1 {P:Program} {n:Nat} {a:Act} {w:World} {L:List (Nat×Value)} {fn:Func} {R:Ending->World->Prop} {vs:List Value} (ha:Agr n a L) (h:JY P a w fn.results.toList vs) (hR:R (.returned (Yt vs)) w):bodyPost P fn R .ret a w:=by
 refine ⟨ha.1,Yt vs,?_,hR⟩
 have hr:((fn.results.mapM (Yu a)):Sem (Array Value)).run P w= .ok vs.toArray w:=by
  rw[Array.mapM_eq_mapM_toList]
  have:=xU (f:=Yu a) (fun r v=>VK) h
  simp[this,Sem.run_map]
 show ((fn.results.mapM (Yu a)) >>=fun vs=>pure (if h:vs.size=1 then vs[0] else .tuple vs):Sem Value).run P w=_
 rw[Sem.run_bind,hr,Result.andThen_ok]
 match vs with
 | [] =>rfl
 | [v] =>rfl
 | _::_::_=>rfl
def eL (g0:Nat):(i:Nat)->(ps:List PM)->denP ps->List Ent->Option (iX (outs ps)×List Ent×List Ent)
 | _,[],_,chs=>some ((),[],chs)
 | i,.ow t::ps,d,chs=>(du t (kh i [] t d.1).2 chs).bind fun q=>bT q.cells.isEmpty ((eL g0 (i+1) ps d.2 q.rest).bind fun r=>some ((q.d,r.1),q.used++r.2.1,r.2.2))
 | i,.ptr T t::ps,d,chs=>(zW ⟨i,[]⟩ T t chs).bind fun q=>(eL g0 (i+1) ps d.2 q.2.2).bind fun r=>some ((q.1,r.1),q.2.1++r.2.1,r.2.2)
 | i,.rd _::ps,d,chs=>eL g0 (i+1) ps d.2 chs
 | i,.fn _ _::ps,d,chs=>eL g0 (i+1) ps d.2 chs
 | i,.eat _::ps,d,chs=>eL g0 (i+1) ps d.2 chs
 | i,.cap _ _::ps,d,chs=>eL g0 (i+1) ps d.2 chs
 | i,.capf _ _ _::ps,d,chs=>eL g0 (i+1) ps d.2 chs
 | i,.fk _::ps,d,chs=>eL g0 (i+1) ps d.2 chs
 | i,.crs T E::ps,d,chs=>(ui ⟨i,[]⟩ T E chs).bind fun q=>bT (Hdr.beq q.g ⟨g0,[]⟩) ((eL g0 (i+1) ps d.2 q.rest).bind fun r=>some ((q.d.2,r.1),q.ent::r.2.1,r.2.2))
theorem fa {P:Program} {w0:World} {J J':Hp} {θ θ':Th} {n n':Nat} {chs0:List Ent} (hJ:J.le J') (hs:Same n θ θ') {γ:Value} {g0:Nat} (hg0:g0<n) (hγ:θ g0=γ): ∀ {ps:List PM} {i:Nat} {d:denP ps} {chs:List Ent} {vs:List Value} {r:iX (outs ps)×List Ent×List Ent},eL g0 i ps d chs=some r->vs.length=ps.length->StF P w0 J θ n i ps vs d->(∀e∈chs,okE P w0 J' θ' n' chs0 e)->
  chs.Perm (r.2.1++r.2.2)/\oO J' (r.2.1.map (toCh P θ')) (outCh γ ps vs r.1)
 | [],i,d,chs,vs,r,h,_,_,_=>by
  obtain rfl:=ae (show some _=some r from h)
  exact ⟨List.Perm.refl _,ve⟩
 | p::ps,i,d,chs,[],r,h,hl,_,_=>by cases hl
 | .ow t::ps,i,d,chs,v::vs,r,h,hl,hF,hc=>by
  obtain ⟨q,hq,h⟩:=bind_some (show (du t (kh i [] t d.1).2 chs).bind _=some r from h)
  obtain ⟨he,h⟩:=al h
  obtain ⟨r',hr,h⟩:=bind_some h
  obtain rfl:=ae h
  obtain ⟨⟨k1,k2⟩,k3⟩:=hF
  obtain ⟨p,cc,e1,e2⟩:=jK (P:=P) (w0:=w0) (J:=J') (θ:=θ') (n:=n) hq fun x hx=>LV.ok_same hs (aC _) (k2 x hx) hJ
  rw[List.isEmpty_iff.1 he,List.append_nil] at e1
  subst e1
  rw[gA hs k2,k1] at e2
  obtain ⟨q1,q2⟩:=fa hJ hs hg0 hγ hr (by simpa using hl) k3 fun e he=>hc e (p.mem_iff.2 (by simp[he]))
  refine ⟨by rw[ai];exact p.trans (q1.append_left _),?_⟩
  show oO J' ((q.used++r'.2.1).map _) (Ch.own t.rep (iY t.isProd v) q.d::outCh γ ps vs r'.1)
  rw[aO]
  exact ry e2 q2
 | .ptr T t::ps,i,d,chs,v::vs,r,h,hl,hF,hc=>by
  obtain ⟨q,hq,h⟩:=bind_some (show (zW ⟨i,[]⟩ T t chs).bind _=some r from h)
  obtain ⟨r',hr,h⟩:=bind_some h
  obtain rfl:=ae h
  obtain ⟨⟨k1,k2⟩,k3⟩:=hF
  obtain ⟨p,hb⟩:=Cq (P:=P) (w0:=w0) (J:=J') (J':=J') (θ:=θ') hq Hp.le.rfl hc
  obtain ⟨q1,q2⟩:=fa hJ hs hg0 hγ hr (by simpa using hl) k3 fun e he=>hc e (p.mem_iff.2 (by simp[he]))
  refine ⟨by rw[ai];exact p.trans (q1.append_left _),?_⟩
  show oO J' ((q.2.1++r'.2.1).map _) (Ch.box (bk v) T t.rep q.1::outCh γ ps vs r'.1)
  rw[aO]
  have hh:hv θ' ⟨i,[]⟩=v:=(a8 hs (show (⟨i,[]⟩:Hdr).id<n from k2)).trans k1
  rw[hh] at hb
  intro w F hsp
  obtain ⟨G,K,rfl,h1,h2⟩:=hsp.split
  exact ⟨G,K,rfl,hb w G h1,q2 w K h2⟩
 | .rd t::ps,i,d,chs,v::vs,r,h,hl,hF,hc=>fa (ps:=ps) hJ hs hg0 hγ (show eL g0 (i+1) ps d.2 chs=some r from h) (by simpa using hl) hF.2 hc
 | .fn _ _::ps,i,d,chs,v::vs,r,h,hl,hF,hc=>fa (ps:=ps) hJ hs hg0 hγ (show eL g0 (i+1) ps d.2 chs=some r from h) (by simpa using hl) hF.2 hc
 | .eat _::ps,i,d,chs,v::vs,r,h,hl,hF,hc=>fa (ps:=ps) hJ hs hg0 hγ (show eL g0 (i+1) ps d.2 chs=some r from h) (by simpa using hl) hF.2 hc
 | .cap _ _::ps,i,d,chs,v::vs,r,h,hl,hF,hc=>fa (ps:=ps) hJ hs hg0 hγ (show eL g0 (i+1) ps d.2 chs=some r from h) (by simpa using hl) hF.2 hc
 | .capf _ _ _::ps,i,d,chs,v::vs,r,h,hl,hF,hc=>fa (ps:=ps) hJ hs hg0 hγ (show eL g0 (i+1) ps d.2 chs=some r from h) (by simpa using hl) hF.2 hc
 | .fk _::ps,i,d,chs,v::vs,r,h,hl,hF,hc=>fa (ps:=ps) hJ hs hg0 hγ (show eL g0 (i+1) ps d.2 chs=some r from h) (by simpa using hl) hF.2 hc
 | .crs T E::ps,i,d,chs,v::vs,r,h,hl,hF,hc=>by
  obtain ⟨q,hq,h⟩:=bind_some (show (ui ⟨i,[]⟩ T E chs).bind _=some r from h)
  obtain ⟨hb,h⟩:=al h
  obtain ⟨r',hr,h⟩:=bind_some h
  obtain rfl:=ae h
  obtain ⟨⟨k1,k2⟩,k3⟩:=hF
  obtain ⟨p,ver,he⟩:=nf hq
  obtain ⟨q1,q2⟩:=fa hJ hs hg0 hγ hr (by simpa using hl) k3 fun e he=>hc e (p.mem_iff.2 (by simp[he]))
  refine ⟨p.trans (q1.cons _),?_⟩
  have hh:hv θ' ⟨i,[]⟩=v:=(a8 hs (show (⟨i,[]⟩:Hdr).id<n from k2)).trans k1
  have hg:hv θ' q.g=γ:=by
   rw[Hdr.beq_eq hb]
   show vg (θ' g0) [] =γ
   rw[hs g0 hg0,hγ];rfl
  show oO J' (toCh P θ' q.ent::r'.2.1.map _) (Ch.blk (bk v) [γ,.int .i64 q.d.2.1,.int .i64 q.d.2.2] T::outCh γ ps vs r'.1)
  rw[he]
  intro w F hsp
  obtain ⟨G,K,rfl,h1,h2⟩:=hsp
  have h1:(Ch.blk (bk (hv θ' ⟨i,[]⟩)) [hv θ' q.g,.int .i64 q.d.2.1,.int .i64 q.d.2.2] T).holds J' w G:=h1
  rw[hh,hg] at h1
  exact ⟨G,K,rfl,h1,q2 w K h2⟩
def ofH:(ts:List Ty)->iX ts->dens ts
 | [],_=>()
 | [_],d=>d.1
 | _::u::ts,d=>(d.1,ofH (u::ts) d.2)
theorem Ib: ∀(ts:List Ty) (d:iX ts),toH ts (ofH ts d)=d
 | [],_=>rfl
 | [_],_=>rfl
 | _::u::ts,d=>congrArg (Prod.mk d.1) (Ib (u::ts) d.2)
def qJ:(ts us:List Ty)->iX ts->iX us->iX (ts++us)
 | [],_,_,e=>e
 | _::ts,us,d,e=>(d.1,qJ ts us d.2 e)
theorem DV: ∀(ts us:List Ty) (d:iX ts) (e:iX us),hFst ts us (qJ ts us d e)=d
 | [],_,_,_=>rfl
 | _::ts,us,d,e=>congrArg (Prod.mk d.1) (DV ts us d.2 e)
theorem JZ: ∀(ts us:List Ty) (d:iX ts) (e:iX us),hSnd ts us (qJ ts us d e)=e
 | [],_,_,_=>rfl
 | _::ts,us,d,e=>JZ ts us d.2 e
def CF (tt:TT) (s:Sg):List ResultVar->Option (List AV)
 | [] =>some []
 | r::rs=>(VH tt s r).bind fun v=>(CF tt s rs).bind fun vs=>some (v::vs)
def Ic (s:Sg):List AV->List Hdr
 | [] =>[]
 | v::vs=>Ah v++Ic s vs
def zo:List Ent->List Hdr
 | [] =>[]
 | e::l=>match e.2.2 with
  | .hole _ _ _ _ _ _ _ _ _ _=>e.1::zo l
  | _=>zo l
def Xy:List AV->List (Bool×Hdr)
 | [] =>[]
 | v::vs=>ZL true v++Xy vs
def Gn (tr:Trs) (vs:List AV) (s:Sg):Sg:=match tr with
 | [] =>s
 | _=>QN tr (Xy vs) s
def RE (tr:Trs) (vs:List AV) (s0:Sg):Sg:=match Gn tr vs s0 with
 | s=>vA (Ic s0 vs++zo s.chs) s
def nlN:List AV->(ts:List Ty)->iX ts->Int
 | [.one (.own _)],[.sl _ t],d=>((List.length (α:=t.den) d.1:Nat):Int)
 | [.one (.val v)],[.sl _ _],_=>match isNil v with
  | true=>1
  | false=>0
 | _,_,_=>0
def Xz (an:List (Nat×Ty)) (vs:List AV) (ts:List Ty) (d:iX ts):Option Unit:=match Ag 1000000 an with
 | true=>chk (0<nlN vs ts d)
 | false=>some ()
theorem XA {vs:List AV} {ts:List Ty} {d:iX ts} {θ:Th} (h:0<nlN vs ts d) {v:Value} (hv:vs.map (·.v θ)= [v]):vm ts d v:=by
 unfold nlN at h
 split at h
 ·intro h0
  omega
 ·split at h
  ·rename_i h1
   intro _
   have:=mI h1
   subst this
   simpa [AV.v,LV.v] using hv.symm
  ·omega
 ·omega
def Ie (V:Env) (rvs:List ResultVar) (rs:List Ty) (ps:List PM) (d:denP ps) (s00:Sg):Option (dens (rs++outs ps)):=(CF V.tt s00 rvs).bind fun vs00=>QW vs00 s00 fun s0=>(CF V.tt s0 rvs).bind fun vs0=>match RE V.tr vs0 s0 with
 | s=>(CF V.tt s rvs).bind fun vs=>(Ia rs vs s.chs).bind fun r=>(eL ps.length 0 ps d r.2.2).bind fun o=>(Xz V.an vs rs r.1).bind fun _=>some (ofH _ (qJ rs (outs ps) r.1 o.1))
end R
namespace R
open Go.RowKit
open D
theorem CG {vs:List Value} : ∀ {ts:List Ty} {i:Nat} {us:List Value} {d:iX ts},us.length=ts.length->(∀j v,us[j]? =some v->vs[i+j]? =some v)->vh i ts d (.tuple vs.toArray)=wW ts us d
 | [],i,us,d,h,_=>by
  cases us with
  | nil=>rfl
  | cons _ _=>cases h
 | t::ts,i,[],d,h,_=>by cases h
 | t::ts,i,u::us,d,h,k=>by
  have h0:vg (.tuple vs.toArray) [i] =u:=by
   show vs.toArray.getD i undef=u
   have:=k 0 u rfl
   rw[Nat.add_zero] at this
   simp[Array.getD_eq_getD_getElem?,this]
  show Ch.own t.rep (iY t.isProd (vg (.tuple vs.toArray) [i])) d.1::vh (i+1) ts d.2 _=Ch.own t.rep (iY t.isProd u) d.1::wW ts us d.2
  rw[h0,CG (us:=us) (by simpa using h) fun j v hj=>by
   have:=k (j+1) v (by simpa using hj)
   rwa [show i+(j+1)=i+1+j from by omega] at this]
theorem Ln {ts:List Ty} {vs:List Value} {d:iX ts} (h:vs.length=ts.length):resGv ts d (Yt vs)=wW ts vs d:=by
 match ts,vs,d,h with
 | [],[],d,_=>rfl
 | [t],[v],d,_=>rfl
 | t::u::ts,v::w::vs,d,h =>
  show vh 0 _ d (.tuple (v::w::vs).toArray)=_
  exact CG h fun j x hj=>by rw[Nat.zero_add];exact hj
theorem RF {ts:List Ty} {vs:List Value} (h:vs.length=ts.length) (k: ∀(i:Nat) t v,ts[i]? =some t->vs[i]? =some v->pa v=t.isProd):resFa ts (Yt vs):=by
 match ts,vs,h with
 | [],[],_=>exact ⟨#[],rfl,rfl,fun i t ht=>by simp at ht⟩
 | [t],[v],_=>exact k 0 t v rfl rfl
 | t::u::ts,v::w::vs,h =>
  refine ⟨(v::w::vs).toArray,rfl,by simpa using h,fun i t' ht=>?_⟩
  have hlt:i<(v::w::vs).length:=by rw[h];exact (List.getElem?_eq_some_iff.1 ht).1
  have:=k i t' ((v::w::vs)[i]) ht (List.getElem?_eq_getElem hlt)
  rw[<-this,Array.getD_eq_getD_getElem?,List.getElem?_toArray,List.getElem?_eq_getElem hlt];rfl
theorem At {P:Program} {I:Hp} {w0 w:World} {F:Ch} {J:Hp} {θ:Th} {n:Nat} {s:Sg} {a:Act} {tt:TT} (hT:TTok P tt) (hS:Sim P I w0 F n J θ s a w): ∀ {rs:List ResultVar} {vs:List AV},CF tt s rs=some vs->JY P a w rs (vs.map (·.v θ))/\ ∀v∈vs,v.ok P w0 J θ s.nxt s.chs
 | [],vs,h=>by
  obtain rfl:=ae (show some [] =some vs from h)
  exact ⟨rfl,fun v hv=>by cases hv⟩
 | r::rs,vs,h=>by
  obtain ⟨v,hv',h⟩:=bind_some (show (VH tt s r).bind _=some vs from h)
  obtain ⟨us,hus,h⟩:=bind_some h
  obtain rfl:=ae h
  obtain ⟨k1,k2⟩:=RD hT hS hv'
  obtain ⟨q1,q2⟩:=At hT hS hus
  refine ⟨⟨_,_,rfl,k1,q1⟩,fun x hx=>?_⟩
  rcases aA hx with rfl | hx
  ·exact k2
  ·exact q2 x hx
theorem Oj {J:Hp} {a b c d:List Ch} (h:oO J a b) (k:oO J c d):oO J (a++c) (b++d):=fun w F hs=>by
 obtain ⟨G,K,rfl,e1,e2⟩:=hs.split
 exact (h w G e1).append (k w K e2)
theorem St.sepTo {J:Hp} {w0 w:World} {a b C:List Ch} (h:St J w0 w (a++C)) (k:oO J a b):St J w0 w (b++C):=by
 obtain ⟨h1,h2,F,h3,h4,h5⟩:=h
 obtain ⟨G,K,rfl,e1,e2⟩:=h3.split
 exact ⟨h1,h2,G++K,(k w G e1).append e2,h4,h5⟩
theorem wX {P:Program} {n:Nat} {I:Hp} {w0:World} {k:FuncId} {fn:Func} {c:Code} {args:Array Value} {rn:List Ch} {fact:Value->Prop} {gv:Value->List Ch} (L:List (Nat×Value)) (hf:P.funcs[k]? =some fn) (hb:fn.body=some c) (hn:fn.ntmps=n) (hm:args.size<=n) (hL: ∀p∈L,args[p.1]? =some p.2)
  (h: ∀F w a,Agr n a L->St I w0 w (rn++ [F])->c.wp P (bodyPost P fn fun e w'=> ∃v,e= .returned v/\fact v/\ ∃J,I.le J/\St J w0 w' (gv v++ [F])) a w) (hd: ∀v,Ch.back (gv v)):Con P k args I w0 rn fact gv:=by
 intro w C hs
 have hs':St I w0 w (rn++ [Ch.fr I C]):=by
  obtain ⟨hb,hi,F,h1,h2,h3⟩:=hs
  obtain ⟨G,K,rfl,e1,e2⟩:=h1.split
  exact ⟨hb,hi,G++K,e1.append ⟨K,[],by simp,e2,rfl⟩,h2,h3⟩
 have:=h (Ch.fr I C) w { tmps:=args++Array.replicate (fn.ntmps - args.size) undef,defers:=[] } (Agr.start L (by omega) hL) hs'
 refine (calls_of_wp hf hb this).mono ?_
 rintro e w' ⟨v,rfl,hv,J,hJ,hs⟩
 exact ⟨v,rfl,hv,hs.back hJ (hd v)⟩
theorem RG {P:Program} {I:Hp} {w0 w:World} {F:Ch} {n:Nat} {J:Hp} {θ:Th} {s:Sg} {a:Act} {tr:Trs} {vs:List AV} (hS:Sim P I w0 F n J θ s a w): ∃J' θ',J.le J'/\Sim P I w0 F n J' θ' (RE tr vs s) a w/\Fr s θ (RE tr vs s) θ':=by
 have key: ∃J' θ',J.le J'/\Sim P I w0 F n J' θ' (Gn tr vs s) a w/\Fr s θ (Gn tr vs s) θ':=by
  unfold Gn
  split
  ·exact ⟨J,θ,Hp.le.rfl,hS,Fr.rfl⟩
  ·exact uk hS
 obtain ⟨J',θ',h1,h2,h3⟩:=key
 obtain ⟨S2,F2⟩:=sM (V:=⟨[],[],[],n,[]⟩) (hs:=Ic s vs++zo (Gn tr vs s).chs) h2
 exact ⟨J',θ',h1,S2,h3.trans F2⟩
theorem Ok {V:Env} {P:Program} {w0:World} {F:Ch} {J:Hp} {θ:Th} (hT:TTok P V.tt) {fn:Func} {rs:List Ty} {ps:List PM} {d:denP ps} {vs:List Value} {s0:Sg} (k0:vs.length=ps.length) (k5:StF P w0 J θ (ps.length+1) 0 ps vs d) (hn0:ps.length+1<=s0.nxt) {γ:Value} (hγ:θ ps.length=γ): ∀r J' θ' s' a' w',Ie V fn.results.toList rs ps d s'=some r->Sim P J w0 F V.n J' θ' s' a' w'->J.le J'->Fr s0 θ s' θ'->
  bodyPost P fn (fun e w'=> ∃v,e= .returned v/\(resFa rs v/\(Ag 1000000 V.an=true->vm rs (hFst rs (outs ps) (toH _ r)) v))/\ ∃J2,J.le J2/\St J2 w0 w' ((resGv rs (hFst rs (outs ps) (toH _ r)) v++outCh γ ps vs (hSnd rs (outs ps) (toH _ r)))++ [F])) .ret a' w':=by
 intro r J' θ' s' a' w' hrt hS' hJ hFr
 obtain ⟨vs00,hv00,hrt⟩:=bind_some (show (CF V.tt s' fn.results.toList).bind _=some r from hrt)
 obtain ⟨s0',hrt,S0,N0⟩:=JF hrt (At hT hS' hv00).2 hS'
 obtain ⟨vs0,hv0,hrt⟩:=bind_some hrt
 obtain ⟨J1,θ1,hJ1,S1,F1⟩:=RG (tr:=V.tr) (vs:=vs0) S0
 generalize RE V.tr vs0 s0'=s1 at hrt S1 F1
 have hle:s0.nxt<=s'.nxt:=hFr.1
 have hsame:Same (ps.length+1) θ θ1:=fun i hi=>(F1.same i (by omega)).trans (hFr.same i (by omega))
 replace hJ:=hJ.trans hJ1
 clear hJ1 F1 hS' S0 hFr
 revert J1 θ1
 clear J' θ'
 intro J' θ' S1 hsame hJ
 obtain ⟨us,hus,hrt⟩:=bind_some hrt
 obtain ⟨q,hq,hrt⟩:=bind_some hrt
 obtain ⟨o,ho,hrt⟩:=bind_some hrt
 obtain ⟨u0,hnl,hrt⟩:=bind_some hrt
 obtain rfl:=ae hrt
 obtain ⟨r1,r2⟩:=At hT S1 hus
 obtain ⟨t1,t2,t3,t4⟩:=CE (J:=J') (θ:=θ') hq r2
 obtain ⟨o1,o2⟩:=fa (P:=P) (J:=J) (J':=J') (θ:=θ) (θ':=θ') (vs:=vs) (n:=ps.length+1) (n':=s1.nxt) (chs0:=s1.chs) hJ hsame (ay _) hγ ho k0 k5 fun e he=>S1.fine.chs e (t1.mem_iff.2 (by simp[he]))
 have hl:(us.map (·.v θ')).length=rs.length:=by rw[List.length_map];exact t2
 refine Y1 S1.agr r1 ⟨_,rfl,⟨RF hl fun i t v ht hv1=>?_,fun han=>?_⟩,J',hJ,?_⟩
 ·rw[List.getElem?_map] at hv1
  obtain ⟨x,hx,rfl⟩:=Option.map_eq_some_iff.1 hv1
  exact t4 i t x ht hx
 ·rw[Ib,DV]
  unfold Xz at hnl
  rw[han] at hnl
  have hnl:0<nlN us rs q.1:=bD hnl
  rcases us with _ | ⟨x,us⟩
  ·cases hnl
  ·cases us with
   | nil=>exact XA (θ:=θ') hnl rfl
   | cons y us=>unfold nlN at hnl;split at hnl <;> first | omega | simp_all
 ·rw[Ib,DV,JZ,Ln hl]
  have hp:=t1.trans (o1.append_left _)
  have h1:=S1.st.perm ((hp.map (toCh P θ')).append_right [F])
  have h2:St J' w0 w' ((q.2.1.map (toCh P θ')++o.2.1.map (toCh P θ'))++(o.2.2.map (toCh P θ')++ [F])):=by
   simpa [aO,ai] using h1
  have h3:=St.sepTo h2 (Oj t3 o2)
  refine St.left (ds:=o.2.2.map (toCh P θ')) (h3.perm ?_)
  simp only[ai]
  exact List.Perm.append_left _ (List.Perm.append_left _ List.perm_append_comm)
theorem VL {V:Env} {P:Program} (hT:TTok P V.tt) (hF:FTok P V.ft) (hmx:P.follows .mixedOrders=true) {k:FuncId} {fn:Func} {c:Code} {f:FS} (hf:P.funcs[k]? =some fn) (hb:fn.body=some c) (hn:fn.ntmps=V.n) (hen:Enters P k) (hm:f.ps.length<=V.n) (hdp:(DB f.rs&&zX f.ps)=true) (ann:Ann)
  (hmod: ∀d,appP f.ps f.m d=ja V (Ie V fn.results.toList f.rs f.ps d) c ann (fun r=>some r) (fun _ _=>none) (Ie V fn.results.toList f.rs f.ps d) (ri (As f.ps d))): ∀w0 J γ vs (d:denP f.ps) r,Lay P J->PArgs P w0 J γ f.ps vs d->appP f.ps f.m d=some r->Con P k vs.toArray J w0 (owCh γ f.ps vs d) (fun v=>resFa f.rs v/\(Ag 1000000 V.an=true->vm f.rs (hFst f.rs (outs f.ps) (toH _ r)) v)) (fun v=>resGv f.rs (hFst f.rs (outs f.ps) (toH _ r)) v++outCh γ f.ps vs (hSnd f.rs (outs f.ps) (toH _ r))):=by
 rw[aj] at hdp
 intro w0 J γ vs d r hlay ha hr
 rw[hmod] at hr
 have k0:=Gl ha
 let θ:Th:=fun i=>if i=vs.length then γ else vs.getD i undef
 have hθ: ∀j v,vs[j]? =some v->θ (0+j)=v:=fun j v hj=>by
  show (if 0+j=vs.length then γ else vs.getD (0+j) undef)=v
  rw[Nat.zero_add,if_neg (Nat.ne_of_lt (List.getElem?_eq_some_iff.1 hj).1),List.getD_eq_getElem?_getD,hj];rfl
 have hθg:θ f.ps.length=γ:=by
  show (if f.ps.length=vs.length then γ else _)=γ
  rw[if_pos k0.symm]
 have hzip: ∀p∈(vs.zipIdx.map fun q=>(q.2,q.1)),vs.toArray[p.1]? =some p.2:=fun p hp=>by
  obtain ⟨q,hq,rfl⟩:=List.mem_map.1 hp
  obtain ⟨v,j⟩:=q
  have:=(List.mk_mem_zipIdx_iff_getElem? (x:=v) (i:=j)).1 hq
  simpa using this
 refine wX (n:=V.n) (vs.zipIdx.map fun q=>(q.2,q.1)) hf hb hn (by rw[List.size_toArray,k0];exact hm) hzip (fun F w a hA hst=>?_) (fun v=>sK (eF _ _ _ hdp.2) _ _ hdp.1)
 ·obtain ⟨k1,k2,k3,k4,k5⟩:=JX (n:=f.ps.length+1) (q:=f.ps.length) (C:=[F]) (ay _) hθg ha hθ (by omega) hst
  have hfine:Fine P w0 J θ (As f.ps d):=⟨fun e he=>(k1 e he).1 _,fun e he=>by have:=k1 e he;show e.2.1<f.ps.length+1;omega,k2,fun e he=>k4 e he _,hlay⟩
  have hA':Agr V.n a (envL θ (As f.ps d)):=hA.pick _ fun p hp=>by
   obtain ⟨e,he,rfl⟩:=List.mem_map.1 hp
   have h5:=(k1 e he).2.2.2.2
   rw[Nat.sub_zero] at h5
   have key: ∀(l:List Value) (k:Nat) (i:Nat) (v:Value),k<=i->l[i - k]? =some v->((l.zipIdx k).map fun q=>(q.2,q.1)).lookup i=some v:=by
    intro l
    induction l with
    | nil=>intro k i v _ h;simp at h
    | cons x l ih =>
     intro k i v hk h
     simp only[List.zipIdx_cons,List.map_cons,List.lookup_cons]
     by_cases e:i=k
     ·subst e
      simp at h
      simp[h]
     ·have:(i==k)=false:=by simpa using e
      rw[this]
      refine ih (k+1) i v (by omega) ?_
      rw[show i - k=(i - (k+1))+1 from by omega] at h
      simpa using h
   exact key vs 0 e.1 _ (Nat.zero_le _) h5
  have hS:Sim P J w0 F V.n J θ (As f.ps d) a w:=⟨Hp.le.rfl,hA',k3,hfine⟩
  have fin:=Ok (rs:=f.rs) (fn:=fn) (F:=F) hT k0 k5 (aC (As f.ps d).nxt) hθg
  obtain ⟨θ0,hS0,hFr0⟩:=zg hS
  exact (uo (I:=J) (w0:=w0) (F:=F) hT hF hmx c).1 ann hr hS0 (fun J' θ' s' a' w' hk S' hJ hFr=>fin r J' θ' s' a' w' hk S' hJ (hFr0.trans hFr)) (fun i J' θ' s' a' w' hk=>by cases hk) (fun r' J' θ' s' a' w' hrt hrr hS' hJ hFr=>by
   obtain rfl:=ae hrr
   exact fin _ J' θ' s' a' w' hrt hS' hJ (hFr0.trans hFr))
theorem fok {V:Env} {P:Program} (hT:TTok P V.tt) (hF:FTok P V.ft) (hmx:P.follows .mixedOrders=true) {k:FuncId} {fn:Func} {c:Code} {f:FS} (hf:P.funcs[k]? =some fn) (hb:fn.body=some c) (hn:fn.ntmps=V.n) (hen:Enters P k) (hcl:f.cl=none) (hm:f.ps.length<=V.n) (hdp:(DB f.rs&&zX f.ps)=true) (ann:Ann)
  (hmod: ∀d,appP f.ps f.m d=ja V (Ie V fn.results.toList f.rs f.ps d) c ann (fun r=>some r) (fun _ _=>none) (Ie V fn.results.toList f.rs f.ps d) (ri (As f.ps d))):FOk P k f:=
 ⟨fun q hq=>by (rw[hcl] at hq;cases hq),fun _=>hen,fun _ w0 J γ vs d r hlay ha hr w C hs=>(VL hT hF hmx hf hb hn hen hm hdp ann hmod w0 J γ vs d r hlay ha hr w C hs).mono fun e w' ⟨v,h1,h2,h3⟩=>⟨v,h1,h2.1,h3⟩⟩
theorem J4 {V:Env} {P:Program} (hT:TTok P V.tt) (hF:FTok P V.ft) (hmx:P.follows .mixedOrders=true) {k:FuncId} {fn:Func} {c:Code} {E b:Nat} (hf:P.funcs[k]? =some fn) (hb:fn.body=some c) (hn:fn.ntmps=V.n) (hen:Enters P k) (hm:1<=V.n) (ann:Ann)
  (hmod: ∀(E':TypeId) (bn:Bool) (xs:List Raw),(match bn with | true=>some ([] :List Raw) | false=>(b9 b [] xs).bind fun zs=>some zs)=ja V (Ie V fn.results.toList [.sl E .raw] [] ()) c ann (fun r=>some r) (fun _ _=>none) (Ie V fn.results.toList [.sl E .raw] [] ()) ⟨[(0,0,.one (.rdn ⟨0,[]⟩ bn (.sl E' .raw) xs))],[],1⟩):wM P k E b:=by
 refine ⟨hen,fun E' J w0 v xs zs hlay hrd qJ=>?_⟩
 obtain ⟨bn,hbn⟩: ∃bn,zG v=bn:=⟨_,rfl⟩
 have hr:ja V (Ie V fn.results.toList [.sl E .raw] [] ()) c ann (fun r=>some r) (fun _ _=>none) (Ie V fn.results.toList [.sl E .raw] [] ()) ⟨[(0,0,.one (.rdn ⟨0,[]⟩ bn (.sl E' .raw) xs))],[],1⟩=some zs:=by
  rw[<-hmod E' bn xs]
  cases bn with
  | false =>
   show (b9 b [] xs).bind _=_
   rw[qJ];rfl
  | true =>
   obtain ⟨h1,-⟩:=vu qJ
   obtain ⟨ao,cap,e,-,hx⟩:=hrd
   obtain rfl:v= .slice ao xs.length cap:=by simpa using e
   rcases hx with rfl | ⟨b,off,ccs,t,fr,rfl,-⟩
   ·rw[h1];rfl
   ·cases hbn
 let θ:Th:=fun _=>v
 have key:Con P k #[v] J w0 [] (fun v=>resFa [.sl E .raw] v/\(Ag 1000000 V.an=true->vm [.sl E .raw] (zs,()) v)) (fun v=>resGv [.sl E .raw] (zs,()) v++ []):=by
  refine wX (n:=V.n) [(0,v)] hf hb hn hm (fun p hp=>by obtain rfl:=aw hp;rfl) (fun F w a hA hst=>?_) (fun u=>sK (D:=[]) trivial [.sl E .raw] (zs,()) rfl)
  have hfine:Fine P w0 J θ ⟨[(0,0,.one (.rdn ⟨0,[]⟩ bn (.sl E' .raw) xs))],[],1⟩:=⟨fun e he=>by obtain rfl:=aw he;exact ⟨Nat.one_pos,hrd,hbn⟩,fun e he=>by obtain rfl:=aw he;exact Nat.one_pos,List.pairwise_singleton _ _,fun e he=>(by cases he),hlay⟩
  have hS:Sim P J w0 F V.n J θ ⟨[(0,0,.one (.rdn ⟨0,[]⟩ bn (.sl E' .raw) xs))],[],1⟩ a w:=⟨Hp.le.rfl,hA,hst,hfine⟩
  have fin:=Ok (V:=V) (θ:=θ) (J:=J) (w0:=w0) (rs:=[.sl E .raw]) (ps:=[]) (d:=()) (vs:=[]) (s0:=⟨[(0,0,.one (.rdn ⟨0,[]⟩ bn (.sl E' .raw) xs))],[],1⟩) (fn:=fn) (F:=F) hT rfl trivial (aC _) (γ:=θ 0) rfl
  exact (uo (I:=J) (w0:=w0) (F:=F) hT hF hmx c).1 ann hr hS (fun J' θ' s' a' w' hk S' hJ hFr=>fin _ J' θ' s' a' w' hk S' hJ hFr) (fun i J' θ' s' a' w' hk=>by cases hk) (fun r' J' θ' s' a' w' hrt hrr hS' hJ hFr=>by
   obtain rfl:=ae hrr
   exact fin _ J' θ' s' a' w' hrt hS' hJ hFr)
 exact fun w C hs=>(key w C hs).mono fun e w' ⟨v,h1,h2,h3⟩=>⟨v,h1,trivial,h3⟩
theorem Ol {V:Env} {P:Program} (hT:TTok P V.tt) (hF:FTok P V.ft) (hmx:P.follows .mixedOrders=true) {k:FuncId} {fn:Func} {c:Code} {E E' b:Nat} {t:Ty} (hf:P.funcs[k]? =some fn) (hb:fn.body=some c) (hn:fn.ntmps=V.n) (hen:Enters P k) (hm:1<=V.n) (ann:Ann) (hbk:DB [.sl E t] =true)
  (hmod: ∀(bn:Bool) (xs:List t.den),((match bn with | true=>some ([] :List t.den) | false=>(b9 b [] xs).bind fun zs=>some zs):Option (List t.den))=ja V (Ie V fn.results.toList [.sl E t] [] ()) c ann (fun r=>some r) (fun _ _=>none) (Ie V fn.results.toList [.sl E t] [] ()) ⟨[(0,0,.one (.rdn ⟨0,[]⟩ bn (.sl E' t) xs))],[],1⟩):FOk P k ⟨[.rd (.sl E' t)],[.sl E t],fun xs=>b9 b [] xs,none⟩:=by
 refine ⟨fun q hq=>(by cases hq),fun _=>hen,fun _ w0 J γ vs d r hlay ha qJ=>?_⟩
 obtain ⟨v,vs',rfl,hd,hnil⟩:=ha
 obtain rfl:vs'= []:=hnil
 obtain ⟨xs,u⟩:=d
 obtain ⟨cs,hcs,hrd⟩:=hd
 obtain rfl:cs= [v]:=hcs
 let zs:List t.den:=r
 have qJ:b9 b [] xs=some zs:=qJ
 have hrd:(ah E' t.rep).rd J [v] xs:=hrd
 obtain ⟨bn,hbn⟩: ∃bn,zG v=bn:=⟨_,rfl⟩
 have hr:ja V (Ie V fn.results.toList [.sl E t] [] ()) c ann (fun r=>some r) (fun _ _=>none) (Ie V fn.results.toList [.sl E t] [] ()) ⟨[(0,0,.one (.rdn ⟨0,[]⟩ bn (.sl E' t) xs))],[],1⟩=some zs:=by
  rw[<-hmod bn xs]
  cases bn with
  | false =>
   show (b9 b [] xs).bind _=_
   rw[qJ];rfl
  | true =>
   obtain ⟨h1,-⟩:=vu qJ
   obtain ⟨ao,cap,e,-,hx⟩:=hrd
   obtain rfl:v= .slice ao xs.length cap:=by simpa using e
   rcases hx with rfl | ⟨b,off,ccs,t,fr,rfl,-⟩
   ·rw[h1]
   ·cases hbn
 let θ:Th:=fun _=>v
 have key:Con P k #[v] J w0 [] (fun v=>resFa [.sl E t] v/\(Ag 1000000 V.an=true->vm [.sl E t] (zs,()) v)) (fun v=>resGv [.sl E t] (zs,()) v++ []):=by
  refine wX (n:=V.n) [(0,v)] hf hb hn hm (fun p hp=>by obtain rfl:=aw hp;rfl) (fun F w a hA hst=>?_) (fun u=>sK (D:=[]) trivial [.sl E t] (zs,()) hbk)
  have hfine:Fine P w0 J θ ⟨[(0,0,.one (.rdn ⟨0,[]⟩ bn (.sl E' t) xs))],[],1⟩:=⟨fun e he=>by obtain rfl:=aw he;exact ⟨Nat.one_pos,hrd,hbn⟩,fun e he=>by obtain rfl:=aw he;exact Nat.one_pos,List.pairwise_singleton _ _,fun e he=>(by cases he),hlay⟩
  have hS:Sim P J w0 F V.n J θ ⟨[(0,0,.one (.rdn ⟨0,[]⟩ bn (.sl E' t) xs))],[],1⟩ a w:=⟨Hp.le.rfl,hA,hst,hfine⟩
  have fin:=Ok (V:=V) (θ:=θ) (J:=J) (w0:=w0) (rs:=[.sl E t]) (ps:=[]) (d:=()) (vs:=[]) (s0:=⟨[(0,0,.one (.rdn ⟨0,[]⟩ bn (.sl E' t) xs))],[],1⟩) (fn:=fn) (F:=F) hT rfl trivial (aC _) (γ:=θ 0) rfl
  exact (uo (I:=J) (w0:=w0) (F:=F) hT hF hmx c).1 ann hr hS (fun J' θ' s' a' w' hk S' hJ hFr=>fin _ J' θ' s' a' w' hk S' hJ hFr) (fun i J' θ' s' a' w' hk=>by cases hk) (fun r' J' θ' s' a' w' hrt hrr hS' hJ hFr=>by
   obtain rfl:=ae hrr
   exact fin _ J' θ' s' a' w' hrt hS' hJ hFr)
 exact fun w C hs=>(key w C hs).mono fun e w' ⟨v,h1,h2,h3⟩=>⟨v,h1,h2.1,h3⟩
def fT:Nat->Ty
 | 0=>.raw
 | n+1=>.prod .raw (fT n)
def iV:(n:Nat)->(fT n).den->List Value
 | 0,p=>[p.1]
 | n+1,p=>p.1.1::iV n p.2
theorem km: ∀n,(fT n).rep.size=n+1
 | 0=>rfl
 | n+1=>by
  show 1+(fT n).rep.size=_
  rw[km n];omega
theorem If {I:Hp} : ∀(n:Nat) {cs:List Value} {p:(fT n).den},(fT n).rep.rd I cs p↔cs=iV n p
 | 0,cs,p=>Iff.rfl
 | n+1,cs,p=>by
  constructor
  ·rintro ⟨c,d,rfl,h1,h2⟩
   obtain rfl:c= [p.1.1]:=h1
   rw[(If n).1 h2];rfl
  ·rintro rfl
   exact ⟨[p.1.1],iV n p.2,rfl,rfl,(If n).2 rfl⟩
theorem DW {I:Hp} {w:World} : ∀(n:Nat) {cs:List Value} {p:(fT n).den} {F:List Nat},(fT n).rep.own I w cs p F->F= [] /\cs=iV n p
 | 0,cs,p,F,h=>by
  obtain ⟨h1,h2⟩:=h
  exact ⟨h1,h2⟩
 | n+1,cs,p,F,⟨c,d,G,K,h1,h2,h3,h4⟩=>by
  obtain ⟨rfl,h5⟩:=h3
  obtain ⟨rfl,h6⟩:=DW n h4
  have h5:c= [p.1.1]:=h5
  subst h1;subst h2;subst h5
  exact ⟨rfl,by rw[h6];rfl⟩
theorem Ig: ∀(n:Nat) (cs:List Value),cs.length=n+1->(∀u∈cs,u.oneCell'=true)-> ∃p:(fT n).den,iV n p=cs
 | 0,cs,hl,h1=>by
  obtain ⟨u,rfl⟩:=List.length_eq_one_iff.1 hl
  exact ⟨⟨u,h1 u (by simp)⟩,rfl⟩
 | n+1,u::cs,hl,h1=>by
  obtain ⟨p,hp⟩:=Ig n cs (by simpa using hl) (fun v hv=>h1 v (by simp[hv]))
  exact ⟨(⟨u,h1 u (by simp)⟩,p),by show u::iV n p=_;rw[hp]⟩
theorem VM {n:Nat} {E:TypeId} {α:Type} {R:Rep α} (h1:R.size=n+1) {I:Hp} {v:Value} {xs:List α} (h:(ah E R).rd I [v] xs): ∃ps:List (fT n).den,All2 (fun p x=>R.rd I (iV n p) x) ps xs/\(ah E (fT n).rep).rd I [v] ps:=by
 obtain ⟨ao,cap,e,hl,h⟩:=h
 obtain rfl:v= .slice ao xs.length cap:=by simpa using e
 rcases h with rfl | ⟨b,off,ccs,t,fr,rfl,h2,h3⟩
 ·exact ⟨[],.nil,ao,cap,rfl,hl,.inl rfl⟩
 ·have key: ∀(xs:List α) (k0:Nat),(∀i x,xs[i]? =some x-> ∃c:List Value,c.length=R.size/\(∀j,j<R.size->ccs.toList[off+(k0+i)*R.size+j]? =c[j]?)/\R.rd I c x)-> ∃ps:List (fT n).den,All2 (fun p x=>R.rd I (iV n p) x) ps xs/\ ∀i p,ps[i]? =some p->(iV n p).length=R.size/\ ∀j,j<R.size->ccs.toList[off+(k0+i)*R.size+j]? =(iV n p)[j]? :=by
   intro xs
   induction xs with
   | nil=>intro k0 _;exact ⟨[],.nil,fun i p hp=>by simp at hp⟩
   | cons x xs ih =>
    intro k0 h
    obtain ⟨c,e1,e2,e3⟩:=h 0 x rfl
    obtain ⟨p,rfl⟩:=Ig n c (e1.trans h1) (R.rd_one e3)
    obtain ⟨ps,q1,q2⟩:=ih (k0+1) fun i y hy=>by
     have:=h (i+1) y (by simpa using hy)
     rwa [show k0+(i+1)=k0+1+i from by omega] at this
    refine ⟨p::ps,.cons e3 q1,fun i u hu=>?_⟩
    cases i with
    | zero =>
     obtain rfl:p=u:=by simpa using hu
     exact ⟨e1,e2⟩
    | succ i =>
     have:=q2 i u (by simpa using hu)
     rwa [show k0+1+i=k0+(i+1) from by omega] at this
  obtain ⟨ps,q1,q2⟩:=key xs 0 (fun i x hx=>by rw[Nat.zero_add];exact h3 i x hx)
  have hlen:=q1.length_eq
  refine ⟨ps,q1,_,cap,by rw[hlen],by rw[hlen];exact hl,.inr ⟨b,off,ccs,t,fr,rfl,h2,fun i p hp=>?_⟩⟩
  obtain ⟨k1,k2⟩:=q2 i p hp
  rw[Nat.zero_add] at k2
  refine ⟨iV n p,by rw[k1,h1,km],fun j hj=>?_,(If n).2 rfl⟩
  rw[km] at hj⊢
  rw[<-h1]
  exact k2 j (by rw[h1];exact hj)
theorem J5 {n:Nat} {α:Type} {R:Rep α} (h1:R.size=n+1) {I:Hp} {w:World} : ∀ {ps:List (fT n).den} {xs:List α} {cur:List Value} {F:List Nat},OwnEls (fT n).rep I w cur ps F->All2 (fun p x=>R.rd I (iV n p) x) ps xs->OwnEls (wD R) I w cur xs F
 | [],[],_,_,h,_=>h
 | p::ps,x::xs,cur,F,⟨c,rest,G,K,e1,e2,e3,e4,e5⟩,hh=>by
  cases hh with
  | cons hp hps =>
   obtain ⟨rfl,rfl⟩:=DW n e4
   exact ⟨iV n p,rest,[],K,e1,by rw[e2,km];exact h1.symm,e3,⟨rfl,hp⟩,J5 h1 e5 hps⟩
 | [],_::_,_,_,_,hh=>by cases hh
 | _::_,[],_,_,_,hh=>by cases hh
theorem RH {n:Nat} {α:Type} {E:TypeId} {R:Rep α} (h1:R.size=n+1) {I:Hp} {w0 w:World} {C:List Ch} {v:Value} {xs:List α} {ps:List (fT n).den} (hp:All2 (fun p x=>R.rd I (iV n p) x) ps xs) (h:St I w0 w (Ch.own (ah E (fT n).rep) [v] ps::C)):St I w0 w (Ch.own (ah E (wD R)) [v] xs::C):=by
 obtain ⟨a1,a2,F,⟨G,K,rfl,⟨hl,k⟩,e⟩,a4,a5⟩:=h
 have hlen:=hp.length_eq
 rcases k with ⟨hv',rfl,rfl⟩ | ⟨g,ofs,cap,cur,K1,hv',k1,k2,k3,k4,rfl,k5⟩
 ·cases hp
  exact ⟨a1,a2,[] ++K,⟨[],K,rfl,⟨Nat.zero_le _,.inl ⟨hv',rfl,rfl⟩⟩,e⟩,a4,a5⟩
 ·exact ⟨a1,a2,(g::K1)++K,⟨g::K1,K,rfl,⟨by rw[<-hlen];exact hl,.inr ⟨g,ofs,cap,cur,K1,by rw[<-hlen];exact hv',k1,by rw[<-hlen];exact k2,k3,by rw[km] at k4;show ofs+cap*R.size<=_;rw[h1];exact k4,rfl,J5 h1 k5 hp⟩⟩,e⟩,a4,a5⟩
theorem RI {P:Program} {k:FuncId} {E E' b n:Nat} {t:Ty} (hs:t.size=n+1) (h:FOk P k ⟨[.rd (.sl E' (fT n))],[.sl E (fT n)],fun xs=>b9 b [] xs,none⟩):FOk P k ⟨[.rd (.sl E' t)],[.sl E (.fro t)],fun xs=>b9 b [] xs,none⟩:=by
 refine ⟨fun q hq=>(by cases hq),fun _=>h.en rfl,fun _ w0 J γ vs d r hlay ha qJ=>?_⟩
 obtain ⟨v,vs',rfl,hd,hnil⟩:=ha
 obtain rfl:vs'= []:=hnil
 obtain ⟨xs,u⟩:=d
 obtain ⟨cs,hcs,hrd⟩:=hd
 obtain rfl:cs= [v]:=hcs
 let zs:List t.den:=r
 have qJ:b9 b [] xs=some zs:=qJ
 have hrd:(ah E' t.rep).rd J [v] xs:=hrd
 have hsz:t.rep.size=n+1:=(Ty.rep_size t).trans hs
 obtain ⟨ps,hp,hps⟩:=VM hsz hrd
 obtain ⟨h1,h2⟩:=vu qJ
 have hz:b9 b [] ps=some ps:=h2 ps hp.length_eq
 have key:=h.con rfl w0 J undef [v] (ps,()) (show dens ([Ty.sl E (fT n)] ++ []) from ps) hlay ⟨v,[],rfl,⟨[v],rfl,hps⟩,rfl⟩ hz
 exact fun w C hs=>(key w C hs).mono fun e w' ⟨v,a1,a2,a3⟩=>⟨v,a1,a2,by
  have a3:St J w0 w' (Ch.own (ah E (fT n).rep) [v] ps::C):=a3
  have a4:=RH hsz hp a3
  show St J w0 w' (Ch.own (ah E (wD t.rep)) [v] zs::C)
  rw[h1];exact a4⟩
theorem ko {P:Program} {k:FuncId} {f:FS} (h:Enters P k) (hc:f.cl=none) (hm: ∀d,appP f.ps f.m d=none):FOk P k f:=
 ⟨fun q hq=>by (rw[hc] at hq;cases hq),fun _=>h,fun _ _ _ _ _ d r _ _ hr=>by rw[hm d] at hr;cases hr⟩
theorem Gp {P:Program} {k:FuncId} {f:FS} {E b:Nat} (h:FOk P k ⟨f.ps,f.rs,f.m,none⟩) (hc:wM P k E b) (hb:Nat.beq b 0=false:=by rfl) (h7:Nat.beq b 7=false:=by rfl) (h8:Nat.ble 1000 b=false:=by rfl) (h9:Nat.beq b 9=false:=by rfl):FOk P k ⟨f.ps,f.rs,f.m,some (E,b)⟩:=
 ⟨fun q hq=>by obtain rfl:=ae hq;exact ⟨⟨fun e=>(by rw[hb] at e;cases e),fun _ _ _ _=>hc,fun e=>(by rw[h8] at e;cases e)⟩,fun e=>(by rw[h7] at e;cases e),fun e=>(by rw[h9] at e;cases e)⟩,fun _=>h.en rfl,fun _=>h.con rfl⟩
end R
namespace R
open Go.RowKit
open D
theorem J6 {n:Nat} {α:Type} {R:Rep α} (hR:R.Sh) (h1:R.size=n+1) {I:Hp} {w:World} : ∀ {xs:List α} {cur:List Value} {K:List Nat},OwnEls R I w cur xs K-> ∃ps:List (fT n).den,K= [] /\OwnEls (fT n).rep I w cur ps [] /\All2 (fun p x=>R.rd I (iV n p) x) ps xs
 | [],cur,K,h=>⟨[],h,rfl,.nil⟩
 | x::xs,cur,K,⟨c,rest,G,K1,e1,e2,e3,e4,e5⟩=>by
  obtain ⟨rfl,hrd⟩:=hR e4
  obtain ⟨p,rfl⟩:=Ig n c (e2.trans h1) (R.rd_one hrd)
  obtain ⟨ps,rfl,k2,k3⟩:=J6 hR h1 e5
  have hraw: ∀(m:Nat) (q:(fT m).den),(fT m).rep.own I w (iV m q) q []:=by
   intro m
   induction m with
   | zero=>intro q;exact ⟨rfl,rfl⟩
   | succ m ih=>intro q;exact ⟨[q.1.1],iV m q.2,[],[],rfl,rfl,⟨rfl,rfl⟩,ih q.2⟩
  exact ⟨p::ps,e3,⟨iV n p,rest,[],[],e1,by rw[e2,h1,km],rfl,hraw n p,k2⟩,.cons hrd k3⟩
theorem J7 {n:Nat} {α:Type} {E:TypeId} {R:Rep α} (hR:R.Sh) (h1:R.size=n+1) {I:Hp} {w0 w:World} {C:List Ch} {v:Value} {xs:List α} (h:St I w0 w (Ch.own (ah E R) [v] xs::C)): ∃ps:List (fT n).den,All2 (fun p x=>R.rd I (iV n p) x) ps xs/\St I w0 w (Ch.own (ah E (fT n).rep) [v] ps::C):=by
 obtain ⟨a1,a2,F,⟨G,K,rfl,⟨hl,k⟩,e⟩,a4,a5⟩:=h
 rcases k with ⟨hv',rfl,rfl⟩ | ⟨g,ofs,cap,cur,K1,hv',k1,k2,k3,k4,rfl,k5⟩
 ·exact ⟨[],.nil,a1,a2,[] ++K,⟨[],K,rfl,⟨Nat.zero_le _,.inl ⟨hv',rfl,rfl⟩⟩,e⟩,a4,a5⟩
 ·obtain ⟨ps,rfl,q1,q2⟩:=J6 hR h1 k5
  have hlen:=q2.length_eq
  exact ⟨ps,q2,a1,a2,[g] ++K,⟨[g],K,rfl,⟨by rw[hlen];exact hl,.inr ⟨g,ofs,cap,cur,[],by rw[hlen];exact hv',k1,by rw[hlen];exact k2,k3,by rw[h1] at k4;rw[km];exact k4,rfl,q1⟩⟩,e⟩,a4,a5⟩
theorem Gq {n:Nat} {α:Type} {R:Rep α} (hC:Cpy R R) (h1:R.size=n+1) {I:Hp} {w:World} : ∀ {ps:List (fT n).den} {xs:List α} {cur:List Value} {F:List Nat},OwnEls (fT n).rep I w cur ps F->All2 (fun p x=>R.rd I (iV n p) x) ps xs->OwnEls R I w cur xs F
 | [],[],_,_,h,_=>h
 | p::ps,x::xs,cur,F,⟨c,rest,G,K,e1,e2,e3,e4,e5⟩,hh=>by
  cases hh with
  | cons hp hps =>
   obtain ⟨rfl,rfl⟩:=DW n e4
   exact ⟨iV n p,rest,[],K,e1,by rw[e2,km];exact h1.symm,e3,hC hp,Gq hC h1 e5 hps⟩
 | [],_::_,_,_,_,hh=>by cases hh
 | _::_,[],_,_,_,hh=>by cases hh
theorem Gr {n:Nat} {α:Type} {E:TypeId} {R:Rep α} (hC:Cpy R R) (h1:R.size=n+1) {I:Hp} {w0 w:World} {C:List Ch} {v:Value} {xs:List α} {ps:List (fT n).den} (hp:All2 (fun p x=>R.rd I (iV n p) x) ps xs) (h:St I w0 w (Ch.own (ah E (fT n).rep) [v] ps::C)):St I w0 w (Ch.own (ah E R) [v] xs::C):=by
 obtain ⟨a1,a2,F,⟨G,K,rfl,⟨hl,k⟩,e⟩,a4,a5⟩:=h
 have hlen:=hp.length_eq
 rcases k with ⟨hv',rfl,rfl⟩ | ⟨g,ofs,cap,cur,K1,hv',k1,k2,k3,k4,rfl,k5⟩
 ·cases hp
  exact ⟨a1,a2,[] ++K,⟨[],K,rfl,⟨Nat.zero_le _,.inl ⟨hv',rfl,rfl⟩⟩,e⟩,a4,a5⟩
 ·exact ⟨a1,a2,(g::K1)++K,⟨g::K1,K,rfl,⟨by rw[<-hlen];exact hl,.inr ⟨g,ofs,cap,cur,K1,by rw[<-hlen];exact hv',k1,by rw[<-hlen];exact k2,k3,by rw[km] at k4;rw[h1];exact k4,rfl,Gq hC h1 k5 hp⟩⟩,e⟩,a4,a5⟩
theorem Gs {α β:Type} {p:α->β->Prop} : ∀ {xs:List α} {ys:List β} (n:Nat),All2 p xs ys->All2 p (xs.take n) (ys.take n)
 | _,_,0,_=>.nil
 | _,_,n+1,.nil=>.nil
 | _,_,n+1,.cons h k=>.cons h (Gs n k)
theorem DX {α β:Type} {p:α->β->Prop} : ∀ {xs:List α} {ys:List β} {xs':List α} {ys':List β},All2 p xs ys->All2 p xs' ys'->All2 p (xs++xs') (ys++ys')
 | _,_,_,_,.nil,h=>h
 | _,_,_,_,.cons h k,h'=>.cons h (DX k h')
theorem chk_of {α:Type} {p:Prop} [Decidable p] {k:Unit->Option α} (h:p):(chk p).bind k=k ():=by
 unfold chk
 rw[if_pos h];rfl
def ZO {α:Type} (b:Nat) (z:α) (xs:List α) (i:Int) (v:List α) (c:Nat):Option (List α×List α):=
 (chk ((0:Int)<=0/\0<=i/\0+i<=(xs.length:Int))).bind fun _ =>
 (chk ((0+0:Int)=0/\0+i<=(xs.length:Int)/\0<IntKind.i64.wrap (IntKind.i64.wrap ((xs.length:Int)+(v.length:Int)) - i)/\(c:Int)<(0+i)+IntKind.i64.wrap (IntKind.i64.wrap ((xs.length:Int)+(v.length:Int)) - i)/\((0+i)+IntKind.i64.wrap (IntKind.i64.wrap ((xs.length:Int)+(v.length:Int)) - i))*(b:Int)<=140737488355328)).bind fun _ =>
 (fun s2:List α=>(chk (0<=i/\i<=(s2.length:Int) - 0/\0+((s2.length:Int) - 0)<=(s2.length:Int))).bind fun _ =>
  (chk ((0:Int)<=0/\0<=min ((v.length:Int) - 0) ((0+((s2.length:Int) - 0)) - (0+i))/\0+min ((v.length:Int) - 0) ((0+((s2.length:Int) - 0)) - (0+i))<=(v.length:Int)/\0<=0+i/\0+i<=(s2.length:Int)/\0+((s2.length:Int) - 0)<=(s2.length:Int))).bind fun _ =>
  (fun s3:List α=>(chk (0<=IntKind.i64.wrap (i+(v.length:Int))/\IntKind.i64.wrap (i+(v.length:Int))<=(s3.length:Int) - 0/\0+((s3.length:Int) - 0)<=(s3.length:Int))).bind fun _ =>
   (chk (0<=i/\i<=(xs.length:Int) - 0/\0+((xs.length:Int) - 0)<=(xs.length:Int))).bind fun _ =>
   (chk (0<=0+i/\0<=min ((0+((xs.length:Int) - 0)) - (0+i)) ((0+((s3.length:Int) - 0)) - (0+IntKind.i64.wrap (i+(v.length:Int))))/\(0+i)+min ((0+((xs.length:Int) - 0)) - (0+i)) ((0+((s3.length:Int) - 0)) - (0+IntKind.i64.wrap (i+(v.length:Int))))<=(xs.length:Int)/\0<=0+IntKind.i64.wrap (i+(v.length:Int))/\0+IntKind.i64.wrap (i+(v.length:Int))<=(s3.length:Int)/\0+((s3.length:Int) - 0)<=(s3.length:Int))).bind fun _ =>
   some (wE s3 (0+IntKind.i64.wrap (i+(v.length:Int))).toNat (yG xs (0+i) (min ((0+((xs.length:Int) - 0)) - (0+i)) ((0+((s3.length:Int) - 0)) - (0+IntKind.i64.wrap (i+(v.length:Int)))))),v))
  (wE s2 (0+i).toNat (yG v 0 (min ((v.length:Int) - 0) ((0+((s2.length:Int) - 0)) - (0+i))))))
 (xs.take (0+i).toNat++List.replicate (IntKind.i64.wrap (IntKind.i64.wrap ((xs.length:Int)+(v.length:Int)) - i)).toNat z)
def ZP {α:Type} (xs:List α) (i:Int) (v:List α) (c:Nat):Option (List α×List α):=
 (fun w0 w:Int=>(chk ((xs.length:Int)<=w0/\w0<=(c:Int))).bind fun _ =>
  (chk (0<=w/\w<=w0 - 0/\w0 - 0<=w0 - 0)).bind fun _ =>
  (chk (0<v.length/\0+w<0+(w0 - 0))).bind fun _ =>
  (chk (0<=w/\w<=w0 - 0/\w0 - 0<=w0 - 0)).bind fun _ =>
  (chk (0<=i/\i<=w0 - 0/\w0 - 0<=w0 - 0)).bind fun _ =>
  (chk (0<=0+i/\0<=min ((0+(w0 - 0)) - (0+i)) ((0+(w0 - 0)) - (0+w))/\(0+i)+min ((0+(w0 - 0)) - (0+i)) ((0+(w0 - 0)) - (0+w))<=(xs.length:Int)/\0<=0+w/\0+w<=(xs.length:Int))).bind fun _ =>
  (chk ((0+w)+min ((0+(w0 - 0)) - (0+i)) ((0+(w0 - 0)) - (0+w))=w0/\(xs.length:Int)<=w0)).bind fun _ =>
  (fun s2:List α=>(chk (0<=i/\i<=(s2.length:Int) - 0/\0+((s2.length:Int) - 0)<=(s2.length:Int))).bind fun _ =>
   (chk ((0:Int)<=0/\0<=min ((v.length:Int) - 0) ((0+((s2.length:Int) - 0)) - (0+i))/\0+min ((v.length:Int) - 0) ((0+((s2.length:Int) - 0)) - (0+i))<=(v.length:Int)/\0<=0+i/\0+i<=(s2.length:Int)/\0+((s2.length:Int) - 0)<=(s2.length:Int))).bind fun _ =>
   some (wE s2 (0+i).toNat (yG v 0 (min ((v.length:Int) - 0) ((0+((s2.length:Int) - 0)) - (0+i)))),v))
  (wE xs (0+w).toNat (yG xs (0+i) (min ((0+(w0 - 0)) - (0+i)) ((0+(w0 - 0)) - (0+w))))))
 (IntKind.i64.wrap ((xs.length:Int)+(v.length:Int))) (IntKind.i64.wrap (i+(v.length:Int)))
noncomputable def Y2 {α:Type} (b:Nat) (z:α) (xs:List α) (i:Int) (v:List α):Option (List α×List α):=
 (chk (0<=i/\i<=(xs.length:Int) - 0/\0+((xs.length:Int) - 0)<=(xs.length:Int))).bind fun _ =>
 if (v.length:Int)==0 then some (xs,v) else if i==(xs.length:Int) then (b9 b xs v).bind fun zs=>some (zs,v) else
 JG xs.length fun c=>if Yd .gtr (IntKind.i64.wrap ((xs.length:Int)+(v.length:Int))) (c:Int) then ZO b z xs i v c else ZP xs i v c
def VN {α:Type} (b:Nat) (xs:List α) (i:Int) (v:List α):Option (List α×List α):=
 (chk (0<=i/\i<=(xs.length:Int)/\v.length=1/\1<=b/\(xs.length+1)*b<=140737488355328)).bind fun _=>some (xs.take i.toNat++(v++xs.drop i.toNat),v)
theorem Om {α:Type} {xs v:List α} {i q:Nat} (hi:i<=xs.length) (hv:v.length=1):(xs.take i++(v++xs.drop i))[q]? =if q<i then xs[q]? else if q=i then v[0]? else xs[q - 1]? :=by
 have hl:(xs.take i).length=i:=by rw[aB];omega
 by_cases c1:q<i
 ·rw[if_pos c1,List.getElem?_append_left (by omega),List.getElem?_take,if_pos c1]
 ·rw[if_neg c1,List.getElem?_append_right (by omega),hl]
  by_cases c2:q=i
  ·rw[if_pos c2,List.getElem?_append_left (by omega),c2,Nat.sub_self]
  ·rw[if_neg c2,List.getElem?_append_right (by omega),hv,List.getElem?_drop];congr 1;omega
set_option maxHeartbeats 1000000 in
theorem VO {α:Type} {b:Nat} {z:α} {xs v:List α} {i:Int} {r:List α×List α} (h:VN b xs i v=some r):Y2 b z xs i v=some r:=by
 obtain ⟨u,hc,h⟩:=Option.bind_eq_some_iff.1 h
 obtain ⟨h1,h2,hv,hb,hbig⟩:=bD hc
 obtain rfl:=ae h
 have hn:xs.length+1<=140737488355328:=by
  have:(xs.length+1)*1<=(xs.length+1)*b:=Nat.mul_le_mul_left _ hb
  omega
 obtain ⟨k,rfl⟩: ∃k:Nat,i=(k:Int):=⟨i.toNat,by omega⟩
 have hk:k<=xs.length:=by omega
 have w1:IntKind.i64.wrap ((xs.length:Int)+(v.length:Int))=((xs.length+1:Nat):Int):=by rw[hv,IntKind.wrap_i64];omega
 have w2:IntKind.i64.wrap ((k:Int)+(v.length:Int))=((k+1:Nat):Int):=by rw[hv,IntKind.wrap_i64];omega
 have w3:IntKind.i64.wrap (((xs.length+1:Nat):Int) - (k:Int))=((xs.length+1 - k:Nat):Int):=by rw[IntKind.wrap_i64];omega
 unfold Y2
 rw[chk_of (by omega)]
 rw[if_neg (by rw[hv];decide)]
 by_cases hkn:k=xs.length
 ·subst hkn
  rw[if_pos (by simp)]
  have:b9 b xs v=some (xs++v):=by unfold b9;rw[if_pos (by rw[hv];exact hbig)]
  rw[this]
  simp
 ·rw[if_neg (by simp;omega)]
  have tk:((k:Int)).toNat=k:=rfl
  have t0:(0+(k:Int)).toNat=k:=by omega
  have t1:(0+((k+1:Nat):Int)).toNat=k+1:=by omega
  have sv:yG v 0 1=v:=by
   unfold yG
   rw[show ((0:Int)+1).toNat=1 from rfl,show ((0:Int)).toNat=0 from rfl,List.drop_zero,List.take_of_length_le (by omega)]
  have sx:yG xs (0+(k:Int)) ((xs.length:Int) - (k:Int))=xs.drop k:=by
   unfold yG
   rw[t0,show (0+(k:Int)+((xs.length:Int) - (k:Int))).toNat=xs.length from by omega,List.take_length]
  have hdl:(xs.drop k).length=xs.length - k:=aS
  refine NL (by unfold maxLen;omega) fun c c1 c2=>?_
  have hcmp:Yd .gtr (IntKind.i64.wrap ((xs.length:Int)+(v.length:Int))) (c:Int)=decide (((xs.length+1:Nat):Int)>(c:Int)):=by rw[w1];rfl
  rw[hcmp]
  by_cases hg:xs.length+1>c
  ·rw[if_pos (by simp;omega)]
   unfold ZO
   rw[w1,w2,w3]
   generalize hs2:xs.take (0+(k:Int)).toNat++List.replicate (((xs.length+1 - k:Nat):Int)).toNat z=s2
   have l2:s2.length=xs.length+1:=by rw[<-hs2,t0,aq,aB,List.length_replicate];omega
   have m1:min ((v.length:Int) - 0) ((0+((s2.length:Int) - 0)) - (0+(k:Int)))=1:=by rw[hv,l2];omega
   simp only[m1,sv,t0]
   have lc:(wE s2 k v).length=xs.length+1:=by rw[ny (by omega),l2,hv];omega
   have m2:min ((0+((xs.length:Int) - 0)) - (0+(k:Int))) ((0+(((wE s2 k v).length:Int) - 0)) - (0+((k+1:Nat):Int)))=(xs.length:Int) - (k:Int):=by rw[lc];omega
   simp only[m2,sx,t1]
   have hbi:((xs.length+1:Nat):Int)*(b:Int)<=140737488355328:=by rw[<-Int.natCast_mul];omega
   rw[chk_of (by omega),chk_of (by
    refine ⟨by omega,by omega,by omega,by omega,?_⟩
    rw[show (0+(k:Int))+((xs.length+1 - k:Nat):Int)=((xs.length+1:Nat):Int) from by omega]
    exact hbi),chk_of (by rw[l2];omega),chk_of (by rw[l2,hv];omega),chk_of (by rw[lc];omega),chk_of (by omega),chk_of (by rw[lc];omega)]
   congr 2
   apply List.ext_getElem?
   intro q
   rw[vz (by rw[lc];omega),hdl,tk,Om hk hv]
   by_cases q1:k+1<=q/\q<k+1+(xs.length - k)
   ·rw[if_pos q1,if_neg (by omega),if_neg (by omega),List.getElem?_drop];congr 1;omega
   ·rw[if_neg q1,vz (by omega),hv]
    by_cases q2:q<k
    ·rw[if_neg (by omega),if_pos q2,<-hs2,t0,List.getElem?_append_left (by rw[aB];omega),List.getElem?_take,if_pos q2]
    ·by_cases q3:q=k
     ·rw[if_pos (by omega),if_neg q2,if_pos q3,q3,Nat.sub_self]
     ·rw[if_neg (by omega),if_neg q2,if_neg q3,List.getElem?_eq_none (by omega),List.getElem?_eq_none (by omega)]
  ·rw[if_neg (by simp;omega)]
   unfold ZP
   simp only
   rw[w1,w2]
   have m3:min ((0+((((xs.length+1:Nat):Int)) - 0)) - (0+(k:Int))) ((0+((((xs.length+1:Nat):Int)) - 0)) - (0+((k+1:Nat):Int)))=(xs.length:Int) - (k:Int):=by omega
   simp only[m3,sx,t0,t1]
   have lc:(wE xs (k+1) (xs.drop k)).length=xs.length+1:=by rw[ny (by omega),hdl];omega
   have m4:min ((v.length:Int) - 0) ((0+(((wE xs (k+1) (xs.drop k)).length:Int) - 0)) - (0+(k:Int)))=1:=by rw[lc,hv];omega
   simp only[m4,sv]
   rw[chk_of (by omega),chk_of (by omega),chk_of (by rw[hv];omega),chk_of (by omega),chk_of (by omega),chk_of (by omega),chk_of (by omega),chk_of (by rw[lc];omega),chk_of (by rw[lc,hv];omega)]
   congr 2
   apply List.ext_getElem?
   intro q
   rw[vz (by rw[lc];omega),hv,tk,Om hk hv]
   by_cases q3:q=k
   ·rw[if_pos (by omega),if_neg (by omega),if_pos q3,q3,Nat.sub_self]
   ·rw[if_neg (by omega),vz (by omega),hdl]
    by_cases q2:q<k
    ·rw[if_neg (by omega),if_pos q2]
    ·rw[if_neg q2,if_neg q3]
     by_cases q4:q<k+1+(xs.length - k)
     ·rw[if_pos (by omega),List.getElem?_drop];congr 1;omega
     ·rw[if_neg (by omega),List.getElem?_eq_none (by omega),List.getElem?_eq_none (by omega)]
theorem XB {P:Program} {k:FuncId} {E:TypeId} (h:Yh P k):FOk P k ⟨[],[],none,some (E,0)⟩:=
 ⟨fun q hq=>(by obtain rfl:=ae hq;exact ⟨⟨fun _=>h,fun e=>(by cases e),fun e=>(by cases e)⟩,fun e=>(by cases e),fun e=>(by cases e)⟩),fun e=>(by cases e),fun e=>(by cases e)⟩
theorem VP {P:Program} {k:FuncId} {E n b:Nat} {u:Ty} {z:(fT n).den} (hu:u.sh=true) (hs:u.size=n+1) (h:FOk P k ⟨[.eat (.sl E (fT n)),.rd (.int .i64),.ow (.sl E (fT n))],[.sl E (fT n)],Y2 b z,none⟩):FOk P k ⟨[.eat (.sl E u),.rd (.int .i64),.ow (.sl E u)],[.sl E u],VN b,none⟩:=by
 refine ⟨fun q hq=>(by cases hq),fun _=>h.en rfl,fun _ w0 J γ vs d r hlay ha qJ=>?_⟩
 obtain ⟨v,vs1,rfl,hd,v2,vs2,rfl,hd2,v3,vs3,rfl,hd3,hnil⟩:=ha
 obtain rfl:vs3= []:=hnil
 obtain ⟨xs0,i0,y0,un⟩:=d
 let xs:List u.den:=xs0
 let i:Int:=i0
 let ys:List u.den:=y0
 let zs:List u.den×List u.den:=r
 have qJ:VN b xs i ys=some zs:=qJ
 obtain ⟨u1,hc,hz⟩:=Option.bind_eq_some_iff.1 qJ
 have hc:=bD hc
 have hz:=ae hz
 have hsz:u.rep.size=n+1:=(Ty.rep_size u).trans hs
 intro w C hst
 have hst:St J w0 w (Ch.own (ah E u.rep) [v] xs::Ch.own (ah E u.rep) [v3] ys::C):=hst
 obtain ⟨ps,hp,hst2⟩:=J7 (Ty.sh_ok hu) hsz hst
 obtain ⟨qs,hq,hst3⟩:=J7 (Ty.sh_ok hu) hsz (hst2.perm (List.Perm.swap _ _ _))
 have hst4:=hst3.perm (List.Perm.swap _ _ _)
 have hlen:=hp.length_eq
 have hlen2:=hq.length_eq
 have hi:VN b ps i qs=some (ps.take i.toNat++(qs++ps.drop i.toNat),qs):=by
  unfold VN
  rw[chk_of (by rw[hlen,hlen2];exact hc)]
 have hm:=VO (z:=z) hi
 have key:=h.con rfl w0 J undef [v,v2,v3] (ps,i,qs,()) (show dens ([Ty.sl E (fT n)] ++ [Ty.sl E (fT n)]) from (ps.take i.toNat++(qs++ps.drop i.toNat),qs)) hlay ⟨v,_,rfl,hd,v2,_,rfl,hd2,v3,_,rfl,hd3,rfl⟩ hm
 refine (key w C hst4).mono fun e w' ⟨r,a1,a2,a3⟩=>⟨r,a1,a2,?_⟩
 have a3:St J w0 w' (Ch.own (ah E (fT n).rep) [r] (ps.take i.toNat++(qs++ps.drop i.toNat))::Ch.own (ah E (fT n).rep) [v3] qs::C):=a3
 have b1:=Gr (Ty.cpy hu) hsz (DX (Gs _ hp) (DX hq (rB _ hp))) a3
 have b2:=Gr (Ty.cpy hu) hsz hq (b1.perm (List.Perm.swap _ _ _))
 show St J w0 w' (Ch.own (ah E u.rep) [r] zs.1::Ch.own (ah E u.rep) [v3] zs.2::C)
 rw[<-hz]
 exact b2.perm (List.Perm.swap _ _ _)
end R
namespace R
open Go.RowKit Go.Shelf Go.Sort
open D
def RJ (xs:List ByteArray) (sep:ByteArray):Option ByteArray:=(chk (xs.length<=140737488355328/\(Lib.join (xs.map (·.data.toList)) sep.data.toList).length<=140737488355328)).bind fun _=>some ⟨(Lib.join (xs.map (·.data.toList)) sep.data.toList).toArray⟩
def RK (n:Int):Option ByteArray:=(chk (-9223372036854775808<=n/\n<=9223372036854775807)).bind fun _=>some ⟨(Lib.itoa n).toArray⟩
section
variable {P:Program} {ρ:Ren}
theorem St.grownS {I:Hp} {w0 w:World} {cs:List Ch} (h:St I w0 w cs) (os:Array Obj):St I w0 (grow w os) cs:=by
 refine St.step (w:=w) (c:=[]) (c':=[]) h rfl rfl rfl (by simp[grow]) ?_
 rintro F rfl - -
 exact ⟨fun b hb _=>heap_grow_old w os hb,[],rfl,List.nodup_nil,by simp⟩
theorem St.belowS {I:Hp} {w0 w w':World} {cs:List Ch} (h:St I w0 w cs) (hb:Below w.heap.size w w'):St I w0 w' cs:=by
 refine St.step (w:=w) (c:=[]) (c':=[]) h hb.os hb.tape hb.output hb.size ?_
 rintro F rfl - -
 exact ⟨fun b hb' _=>hb.block b hb',[],rfl,List.nodup_nil,by simp⟩
theorem RL (L:LaysM.n171 P ρ) (en:Enters P (ρ.f 171)):FOk P (ρ.f 171) ⟨[.rd (.int .i64)],[.str],fun n=>RK n,none⟩:=by
 refine ⟨fun q hq=>(by cases hq),fun _=>en,fun _ w0 J γ vs d r hlay ha qJ=>?_⟩
 obtain ⟨v,vs1,rfl,⟨c1,l1,r1⟩,hnil⟩:=ha
 obtain rfl:vs1= []:=hnil
 obtain ⟨n0,un⟩:=d
 let n:Int:=n0
 obtain rfl:c1= [v]:=l1
 obtain rfl:v= .int .i64 n:=(List.cons.inj r1).1
 obtain ⟨u1,hc,hz⟩:=Option.bind_eq_some_iff.1 (show RK n=some r from qJ)
 have hc:=bD hc
 obtain rfl:=ae hz
 intro w C hst
 have hst:St J w0 w C:=hst
 refine (Any.strconv_Itoa L n hc.1 hc.2 w (hlay w hst.2.1).tab).mono ?_
 rintro e w' ⟨rfl,k,os,rfl⟩
 have hw:St J w0 (w.drewN k) C:=hst.drawn rfl rfl rfl rfl
 exact ⟨_,rfl,rfl,D.St.free (R:=Da) (c:=[.string _]) (St.grownS hw os) ⟨rfl,rfl⟩⟩
theorem RM (L:Lays.n156 P ρ) (X:Builder.Extra P ρ) (E:TypeId) (en:Enters P (ρ.f 156)):FOk P (ρ.f 156) ⟨[.rd (.sl E .str),.rd .str],[.str],fun xs s=>RJ xs s,none⟩:=by
 refine ⟨fun q hq=>(by cases hq),fun _=>en,fun _ w0 J γ vs d r hlay ha qJ=>?_⟩
 obtain ⟨v,vs1,rfl,⟨c1,l1,r1⟩,v2,vs2,rfl,⟨c2,l2,r2⟩,hnil⟩:=ha
 obtain rfl:vs2= []:=hnil
 obtain ⟨xs0,sep,un⟩:=d
 let xs:List ByteArray:=xs0
 obtain rfl:c1= [v]:=l1
 obtain rfl:c2= [v2]:=l2
 obtain rfl:v2= .string sep:=(List.cons.inj r2).1
 obtain ⟨u1,hc,hz⟩:=Option.bind_eq_some_iff.1 (show RJ xs sep=some r from qJ)
 have hc:=bD hc
 obtain rfl:=ae hz
 obtain ⟨ao,cap,hv,⟨hl,hcap⟩,hx⟩:((ah E Da).rd J [v] xs):=r1
 obtain rfl:=(List.cons.inj hv).1
 intro w C hst
 have hst:St J w0 w C:=hst
 rcases hx with hx | ⟨b,off,ccs,t,fr,rfl,h2,h4⟩
 ·have hx:xs= []:=hx
  rw[hx] at hc⊢
  refine (Any.strings_Join_none L X ao cap sep w).mono ?_
  rintro e w' ⟨rfl,rfl⟩
  refine ⟨_,rfl,rfl,?_⟩
  exact D.St.free (R:=Da) (c:=[.string _]) hst ⟨rfl,rfl⟩
 ·have hg:=hst.2.1 _ _ h2
  have hblk:b<w.heap.size:=(Array.getElem?_eq_some_iff.1 hg).1
  refine (Any.strings_Join L X b off cap xs sep w (fun j x hj=>?_) hblk hc.1 hcap hc.2).mono ?_
  ·obtain ⟨c,e1,e2,e3⟩:=h4 j x hj
   obtain rfl:c= [.string x]:=e3
   have:=e2 0 Nat.one_pos
   have e:off+j*Da.size+0=off+j:=by show off+j*1+0=_;omega
   rw[e] at this
   unfold World.cell?
   have hg:w.heap[b]? =some (.cells ccs t fr):=hg
   simp only[hg]
   rw[<-Array.getElem?_toList,this]
   rfl
  ·rintro e w' ⟨rfl,hb⟩
   exact ⟨_,rfl,rfl,D.St.free (R:=Da) (c:=[.string _]) (St.belowS hst hb) ⟨rfl,rfl⟩⟩
end
end R
namespace D
open Go.RowKit Go.Shelf
theorem VQ {I:Hp} {w0 w:World} {cs:List Ch} {α:Type} {E:TypeId} {enc:α->Value} {h1: ∀a,(enc a).oneCell'=true} {b:Nat} {xs:List α} (hl:xs.length<=lim) (h:St I w0 w (Ch.blk b (xs.map enc) E::cs)):St I w0 w (Ch.own (ah E (kV α enc h1)) [.slice (some ⟨b,0,none⟩) xs.length xs.length] xs::cs):=by
 obtain ⟨hb,hi,F,⟨G,K,rfl,⟨rfl,hg⟩,e⟩,h4,h5⟩:=h
 refine ⟨hb,hi,[b] ++K,⟨[b],K,rfl,⟨hl,.inr ⟨b,0,xs.length,_,[],rfl,hg,aC _,hl,?_,rfl,?_⟩⟩,e⟩,h4,h5⟩
 ·show 0+xs.length*1<=_
  simp
 ·refine jI.2 ⟨rfl,[],?_⟩
  simp
end D
namespace R
open Go.RowKit Go.Shelf Go.Sort
open D
def J8 (s sep:ByteArray):Option (List ByteArray):=(chk (s.size<4294967281/\1<=sep.size)).bind fun _=>some (Lib.splitB sep 0 (Lib.countB s sep) s)
def XC (s sep:ByteArray):Option (ByteArray×ByteArray×Bool):=(chk (s.size<4294967281)).bind fun _=>some (⟨(Lib.cut s.data.toList sep.data.toList).1.toArray⟩,⟨(Lib.cut s.data.toList sep.data.toList).2.1.toArray⟩,(Lib.cut s.data.toList sep.data.toList).2.2)
def wY (s:ByteArray) (c:Int):Option Int:=some (Lib.indexByte s.data.toList c.toNat.toUInt8)
def rI (s:ByteArray):Option (Int×Bool):=
 if 10<s.size then some (0,false) else
 match Lib.atoi s.data.toList with
 | none=>some (0,false)
 | some n=>if (⟨(Lib.itoa n).toArray⟩:ByteArray)=s/\ -999999999<=n/\n<=999999999 then some (n,true) else some (0,false)
section
variable {P:Program} {ρ:Ren}
theorem On (L:Lays.n146 P ρ) (hi9:(P.info? (ρ.t 9)).map (fun i=>(i.zero,i.size,i.bytes))=some (some (.string ByteArray.empty),1,16)) (m1:P.globalNamed "internal/bytealg.MaxLen" =some (ρ.g 1)) (en:Enters P (ρ.f 146)):FOk P (ρ.f 146) ⟨[.rd .str,.rd .str],[.sl (ρ.t 9) .str],fun s sep=>J8 s sep,none⟩:=by
 refine ⟨fun q hq=>(by cases hq),fun _=>en,fun _ w0 J γ vs d r hlay ha qJ=>?_⟩
 obtain ⟨v,vs1,rfl,⟨c1,l1,r1⟩,v2,vs2,rfl,⟨c2,l2,r2⟩,hnil⟩:=ha
 obtain rfl:vs2= []:=hnil
 obtain ⟨s0,sep0,un⟩:=d
 let s:ByteArray:=s0
 let sep:ByteArray:=sep0
 obtain rfl:c1= [v]:=l1
 obtain rfl:c2= [v2]:=l2
 obtain rfl:v= .string s:=(List.cons.inj r1).1
 obtain rfl:v2= .string sep:=(List.cons.inj r2).1
 obtain ⟨u1,hc,hz⟩:=Option.bind_eq_some_iff.1 (show J8 s sep=some r from qJ)
 have hc:=bD hc
 obtain rfl:=ae hz
 intro w C hst
 have hst:St J w0 w C:=hst
 obtain ⟨g,m,hg,hm⟩:=(hlay w hst.2.1).len
 obtain rfl:=ae (m1.symm.trans hg)
 refine (Any.strings_Split L hi9 s sep m w hc.1 hm hc.2).mono ?_
 rintro e w' ⟨rfl,rfl⟩
 refine ⟨_,rfl,rfl,?_⟩
 have hlen:(Lib.splitB sep 0 (Lib.countB s sep) s).length=Lib.countB s sep+1:=Lib.splitB_all sep hc.2 0 _ s rfl
 have hle:=Lib.countB_le sep hc.2 s.size s (aC _)
 have h3:=D.VQ (E:=ρ.t 9) (enc:=Value.string) (h1:=fun _=>rfl) (b:=w.heap.size) (xs:=Lib.splitB sep 0 (Lib.countB s sep) s) (by rw[hlen];have:lim=9223372036854775807:=rfl;omega) (hst.alloc _ _)
 rw[hlen] at h3
 exact h3
theorem VR (L:Lays.n145 P ρ) (m1:P.globalNamed "internal/bytealg.MaxLen" =some (ρ.g 1)) (en:Enters P (ρ.f 145)):FOk P (ρ.f 145) ⟨[.rd .str,.rd .str],[.str,.str,.bool],fun s sep=>XC s sep,none⟩:=by
 refine ⟨fun q hq=>(by cases hq),fun _=>en,fun _ w0 J γ vs d r hlay ha qJ=>?_⟩
 obtain ⟨v,vs1,rfl,⟨c1,l1,r1⟩,v2,vs2,rfl,⟨c2,l2,r2⟩,hnil⟩:=ha
 obtain rfl:vs2= []:=hnil
 obtain ⟨s0,sep0,un⟩:=d
 let s:ByteArray:=s0
 let sep:ByteArray:=sep0
 obtain rfl:c1= [v]:=l1
 obtain rfl:c2= [v2]:=l2
 obtain rfl:v= .string s:=(List.cons.inj r1).1
 obtain rfl:v2= .string sep:=(List.cons.inj r2).1
 obtain ⟨u1,hc,hz⟩:=Option.bind_eq_some_iff.1 (show XC s sep=some r from qJ)
 have hc:=bD hc
 obtain rfl:=ae hz
 intro w C hst
 have hst:St J w0 w C:=hst
 obtain ⟨g,m,hg,hm⟩:=(hlay w hst.2.1).len
 obtain rfl:=ae (m1.symm.trans hg)
 refine (Any.strings_Cut L s sep m w hc hm).mono ?_
 rintro e w' ⟨rfl,n,rfl⟩
 refine ⟨_,rfl,⟨_,rfl,rfl,fun i t ht=>?_⟩,?_⟩
 ·rcases i with _ | _ | _ | i
  all_goals first | (obtain rfl:=ae ht;rfl) | cases ht
 ·have hw:St J w0 (w.drewN n) C:=hst.drawn rfl rfl rfl rfl
  exact D.St.free (R:=Da) (c:=[.string _]) (D.St.free (R:=Da) (c:=[.string _]) (D.St.free (R:=od) (c:=[.bool _]) hw ⟨rfl,rfl⟩) ⟨rfl,rfl⟩) ⟨rfl,rfl⟩
theorem DY (L:Lays.n137 P ρ) (en:Enters P (ρ.f 137)):FOk P (ρ.f 137) ⟨[.rd .str,.rd (.int .u8)],[.int .i64],fun s c=>wY s c,none⟩:=by
 refine ⟨fun q hq=>(by cases hq),fun _=>en,fun _ w0 J γ vs d r hlay ha qJ=>?_⟩
 obtain ⟨v,vs1,rfl,⟨c1,l1,r1⟩,v2,vs2,rfl,⟨c2,l2,r2⟩,hnil⟩:=ha
 obtain rfl:vs2= []:=hnil
 obtain ⟨s0,c0,un⟩:=d
 let s:ByteArray:=s0
 let c:Int:=c0
 obtain rfl:c1= [v]:=l1
 obtain rfl:c2= [v2]:=l2
 obtain rfl:v= .string s:=(List.cons.inj r1).1
 obtain rfl:v2= .int .u8 c:=(List.cons.inj r2).1
 obtain rfl:=ae (show wY s c=some r from qJ)
 intro w C hst
 have hst:St J w0 w C:=hst
 refine (Any.strings_IndexByte L s c w).mono ?_
 rintro e w' ⟨rfl,rfl⟩
 exact ⟨_,rfl,rfl,D.St.free (R:=a7) (c:=[.int .i64 _]) hst ⟨rfl,rfl⟩⟩
theorem VS {α:Type} {E:TypeId} {R:Rep α} {I:Hp} {w0 w:World} {v:List Value} {xs:List α} {C:List Ch} (h:St I w0 w (Ch.own (ah E R) v xs::C)):St I w0 w (Ch.own (ah E (L9 R)) v xs::C):=by
 obtain ⟨hb,hi,F,⟨G,K,rfl,⟨hl,e2⟩,e3⟩,h4,h5⟩:=h
 rcases e2 with ⟨rfl,rfl,rfl⟩ | ⟨g,ofs,cap,cur,K1,hv,k1,k2,k3,k4,k6,k5⟩
 ·exact ⟨hb,hi,_,⟨_,K,rfl,⟨hl,.inl ⟨rfl,rfl,rfl⟩⟩,e3⟩,h4,h5⟩
 ·exact ⟨hb,hi,_,⟨_,K,rfl,⟨hl,.inr ⟨g,ofs,cap,cur,K1,hv,k1,k2,k3,k4,k6,OwnEls.turn (R:=R) (S:=L9 R) rfl (fun c x G hx=>Ms hx) k5⟩⟩,e3⟩,h4,h5⟩
theorem J9 {P:Program} {k:FuncId} {ps:List PM} {A B t:Ty} {E:TypeId} {m:curP ps (Option (dens ([A,.sl E t,B] ++outs ps)))} (h:FOk P k ⟨ps,[A,.sl E t,B],m,none⟩):FOk P k ⟨ps,[A,.sl E (.bag t),B],m,none⟩:=by
 refine ⟨fun q hq=>(by cases hq),fun hq=>h.en hq,fun _ w0 J γ vs d r hlay ha qJ=>?_⟩
 refine (h.con rfl w0 J γ vs d r hlay ha qJ).imp (fun v hv=>?_) (fun v _ w C hs=>?_)
 ·obtain ⟨us,rfl,h1,h2⟩:=hv
  refine ⟨us,rfl,h1,fun i u hu=>?_⟩
  rcases i with _ | _ | _ | i
  ·obtain rfl:=ae hu;exact h2 0 _ rfl
  ·obtain rfl:=ae hu;exact h2 1 (.sl E t) rfl
  ·obtain rfl:=ae hu;exact h2 2 _ rfl
  ·cases hu
 ·exact ((VS (hs.perm (List.Perm.swap ..))).perm (List.Perm.swap ..))
theorem Oo {k:FuncId} {m:ByteArray->Option (Int×Bool)} (en:Enters P k) (h: ∀s r w,m s=some r->LayW P w->Calls P k #[.string s] w fun e w'=>e= .returned (.tuple #[.int .i64 r.1,.bool r.2])/\Below w.heap.size w w'):FOk P k ⟨[.rd .str],[.int .i64,.bool],fun s=>m s,none⟩:=by
 refine ⟨fun q hq=>(by cases hq),fun _=>en,fun _ w0 J γ vs d r hlay ha qJ=>?_⟩
 obtain ⟨v,vs1,rfl,⟨c1,l1,r1⟩,hnil⟩:=ha
 obtain rfl:vs1= []:=hnil
 obtain ⟨s0,un⟩:=d
 let s:ByteArray:=s0
 obtain rfl:c1= [v]:=l1
 obtain rfl:v= .string s:=(List.cons.inj r1).1
 intro w C hst
 have hst:St J w0 w C:=hst
 refine (h s r w qJ (hlay w hst.2.1)).mono ?_
 rintro e w' ⟨rfl,hb⟩
 refine ⟨_,rfl,⟨_,rfl,rfl,fun i t ht=>?_⟩,?_⟩
 ·rcases i with _ | _ | i
  all_goals first | (obtain rfl:=ae ht;rfl) | cases ht
 ·exact D.St.free (R:=a7) (c:=[.int .i64 _]) (D.St.free (R:=od) (c:=[.bool _]) (St.belowS hst hb) ⟨rfl,rfl⟩) ⟨rfl,rfl⟩
end
end R
namespace R
open Go.Shelf
def xV:Go.Shelf.Ren:=⟨fun | 156=>253 | 165=>290 | 166=>291 | 169=>292 | 240=>328 | 241=>329 | 276=>367 | 277=>368 | n=>n,fun | 31=>222 | 9=>9 | 3=>3 | 4=>4 | 0=>0 | 20=>20 | 72=>297 | 76=>277 | 70=>295 | 37=>22 | 75=>276 | 127=>334 | 164=>362 | 5=>5 | 80=>299 | n=>n,fun | n=>n⟩
theorem RN:Go.Proofs.Lays.n156 Tryz.prog xV:= {
 mixed:=by kernel_rfl
 f156:=Tryz.func253.trans (congrArg some (by kernel_rfl))
 f165:=Tryz.func290.trans (congrArg some (by kernel_rfl))
 f166:=Tryz.func291.trans (congrArg some (by kernel_rfl))
 f169:=Tryz.func292.trans (congrArg some (by kernel_rfl))
 f240:=Tryz.func328.trans (congrArg some (by kernel_rfl))
 f241:=Tryz.func329.trans (congrArg some (by kernel_rfl))
 f276:=Tryz.func367.trans (congrArg some (by kernel_rfl))
 f277:=Tryz.func368.trans (congrArg some (by kernel_rfl))
 t0:=Tryz.underlying0
 a0:=Tryz.isAgg0
 z0:=Tryz.sizeOf0
 v0:=Tryz.zeroValue0
 t3:=Tryz.underlying3
 a3:=Tryz.isAgg3
 z3:=Tryz.sizeOf3
 v3:=Tryz.zeroValue3
 t4:=Tryz.underlying4
 a4:=Tryz.isAgg4
 z4:=Tryz.sizeOf4
 v4:=Tryz.zeroValue4
 t9:=Tryz.underlying9
 a9:=Tryz.isAgg9
 z9:=Tryz.sizeOf9
 v9:=Tryz.zeroValue9
 t20:=Tryz.underlying20
 a20:=Tryz.isAgg20
 z20:=Tryz.sizeOf20
 v20:=Tryz.zeroValue20
 t31:=Tryz.underlying222
 a31:=Tryz.isAgg222
 z31:=Tryz.sizeOf222
 v31:=Tryz.zeroValue222
 t37:=Tryz.underlying22
 a37:=Tryz.isAgg22
 z37:=Tryz.sizeOf22
 v37:=Tryz.zeroValue22
 t70:=Tryz.underlying295
 a70:=Tryz.isAgg295
 z70:=Tryz.sizeOf295
 v70:=Tryz.zeroValue295
 t72:=Tryz.underlying297
 a72:=Tryz.isAgg297
 z72:=Tryz.sizeOf297
 v72:=Tryz.zeroValue297
 t75:=Tryz.underlying276
 a75:=Tryz.isAgg276
 z75:=Tryz.sizeOf276
 v75:=Tryz.zeroValue276
 t76:=Tryz.underlying277
 a76:=Tryz.isAgg277
 z76:=Tryz.sizeOf277
 v76:=Tryz.zeroValue277
 t127:=Tryz.underlying334
 a127:=Tryz.isAgg334
 z127:=Tryz.sizeOf334
 v127:=Tryz.zeroValue334
 t164:=Tryz.underlying362
 a164:=Tryz.isAgg362
 z164:=Tryz.sizeOf362
 v164:=Tryz.zeroValue362 }
def Gt:Go.Shelf.Ren:=⟨fun | 171=>254 | 243=>293 | 246=>330 | 283=>369 | 284=>370 | 285=>371 | 286=>372 | 129=>394 | 317=>393 | 318=>395 | 319=>396 | 320=>397 | 337=>411 | 338=>412 | n=>n,fun | 3=>3 | 9=>9 | 2=>2 | 4=>4 | 171=>365 | 0=>0 | 53=>366 | 37=>22 | 5=>5 | 173=>369 | 212=>393 | 51=>394 | 20=>20 | 213=>395 | 46=>255 | 232=>426 | 233=>427 | n=>n,fun | 17=>3 | 18=>6 | 19=>7 | n=>n⟩
theorem Ka:Go.Proofs.LaysM.n171 Tryz.prog Gt:= {
 mixed:=by kernel_rfl
 f129:=Tryz.func394.trans (congrArg some (by kernel_rfl))
 f171:=Tryz.func254.trans (congrArg some (by kernel_rfl))
 f243:=Tryz.func293.trans (congrArg some (by kernel_rfl))
 f246:=Tryz.func330.trans (congrArg some (by kernel_rfl))
 f283:=Tryz.func369.trans (congrArg some (by kernel_rfl))
 f284:=Tryz.func370.trans (congrArg some (by kernel_rfl))
 f285:=Tryz.func371.trans (congrArg some (by kernel_rfl))
 f286:=Tryz.func372.trans (congrArg some (by kernel_rfl))
 f317:=Tryz.func393.trans (congrArg some (by kernel_rfl))
 f318:=Tryz.func395.trans (congrArg some (by kernel_rfl))
 f319:=Tryz.func396.trans (congrArg some (by kernel_rfl))
 f320:=Tryz.func397.trans (congrArg some (by kernel_rfl))
 f337:=Tryz.func411.trans (congrArg some (by kernel_rfl))
 f338:=Tryz.func412.trans (congrArg some (by kernel_rfl))
 t0:=Tryz.underlying0
 a0:=Tryz.isAgg0
 z0:=Tryz.sizeOf0
 v0:=Tryz.zeroValue0
 t2:=Tryz.underlying2
 a2:=Tryz.isAgg2
 z2:=Tryz.sizeOf2
 v2:=Tryz.zeroValue2
 t3:=Tryz.underlying3
 a3:=Tryz.isAgg3
 z3:=Tryz.sizeOf3
 v3:=Tryz.zeroValue3
 t4:=Tryz.underlying4
 a4:=Tryz.isAgg4
 z4:=Tryz.sizeOf4
 v4:=Tryz.zeroValue4
 t5:=Tryz.underlying5
 a5:=Tryz.isAgg5
 z5:=Tryz.sizeOf5
 v5:=Tryz.zeroValue5
 t9:=Tryz.underlying9
 a9:=Tryz.isAgg9
 z9:=Tryz.sizeOf9
 v9:=Tryz.zeroValue9
 t20:=Tryz.underlying20
 a20:=Tryz.isAgg20
 z20:=Tryz.sizeOf20
 v20:=Tryz.zeroValue20
 t37:=Tryz.underlying22
 a37:=Tryz.isAgg22
 z37:=Tryz.sizeOf22
 v37:=Tryz.zeroValue22
 t46:=Tryz.underlying255
 a46:=Tryz.isAgg255
 z46:=Tryz.sizeOf255
 v46:=Tryz.zeroValue255
 t51:=Tryz.underlying394
 a51:=Tryz.isAgg394
 z51:=Tryz.sizeOf394
 v51:=Tryz.zeroValue394
 t53:=Tryz.underlying366
 a53:=Tryz.isAgg366
 z53:=Tryz.sizeOf366
 v53:=Tryz.zeroValue366
 t171:=Tryz.underlying365
 a171:=Tryz.isAgg365
 z171:=Tryz.sizeOf365
 v171:=Tryz.zeroValue365
 t173:=Tryz.underlying369
 a173:=Tryz.isAgg369
 z173:=Tryz.sizeOf369
 v173:=Tryz.zeroValue369
 t212:=Tryz.underlying393
 a212:=Tryz.isAgg393
 z212:=Tryz.sizeOf393
 v212:=Tryz.zeroValue393
 t213:=Tryz.underlying395
 a213:=Tryz.isAgg395
 z213:=Tryz.sizeOf395
 t232:=Tryz.underlying426
 a232:=Tryz.isAgg426
 z232:=Tryz.sizeOf426
 v232:=Tryz.zeroValue426
 t233:=Tryz.underlying427
 a233:=Tryz.isAgg427
 z233:=Tryz.sizeOf427
 v233:=Tryz.zeroValue427
 g17:=by kernel_rfl
 g18:=by kernel_rfl
 g19:=by kernel_rfl
 i0:=by kernel_rfl
 i2:=by kernel_rfl
 i3:=by kernel_rfl
 i4:=by kernel_rfl
 i5:=by kernel_rfl
 i9:=by kernel_rfl
 i20:=by kernel_rfl
 i37:=by kernel_rfl
 i46:=by kernel_rfl
 i51:=by kernel_rfl
 i53:=by kernel_rfl
 i171:=by kernel_rfl
 i173:=by kernel_rfl
 i212:=by kernel_rfl
 i232:=by kernel_rfl
 i233:=by kernel_rfl
 m17:=by kernel_rfl
 m18:=by kernel_rfl
 m19:=by kernel_rfl }
def DZ:Go.Shelf.Ren:=⟨fun | 146=>213 | 221=>265 | 268=>312 | 138=>313 | 143=>314 | 195=>352 | 197=>353 | 218=>354 | 219=>355 | 260=>381 | 217=>212 | 225=>382 | 224=>383 | 267=>384 | 266=>264 | 314=>403 | n=>n,fun | 9=>9 | 31=>222 | 3=>3 | 4=>4 | 0=>0 | 105=>350 | 21=>21 | 5=>5 | 46=>255 | 119=>402 | 139=>405 | 138=>404 | 146=>406 | 51=>394 | n=>n,fun | 1=>0 | 3=>4 | 4=>5 | n=>n⟩
theorem Oq:Go.Proofs.Lays.n146 Tryz.prog DZ:= {
 mixed:=by kernel_rfl
 f138:=Tryz.func313.trans (congrArg some (by kernel_rfl))
 f143:=Tryz.func314.trans (congrArg some (by kernel_rfl))
 f146:=Tryz.func213.trans (congrArg some (by kernel_rfl))
 f195:=Tryz.func352.trans (congrArg some (by kernel_rfl))
 f197:=Tryz.func353.trans (congrArg some (by kernel_rfl))
 f217:=Tryz.func212.trans (congrArg some (by kernel_rfl))
 f218:=Tryz.func354.trans (congrArg some (by kernel_rfl))
 f219:=Tryz.func355.trans (congrArg some (by kernel_rfl))
 f221:=Tryz.func265.trans (congrArg some (by kernel_rfl))
 f224:=Tryz.func383.trans (congrArg some (by kernel_rfl))
 f225:=Tryz.func382.trans (congrArg some (by kernel_rfl))
 f260:=Tryz.func381.trans (congrArg some (by kernel_rfl))
 f266:=Tryz.func264.trans (congrArg some (by kernel_rfl))
 f267:=Tryz.func384.trans (congrArg some (by kernel_rfl))
 f268:=Tryz.func312.trans (congrArg some (by kernel_rfl))
 f314:=Tryz.func403.trans (congrArg some (by kernel_rfl))
 t0:=Tryz.underlying0
 a0:=Tryz.isAgg0
 z0:=Tryz.sizeOf0
 v0:=Tryz.zeroValue0
 t3:=Tryz.underlying3
 a3:=Tryz.isAgg3
 z3:=Tryz.sizeOf3
 v3:=Tryz.zeroValue3
 t4:=Tryz.underlying4
 a4:=Tryz.isAgg4
 z4:=Tryz.sizeOf4
 v4:=Tryz.zeroValue4
 t5:=Tryz.underlying5
 a5:=Tryz.isAgg5
 z5:=Tryz.sizeOf5
 v5:=Tryz.zeroValue5
 t9:=Tryz.underlying9
 a9:=Tryz.isAgg9
 z9:=Tryz.sizeOf9
 v9:=Tryz.zeroValue9
 t21:=Tryz.underlying21
 a21:=Tryz.isAgg21
 z21:=Tryz.sizeOf21
 v21:=Tryz.zeroValue21
 t31:=Tryz.underlying222
 a31:=Tryz.isAgg222
 z31:=Tryz.sizeOf222
 v31:=Tryz.zeroValue222
 t46:=Tryz.underlying255
 a46:=Tryz.isAgg255
 z46:=Tryz.sizeOf255
 v46:=Tryz.zeroValue255
 t51:=Tryz.underlying394
 a51:=Tryz.isAgg394
 z51:=Tryz.sizeOf394
 v51:=Tryz.zeroValue394
 t105:=Tryz.underlying350
 a105:=Tryz.isAgg350
 z105:=Tryz.sizeOf350
 v105:=Tryz.zeroValue350
 t119:=Tryz.underlying402
 a119:=Tryz.isAgg402
 z119:=Tryz.sizeOf402
 t138:=Tryz.underlying404
 a138:=Tryz.isAgg404
 z138:=Tryz.sizeOf404
 v138:=Tryz.zeroValue404
 t139:=Tryz.underlying405
 a139:=Tryz.isAgg405
 z139:=Tryz.sizeOf405
 v139:=Tryz.zeroValue405
 t146:=Tryz.underlying406
 a146:=Tryz.isAgg406
 z146:=Tryz.sizeOf406
 v146:=Tryz.zeroValue406
 g1:=by kernel_rfl
 g3:=by kernel_rfl
 g4:=by kernel_rfl }
def Ih:Go.Shelf.Ren:=⟨fun | 145=>317 | 220=>361 | 219=>355 | 217=>212 | 225=>382 | 224=>383 | 267=>384 | 266=>264 | 314=>403 | n=>n,fun | 9=>9 | 4=>4 | 59=>323 | 3=>3 | 5=>5 | 46=>255 | 146=>406 | 51=>394 | n=>n,fun | 1=>0 | n=>n⟩
theorem VT:Go.Proofs.Lays.n145 Tryz.prog Ih:= {
 mixed:=by kernel_rfl
 f145:=Tryz.func317.trans (congrArg some (by kernel_rfl))
 f217:=Tryz.func212.trans (congrArg some (by kernel_rfl))
 f219:=Tryz.func355.trans (congrArg some (by kernel_rfl))
 f220:=Tryz.func361.trans (congrArg some (by kernel_rfl))
 f224:=Tryz.func383.trans (congrArg some (by kernel_rfl))
 f225:=Tryz.func382.trans (congrArg some (by kernel_rfl))
 f266:=Tryz.func264.trans (congrArg some (by kernel_rfl))
 f267:=Tryz.func384.trans (congrArg some (by kernel_rfl))
 f314:=Tryz.func403.trans (congrArg some (by kernel_rfl))
 t3:=Tryz.underlying3
 a3:=Tryz.isAgg3
 z3:=Tryz.sizeOf3
 v3:=Tryz.zeroValue3
 t4:=Tryz.underlying4
 a4:=Tryz.isAgg4
 z4:=Tryz.sizeOf4
 v4:=Tryz.zeroValue4
 t5:=Tryz.underlying5
 a5:=Tryz.isAgg5
 z5:=Tryz.sizeOf5
 v5:=Tryz.zeroValue5
 t9:=Tryz.underlying9
 a9:=Tryz.isAgg9
 z9:=Tryz.sizeOf9
 v9:=Tryz.zeroValue9
 t46:=Tryz.underlying255
 a46:=Tryz.isAgg255
 z46:=Tryz.sizeOf255
 v46:=Tryz.zeroValue255
 t51:=Tryz.underlying394
 a51:=Tryz.isAgg394
 z51:=Tryz.sizeOf394
 v51:=Tryz.zeroValue394
 t59:=Tryz.underlying323
 a59:=Tryz.isAgg323
 z59:=Tryz.sizeOf323
 v59:=Tryz.zeroValue323
 t146:=Tryz.underlying406
 a146:=Tryz.isAgg406
 z146:=Tryz.sizeOf406
 v146:=Tryz.zeroValue406
 g1:=by kernel_rfl }
def wZ:Go.Shelf.Ren:=⟨fun | 137=>141 | 217=>212 | 266=>264 | n=>n,fun | 9=>9 | 5=>5 | 3=>3 | n=>n,fun | n=>n⟩
theorem D0:Go.Proofs.Lays.n137 Tryz.prog wZ:= {
 mixed:=by kernel_rfl
 f137:=Tryz.func141.trans (congrArg some (by kernel_rfl))
 f217:=Tryz.func212.trans (congrArg some (by kernel_rfl))
 f266:=Tryz.func264.trans (congrArg some (by kernel_rfl))
 t3:=Tryz.underlying3
 a3:=Tryz.isAgg3
 z3:=Tryz.sizeOf3
 v3:=Tryz.zeroValue3
 t5:=Tryz.underlying5
 a5:=Tryz.isAgg5
 z5:=Tryz.sizeOf5
 v5:=Tryz.zeroValue5
 t9:=Tryz.underlying9
 a9:=Tryz.isAgg9
 z9:=Tryz.sizeOf9
 v9:=Tryz.zeroValue9 }
def Gu:Go.Shelf.Ren:=⟨fun | 172=>266 | 244=>315 | 245=>316 | 247=>356 | 279=>357 | 280=>358 | 281=>359 | 282=>360 | 287=>385 | 316=>386 | 171=>254 | 205=>387 | 321=>404 | 322=>405 | 243=>293 | 246=>330 | 283=>369 | 284=>370 | 285=>371 | 286=>372 | 129=>394 | 317=>393 | 318=>395 | 319=>396 | 320=>397 | 337=>411 | 338=>412 | n=>n,fun | 9=>9 | 3=>3 | 75=>276 | 76=>277 | 4=>4 | 5=>5 | 167=>352 | 37=>22 | 0=>0 | 85=>353 | 2=>2 | 168=>355 | 53=>366 | 175=>379 | 46=>255 | 210=>383 | 127=>334 | 145=>412 | 143=>410 | 21=>21 | 171=>365 | 173=>369 | 212=>393 | 51=>394 | 20=>20 | 213=>395 | 232=>426 | 233=>427 | 80=>299 | n=>n,fun | 15=>1 | 16=>2 | 17=>3 | 18=>6 | 19=>7 | n=>n⟩
theorem Kb:Go.Proofs.LaysC.n172 Tryz.prog Gu:= {
 mixed:=by kernel_rfl
 f129:=Tryz.func394.trans (congrArg some (by kernel_rfl))
 f171:=Tryz.func254.trans (congrArg some (by kernel_rfl))
 f172:=Tryz.func266.trans (congrArg some (by kernel_rfl))
 f205:=Tryz.func387.trans (congrArg some (by kernel_rfl))
 f243:=Tryz.func293.trans (congrArg some (by kernel_rfl))
 f244:=Tryz.func315.trans (congrArg some (by kernel_rfl))
 f245:=Tryz.func316.trans (congrArg some (by kernel_rfl))
 f246:=Tryz.func330.trans (congrArg some (by kernel_rfl))
 f247:=Tryz.func356.trans (congrArg some (by kernel_rfl))
 f279:=Tryz.func357.trans (congrArg some (by kernel_rfl))
 f280:=Tryz.func358.trans (congrArg some (by kernel_rfl))
 f281:=Tryz.func359.trans (congrArg some (by kernel_rfl))
 f282:=Tryz.func360.trans (congrArg some (by kernel_rfl))
 f283:=Tryz.func369.trans (congrArg some (by kernel_rfl))
 f284:=Tryz.func370.trans (congrArg some (by kernel_rfl))
 f285:=Tryz.func371.trans (congrArg some (by kernel_rfl))
 f286:=Tryz.func372.trans (congrArg some (by kernel_rfl))
 f287:=Tryz.func385.trans (congrArg some (by kernel_rfl))
 f316:=Tryz.func386.trans (congrArg some (by kernel_rfl))
 f317:=Tryz.func393.trans (congrArg some (by kernel_rfl))
 f318:=Tryz.func395.trans (congrArg some (by kernel_rfl))
 f319:=Tryz.func396.trans (congrArg some (by kernel_rfl))
 f320:=Tryz.func397.trans (congrArg some (by kernel_rfl))
 f321:=Tryz.func404.trans (congrArg some (by kernel_rfl))
 f322:=Tryz.func405.trans (congrArg some (by kernel_rfl))
 f337:=Tryz.func411.trans (congrArg some (by kernel_rfl))
 f338:=Tryz.func412.trans (congrArg some (by kernel_rfl))
 t0:=Tryz.underlying0
 a0:=Tryz.isAgg0
 z0:=Tryz.sizeOf0
 v0:=Tryz.zeroValue0
 t2:=Tryz.underlying2
 a2:=Tryz.isAgg2
 z2:=Tryz.sizeOf2
 v2:=Tryz.zeroValue2
 t3:=Tryz.underlying3
 a3:=Tryz.isAgg3
 z3:=Tryz.sizeOf3
 v3:=Tryz.zeroValue3
 t4:=Tryz.underlying4
 a4:=Tryz.isAgg4
 z4:=Tryz.sizeOf4
 v4:=Tryz.zeroValue4
 t5:=Tryz.underlying5
 a5:=Tryz.isAgg5
 z5:=Tryz.sizeOf5
 v5:=Tryz.zeroValue5
 t9:=Tryz.underlying9
 a9:=Tryz.isAgg9
 z9:=Tryz.sizeOf9
 v9:=Tryz.zeroValue9
 t20:=Tryz.underlying20
 a20:=Tryz.isAgg20
 z20:=Tryz.sizeOf20
 v20:=Tryz.zeroValue20
 t21:=Tryz.underlying21
 a21:=Tryz.isAgg21
 z21:=Tryz.sizeOf21
 v21:=Tryz.zeroValue21
 t37:=Tryz.underlying22
 a37:=Tryz.isAgg22
 z37:=Tryz.sizeOf22
 v37:=Tryz.zeroValue22
 t46:=Tryz.underlying255
 a46:=Tryz.isAgg255
 z46:=Tryz.sizeOf255
 v46:=Tryz.zeroValue255
 t51:=Tryz.underlying394
 a51:=Tryz.isAgg394
 z51:=Tryz.sizeOf394
 v51:=Tryz.zeroValue394
 t53:=Tryz.underlying366
 a53:=Tryz.isAgg366
 z53:=Tryz.sizeOf366
 v53:=Tryz.zeroValue366
 t75:=Tryz.underlying276
 a75:=Tryz.isAgg276
 z75:=Tryz.sizeOf276
 v75:=Tryz.zeroValue276
 t76:=Tryz.underlying277
 a76:=Tryz.isAgg277
 z76:=Tryz.sizeOf277
 v76:=Tryz.zeroValue277
 t85:=Tryz.underlying353
 a85:=Tryz.isAgg353
 z85:=Tryz.sizeOf353
 v85:=Tryz.zeroValue353
 t127:=Tryz.underlying334
 a127:=Tryz.isAgg334
 z127:=Tryz.sizeOf334
 v127:=Tryz.zeroValue334
 t143:=Tryz.underlying410
 a143:=Tryz.isAgg410
 z143:=Tryz.sizeOf410
 v143:=Tryz.zeroValue410
 t145:=Tryz.underlying412
 a145:=Tryz.isAgg412
 z145:=Tryz.sizeOf412
 v145:=Tryz.zeroValue412
 t167:=Tryz.underlying352
 a167:=Tryz.isAgg352
 z167:=Tryz.sizeOf352
 v167:=Tryz.zeroValue352
 t168:=Tryz.underlying355
 a168:=Tryz.isAgg355
 z168:=Tryz.sizeOf355
 v168:=Tryz.zeroValue355
 t171:=Tryz.underlying365
 a171:=Tryz.isAgg365
 z171:=Tryz.sizeOf365
 v171:=Tryz.zeroValue365
 t173:=Tryz.underlying369
 a173:=Tryz.isAgg369
 z173:=Tryz.sizeOf369
 v173:=Tryz.zeroValue369
 t175:=Tryz.underlying379
 a175:=Tryz.isAgg379
 z175:=Tryz.sizeOf379
 v175:=Tryz.zeroValue379
 t210:=Tryz.underlying383
 a210:=Tryz.isAgg383
 z210:=Tryz.sizeOf383
 v210:=Tryz.zeroValue383
 t212:=Tryz.underlying393
 a212:=Tryz.isAgg393
 z212:=Tryz.sizeOf393
 v212:=Tryz.zeroValue393
 t213:=Tryz.underlying395
 a213:=Tryz.isAgg395
 z213:=Tryz.sizeOf395
 t232:=Tryz.underlying426
 a232:=Tryz.isAgg426
 z232:=Tryz.sizeOf426
 v232:=Tryz.zeroValue426
 t233:=Tryz.underlying427
 a233:=Tryz.isAgg427
 z233:=Tryz.sizeOf427
 v233:=Tryz.zeroValue427
 g15:=by kernel_rfl
 g16:=by kernel_rfl
 g17:=by kernel_rfl
 g18:=by kernel_rfl
 g19:=by kernel_rfl
 t80:=Tryz.underlying299
 a80:=Tryz.isAgg299
 z80:=Tryz.sizeOf299
 v80:=Tryz.zeroValue299
 i0:=by kernel_rfl
 i2:=by kernel_rfl
 i3:=by kernel_rfl
 i4:=by kernel_rfl
 i5:=by kernel_rfl
 i9:=by kernel_rfl
 i20:=by kernel_rfl
 i21:=by kernel_rfl
 i37:=by kernel_rfl
 i46:=by kernel_rfl
 i51:=by kernel_rfl
 i53:=by kernel_rfl
 i75:=by kernel_rfl
 i76:=by kernel_rfl
 i80:=by kernel_rfl
 i85:=by kernel_rfl
 i127:=by kernel_rfl
 i143:=by kernel_rfl
 i145:=by kernel_rfl
 i167:=by kernel_rfl
 i168:=by kernel_rfl
 i171:=by kernel_rfl
 i173:=by kernel_rfl
 i175:=by kernel_rfl
 i210:=by kernel_rfl
 i212:=by kernel_rfl
 i232:=by kernel_rfl
 i233:=by kernel_rfl
 m15:=by kernel_rfl
 m16:=by kernel_rfl
 m17:=by kernel_rfl
 m18:=by kernel_rfl
 m19:=by kernel_rfl
 c0:=by kernel_rfl
 c2:=by kernel_rfl
 c3:=by kernel_rfl
 c4:=by kernel_rfl
 c5:=by kernel_rfl
 c9:=by kernel_rfl
 c20:=by kernel_rfl
 c21:=by kernel_rfl
 c37:=by kernel_rfl
 c46:=by kernel_rfl
 c51:=by kernel_rfl
 c53:=by kernel_rfl
 c75:=by kernel_rfl
 c76:=by kernel_rfl
 c80:=by kernel_rfl
 c85:=by kernel_rfl
 c127:=by kernel_rfl
 c143:=by kernel_rfl
 c145:=by kernel_rfl
 c167:=by kernel_rfl
 c168:=by kernel_rfl
 c171:=by kernel_rfl
 c173:=by kernel_rfl
 c175:=by kernel_rfl
 c210:=by kernel_rfl
 c212:=by kernel_rfl
 c213:=by kernel_rfl
 c232:=by kernel_rfl
 c233:=by kernel_rfl }
theorem Ot:Go.Proofs.Builder.Extra Tryz.prog xV where
 sizeBuilder:=by kernel_rfl
 liesBuilder:=by kernel_rfl
 t5:=Tryz.underlying5
 a5:=Tryz.isAgg5
 z5:=Tryz.sizeOf5
 v5:=Tryz.zeroValue5
 infoByte:=by kernel_rfl
 cellsByte:=by kernel_rfl
 sizeByte:=by kernel_rfl
 neB5:=by decide
end R
namespace R
open Go.RowKit
open D
def FldAll (P:Program) (T:TypeId):Nat->List (Nat×Nat)->Prop
 | _,[] =>True
 | i,q::l=>TF P T i q.1 q.2/\FldAll P T (i+1) l
theorem FldAll.get {P:Program} {T:TypeId} : ∀ {l:List (Nat×Nat)} {i:Nat},FldAll P T i l-> ∀f q,l[f]? =some q->TF P T (i+f) q.1 q.2
 | [],_,_,f,q,h=>by simp at h
 | x::l,i,⟨h1,h2⟩,f,q,h=>by
  cases f with
  | zero=>simp at h;subst h;exact h1
  | succ f =>
   have:=FldAll.get h2 f q (by simpa using h)
   rwa [show i+1+f=i+(f+1) from by omega] at this
section
variable {P:Program} {T:TypeId}
theorem uq {n b:Nat} {ty:Ty} {z:Value} {boo:Bool} {ik:Option (Option IntKind)} (h1:TI P T false 1) (h2:ty.size=1) (h3:TZ P T z 1 b) (h4:z.cells=(zeroCells ty).toArray) (h5:1<=b) (h6:boo=true->P.underlying T=some .bool) (h7: ∀k,ik=some k->P.underlying T=some (ikD k)):TDok P T ⟨false,1,none,ty,[],some b,none,boo,none,none,ik,false,none⟩:=
 ⟨h1,rfl,h2,fun E h=>by simp at h,fun f q h=>by simp at h,fun b' h=>by obtain rfl:=ae h;exact ⟨z,h3,h4,h5⟩,fun pl h=>by simp at h,h6,(fun ks h=>by cases h),(fun m h=>by cases h),h7,(fun h=>by cases h),fun e h=>by cases h⟩
theorem pf {E:TypeId} {t:Ty} (h1:TI P T false 1) (h2:P.underlying T=some (.slice E)) (h3:TZ P T (.slice none 0 0) 1 24):TDok P T ⟨false,1,some E,.sl E t,[],some 24,none,false,none,none,none,false,none⟩:=
 ⟨h1,rfl,rfl,fun E' h=>by obtain rfl:=ae h;exact h2,fun f q h=>by simp at h,fun b' h=>by obtain rfl:=ae h;exact ⟨_,h3,rfl,by decide⟩,fun pl h=>by simp at h,(fun h=>by cases h),(fun ks h=>by cases h),(fun m h=>by cases h),(fun k h=>by cases h),(fun h=>by cases h),fun e h=>by cases h⟩
theorem l5 {n b:Nat} {ty:Ty} {fs pl:List (Nat×Nat)} {z:Value} {eq:Option (List (Option IntKind))} (h1:TI P T true n) (h2:ty.size=n) (h3:FldAll P T 0 fs) (h4:TZ P T z n b) (h5:z.cells=(zeroCells ty).toArray) (h6:1<=b) (h7:TB P T pl) (h8: ∀ks,eq=some ks-> ∀w,Curq ks fun xs ys r=>EqT P T (.agg xs.toArray) (.agg ys.toArray) r w):TDok P T ⟨true,n,none,ty,fs,some b,some pl,false,eq,none,none,false,none⟩:=
 ⟨h1,rfl,h2,fun E h=>by simp at h,fun f q h=>by have:=h3.get f q h;rwa [Nat.zero_add] at this,fun b' h=>by obtain rfl:=ae h;exact ⟨z,h4,h5,h6⟩,fun pl' h=>by obtain rfl:=ae h;exact h7,(fun h=>by cases h),h8,(fun m h=>by cases h),(fun k h=>by cases h),(fun h=>by cases h),fun e h=>by cases h⟩
theorem D1 {ty:Ty} {b:Nat} (h1:TI P T false 1) (h2:ty.size=1) (h3:TZ P T .nilFunc 1 b):TDok P T ⟨false,1,none,ty,[],none,none,false,none,none,none,true,none⟩:=
 ⟨h1,rfl,h2,fun E h=>by simp at h,fun f q h=>by simp at h,(fun b' h=>by cases h),(fun pl h=>by cases h),(fun h=>by cases h),(fun ks h=>by cases h),(fun m' h=>by cases h),(fun k h=>by cases h),(fun _=>⟨b,h3⟩),fun e h=>by cases h⟩
theorem Y3 {m:MD} {ty:Ty} (h1:TI P T false 1) (h2:ty.size=1) (h3:MDok P T m):TDok P T ⟨false,1,none,ty,[],none,none,false,none,some m,none,false,none⟩:=
 ⟨h1,rfl,h2,fun E h=>by simp at h,fun f q h=>by simp at h,(fun b' h=>by cases h),(fun pl h=>by cases h),(fun h=>by cases h),(fun ks h=>by cases h),(fun m' h=>by obtain rfl:=ae h;exact h3),(fun k h=>by cases h),(fun h=>by cases h),fun e h=>by cases h⟩
theorem Y4 {e E:TypeId} {u:Ty} (h1:TI P T false 1) (h2:P.underlying T=some (.pointer e)) (h3:TZ P T (.pointer none) 1 8):TDok P T ⟨false,1,none,.fro (.tree e E u),[],some 8,none,false,none,none,none,false,some e⟩:=
 ⟨h1,rfl,rfl,fun E' h=>by simp at h,fun f q h=>by simp at h,fun b' h=>by obtain rfl:=ae h;exact ⟨_,h3,rfl,by decide⟩,fun pl h=>by simp at h,(fun h=>by cases h),(fun ks h=>by cases h),(fun m h=>by cases h),(fun k h=>by cases h),(fun h=>by cases h),fun e' h=>by obtain rfl:=ae h;exact h2⟩
end
end R
end Go.Proofs.YtcobhgbgllfniaaGreatDoor
