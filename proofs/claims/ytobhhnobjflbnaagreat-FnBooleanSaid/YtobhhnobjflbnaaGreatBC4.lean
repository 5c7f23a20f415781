/- FnBoolean: for every input the law returns true and changes nothing that was there. Part 5 of 6. -/
import Derived.Test.YtobhhnobjflbnaaGreatBC3
set_option linter.unusedVariables false
set_option linter.unusedSimpArgs false
set_option linter.unnecessarySimpa false
set_option linter.unusedSectionVars false
set_option maxRecDepth 1000000
namespace Go.Proofs.YtobhhnobjflbnaaGreat
namespace R
open Go.RowKit
open D
def CS (i:Nat):(p:PM)->p.den->AV
 | .rd t,d=>Bj i t d
 | .ow t,d=>BD (fm i [] t d)
 | .fn a b,d=>.one (.fn ⟨i,[]⟩ a b d)
 | .cap T t,d=>.one (.fz ⟨i,[]⟩ T t d 0)
 | .capf T a b,d=>.one (.fzf ⟨i,[]⟩ T a b d)
 | .ptr _ _,_=>.one (.ptr ⟨i,[]⟩ 0)
 | .eat t,d=>BD (fm i [] t d)
 | .fk g,_=>.one (.val (.func (.func g) #[] #[]))
 | .crs _ _,_=>.one (.ptr ⟨i,[]⟩ 0)
def y7 (q i:Nat):(p:PM)->p.den->List (Hdr×Chk)
 | .ow t,d=>fM i [] t d
 | .ptr T t,d=>[(⟨i,[]⟩,.box T t d)]
 | .eat t,d=>fM i [] t d
 | .crs T E,d=>[(⟨i,[]⟩,.blk T [.rd ⟨q,[]⟩ (.sl E (.int .u8)) d.1,.val (.int .i64 d.2.1),.val (.int .i64 d.2.2)])]
 | _,_=>[]
def y8:(i:Nat)->(ps:List PM)->denP ps->List (Nat×Nat×AV)
 | _,[],_=>[]
 | i,p::ps,d=>(i,i,CS i p d.1)::y8 (i+1) ps d.2
def vE (q:Nat):(i:Nat)->(ps:List PM)->denP ps->List Ent
 | _,[],_=>[]
 | i,p::ps,d=>(y7 q i p d.1).map (fun g=>(g.1,i,g.2))++vE q (i+1) ps d.2
def qc (ps:List PM) (d:denP ps):Sg:=⟨y8 0 ps d,vE ps.length 0 ps d,ps.length+1⟩
def MY (P:Program) (w0:World) (J:Hp) (θ:Th) (n i:Nat):(p:PM)->Value->p.den->Prop
 | .ow t,v,d=>(fm i [] t d).2.map (·.v θ)=eC t.isProd v/\ ∀x∈(fm i [] t d).2,x.ok P w0 J θ n
 | .ptr _ _,v,_=>hv θ ⟨i,[]⟩=v/\i<n
 | .crs _ _,v,_=>hv θ ⟨i,[]⟩=v/\i<n
 | _,_,_=>True
def StF (P:Program) (w0:World) (J:Hp) (θ:Th) (n:Nat):(i:Nat)->(ps:List PM)->List Value->denP ps->Prop
 | i,p::ps,v::vs,d=>MY P w0 J θ n i p v d.1/\StF P w0 J θ n (i+1) ps vs d.2
 | _,_,_,_=>True
section
variable {P:Program} {w0 w:World} {J:Hp} {θ:Th} {n:Nat} {C:List Ch}
theorem ot {id:Nat} {pre:List Nat} {t:Ty} {d:t.den} : ∀g∈fM id pre t d,EC g.2:=dE t d 0
theorem CT {p:PM} {i:Nat} {v:Value} {d:p.den} {ps:List PM} {vs:List Value} {e:denP ps} {γ:Value} {q:Nat} (hi:i<n) (hq:q<n) (hγ:θ q=γ) (hθ:θ i=v) (h:Ma P w0 J γ p v d) (hS:St J w0 w (owCh γ (p::ps) (v::vs) (d,e)++C)) :
  (∀chs,(CS i p d).ok P w0 J θ n chs)/\(CS i p d).v θ=v/\St J w0 w ((y7 q i p d).map (fun g=>toCh P θ (g.1,i,g.2))++(owCh γ ps vs e++C))/\(∀g∈y7 q i p d,Iq P w0 J θ n g.2/\g.1.id=i)/\MY P w0 J θ n i p v d:=by
 cases p with
 | rd t =>
  obtain ⟨cs,h1,h2⟩:=h
  have hav:=fun chs=>jg (P:=P) (w0:=w0) (J:=J) (chs:=chs) hi hθ t d cs h2 h1
  exact ⟨fun chs=>(hav chs).1,(hav []).2,hS,fun g hg=>(by cases hg),trivial⟩
 | fn a b =>
  have hh:hv θ ⟨i,[]⟩=v:=hθ
  exact ⟨fun chs=>⟨hi,by rw[hh];exact h⟩,hh,hS,fun g hg=>(by cases hg),trivial⟩
 | cap T t =>
  obtain ⟨b,rfl,cells,h1,h2⟩:=h
  have hh:hv θ ⟨i,[]⟩= .pointer (some ⟨b,0,none⟩):=hθ
  refine ⟨fun chs=>⟨hi,cells,by rw[hh];exact h1,h2⟩,?_,hS,fun g hg=>(by cases hg),trivial⟩
  show Value.pointer (some ⟨bk (hv θ ⟨i,[]⟩),0,none⟩)=_
  rw[hh];rfl
 | capf T x y =>
  obtain ⟨b,rfl,u,h1,h2⟩:=h
  have hh:hv θ ⟨i,[]⟩= .pointer (some ⟨b,0,none⟩):=hθ
  refine ⟨fun chs=>⟨hi,u,by rw[hh];exact h1,h2⟩,?_,hS,fun g hg=>(by cases hg),trivial⟩
  show Value.pointer (some ⟨bk (hv θ ⟨i,[]⟩),0,none⟩)=_
  rw[hh];rfl
 | ptr T t =>
  obtain ⟨b,rfl⟩:=h
  have hh:hv θ ⟨i,[]⟩= .pointer (some ⟨b,0,none⟩):=hθ
  refine ⟨fun chs=>hi,?_,?_,fun g hg=>by obtain rfl:=al hg;exact ⟨.inl trivial,rfl⟩,hh,hi⟩
  ·show Value.pointer (some ⟨bk (hv θ ⟨i,[]⟩),0,none⟩)=_
   rw[hh];rfl
  ·show St J w0 w (Ch.box (bk (hv θ ⟨i,[]⟩)) T t.rep d::_)
   rw[hh];exact hS
 | ow t =>
  have hS:St J w0 w (Ch.own t.rep (eC t.isProd v) d::(owCh γ ps vs e++C)):=hS
  obtain ⟨k1,k2,k3,k4,k5⟩:=mK (P:=P) (m:=i) (pre:=[]) (id:=i) (n:=n) hi (show hv θ ⟨i,[]⟩=v from hθ) h hS
  have q:=fun chs=>sU (P:=P) (w0:=w0) (J:=J) (θ:=θ) (n:=n) (chs:=chs) (fm i [] t d) (fun e=>kA e) k1
  exact ⟨fun chs=>(q chs).1,(q []).2.trans k3,k5,fun g hg=>⟨.inl (ot g hg),k4 g hg⟩,k2,k1⟩
 | eat t =>
  have hS:St J w0 w (Ch.own t.rep (eC t.isProd v) d::(owCh γ ps vs e++C)):=hS
  obtain ⟨k1,k2,k3,k4,k5⟩:=mK (P:=P) (m:=i) (pre:=[]) (id:=i) (n:=n) hi (show hv θ ⟨i,[]⟩=v from hθ) h hS
  have q:=fun chs=>sU (P:=P) (w0:=w0) (J:=J) (θ:=θ) (n:=n) (chs:=chs) (fm i [] t d) (fun e=>kA e) k1
  exact ⟨fun chs=>(q chs).1,(q []).2.trans k3,k5,fun g hg=>⟨.inl (ot g hg),k4 g hg⟩,trivial⟩
 | fk g =>
  obtain rfl:=h
  exact ⟨fun chs=>rfl,rfl,hS,fun g hg=>(by cases hg),trivial⟩
 | crs T E =>
  obtain ⟨⟨b,rfl⟩,hrd⟩:=h
  have hh:hv θ ⟨i,[]⟩= .pointer (some ⟨b,0,none⟩):=hθ
  have hg0:hv θ ⟨q,[]⟩=γ:=hγ
  refine ⟨fun chs=>hi,?_,?_,fun g hg=>?_,hh,hi⟩
  ·show Value.pointer (some ⟨bk (hv θ ⟨i,[]⟩),0,none⟩)=_
   rw[hh];rfl
  ·show St J w0 w (Ch.blk (bk (hv θ ⟨i,[]⟩)) [hv θ ⟨q,[]⟩,.int .i64 d.2.1,.int .i64 d.2.2] T::_)
   rw[hh,hg0];exact hS
  ·obtain rfl:=al hg
   refine ⟨.inr ⟨_,_,rfl,fun z hz=>?_⟩,rfl⟩
   rcases ax hz with rfl | hz
   ·exact ⟨hq,by rw[hg0];exact hrd⟩
   ·rcases ax hz with rfl | hz
    ·exact Eq.refl true
    ·obtain rfl:=al hz
     exact Eq.refl true
theorem za {γ:Value} {q:Nat} (hq:q<n) (hγ:θ q=γ): ∀ {ps:List PM} {i:Nat} {vs:List Value} {d:denP ps} {C:List Ch},PArgs P w0 J γ ps vs d->(∀j v,vs[j]? =some v->θ (i+j)=v)->i+ps.length<=n->St J w0 w (owCh γ ps vs d++C)->
  (∀e∈y8 i ps d,(∀chs,e.2.2.ok P w0 J θ n chs)/\i<=e.1/\e.2.1=e.1/\e.1<i+ps.length/\vs[e.1 - i]? =some (e.2.2.v θ))/\((y8 i ps d).Pairwise fun a b=>a.2.1≠b.2.1)/\St J w0 w ((vE q i ps d).map (toCh P θ)++C)/\(∀e∈vE q i ps d,∀chs,okE P w0 J θ n chs e)/\StF P w0 J θ n i ps vs d
 | [],i,vs,d,C,h,_,_,hS=>by
  have h:vs= []:=h
  subst h
  exact ⟨fun e he=>(by cases he),List.Pairwise.nil,hS,fun e he=>(by cases he),trivial⟩
 | p::ps,i,vs,d,C,h,hθ,hn,hS=>by
  obtain ⟨v,r,rfl,h1,h3⟩:=h
  rw[az] at hn
  obtain ⟨a1,a2,a3,a4,a5⟩:=CT (n:=n) (i:=i) (θ:=θ) (e:=d.2) (show i<n by omega) hq hγ (hθ 0 v rfl) h1 hS
  obtain ⟨k1,k2,k3,k4,k5⟩:=za hq hγ (i:=i+1) h3 (fun j u hj=>by
   have:=hθ (j+1) u hj
   rwa [show i+(j+1)=i+1+j from by omega] at this) (by omega) (a3.perm (List.perm_append_comm_assoc _ _ _))
  refine ⟨fun e he=>?_,List.pairwise_cons.2 ⟨fun e he hh=>?_,k2⟩,?_,fun e he chs=>?_,a5,k5⟩
  ·rcases ax he with rfl | he
   ·exact ⟨a1,aA _,rfl,by rw[az];show i<_;omega,by show (v::r)[i - i]? =_;rw[Nat.sub_self,a2];rfl⟩
   ·obtain ⟨q1,q2,q3,q4,q5⟩:=k1 e he
    refine ⟨q1,by omega,q3,by rw[az];omega,?_⟩
    rw[show e.1 - i=(e.1 - (i+1))+1 from by omega];exact q5
  ·have:=k1 e he
   have hh:i=e.2.1:=hh
   omega
  ·show St J w0 w (((y7 q i p d.1).map _++vE q (i+1) ps d.2).map (toCh P θ)++C)
   rw[aH,List.map_map]
   refine k3.perm ?_
   rw[ah]
   exact List.perm_append_comm_assoc _ _ _
  ·rcases aB he with he | he
   ·obtain ⟨g,hg,rfl⟩:=List.mem_map.1 he
    obtain ⟨g1,g2⟩:=a4 g hg
    exact sZ g1 (aA _) (by omega) (by omega)
   ·exact k4 e he chs
theorem vF {γ:Value} : ∀ {ps:List PM} {vs:List Value} {d:denP ps},PArgs P w0 J γ ps vs d->vs.length=ps.length
 | [],vs,d,h=>by
  have h:vs= []:=h
  subst h;rfl
 | p::ps,vs,d,h=>by
  obtain ⟨v,r,rfl,h1,h3⟩:=h
  simpa using vF h3
end
def Jb (tt:TT) (s:Sg):ResultVar->Option AV
 | .tmp t=>look s.env t
 | .cell p T=>(DZ (look s.env p)).bind fun h=>(td tt T).bind fun d=>(lX h s.chs).bind fun b=>ba (Nat.beq b.cells.length d.n) (L8 d.agg b.cells)
theorem Jc {v:Option AV} {h:Hdr} (k:DZ v=some h):v=some (.one (.ptr h 0)):=by
 unfold DZ at k
 split at k
 ·rename_i h' off
  split at k
  ·rename_i ho
   rw[ak ho,aa k]
  ·cases k
 ·cases k
section
variable {P:Program} {I:Hp} {w0 w:World} {F:Ch} {J:Hp} {θ:Th} {n:Nat} {s:Sg} {a:Act} {tt:TT}
theorem Jd (ha:Agr n a (envL θ s)) {t g:Nat} {T E:TypeId} {v:Value} {cs:List Ch} (h:(envL θ s).lookup t=some (.pointer (some ⟨g,0,none⟩))) (hs:St J w0 w cs) (i:Nat) (hi:cs[i]? =some (Ch.blk g [v] E)) (hT:TI P T false 1):wA P a w (.cell t T) v:=by
 refine ⟨_,ha.2.2 t _ h,?_⟩
 have hg:=hs.heap i hi
 have hc:w.cell? ⟨g,0,none⟩=some v:=by simp[World.cell?,hg]
 simp[loadVar,Sem.run_bind,hT.run_agg,load,Sem.run,hc,Result.andThen]
theorem FP (hT:TTok P tt) (hS:Sim P I w0 F n J θ s a w) {r:ResultVar} {v:AV} (h:Jb tt s r=some v):wA P a w r (v.v θ)/\v.ok P w0 J θ s.nxt s.chs:=by
 cases r with
 | tmp t=>exact ⟨HG hS.agr (db h),aY (x:=.tmp t) hS.fine h⟩
 | cell p T =>
  obtain ⟨hh,h1,h⟩:=bind_some (show (DZ (look s.env p)).bind _=some v from h)
  obtain ⟨d,hd,h⟩:=bind_some h
  obtain ⟨b,hb,h⟩:=bind_some h
  obtain ⟨hl,h⟩:=ai h
  have hl:=ak hl
  have hp:=fj hb
  have hok:=hS.fine.chs _ (hp.mem_iff.2 (List.mem_cons_self ..))
  obtain ⟨k1,k2⟩:=Bx (chs:=s.chs) h hok.2.2
  refine ⟨?_,k1⟩
  have hlk:(envL θ s).lookup p=some (.pointer (some ⟨bk (hv θ hh),0,none⟩)):=db (Jc h1)
  have hst:=hS.st.perm ((hp.map (toCh P θ)).append_right [F])
  have hti:=(hT.get hd).ti
  cases hagg:d.agg with
  | true =>
   rw[hagg] at k2 hti
   rw[<-k2]
   exact D5 hS.agr hlk hst 0 rfl hti (by rw[List.length_map];exact hl)
  | false =>
   rw[hagg] at k2 hti h
   have h1':d.n=1:=by
    have:=(hT.get hd).one
    rw[hagg] at this
    simpa using this
   obtain ⟨x,hx⟩:=List.length_eq_one_iff.1 (hl.trans h1')
   rw[h1'] at hti
   rw[hx] at k2
   rw[<-k2]
   have hst2:St J w0 w (Ch.blk (bk (hv θ hh)) [x.v θ] b.T::(b.rest.map (toCh P θ)++ [F])):=by
    have:(toCh P θ (b.ent hh))=Ch.blk (bk (hv θ hh)) (b.cells.map (·.v θ)) b.T:=rfl
    rw[hx] at this
    rw[<-show toCh P θ (b.ent hh)=Ch.blk (bk (hv θ hh)) [x.v θ] b.T from this]
    exact hst
   exact Jd hS.agr hlk hst2 0 rfl hti
end
def xp:(ts:List Ty)->List AV->List Ent->Option (eB ts×List Ent×List Ent)
 | [],[],chs=>some ((),[],chs)
 | t::ts,v::vs,chs=>ba (mN v==t.isProd) ((eP v).bind fun cs=>(bM t cs chs).bind fun q=>ba q.cells.isEmpty ((xp ts vs q.rest).bind fun r=>some ((q.d,r.1),q.used++r.2.1,r.2.2)))
 | _,_,_=>none
def nM:(ts:List Ty)->List Value->eB ts->List Ch
 | t::ts,v::vs,d=>Ch.own t.rep (eC t.isProd v) d.1::nM ts vs d.2
 | _,_,_=>[]
theorem rO {P:Program} {w0:World} {J:Hp} {θ:Th} {n:Nat} {chs0:List Ent} : ∀ {ts:List Ty} {vs:List AV} {chs:List Ent} {r:eB ts×List Ent×List Ent},xp ts vs chs=some r->(∀v∈vs,v.ok P w0 J θ n chs0)->
  chs.Perm (r.2.1++r.2.2)/\vs.length=ts.length/\iV J (r.2.1.map (toCh P θ)) (nM ts (vs.map (·.v θ)) r.1)/\ ∀(i:Nat) t v,ts[i]? =some t->vs[i]? =some v->jf (v.v θ)=t.isProd
 | [],[],chs,r,h,_=>by
  obtain rfl:=aa (show some _=some r from h)
  exact ⟨List.Perm.refl _,rfl,mD,fun i t v ht=>by simp at ht⟩
 | t::ts,v::vs,chs,r,h,hv'=>by
  obtain ⟨ha,h⟩:=ai (show ba (mN v==t.isProd) _=some r from h)
  have ha:mN v=t.isProd:=by simpa using ha
  obtain ⟨cs,hcs,h⟩:=bind_some h
  obtain ⟨q,hq,h⟩:=bind_some h
  obtain ⟨he,h⟩:=ai h
  obtain ⟨r',hr,h⟩:=bind_some h
  obtain rfl:=aa h
  obtain ⟨c1,c2⟩:=dX hcs (hv' v (by simp))
  obtain ⟨p,cc,e1,e2⟩:=eQ (J:=J) (θ:=θ) hq c1
  rw[List.isEmpty_iff.1 he,List.append_nil] at e1
  subst e1
  obtain ⟨k1,k2,k3,k4⟩:=rO hr fun x hx=>hv' x (by simp[hx])
  have hcell:eC t.isProd (v.v θ)=cs.map (·.v θ)/\jf (v.v θ)=t.isProd:=by
   rw[<-ha]
   cases v with
   | agg xs =>
    obtain rfl:=aa (show some xs=some cs from hcs)
    exact ⟨rfl,rfl⟩
   | one x =>
    obtain rfl:=aa (show some [x] =some cs from hcs)
    refine ⟨rfl,?_⟩
    have h1:(x.v θ).oneCell'=true:=LV.one (show LV.ok P w0 J θ n x from hv' (.one x) (by simp))
    show jf (x.v θ)=false
    generalize x.v θ=u at h1
    cases u <;> first | rfl | cases h1
   | _=>cases hcs
  refine ⟨by rw[ah];exact p.trans (k1.append_left _),by rw[az,az,k2],?_,fun i t' v' ht hv0=>?_⟩
  ·show iV J ((q.used++r'.2.1).map _) (Ch.own t.rep (eC t.isProd (v.v θ)) q.d::nM ts (vs.map _) r'.1)
   rw[aH,hcell.1]
   exact ky e2 k3
  ·cases i with
   | zero =>
    obtain rfl:t=t':=by simpa using ht
    obtain rfl:v=v':=by simpa using hv0
    exact hcell.2
   | succ i=>exact k4 i t' v' (by simpa using ht) (by simpa using hv0)
 | [],_::_,chs,r,h,_=>by cases h
 | _::_,[],chs,r,h,_=>by cases h
def LS:List Value->Value
 | [v] =>v
 | vs=>.tuple vs.toArray
def zb (P:Program) (a:Act) (w:World):List ResultVar->List Value->Prop
 | [],vs=>vs= []
 | r::rs,vs=> ∃v us,vs=v::us/\wA P a w r v/\zb P a w rs us
theorem ou {P:Program} {a:Act} {w:World} {f:ResultVar->Sem Value} (hf: ∀r v,wA P a w r v->(f r).run P w= .ok v w): ∀ {l:List ResultVar} {vs:List Value},zb P a w l vs->(l.mapM f).run P w= .ok vs w
 | [],vs,h=>by
  have h:vs= []:=h
  subst h
  rw[List.mapM_nil];rfl
 | r::l,vs,h=>by
  obtain ⟨v,us,rfl,h1,h2⟩:=h
  rw[List.mapM_cons,Sem.run_bind,hf r v h1]
  simp only[Result.andThen_ok,Sem.run_bind,ou hf h2]
  rfl
def LU (a:Act) (r:ResultVar):Sem Value:=match r with
 | .tmp t=>pure (a.tmps.getD t undef)
 | .cell p t=>do loadVar t (<-asAddr (a.tmps.getD p undef))
theorem Je {P:Program} {a:Act} {w:World} {r:ResultVar} {v:Value} (h:wA P a w r v):(LU a r).run P w= .ok v w:=by
 cases r with
 | tmp t =>
  have h:a.tmps.getD t undef=v:=h
  show (pure (a.tmps.getD t undef):Sem Value).run P w=_
  rw[h];rfl
 | cell p T =>
  obtain ⟨A,h1,h2⟩:=h
  show ((asAddr (a.tmps.getD p undef)) >>=fun x=>loadVar T x).run P w=_
  rw[h1,Sem.run_bind]
  show Result.andThen (.ok A w) _=_
  rw[Result.andThen_ok];exact h2
theorem KP {P:Program} {n:Nat} {a:Act} {w:World} {L:List (Nat×Value)} {fn:Func} {R:Ending->World->Prop} {vs:List Value} (ha:Agr n a L) (h:zb P a w fn.results.toList vs) (hR:R (.returned (LS vs)) w):bodyPost P fn R .ret a w:=by
 refine ⟨ha.1,LS vs,?_,hR⟩
 have hr:((fn.results.mapM (LU a)):Sem (Array Value)).run P w= .ok vs.toArray w:=by
  rw[Array.mapM_eq_mapM_toList]
  have:=ou (f:=LU a) (fun r v=>Je) h
  simp[this,Sem.run_map]
 show ((fn.results.mapM (LU a)) >>=fun vs=>pure (if h:vs.size=1 then vs[0] else .tuple vs):Sem Value).run P w=_
 rw[Sem.run_bind,hr,Result.andThen_ok]
 match vs with
 | [] =>rfl
 | [v] =>rfl
 | _::_::_=>rfl
def cw (g0:Nat):(i:Nat)->(ps:List PM)->denP ps->List Ent->Option (eB (outs ps)×List Ent×List Ent)
 | _,[],_,chs=>some ((),[],chs)
 | i,.ow t::ps,d,chs=>(bM t (fm i [] t d.1).2 chs).bind fun q=>ba q.cells.isEmpty ((cw g0 (i+1) ps d.2 q.rest).bind fun r=>some ((q.d,r.1),q.used++r.2.1,r.2.2))
 | i,.ptr T t::ps,d,chs=>(pJ ⟨i,[]⟩ T t chs).bind fun q=>(cw g0 (i+1) ps d.2 q.2.2).bind fun r=>some ((q.1,r.1),q.2.1++r.2.1,r.2.2)
 | i,.rd _::ps,d,chs=>cw g0 (i+1) ps d.2 chs
 | i,.fn _ _::ps,d,chs=>cw g0 (i+1) ps d.2 chs
 | i,.eat _::ps,d,chs=>cw g0 (i+1) ps d.2 chs
 | i,.cap _ _::ps,d,chs=>cw g0 (i+1) ps d.2 chs
 | i,.capf _ _ _::ps,d,chs=>cw g0 (i+1) ps d.2 chs
 | i,.fk _::ps,d,chs=>cw g0 (i+1) ps d.2 chs
 | i,.crs T E::ps,d,chs=>(lZ ⟨i,[]⟩ T E chs).bind fun q=>ba (Hdr.beq q.g ⟨g0,[]⟩) ((cw g0 (i+1) ps d.2 q.rest).bind fun r=>some ((q.d.2,r.1),q.ent::r.2.1,r.2.2))
theorem cC {P:Program} {w0:World} {J J':Hp} {θ θ':Th} {n n':Nat} {chs0:List Ent} (hJ:J.le J') (hs:Same n θ θ') {γ:Value} {g0:Nat} (hg0:g0<n) (hγ:θ g0=γ): ∀ {ps:List PM} {i:Nat} {d:denP ps} {chs:List Ent} {vs:List Value} {r:eB (outs ps)×List Ent×List Ent},cw g0 i ps d chs=some r->vs.length=ps.length->StF P w0 J θ n i ps vs d->(∀e∈chs,okE P w0 J' θ' n' chs0 e)->
  chs.Perm (r.2.1++r.2.2)/\iV J' (r.2.1.map (toCh P θ')) (outCh γ ps vs r.1)
 | [],i,d,chs,vs,r,h,_,_,_=>by
  obtain rfl:=aa (show some _=some r from h)
  exact ⟨List.Perm.refl _,mD⟩
 | p::ps,i,d,chs,[],r,h,hl,_,_=>by cases hl
 | .ow t::ps,i,d,chs,v::vs,r,h,hl,hF,hc=>by
  obtain ⟨q,hq,h⟩:=bind_some (show (bM t (fm i [] t d.1).2 chs).bind _=some r from h)
  obtain ⟨he,h⟩:=ai h
  obtain ⟨r',hr,h⟩:=bind_some h
  obtain rfl:=aa h
  obtain ⟨⟨k1,k2⟩,k3⟩:=hF
  obtain ⟨p,cc,e1,e2⟩:=eQ (P:=P) (w0:=w0) (J:=J') (θ:=θ') (n:=n) hq fun x hx=>LV.ok_same hs (aA _) (k2 x hx) hJ
  rw[List.isEmpty_iff.1 he,List.append_nil] at e1
  subst e1
  rw[dk hs k2,k1] at e2
  obtain ⟨q1,q2⟩:=cC hJ hs hg0 hγ hr (by simpa using hl) k3 fun e he=>hc e (p.mem_iff.2 (by simp[he]))
  refine ⟨by rw[ah];exact p.trans (q1.append_left _),?_⟩
  show iV J' ((q.used++r'.2.1).map _) (Ch.own t.rep (eC t.isProd v) q.d::outCh γ ps vs r'.1)
  rw[aH]
  exact ky e2 q2
 | .ptr T t::ps,i,d,chs,v::vs,r,h,hl,hF,hc=>by
  obtain ⟨q,hq,h⟩:=bind_some (show (pJ ⟨i,[]⟩ T t chs).bind _=some r from h)
  obtain ⟨r',hr,h⟩:=bind_some h
  obtain rfl:=aa h
  obtain ⟨⟨k1,k2⟩,k3⟩:=hF
  obtain ⟨p,hb⟩:=ry (P:=P) (w0:=w0) (J:=J') (J':=J') (θ:=θ') hq Hp.le.rfl hc
  obtain ⟨q1,q2⟩:=cC hJ hs hg0 hγ hr (by simpa using hl) k3 fun e he=>hc e (p.mem_iff.2 (by simp[he]))
  refine ⟨by rw[ah];exact p.trans (q1.append_left _),?_⟩
  show iV J' ((q.2.1++r'.2.1).map _) (Ch.box (bk v) T t.rep q.1::outCh γ ps vs r'.1)
  rw[aH]
  have hh:hv θ' ⟨i,[]⟩=v:=(aP hs (show (⟨i,[]⟩:Hdr).id<n from k2)).trans k1
  rw[hh] at hb
  intro w F hsp
  obtain ⟨G,K,rfl,h1,h2⟩:=hsp.split
  exact ⟨G,K,rfl,hb w G h1,q2 w K h2⟩
 | .rd t::ps,i,d,chs,v::vs,r,h,hl,hF,hc=>cC (ps:=ps) hJ hs hg0 hγ (show cw g0 (i+1) ps d.2 chs=some r from h) (by simpa using hl) hF.2 hc
 | .fn _ _::ps,i,d,chs,v::vs,r,h,hl,hF,hc=>cC (ps:=ps) hJ hs hg0 hγ (show cw g0 (i+1) ps d.2 chs=some r from h) (by simpa using hl) hF.2 hc
 | .eat _::ps,i,d,chs,v::vs,r,h,hl,hF,hc=>cC (ps:=ps) hJ hs hg0 hγ (show cw g0 (i+1) ps d.2 chs=some r from h) (by simpa using hl) hF.2 hc
 | .cap _ _::ps,i,d,chs,v::vs,r,h,hl,hF,hc=>cC (ps:=ps) hJ hs hg0 hγ (show cw g0 (i+1) ps d.2 chs=some r from h) (by simpa using hl) hF.2 hc
 | .capf _ _ _::ps,i,d,chs,v::vs,r,h,hl,hF,hc=>cC (ps:=ps) hJ hs hg0 hγ (show cw g0 (i+1) ps d.2 chs=some r from h) (by simpa using hl) hF.2 hc
 | .fk _::ps,i,d,chs,v::vs,r,h,hl,hF,hc=>cC (ps:=ps) hJ hs hg0 hγ (show cw g0 (i+1) ps d.2 chs=some r from h) (by simpa using hl) hF.2 hc
 | .crs T E::ps,i,d,chs,v::vs,r,h,hl,hF,hc=>by
  obtain ⟨q,hq,h⟩:=bind_some (show (lZ ⟨i,[]⟩ T E chs).bind _=some r from h)
  obtain ⟨hb,h⟩:=ai h
  obtain ⟨r',hr,h⟩:=bind_some h
  obtain rfl:=aa h
  obtain ⟨⟨k1,k2⟩,k3⟩:=hF
  obtain ⟨p,ver,he⟩:=gJ hq
  obtain ⟨q1,q2⟩:=cC hJ hs hg0 hγ hr (by simpa using hl) k3 fun e he=>hc e (p.mem_iff.2 (by simp[he]))
  refine ⟨p.trans (q1.cons _),?_⟩
  have hh:hv θ' ⟨i,[]⟩=v:=(aP hs (show (⟨i,[]⟩:Hdr).id<n from k2)).trans k1
  have hg:hv θ' q.g=γ:=by
   rw[Hdr.beq_eq hb]
   show vg (θ' g0) [] =γ
   rw[hs g0 hg0,hγ];rfl
  show iV J' (toCh P θ' q.ent::r'.2.1.map _) (Ch.blk (bk v) [γ,.int .i64 q.d.2.1,.int .i64 q.d.2.2] T::outCh γ ps vs r'.1)
  rw[he]
  intro w F hsp
  obtain ⟨G,K,rfl,h1,h2⟩:=hsp
  have h1:(Ch.blk (bk (hv θ' ⟨i,[]⟩)) [hv θ' q.g,.int .i64 q.d.2.1,.int .i64 q.d.2.2] T).holds J' w G:=h1
  rw[hh,hg] at h1
  exact ⟨G,K,rfl,h1,q2 w K h2⟩
def ofH:(ts:List Ty)->eB ts->dens ts
 | [],_=>()
 | [_],d=>d.1
 | _::u::ts,d=>(d.1,ofH (u::ts) d.2)
theorem xq: ∀(ts:List Ty) (d:eB ts),toH ts (ofH ts d)=d
 | [],_=>rfl
 | [_],_=>rfl
 | _::u::ts,d=>congrArg (Prod.mk d.1) (xq (u::ts) d.2)
def Ao:(ts us:List Ty)->eB ts->eB us->eB (ts++us)
 | [],_,_,e=>e
 | _::ts,us,d,e=>(d.1,Ao ts us d.2 e)
theorem tD: ∀(ts us:List Ty) (d:eB ts) (e:eB us),hFst ts us (Ao ts us d e)=d
 | [],_,_,_=>rfl
 | _::ts,us,d,e=>congrArg (Prod.mk d.1) (tD ts us d.2 e)
theorem ze: ∀(ts us:List Ty) (d:eB ts) (e:eB us),hSnd ts us (Ao ts us d e)=e
 | [],_,_,_=>rfl
 | _::ts,us,d,e=>ze ts us d.2 e
def qd (tt:TT) (s:Sg):List ResultVar->Option (List AV)
 | [] =>some []
 | r::rs=>(Jb tt s r).bind fun v=>(qd tt s rs).bind fun vs=>some (v::vs)
def xr (s:Sg):List AV->List Hdr
 | [] =>[]
 | v::vs=>pU v++xr s vs
def oZ:List Ent->List Hdr
 | [] =>[]
 | e::l=>match e.2.2 with
  | .hole _ _ _ _ _ _ _ _ _ _=>e.1::oZ l
  | _=>oZ l
def KQ:List AV->List (Bool×Hdr)
 | [] =>[]
 | v::vs=>MW true v++KQ vs
def vG (tr:Trs) (vs:List AV) (s:Sg):Sg:=match tr with
 | [] =>s
 | _=>ES tr (KQ vs) s
def FQ (tr:Trs) (vs:List AV) (s0:Sg):Sg:=match vG tr vs s0 with
 | s=>mS (xr s0 vs++oZ s.chs) s
def nlN:List AV->(ts:List Ty)->eB ts->Int
 | [.one (.own _)],[.sl _ t],d=>((List.length (α:=t.den) d.1:Nat):Int)
 | [.one (.val v)],[.sl _ _],_=>match isNil v with
  | true=>1
  | false=>0
 | _,_,_=>0
def KR (an:List (Nat×Ty)) (vs:List AV) (ts:List Ty) (d:eB ts):Option Unit:=match rJ 1000000 an with
 | true=>chk (0<nlN vs ts d)
 | false=>some ()
theorem KS {vs:List AV} {ts:List Ty} {d:eB ts} {θ:Th} (h:0<nlN vs ts d) {v:Value} (hv:vs.map (·.v θ)= [v]):oe ts d v:=by
 unfold nlN at h
 split at h
 ·intro h0
  omega
 ·split at h
  ·rename_i h1
   intro _
   have:=gB h1
   subst this
   simpa [AV.v,LV.v] using hv.symm
  ·omega
 ·omega
def CU (V:Env) (rvs:List ResultVar) (rs:List Ty) (ps:List PM) (d:denP ps) (s00:Sg):Option (dens (rs++outs ps)):=(qd V.tt s00 rvs).bind fun vs00=>E3 vs00 s00 fun s0=>(qd V.tt s0 rvs).bind fun vs0=>match FQ V.tr vs0 s0 with
 | s=>(qd V.tt s rvs).bind fun vs=>(xp rs vs s.chs).bind fun r=>(cw ps.length 0 ps d r.2.2).bind fun o=>(KR V.an vs rs r.1).bind fun _=>some (ofH _ (Ao rs (outs ps) r.1 o.1))
end R
namespace R
open Go.RowKit
open D
theorem rP {vs:List Value} : ∀ {ts:List Ty} {i:Nat} {us:List Value} {d:eB ts},us.length=ts.length->(∀j v,us[j]? =some v->vs[i+j]? =some v)->mF i ts d (.tuple vs.toArray)=nM ts us d
 | [],i,us,d,h,_=>by
  cases us with
  | nil=>rfl
  | cons _ _=>cases h
 | t::ts,i,[],d,h,_=>by cases h
 | t::ts,i,u::us,d,h,k=>by
  have h0:vg (.tuple vs.toArray) [i] =u:=by
   show vs.toArray.getD i undef=u
   have:=k 0 u rfl
   rw[Nat.add_zero] at this
   simp[Array.getD_eq_getD_getElem?,this]
  show Ch.own t.rep (eC t.isProd (vg (.tuple vs.toArray) [i])) d.1::mF (i+1) ts d.2 _=Ch.own t.rep (eC t.isProd u) d.1::nM ts us d.2
  rw[h0,rP (us:=us) (by simpa using h) fun j v hj=>by
   have:=k (j+1) v (by simpa using hj)
   rwa [show i+(j+1)=i+1+j from by omega] at this]
theorem Ap {ts:List Ty} {vs:List Value} {d:eB ts} (h:vs.length=ts.length):resGv ts d (LS vs)=nM ts vs d:=by
 match ts,vs,d,h with
 | [],[],d,_=>rfl
 | [t],[v],d,_=>rfl
 | t::u::ts,v::w::vs,d,h =>
  show mF 0 _ d (.tuple (v::w::vs).toArray)=_
  exact rP h fun j x hj=>by rw[Nat.zero_add];exact hj
theorem FR {ts:List Ty} {vs:List Value} (h:vs.length=ts.length) (k: ∀(i:Nat) t v,ts[i]? =some t->vs[i]? =some v->jf v=t.isProd):resFa ts (LS vs):=by
 match ts,vs,h with
 | [],[],_=>exact ⟨#[],rfl,rfl,fun i t ht=>by simp at ht⟩
 | [t],[v],_=>exact k 0 t v rfl rfl
 | t::u::ts,v::w::vs,h =>
  refine ⟨(v::w::vs).toArray,rfl,by simpa using h,fun i t' ht=>?_⟩
  have hlt:i<(v::w::vs).length:=by rw[h];exact (List.getElem?_eq_some_iff.1 ht).1
  have:=k i t' ((v::w::vs)[i]) ht (List.getElem?_eq_getElem hlt)
  rw[<-this,Array.getD_eq_getD_getElem?,List.getElem?_toArray,List.getElem?_eq_getElem hlt];rfl
theorem mW {P:Program} {I:Hp} {w0 w:World} {F:Ch} {J:Hp} {θ:Th} {n:Nat} {s:Sg} {a:Act} {tt:TT} (hT:TTok P tt) (hS:Sim P I w0 F n J θ s a w): ∀ {rs:List ResultVar} {vs:List AV},qd tt s rs=some vs->zb P a w rs (vs.map (·.v θ))/\ ∀v∈vs,v.ok P w0 J θ s.nxt s.chs
 | [],vs,h=>by
  obtain rfl:=aa (show some [] =some vs from h)
  exact ⟨rfl,fun v hv=>by cases hv⟩
 | r::rs,vs,h=>by
  obtain ⟨v,hv',h⟩:=bind_some (show (Jb tt s r).bind _=some vs from h)
  obtain ⟨us,hus,h⟩:=bind_some h
  obtain rfl:=aa h
  obtain ⟨k1,k2⟩:=FP hT hS hv'
  obtain ⟨q1,q2⟩:=mW hT hS hus
  refine ⟨⟨_,_,rfl,k1,q1⟩,fun x hx=>?_⟩
  rcases ax hx with rfl | hx
  ·exact k2
  ·exact q2 x hx
theorem CV {J:Hp} {a b c d:List Ch} (h:iV J a b) (k:iV J c d):iV J (a++c) (b++d):=fun w F hs=>by
 obtain ⟨G,K,rfl,e1,e2⟩:=hs.split
 exact (h w G e1).append (k w K e2)
theorem St.sepTo {J:Hp} {w0 w:World} {a b C:List Ch} (h:St J w0 w (a++C)) (k:iV J a b):St J w0 w (b++C):=by
 obtain ⟨h1,h2,F,h3,h4,h5⟩:=h
 obtain ⟨G,K,rfl,e1,e2⟩:=h3.split
 exact ⟨h1,h2,G++K,(k w G e1).append e2,h4,h5⟩
theorem nN {P:Program} {n:Nat} {I:Hp} {w0:World} {k:FuncId} {fn:Func} {c:Code} {args:Array Value} {rn:List Ch} {fact:Value->Prop} {gv:Value->List Ch} (L:List (Nat×Value)) (hf:P.funcs[k]? =some fn) (hb:fn.body=some c) (hn:fn.ntmps=n) (hm:args.size<=n) (hL: ∀p∈L,args[p.1]? =some p.2)
  (h: ∀F w a,Agr n a L->St I w0 w (rn++ [F])->c.wp P (bodyPost P fn fun e w'=> ∃v,e= .returned v/\fact v/\ ∃J,I.le J/\St J w0 w' (gv v++ [F])) a w) (hd: ∀v,Ch.back (gv v)):Con P k args I w0 rn fact gv:=by
 intro w C hs
 have hs':St I w0 w (rn++ [Ch.fr I C]):=by
  obtain ⟨hb,hi,F,h1,h2,h3⟩:=hs
  obtain ⟨G,K,rfl,e1,e2⟩:=h1.split
  exact ⟨hb,hi,G++K,e1.append ⟨K,[],by simp,e2,rfl⟩,h2,h3⟩
 have:=h (Ch.fr I C) w { tmps:=args++Array.replicate (fn.ntmps - args.size) undef,defers:=[] } (Agr.start L (by omega) hL) hs'
 refine (calls_of_wp hf hb this).mono ?_
 rintro e w' ⟨v,rfl,hv,J,hJ,hs⟩
 exact ⟨v,rfl,hv,hs.back hJ (hd v)⟩
theorem FU {P:Program} {I:Hp} {w0 w:World} {F:Ch} {n:Nat} {J:Hp} {θ:Th} {s:Sg} {a:Act} {tr:Trs} {vs:List AV} (hS:Sim P I w0 F n J θ s a w): ∃J' θ',J.le J'/\Sim P I w0 F n J' θ' (FQ tr vs s) a w/\Fr s θ (FQ tr vs s) θ':=by
 have key: ∃J' θ',J.le J'/\Sim P I w0 F n J' θ' (vG tr vs s) a w/\Fr s θ (vG tr vs s) θ':=by
  unfold vG
  split
  ·exact ⟨J,θ,Hp.le.rfl,hS,Fr.rfl⟩
  ·exact l6 hS
 obtain ⟨J',θ',h1,h2,h3⟩:=key
 obtain ⟨S2,F2⟩:=lf (V:=⟨[],[],[],n,[]⟩) (hs:=xr s vs++oZ (vG tr vs s).chs) h2
 exact ⟨J',θ',h1,S2,h3.trans F2⟩
theorem G7 {V:Env} {P:Program} {w0:World} {F:Ch} {J:Hp} {θ:Th} (hT:TTok P V.tt) {fn:Func} {rs:List Ty} {ps:List PM} {d:denP ps} {vs:List Value} {s0:Sg} (k0:vs.length=ps.length) (k5:StF P w0 J θ (ps.length+1) 0 ps vs d) (hn0:ps.length+1<=s0.nxt) {γ:Value} (hγ:θ ps.length=γ): ∀r J' θ' s' a' w',CU V fn.results.toList rs ps d s'=some r->Sim P J w0 F V.n J' θ' s' a' w'->J.le J'->Fr s0 θ s' θ'->
  bodyPost P fn (fun e w'=> ∃v,e= .returned v/\(resFa rs v/\(rJ 1000000 V.an=true->oe rs (hFst rs (outs ps) (toH _ r)) v))/\ ∃J2,J.le J2/\St J2 w0 w' ((resGv rs (hFst rs (outs ps) (toH _ r)) v++outCh γ ps vs (hSnd rs (outs ps) (toH _ r)))++ [F])) .ret a' w':=by
 intro r J' θ' s' a' w' hrt hS' hJ hFr
 obtain ⟨vs00,hv00,hrt⟩:=bind_some (show (qd V.tt s' fn.results.toList).bind _=some r from hrt)
 obtain ⟨s0',hrt,S0,N0⟩:=yL hrt (mW hT hS' hv00).2 hS'
 obtain ⟨vs0,hv0,hrt⟩:=bind_some hrt
 obtain ⟨J1,θ1,hJ1,S1,F1⟩:=FU (tr:=V.tr) (vs:=vs0) S0
 generalize FQ V.tr vs0 s0'=s1 at hrt S1 F1
 have hle:s0.nxt<=s'.nxt:=hFr.1
 have hsame:Same (ps.length+1) θ θ1:=fun i hi=>(F1.same i (by omega)).trans (hFr.same i (by omega))
 replace hJ:=hJ.trans hJ1
 clear hJ1 F1 hS' S0 hFr
 revert J1 θ1
 clear J' θ'
 intro J' θ' S1 hsame hJ
 obtain ⟨us,hus,hrt⟩:=bind_some hrt
 obtain ⟨q,hq,hrt⟩:=bind_some hrt
 obtain ⟨o,ho,hrt⟩:=bind_some hrt
 obtain ⟨u0,hnl,hrt⟩:=bind_some hrt
 obtain rfl:=aa hrt
 obtain ⟨r1,r2⟩:=mW hT S1 hus
 obtain ⟨t1,t2,t3,t4⟩:=rO (J:=J') (θ:=θ') hq r2
 obtain ⟨o1,o2⟩:=cC (P:=P) (J:=J) (J':=J') (θ:=θ) (θ':=θ') (vs:=vs) (n:=ps.length+1) (n':=s1.nxt) (chs0:=s1.chs) hJ hsame (aq _) hγ ho k0 k5 fun e he=>S1.fine.chs e (t1.mem_iff.2 (by simp[he]))
 have hl:(us.map (·.v θ')).length=rs.length:=by rw[List.length_map];exact t2
 refine KP S1.agr r1 ⟨_,rfl,⟨FR hl fun i t v ht hv1=>?_,fun han=>?_⟩,J',hJ,?_⟩
 ·rw[List.getElem?_map] at hv1
  obtain ⟨x,hx,rfl⟩:=Option.map_eq_some_iff.1 hv1
  exact t4 i t x ht hx
 ·rw[xq,tD]
  unfold KR at hnl
  rw[han] at hnl
  have hnl:0<nlN us rs q.1:=a9 hnl
  rcases us with _ | ⟨x,us⟩
  ·cases hnl
  ·cases us with
   | nil=>exact KS (θ:=θ') hnl rfl
   | cons y us=>unfold nlN at hnl;split at hnl <;> first | omega | simp_all
 ·rw[xq,tD,ze,Ap hl]
  have hp:=t1.trans (o1.append_left _)
  have h1:=S1.st.perm ((hp.map (toCh P θ')).append_right [F])
  have h2:St J' w0 w' ((q.2.1.map (toCh P θ')++o.2.1.map (toCh P θ'))++(o.2.2.map (toCh P θ')++ [F])):=by
   simpa [aH,ah] using h1
  have h3:=St.sepTo h2 (CV t3 o2)
  refine St.left (ds:=o.2.2.map (toCh P θ')) (h3.perm ?_)
  simp only[ah]
  exact List.Perm.append_left _ (List.Perm.append_left _ List.perm_append_comm)
theorem Jf {V:Env} {P:Program} (hT:TTok P V.tt) (hF:FTok P V.ft) (hmx:P.follows .mixedOrders=true) {k:FuncId} {fn:Func} {c:Code} {f:FS} (hf:P.funcs[k]? =some fn) (hb:fn.body=some c) (hn:fn.ntmps=V.n) (hen:Enters P k) (hm:f.ps.length<=V.n) (hdp:(uS f.rs&&pK f.ps)=true) (ann:Ann)
  (hmod: ∀d,appP f.ps f.m d=eW V (CU V fn.results.toList f.rs f.ps d) c ann (fun r=>some r) (fun _ _=>none) (CU V fn.results.toList f.rs f.ps d) (kh (qc f.ps d))): ∀w0 J γ vs (d:denP f.ps) r,Lay P J->PArgs P w0 J γ f.ps vs d->appP f.ps f.m d=some r->Con P k vs.toArray J w0 (owCh γ f.ps vs d) (fun v=>resFa f.rs v/\(rJ 1000000 V.an=true->oe f.rs (hFst f.rs (outs f.ps) (toH _ r)) v)) (fun v=>resGv f.rs (hFst f.rs (outs f.ps) (toH _ r)) v++outCh γ f.ps vs (hSnd f.rs (outs f.ps) (toH _ r))):=by
 rw[af] at hdp
 intro w0 J γ vs d r hlay ha hr
 rw[hmod] at hr
 have k0:=vF ha
 let θ:Th:=fun i=>if i=vs.length then γ else vs.getD i undef
 have hθ: ∀j v,vs[j]? =some v->θ (0+j)=v:=fun j v hj=>by
  show (if 0+j=vs.length then γ else vs.getD (0+j) undef)=v
  rw[Nat.zero_add,if_neg (Nat.ne_of_lt (List.getElem?_eq_some_iff.1 hj).1),List.getD_eq_getElem?_getD,hj];rfl
 have hθg:θ f.ps.length=γ:=by
  show (if f.ps.length=vs.length then γ else _)=γ
  rw[if_pos k0.symm]
 have hzip: ∀p∈(vs.zipIdx.map fun q=>(q.2,q.1)),vs.toArray[p.1]? =some p.2:=fun p hp=>by
  obtain ⟨q,hq,rfl⟩:=List.mem_map.1 hp
  obtain ⟨v,j⟩:=q
  have:=(List.mk_mem_zipIdx_iff_getElem? (x:=v) (i:=j)).1 hq
  simpa using this
 refine nN (n:=V.n) (vs.zipIdx.map fun q=>(q.2,q.1)) hf hb hn (by rw[List.size_toArray,k0];exact hm) hzip (fun F w a hA hst=>?_) (fun v=>nE (cv _ _ _ hdp.2) _ _ hdp.1)
 ·obtain ⟨k1,k2,k3,k4,k5⟩:=za (n:=f.ps.length+1) (q:=f.ps.length) (C:=[F]) (aq _) hθg ha hθ (by omega) hst
  have hfine:Fine P w0 J θ (qc f.ps d):=⟨fun e he=>(k1 e he).1 _,fun e he=>by have:=k1 e he;show e.2.1<f.ps.length+1;omega,k2,fun e he=>k4 e he _,hlay⟩
  have hA':Agr V.n a (envL θ (qc f.ps d)):=hA.pick _ fun p hp=>by
   obtain ⟨e,he,rfl⟩:=List.mem_map.1 hp
   have h5:=(k1 e he).2.2.2.2
   rw[Nat.sub_zero] at h5
   have key: ∀(l:List Value) (k:Nat) (i:Nat) (v:Value),k<=i->l[i - k]? =some v->((l.zipIdx k).map fun q=>(q.2,q.1)).lookup i=some v:=by
    intro l
    induction l with
    | nil=>intro k i v _ h;simp at h
    | cons x l ih =>
     intro k i v hk h
     simp only[List.zipIdx_cons,List.map_cons,List.lookup_cons]
     by_cases e:i=k
     ·subst e
      simp at h
      simp[h]
     ·have:(i==k)=false:=by simpa using e
      rw[this]
      refine ih (k+1) i v (by omega) ?_
      rw[show i - k=(i - (k+1))+1 from by omega] at h
      simpa using h
   exact key vs 0 e.1 _ (Nat.zero_le _) h5
  have hS:Sim P J w0 F V.n J θ (qc f.ps d) a w:=⟨Hp.le.rfl,hA',k3,hfine⟩
  have fin:=G7 (rs:=f.rs) (fn:=fn) (F:=F) hT k0 k5 (aA (qc f.ps d).nxt) hθg
  obtain ⟨θ0,hS0,hFr0⟩:=oS hS
  exact (l9 (I:=J) (w0:=w0) (F:=F) hT hF hmx c).1 ann hr hS0 (fun J' θ' s' a' w' hk S' hJ hFr=>fin r J' θ' s' a' w' hk S' hJ (hFr0.trans hFr)) (fun i J' θ' s' a' w' hk=>by cases hk) (fun r' J' θ' s' a' w' hrt hrr hS' hJ hFr=>by
   obtain rfl:=aa hrr
   exact fin _ J' θ' s' a' w' hrt hS' hJ (hFr0.trans hFr))
theorem fok {V:Env} {P:Program} (hT:TTok P V.tt) (hF:FTok P V.ft) (hmx:P.follows .mixedOrders=true) {k:FuncId} {fn:Func} {c:Code} {f:FS} (hf:P.funcs[k]? =some fn) (hb:fn.body=some c) (hn:fn.ntmps=V.n) (hen:Enters P k) (hcl:f.cl=none) (hm:f.ps.length<=V.n) (hdp:(uS f.rs&&pK f.ps)=true) (ann:Ann)
  (hmod: ∀d,appP f.ps f.m d=eW V (CU V fn.results.toList f.rs f.ps d) c ann (fun r=>some r) (fun _ _=>none) (CU V fn.results.toList f.rs f.ps d) (kh (qc f.ps d))):FOk P k f:=
 ⟨fun q hq=>by (rw[hcl] at hq;cases hq),fun _=>hen,fun _ w0 J γ vs d r hlay ha hr w C hs=>(Jf hT hF hmx hf hb hn hen hm hdp ann hmod w0 J γ vs d r hlay ha hr w C hs).mono fun e w' ⟨v,h1,h2,h3⟩=>⟨v,h1,h2.1,h3⟩⟩
theorem FV {V:Env} {P:Program} (hT:TTok P V.tt) (hF:FTok P V.ft) (hmx:P.follows .mixedOrders=true) {k:FuncId} {fn:Func} {c:Code} {E b:Nat} (hf:P.funcs[k]? =some fn) (hb:fn.body=some c) (hn:fn.ntmps=V.n) (hen:Enters P k) (hm:1<=V.n) (ann:Ann)
  (hmod: ∀(E':TypeId) (bn:Bool) (xs:List Raw),(match bn with | true=>some ([] :List Raw) | false=>(da b [] xs).bind fun zs=>some zs)=eW V (CU V fn.results.toList [.sl E .raw] [] ()) c ann (fun r=>some r) (fun _ _=>none) (CU V fn.results.toList [.sl E .raw] [] ()) ⟨[(0,0,.one (.rdn ⟨0,[]⟩ bn (.sl E' .raw) xs))],[],1⟩):nB P k E b:=by
 refine ⟨hen,fun E' J w0 v xs zs hlay hrd Ao=>?_⟩
 obtain ⟨bn,hbn⟩: ∃bn,rp v=bn:=⟨_,rfl⟩
 have hr:eW V (CU V fn.results.toList [.sl E .raw] [] ()) c ann (fun r=>some r) (fun _ _=>none) (CU V fn.results.toList [.sl E .raw] [] ()) ⟨[(0,0,.one (.rdn ⟨0,[]⟩ bn (.sl E' .raw) xs))],[],1⟩=some zs:=by
  rw[<-hmod E' bn xs]
  cases bn with
  | false =>
   show (da b [] xs).bind _=_
   rw[Ao];rfl
  | true =>
   obtain ⟨h1,-⟩:=tf Ao
   obtain ⟨ao,cap,e,-,hx⟩:=hrd
   obtain rfl:v= .slice ao xs.length cap:=by simpa using e
   rcases hx with rfl | ⟨b,off,ccs,t,fr,rfl,-⟩
   ·rw[h1];rfl
   ·cases hbn
 let θ:Th:=fun _=>v
 have key:Con P k #[v] J w0 [] (fun v=>resFa [.sl E .raw] v/\(rJ 1000000 V.an=true->oe [.sl E .raw] (zs,()) v)) (fun v=>resGv [.sl E .raw] (zs,()) v++ []):=by
  refine nN (n:=V.n) [(0,v)] hf hb hn hm (fun p hp=>by obtain rfl:=al hp;rfl) (fun F w a hA hst=>?_) (fun u=>nE (D:=[]) trivial [.sl E .raw] (zs,()) rfl)
  have hfine:Fine P w0 J θ ⟨[(0,0,.one (.rdn ⟨0,[]⟩ bn (.sl E' .raw) xs))],[],1⟩:=⟨fun e he=>by obtain rfl:=al he;exact ⟨Nat.one_pos,hrd,hbn⟩,fun e he=>by obtain rfl:=al he;exact Nat.one_pos,List.pairwise_singleton _ _,fun e he=>(by cases he),hlay⟩
  have hS:Sim P J w0 F V.n J θ ⟨[(0,0,.one (.rdn ⟨0,[]⟩ bn (.sl E' .raw) xs))],[],1⟩ a w:=⟨Hp.le.rfl,hA,hst,hfine⟩
  have fin:=G7 (V:=V) (θ:=θ) (J:=J) (w0:=w0) (rs:=[.sl E .raw]) (ps:=[]) (d:=()) (vs:=[]) (s0:=⟨[(0,0,.one (.rdn ⟨0,[]⟩ bn (.sl E' .raw) xs))],[],1⟩) (fn:=fn) (F:=F) hT rfl trivial (aA _) (γ:=θ 0) rfl
  exact (l9 (I:=J) (w0:=w0) (F:=F) hT hF hmx c).1 ann hr hS (fun J' θ' s' a' w' hk S' hJ hFr=>fin _ J' θ' s' a' w' hk S' hJ hFr) (fun i J' θ' s' a' w' hk=>by cases hk) (fun r' J' θ' s' a' w' hrt hrr hS' hJ hFr=>by
   obtain rfl:=aa hrr
   exact fin _ J' θ' s' a' w' hrt hS' hJ hFr)
 exact fun w C hs=>(key w C hs).mono fun e w' ⟨v,h1,h2,h3⟩=>⟨v,h1,trivial,h3⟩
theorem jH {P:Program} {k:FuncId} {f:FS} (h:Enters P k) (hc:f.cl=none) (hm: ∀d,appP f.ps f.m d=none):FOk P k f:=
 ⟨fun q hq=>by (rw[hc] at hq;cases hq),fun _=>h,fun _ _ _ _ _ d r _ _ hr=>by rw[hm d] at hr;cases hr⟩
theorem CW {P:Program} {k:FuncId} {f:FS} {E b:Nat} (h:FOk P k ⟨f.ps,f.rs,f.m,none⟩) (hc:nB P k E b) (hb:Nat.beq b 0=false:=by rfl) (h7:Nat.beq b 7=false:=by rfl) (h8:Nat.ble 1000 b=false:=by rfl) (h9:Nat.beq b 9=false:=by rfl):FOk P k ⟨f.ps,f.rs,f.m,some (E,b)⟩:=
 ⟨fun q hq=>by obtain rfl:=aa hq;exact ⟨⟨fun e=>(by rw[hb] at e;cases e),fun _ _ _ _=>hc,fun e=>(by rw[h8] at e;cases e)⟩,fun e=>(by rw[h7] at e;cases e),fun e=>(by rw[h9] at e;cases e)⟩,fun _=>h.en rfl,fun _=>h.con rfl⟩
theorem Jg {P:Program} {k:FuncId} {f:FS} {E b:Nat} (h:FOk P k ⟨f.ps,f.rs,f.m,none⟩) (hc:Et P k E (b - 1000)) (h8:Nat.ble 1000 b=true:=by rfl) (h0:Nat.beq b 0=false:=by rfl) (h7:Nat.beq b 7=false:=by rfl) (h9:Nat.beq b 9=false:=by rfl):FOk P k ⟨f.ps,f.rs,f.m,some (E,b)⟩:=
 ⟨fun q hq=>by obtain rfl:=aa hq;exact ⟨⟨fun e=>(by rw[h0] at e;cases e),fun _ _ e=>(by rw[h8] at e;cases e),fun _=>hc⟩,fun e=>(by rw[h7] at e;cases e),fun e=>(by rw[h9] at e;cases e)⟩,fun _=>h.en rfl,fun _=>h.con rfl⟩
theorem KT {P:Program} {k:FuncId} {T f:Nat} (he:Enters P k) (h: ∀(c d:List Value) (w:World),Calls P k #[.agg c.toArray,.agg d.toArray] w fun e w'=>e= .returned (.func (.func f) #[] #[.pointer (some ⟨w.heap.size,0,none⟩),.pointer (some ⟨w.heap.size+1,0,none⟩)])/\w'=(w.alloc (.cells c.toArray T)).alloc (.cells d.toArray T)):Et P k T f:=by
 refine ⟨he,fun I w0 c d w C hs=>(h c d w).mono ?_⟩
 rintro e w' ⟨rfl,rfl⟩
 refine ⟨_,rfl,⟨_,_,rfl⟩,?_⟩
 have h1:=(hs.alloc c T).alloc d T
 have hsz:(w.alloc (.cells c.toArray T)).heap.size=w.heap.size+1:=by simp
 rw[hsz] at h1
 exact St.emp.2 (h1.perm (List.Perm.swap _ _ _))
end R
namespace R
open Go.RowKit
open D
end R
namespace R
open Go.RowKit
open D
def rtN (V:Env) (rvs:List ResultVar) (T:TypeId) (s:Sg):Option (Int×Int):=(qd V.tt s rvs).bind fun vs=>match vs with
 | [.one (.ptr h off)] =>ba (Nat.beq off 0) ((lX h s.chs).bind fun b=>ba (Nat.beq b.T T) (match b.cells with
  | [.rd g _ _,.val (.int .i64 x),.val (.int .i64 y)] =>ba (Hdr.beq g ⟨0,[]⟩) (some (x,y))
  | _=>none))
 | _=>none
theorem KU {V:Env} {P:Program} (hT:TTok P V.tt) (hF:FTok P V.ft) (hmx:P.follows .mixedOrders=true) {k:FuncId} {fn:Func} {c:Code} {E T:Nat} {t:Ty} {m:List t.den->Option (Int×Int)} (hf:P.funcs[k]? =some fn) (hb:fn.body=some c) (hn:fn.ntmps=V.n) (hen:Enters P k) (hm:1<=V.n) (ann:Ann)
  (hmod: ∀xs:List t.den,m xs=eW V (rtN V fn.results.toList T) c ann (fun r=>some r) (fun _ _=>none) (rtN V fn.results.toList T) ⟨[(0,0,.one (.rd ⟨0,[]⟩ (.sl E t) xs))],[],1⟩):NewOk P k T ⟨[.rd (.sl E t)],[.int .i64,.int .i64],m,some (T,9)⟩:=by
 refine ⟨hen,fun w0 J γ vs d r ns hlay ha Ao hns=>?_⟩
 obtain ⟨v,vs',rfl,hd,hnil⟩:=ha
 obtain rfl:vs'= []:=hnil
 obtain ⟨xs,u⟩:=d
 obtain ⟨cs,hcs,hrd⟩:=hd
 obtain rfl:cs= [v]:=hcs
 obtain ⟨x,y⟩:=r
 have hr:=hmod xs
 rw[show m xs=some (x,y) from Ao] at hr
 obtain rfl: [x,y] =ns:=aa hns
 let θ:Th:=fun _=>v
 refine nN (n:=V.n) [(0,v)] hf hb hn hm (fun p hp=>by obtain rfl:=al hp;rfl) (fun F w a hA hst=>?_) (fun u=>Ch.back_deeps ⟨Gl,trivial⟩)
 have hfine:Fine P w0 J θ ⟨[(0,0,.one (.rd ⟨0,[]⟩ (.sl E t) xs))],[],1⟩:=⟨fun e he=>by obtain rfl:=al he;exact ⟨Nat.one_pos,hrd⟩,fun e he=>by obtain rfl:=al he;exact Nat.one_pos,List.pairwise_singleton _ _,fun e he=>(by cases he),hlay⟩
 have hS:Sim P J w0 F V.n J θ ⟨[(0,0,.one (.rd ⟨0,[]⟩ (.sl E t) xs))],[],1⟩ a w:=⟨Hp.le.rfl,hA,hst,hfine⟩
 have fin: ∀r J' θ' s' a' w',rtN V fn.results.toList T s'=some r->Sim P J w0 F V.n J' θ' s' a' w'->J.le J'->Fr ⟨[(0,0,.one (.rd ⟨0,[]⟩ (.sl E t) xs))],[],1⟩ θ s' θ'->
   bodyPost P fn (fun e w'=> ∃u,e= .returned u/\(∃b,u= .pointer (some ⟨b,0,none⟩))/\ ∃J2,J.le J2/\St J2 w0 w' ([Ch.blk (bk u) ([v] ++ [r.1,r.2].map (Value.int .i64)) T] ++ [F])) .ret a' w':=by
  intro r J' θ' s' a' w' hrt S' hJ hFr
  obtain ⟨us,hus,hrt⟩:=bind_some hrt
  obtain ⟨r1,r2⟩:=mW hT S' hus
  split at hrt
  ·rename_i h off
   obtain ⟨ho,hrt⟩:=ai hrt
   obtain rfl:off=0:=ak ho
   obtain ⟨b,hb',hrt⟩:=bind_some hrt
   obtain ⟨hT',hrt⟩:=ai hrt
   have hT':b.T=T:=ak hT'
   split at hrt
   ·rename_i g ty d p q hcells
    obtain ⟨hg,hrt⟩:=ai hrt
    obtain rfl:=Hdr.beq_eq hg
    obtain rfl:=aa hrt
    refine KP S'.agr r1 ⟨_,rfl,⟨bk (hv θ' h),rfl⟩,J',hJ,?_⟩
    have h1:=S'.st.perm (((fj hb').map (toCh P θ')).append_right [F])
    have e0:hv θ' ⟨0,[]⟩=v:=by
     show vg (θ' 0) [] =v
     rw[hFr.same 0 Nat.one_pos];rfl
    have h2:St J' w0 w' (Ch.blk (bk (hv θ' h)) (b.cells.map (·.v θ')) b.T::(b.rest.map (toCh P θ')++ [F])):=h1
    rw[hcells,hT'] at h2
    have h3:St J' w0 w' ([Ch.blk (bk (hv θ' h)) [hv θ' ⟨0,[]⟩,.int .i64 p,.int .i64 q] T] ++ [F] ++b.rest.map (toCh P θ')):=h2.perm ((List.perm_append_comm).cons _)
    rw[e0] at h3
    exact h3.left
   ·cases hrt
  ·cases hrt
 exact (l9 (I:=J) (w0:=w0) (F:=F) hT hF hmx c).1 ann hr.symm hS (fun J' θ' s' a' w' hk S' hJ hFr=>fin _ J' θ' s' a' w' hk S' hJ hFr) (fun i J' θ' s' a' w' hk=>by cases hk) (fun r' J' θ' s' a' w' hrt hrr hS' hJ hFr=>by
  obtain rfl:=aa hrr
  exact fin _ J' θ' s' a' w' hrt hS' hJ hFr)
theorem Jh {P:Program} {k:FuncId} {f:FS} {T:Nat} (hc:NewOk P k T f) (hcl:f.cl=some (T,9)):FOk P k f:=by
 have ho:f.ov=true:=by unfold FS.ov;rw[hcl];rfl
 refine ⟨fun q hq=>?_,fun e=>(by rw[ho] at e;cases e),fun e=>(by rw[ho] at e;cases e)⟩
 rw[hcl] at hq
 obtain rfl:=aa hq
 exact ⟨⟨fun e=>(by cases e),fun _ _ _ e=>(by cases e),fun e=>(by cases e)⟩,fun e=>(by cases e),fun _=>hc⟩
end R
namespace R
open Go.RowKit
open D
def FldAll (P:Program) (T:TypeId):Nat->List (Nat×Nat)->Prop
 | _,[] =>True
 | i,q::l=>TF P T i q.1 q.2/\FldAll P T (i+1) l
theorem FldAll.get {P:Program} {T:TypeId} : ∀ {l:List (Nat×Nat)} {i:Nat},FldAll P T i l-> ∀f q,l[f]? =some q->TF P T (i+f) q.1 q.2
 | [],_,_,f,q,h=>by simp at h
 | x::l,i,⟨h1,h2⟩,f,q,h=>by
  cases f with
  | zero=>simp at h;subst h;exact h1
  | succ f =>
   have:=FldAll.get h2 f q (by simpa using h)
   rwa [show i+1+f=i+(f+1) from by omega] at this
section
variable {P:Program} {T:TypeId}
theorem ma {n b:Nat} {ty:Ty} {z:Value} {boo:Bool} {ik:Option (Option IntKind)} (h1:TI P T false 1) (h2:ty.size=1) (h3:TZ P T z 1 b) (h4:z.cells=(zeroCells ty).toArray) (h5:1<=b) (h6:boo=true->P.underlying T=some .bool) (h7: ∀k,ik=some k->P.underlying T=some (ikD k)):TDok P T ⟨false,1,none,ty,[],some b,none,boo,none,none,ik,false,none⟩:=
 ⟨h1,rfl,h2,fun E h=>by simp at h,fun f q h=>by simp at h,fun b' h=>by obtain rfl:=aa h;exact ⟨z,h3,h4,h5⟩,fun pl h=>by simp at h,h6,(fun ks h=>by cases h),(fun m h=>by cases h),h7,(fun h=>by cases h),fun e h=>by cases h⟩
theorem xt {E:TypeId} {t:Ty} (h1:TI P T false 1) (h2:P.underlying T=some (.slice E)) (h3:TZ P T (.slice none 0 0) 1 24):TDok P T ⟨false,1,some E,.sl E t,[],some 24,none,false,none,none,none,false,none⟩:=
 ⟨h1,rfl,rfl,fun E' h=>by obtain rfl:=aa h;exact h2,fun f q h=>by simp at h,fun b' h=>by obtain rfl:=aa h;exact ⟨_,h3,rfl,by decide⟩,fun pl h=>by simp at h,(fun h=>by cases h),(fun ks h=>by cases h),(fun m h=>by cases h),(fun k h=>by cases h),(fun h=>by cases h),fun e h=>by cases h⟩
theorem xu {n b:Nat} {ty:Ty} {fs pl:List (Nat×Nat)} {z:Value} {eq:Option (List (Option IntKind))} (h1:TI P T true n) (h2:ty.size=n) (h3:FldAll P T 0 fs) (h4:TZ P T z n b) (h5:z.cells=(zeroCells ty).toArray) (h6:1<=b) (h7:TB P T pl) (h8: ∀ks,eq=some ks-> ∀w,Curq ks fun xs ys r=>EqT P T (.agg xs.toArray) (.agg ys.toArray) r w):TDok P T ⟨true,n,none,ty,fs,some b,some pl,false,eq,none,none,false,none⟩:=
 ⟨h1,rfl,h2,fun E h=>by simp at h,fun f q h=>by have:=h3.get f q h;rwa [Nat.zero_add] at this,fun b' h=>by obtain rfl:=aa h;exact ⟨z,h4,h5,h6⟩,fun pl' h=>by obtain rfl:=aa h;exact h7,(fun h=>by cases h),h8,(fun m h=>by cases h),(fun k h=>by cases h),(fun h=>by cases h),fun e h=>by cases h⟩
theorem vH {ty:Ty} {b:Nat} (h1:TI P T false 1) (h2:ty.size=1) (h3:TZ P T .nilFunc 1 b):TDok P T ⟨false,1,none,ty,[],none,none,false,none,none,none,true,none⟩:=
 ⟨h1,rfl,h2,fun E h=>by simp at h,fun f q h=>by simp at h,(fun b' h=>by cases h),(fun pl h=>by cases h),(fun h=>by cases h),(fun ks h=>by cases h),(fun m' h=>by cases h),(fun k h=>by cases h),(fun _=>⟨b,h3⟩),fun e h=>by cases h⟩
theorem KV {m:MD} {ty:Ty} (h1:TI P T false 1) (h2:ty.size=1) (h3:MDok P T m):TDok P T ⟨false,1,none,ty,[],none,none,false,none,some m,none,false,none⟩:=
 ⟨h1,rfl,h2,fun E h=>by simp at h,fun f q h=>by simp at h,(fun b' h=>by cases h),(fun pl h=>by cases h),(fun h=>by cases h),(fun ks h=>by cases h),(fun m' h=>by obtain rfl:=aa h;exact h3),(fun k h=>by cases h),(fun h=>by cases h),fun e h=>by cases h⟩
end
end R
namespace D
open Go.RowKit
abbrev Yq1:Type:=(Int×(List Bool)×(List (List Int)))
abbrev Yq2:Type:=(Int×Int×Int×Int)
abbrev Yq3:Type:=(Int×(List Bool)×List (List Int))
abbrev Yq4:Type:=((List Int)×Int×Int×(List Int)×Bool)
abbrev Yq5:Type:=(List (Int×Int))
def xw (p0code:List Int):Option Bool:=
 some (decide ((p0code.length:Int)>1048576))
def iH (p0x:Int) (p1low:Int) (p2high:Int):Option Bool:=
 if decide (p0x≥p1low) then (some (decide (p0x<=p2high))) else (some false)
def dm (p0a:Int×(List Bool)×(List (List Int))) (s11:Int) (s15:Int):Option (Out Bool Int):=
 if decide (s15<9) then ((bm p0a.2.2 s11).bind fun x20=>(bm x20 s15).bind fun x21=>(iH x21 (-1) (IntKind.i64.wrap ((p0a.2.1.length:Int) - 1))).bind fun r22=>if r22 then (some (.nxt (IntKind.i64.wrap (s15+1)))) else (some (.ret false))) else (some (.brk s15))
def fT (p0a:Int×(List Bool)×(List (List Int))) (s11:Int):Option (Out Bool Int):=
 if decide (s11<(p0a.2.1.length:Int)) then ((bm p0a.2.2 s11).bind fun x15=>if (x15.length:Int) !=9 then (some (.ret false)) else (be (aO (dm p0a s11) bt 0) (fun r=>some (.ret r)) (fun s16=>some (.nxt (IntKind.i64.wrap (s11+1)))))) else (some (.brk s11))
def gY (p0a:Int×(List Bool)×(List (List Int))):Option Bool:=
 (iH p0a.1 0 (IntKind.i64.wrap ((p0a.2.1.length:Int) - 1))).bind fun r1=>if r1 then (if (p0a.2.2.length:Int) !=(p0a.2.1.length:Int) then (some false) else (be (aO (fT p0a) bt 0) (fun r=>some r) (fun s12=>some true))) else (some false)
def aE (p0a:Int×(List Bool)×(List (List Int))):Option Bool:=
 if decide ((p0a.2.1.length:Int)<=12) then ((gY (p0a.1,p0a.2.1,p0a.2.2)).bind fun r1=>some r1) else (some false)
def ja (p0l:List Int) (p1x:Int) (s3:Int):Option (Out Int Int):=
 if decide (s3<(p0l.length:Int)) then ((bm p0l s3).bind fun x3=>if x3==p1x then (some (.ret s3)) else (some (.nxt (IntKind.i64.wrap (s3+1))))) else (some (.brk s3))
def gZ (p0l:List Int) (p1x:Int):Option Int:=
 be (aO (ja p0l p1x) bt 0) (fun r=>some r) (fun s4=>some (-1))
def nO (s3:(List Int)×Int):Option (Out Yq1 ((List Int)×Int)):=
 if decide (s3.2<9) then ((da 8 s3.1 ([-1])).bind fun z3=>some (.nxt (z3,IntKind.i64.wrap (s3.2+1)))) else (some (.brk (s3.1,s3.2)))
def jb:Option Yq1:=
 be (aO (nO) bt (([] :List Int),0)) (fun r=>some r) (fun s4=>some (0,[false],[s4.1]))
def de (p0:Int×(List Bool)×(List (List Int))) (p1:List Int) (p2:List Bool) (s17:(List Int)×(List Int)×Int×Int×(List Bool)×(List (List Int))) (s23:(List Int)×(List Int)×(List Int)×Int):Option (Out Yq1 ((List Int)×(List Int)×(List Int)×Int)):=
 if decide (s23.2.2.2<9) then ((bm s23.2.1 s17.2.2.1).bind fun x79=>(bm p0.2.2 x79).bind fun x80=>(bm x80 s23.2.2.2).bind fun x81=>Option.bind ((if decide (x81≥0) then ((bm p2 x81).bind fun x85=>if x85 then ((bm p1 x81).bind fun x86=>(gZ s23.1 x86).bind fun r28=>if decide (r28<0) then ((bm p1 x81).bind fun x87=>(da 8 s23.1 ([x87])).bind fun z47=>(da 8 s23.2.1 ([x81])).bind fun z48=>some (z47,z48,(s23.1.length:Int))) else (some (s23.1,s23.2.1,r28))) else (some (s23.1,s23.2.1,-1))) else (some (s23.1,s23.2.1,-1)):Option ((List Int)×(List Int)×Int))) (fun s25=>(da 8 s23.2.2.1 ([s25.2.2])).bind fun z49=>some (.nxt (s25.1,s25.2.1,z49,IntKind.i64.wrap (s23.2.2.2+1))))) else (some (.brk (s23.1,s23.2.1,s23.2.2.1,s23.2.2.2)))
def eM (p0:Int×(List Bool)×(List (List Int))) (p1:List Int) (p2:List Bool) (s17:(List Int)×(List Int)×Int×Int×(List Bool)×(List (List Int))):Option (Out Yq1 ((List Int)×(List Int)×Int×Int×(List Bool)×(List (List Int)))):=
 if decide (s17.2.2.1<(s17.1.length:Int)) then (be (aO (de p0 p1 p2 s17) bt (s17.1,s17.2.1,([] :List Int),0)) (fun r=>some (.ret r)) (fun s24=>(bm s24.2.1 s17.2.2.1).bind fun x88=>(bm p0.2.1 x88).bind fun x89=>(da 1 s17.2.2.2.2.1 ([x89])).bind fun z50=>(da 24 s17.2.2.2.2.2 ([s24.2.2.1])).bind fun z51=>some (.nxt (s24.1,s24.2.1,IntKind.i64.wrap (s17.2.2.1+1),s17.2.2.2.1,z50,z51)))) else (some (.brk (s17.1,s17.2.1,s17.2.2.1,s17.2.2.2.1,s17.2.2.2.2.1,s17.2.2.2.2.2)))
def eb (p0:Int×(List Bool)×(List (List Int))) (p1:List Int) (p2:List Bool):Option Yq1:=
 (bm p2 p0.1).bind fun x1=>if x1 then ((bm p1 p0.1).bind fun x2=>be (aO (eM p0 p1 p2) bt ([x2],[p0.1],0,0,[],[])) (fun r=>some r) (fun s18=>some (s18.2.2.2.1,s18.2.2.2.2.1,s18.2.2.2.2.2))) else ((jb).bind fun r1=>some (r1.1,r1.2.1,r1.2.2))
def eE (p0a:Int×(List Bool)×(List (List Int))) (s71:(List Bool)×Int) (s77:(List Bool)×Int):Option (Out (List Bool) ((List Bool)×Int)):=
 if decide (s77.2<9) then (Option.bind (((bm p0a.2.2 s71.2).bind fun x319=>(bm x319 s77.2).bind fun x320=>if decide (x320≥0) then ((bm p0a.2.2 s71.2).bind fun x321=>(bm x321 s77.2).bind fun x322=>(bm s77.1 x322).bind fun x323=>if x323 then ((bm s77.1 s71.2).bind fun x324=>some (s77.1.set s71.2.toNat true)) else (some s77.1)) else (some s77.1):Option (List Bool))) (fun s79=>some (.nxt (s79,IntKind.i64.wrap (s77.2+1))))) else (some (.brk (s77.1,s77.2)))
def eF (p0a:Int×(List Bool)×(List (List Int))) (s71:(List Bool)×Int):Option (Out (List Bool) ((List Bool)×Int)):=
 if decide (s71.2<(p0a.2.1.length:Int)) then (be (aO (eE p0a s71) bt (s71.1,0)) (fun r=>some (.ret r)) (fun s78=>some (.nxt (s78.1,IntKind.i64.wrap (s71.2+1))))) else (some (.brk (s71.1,s71.2)))
def fU (p0a:Int×(List Bool)×(List (List Int))) (s53:(List Bool)×Int):Option (Out (List Bool) ((List Bool)×Int)):=
 if decide (s53.2<(p0a.2.1.length:Int)) then (be (aO (eF p0a) bt (s53.1,0)) (fun r=>some (.ret r)) (fun s72=>some (.nxt (s72.1,IntKind.i64.wrap (s53.2+1))))) else (some (.brk (s53.1,s53.2)))
def fO (p0a:Int×(List Bool)×(List (List Int))):Option (List Bool):=
 (da 1 ([] :List Bool) p0a.2.1).bind fun z1=>be (aO (fU p0a) bt (z1,0)) (fun r=>some r) (fun s54=>some s54.1)
def iI (p0a:List Int) (p1b:List Int) (s3:Int):Option (Out Int Int):=
 if decide (s3<(p0a.length:Int)) then (if decide (s3<(p1b.length:Int)) then ((bm p0a s3).bind fun x9=>(bm p1b s3).bind fun x10=>if decide (x9<x10) then (some (.ret (-1))) else ((bm p0a s3).bind fun x11=>(bm p1b s3).bind fun x12=>if decide (x11>x12) then (some (.ret 1)) else (some (.nxt (IntKind.i64.wrap (s3+1)))))) else (some (.brk s3))) else (some (.brk s3))
def jk (p0a:List Int) (p1b:List Int):Option Int:=
 be (aO (iI p0a p1b) bt 0) (fun r=>some r) (fun s4=>if decide ((p0a.length:Int)<(p1b.length:Int)) then (some (-1)) else (if decide ((p0a.length:Int)>(p1b.length:Int)) then (some 1) else (some 0)))
def gD (p0a:Int×(List Bool)×(List (List Int))) (p1classes:List Int) (p2s:Int) (s5:(List Int)×Int):Option (Out (List Int) ((List Int)×Int)):=
 if decide (s5.2<9) then (Option.bind (((bm p0a.2.2 p2s).bind fun x17=>(bm x17 s5.2).bind fun x18=>if decide (x18<0) then ((da 8 s5.1 ([-1])).bind fun z12=>some z12) else ((bm p1classes x18).bind fun x19=>(da 8 s5.1 ([x19])).bind fun z11=>some z11):Option (List Int))) (fun s7=>some (.nxt (s7,IntKind.i64.wrap (s5.2+1))))) else (some (.brk (s5.1,s5.2)))
def jl (p0a:Int×(List Bool)×(List (List Int))) (p1classes:List Int) (p2s:Int):Option (List Int):=
 (bm p1classes p2s).bind fun x1=>be (aO (gD p0a p1classes p2s) bt ([x1],0)) (fun r=>some r) (fun s6=>some s6.1)
def cS (p0:Int×(List Bool)×List (List Int)) (r0:List Bool) (s2:(List Int)×Int):Option (Out (List Int) ((List Int)×Int)):=
 if decide (s2.2<(p0.2.1.length:Int)) then ((bm p0.2.1 s2.2).bind fun x3=>Option.bind ((if x3 then (some 1) else (some 0):Option Int)) (fun s4=>(bm r0 s2.2).bind fun x5=>Option.bind ((if x5 then (some s4) else (some (-1)):Option Int)) (fun s6=>(da 8 s2.1 ([s6])).bind fun z7=>some (.nxt (z7,IntKind.i64.wrap (s2.2+1)))))) else (some (.brk (s2.1,s2.2)))
def cT (s13:(List (List Int))×(List Int)×Int) (r16:List Int) (s18:Int×Int):Option (Out (List Int) (Int×Int)):=
 if decide (s18.2<(s13.1.length:Int)) then (Option.bind (((bm s13.1 s18.2).bind fun x19=>(jk x19 r16).bind fun r20=>if r20==0 then (some s18.2) else (some s18.1):Option Int)) (fun s21=>some (.nxt (s21,IntKind.i64.wrap (s18.2+1))))) else (some (.brk (s18.1,s18.2)))
def cU (p0:Int×(List Bool)×List (List Int)) (s11:(List Int)×Int) (s13:(List (List Int))×(List Int)×Int):Option (Out (List Int) ((List (List Int))×(List Int)×Int)):=
 if decide (s13.2.2<(p0.2.1.length:Int)) then (Option.bind (((bm s11.1 s13.2.2).bind fun x14=>if decide (x14<0) then ((da 8 s13.2.1 ([(-1)])).bind fun z15=>some (s13.1,z15)) else ((jl (p0.1,p0.2.1,p0.2.2) s11.1 s13.2.2).bind fun r16=>be (aO (cT s13 r16) bt ((-1),0)) (fun r22=>none) (fun s23=>Option.bind ((if decide (s23.1<0) then ((da 24 s13.1 ([r16])).bind fun z24=>some (z24,(s13.1.length:Int))) else (some (s13.1,s23.1)):Option ((List (List Int))×Int))) (fun s25=>(da 8 s13.2.1 ([s25.2])).bind fun z26=>some (s25.1,z26)))):Option ((List (List Int))×List Int))) (fun s27=>some (.nxt (s27.1,s27.2,IntKind.i64.wrap (s13.2.2+1))))) else (some (.brk (s13.1,s13.2.1,s13.2.2)))
def fP (p0:Int×(List Bool)×List (List Int)) (s11:(List Int)×Int):Option (Out (List Int) ((List Int)×Int)):=
 if decide (s11.2<=(p0.2.1.length:Int)) then (be (aO (cU p0 s11) bt (([] :List (List Int)),([] :List Int),0)) (fun r28=>some (.ret r28)) (fun s29=>(jk s29.2.1 s11.1).bind fun r30=>if r30==0 then (some (.ret s11.1)) else (some (.nxt (s29.2.1,IntKind.i64.wrap (s11.2+1)))))) else (some (.brk (s11.1,s11.2)))
def eG (p0:Int×(List Bool)×List (List Int)):Option (List Int):=
 (fO (p0.1,p0.2.1,p0.2.2)).bind fun r0=>be (aO (cS p0 r0) bt (([] :List Int),0)) (fun r8=>some r8) (fun s9=>be (aO (fP p0) bt (s9.1,0)) (fun r31=>some r31) (fun s32=>some s32.1))
def bG (p0a:Int×(List Bool)×(List (List Int))):Option Yq1:=
 (eG (p0a.1,p0a.2.1,p0a.2.2)).bind fun r1=>(fO (p0a.1,p0a.2.1,p0a.2.2)).bind fun r2=>(eb (p0a.1,p0a.2.1,p0a.2.2) r1 r2).bind fun r3=>some (r3.1,r3.2.1,r3.2.2)
def gb (p0a:Int×(List Bool)×(List (List Int))):Option Yq1:=
 (aE (p0a.1,p0a.2.1,p0a.2.2)).bind fun r1=>if r1 then ((bG (p0a.1,p0a.2.1,p0a.2.2)).bind fun r2=>some (r2.1,r2.2.1,r2.2.2)) else (some (0,[],[]))
def iJ (p0code:List Int) (s1:Int×Int):Option (Out (Int×Int) (Int×Int)):=
 if decide (s1.2<(p0code.length:Int)) then (if decide (s1.2<4000) then ((bm p0code s1.2).bind fun x2=>some (.nxt (qR (IntKind.i64.wrap ((IntKind.i64.wrap ((IntKind.i64.wrap (s1.1*131))+(IntKind.i64.wrap x2)))+7)) 1073741823,IntKind.i64.wrap (s1.2+1)))) else (some (.brk (s1.1,s1.2)))) else (some (.brk (s1.1,s1.2)))
def kH (p0code:List Int):Option (Int×Int):=
 be (aO (iJ p0code) bt (IntKind.i64.wrap (10101+(p0code.length:Int)),0)) (fun r3=>some r3) (fun s4=>some (0,s4.1))
def eX (p0c:(List Int)×Int×Int):Option (Int×Int×Int):=
 Option.bind ((if decide (p0c.2.1<(p0c.1.length:Int)) then ((bm p0c.1 p0c.2.1).bind fun x1=>some (qR (IntKind.i64.wrap ((qR (LB (lS (IntKind.i64.wrap ((IntKind.i64.wrap (p0c.2.2*6364136223846793005))+1442695040888963407)) 33) (lS (IntKind.i64.wrap ((IntKind.i64.wrap (p0c.2.2*6364136223846793005))+1442695040888963407)) 45)) 255)+(IntKind.i64.wrap x1))) 255,IntKind.i64.wrap (p0c.2.1+1),IntKind.i64.wrap ((IntKind.i64.wrap (p0c.2.2*6364136223846793005))+1442695040888963407))) else (some (qR (LB (lS (IntKind.i64.wrap ((IntKind.i64.wrap (p0c.2.2*6364136223846793005))+1442695040888963407)) 33) (lS (IntKind.i64.wrap ((IntKind.i64.wrap (p0c.2.2*6364136223846793005))+1442695040888963407)) 45)) 255,p0c.2.1,IntKind.i64.wrap ((IntKind.i64.wrap (p0c.2.2*6364136223846793005))+1442695040888963407))):Option (Int×Int×Int))) (fun s2=>some (s2.1,s2.2.1,s2.2.2))
def bg (p0c:(List Int)×Int×Int) (p1n:Int):Option (Int×Int×Int):=
 if decide (p1n<=0) then (some (0,p0c.2.1,p0c.2.2)) else (if decide (p1n<=256) then ((eX (p0c.1,p0c.2.1,p0c.2.2)).bind fun r0=>(chk (p1n≠0)).bind fun _=>some (Int.tmod r0.1 p1n,r0.2.1,r0.2.2)) else ((eX (p0c.1,p0c.2.1,p0c.2.2)).bind fun r2=>(eX (p0c.1,r2.2.1,r2.2.2)).bind fun r3=>(eX (p0c.1,r3.2.1,r3.2.2)).bind fun r4=>(eX (p0c.1,r4.2.1,r4.2.2)).bind fun r5=>(chk (p1n≠0)).bind fun _=>some (Int.tmod (IntKind.i64.wrap ((IntKind.i64.wrap ((IntKind.i64.wrap ((IntKind.i64.wrap (r2.1*16777216))+(IntKind.i64.wrap (r3.1*65536))))+(IntKind.i64.wrap (r4.1*256))))+r5.1)) p1n,r5.2.1,r5.2.2)))
def bT (p0c:(List Int)×Int×Int) (p1list:List Int):Option (Int×Int×Int):=
 (bg (p0c.1,p0c.2.1,p0c.2.2) (p1list.length:Int)).bind fun r0=>(bm p1list r0.1).bind fun x1=>some (x1,r0.2.1,r0.2.2)
def dH (p0p:(List Int)×Int×Int×(List Int)×Bool) (p1set:Int) (s6:Int×Int):Option (Out Int (Int×Int)):=
 if decide (s6.2<(p0p.1.length:Int)) then (Option.bind (((chk (0<=IntKind.i64.wrap (s6.2+1))).bind fun _=>if (qR (lS p1set (IntKind.i64.wrap (s6.2+1))) 1)==1 then ((bm p0p.2.2.2.1 s6.2).bind fun x6=>some (orI s6.1 x6)) else (some s6.1):Option Int)) (fun s8=>some (.nxt (s8,IntKind.i64.wrap (s6.2+1))))) else (some (.brk (s6.1,s6.2)))
def dI (p0p:(List Int)×Int×Int×(List Int)×Bool) (p2letter:Int) (s7:Int×Int) (s13:Int×Int):Option (Out Int (Int×Int)):=
 if decide (s13.2<(p0p.1.length:Int)) then (Option.bind (((chk (0<=s13.2)).bind fun _=>if (qR (lS s7.1 s13.2) 1)==1 then ((bm p0p.1 s13.2).bind fun x12=>if x12==p2letter then ((chk (0<=IntKind.i64.wrap (s13.2+1))).bind fun _=>some (orI s13.1 (AZ 1 (IntKind.i64.wrap (s13.2+1))))) else (some s13.1)) else (some s13.1):Option Int)) (fun s15=>some (.nxt (s15,IntKind.i64.wrap (s13.2+1))))) else (some (.brk (s13.1,s13.2)))
def iK (p0p:(List Int)×Int×Int×(List Int)×Bool) (p1set:Int) (p2letter:Int):Option Int:=
 Option.bind ((if (qR p1set 1)==1 then (some p0p.2.1) else (some 0):Option Int)) (fun s1=>be (aO (dH p0p p1set) bt (s1,0)) (fun r=>some r) (fun s7=>be (aO (dI p0p p2letter s7) bt (0,0)) (fun r=>some r) (fun s14=>some s14.1)))
def fV (p0p:(List Int)×Int×Int×(List Int)×Bool) (p1set:Int):Option Bool:=
 if (qR p1set 1)==1 then (if p0p.2.2.2.2 then (some true) else (some ((qR (lS p1set 1) p0p.2.2.1) !=0))) else (some ((qR (lS p1set 1) p0p.2.2.1) !=0))
def cV (p0:(List Int)×Int×Int×(List Int)×Bool) (s17:(List Int)×Int×Int×(List Bool)×(List (List Int))) (s23:(List Int)×(List Int)×Int):Option (Out (Yq1×Bool) ((List Int)×(List Int)×Int)):=
 if decide (s23.2.2<9) then ((bm s23.1 s17.2.1).bind fun x11=>(iK (p0.1,p0.2.1,p0.2.2.1,p0.2.2.2.1,p0.2.2.2.2) x11 s23.2.2).bind fun r27=>Option.bind ((if r27 !=0 then ((gZ s23.1 r27).bind fun r29=>if decide (r29<0) then ((da 8 s23.1 ([r27])).bind fun z30=>some (z30,(s23.1.length:Int))) else (some (s23.1,r29))) else (some (s23.1,-1)):Option ((List Int)×Int))) (fun s25=>(da 8 s23.2.1 ([s25.2])).bind fun z31=>some (.nxt (s25.1,z31,IntKind.i64.wrap (s23.2.2+1))))) else (some (.brk (s23.1,s23.2.1,s23.2.2)))
def cW (p0:(List Int)×Int×Int×(List Int)×Bool) (p1:Int) (s17:(List Int)×Int×Int×(List Bool)×(List (List Int))):Option (Out (Yq1×Bool) ((List Int)×Int×Int×(List Bool)×(List (List Int)))):=
 if decide (s17.2.1<(s17.1.length:Int)) then (be (aO (cV p0 s17) bt (s17.1,([] :List Int),0)) (fun r=>some (.ret r)) (fun s24=>if decide ((s24.1.length:Int)>p1) then (some (.ret ((0,[],[]),false))) else ((bm s24.1 s17.2.1).bind fun x12=>(fV (p0.1,p0.2.1,p0.2.2.1,p0.2.2.2.1,p0.2.2.2.2) x12).bind fun r30=>(da 1 s17.2.2.2.1 ([r30])).bind fun z32=>(da 24 s17.2.2.2.2 ([s24.2.1])).bind fun z33=>some (.nxt (s24.1,IntKind.i64.wrap (s17.2.1+1),s17.2.2.1,z32,z33))))) else (some (.brk (s17.1,s17.2.1,s17.2.2.1,s17.2.2.2.1,s17.2.2.2.2)))
def cD (p0:(List Int)×Int×Int×(List Int)×Bool) (p1:Int):Option (Yq1×Bool):=
 be (aO (cW p0 p1) bt ([1],0,0,[],[])) (fun r=>some r) (fun s18=>some ((s18.2.2.1,s18.2.2.2.1,s18.2.2.2.2),true))
def eY (p0n:Int):Option Bool:=
 (iH p0n 0 8).bind fun r1=>some r1
def g9 (p0:Int×Int×Int×Int):Option Int:=
 Option.bind ((if p0.1==1 then (some (p0.1==1)) else (some (p0.1==2)):Option Bool)) (fun s1=>if s1 then (if p0.2.1 !=0 then (some (-1)) else (if p0.2.2.1 !=0 then (some (-1)) else (if p0.2.2.2 !=0 then (some (-1)) else (some 0)))) else (if p0.1==3 then ((eY p0.2.1).bind fun r3=>if r3 then (if p0.2.2.1 !=0 then (some (-1)) else (if p0.2.2.2 !=0 then (some (-1)) else (some 0))) else (some (-1))) else (Option.bind ((if p0.1==4 then (some (p0.1==4)) else (some (p0.1==5)):Option Bool)) (fun s2=>if s2 then (if p0.2.1 !=0 then (some (-1)) else (if p0.2.2.1 !=0 then (some (-1)) else (if p0.2.2.2 !=0 then (some (-1)) else (some 2)))) else (if p0.1==6 then (if p0.2.1 !=0 then (some (-1)) else (if p0.2.2.1 !=0 then (some (-1)) else (if p0.2.2.2 !=0 then (some (-1)) else (some 1)))) else (if p0.1==7 then (if p0.2.1 !=0 then (some (-1)) else ((iH p0.2.2.2 1 3).bind fun r1=>if r1 then ((iH p0.2.2.1 0 p0.2.2.2).bind fun r2=>if r2 then (some 1) else (some (-1))) else (some (-1)))) else (some (-1))))))))
def jI (p0e:(List Yq2)) (s3:Int×Int):Option (Out Bool (Int×Int)):=
 if decide (s3.2<(p0e.length:Int)) then ((bm p0e s3.2).bind fun x3=>(g9 (x3.1,x3.2.1,x3.2.2.1,x3.2.2.2)).bind fun r3=>if decide (r3<0) then (some (.ret false)) else (if decide (r3>s3.1) then (some (.ret false)) else (some (.nxt (IntKind.i64.wrap ((IntKind.i64.wrap (s3.1 - r3))+1),IntKind.i64.wrap (s3.2+1)))))) else (some (.brk (s3.1,s3.2)))
def lq (p0e:(List Yq2)):Option Bool:=
 be (aO (jI p0e) bt (0,0)) (fun r=>some r) (fun s4=>some (s4.1==1))
def dJ (p0e:(List Yq2)):Option Bool:=
 if decide ((p0e.length:Int)<=24) then ((lq p0e).bind fun r1=>some r1) else (some false)
def fW (p0l:List Yq2) (s3:Int×Int):Option (Out Int (Int×Int)):=
 if decide (s3.1>0) then ((bm p0l (IntKind.i64.wrap (s3.2 - 1))).bind fun x3=>(g9 (x3.1,x3.2.1,x3.2.2.1,x3.2.2.2)).bind fun r3=>some (.nxt (IntKind.i64.wrap ((IntKind.i64.wrap (s3.1 - 1))+r3),IntKind.i64.wrap (s3.2 - 1)))) else (some (.brk (s3.1,s3.2)))
def dK (p0l:List Yq2):Option Int:=
 be (aO (fW p0l) bt (1,(p0l.length:Int))) (fun r=>some r) (fun s4=>some s4.2)
def b9:Nat->(List Yq2)->Option Int
 | 0,_=>none
 | n+1,p0l =>
  (bm p0l (IntKind.i64.wrap ((p0l.length:Int) - 1))).bind fun x0=>Option.bind ((if x0.1==4 then (some (x0.1==4)) else (some (x0.1==5)):Option Bool)) (fun s1=>if s1 then ((chk (And (0<=(IntKind.i64.wrap ((p0l.length:Int) - 1))) ((IntKind.i64.wrap ((p0l.length:Int) - 1))<=(p0l.length:Int)))).bind fun _=>(dK (p0l.take ((IntKind.i64.wrap ((p0l.length:Int) - 1)).toNat))).bind fun r3=>(chk (And (0<=r3) (r3<=(p0l.length:Int)))).bind fun _=>((b9 n) (p0l.take r3.toNat)).bind fun r9=>(chk (And (0<=r3) (And (r3<=(IntKind.i64.wrap ((p0l.length:Int) - 1))) ((IntKind.i64.wrap ((p0l.length:Int) - 1))<=(p0l.length:Int))))).bind fun _=>((b9 n) ((p0l.take ((IntKind.i64.wrap ((p0l.length:Int) - 1)).toNat)).drop r3.toNat)).bind fun r11=>some (Min.min 100000 (IntKind.i64.wrap ((IntKind.i64.wrap (r9+r11))+1)))) else (if x0.1==6 then ((chk (And (0<=(IntKind.i64.wrap ((p0l.length:Int) - 1))) ((IntKind.i64.wrap ((p0l.length:Int) - 1))<=(p0l.length:Int)))).bind fun _=>((b9 n) (p0l.take ((IntKind.i64.wrap ((p0l.length:Int) - 1)).toNat))).bind fun r13=>some (Min.min 100000 (IntKind.i64.wrap (r13+1)))) else (if x0.1==7 then ((chk (And (0<=(IntKind.i64.wrap ((p0l.length:Int) - 1))) ((IntKind.i64.wrap ((p0l.length:Int) - 1))<=(p0l.length:Int)))).bind fun _=>((b9 n) (p0l.take ((IntKind.i64.wrap ((p0l.length:Int) - 1)).toNat))).bind fun r17=>some (Min.min 100000 (IntKind.i64.wrap ((IntKind.i64.wrap ((IntKind.i64.wrap (r17+3))*x0.2.2.2))+1)))) else (some 1))))
def nP (p0l:List Yq2):Option (List Yq2):=
 (da 32 ([] :List Yq2) p0l).bind fun z1=>some z1
def bZ (p0a:(List Yq2)) (p1b:(List Yq2)) (p2t:Int×Int×Int×Int):Option (List Yq2):=
 (nP p0a).bind fun r1=>(da 32 r1 p1b).bind fun z1=>(da 32 z1 ([(p2t.1,p2t.2.1,p2t.2.2.1,p2t.2.2.2)])).bind fun z2=>some z2
def gK (p0kind:Int):Option (List Yq2):=
 some ([(p0kind,0,0,0)])
def eZ:Nat->(List Yq2)->Int->Int->Option (List Yq2)
 | 0,_,_,_=>none
 | n+1,p0e,p1low,p2high =>
  if p2high==0 then ((gK 2).bind fun r0=>some r0) else (((eZ n) p0e (Max.max 0 (IntKind.i64.wrap (p1low - 1))) (IntKind.i64.wrap (p2high - 1))).bind fun r3=>(bZ p0e r3 (4,0,0,0)).bind fun r4=>if decide (p1low>0) then (some r4) else ((gK 2).bind fun r7=>(bZ r4 r7 (5,0,0,0)).bind fun r8=>some r8))
def bu:Nat->(List Yq2)->Option (List Yq2)
 | 0,_=>none
 | n+1,p0l =>
  (bm p0l (IntKind.i64.wrap ((p0l.length:Int) - 1))).bind fun x0=>Option.bind ((if x0.1==4 then (some (x0.1==4)) else (some (x0.1==5)):Option Bool)) (fun s1=>if s1 then ((chk (And (0<=(IntKind.i64.wrap ((p0l.length:Int) - 1))) ((IntKind.i64.wrap ((p0l.length:Int) - 1))<=(p0l.length:Int)))).bind fun _=>(dK (p0l.take ((IntKind.i64.wrap ((p0l.length:Int) - 1)).toNat))).bind fun r3=>(chk (And (0<=r3) (r3<=(p0l.length:Int)))).bind fun _=>((bu n) (p0l.take r3.toNat)).bind fun r10=>(chk (And (0<=r3) (And (r3<=(IntKind.i64.wrap ((p0l.length:Int) - 1))) ((IntKind.i64.wrap ((p0l.length:Int) - 1))<=(p0l.length:Int))))).bind fun _=>((bu n) ((p0l.take ((IntKind.i64.wrap ((p0l.length:Int) - 1)).toNat)).drop r3.toNat)).bind fun r12=>(bZ r10 r12 (x0.1,x0.2.1,x0.2.2.1,x0.2.2.2)).bind fun r13=>some r13) else (if x0.1==6 then ((chk (And (0<=(IntKind.i64.wrap ((p0l.length:Int) - 1))) ((IntKind.i64.wrap ((p0l.length:Int) - 1))<=(p0l.length:Int)))).bind fun _=>((bu n) (p0l.take ((IntKind.i64.wrap ((p0l.length:Int) - 1)).toNat))).bind fun r18=>(bZ r18 ([] :List Yq2) (x0.1,x0.2.1,x0.2.2.1,x0.2.2.2)).bind fun r19=>some r19) else (if x0.1==7 then ((chk (And (0<=(IntKind.i64.wrap ((p0l.length:Int) - 1))) ((IntKind.i64.wrap ((p0l.length:Int) - 1))<=(p0l.length:Int)))).bind fun _=>((bu n) (p0l.take ((IntKind.i64.wrap ((p0l.length:Int) - 1)).toNat))).bind fun r24=>(eZ iA r24 x0.2.2.1 x0.2.2.2).bind fun r25=>some r25) else (some ([(x0.1,x0.2.1,x0.2.2.1,x0.2.2.2)])))))
def fX (p0e:(List Yq2)):Option (((List Yq2))×Bool):=
 (dJ p0e).bind fun r1=>if r1 then ((b9 iA p0e).bind fun r2=>if decide (r2>5000) then (some ([],false)) else ((bu iA p0e).bind fun r3=>if decide ((r3.length:Int)>400) then (some ([],false)) else (some (r3,true)))) else (some ([],false))
def eH (p1from:Int) (p2to:Int) (s2:Int×List Int):Option (Out Yq4 (Int×List Int)):=
 if decide (s2.1<(s2.2.length:Int)) then (Option.bind (((chk (0<=s2.1)).bind fun _=>if (qR (lS p1from s2.1) 1)==1 then ((bm s2.2 s2.1).bind fun x6=>(bm s2.2 s2.1).bind fun x7=>some (s2.2.set s2.1.toNat (orI x6 p2to))) else (some s2.2):Option (List Int))) (fun s8=>some (.nxt (IntKind.i64.wrap (s2.1+1),s8)))) else (some (.brk (s2.1,s2.2)))
def hH (p0p:(List Int)×Int×Int×(List Int)×Bool) (p1from:Int) (p2to:Int):Option Yq4:=
 be (aO (eH p1from p2to) bt (0,p0p.2.2.2.1)) (fun r9=>some r9) (fun s10=>some (p0p.1,p0p.2.1,p0p.2.2.1,s10.2,p0p.2.2.2.2))
def bH:Nat->Yq4->(List Yq2)->Option ((Bool×Int×Int)×(List Int)×Int×Int×(List Int)×Bool)
 | 0,_,_=>none
 | n+1,p0,p1 =>
  (bm p1 (IntKind.i64.wrap ((p1.length:Int) - 1))).bind fun x0=>if x0.1==2 then (some ((true,0,0),p0.1,p0.2.1,p0.2.2.1,p0.2.2.2.1,p0.2.2.2.2)) else (if x0.1==3 then ((da 8 p0.1 ([x0.2.1])).bind fun z2=>(da 8 p0.2.2.2.1 ([0])).bind fun z3=>some ((false,AZ 1 (p0.1.length:Int),AZ 1 (p0.1.length:Int)),z2,p0.2.1,p0.2.2.1,z3,p0.2.2.2.2)) else (if x0.1==4 then ((chk (And (0<=(IntKind.i64.wrap ((p1.length:Int) - 1))) ((IntKind.i64.wrap ((p1.length:Int) - 1))<=(p1.length:Int)))).bind fun _=>(dK (p1.take ((IntKind.i64.wrap ((p1.length:Int) - 1)).toNat))).bind fun r5=>(chk (And (0<=r5) (r5<=(p1.length:Int)))).bind fun _=>((bH n) (p0.1,p0.2.1,p0.2.2.1,p0.2.2.2.1,p0.2.2.2.2) (p1.take r5.toNat)).bind fun r7=>(chk (And (0<=r5) (And (r5<=(IntKind.i64.wrap ((p1.length:Int) - 1))) ((IntKind.i64.wrap ((p1.length:Int) - 1))<=(p1.length:Int))))).bind fun _=>((bH n) (r7.2.1,r7.2.2.1,r7.2.2.2.1,r7.2.2.2.2.1,r7.2.2.2.2.2) ((p1.take ((IntKind.i64.wrap ((p1.length:Int) - 1)).toNat)).drop r5.toNat)).bind fun r9=>(hH (r9.2.1,r9.2.2.1,r9.2.2.2.1,r9.2.2.2.2.1,r9.2.2.2.2.2) r7.1.2.2 r9.1.2.1).bind fun r10=>if r7.1.1 then (Option.bind ((if r7.1.1 then (some (r9.1.1,orI r7.1.2.1 r9.1.2.1,r9.1.2.2)) else (some (r9.1.1,r7.1.2.1,r9.1.2.2)):Option (Bool×Int×Int))) (fun s11=>Option.bind ((if r9.1.1 then (some (s11.1,s11.2.1,orI r7.1.2.2 r9.1.2.2)) else (some (s11.1,s11.2.1,s11.2.2)):Option (Bool×Int×Int))) (fun s12=>some ((s12.1,s12.2.1,s12.2.2),r10.1,r10.2.1,r10.2.2.1,r10.2.2.2.1,r10.2.2.2.2)))) else (Option.bind ((if r7.1.1 then (some (false,orI r7.1.2.1 r9.1.2.1,r9.1.2.2)) else (some (false,r7.1.2.1,r9.1.2.2)):Option (Bool×Int×Int))) (fun s13=>Option.bind ((if r9.1.1 then (some (s13.1,s13.2.1,orI r7.1.2.2 r9.1.2.2)) else (some (s13.1,s13.2.1,s13.2.2)):Option (Bool×Int×Int))) (fun s14=>some ((s14.1,s14.2.1,s14.2.2),r10.1,r10.2.1,r10.2.2.1,r10.2.2.2.1,r10.2.2.2.2))))) else (if x0.1==5 then ((chk (And (0<=(IntKind.i64.wrap ((p1.length:Int) - 1))) ((IntKind.i64.wrap ((p1.length:Int) - 1))<=(p1.length:Int)))).bind fun _=>(dK (p1.take ((IntKind.i64.wrap ((p1.length:Int) - 1)).toNat))).bind fun r16=>(chk (And (0<=r16) (r16<=(p1.length:Int)))).bind fun _=>((bH n) (p0.1,p0.2.1,p0.2.2.1,p0.2.2.2.1,p0.2.2.2.2) (p1.take r16.toNat)).bind fun r18=>(chk (And (0<=r16) (And (r16<=(IntKind.i64.wrap ((p1.length:Int) - 1))) ((IntKind.i64.wrap ((p1.length:Int) - 1))<=(p1.length:Int))))).bind fun _=>((bH n) (r18.2.1,r18.2.2.1,r18.2.2.2.1,r18.2.2.2.2.1,r18.2.2.2.2.2) ((p1.take ((IntKind.i64.wrap ((p1.length:Int) - 1)).toNat)).drop r16.toNat)).bind fun r20=>if r18.1.1 then (some ((true,orI r18.1.2.1 r20.1.2.1,orI r18.1.2.2 r20.1.2.2),r20.2.1,r20.2.2.1,r20.2.2.2.1,r20.2.2.2.2.1,r20.2.2.2.2.2)) else (some ((r20.1.1,orI r18.1.2.1 r20.1.2.1,orI r18.1.2.2 r20.1.2.2),r20.2.1,r20.2.2.1,r20.2.2.2.1,r20.2.2.2.2.1,r20.2.2.2.2.2))) else (if x0.1==6 then ((chk (And (0<=(IntKind.i64.wrap ((p1.length:Int) - 1))) ((IntKind.i64.wrap ((p1.length:Int) - 1))<=(p1.length:Int)))).bind fun _=>((bH n) (p0.1,p0.2.1,p0.2.2.1,p0.2.2.2.1,p0.2.2.2.2) (p1.take ((IntKind.i64.wrap ((p1.length:Int) - 1)).toNat))).bind fun r22=>(hH (r22.2.1,r22.2.2.1,r22.2.2.2.1,r22.2.2.2.2.1,r22.2.2.2.2.2) r22.1.2.2 r22.1.2.1).bind fun r23=>some ((true,r22.1.2.1,r22.1.2.2),r23.1,r23.2.1,r23.2.2.1,r23.2.2.2.1,r23.2.2.2.2)) else (some ((false,0,0),p0.1,p0.2.1,p0.2.2.1,p0.2.2.2.1,p0.2.2.2.2))))))
def bI (r0:(List Yq2)×Bool) (s2:Int×Int):Option (Out (Yq4×Bool) (Int×Int)):=
 if decide (s2.2<(r0.1.length:Int)) then (Option.bind (((bm r0.1 s2.2).bind fun x3=>if x3.1==3 then (some (IntKind.i64.wrap (s2.1+1))) else (some s2.1):Option Int)) (fun s4=>some (.nxt (s4,IntKind.i64.wrap (s2.2+1))))) else (some (.brk (s2.1,s2.2)))
def dx (p0e:List Yq2):Option (Yq4×Bool):=
 (fX p0e).bind fun r0=>if r0.2 then (be (aO (bI r0) bt (0,0)) (fun r5=>some r5) (fun s6=>if decide (s6.1>20) then (some ((([] :List Int),0,0,([] :List Int),false),false)) else ((bH iA (([] :List Int),0,0,([] :List Int),false) r0.1).bind fun r7=>some ((r7.2.1,r7.1.2.1,r7.1.2.2,r7.2.2.2.2.1,r7.1.1),true)))) else (some ((([] :List Int),0,0,([] :List Int),false),false))
def dn (p0c:(List Int)×Int×Int) (p1n:Int):Option (Bool×Int×Int):=
 (bg (p0c.1,p0c.2.1,p0c.2.2) p1n).bind fun r0=>some (r0.1==0,r0.2.1,r0.2.2)
def vI (p0s:ByteArray) (p1sep:Int) (s1:(List ByteArray)×Int×Int):Option (Out (List ByteArray) ((List ByteArray)×Int×Int)):=
 if decide (s1.2.2<((p0s.size:Nat):Int)) then (Option.bind (((xd p0s s1.2.2).bind fun z2=>if z2==p1sep then ((II p0s s1.2.1 s1.2.2).bind fun z3=>(da 16 s1.1 ([z3])).bind fun z4=>some (z4,IntKind.i64.wrap (s1.2.2+1))) else (some (s1.1,s1.2.1)):Option ((List ByteArray)×Int))) (fun s5=>some (.nxt (s5.1,s5.2,IntKind.i64.wrap (s1.2.2+1))))) else (some (.brk (s1.1,s1.2.1,s1.2.2)))
def vJ (p0s:ByteArray) (p1sep:Int):Option (List ByteArray):=
 be (aO (vI p0s p1sep) bt (([] :List ByteArray),0,0)) (fun r6=>some r6) (fun s7=>(II p0s s7.2.1 ((p0s.size:Nat):Int)).bind fun z8=>(da 16 s7.1 ([z8])).bind fun z9=>some z9)
def gq (p0n:Int):Option ByteArray:=
 (eY p0n).bind fun r1=>if r1 then ((bm ([(⟨#[97]⟩:ByteArray),(⟨#[97,45]⟩:ByteArray),(⟨#[98]⟩:ByteArray),(⟨#[98,45]⟩:ByteArray),(⟨#[99]⟩:ByteArray),(⟨#[99,45]⟩:ByteArray),(⟨#[48]⟩:ByteArray),(⟨#[49]⟩:ByteArray),(⟨#[50]⟩:ByteArray)]) p0n).bind fun x1=>some x1) else (some (⟨#[]⟩:ByteArray))
def oG (s1:Int×ByteArray):Option (Out ByteArray (Int×ByteArray)):=
 if s1.1 !=0 then (Option.bind ((if decide ((Int.tmod s1.1 10)<0) then (some (IntKind.i64.wrap (-(Int.tmod s1.1 10)))) else (some (Int.tmod s1.1 10)):Option Int)) (fun s2=>(IG (pS ([IntKind.u8.wrap (IntKind.i64.wrap (48+s2))])) s1.2).bind fun z3=>some (.nxt (LA s1.1 10,z3)))) else (some (.brk (s1.1,s1.2)))
def jJ (p0n:Int):Option ByteArray:=
 if p0n==0 then (some (⟨#[48]⟩)) else (be (aO (oG) bt (p0n,(⟨#[]⟩:ByteArray))) (fun r4=>some r4) (fun s5=>if decide (p0n<0) then ((IG (⟨#[45]⟩) s5.2).bind fun z6=>some z6) else (some s5.2)))
def qe (p0t:Int×Int×Int×Int):Option ByteArray:=
 if p0t.1==1 then (some (⟨#[33]⟩)) else (if p0t.1==2 then (some (⟨#[40,41]⟩)) else (if p0t.1==3 then ((gq p0t.2.1).bind fun r0=>some r0) else (if p0t.1==4 then (some (⟨#[46]⟩)) else (if p0t.1==5 then (some (⟨#[124]⟩)) else (if p0t.1==6 then (some (⟨#[42]⟩)) else ((jJ p0t.2.2.1).bind fun r7=>(IG (⟨#[123]⟩) r7).bind fun z8=>(IG z8 (⟨#[44]⟩)).bind fun z9=>(jJ p0t.2.2.2).bind fun r10=>(IG z9 r10).bind fun z11=>(IG z11 (⟨#[125]⟩)).bind fun z12=>some z12))))))
def mX (p0s:ByteArray) (s3:Int):Option (Out (Int×Bool) Int):=
 if decide (s3<9) then ((gq s3).bind fun r3=>if r3==p0s then (some (.ret (s3,true))) else (some (.nxt (IntKind.i64.wrap (s3+1))))) else (some (.brk s3))
def kI (p0s:ByteArray):Option (Int×Bool):=
 be (aO (mX p0s) bt 0) (fun r=>some r) (fun s4=>some (0,false))
def tE (p0s:ByteArray) (s1:Int):Option (Out Yq2 Int):=
 if decide (s1<=6) then (if s1 !=3 then ((qe (s1,0,0,0)).bind fun r2=>if r2==p0s then (some (.ret (s1,0,0,0))) else (some (.nxt (IntKind.i64.wrap (s1+1))))) else (some (.nxt (IntKind.i64.wrap (s1+1))))) else (some (.brk s1))
def rQ (p0s:ByteArray):Option Yq2:=
 be (aO (tE p0s) bt 1) (fun r3=>some r3) (fun s4=>(kI p0s).bind fun r5=>if r5.2 then (some (3,r5.1,0,0)) else (if ((p0s.size:Nat):Int)==5 then ((xd p0s 0).bind fun z6=>if z6==123 then ((xd p0s 2).bind fun z7=>if z7==44 then ((xd p0s 4).bind fun z8=>if z8==125 then ((xd p0s 1).bind fun z11=>(xd p0s 3).bind fun z12=>some (7,0,IntKind.i64.wrap ((IntKind.i64.wrap z11) - 48),IntKind.i64.wrap ((IntKind.i64.wrap z12) - 48))) else (some (0,0,0,0))) else (some (0,0,0,0))) else (some (0,0,0,0))) else (some (0,0,0,0))))
def oH (r1:List ByteArray) (s3:Int×(List Yq2)):Option (Out (((List Yq2))×Bool) (Int×(List Yq2))):=
 if decide (s3.1<(r1.length:Int)) then (if decide (s3.1<=24) then ((bm r1 s3.1).bind fun x3=>(rQ x3).bind fun r4=>(da 32 s3.2 ([(r4.1,r4.2.1,r4.2.2.1,r4.2.2.2)])).bind fun z3=>some (.nxt (IntKind.i64.wrap (s3.1+1),z3))) else (some (.brk (s3.1,s3.2)))) else (some (.brk (s3.1,s3.2)))
def ed (p0s:ByteArray):Option (((List Yq2))×Bool):=
 (vJ p0s 32).bind fun r1=>be (aO (oH r1) bt (0,[])) (fun r=>some r) (fun s4=>(dJ s4.2).bind fun r5=>if r5 then (some (s4.2,true)) else (some ([],false)))
def lr (p0c:(List Int)×Int×Int) (p1list:List ByteArray):Option (ByteArray×Int×Int):=
 (bg (p0c.1,p0c.2.1,p0c.2.2) (p1list.length:Int)).bind fun r0=>(bm p1list r0.1).bind fun x1=>some (x1,r0.2.1,r0.2.2)
def jK (p0c:(List Int)×Int×Int):Option ((List Yq2)×Int×Int):=
 (lr (p0c.1,p0c.2.1,p0c.2.2) ([⟨#[97]⟩,⟨#[97,32,98,32,46]⟩,⟨#[97,32,42]⟩,⟨#[97,32,98,32,124,32,42]⟩,⟨#[97,32,97,45,32,46]⟩,⟨#[97,32,42,32,98,32,46]⟩,⟨#[97,32,98,32,42,32,46,32,99,32,46]⟩,⟨#[97,32,97,32,124,32,42]⟩,⟨#[97,32,98,32,46,32,42]⟩,⟨#[48,32,97,32,46,32,42]⟩,⟨#[97,32,49,32,46,32,98,32,46]⟩,⟨#[97,32,123,48,44,50,125]⟩,⟨#[97,32,98,32,124,32,123,49,44,51,125]⟩,⟨#[40,41]⟩,⟨#[33]⟩,⟨#[97,45,32,42,32,97,32,46]⟩,⟨#[97,32,98,45,32,46,32,42,32,99,32,124]⟩,⟨#[97,32,42,32,97,32,42,32,46]⟩,⟨#[97,32,48,32,124,32,42,32,98,32,46]⟩,⟨#[97,32,97,32,46,32,42]⟩,⟨#[97,32,98,32,46,32,98,32,97,32,46,32,124,32,42]⟩])).bind fun r0=>(ed r0.1).bind fun r1=>some (r1.1,r0.2.1,r0.2.2)
def lJ (p0letter:Int):Option (List Yq2):=
 some ([(3,p0letter,0,0)])
def bN:Nat->((List Int)×Int×Int)->Int->Option ((List Yq2)×Int×Int)
 | 0,_,_=>none
 | n+1,p0,p1 =>
  if p1==0 then ((dn (p0.1,p0.2.1,p0.2.2) 12).bind fun r0=>if r0.1 then ((bT (p0.1,r0.2.1,r0.2.2) ([1,2])).bind fun r1=>(gK r1.1).bind fun r2=>some (r2,r1.2.1,r1.2.2)) else ((bT (p0.1,r0.2.1,r0.2.2) ([0,0,2,2,1,4,3,6,7])).bind fun r3=>(lJ r3.1).bind fun r4=>some (r4,r3.2.1,r3.2.2))) else ((bg (p0.1,p0.2.1,p0.2.2) 6).bind fun r5=>Option.bind ((if r5.1==0 then (some (r5.1==0)) else (some (r5.1==1)):Option Bool)) (fun s6=>if s6 then (((bN n) (p0.1,r5.2.1,r5.2.2) (IntKind.i64.wrap (p1 - 1))).bind fun r7=>((bN n) (p0.1,r7.2.1,r7.2.2) (IntKind.i64.wrap (p1 - 1))).bind fun r8=>(bZ r7.1 r8.1 (4,0,0,0)).bind fun r9=>some (r9,r8.2.1,r8.2.2)) else (Option.bind ((if r5.1==2 then (some (r5.1==2)) else (some (r5.1==3)):Option Bool)) (fun s10=>if s10 then (((bN n) (p0.1,r5.2.1,r5.2.2) (IntKind.i64.wrap (p1 - 1))).bind fun r11=>((bN n) (p0.1,r11.2.1,r11.2.2) (IntKind.i64.wrap (p1 - 1))).bind fun r12=>(bZ r11.1 r12.1 (5,0,0,0)).bind fun r13=>some (r13,r12.2.1,r12.2.2)) else (if r5.1==4 then (((bN n) (p0.1,r5.2.1,r5.2.2) (IntKind.i64.wrap (p1 - 1))).bind fun r14=>(bZ r14.1 ([] :List Yq2) (6,0,0,0)).bind fun r15=>some (r15,r14.2.1,r14.2.2)) else ((bg (p0.1,r5.2.1,r5.2.2) 3).bind fun r16=>((bN n) (p0.1,r16.2.1,r16.2.2) (IntKind.i64.wrap (p1 - 1))).bind fun r17=>(bg (p0.1,r17.2.1,r17.2.2) (IntKind.i64.wrap ((IntKind.i64.wrap (1+r16.1))+1))).bind fun r18=>(bZ r17.1 ([] :List Yq2) (7,0,r18.1,IntKind.i64.wrap (1+r16.1))).bind fun r19=>some (r19,r18.2.1,r18.2.2)))))))
def lu (p0c:(List Int)×Int×Int):Option ((List Yq2)×Int×Int):=
 (dn (p0c.1,p0c.2.1,p0c.2.2) 2).bind fun r0=>if r0.1 then ((jK (p0c.1,r0.2.1,r0.2.2)).bind fun r1=>some (r1.1,r1.2.1,r1.2.2)) else ((bg (p0c.1,r0.2.1,r0.2.2) 3).bind fun r2=>(bN iA (p0c.1,r2.2.1,r2.2.2) (IntKind.i64.wrap (1+r2.1))).bind fun r3=>some (r3.1,r3.2.1,r3.2.2))
def df (p0c:(List Int)×Int×Int) (r0:Int×Int×Int) (s6:(List Int)×Int×Int×Int):Option (Out (Yq3×Int×Int) ((List Int)×Int×Int×Int)):=
 if decide (s6.2.1<9) then ((dn (p0c.1,s6.2.2.1,s6.2.2.2) 3).bind fun r7=>Option.bind ((if r7.1 then (some ((-1),r7.2.1,r7.2.2)) else ((bg (p0c.1,r7.2.1,r7.2.2) (IntKind.i64.wrap (1+r0.1))).bind fun r8=>some (r8.1,r8.2.1,r8.2.2)):Option (Int×Int×Int))) (fun s9=>Option.bind ((if decide (s6.2.1>3) then (some (-1)) else (some s9.1):Option Int)) (fun s10=>(da 8 s6.1 ([s10])).bind fun z11=>some (.nxt (z11,IntKind.i64.wrap (s6.2.1+1),s9.2.1,s9.2.2))))) else (some (.brk (s6.1,s6.2.1,s6.2.2.1,s6.2.2.2)))
def eN (p0c:(List Int)×Int×Int) (r0:Int×Int×Int) (s4:Int×Int×(List Bool)×(List (List Int))×Int×Int):Option (Out (Yq3×Int×Int) (Int×Int×(List Bool)×(List (List Int))×Int×Int)):=
 if decide (s4.1<(IntKind.i64.wrap (1+r0.1))) then (be (aO (df p0c r0) bt (([] :List Int),0,s4.2.2.2.2.1,s4.2.2.2.2.2)) (fun r12=>some (.ret r12)) (fun s13=>(dn (p0c.1,s13.2.2.1,s13.2.2.2) 3).bind fun r16=>(da 1 s4.2.2.1 ([r16.1])).bind fun z17=>(da 24 s4.2.2.2.1 ([s13.1])).bind fun z18=>some (.nxt (IntKind.i64.wrap (s4.1+1),s4.2.1,z17,z18,r16.2.1,r16.2.2)))) else (some (.brk (s4.1,s4.2.1,s4.2.2.1,s4.2.2.2.1,s4.2.2.2.2.1,s4.2.2.2.2.2)))
def fq (p0c:(List Int)×Int×Int):Option (Yq3×Int×Int):=
 (bg (p0c.1,p0c.2.1,p0c.2.2) 4).bind fun r0=>(bg (p0c.1,r0.2.1,r0.2.2) (IntKind.i64.wrap (1+r0.1))).bind fun r1=>be (aO (eN p0c r0) bt (0,r1.1,([] :List Bool),([] :List (List Int)),r1.2.1,r1.2.2)) (fun r19=>some r19) (fun s20=>some ((s20.2.1,s20.2.2.1,s20.2.2.2.1),s20.2.2.2.2.1,s20.2.2.2.2.2))
def lx (p0c:(List Int)×Int×Int):Option (Yq3×Int×Int):=
 (dn (p0c.1,p0c.2.1,p0c.2.2) 3).bind fun r0=>if r0.1 then ((fq (p0c.1,r0.2.1,r0.2.2)).bind fun r1=>some ((r1.1.1,r1.1.2.1,r1.1.2.2),r1.2.1,r1.2.2)) else ((lu (p0c.1,r0.2.1,r0.2.2)).bind fun r2=>(dx r2.1).bind fun r3=>(cD (r3.1.1,r3.1.2.1,r3.1.2.2.1,r3.1.2.2.2.1,r3.1.2.2.2.2) 12).bind fun r4=>if r4.2 then (some ((r4.1.1,r4.1.2.1,r4.1.2.2),r2.2.1,r2.2.2)) else ((fq (p0c.1,r2.2.1,r2.2.2)).bind fun r5=>some ((r5.1.1,r5.1.2.1,r5.1.2.2),r5.2.1,r5.2.2)))
def gL (p0c:(List Int)×Int×Int):Option (Yq3×Int×Int):=
 (lx (p0c.1,p0c.2.1,p0c.2.2)).bind fun r0=>(bg (p0c.1,r0.2.1,r0.2.2) 14).bind fun r1=>Option.bind ((if r1.1==0 then ((bT (p0c.1,r1.2.1,r1.2.2) ([(-1),12,1])).bind fun r2=>some (r2.2.1,r2.2.2,r2.1,r0.1.2.1,r0.1.2.2)) else (if r1.1==1 then ((da 1 r0.1.2.1 ([true])).bind fun z3=>some (r1.2.1,r1.2.2,r0.1.1,z3,r0.1.2.2)) else (if r1.1==2 then ((bm r0.1.2.2 0).bind fun x7=>(bT (p0c.1,r1.2.1,r1.2.2) ([(-2),12,0])).bind fun r8=>(bm x7 0).bind fun x9=>some (r8.2.1,r8.2.2,r0.1.1,r0.1.2.1,r0.1.2.2.set 0 (x7.set 0 r8.1))) else (if r1.1==3 then ((bm r0.1.2.2 0).bind fun x14=>(chk (And ((0:Int)<=8) (8<=(x14.length:Int)))).bind fun _=>(bm r0.1.2.2 0).bind fun x16=>(chk (0<((r0.1.2.2.set 0 ([] :List Int)).length:Int))).bind fun _=>some (r1.2.1,r1.2.2,r0.1.1,r0.1.2.1,r0.1.2.2.set 0 (x14.take 8))) else (some (r1.2.1,r1.2.2,r0.1.1,r0.1.2.1,r0.1.2.2))))):Option (Int×Int×Int×(List Bool)×List (List Int)))) (fun s18=>some ((s18.2.2.1,s18.2.2.2.1,s18.2.2.2.2),s18.1,s18.2.1))
def nQ (p0code:List Int):Option (Yq3×Int×(List Bool)×List (List Int)):=
 (kH p0code).bind fun r0=>(gL (p0code,r0.1,r0.2)).bind fun r1=>(dn (p0code,r1.2.1,r1.2.2) 5).bind fun r2=>if r2.1 then ((gb (r1.1.1,r1.1.2.1,r1.1.2.2)).bind fun r4=>some ((r1.1.1,r1.1.2.1,r1.1.2.2),r4.1,r4.2.1,r4.2.2)) else ((gL (p0code,r2.2.1,r2.2.2)).bind fun r6=>some ((r1.1.1,r1.1.2.1,r1.1.2.2),r6.1.1,r6.1.2.1,r6.1.2.2))
def bE (p0code:List Int):Option (Yq1×Yq1):=
 (nQ p0code).bind fun r1=>some ((r1.1.1,r1.1.2.1,r1.1.2.2),(r1.2.1,r1.2.2.1,r1.2.2.2))
def lz (p0c:(List Int)×Int×Int):Option (Int×Int×Int):=
 (dn (p0c.1,p0c.2.1,p0c.2.2) 14).bind fun r0=>if r0.1 then ((bT (p0c.1,r0.2.1,r0.2.2) ([(-1),9,8,100])).bind fun r1=>some (r1.1,r1.2.1,r1.2.2)) else ((bT (p0c.1,r0.2.1,r0.2.2) ([0,0,0,1,2,2,3,4,6,7])).bind fun r2=>some (r2.1,r2.2.1,r2.2.2))
def fY (p0c:(List Int)×Int×Int) (s3:(List Int)×Int×Int×Int):Option (Out ((List Int)×Int×Int) ((List Int)×Int×Int×Int)):=
 if decide (s3.2.1>0) then ((lz (p0c.1,s3.2.2.1,s3.2.2.2)).bind fun r4=>(da 8 s3.1 ([r4.1])).bind fun z5=>some (.nxt (z5,IntKind.i64.wrap (s3.2.1 - 1),r4.2.1,r4.2.2))) else (some (.brk (s3.1,s3.2.1,s3.2.2.1,s3.2.2.2)))
def jL (p0c:(List Int)×Int×Int):Option ((List Int)×Int×Int):=
 (bg (p0c.1,p0c.2.1,p0c.2.2) 6).bind fun r0=>be (aO (fY p0c) bt (([] :List Int),r0.1,r0.2.1,r0.2.2)) (fun r6=>some r6) (fun s7=>some (s7.1,s7.2.2.1,s7.2.2.2))
def fu (p0code:List Int):Option (Yq3×List Int):=
 (kH p0code).bind fun r0=>(gL (p0code,r0.1,r0.2)).bind fun r1=>(jL (p0code,r1.2.1,r1.2.2)).bind fun r2=>some ((r1.1.1,r1.1.2.1,r1.1.2.2),r2.1)
def fQ (p0n:Int) (p1a:Int) (p2b:Int):Option Bool:=
 if decide (p0n≥p1a) then (some (decide (p0n<=p2b))) else (some false)
def bf (p0a:Int×(List Bool)×(List (List Int))) (x9:List Int) (s15:Int):Option (Out Bool Int):=
 if decide (s15<(x9.length:Int)) then ((bm x9 s15).bind fun x12=>(fQ x12 (-1) (IntKind.i64.wrap ((p0a.2.1.length:Int) - 1))).bind fun r14=>if r14 then (some (.nxt (IntKind.i64.wrap (s15+1)))) else (some (.ret false))) else (some (.brk s15))
def bU (p0a:Int×(List Bool)×(List (List Int))) (s11:Int):Option (Out Bool Int):=
 if decide (s11<(p0a.2.2.length:Int)) then ((bm p0a.2.2 s11).bind fun x9=>be (aO (bf p0a x9) bt 0) (fun r=>some (.ret r)) (fun s16=>if (x9.length:Int) !=9 then (some (.ret false)) else (some (.nxt (IntKind.i64.wrap (s11+1)))))) else (some (.brk s11))
def aZ (p0a:Int×(List Bool)×(List (List Int))):Option Bool:=
 (fQ (p0a.2.1.length:Int) 1 12).bind fun r1=>if r1 then ((fQ p0a.1 0 (IntKind.i64.wrap ((p0a.2.1.length:Int) - 1))).bind fun r2=>if r2 then (if (p0a.2.2.length:Int) !=(p0a.2.1.length:Int) then (some false) else (be (aO (bU p0a) bt 0) (fun r=>some r) (fun s12=>some true))) else (some false)) else (some false)
def iL (p0n:Int):Option Bool:=
 (fQ p0n 0 8).bind fun r1=>some r1
def aS (p0a:Int×(List Bool)×(List (List Int))) (p1s:Int) (p2letter:Int):Option Int:=
 if decide (p1s<0) then (some (-1)) else ((iL p2letter).bind fun r1=>if r1 then ((bm p0a.2.2 p1s).bind fun x1=>(bm x1 p2letter).bind fun x2=>some x2) else (some (-1)))
def eI (p0s:Int×Int) (p1letter:Int) (q0:Int×(List Bool)×(List (List Int))) (q1:Int×(List Bool)×(List (List Int))):Option (Int×Int):=
 (aS (q0.1,q0.2.1,q0.2.2) p0s.1 p1letter).bind fun r1=>(aS (q1.1,q1.2.1,q1.2.2) p0s.2 p1letter).bind fun r2=>some (r1,r2)
def bB (p3:(Int×Int)->Int->Option ((Int×Int)×Bool)) (s29:Yq5×(List ((Int×Int)×Int))×Int×Int×(List Bool)×(List (List Int))) (s39:Yq5×(List ((Int×Int)×Int))×(List Int)×Int):Option (Out (Yq1×Bool) (Yq5×(List ((Int×Int)×Int))×(List Int)×Int)):=
 if decide (s39.2.2.2<9) then (Option.bind (((bm s39.1 s29.2.2.1).bind fun x20=>(p3 (x20.1,x20.2) s39.2.2.2).bind fun r20=>if r20.2 then ((chk (yi (r20.1.1,r20.1.2)=true)).bind fun _=>Option.bind ((if (lkM s39.2.1 (r20.1.1,r20.1.2)).isSome then (some (s39.1,s39.2.1,(lkM s39.2.1 (r20.1.1,r20.1.2)).getD 0)) else ((wE s39.2.1 yi iOk (r20.1.1,r20.1.2) (s39.1.length:Int)).bind fun m37=>(da 16 s39.1 ([(r20.1.1,r20.1.2)])).bind fun z75=>some (z75,m37,(s39.1.length:Int))):Option (Yq5×(List ((Int×Int)×Int))×Int))) (fun s43=>(da 8 s39.2.2.1 ([s43.2.2])).bind fun z76=>some (s43.1,s43.2.1,z76))) else ((da 8 s39.2.2.1 ([-1])).bind fun z73=>some (s39.1,s39.2.1,z73)):Option (Yq5×(List ((Int×Int)×Int))×(List Int)))) (fun s42=>some (.nxt (s42.1,s42.2.1,s42.2.2,IntKind.i64.wrap (s39.2.2.2+1))))) else (some (.brk (s39.1,s39.2.1,s39.2.2.1,s39.2.2.2)))
def cn (p1:Int) (p2:(Int×Int)->Option Bool) (p3:(Int×Int)->Int->Option ((Int×Int)×Bool)) (s29:Yq5×(List ((Int×Int)×Int))×Int×Int×(List Bool)×(List (List Int))):Option (Out (Yq1×Bool) (Yq5×(List ((Int×Int)×Int))×Int×Int×(List Bool)×(List (List Int)))):=
 if decide (s29.2.2.1<(s29.1.length:Int)) then (be (aO (bB p3 s29) bt (s29.1,s29.2.1,([] :List Int),0)) (fun r=>some (.ret r)) (fun s40=>if decide ((s40.1.length:Int)>p1) then (some (.ret ((0,[],[]),false))) else ((bm s40.1 s29.2.2.1).bind fun x21=>(p2 (x21.1,x21.2)).bind fun r21=>(da 1 s29.2.2.2.2.1 ([r21])).bind fun z77=>(da 24 s29.2.2.2.2.2 ([s40.2.2.1])).bind fun z78=>some (.nxt (s40.1,s40.2.1,IntKind.i64.wrap (s29.2.2.1+1),s29.2.2.2.1,z77,z78))))) else (some (.brk (s29.1,s29.2.1,s29.2.2.1,s29.2.2.2.1,s29.2.2.2.2.1,s29.2.2.2.2.2)))
def cd (p0:Int×Int) (p1:Int) (p2:(Int×Int)->Option Bool) (p3:(Int×Int)->Int->Option ((Int×Int)×Bool)):Option (Yq1×Bool):=
 (wE ([] :List ((Int×Int)×Int)) yi iOk (p0.1,p0.2) 0).bind fun m1=>be (aO (cn p1 p2 p3) bt ([(p0.1,p0.2)],m1,0,0,[],[])) (fun r=>some r) (fun s30=>some ((s30.2.2.2.1,s30.2.2.2.2.1,s30.2.2.2.2.2),true))
def aV (p0a:Int×(List Bool)×(List (List Int))) (p1s:Int):Option Bool:=
 if decide (p1s≥0) then ((bm p0a.2.1 p1s).bind fun x1=>some x1) else (some false)
def fv (p0s:Int×Int) (q0:Bool->Bool->Option Bool) (q1:Int×(List Bool)×(List (List Int))) (q2:Int×(List Bool)×(List (List Int))):Option Bool:=
 (aV (q1.1,q1.2.1,q1.2.2) p0s.1).bind fun r1=>(aV (q2.1,q2.2.1,q2.2.2) p0s.2).bind fun r2=>(q0 r1 r2).bind fun r3=>some r3
def fw (p0s:Int×Int) (p1letter:Int) (q0:(Int×Int)->Int->Option ((Int×Int))):Option ((Int×Int)×Bool):=
 (q0 (p0s.1,p0s.2) p1letter).bind fun r1=>some ((r1.1,r1.2),true)
def cf (p3:Int->Int->Option (Int×Bool)) (s29:(List Int)×Yq5×Int×Int×(List Bool)×(List (List Int))) (s39:(List Int)×Yq5×(List Int)×Int):Option (Out (Yq1×Bool) ((List Int)×Yq5×(List Int)×Int)):=
 if decide (s39.2.2.2<9) then (Option.bind (((bm s39.1 s29.2.2.1).bind fun x20=>(p3 x20 s39.2.2.2).bind fun r20=>if r20.2 then ((chk (iOk r20.1=true)).bind fun _=>Option.bind ((if (lkM s39.2.1 r20.1).isSome then (some (s39.1,s39.2.1,(lkM s39.2.1 r20.1).getD 0)) else ((wE s39.2.1 iOk iOk r20.1 (s39.1.length:Int)).bind fun m37=>(da 8 s39.1 ([r20.1])).bind fun z75=>some (z75,m37,(s39.1.length:Int))):Option ((List Int)×Yq5×Int))) (fun s43=>(da 8 s39.2.2.1 ([s43.2.2])).bind fun z76=>some (s43.1,s43.2.1,z76))) else ((da 8 s39.2.2.1 ([-1])).bind fun z73=>some (s39.1,s39.2.1,z73)):Option ((List Int)×Yq5×(List Int)))) (fun s42=>some (.nxt (s42.1,s42.2.1,s42.2.2,IntKind.i64.wrap (s39.2.2.2+1))))) else (some (.brk (s39.1,s39.2.1,s39.2.2.1,s39.2.2.2)))
def c7 (p1:Int) (p2:Int->Option Bool) (p3:Int->Int->Option (Int×Bool)) (s29:(List Int)×Yq5×Int×Int×(List Bool)×(List (List Int))):Option (Out (Yq1×Bool) ((List Int)×Yq5×Int×Int×(List Bool)×(List (List Int)))):=
 if decide (s29.2.2.1<(s29.1.length:Int)) then (be (aO (cf p3 s29) bt (s29.1,s29.2.1,([] :List Int),0)) (fun r=>some (.ret r)) (fun s40=>if decide ((s40.1.length:Int)>p1) then (some (.ret ((0,[],[]),false))) else ((bm s40.1 s29.2.2.1).bind fun x21=>(p2 x21).bind fun r21=>(da 1 s29.2.2.2.2.1 ([r21])).bind fun z77=>(da 24 s29.2.2.2.2.2 ([s40.2.2.1])).bind fun z78=>some (.nxt (s40.1,s40.2.1,IntKind.i64.wrap (s29.2.2.1+1),s29.2.2.2.1,z77,z78))))) else (some (.brk (s29.1,s29.2.1,s29.2.2.1,s29.2.2.2.1,s29.2.2.2.2.1,s29.2.2.2.2.2)))
def eO (p0:Int) (p1:Int) (p2:Int->Option Bool) (p3:Int->Int->Option (Int×Bool)):Option (Yq1×Bool):=
 (wE ([] :List (Int×Int)) iOk iOk p0 0).bind fun m1=>be (aO (c7 p1 p2 p3) bt ([p0],m1,0,0,[],[])) (fun r=>some r) (fun s30=>some ((s30.2.2.2.1,s30.2.2.2.2.1,s30.2.2.2.2.2),true))
def mb (p0x:Int) (p1y:Int):Option (Int×Int):=
 some (IntKind.u32.wrap (lS (IntKind.u64.wrap ((IntKind.u64.wrap p0x)*(IntKind.u64.wrap p1y))) 32),IntKind.u32.wrap (IntKind.u64.wrap ((IntKind.u64.wrap p0x)*(IntKind.u64.wrap p1y))))
def hO (p0x:Int) (p1y:Int):Option (Int×Int):=
 some (IntKind.u64.wrap ((IntKind.u64.wrap ((IntKind.u64.wrap ((lS p0x 32)*(lS p1y 32)))+(lS (IntKind.u64.wrap ((IntKind.u64.wrap ((lS p0x 32)*(DV p1y 4294967295)))+(lS (IntKind.u64.wrap ((DV p0x 4294967295)*(DV p1y 4294967295))) 32))) 32)))+(lS (IntKind.u64.wrap ((DV (IntKind.u64.wrap ((IntKind.u64.wrap ((lS p0x 32)*(DV p1y 4294967295)))+(lS (IntKind.u64.wrap ((DV p0x 4294967295)*(DV p1y 4294967295))) 32))) 4294967295)+(IntKind.u64.wrap ((DV p0x 4294967295)*(lS p1y 32))))) 32)),IntKind.u64.wrap (p0x*p1y))
def jm (p0x:Int) (p1y:Int):Option (Int×Int):=
 (hO p0x p1y).bind fun r1=>some (r1.1,r1.2)
def gf (s4:Int×List Int):Option (Out (List Int) (Int×List Int)):=
 if decide (s4.1<(s4.2.length:Int)) then ((chk (And (0<=s4.1) (s4.1<=(s4.2.length:Int)))).bind fun _=>(chk (And (0<=s4.1) (s4.1<=(s4.2.length:Int)))).bind fun _=>(chk (And (0<=s4.1) (s4.1<=(s4.2.length:Int)))).bind fun _=>(chk (And (0<=s4.1) (s4.1<=(s4.2.length:Int)))).bind fun _=>some (.nxt (IntKind.i64.wrap (s4.1+((Min.min ((s4.2.take s4.1.toNat).length) (s4.2.length - s4.1.toNat):Nat):Int)),qV s4.2 s4.1.toNat (s4.2.take s4.1.toNat)))) else (some (.brk (s4.1,s4.2)))
def dL (p0x:List Int) (p1count:Int):Option (List Int):=
 if decide (p1count<0) then (none) else ((jm (IntKind.u64.wrap (p0x.length:Int)) (IntKind.u64.wrap p1count)).bind fun r0=>if decide (r0.1>0) then (none) else (if decide (r0.2>9223372036854775807) then (none) else ((mkI 8 (IntKind.i64.wrap r0.2) 0).bind fun z1=>be (aO (gf) bt (((Min.min p0x.length (z1.length - 0):Nat):Int),qV z1 0 p0x)) (fun r13=>some r13) (fun s14=>some s14.2))))
def mc:Option Yq1:=
 (dL ([-1]) 9).bind fun r1=>some (0,[false],[r1])
def bJ (s5:Bool×Int×List Bool) (x6:List Int) (s8:Bool×Int×List Bool):Option (Out (List Bool) (Bool×Int×List Bool)):=
 if decide (s8.2.1<(x6.length:Int)) then (Option.bind (((bm x6 s8.2.1).bind fun x9=>if decide (x9≥0) then ((bm s8.2.2 x9).bind fun x10=>if x10 then ((bm s8.2.2 s5.2.1).bind fun x11=>if x11 then (some (s8.1,s8.2.2)) else ((bm s8.2.2 s5.2.1).bind fun x12=>some (true,s8.2.2.set s5.2.1.toNat true))) else (some (s8.1,s8.2.2))) else (some (s8.1,s8.2.2)):Option (Bool×List Bool))) (fun s13=>some (.nxt (s13.1,IntKind.i64.wrap (s8.2.1+1),s13.2)))) else (some (.brk (s8.1,s8.2.1,s8.2.2)))
def bK (p0a:Int×(List Bool)×List (List Int)) (s5:Bool×Int×List Bool):Option (Out (List Bool) (Bool×Int×List Bool)):=
 if decide (s5.2.1<(p0a.2.2.length:Int)) then ((bm p0a.2.2 s5.2.1).bind fun x6=>be (aO (bJ s5 x6) bt (s5.1,0,s5.2.2)) (fun r14=>some (.ret r14)) (fun s15=>some (.nxt (s15.1,IntKind.i64.wrap (s5.2.1+1),s15.2.2)))) else (some (.brk (s5.1,s5.2.1,s5.2.2)))
def dM (p0a:Int×(List Bool)×List (List Int)) (s3:Bool×List Bool):Option (Out (List Bool) (Bool×List Bool)):=
 if s3.1 then (be (aO (bK p0a) bt (false,0,s3.2)) (fun r16=>some (.ret r16)) (fun s17=>some (.nxt (s17.1,s17.2.2)))) else (some (.brk (s3.1,s3.2)))
def cx (p0a:Int×(List Bool)×List (List Int)):Option (List Bool):=
 (da 1 ([] :List Bool) p0a.2.1).bind fun z0=>be (aO (dM p0a) bt (true,z0)) (fun r18=>some r18) (fun s19=>some s19.2)
def bh (p0s:List (List Int)) (p1f:(List Int)->Option Bool) (s3:Int):Option (Out Int Int):=
 if decide (s3<(p0s.length:Int)) then ((bm p0s s3).bind fun x3=>(p1f x3).bind fun r6=>if r6 then (some (.ret s3)) else (some (.nxt (IntKind.i64.wrap (s3+1))))) else (some (.brk s3))
def bc (p0s:List (List Int)) (p1f:(List Int)->Option Bool):Option Int:=
 be (aO (bh p0s p1f) bt 0) (fun r=>some r) (fun s4=>some (-1))
def bp (p0s1:List Int) (p1s2:List Int) (s3:Int):Option (Out Bool Int):=
 if decide (s3<(p0s1.length:Int)) then ((bm p0s1 s3).bind fun x5=>(bm p1s2 s3).bind fun x6=>if x5 !=x6 then (some (.ret false)) else (some (.nxt (IntKind.i64.wrap (s3+1))))) else (some (.brk s3))
def cr (p0s1:List Int) (p1s2:List Int):Option Bool:=
 if (p0s1.length:Int) !=(p1s2.length:Int) then (some false) else (be (aO (bp p0s1 p1s2) bt 0) (fun r=>some r) (fun s4=>some true))
def dt (p0x:List Int) (q0:List Int):Option Bool:=
 (cr p0x q0).bind fun r1=>some r1
def bw (p1:List Int) (x57:List Int) (s52:Int×(List Int)):Option (Out ((List Int)×Int) (Int×(List Int))):=
 if decide (s52.1<(x57.length:Int)) then ((bm x57 s52.1).bind fun x64=>Option.bind ((if decide (x64≥0) then ((bm p1 x64).bind fun x66=>some x66) else (some x64):Option Int)) (fun s54=>(da 8 s52.2 ([s54])).bind fun z38=>some (.nxt (IntKind.i64.wrap (s52.1+1),z38)))) else (some (.brk (s52.1,s52.2)))
def bV (p0:Int×(List Bool)×(List (List Int))) (p1:List Int) (s37:(List (List Int))×(List Int)×Int):Option (Out ((List Int)×Int) ((List (List Int))×(List Int)×Int)):=
 if decide (s37.2.2<(p1.length:Int)) then (Option.bind (((bm p1 s37.2.2).bind fun x56=>if decide (x56<0) then ((da 8 s37.2.1 ([-1])).bind fun z42=>some (s37.1,z42)) else ((bm p0.2.2 s37.2.2).bind fun x57=>be (aO (bw p1 x57) bt (0,[x56])) (fun _=>none) (fun s53=>(bc s37.1 (fun a0=>dt a0 s53.2)).bind fun r12=>Option.bind ((if decide (r12<0) then ((da 24 s37.1 ([s53.2])).bind fun z40=>some (z40,(s37.1.length:Int))) else (some (s37.1,r12)):Option ((List (List Int))×Int))) (fun s55=>(da 8 s37.2.1 ([s55.2])).bind fun z41=>some (s55.1,z41)))):Option ((List (List Int))×(List Int)))) (fun s47=>some (.nxt (s47.1,s47.2,IntKind.i64.wrap (s37.2.2+1))))) else (some (.brk (s37.1,s37.2.1,s37.2.2)))
def bR (p0:Int×(List Bool)×(List (List Int))) (p1:List Int):Option ((List Int)×Int):=
 be (aO (bV p0 p1) bt (([] :List (List Int)),([] :List Int),0)) (fun r=>some r) (fun s38=>some (s38.2.1,(s38.1.length:Int)))
def bq (p0a:Int×(List Bool)×(List (List Int))) (r1:List Bool) (s5:(List Int)×Int):Option (Out (List Int) ((List Int)×Int)):=
 if decide (s5.2<(r1.length:Int)) then (Option.bind (((bm r1 s5.2).bind fun x11=>if x11 then ((bm p0a.2.1 s5.2).bind fun x12=>if x12 then ((da 8 s5.1 ([1])).bind fun z18=>some z18) else ((da 8 s5.1 ([0])).bind fun z17=>some z17)) else ((da 8 s5.1 ([-1])).bind fun z16=>some z16):Option (List Int))) (fun s7=>some (.nxt (s7,IntKind.i64.wrap (s5.2+1))))) else (some (.brk (s5.1,s5.2)))
def cX (p0a:Int×(List Bool)×(List (List Int))) (s10:(List Int)×Int):Option (Out (List Int) ((List Int)×Int)):=
 (bR (p0a.1,p0a.2.1,p0a.2.2) s10.1).bind fun r4=>if r4.2==s10.2 then (some (.ret r4.1)) else (some (.nxt (r4.1,r4.2)))
def bL (p0a:Int×(List Bool)×(List (List Int))):Option (List Int):=
 (cx (p0a.1,p0a.2.1,p0a.2.2)).bind fun r1=>be (aO (bq p0a r1) bt (([] :List Int),0)) (fun r=>some r) (fun s6=>be (aO (cX p0a) bt (s6.1,-1)) (fun r=>some r) (fun s11=>none))
def bP (p0s:List Int) (p1v:Int) (s3:Int):Option (Out Int Int):=
 if decide (s3<(p0s.length:Int)) then ((bm p0s s3).bind fun x3=>if p1v==x3 then (some (.ret s3)) else (some (.nxt (IntKind.i64.wrap (s3+1))))) else (some (.brk s3))
def ct (p0s:List Int) (p1v:Int):Option Int:=
 be (aO (bP p0s p1v) bt 0) (fun r=>some r) (fun s4=>some (-1))
def aR (p0class:Int) (q0:List Int):Option Int:=
 (ct q0 p0class).bind fun r1=>some r1
def br (p0c:Int) (q0:Int×(List Bool)×(List (List Int))) (q1:Int->Option Int):Option Bool:=
 (q1 p0c).bind fun r1=>(bm q0.2.1 r1).bind fun x1=>some x1
def bs (p0c:Int) (p1letter:Int) (q0:Int×(List Bool)×(List (List Int))) (q1:Int->Option Int) (q2:List Int):Option (Int×Bool):=
 (q1 p0c).bind fun r1=>(aS (q0.1,q0.2.1,q0.2.2) r1 p1letter).bind fun r2=>if decide (r2<0) then (some (0,false)) else ((bm q2 r2).bind fun x1=>if decide (x1<0) then (some (0,false)) else ((bm q2 r2).bind fun x2=>some (x2,true)))
def bj (p0a:Int×(List Bool)×(List (List Int))):Option Yq1:=
 (bL (p0a.1,p0a.2.1,p0a.2.2)).bind fun r1=>(bm r1 p0a.1).bind fun x1=>if decide (x1<0) then ((mc).bind fun r3=>some (r3.1,r3.2.1,r3.2.2)) else ((bm r1 p0a.1).bind fun x2=>(eO x2 (r1.length:Int) (fun a0=>br a0 (p0a.1,p0a.2.1,p0a.2.2) (fun a0=>aR a0 r1)) (fun a0 a1=>bs a0 a1 (p0a.1,p0a.2.1,p0a.2.2) (fun a0=>aR a0 r1) r1)).bind fun r2=>some (r2.1.1,r2.1.2.1,r2.1.2.2))
def hY (p0a:Int×(List Bool)×(List (List Int))):Option (Yq1×Bool):=
 (bj (p0a.1,p0a.2.1,p0a.2.2)).bind fun r1=>if decide ((r1.2.1.length:Int)>12) then (some ((0,[],[]),false)) else (some ((r1.1,r1.2.1,r1.2.2),true))
def c8 (p0a:Int×(List Bool)×List (List Int)) (p1b:Int×(List Bool)×List (List Int)) (p2test:Bool->Bool->Option Bool):Option (Yq3×Bool):=
 (aZ (p0a.1,p0a.2.1,p0a.2.2)).bind fun r0=>if r0 then ((aZ (p1b.1,p1b.2.1,p1b.2.2)).bind fun r1=>if r1 then ((cd (p0a.1,p1b.1) 1000 (fun (u2:Int×Int)=>fv u2 p2test (p0a.1,p0a.2.1,p0a.2.2) (p1b.1,p1b.2.1,p1b.2.2)) (fun (u3:Int×Int) (u4:Int)=>fw u3 u4 (fun (u5:Int×Int) (u6:Int)=>eI u5 u6 (p0a.1,p0a.2.1,p0a.2.2) (p1b.1,p1b.2.1,p1b.2.2)))).bind fun r7=>(hY (r7.1.1,r7.1.2.1,r7.1.2.2)).bind fun r8=>some ((r8.1.1,r8.1.2.1,r8.1.2.2),r8.2)) else (some ((0,([] :List Bool),([] :List (List Int))),false))) else (some ((0,([] :List Bool),([] :List (List Int))),false))
def bz (p0x:Bool) (p1y:Bool):Option Bool:=
 if p0x then (some p1y) else (some false)
def cy (p0a:Int×(List Bool)×(List (List Int))) (p1b:Int×(List Bool)×(List (List Int))):Option (Yq1×Bool):=
 (c8 (p0a.1,p0a.2.1,p0a.2.2) (p1b.1,p1b.2.1,p1b.2.2) (fun a0 a1=>bz a0 a1)).bind fun r1=>some ((r1.1.1,r1.1.2.1,r1.1.2.2),r1.2)
def cg (p0x:Bool) (p1y:Bool):Option Bool:=
 if p0x then (some true) else (some p1y)
def eg (p0a:Int×(List Bool)×(List (List Int))) (p1b:Int×(List Bool)×(List (List Int))):Option (Yq1×Bool):=
 (c8 (p0a.1,p0a.2.1,p0a.2.2) (p1b.1,p1b.2.1,p1b.2.2) (fun a0 a1=>cg a0 a1)).bind fun r1=>some ((r1.1.1,r1.1.2.1,r1.1.2.2),r1.2)
def bC (p0x:Bool) (p1y:Bool):Option Bool:=
 if p0x then (some (!p1y)) else (some false)
def cL (p0a:Int×(List Bool)×(List (List Int))) (p1b:Int×(List Bool)×(List (List Int))):Option (Yq1×Bool):=
 (c8 (p0a.1,p0a.2.1,p0a.2.2) (p1b.1,p1b.2.1,p1b.2.2) (fun a0 a1=>bC a0 a1)).bind fun r1=>some ((r1.1.1,r1.1.2.1,r1.1.2.2),r1.2)
def cE (p0x:Bool) (p1_:Bool):Option Bool:=
 some (!p0x)
def bW (p0a:Int×(List Bool)×(List (List Int))):Option (Yq1×Bool):=
 (c8 (p0a.1,p0a.2.1,p0a.2.2) (p0a.1,p0a.2.1,p0a.2.2) (fun a0 a1=>cE a0 a1)).bind fun r1=>some ((r1.1.1,r1.1.2.1,r1.1.2.2),r1.2)
def hZ (p0a:Int×(List Bool)×(List (List Int))) (p1s:Int) (p2k:Int):Option Int:=
 if decide (p1s<0) then (some (-1)) else ((bm p0a.2.2 p1s).bind fun x1=>(bm x1 p2k).bind fun x2=>some x2)
def mY (p0op:Int) (p1x:Bool) (p2y:Bool):Option Bool:=
 if p0op==1 then (if p1x then (some p2y) else (some false)) else (if p0op==2 then (if p1x then (some true) else (some p2y)) else (if p1x then (some (!p2y)) else (some false)))
def fx (p0a:Int×(List Bool)×(List (List Int))) (p1s:Int):Option Bool:=
 if decide (p1s≥0) then ((bm p0a.2.1 p1s).bind fun x1=>some x1) else (some false)
def dN (s79:(List Int)×(List Int)×(List Int)×Int) (r23:Int) (r24:Int) (s85:Int×Int):Option (Out Yq1 (Int×Int)):=
 if decide (s85.2<(s79.1.length:Int)) then (Option.bind (((bm s79.1 s85.2).bind fun x129=>if x129==r23 then ((bm s79.2.1 s85.2).bind fun x130=>if x130==r24 then (some s85.2) else (some s85.1)) else (some s85.1):Option Int)) (fun s87=>some (.nxt (s87,IntKind.i64.wrap (s85.2+1))))) else (some (.brk (s85.1,s85.2)))
def dO (p0:Int×(List Bool)×(List (List Int))) (p1:Int×(List Bool)×(List (List Int))) (s59:(List Int)×(List Int)×Int×Int×(List Bool)×(List (List Int))) (s79:(List Int)×(List Int)×(List Int)×Int):Option (Out Yq1 ((List Int)×(List Int)×(List Int)×Int)):=
 if decide (s79.2.2.2<9) then ((bm s79.1 s59.2.2.1).bind fun x117=>(hZ (p0.1,p0.2.1,p0.2.2) x117 s79.2.2.2).bind fun r23=>(bm s79.2.1 s59.2.2.1).bind fun x118=>(hZ (p1.1,p1.2.1,p1.2.2) x118 s79.2.2.2).bind fun r24=>be (aO (dN s79 r23 r24) bt (-1,0)) (fun r=>some (.ret r)) (fun s86=>Option.bind ((if decide (s86.1<0) then ((da 8 s79.1 ([r23])).bind fun z47=>(da 8 s79.2.1 ([r24])).bind fun z48=>some (z47,z48,(s79.1.length:Int))) else (some (s79.1,s79.2.1,s86.1)):Option ((List Int)×(List Int)×Int))) (fun s88=>(da 8 s79.2.2.1 ([s88.2.2])).bind fun z49=>some (.nxt (s88.1,s88.2.1,z49,IntKind.i64.wrap (s79.2.2.2+1)))))) else (some (.brk (s79.1,s79.2.1,s79.2.2.1,s79.2.2.2)))
def fy (p0:Int×(List Bool)×(List (List Int))) (p1:Int×(List Bool)×(List (List Int))) (p2:Int) (s59:(List Int)×(List Int)×Int×Int×(List Bool)×(List (List Int))):Option (Out Yq1 ((List Int)×(List Int)×Int×Int×(List Bool)×(List (List Int)))):=
 if decide (s59.2.2.1<(s59.1.length:Int)) then (be (aO (dO p0 p1 s59) bt (s59.1,s59.2.1,([] :List Int),0)) (fun r=>some (.ret r)) (fun s80=>(bm s80.1 s59.2.2.1).bind fun x131=>(fx (p0.1,p0.2.1,p0.2.2) x131).bind fun r25=>(bm s80.2.1 s59.2.2.1).bind fun x132=>(fx (p1.1,p1.2.1,p1.2.2) x132).bind fun r26=>(mY p2 r25 r26).bind fun r27=>(da 1 s59.2.2.2.2.1 ([r27])).bind fun z50=>(da 24 s59.2.2.2.2.2 ([s80.2.2.1])).bind fun z51=>some (.nxt (s80.1,s80.2.1,IntKind.i64.wrap (s59.2.2.1+1),s59.2.2.2.1,z50,z51)))) else (some (.brk (s59.1,s59.2.1,s59.2.2.1,s59.2.2.2.1,s59.2.2.2.2.1,s59.2.2.2.2.2)))
def iM (p0:Int×(List Bool)×(List (List Int))) (p1:Int×(List Bool)×(List (List Int))) (p2:Int):Option Yq1:=
 be (aO (fy p0 p1 p2) bt ([p0.1],[p1.1],0,0,[],[])) (fun r=>some r) (fun s60=>some (s60.2.2.2.1,s60.2.2.2.2.1,s60.2.2.2.2.2))
def eT (p0a:Int×(List Bool)×(List (List Int))) (p1b:Int×(List Bool)×(List (List Int))) (p2op:Int):Option (Yq1×Bool):=
 (aE (p0a.1,p0a.2.1,p0a.2.2)).bind fun r1=>if r1 then ((aE (p1b.1,p1b.2.1,p1b.2.2)).bind fun r2=>if r2 then ((iM (p0a.1,p0a.2.1,p0a.2.2) (p1b.1,p1b.2.1,p1b.2.2) p2op).bind fun r3=>(bG (r3.1,r3.2.1,r3.2.2)).bind fun r4=>if decide ((r4.2.1.length:Int)>12) then (some ((0,[],[]),false)) else (some ((r4.1,r4.2.1,r4.2.2),true))) else (some ((0,[],[]),false))) else (some ((0,[],[]),false))
def cz (p0a:Int×(List Bool)×(List (List Int))) (p1b:Int×(List Bool)×(List (List Int))):Option (Yq1×Bool):=
 (eT (p0a.1,p0a.2.1,p0a.2.2) (p1b.1,p1b.2.1,p1b.2.2) 1).bind fun r1=>some ((r1.1.1,r1.1.2.1,r1.1.2.2),r1.2)
def tF (s3:(List Int)×Int):Option (Out Yq1 ((List Int)×Int)):=
 if decide (s3.2<9) then ((da 8 s3.1 ([0])).bind fun z3=>some (.nxt (z3,IntKind.i64.wrap (s3.2+1)))) else (some (.brk (s3.1,s3.2)))
def nR:Option Yq1:=
 be (aO (tF) bt (([] :List Int),0)) (fun r=>some r) (fun s4=>some (0,[true],[s4.1]))
def bX (p0a:Int×(List Bool)×(List (List Int))):Option (Yq1×Bool):=
 (nR).bind fun r1=>(eT (r1.1,r1.2.1,r1.2.2) (p0a.1,p0a.2.1,p0a.2.2) 3).bind fun r2=>some ((r2.1.1,r2.1.2.1,r2.1.2.2),r2.2)
def cM (p0:Int×(List Bool)×(List (List Int))) (p1:Int×(List Bool)×(List (List Int))) (s3:Int):Option (Out Bool Int):=
 if decide (s3<(p0.2.1.length:Int)) then ((bm p0.2.1 s3).bind fun x5=>(bm p1.2.1 s3).bind fun x6=>if x5 !=x6 then (some (.ret false)) else (some (.nxt (IntKind.i64.wrap (s3+1))))) else (some (.brk s3))
def cN (p0:Int×(List Bool)×(List (List Int))) (p1:Int×(List Bool)×(List (List Int))) (s7:Int):Option (Out Bool Int):=
 if decide (s7<(p0.2.2.length:Int)) then ((bm p0.2.2 s7).bind fun x11=>(bm p1.2.2 s7).bind fun x12=>(jk x11 x12).bind fun r9=>if r9 !=0 then (some (.ret false)) else (some (.nxt (IntKind.i64.wrap (s7+1))))) else (some (.brk s7))
def b0 (p0:Int×(List Bool)×(List (List Int))) (p1:Int×(List Bool)×(List (List Int))):Option Bool:=
 if p0.1 !=p1.1 then (some false) else (if (p0.2.1.length:Int) !=(p1.2.1.length:Int) then (some false) else (if (p0.2.2.length:Int) !=(p1.2.2.length:Int) then (some false) else (be (aO (cM p0 p1) bt 0) (fun r=>some r) (fun s4=>be (aO (cN p0 p1) bt 0) (fun r=>some r) (fun s8=>some true)))))
def jM (p0a:Int×(List Bool)×(List (List Int))) (p2w:List Int) (s3:Int×Int):Option (Out Int (Int×Int)):=
 if decide (s3.2<(p2w.length:Int)) then (if decide (s3.1≥0) then ((bm p2w s3.2).bind fun x9=>(eY x9).bind fun r5=>if r5 then ((bm p0a.2.2 s3.1).bind fun x10=>(bm p2w s3.2).bind fun x11=>(bm x10 x11).bind fun x12=>some (.nxt (x12,IntKind.i64.wrap (s3.2+1)))) else (some (.ret (-1)))) else (some (.brk (s3.1,s3.2)))) else (some (.brk (s3.1,s3.2)))
def lA (p0a:Int×(List Bool)×(List (List Int))) (p1s:Int) (p2w:List Int):Option Int:=
 be (aO (jM p0a p2w) bt (p1s,0)) (fun r=>some r) (fun s4=>some s4.1)
def jN (p0a:Int×(List Bool)×(List (List Int))) (p1w:List Int):Option Int:=
 (aE (p0a.1,p0a.2.1,p0a.2.2)).bind fun r1=>if r1 then ((lA (p0a.1,p0a.2.1,p0a.2.2) p0a.1 p1w).bind fun r2=>some r2) else (some (-1))
def dP (p0a:Int×(List Bool)×(List (List Int))) (p1w:List Int):Option Bool:=
 (jN (p0a.1,p0a.2.1,p0a.2.2) p1w).bind fun r1=>if decide (r1≥0) then ((bm p0a.2.1 r1).bind fun x1=>some x1) else (some false)
def fZ (p0a:Int×(List Bool)×(List (List Int))) (p1word:List Int) (s3:Int×Int):Option (Out Int (Int×Int)):=
 if decide (s3.2<(p1word.length:Int)) then ((bm p1word s3.2).bind fun x3=>(aS (p0a.1,p0a.2.1,p0a.2.2) s3.1 x3).bind fun r4=>some (.nxt (r4,IntKind.i64.wrap (s3.2+1)))) else (some (.brk (s3.1,s3.2)))
def jO (p0a:Int×(List Bool)×(List (List Int))) (p1word:List Int):Option Int:=
 (aZ (p0a.1,p0a.2.1,p0a.2.2)).bind fun r1=>if r1 then (be (aO (fZ p0a p1word) bt (p0a.1,0)) (fun r=>some r) (fun s4=>some s4.1)) else (some (-1))
def aj (p0a:Int×(List Bool)×(List (List Int))) (p1word:List Int):Option Bool:=
 (jO (p0a.1,p0a.2.1,p0a.2.2) p1word).bind fun r1=>(aV (p0a.1,p0a.2.1,p0a.2.2) r1).bind fun r2=>some r2
def dg (r2:Yq3×List Int) (s22:Bool×Int):Option (Out Bool (Bool×Int)):=
 if decide (s22.2<(r2.2.length:Int)) then (if s22.1 then ((bm r2.2 s22.2).bind fun x23=>if decide (x23≥0) then ((bm r2.2 s22.2).bind fun x24=>some (.nxt (decide (x24<9),IntKind.i64.wrap (s22.2+1)))) else (some (.nxt (false,IntKind.i64.wrap (s22.2+1))))) else (some (.nxt (false,IntKind.i64.wrap (s22.2+1))))) else (some (.brk (s22.1,s22.2)))
def gE (p0:List Int):Option Bool:=
 (xw p0).bind fun r0=>if r0 then (some true) else ((bE p0).bind fun r1=>(fu p0).bind fun r2=>(cy (r1.1.1,r1.1.2.1,r1.1.2.2) (r1.2.1,r1.2.2.1,r1.2.2.2)).bind fun r3=>(eg (r1.1.1,r1.1.2.1,r1.1.2.2) (r1.2.1,r1.2.2.1,r1.2.2.2)).bind fun r4=>(cL (r1.1.1,r1.1.2.1,r1.1.2.2) (r1.2.1,r1.2.2.1,r1.2.2.2)).bind fun r5=>(bW (r1.1.1,r1.1.2.1,r1.1.2.2)).bind fun r6=>(cz (r1.1.1,r1.1.2.1,r1.1.2.2) (r1.2.1,r1.2.2.1,r1.2.2.2)).bind fun r7=>(bX (r1.1.1,r1.1.2.1,r1.1.2.2)).bind fun r8=>if r3.2 !=r7.2 then (some false) else (if r6.2 !=r8.2 then (some false) else ((b0 (r3.1.1,r3.1.2.1,r3.1.2.2) (r7.1.1,r7.1.2.1,r7.1.2.2)).bind fun r9=>if r9 then ((b0 (r6.1.1,r6.1.2.1,r6.1.2.2) (r8.1.1,r8.1.2.1,r8.1.2.2)).bind fun r10=>if r10 then ((aE (r1.1.1,r1.1.2.1,r1.1.2.2)).bind fun r11=>if r11 then ((aE (r1.2.1,r1.2.2.1,r1.2.2.2)).bind fun r12=>if r12 then ((dP (r1.1.1,r1.1.2.1,r1.1.2.2) r2.2).bind fun r19=>(dP (r1.2.1,r1.2.2.1,r1.2.2.2) r2.2).bind fun r20=>be (aO (dg r2) bt (true,0)) (fun r25=>some r25) (fun s26=>if r3.2 then ((aj (r3.1.1,r3.1.2.1,r3.1.2.2) r2.2).bind fun r27=>if r19 then (if r27==r20 then (if r4.2 then ((aj (r4.1.1,r4.1.2.1,r4.1.2.2) r2.2).bind fun r28=>if r19 then (if r28==true then (if r5.2 then ((aj (r5.1.1,r5.1.2.1,r5.1.2.2) r2.2).bind fun r29=>if r19 then (if r29==(cond.match_1 (fun (u30:Bool)=>Bool) r20 (fun (u31:Unit)=>false) (fun (u32:Unit)=>true)) then (if r6.2 then (if s26.1 then ((aj (r6.1.1,r6.1.2.1,r6.1.2.2) r2.2).bind fun r33=>some (r33 !=r19)) else (some true)) else (some true)) else (some false)) else (if r29==false then (if r6.2 then (if s26.1 then ((aj (r6.1.1,r6.1.2.1,r6.1.2.2) r2.2).bind fun r34=>some (r34 !=r19)) else (some true)) else (some true)) else (some false))) else (if r6.2 then (if s26.1 then ((aj (r6.1.1,r6.1.2.1,r6.1.2.2) r2.2).bind fun r35=>some (r35 !=r19)) else (some true)) else (some true))) else (some false)) else (if r28==r20 then (if r5.2 then ((aj (r5.1.1,r5.1.2.1,r5.1.2.2) r2.2).bind fun r36=>if r19 then (if r36==(cond.match_1 (fun (u37:Bool)=>Bool) r20 (fun (u38:Unit)=>false) (fun (u39:Unit)=>true)) then (if r6.2 then (if s26.1 then ((aj (r6.1.1,r6.1.2.1,r6.1.2.2) r2.2).bind fun r40=>some (r40 !=r19)) else (some true)) else (some true)) else (some false)) else (if r36==false then (if r6.2 then (if s26.1 then ((aj (r6.1.1,r6.1.2.1,r6.1.2.2) r2.2).bind fun r41=>some (r41 !=r19)) else (some true)) else (some true)) else (some false))) else (if r6.2 then (if s26.1 then ((aj (r6.1.1,r6.1.2.1,r6.1.2.2) r2.2).bind fun r42=>some (r42 !=r19)) else (some true)) else (some true))) else (some false))) else (if r5.2 then ((aj (r5.1.1,r5.1.2.1,r5.1.2.2) r2.2).bind fun r43=>if r19 then (if r43==(cond.match_1 (fun (u44:Bool)=>Bool) r20 (fun (u45:Unit)=>false) (fun (u46:Unit)=>true)) then (if r6.2 then (if s26.1 then ((aj (r6.1.1,r6.1.2.1,r6.1.2.2) r2.2).bind fun r47=>some (r47 !=r19)) else (some true)) else (some true)) else (some false)) else (if r43==false then (if r6.2 then (if s26.1 then ((aj (r6.1.1,r6.1.2.1,r6.1.2.2) r2.2).bind fun r48=>some (r48 !=r19)) else (some true)) else (some true)) else (some false))) else (if r6.2 then (if s26.1 then ((aj (r6.1.1,r6.1.2.1,r6.1.2.2) r2.2).bind fun r49=>some (r49 !=r19)) else (some true)) else (some true)))) else (some false)) else (if r27==false then (if r4.2 then ((aj (r4.1.1,r4.1.2.1,r4.1.2.2) r2.2).bind fun r50=>if r19 then (if r50==true then (if r5.2 then ((aj (r5.1.1,r5.1.2.1,r5.1.2.2) r2.2).bind fun r51=>if r19 then (if r51==(cond.match_1 (fun (u52:Bool)=>Bool) r20 (fun (u53:Unit)=>false) (fun (u54:Unit)=>true)) then (if r6.2 then (if s26.1 then ((aj (r6.1.1,r6.1.2.1,r6.1.2.2) r2.2).bind fun r55=>some (r55 !=r19)) else (some true)) else (some true)) else (some false)) else (if r51==false then (if r6.2 then (if s26.1 then ((aj (r6.1.1,r6.1.2.1,r6.1.2.2) r2.2).bind fun r56=>some (r56 !=r19)) else (some true)) else (some true)) else (some false))) else (if r6.2 then (if s26.1 then ((aj (r6.1.1,r6.1.2.1,r6.1.2.2) r2.2).bind fun r57=>some (r57 !=r19)) else (some true)) else (some true))) else (some false)) else (if r50==r20 then (if r5.2 then ((aj (r5.1.1,r5.1.2.1,r5.1.2.2) r2.2).bind fun r58=>if r19 then (if r58==(cond.match_1 (fun (u59:Bool)=>Bool) r20 (fun (u60:Unit)=>false) (fun (u61:Unit)=>true)) then (if r6.2 then (if s26.1 then ((aj (r6.1.1,r6.1.2.1,r6.1.2.2) r2.2).bind fun r62=>some (r62 !=r19)) else (some true)) else (some true)) else (some false)) else (if r58==false then (if r6.2 then (if s26.1 then ((aj (r6.1.1,r6.1.2.1,r6.1.2.2) r2.2).bind fun r63=>some (r63 !=r19)) else (some true)) else (some true)) else (some false))) else (if r6.2 then (if s26.1 then ((aj (r6.1.1,r6.1.2.1,r6.1.2.2) r2.2).bind fun r64=>some (r64 !=r19)) else (some true)) else (some true))) else (some false))) else (if r5.2 then ((aj (r5.1.1,r5.1.2.1,r5.1.2.2) r2.2).bind fun r65=>if r19 then (if r65==(cond.match_1 (fun (u66:Bool)=>Bool) r20 (fun (u67:Unit)=>false) (fun (u68:Unit)=>true)) then (if r6.2 then (if s26.1 then ((aj (r6.1.1,r6.1.2.1,r6.1.2.2) r2.2).bind fun r69=>some (r69 !=r19)) else (some true)) else (some true)) else (some false)) else (if r65==false then (if r6.2 then (if s26.1 then ((aj (r6.1.1,r6.1.2.1,r6.1.2.2) r2.2).bind fun r70=>some (r70 !=r19)) else (some true)) else (some true)) else (some false))) else (if r6.2 then (if s26.1 then ((aj (r6.1.1,r6.1.2.1,r6.1.2.2) r2.2).bind fun r71=>some (r71 !=r19)) else (some true)) else (some true)))) else (some false))) else (if r4.2 then ((aj (r4.1.1,r4.1.2.1,r4.1.2.2) r2.2).bind fun r72=>if r19 then (if r72==true then (if r5.2 then ((aj (r5.1.1,r5.1.2.1,r5.1.2.2) r2.2).bind fun r73=>if r19 then (if r73==(cond.match_1 (fun (u74:Bool)=>Bool) r20 (fun (u75:Unit)=>false) (fun (u76:Unit)=>true)) then (if r6.2 then (if s26.1 then ((aj (r6.1.1,r6.1.2.1,r6.1.2.2) r2.2).bind fun r77=>some (r77 !=r19)) else (some true)) else (some true)) else (some false)) else (if r73==false then (if r6.2 then (if s26.1 then ((aj (r6.1.1,r6.1.2.1,r6.1.2.2) r2.2).bind fun r78=>some (r78 !=r19)) else (some true)) else (some true)) else (some false))) else (if r6.2 then (if s26.1 then ((aj (r6.1.1,r6.1.2.1,r6.1.2.2) r2.2).bind fun r79=>some (r79 !=r19)) else (some true)) else (some true))) else (some false)) else (if r72==r20 then (if r5.2 then ((aj (r5.1.1,r5.1.2.1,r5.1.2.2) r2.2).bind fun r80=>if r19 then (if r80==(cond.match_1 (fun (u81:Bool)=>Bool) r20 (fun (u82:Unit)=>false) (fun (u83:Unit)=>true)) then (if r6.2 then (if s26.1 then ((aj (r6.1.1,r6.1.2.1,r6.1.2.2) r2.2).bind fun r84=>some (r84 !=r19)) else (some true)) else (some true)) else (some false)) else (if r80==false then (if r6.2 then (if s26.1 then ((aj (r6.1.1,r6.1.2.1,r6.1.2.2) r2.2).bind fun r85=>some (r85 !=r19)) else (some true)) else (some true)) else (some false))) else (if r6.2 then (if s26.1 then ((aj (r6.1.1,r6.1.2.1,r6.1.2.2) r2.2).bind fun r86=>some (r86 !=r19)) else (some true)) else (some true))) else (some false))) else (if r5.2 then ((aj (r5.1.1,r5.1.2.1,r5.1.2.2) r2.2).bind fun r87=>if r19 then (if r87==(cond.match_1 (fun (u88:Bool)=>Bool) r20 (fun (u89:Unit)=>false) (fun (u90:Unit)=>true)) then (if r6.2 then (if s26.1 then ((aj (r6.1.1,r6.1.2.1,r6.1.2.2) r2.2).bind fun r91=>some (r91 !=r19)) else (some true)) else (some true)) else (some false)) else (if r87==false then (if r6.2 then (if s26.1 then ((aj (r6.1.1,r6.1.2.1,r6.1.2.2) r2.2).bind fun r92=>some (r92 !=r19)) else (some true)) else (some true)) else (some false))) else (if r6.2 then (if s26.1 then ((aj (r6.1.1,r6.1.2.1,r6.1.2.2) r2.2).bind fun r93=>some (r93 !=r19)) else (some true)) else (some true)))))) else (if r3.2 then (some false) else (if r4.2 then (some false) else (some (cond.match_1 (fun (u16:Bool)=>Bool) r5.2 (fun (u17:Unit)=>false) (fun (u18:Unit)=>true)))))) else (if r3.2 then (some false) else (if r4.2 then (some false) else (some (cond.match_1 (fun (u97:Bool)=>Bool) r5.2 (fun (u98:Unit)=>false) (fun (u99:Unit)=>true)))))) else (some false)) else (some false))))
end D
namespace R
open Go.RowKit
open D
abbrev y5:Ty:=.int .u8
abbrev y22:Ty:=.sl 5 y5
abbrev y3:Ty:=.int .i64
abbrev Nb:Ty:=.prod y22 (.prod y3 y3)
abbrev vK:Ty:=.prod y3 y3
abbrev KW:Ty:=.int .u64
abbrev Ji:Ty:=.prod y3 (.prod y3 (.prod y3 y3))
abbrev y4:Ty:=.bool
abbrev MZ:Ty:=.prod y4 (.prod y3 y3)
abbrev Nc:Ty:=.sl 146 vK
abbrev y24:Ty:=.sl 4 y4
abbrev y9:Ty:=.str
abbrev Mo:Ty:=.sl 9 y9
abbrev y30:Ty:=.sl 3 y3
abbrev y25:Ty:=.sl 30 y30
abbrev KX:Ty:=.int .u32
abbrev KY:Ty:=.int .u64
abbrev y27:Ty:=.prod y3 (.prod y24 y25)
abbrev y54:Ty:=.prod y30 (.prod y3 (.prod y3 (.prod y30 y4)))
abbrev y67:Ty:=.sl 181 Ji
abbrev y69:Ty:=.wr y67
theorem laidOut:laidOutB Tryz.prog=true:=by kernel_rfl
theorem KZ:KII Tryz.prog 146:=⟨_,_,Tryz.underlying146,by decide,rfl,rfl,Tryz.underlying3,Tryz.underlying3,by kernel_rfl,by kernel_rfl,by kernel_rfl,by kernel_rfl,Tryz.prog.types.size - 1,by kernel_rfl⟩
theorem mz3 (w:World):(zeroValue 3).run Tryz.prog w= .ok (.int .i64 0) w:=by kernel_rfl
theorem Mq:KeyOk Tryz.prog 146 (fun x:Int×Int=>Value.agg #[.int .i64 x.1,.int .i64 x.2]) HU yi:=L4 KZ (Go.deep_law_laid laidOut (m:=2) (by omega) (of_decide_eq_true (by kernel_rfl)) (by kernel_rfl) (by rw[Tryz.underlying146]))
theorem kk3:KeyOk Tryz.prog 3 (fun n:Int=>Value.int .i64 n) HT iOk:=J8 Tryz.underlying3
theorem ek3:EltOk Tryz.prog 3 (fun n:Int=>Value.int .i64 n) HT iOk 0:=J9 Tryz.underlying3 mz3
def tt:TT:=[(3,⟨false,1,none,y3,[],some 8,none,false,none,none,some (some .i64),false,none⟩),
 (4,⟨false,1,none,y4,[],some 1,none,true,none,none,none,false,none⟩),
 (5,⟨false,1,none,y5,[],some 1,none,false,none,none,some (some .u8),false,none⟩),
 (9,⟨false,1,none,y9,[],some 16,none,false,none,none,some none,false,none⟩),
 (22,⟨false,1,some 5,y22,[],some 24,none,false,none,none,none,false,none⟩),
 (24,⟨false,1,some 4,y24,[],some 24,none,false,none,none,none,false,none⟩),
 (25,⟨false,1,some 30,y25,[],some 24,none,false,none,none,none,false,none⟩),
 (27,⟨true,3,none,y27,[(0,0),(1,0),(2,0)],some 56,some [(0,1),(1,1),(2,1)],false,none,none,none,false,none⟩),
 (30,⟨false,1,some 3,y30,[],some 24,none,false,none,none,none,false,none⟩),
 (54,⟨true,5,none,y54,[(0,0),(1,0),(2,0),(3,0),(4,0)],some 72,some [(0,1),(1,1),(2,1),(3,1),(4,1)],false,none,none,none,false,none⟩),
 (57,⟨false,1,none,.bool,[],none,none,false,none,none,none,true,none⟩),
 (67,⟨false,1,some 181,y67,[],some 24,none,false,none,none,none,false,none⟩),
 (69,⟨true,1,none,y69,[(0,0)],some 24,some [(0,1)],false,none,none,none,false,none⟩),
 (90,⟨false,1,none,.bool,[],none,none,false,none,none,none,true,none⟩),
 (94,⟨false,1,none,.bool,[],none,none,false,none,none,none,true,none⟩),
 (139,⟨true,3,none,Nb,[(0,0),(1,0),(2,0)],some 40,some [(0,1),(1,1),(2,1)],false,none,none,none,false,none⟩),
 (142,⟨false,1,none,.bool,[],none,none,false,none,none,none,true,none⟩),
 (146,⟨true,2,none,vK,[(0,0),(1,0)],some 16,some [(0,1),(1,1)],false,none,none,none,false,none⟩),
 (147,⟨false,1,none,.bool,[],none,none,false,none,none,none,true,none⟩),
 (148,⟨false,1,none,.bool,[],none,none,false,none,none,none,true,none⟩),
 (170,⟨false,1,none,.bool,[],none,none,false,none,none,none,true,none⟩),
 (172,⟨false,1,none,KW,[],some 8,none,false,none,none,some (some .u64),false,none⟩),
 (174,⟨false,1,none,.bool,[],none,none,false,none,none,none,true,none⟩),
 (181,⟨true,4,none,Ji,[(0,0),(1,0),(2,0),(3,0)],some 32,some [(0,1),(1,1),(2,1),(3,1)],false,none,none,none,false,none⟩),
 (193,⟨true,3,none,MZ,[(0,0),(1,0),(2,0)],some 24,some [(0,1),(1,1),(2,1)],false,none,none,none,false,none⟩),
 (199,⟨false,1,some 146,Nc,[],some 24,none,false,none,none,none,false,none⟩),
 (200,⟨false,1,none,.bool,[],none,none,false,none,some ⟨146,3,.ii,.int⟩,none,false,none⟩),
 (223,⟨false,1,none,.bool,[],none,none,false,none,some ⟨3,3,.int,.int⟩,none,false,none⟩),
 (244,⟨false,1,some 9,Mo,[],some 24,none,false,none,none,none,false,none⟩),
 (262,⟨false,1,none,KX,[],some 4,none,false,none,none,some (some .u32),false,none⟩),
 (265,⟨false,1,none,KY,[],some 8,none,false,none,none,some (some .u64),false,none⟩)]
theorem Jj:TTok Tryz.prog tt:=⟨ma (n:=1) (z:=.int .i64 0) ⟨⟨_,Tryz.underlying3,rfl⟩,by kernel_rfl⟩ rfl (by unfold TZ;kernel_rfl) rfl (bA rfl) (fun h=>by cases h) (fun k h=>by obtain rfl:=aa h;exact Tryz.underlying3),
 ma (n:=1) (z:=.bool false) ⟨⟨_,Tryz.underlying4,rfl⟩,by kernel_rfl⟩ rfl (by unfold TZ;kernel_rfl) rfl (bA rfl) (fun h=>Tryz.underlying4) (fun k h=>by cases h),
 ma (n:=1) (z:=.int .u8 0) ⟨⟨_,Tryz.underlying5,rfl⟩,by kernel_rfl⟩ rfl (by unfold TZ;kernel_rfl) rfl (bA rfl) (fun h=>by cases h) (fun k h=>by obtain rfl:=aa h;exact Tryz.underlying5),
 ma (n:=1) (z:=.string ⟨#[]⟩) ⟨⟨_,Tryz.underlying9,rfl⟩,by kernel_rfl⟩ rfl (by unfold TZ;kernel_rfl) rfl (bA rfl) (fun h=>by cases h) (fun k h=>by obtain rfl:=aa h;exact Tryz.underlying9),
 xt ⟨⟨_,Tryz.underlying22,rfl⟩,by kernel_rfl⟩ Tryz.underlying22 (by unfold TZ;kernel_rfl),
 xt ⟨⟨_,Tryz.underlying24,rfl⟩,by kernel_rfl⟩ Tryz.underlying24 (by unfold TZ;kernel_rfl),
 xt ⟨⟨_,Tryz.underlying25,rfl⟩,by kernel_rfl⟩ Tryz.underlying25 (by unfold TZ;kernel_rfl),
 xu (z:=.agg #[.int .i64 0,.slice none 0 0,.slice none 0 0]) ⟨⟨_,Tryz.underlying27,rfl⟩,by kernel_rfl⟩ rfl ⟨⟨_,_,Tryz.underlying27,rfl,rfl,by kernel_rfl⟩,⟨_,_,Tryz.underlying27,rfl,rfl,by kernel_rfl⟩,⟨_,_,Tryz.underlying27,rfl,rfl,by kernel_rfl⟩,trivial⟩ (by unfold TZ;kernel_rfl) rfl (bA rfl) ⟨_,Tryz.underlying27,by kernel_rfl⟩ (fun ks h=>by cases h),
 xt ⟨⟨_,Tryz.underlying30,rfl⟩,by kernel_rfl⟩ Tryz.underlying30 (by unfold TZ;kernel_rfl),
 xu (z:=.agg #[.slice none 0 0,.int .i64 0,.int .i64 0,.slice none 0 0,.bool false]) ⟨⟨_,Tryz.underlying54,rfl⟩,by kernel_rfl⟩ rfl ⟨⟨_,_,Tryz.underlying54,rfl,rfl,by kernel_rfl⟩,⟨_,_,Tryz.underlying54,rfl,rfl,by kernel_rfl⟩,⟨_,_,Tryz.underlying54,rfl,rfl,by kernel_rfl⟩,⟨_,_,Tryz.underlying54,rfl,rfl,by kernel_rfl⟩,⟨_,_,Tryz.underlying54,rfl,rfl,by kernel_rfl⟩,trivial⟩ (by unfold TZ;kernel_rfl) rfl (bA rfl) ⟨_,Tryz.underlying54,by kernel_rfl⟩ (fun ks h=>by cases h),
 vH (ty:=.bool) (b:=8) ⟨⟨_,Tryz.underlying57,rfl⟩,by kernel_rfl⟩ rfl (by unfold TZ;kernel_rfl),
 xt ⟨⟨_,Tryz.underlying67,rfl⟩,by kernel_rfl⟩ Tryz.underlying67 (by unfold TZ;kernel_rfl),
 xu (z:=.agg #[.slice none 0 0]) ⟨⟨_,Tryz.underlying69,rfl⟩,by kernel_rfl⟩ rfl ⟨⟨_,_,Tryz.underlying69,rfl,rfl,by kernel_rfl⟩,trivial⟩ (by unfold TZ;kernel_rfl) rfl (bA rfl) ⟨_,Tryz.underlying69,by kernel_rfl⟩ (fun ks h=>by cases h),
 vH (ty:=.bool) (b:=8) ⟨⟨_,Tryz.underlying90,rfl⟩,by kernel_rfl⟩ rfl (by unfold TZ;kernel_rfl),
 vH (ty:=.bool) (b:=8) ⟨⟨_,Tryz.underlying94,rfl⟩,by kernel_rfl⟩ rfl (by unfold TZ;kernel_rfl),
 xu (z:=.agg #[.slice none 0 0,.int .i64 0,.int .i64 0]) ⟨⟨_,Tryz.underlying139,rfl⟩,by kernel_rfl⟩ rfl ⟨⟨_,_,Tryz.underlying139,rfl,rfl,by kernel_rfl⟩,⟨_,_,Tryz.underlying139,rfl,rfl,by kernel_rfl⟩,⟨_,_,Tryz.underlying139,rfl,rfl,by kernel_rfl⟩,trivial⟩ (by unfold TZ;kernel_rfl) rfl (bA rfl) ⟨_,Tryz.underlying139,by kernel_rfl⟩ (fun ks h=>by cases h),
 vH (ty:=.bool) (b:=8) ⟨⟨_,Tryz.underlying142,rfl⟩,by kernel_rfl⟩ rfl (by unfold TZ;kernel_rfl),
 xu (z:=.agg #[.int .i64 0,.int .i64 0]) ⟨⟨_,Tryz.underlying146,rfl⟩,by kernel_rfl⟩ rfl ⟨⟨_,_,Tryz.underlying146,rfl,rfl,by kernel_rfl⟩,⟨_,_,Tryz.underlying146,rfl,rfl,by kernel_rfl⟩,trivial⟩ (by unfold TZ;kernel_rfl) rfl (bA rfl) ⟨_,Tryz.underlying146,by kernel_rfl⟩ (fun ks h=>by cases h),
 vH (ty:=.bool) (b:=8) ⟨⟨_,Tryz.underlying147,rfl⟩,by kernel_rfl⟩ rfl (by unfold TZ;kernel_rfl),
 vH (ty:=.bool) (b:=8) ⟨⟨_,Tryz.underlying148,rfl⟩,by kernel_rfl⟩ rfl (by unfold TZ;kernel_rfl),
 vH (ty:=.bool) (b:=8) ⟨⟨_,Tryz.underlying170,rfl⟩,by kernel_rfl⟩ rfl (by unfold TZ;kernel_rfl),
 ma (n:=1) (z:=.int .u64 0) ⟨⟨_,Tryz.underlying172,rfl⟩,by kernel_rfl⟩ rfl (by unfold TZ;kernel_rfl) rfl (bA rfl) (fun h=>by cases h) (fun k h=>by obtain rfl:=aa h;exact Tryz.underlying172),
 vH (ty:=.bool) (b:=8) ⟨⟨_,Tryz.underlying174,rfl⟩,by kernel_rfl⟩ rfl (by unfold TZ;kernel_rfl),
 xu (z:=.agg #[.int .i64 0,.int .i64 0,.int .i64 0,.int .i64 0]) ⟨⟨_,Tryz.underlying181,rfl⟩,by kernel_rfl⟩ rfl ⟨⟨_,_,Tryz.underlying181,rfl,rfl,by kernel_rfl⟩,⟨_,_,Tryz.underlying181,rfl,rfl,by kernel_rfl⟩,⟨_,_,Tryz.underlying181,rfl,rfl,by kernel_rfl⟩,⟨_,_,Tryz.underlying181,rfl,rfl,by kernel_rfl⟩,trivial⟩ (by unfold TZ;kernel_rfl) rfl (bA rfl) ⟨_,Tryz.underlying181,by kernel_rfl⟩ (fun ks h=>by cases h),
 xu (z:=.agg #[.bool false,.int .i64 0,.int .i64 0]) ⟨⟨_,Tryz.underlying193,rfl⟩,by kernel_rfl⟩ rfl ⟨⟨_,_,Tryz.underlying193,rfl,rfl,by kernel_rfl⟩,⟨_,_,Tryz.underlying193,rfl,rfl,by kernel_rfl⟩,⟨_,_,Tryz.underlying193,rfl,rfl,by kernel_rfl⟩,trivial⟩ (by unfold TZ;kernel_rfl) rfl (bA rfl) ⟨_,Tryz.underlying193,by kernel_rfl⟩ (fun ks h=>by cases h),
 xt ⟨⟨_,Tryz.underlying199,rfl⟩,by kernel_rfl⟩ Tryz.underlying199 (by unfold TZ;kernel_rfl),
 KV (m:=⟨146,3,.ii,.int⟩) (ty:=.bool) ⟨⟨_,Tryz.underlying200,rfl⟩,by kernel_rfl⟩ rfl ⟨Tryz.underlying200,Mq,ek3⟩,
 KV (m:=⟨3,3,.int,.int⟩) (ty:=.bool) ⟨⟨_,Tryz.underlying223,rfl⟩,by kernel_rfl⟩ rfl ⟨Tryz.underlying223,kk3,ek3⟩,
 xt ⟨⟨_,Tryz.underlying244,rfl⟩,by kernel_rfl⟩ Tryz.underlying244 (by unfold TZ;kernel_rfl),
 ma (n:=1) (z:=.int .u32 0) ⟨⟨_,Tryz.underlying262,rfl⟩,by kernel_rfl⟩ rfl (by unfold TZ;kernel_rfl) rfl (bA rfl) (fun h=>by cases h) (fun k h=>by obtain rfl:=aa h;exact Tryz.underlying262),
 ma (n:=1) (z:=.int .u64 0) ⟨⟨_,Tryz.underlying265,rfl⟩,by kernel_rfl⟩ rfl (by unfold TZ;kernel_rfl) rfl (bA rfl) (fun h=>by cases h) (fun k h=>by obtain rfl:=aa h;exact Tryz.underlying265),trivial⟩
theorem mixed:Tryz.prog.follows .mixedOrders=true:=by kernel_rfl
def G8 (fn:Func):Code:=match fn.body with
 | some c=>c
 | none=>.skip
theorem fk {k:FuncId} {fn:Func} {f:FS} (ft:FT) (hF:FTok Tryz.prog ft) (hf:Tryz.prog.funcs[k]? =some fn) (ann:Ann) (an:List (Nat×Ty):=[]) (tr:Trs:=[]) (hb:fn.body=some (G8 fn):=by rfl) (he:(fn.name == "runtime.NumGoroutine")=false:=by kernel_rfl) (hcl:f.cl=none:=by rfl) (hm:Nat.ble f.ps.length fn.ntmps=true:=by rfl) (hdp:(uS f.rs&&pK f.ps)=true:=by rfl)
  (hmod: ∀d,appP f.ps f.m d=eW ⟨tt,ft,an,fn.ntmps,tr⟩ (CU ⟨tt,ft,an,fn.ntmps,tr⟩ fn.results.toList f.rs f.ps d) (G8 fn) ann (fun r=>some r) (fun _ _=>none) (CU ⟨tt,ft,an,fn.ntmps,tr⟩ fn.results.toList f.rs f.ps d) (kh (qc f.ps d)):=by intro d;kernel_rfl):FOk Tryz.prog k f:=
 fok (V:=⟨tt,ft,an,fn.ntmps,tr⟩) Jj hF mixed hf hb rfl (enters_of hf he hb) hcl (bA hm) hdp ann hmod
def CX:FS:=⟨[.rd y22],[y4],xw,none⟩
def o6:FS:=⟨[.rd y3,.rd y3,.rd y3],[y4],iH,none⟩
def qf:FS:=⟨[.rd y27],[y4],gY,none⟩
def bS:FS:=⟨[.rd y27],[y4],aE,none⟩
def me:FS:=⟨[.rd y30,.rd y3],[y3],gZ,none⟩
def lK:FS:=⟨[],[y27],jb,none⟩
def mZ:FS:=⟨[.rd y27,.rd y30,.rd y24],[y27],eb,none⟩
def mf:FS:=⟨[.rd y27],[y24],fO,none⟩
def qg:FS:=⟨[.rd y30,.rd y30],[y3],jk,none⟩
def rR:FS:=⟨[.rd y27,.rd y30,.rd y3],[y30],jl,none⟩
def lL:FS:=⟨[.rd y27],[y30],eG,none⟩
def ic:FS:=⟨[.rd y27],[y27],bG,none⟩
def ox:FS:=⟨[.rd y27],[y27],gb,none⟩
def qi:FS:=⟨[.rd y22],[.int .i64,.int .i64],kH,some (139,9)⟩
def rS:FS:=⟨[.crs 139 5],[y3],eX,none⟩
def c9:FS:=⟨[.crs 139 5,.rd y3],[y3],bg,none⟩
def gF:FS:=⟨[.crs 139 5,.rd y30],[y3],bT,none⟩
def oy:FS:=⟨[.rd y54,.rd y3,.rd y3],[y3],iK,none⟩
def lM:FS:=⟨[.rd y54,.rd y3],[y4],fV,none⟩
def lN:FS:=⟨[.rd y54,.rd y3],[y27,y4],cD,none⟩
def iN:FS:=⟨[.rd y3],[y4],eY,none⟩
def mg:FS:=⟨[.rd Ji],[y3],g9,none⟩
def rT:FS:=⟨[.rd y69],[y4],lq,none⟩
def ig:FS:=⟨[.rd y69],[y4],dJ,none⟩
def jP:FS:=⟨[.rd y67],[y3],dK,none⟩
def jQ (n:Nat):FS:=⟨[.rd y67],[y3],b9 n,none⟩
def rU:FS:=⟨[.rd y67],[y69],nP,none⟩
def lB:FS:=⟨[.rd y69,.rd y69,.rd Ji],[y69],bZ,none⟩
def nS:FS:=⟨[.rd y3],[y69],gK,none⟩
def iO (n:Nat):FS:=⟨[.rd y69,.rd y3,.rd y3],[y69],eZ n,none⟩
def gG (n:Nat):FS:=⟨[.rd y67],[y69],bu n,none⟩
def lO:FS:=⟨[.rd y69],[y69,y4],fX,none⟩
def qj:FS:=⟨[.ptr 54 y54,.rd y3,.rd y3],[],hH,none⟩
def iP (n:Nat):FS:=⟨[.ptr 54 y54,.rd y67],[MZ],bH n,none⟩
def iQ:FS:=⟨[.rd y69],[y54,y4],dx,none⟩
def fR:FS:=⟨[.crs 139 5,.rd y3],[y4],dn,none⟩
def vL:FS:=⟨[.rd y9,.rd y5],[Mo],vJ,none⟩
def gr:FS:=⟨[.rd y3],[y9],gq,none⟩
def m7:FS:=⟨[.rd y3],[y9],jJ,none⟩
def qk:FS:=⟨[.rd Ji],[y9],qe,none⟩
def kJ:FS:=⟨[.rd y9],[y3,y4],kI,none⟩
def rV:FS:=⟨[.rd y9],[Ji],rQ,none⟩
def m8:FS:=⟨[.rd y9],[y69,y4],ed,none⟩
def rW:FS:=⟨[.crs 139 5,.rd Mo],[y9],lr,none⟩
def ql:FS:=⟨[.crs 139 5],[y69],jK,none⟩
def lP:FS:=⟨[.rd y3],[y69],lJ,none⟩
def lC (n:Nat):FS:=⟨[.crs 139 5,.rd y3],[y69],bN n,none⟩
def rX:FS:=⟨[.crs 139 5],[y69],lu,none⟩
def m9:FS:=⟨[.crs 139 5],[y27],fq,none⟩
def rY:FS:=⟨[.crs 139 5],[y27],lx,none⟩
def nT:FS:=⟨[.crs 139 5],[y27],gL,none⟩
def rZ:FS:=⟨[.rd y22],[y27,y27],nQ,none⟩
def eJ:FS:=⟨[.rd y22],[y27,y27],bE,none⟩
def sd:FS:=⟨[.crs 139 5],[y3],lz,none⟩
def qm:FS:=⟨[.crs 139 5],[y30],jL,none⟩
def kK:FS:=⟨[.rd y22],[y27,y30],fu,none⟩
def nU:FS:=⟨[.rd y3,.rd y3,.rd y3],[y4],fQ,none⟩
def eA:FS:=⟨[.rd y27],[y4],aZ,none⟩
def oz:FS:=⟨[.rd y3],[y4],iL,none⟩
def dy:FS:=⟨[.rd y27,.rd y3,.rd y3],[y3],aS,none⟩
def lQ:FS:=⟨[.rd vK,.rd y3,.cap 27 y27,.cap 27 y27],[vK],eI,none⟩
def fa:FS:=⟨[.rd y27,.rd y27],[],fun _ _=>none,some (27,1219)⟩
def ij:FS:=⟨[.rd vK,.rd y3,.fn [vK] [y4],.fn [vK,y3] [vK,y4]],[y27,y4],cd,none⟩
def dQ:FS:=⟨[.rd y27,.rd y3],[y4],aV,none⟩
def na:FS:=⟨[.rd vK,.capf 90 [y4,y4] [y4],.cap 27 y27,.cap 27 y27],[y4],fv,none⟩
def nc:FS:=⟨[.rd vK,.rd y3,.capf 142 [vK,y3] [vK]],[vK,y4],fw,none⟩
def j9:FS:=⟨[.rd y3,.rd y3,.fn [y3] [y4],.fn [y3,y3] [y3,y4]],[y27,y4],eO,none⟩
def il:FS:=⟨[.rd KX,.rd KX],[KX,KX],mb,none⟩
def im:FS:=⟨[.rd KY,.rd KY],[KY,KY],hO,none⟩
def jn:FS:=⟨[.rd KW,.rd KW],[KW,KW],jm,none⟩
def dR:FS:=⟨[.rd y30,.rd y3],[y30],dL,none⟩
def qn:FS:=⟨[],[y27],mc,none⟩
def a8:FS:=⟨[.rd y24],[y24],fun _=>none,some (4,1)⟩
def iR:FS:=⟨[.rd y27],[y24],cx,none⟩
def cq:FS:=⟨[.rd y25,.fn [y30] [y4]],[y3],bc,none⟩
def ew:FS:=⟨[.rd y30,.rd y30],[y4],cr,none⟩
def fH:FS:=⟨[.rd y30,.cap 30 y30],[y4],dt,none⟩
def gy:FS:=⟨[.rd y27,.rd y30],[y30,y3],bR,none⟩
def gg:FS:=⟨[.rd y27],[y30],bL,none⟩
def ez:FS:=⟨[.rd y30,.rd y3],[y3],ct,none⟩
def fb:FS:=⟨[.rd y3,.cap 30 y30],[y3],aR,none⟩
def fc:FS:=⟨[.rd y3,.cap 27 y27,.capf 174 [y3] [y3]],[y4],br,none⟩
def fe:FS:=⟨[.rd y3,.rd y3,.cap 27 y27,.capf 174 [y3] [y3],.cap 30 y30],[y3,y4],bs,none⟩
def fI:FS:=⟨[.rd y27],[y27],bj,none⟩
def vM:FS:=⟨[.rd y27],[y27,y4],hY,none⟩
def iq:FS:=⟨[.rd y27,.rd y27,.fn [y4,y4] [y4]],[y27,y4],c8,none⟩
def fA:FS:=⟨[.rd y4,.rd y4],[y4],bz,none⟩
def gi:FS:=⟨[.rd y27,.rd y27],[y27,y4],cy,none⟩
def ir:FS:=⟨[.rd y4,.rd y4],[y4],cg,none⟩
def jo:FS:=⟨[.rd y27,.rd y27],[y27,y4],eg,none⟩
def fJ:FS:=⟨[.rd y4,.rd y4],[y4],bC,none⟩
def gz:FS:=⟨[.rd y27,.rd y27],[y27,y4],cL,none⟩
def eK:FS:=⟨[.rd y4,.rd y4],[y4],cE,none⟩
def fB:FS:=⟨[.rd y27],[y27,y4],bW,none⟩
def qo:FS:=⟨[.rd y27,.rd y3,.rd y3],[y3],hZ,none⟩
def vN:FS:=⟨[.rd y3,.rd y4,.rd y4],[y4],mY,none⟩
def ng:FS:=⟨[.rd y27,.rd y3],[y4],fx,none⟩
def oA:FS:=⟨[.rd y27,.rd y27,.rd y3],[y27],iM,none⟩
def mi:FS:=⟨[.rd y27,.rd y27,.rd y3],[y27,y4],eT,none⟩
def gj:FS:=⟨[.rd y27,.rd y27],[y27,y4],cz,none⟩
def se:FS:=⟨[],[y27],nR,none⟩
def fC:FS:=⟨[.rd y27],[y27,y4],bX,none⟩
def jq:FS:=⟨[.rd y27,.rd y27],[y4],b0,none⟩
def sf:FS:=⟨[.rd y27,.rd y3,.rd y30],[y3],lA,none⟩
def qp:FS:=⟨[.rd y27,.rd y30],[y3],jN,none⟩
def kL:FS:=⟨[.rd y27,.rd y30],[y4],dP,none⟩
def qq:FS:=⟨[.rd y27,.rd y30],[y3],jO,none⟩
def kM:FS:=⟨[.rd y27,.rd y30],[y4],aj,none⟩
def tG:FS:=⟨[.rd y22],[y4],gE,none⟩
end R
namespace R
open Go.RowKit
open D
theorem Jk:FOk Tryz.prog 8 CX:=fk [] trivial Tryz.func8 .no
theorem tH:FOk Tryz.prog 154 o6:=fk [] trivial Tryz.func154 .no
theorem xx:FOk Tryz.prog 77 qf:=fk [(154,o6)] ⟨tH,trivial⟩ Tryz.func77 (.two .no (.two .no (.two .no (.two (.two .no (.loop [.slot 4 (.num .i64)] (.two .no (.two (.two .no (.two .no (.loop [.slot 5 (.num .i64)] .no))) .no)))) .no))))
theorem cO:FOk Tryz.prog 18 bS:=fk [(77,qf)] ⟨xx,trivial⟩ Tryz.func18 .no
theorem qu:FOk Tryz.prog 180 me:=fk [] trivial Tryz.func180 (.two .no (.two (.two .no (.loop [.slot 5 (.num .i64)] .no)) .no))
theorem q9:FOk Tryz.prog 188 lK:=fk [] trivial Tryz.func188 (.two .no (.two .no (.two (.two .no (.loop [.slot 1 (.own 3 y3),.slot 2 (.num .i64)] .no)) .no)))
theorem tI:FOk Tryz.prog 100 mZ:=fk [(180,me),(188,lK)] ⟨qu,q9,trivial⟩ Tryz.func100 (.two .no (.two .no (.two .no (.two .no (.two .no (.two (.two .no (.loop [.slot 8 (.own 3 y3),.slot 9 (.own 3 y3),.slot 10 (.num .i64),.box 7 [(.num .i64),(.own 4 y4),(.own 30 y30)]] (.two .no (.two (.two .no (.two (.two .no (.loop [.slot 8 (.own 3 y3),.slot 9 (.own 3 y3),.slot 11 (.own 3 y3),.slot 12 (.num .i64)] (.two .no (.two (.two .no (.two .no (.join [.slot 8 (.own 3 y3),.slot 9 (.own 3 y3),.slot 14 (.num .i64)] .no .no))) .no)))) .no)) .no)))) .no))))))
theorem qv:FOk Tryz.prog 101 mf:=fk [] trivial Tryz.func101 (.two .no (.two .no (.two (.two .no (.loop [.row 3 4 y4,.slot 4 (.num .i64)] (.two .no (.two (.two .no (.loop [.row 3 4 y4,.slot 5 (.num .i64)] (.two .no (.two (.two .no (.loop [.row 3 4 y4,.slot 6 (.num .i64)] (.two .no (.join [.row 3 4 y4] .no .no)))) .no)))) .no)))) .no)))
theorem vO:FOk Tryz.prog 76 qg:=fk [] trivial Tryz.func76 (.two .no (.two (.two .no (.loop [.slot 5 (.num .i64)] .no)) .no))
theorem Aq:FOk Tryz.prog 242 rR:=fk [] trivial Tryz.func242 (.two .no (.two .no (.two (.two .no (.loop [.slot 7 (.own 3 y3),.slot 8 (.num .i64)] (.two .no (.join [.slot 7 (.own 3 y3)] .no .no)))) .no)))
theorem ra:FOk Tryz.prog 189 lL:=fk [(76,qg),(101,mf),(242,rR)] ⟨vO,qv,Aq,trivial⟩ Tryz.func189 (.two .no (.two .no (.two .no (.two (.two .no (.loop [.slot 4 (.own 3 y3),.slot 5 (.num .i64)] (.two .no (.two (.two .no (.two (.two .no (.at [.slot 6 (.num .i64)] .no)) (.two (.two .no (.at [.slot 6 (.num .i64)] .no)) .no))) .no)))) (.two (.two .no (.loop [.slot 4 (.own 3 y3),.slot 7 (.num .i64)] (.two .no (.two (.two .no (.two .no (.two (.two .no (.loop [.slot 8 (.own 30 y30),.slot 9 (.own 3 y3),.slot 10 (.num .i64)] (.two .no (.two (.at [.slot 8 (.own 30 y30),.slot 9 (.own 3 y3)] (.two .no (.two .no (.two .no (.two (.two .no (.loop [.slot 12 (.num .i64),.slot 13 (.num .i64)] (.two .no (.two (.at [.slot 12 (.num .i64)] .no) .no)))) (.two (.two .no (.at [.slot 8 (.own 30 y30),.slot 12 (.num .i64),.gone 11] .no)) .no)))))) .no)))) .no))) .no)))) .no)))))
theorem kN:FOk Tryz.prog 102 ic:=fk [(100,mZ),(101,mf),(189,lL)] ⟨tI,qv,ra,trivial⟩ Tryz.func102 .no
theorem vP:FOk Tryz.prog 40 ox:=fk [(18,bS),(102,ic)] ⟨cO,kN,trivial⟩ Tryz.func40 .no
theorem vQ:FOk Tryz.prog 66 qi:=Jh (T:=139) (KU (V:=⟨tt,[],[],32,[]⟩) Jj trivial mixed Tryz.func66 rfl rfl (enters_of Tryz.func66 (by kernel_rfl) rfl) (bA rfl) (.two .no (.two .no (.two (.two .no (.loop [.slot 3 (.num .i64),.slot 4 (.num .i64)] .no)) .no))) (fun xs=>by kernel_rfl)) rfl
theorem Ar:FOk Tryz.prog 218 rS:=fk [] trivial Tryz.func218 (.two .no (.two .no (.two .no (.two (.two .no (.at [.slot 3 (.num .i64),.cur 0] .no)) .no))))
theorem dS:FOk Tryz.prog 146 c9:=fk [(218,rS)] ⟨Ar,trivial⟩ Tryz.func146 .no
theorem jR:FOk Tryz.prog 110 gF:=fk [(146,c9)] ⟨dS,trivial⟩ Tryz.func110 .no
end R
namespace R
open Go.RowKit
open D
theorem vR:FOk Tryz.prog 95 oy:=fk [] trivial Tryz.func95 (.two .no (.two .no (.join [.slot 7 (.num .i64)] .no (.two (.two .no (.loop [.slot 7 (.num .i64),.slot 8 (.num .i64)] (.two .no (.join [.slot 7 (.num .i64)] .no .no)))) (.two .no (.two (.two .no (.loop [.slot 9 (.num .i64),.slot 10 (.num .i64)] (.two .no (.join [.slot 9 (.num .i64)] .no .no)))) .no))))))
theorem rb:FOk Tryz.prog 96 lM:=fk [] trivial Tryz.func96 .no
theorem re:FOk Tryz.prog 93 lN:=fk [(95,oy),(96,lM),(180,me)] ⟨vR,rb,qu,trivial⟩ Tryz.func93 (.two .no (.two .no (.two .no (.two (.two .no (.loop [.slot 7 (.own 3 y3),.slot 8 (.num .i64),.box 6 [(.num .i64),(.own 4 y4),(.own 30 y30)]] (.two .no (.two (.two .no (.two (.two .no (.loop [.slot 7 (.own 3 y3),.slot 9 (.own 3 y3),.slot 10 (.num .i64)] (.two .no (.two (.two .no (.two .no (.join [.slot 7 (.own 3 y3),.slot 12 (.num .i64)] .no .no))) .no)))) .no)) .no)))) .no))))
theorem kO:FOk Tryz.prog 94 iN:=fk [(154,o6)] ⟨tH,trivial⟩ Tryz.func94 .no
theorem qw:FOk Tryz.prog 273 mg:=fk [(94,iN),(154,o6)] ⟨kO,tH,trivial⟩ Tryz.func273 (.two .no (.two (.two .no (.join [.slot 5 .boo] .no (.two .no (.two .no (.two .no (.join [.slot 37 .boo] .no .no)))))) .no))
theorem As:FOk Tryz.prog 271 rT:=fk [(273,mg)] ⟨qw,trivial⟩ Tryz.func271 (.two .no (.two .no (.two (.two .no (.loop [.slot 3 (.num .i64),.slot 4 (.num .i64)] .no)) .no)))
theorem kP:FOk Tryz.prog 246 ig:=fk [(271,rT)] ⟨As,trivial⟩ Tryz.func246 .no
theorem mj:FOk Tryz.prog 249 jP:=fk [(273,mg)] ⟨qw,trivial⟩ Tryz.func249 (.two .no (.two .no (.two .no (.two (.loop [.slot 3 (.num .i64),.slot 4 (.num .i64)] .no) .no))))
theorem qx: ∀n,FOk Tryz.prog 247 (jQ n)
 | 0=>jH (f:=jQ 0) (enters_of Tryz.func247 (by kernel_rfl) rfl) rfl (fun d=>rfl)
 | n+1=>by
  have ih:=qx n
  exact fk [(247,(jQ n)),(249,jP)] ⟨ih,mj,trivial⟩ Tryz.func247 (.two .no (.two .no (.two .no (.two (.two .no (.two (.two .no (.at [.slot 15 .boo] .no)) .no)) .no))))
theorem At:FOk Tryz.prog 202 rU:=fk [] trivial Tryz.func202 .no
theorem nV:FOk Tryz.prog 263 lB:=fk [(202,rU)] ⟨At,trivial⟩ Tryz.func263 .no
theorem sg:FOk Tryz.prog 261 nS:=fk [] trivial Tryz.func261 .no
theorem oB: ∀n,FOk Tryz.prog 272 (iO n)
 | 0=>jH (f:=iO 0) (enters_of Tryz.func272 (by kernel_rfl) rfl) rfl (fun d=>rfl)
 | n+1=>by
  have ih:=oB n
  exact fk [(261,nS),(263,lB),(272,(iO n))] ⟨sg,nV,ih,trivial⟩ Tryz.func272 .no
theorem nh: ∀n,FOk Tryz.prog 248 (gG n)
 | 0=>jH (f:=gG 0) (enters_of Tryz.func248 (by kernel_rfl) rfl) rfl (fun d=>rfl)
 | n+1=>by
  have ih:=nh n
  exact fk [(248,(gG n)),(249,jP),(263,lB),(272,(iO iA))] ⟨ih,mj,nV,(oB iA),trivial⟩ Tryz.func248 (.two .no (.two .no (.two .no (.two (.two .no (.two (.two .no (.at [.slot 15 .boo] .no)) .no)) .no))))
theorem rf:FOk Tryz.prog 207 lO:=fk [(246,ig),(247,(jQ iA)),(248,(gG iA))] ⟨kP,(qx iA),(nh iA),trivial⟩ Tryz.func207 .no
theorem xy:FOk Tryz.prog 250 qj:=fk [] trivial Tryz.func250 (.two .no (.loop [.slot 6 (.num .i64),.par 4 [3] 3 y3] (.two .no (.two (.at [.par 4 [3] 3 y3] .no) .no))))
theorem oC: ∀n,FOk Tryz.prog 208 (iP n)
 | 0=>jH (f:=iP 0) (enters_of Tryz.func208 (by kernel_rfl) rfl) rfl (fun d=>rfl)
 | n+1=>by
  have ih:=oC n
  exact fk [(208,(iP n)),(249,jP),(250,qj)] ⟨ih,mj,xy,trivial⟩ Tryz.func208 (.two .no (.two .no (.two .no (.two (.two .no (.two .no (.two .no (.two .no (.two .no (.two .no (.two (.two .no (.two .no (.two .no (.two .no (.two .no (.two (.two .no (.at [.box 11 [.boo,(.num .i64),(.num .i64)]] .no)) (.two (.two .no (.at [.box 11 [.boo,(.num .i64),(.num .i64)]] .no)) .no))))))) .no))))))) .no))))
end R
namespace R
open Go.RowKit
open D
theorem ni:FOk Tryz.prog 125 iQ:=fk [(207,lO),(208,(iP iA))] ⟨rf,(oC iA),trivial⟩ Tryz.func125 (.two .no (.two .no (.two .no (.two .no (.two (.two .no (.loop [.slot 6 (.num .i64),.slot 7 (.num .i64)] (.two .no (.two (.at [.slot 6 (.num .i64)] .no) .no)))) .no)))))
theorem gM:FOk Tryz.prog 144 fR:=fk [(146,c9)] ⟨dS,trivial⟩ Tryz.func144 .no
theorem CY:FOk Tryz.prog 276 vL:=fk [] trivial Tryz.func276 (.two .no (.two .no (.two .no (.two (.two .no (.loop [.slot 5 (.own 9 y9),.slot 6 (.num .i64),.slot 7 (.num .i64)] (.two .no (.two (.at [.slot 5 (.own 9 y9),.slot 6 (.num .i64)] .no) .no)))) .no))))
theorem kc:FOk Tryz.prog 309 gr:=fk [(94,iN)] ⟨kO,trivial⟩ Tryz.func309 .no
theorem tJ:FOk Tryz.prog 310 m7:=fk [] trivial Tryz.func310 (.two .no (.two .no (.two .no (.two .no (.two (.loop [.slot 0 (.num .i64),.slot 3 .str] (.two .no (.two .no (.two (.two .no (.at [.slot 5 (.num .i64)] .no)) .no)))) .no)))))
theorem xz:FOk Tryz.prog 298 qk:=fk [(309,gr),(310,m7)] ⟨kc,tJ,trivial⟩ Tryz.func298 .no
theorem qy:FOk Tryz.prog 299 kJ:=fk [(309,gr)] ⟨kc,trivial⟩ Tryz.func299 (.two .no (.two (.two .no (.loop [.slot 4 (.num .i64)] .no)) .no))
theorem Au:FOk Tryz.prog 277 rV:=fk [(298,qk),(299,kJ)] ⟨xz,qy,trivial⟩ Tryz.func277 (.two .no (.two (.two .no (.loop [.slot 3 (.num .i64)] .no)) .no))
theorem tK:FOk Tryz.prog 259 m8:=fk [(246,ig),(276,vL),(277,rV)] ⟨kP,CY,Au,trivial⟩ Tryz.func259 (.two .no (.two .no (.two .no (.two (.two .no (.loop [.slot 6 (.num .i64),.box 4 [(.own 181 Ji)]] .no)) .no))))
theorem Av:FOk Tryz.prog 260 rW:=fk [(146,c9)] ⟨dS,trivial⟩ Tryz.func260 .no
theorem xA:FOk Tryz.prog 238 ql:=fk [(259,m8),(260,rW)] ⟨tK,Av,trivial⟩ Tryz.func238 .no
theorem rh:FOk Tryz.prog 262 lP:=fk [] trivial Tryz.func262 .no
theorem si: ∀n,FOk Tryz.prog 239 (lC n)
 | 0=>jH (f:=lC 0) (enters_of Tryz.func239 (by kernel_rfl) rfl) rfl (fun d=>rfl)
 | n+1=>by
  have ih:=si n
  exact fk [(110,gF),(144,fR),(146,c9),(239,(lC n)),(261,nS),(262,lP),(263,lB)] ⟨jR,gM,dS,ih,sg,rh,nV,trivial⟩ Tryz.func239 (.two .no (.two .no (.two (.two .no (.two (.two .no (.at [.slot 20 .boo] .no)) (.two .no (.two (.two .no (.at [.slot 33 .boo] .no)) .no)))) .no)))
theorem Aw:FOk Tryz.prog 172 rX:=fk [(144,fR),(146,c9),(238,ql),(239,(lC iA))] ⟨gM,dS,xA,(si iA),trivial⟩ Tryz.func172 .no
theorem tL:FOk Tryz.prog 217 m9:=fk [(144,fR),(146,c9)] ⟨gM,dS,trivial⟩ Tryz.func217 (.two .no (.two .no (.two .no (.two (.two .no (.loop [.slot 5 (.num .i64),.box 4 [(.num .i64),(.own 4 .bool),(.own 30 y30)],.cur 0] (.two .no (.two (.two .no (.two (.two .no (.loop [.slot 6 (.own 3 y3),.slot 7 (.num .i64),.cur 0] (.two .no (.two (.two .no (.two (.two .no (.at [.slot 8 (.num .i64),.cur 0] .no)) (.two (.two .no (.at [.slot 8 (.num .i64)] .no)) .no))) .no)))) .no)) .no)))) .no))))
theorem Ax:FOk Tryz.prog 145 rY:=fk [(93,lN),(125,iQ),(144,fR),(172,rX),(217,m9)] ⟨re,ni,gM,Aw,tL,trivial⟩ Tryz.func145 .no
theorem sj:FOk Tryz.prog 67 nT:=fk [(110,gF),(145,rY),(146,c9)] ⟨jR,Ax,dS,trivial⟩ Tryz.func67 (.two .no (.two .no (.two (.two .no (.at [.cur 0,.box 3 [(.num .i64),(.own 4 y4),(.own 30 y30)]] .no)) .no)))
end R
namespace R
open Go.RowKit
open D
theorem Ay:FOk Tryz.prog 65 rZ:=fk [(40,ox),(66,qi),(67,nT),(144,fR)] ⟨vP,vQ,sj,gM,trivial⟩ Tryz.func65 .no
theorem jc:FOk Tryz.prog 9 eJ:=fk [(65,rZ)] ⟨Ay,trivial⟩ Tryz.func9 .no
theorem Az:FOk Tryz.prog 147 sd:=fk [(110,gF),(144,fR)] ⟨jR,gM,trivial⟩ Tryz.func147 .no
theorem xB:FOk Tryz.prog 68 qm:=fk [(146,c9),(147,sd)] ⟨dS,Az,trivial⟩ Tryz.func68 (.two .no (.two .no (.two (.two .no (.loop [.slot 3 (.own 3 y3),.slot 4 (.num .i64),.cur 0] .no)) .no)))
theorem qz:FOk Tryz.prog 10 kK:=fk [(66,qi),(67,nT),(68,qm)] ⟨vQ,sj,xB,trivial⟩ Tryz.func10 .no
theorem sk:FOk Tryz.prog 174 nU:=fk [] trivial Tryz.func174 .no
theorem gA:FOk Tryz.prog 97 eA:=fk [(174,nU)] ⟨sk,trivial⟩ Tryz.func97 (.two .no (.two .no (.two .no (.two (.two .no (.loop [.slot 32 (.num .i64)] (.two .no (.two .no (.two (.two .no (.two (.two .no (.loop [.slot 38 (.num .i64)] .no)) .no)) .no))))) .no))))
theorem vS:FOk Tryz.prog 175 oz:=fk [(174,nU)] ⟨sk,trivial⟩ Tryz.func175 .no
theorem fD:FOk Tryz.prog 103 dy:=fk [(175,oz)] ⟨vS,trivial⟩ Tryz.func103 .no
theorem ri:FOk Tryz.prog 219 lQ:=fk [(103,dy)] ⟨fD,trivial⟩ Tryz.func219 .no
theorem tM (c d:List Value) (w:World):Calls Tryz.prog 148 #[.agg c.toArray,.agg d.toArray] w fun e w'=>e= .returned (.func (.func 219) #[] #[.pointer (some ⟨w.heap.size,0,none⟩),.pointer (some ⟨w.heap.size+1,0,none⟩)])/\w'=(w.alloc (.cells c.toArray 27)).alloc (.cells d.toArray 27):=by
 go_enter Tryz.func148,Tryz.ntmps148
 go_wp2
 go_ret
 exact ⟨rfl,rfl⟩
theorem vT:FOk Tryz.prog 148 fa:=Jg (f:=fa) (jH (f:=⟨fa.ps,fa.rs,fa.m,none⟩) (enters_of Tryz.func148 (by kernel_rfl) rfl) rfl (fun d=>rfl)) (KT (enters_of Tryz.func148 (by kernel_rfl) rfl) tM)
theorem mn:FOk Tryz.prog 149 ij:=fk [] trivial Tryz.func149 (.two .no (.two .no (.two .no (.two .no (.two (.two .no (.loop [.slot 10 (.own 146 vK),.slot 11 (.map ⟨146,3,.ii,.int⟩),.slot 13 (.num .i64),.box 12 [(.num .i64),(.own 4 y4),(.own 30 y30)]] (.two .no (.two (.two .no (.two (.two .no (.loop [.slot 10 (.own 146 vK),.slot 11 (.map ⟨146,3,.ii,.int⟩),.slot 14 (.own 3 y3),.slot 15 (.num .i64)] (.two .no (.join [.slot 10 (.own 146 vK),.slot 11 (.map ⟨146,3,.ii,.int⟩),.slot 14 (.own 3 y3)] (.two .no (.two .no (.two .no (.join [.slot 10 (.own 146 vK),.slot 11 (.map ⟨146,3,.ii,.int⟩),.slot 18 (.num .i64)] .no .no)))) .no)))) .no)) .no)))) .no)))))
theorem gk:FOk Tryz.prog 78 dQ:=fk [] trivial Tryz.func78 .no
theorem tN:FOk Tryz.prog 150 na:=fk [(78,dQ)] ⟨gk,trivial⟩ Tryz.func150 .no
theorem tO:FOk Tryz.prog 151 nc:=fk [] trivial Tryz.func151 .no
theorem oJ:FOk Tryz.prog 176 j9:=fk [] trivial Tryz.func176 (.two .no (.two .no (.two .no (.two .no (.two (.two .no (.loop [.slot 10 (.own 3 y3),.slot 11 (.map ⟨3,3,.int,.int⟩),.slot 13 (.num .i64),.box 12 [(.num .i64),(.own 4 y4),(.own 30 y30)]] (.two .no (.two (.two .no (.two (.two .no (.loop [.slot 10 (.own 3 y3),.slot 11 (.map ⟨3,3,.int,.int⟩),.slot 14 (.own 3 y3),.slot 15 (.num .i64)] (.two .no (.join [.slot 10 (.own 3 y3),.slot 11 (.map ⟨3,3,.int,.int⟩),.slot 14 (.own 3 y3)] (.two .no (.two .no (.two .no (.join [.slot 10 (.own 3 y3),.slot 11 (.map ⟨3,3,.int,.int⟩),.slot 18 (.num .i64)] .no .no)))) .no)))) .no)) .no)))) .no)))))
theorem mo:FOk Tryz.prog 278 il:=fk [] trivial Tryz.func278 .no
end R
namespace R
open Go.RowKit
open D
theorem mq:FOk Tryz.prog 279 im:=fk [] trivial Tryz.func279 .no
theorem nW:FOk Tryz.prog 264 jn:=fk [(278,il),(279,im)] ⟨mo,mq,trivial⟩ Tryz.func264 .no
theorem iu:FOk Tryz.prog 240 dR:=fk [(264,jn)] ⟨nW,trivial⟩ Tryz.func240 (.two .no (.two .no (.two .no (.two .no (.two .no (.two .no (.two (.loop [.slot 8 (.num .i64),.row 7 3 (.int .i64)] .no) .no))))))) (an:=[(44,.bool)])
theorem xC:FOk Tryz.prog 181 qn:=fk [(240,dR)] ⟨iu,trivial⟩ Tryz.func181 .no
theorem gH:FOk Tryz.prog 194 a8:=CW (f:=a8) (jH (f:=⟨a8.ps,a8.rs,a8.m,none⟩) (enters_of Tryz.func194 (by kernel_rfl) rfl) rfl (fun d=>rfl)) (FV (V:=⟨tt,[],[(5,.raw)],8,[]⟩) Jj trivial mixed Tryz.func194 rfl rfl (enters_of Tryz.func194 (by kernel_rfl) rfl) (bA rfl) .no (fun E bn xs=>by cases bn <;> kernel_rfl))
theorem nj:FOk Tryz.prog 107 iR:=fk [(194,a8)] ⟨gH,trivial⟩ Tryz.func107 (.two .no (.two .no (.two (.two .no (.loop [.slot 4 .boo,.row 3 4 y4] (.two .no (.two .no (.two .no (.loop [.slot 4 .boo,.slot 16 (.num .i64),.row 3 4 y4] (.two .no (.two .no (.two (.two .no (.two .no (.loop [.slot 4 .boo,.slot 23 (.num .i64),.row 3 4 y4] (.two .no (.two .no (.two (.at [.slot 4 .boo,.row 3 4 y4] .no) .no)))))) .no))))))))) .no)))
theorem fg:FOk Tryz.prog 265 cq:=fk [] trivial Tryz.func265 (.two .no (.two (.two .no (.loop [.slot 8 (.num .i64)] .no)) .no))
theorem iB:FOk Tryz.prog 165 ew:=fk [] trivial Tryz.func165 (.two .no (.two .no (.two (.two .no (.loop [.slot 13 (.num .i64)] .no)) .no)))
theorem km:FOk Tryz.prog 266 fH:=fk [(165,ew)] ⟨iB,trivial⟩ Tryz.func266 .no
theorem lH:FOk Tryz.prog 241 gy:=fk [(265,cq),(266,fH)] ⟨fg,km,trivial⟩ Tryz.func241 (.two .no (.two .no (.two .no (.two (.two .no (.loop [.slot 6 (.own 30 y30),.slot 7 (.own 3 y3),.slot 18 (.num .i64)] (.two .no (.two .no (.join [.slot 6 (.own 30 y30),.slot 7 (.own 3 y3)] (.two .no (.two .no (.two .no (.two (.two .no (.loop [.slot 36 (.num .i64),.box 10 [(.own 3 y3)]] (.two .no (.two .no (.two (.two .no (.join [.slot 12 (.num .i64)] .no .no)) .no))))) (.two .no (.join [.slot 6 (.own 30 y30),.slot 13 (.num .i64),.gone 10] .no .no)))))) .no))))) .no))))
theorem kQ:FOk Tryz.prog 183 gg:=fk [(107,iR),(241,gy)] ⟨nj,lH,trivial⟩ Tryz.func183 (.two .no (.two .no (.two (.two .no (.loop [.slot 3 (.own 3 y3),.slot 13 (.num .i64)] (.two .no (.two .no (.join [.slot 3 (.own 3 y3)] .no .no))))) (.two .no (.loop [.slot 3 (.own 3 y3),.slot 6 (.num .i64)] .no)))))
theorem iC:FOk Tryz.prog 185 ez:=fk [] trivial Tryz.func185 (.two .no (.two (.two .no (.loop [.slot 8 (.num .i64)] .no)) .no))
theorem jr:FOk Tryz.prog 184 fb:=fk [(185,ez)] ⟨iC,trivial⟩ Tryz.func184 .no
theorem jt:FOk Tryz.prog 186 fc:=fk [] trivial Tryz.func186 .no
theorem ju:FOk Tryz.prog 187 fe:=fk [(103,dy)] ⟨fD,trivial⟩ Tryz.func187 .no
theorem ko:FOk Tryz.prog 99 fI:=fk [(176,j9),(181,qn),(183,gg),(184,fb),(186,fc),(187,fe)] ⟨oJ,xC,kQ,jr,jt,ju,trivial⟩ Tryz.func99 .no
theorem CZ:FOk Tryz.prog 152 vM:=fk [(99,fI)] ⟨ko,trivial⟩ Tryz.func152 .no
end R
namespace R
open Go.RowKit
open D
theorem jS:FOk Tryz.prog 69 iq:=fk [(97,eA),(148,fa),(149,ij),(150,na),(151,nc),(152,vM),(219,lQ)] ⟨gA,vT,mn,tN,tO,CZ,ri,trivial⟩ Tryz.func69 .no
theorem jT:FOk Tryz.prog 70 fA:=fk [] trivial Tryz.func70 .no
theorem kR:FOk Tryz.prog 11 gi:=fk [(69,iq),(70,fA)] ⟨jS,jT,trivial⟩ Tryz.func11 .no
theorem mr:FOk Tryz.prog 71 ir:=fk [] trivial Tryz.func71 .no
theorem nX:FOk Tryz.prog 12 jo:=fk [(69,iq),(71,ir)] ⟨jS,mr,trivial⟩ Tryz.func12 .no
theorem kp:FOk Tryz.prog 72 fJ:=fk [] trivial Tryz.func72 .no
theorem lI:FOk Tryz.prog 13 gz:=fk [(69,iq),(72,fJ)] ⟨jS,kp,trivial⟩ Tryz.func13 .no
theorem jd:FOk Tryz.prog 73 eK:=fk [] trivial Tryz.func73 .no
theorem jU:FOk Tryz.prog 14 fB:=fk [(69,iq),(73,eK)] ⟨jS,jd,trivial⟩ Tryz.func14 .no
theorem xD:FOk Tryz.prog 220 qo:=fk [] trivial Tryz.func220 .no
theorem C1:FOk Tryz.prog 221 vN:=fk [] trivial Tryz.func221 .no
theorem tP:FOk Tryz.prog 222 ng:=fk [] trivial Tryz.func222 .no
theorem vU:FOk Tryz.prog 153 oA:=fk [(220,qo),(221,vN),(222,ng)] ⟨xD,C1,tP,trivial⟩ Tryz.func153 (.two .no (.two .no (.two .no (.two .no (.two (.two .no (.loop [.slot 8 (.own 3 y3),.slot 9 (.own 3 y3),.slot 10 (.num .i64),.box 7 [(.num .i64),(.own 4 y4),(.own 30 y30)]] (.two .no (.two (.two .no (.two (.two .no (.loop [.slot 8 (.own 3 y3),.slot 9 (.own 3 y3),.slot 11 (.own 3 y3),.slot 12 (.num .i64)] (.two .no (.two (.two .no (.two .no (.two .no (.two (.two .no (.loop [.slot 15 (.num .i64),.slot 16 (.num .i64)] (.two .no (.join [.slot 15 (.num .i64)] .no .no)))) (.join [.slot 8 (.own 3 y3),.slot 9 (.own 3 y3),.slot 15 (.num .i64)] .no .no))))) .no)))) .no)) .no)))) .no)))))
theorem qA:FOk Tryz.prog 74 mi:=fk [(18,bS),(102,ic),(153,oA)] ⟨cO,kN,vU,trivial⟩ Tryz.func74 .no
theorem kS:FOk Tryz.prog 15 gj:=fk [(74,mi)] ⟨qA,trivial⟩ Tryz.func15 .no
theorem AA:FOk Tryz.prog 75 se:=fk [] trivial Tryz.func75 (.two .no (.two .no (.two (.two .no (.loop [.slot 1 (.own 3 y3),.slot 2 (.num .i64)] .no)) .no)))
theorem jV:FOk Tryz.prog 16 fC:=fk [(74,mi),(75,se)] ⟨qA,AA,trivial⟩ Tryz.func16 .no
end R
namespace R
open Go.RowKit
open D
theorem nY:FOk Tryz.prog 17 jq:=fk [(76,qg)] ⟨vO,trivial⟩ Tryz.func17 (.two .no (.two .no (.two (.two .no (.loop [.slot 5 (.num .i64)] .no)) (.two (.two .no (.loop [.slot 6 (.num .i64)] .no)) .no))))
theorem AB:FOk Tryz.prog 104 sf:=fk [(94,iN)] ⟨kO,trivial⟩ Tryz.func104 (.two .no (.two (.two .no (.loop [.slot 1 (.num .i64),.slot 7 (.num .i64)] .no)) .no))
theorem xE:FOk Tryz.prog 42 qp:=fk [(18,bS),(104,sf)] ⟨cO,AB,trivial⟩ Tryz.func42 .no
theorem qB:FOk Tryz.prog 19 kL:=fk [(42,qp)] ⟨xE,trivial⟩ Tryz.func19 .no
theorem xF:FOk Tryz.prog 41 qq:=fk [(97,eA),(103,dy)] ⟨gA,fD,trivial⟩ Tryz.func41 (.two .no (.two .no (.two .no (.two (.two .no (.loop [.slot 5 (.num .i64),.slot 15 (.num .i64)] .no)) .no))))
theorem qC:FOk Tryz.prog 20 kM:=fk [(41,qq),(78,dQ)] ⟨xF,gk,trivial⟩ Tryz.func20 .no
theorem tQ:FOk Tryz.prog 3 tG:=fk [(8,CX),(9,eJ),(10,kK),(11,gi),(12,jo),(13,gz),(14,fB),(15,gj),(16,fC),(17,jq),(18,bS),(19,kL),(20,kM)] ⟨Jk,jc,qz,kR,nX,lI,jU,kS,jV,nY,cO,qB,qC,trivial⟩ Tryz.func3 (.two .no (.two .no (.two .no (.two .no (.two .no (.two .no (.two .no (.two .no (.two .no (.two .no (.two .no (.two .no (.two .no (.two .no (.two .no (.two (.two .no (.loop [.slot 21 .boo,.slot 22 (.num .i64)] .no)) .no))))))))))))))))
end R
namespace D
open Go.RowKit
theorem tR (x0:List Int) (r:Bool) (hm:gE x0=some r) {I:Hp} {w0:World} (v0_0:Value) (r0_0:(au 5 rU8).rd I [v0_0] x0) (hL:Lay Tryz.prog I):Con Tryz.prog 3 #[v0_0] I w0 [] (fun v=>v= .bool r) (fun _=>[]):=fun w C hs =>
 ((R.tQ).con rfl w0 I undef [v0_0] (x0,()) r hL ⟨_,_,rfl,⟨[v0_0],rfl,r0_0⟩,rfl⟩ hm w C hs).mono fun e w' ⟨v,he,_,hst⟩=>by
  obtain ⟨h1,h2⟩:=R.mJ (h1:=fun _=>rfl) (show St I w0 w' (Ch.own R.Ty.bool.rep [v] r::C) from hst)
  exact ⟨v,he,(List.cons.inj h1).1,h2⟩
end D
namespace D
open Go.RowKit
def I64 (n:Int):Prop:= -9223372036854775808<=n/\n<=9223372036854775807
class Data (α:Type) where
 lim:α->Prop
 sm:α->Prop
instance:Data Int:=⟨I64,fun _=>True⟩
instance:Data Bool:=⟨fun _=>True,fun _=>True⟩
instance:Data ByteArray:=⟨fun s=>s.size<=9223372036854775807,fun s=>s.size<=1048576⟩
instance {α β:Type} [Data α] [Data β] :Data (α×β):=⟨fun x=>Data.lim x.1/\Data.lim x.2,fun x=>Data.sm x.1/\Data.sm x.2⟩
instance {α:Type} [Data α] :Data (List α):=⟨fun xs=>xs.length<=9223372036854775807/\ ∀x,x∈xs->Data.lim x,fun xs=>xs.length<=1048576/\ ∀x,x∈xs->Data.sm x⟩
structure Opens (P:Program) (t:TypeId) {α:Type} [Data α] (R:Rep α):Prop where
 out: ∀ {H:Type} (enc:TypeId×Value->H) (w:World) (fuel:Nat) (cs:List Value) (x:DataW H×List MemPlace),DataW.trod enc P w 0 (fun _=>true) true fuel t cs=some x-> ∃a:α,R.rd (hp w) cs a/\Data.lim a
theorem FW {P:Program} {t:TypeId} (h:P.underlying t=some (.int .u8)):Opens P t rU8:=by
 constructor
 intro H enc w fuel cs x hx
 obtain ⟨n,rfl,-,hw⟩:=DataW.trod_int h hx
 refine ⟨n,rfl,show I64 n from ?_⟩
 simp[Lit.wf,IntKind.min,IntKind.max,IntKind.signed,IntKind.bits] at hw
 unfold I64
 omega
theorem xG {P:Program} {t e:TypeId} {α:Type} [Data α] {R:Rep α} {E:TypeId} (h:P.underlying t=some (.slice e)) (hc:P.cellsOf e=R.size) (h0:0<R.size) (he:Opens P e R):Opens P t (au E R):=by
 constructor
 intro H enc w fuel cs x hx
 rcases Go.Deep.open_slice h hx with ⟨rfl,-⟩ | ⟨a,len,cap,m,n,D,Pl,rfl,-,hl,hm,hmm,-,hel⟩
 ·exact ⟨[],⟨none,0,rfl,by simp,.inl rfl⟩,Nat.zero_le _,fun x hx=>by cases hx⟩
 have hlm:m=cap:=by simpa using hmm
 subst hlm
 rw[hc] at hel
 by_cases hz:len=0
 ·subst hz
  exact ⟨[],⟨some a,m,rfl,by simp,.inl rfl⟩,Nat.zero_le _,fun x hx=>by cases hx⟩
 ·have hone: ∀i,i<len-> ∃c:List Value,∃y:α,c.length=R.size/\(∀j,j<R.size->w.cell? ((a.add (i*R.size)).add j)=c[j]?)/\R.rd (hp w) c y/\Data.lim y:=by
   intro i hi
   obtain ⟨c,h1,h2⟩:=hel i (by omega)
   obtain ⟨-,h3,h4⟩:=World.cells?_some h1
   obtain ⟨y,hy⟩:=he.out enc w _ _ _ h2
   exact ⟨c,y,h3,h4,hy⟩
  obtain ⟨c0,y0,hc0,hr0,-⟩:=hone 0 (by omega)
  have h00:=hr0 0 h0
  have hsome: ∃v,c0[0]? =some v:=⟨_,List.getElem?_eq_getElem (by omega)⟩
  obtain ⟨v,hv⟩:=hsome
  rw[hv] at h00
  have ha:(a.add (0*R.size)).add 0=a:=by simp[Addr.add]
  rw[ha] at h00
  obtain ⟨b,off,spot⟩:=a
  have hb: ∃ccs T fr,w.heap[b]? =some (.cells ccs T fr)/\spot=none:=by
   simp only[World.cell?] at h00
   split at h00
   ·rename_i ccs T fr heq
    cases spot with
    | none=>exact ⟨ccs,T,fr,heq,rfl⟩
    | some s=>simp at h00
   ·simp at h00
  obtain ⟨ccs,T,fr,hh,rfl⟩:=hb
  have hadd: ∀i j,(Addr.add ⟨b,off,none⟩ i).add j=⟨b,off+i+j,none⟩:=by
   intro i j
   by_cases h1:i=0 <;> by_cases h2:j=0 <;> simp[Addr.add,h1,h2,Nat.add_assoc]
  haveI:Inhabited α:=⟨y0⟩
  obtain ⟨X,hX⟩:=Go.Deep.choose_lt (α:=α) (n:=len) (p:=fun i y=> ∃c:List Value,c.length=R.size/\(∀j,j<R.size->ccs.toList[off+i*R.size+j]? =c[j]?)/\R.rd (hp w) c y/\Data.lim y) (fun i hi=>by
   obtain ⟨c,y,h1,h2,h3⟩:=hone i hi
   refine ⟨y,c,h1,fun j hj=>?_,h3⟩
   have:=h2 j hj
   rw[hadd] at this
   simp only[World.cell?,hh] at this
   simpa using this)
  have hlen:((List.range len).map X).length=len:=by simp
  have hel2: ∀i y,((List.range len).map X)[i]? =some y->i<len/\y=X i:=fun i y hy=>by
   have hi:i<len:=by have:=(List.getElem?_eq_some_iff.1 hy).1;omega
   exact ⟨hi,by simpa [hi] using hy.symm⟩
  refine ⟨(List.range len).map X,⟨some ⟨b,off,none⟩,m,by rw[hlen],by rw[hlen];unfold maxLen at hm;unfold lim;omega,.inr ⟨b,off,ccs,T,fr,rfl,hh,fun i y hy=>?_⟩⟩,by rw[hlen];unfold maxLen at hm;omega,fun y hy=>?_⟩
  ·obtain ⟨hi,rfl⟩:=hel2 i y hy
   obtain ⟨c,e1,e2,e3,-⟩:=hX i hi
   exact ⟨c,e1,e2,e3⟩
  ·obtain ⟨i,hi,he⟩:=List.mem_iff_getElem?.1 hy |>.imp fun i hi=>hel2 i y hi
   obtain ⟨-,-,-,-,e4⟩:=hX i hi
   rw[he];exact e4
theorem St.below {w0 w:World} {cs:List Ch} (h:St (hp w0) w0 w cs):Below w0.heap.size w0 w:=by
 obtain ⟨⟨h1,h2,h3,h4⟩,h5,-⟩:=h
 refine ⟨h1,h2,h3,h4,fun b hb=>?_⟩
 have e:w0.heap[b]? =some w0.heap[b]:=Array.getElem?_eq_getElem hb
 rw[e];exact h5 b _ e
end D
namespace D
open Go.RowKit
theorem dh {n:Int} (h1: -9223372036854775808<=n) (h2:n<=9223372036854775807):IntKind.i64.wrap n=n:=by
 simp only[IntKind.wrap,IntKind.bits,IntKind.signed,Bool.true_and]
 split <;> rename_i h <;> simp at h <;> omega
theorem aM {i:Nat} (h:i<9223372036854775807):IntKind.i64.wrap ((i:Int)+1)=((i+1:Nat):Int):=by
 rw[dh (by omega) (by omega)];rfl
theorem iS {α:Type} {xs:List α} {i:Nat} (h:i<xs.length):bm xs (i:Int)=some (xs[i]):=by
 unfold bm
 rw[if_pos (Int.natCast_nonneg _)]
 simp[h]
theorem vV {i n:Nat} (h:i<n):decide ((i:Int)<(n:Int))=true:=by simp[h]
theorem xH {n:Nat} :decide ((n:Int)<(n:Int))=false:=by simp
theorem vW (k:Nat) (h:k<=9223372036854775807):k<bt:=by unfold bt;omega
theorem vX {R S:Type} {f:S->Option (Out R S)} (inv:Nat->S) (N:Nat) (h: ∀i,i<N->f (inv i)=some (.nxt (inv (i+1)))): ∀(m i k:Nat),i+m=N->aO f (k+m) (inv i)=aO f k (inv N)
 | 0,i,k,e=>by rw[show i=N by omega];rfl
 | m+1,i,k,e=>by
  rw[<-Nat.add_assoc,aO,h i (by omega)]
  exact vX inv N h m (i+1) k (by omega)
theorem C2 {R S:Type} {f:S->Option (Out R S)} (inv:Nat->S) (N:Nat) {s:S} (h: ∀i,i<N->f (inv i)=some (.nxt (inv (i+1)))) (he:f (inv N)=some (.brk s)) (hN:N<bt):aO f bt (inv 0)=some (.brk s):=by
 have e:bt=(bt - N - 1)+1+N:=by omega
 rw[e,vX inv N h N 0 _ (by omega),aO,he]
theorem M0 {α:Type} [Data α] {f:Int×Int->Option (Out Int (Int×Int))} (xs:List α)
  (hstep: ∀i (h:i<xs.length) l,0<=l->l<=1048576-> ∃r,f (l,(i:Int))=some (if r<0 then .ret (-1) else .nxt (r,((i+1:Nat):Int)))/\(r<0\/(0<=r/\r<=l/\Data.sm xs[i])))
  (hend: ∀l,f (l,(xs.length:Int))=some (.brk (l,(xs.length:Int)))): ∀(m i k:Nat) (l:Int),i+m=xs.length->m<k->0<=l->l<=1048576->
   aO f k (l,(i:Int))=some (.ret (-1))\/ ∃r,aO f k (l,(i:Int))=some (.brk (r,(xs.length:Int)))/\0<=r/\r<=l/\ ∀j (h:j<xs.length),i<=j->Data.sm xs[j]
 | 0,i,k,l,e,hk,h0,h1=>by
  obtain ⟨k,rfl⟩: ∃q,k=q+1:=⟨k - 1,by omega⟩
  obtain rfl:i=xs.length:=by omega
  exact .inr ⟨l,by rw[aO,hend],h0,Int.le_refl _,fun j hj hi=>by omega⟩
 | m+1,i,k,l,e,hk,h0,h1=>by
  obtain ⟨k,rfl⟩: ∃q,k=q+1:=⟨k - 1,by omega⟩
  obtain ⟨r,e1,e2⟩:=hstep i (by omega) l h0 h1
  rw[aO,e1]
  rcases e2 with e2 | ⟨e2,e3,e4⟩
  ·rw[if_pos e2];exact .inl rfl
  ·rw[if_neg (by omega)]
   rcases M0 xs hstep hend m (i+1) k r (by omega) (by omega) e2 (by omega) with h | ⟨q,g1,g2,g3,g4⟩
   ·exact .inl h
   ·refine .inr ⟨q,g1,g2,by omega,fun j hj hi=>?_⟩
    by_cases hji:j=i
    ·subst hji;exact e4
    ·exact g4 j hj (by omega)
theorem szL {α:Type} [Data α] {f:Int×Int->Option (Out Int (Int×Int))} (xs:List α) {l:Int} (hN:xs.length<=9223372036854775807)
  (hstep: ∀i (h:i<xs.length) l,0<=l->l<=1048576-> ∃r,f (l,(i:Int))=some (if r<0 then .ret (-1) else .nxt (r,((i+1:Nat):Int)))/\(r<0\/(0<=r/\r<=l/\Data.sm xs[i])))
  (hend: ∀l,f (l,(xs.length:Int))=some (.brk (l,(xs.length:Int)))) (h0:0<=l) (h1:l<=1048576) :
  ∃r,(if decide (IntKind.i64.wrap (l - (xs.length:Int))<0) then (some (-1)) else (be (aO f bt (IntKind.i64.wrap (l - (xs.length:Int)),0)) (fun r=>some r) (fun s4=>some s4.1)))=some r/\(r<0\/(0<=r/\r<=l/\Data.sm xs)):=by
 rw[dh (by omega) (by omega)]
 by_cases h:l - (xs.length:Int)<0
 ·exact ⟨-1,by rw[if_pos (decide_eq_true h)],.inl (by decide)⟩
 ·rw[if_neg (by simpa using h)]
  rcases M0 xs hstep hend xs.length 0 bt (l - xs.length) (by omega) (vW _ hN) (by omega) (by omega) with e | ⟨r,e,g1,g2,g3⟩
  ·exact ⟨-1,by rw[show ((0:Int))=((0:Nat):Int) from rfl,e];rfl,.inl (by decide)⟩
  ·refine ⟨r,by rw[show ((0:Int))=((0:Nat):Int) from rfl,e];rfl,.inr ⟨g1,by omega,by omega,fun x hx=>?_⟩⟩
   obtain ⟨j,hj,rfl⟩:=List.getElem_of_mem hx
   exact g3 j hj (Nat.zero_le _)
theorem Mr {α:Type} [DecidableEq α] {f:Int->Option (Out Bool Int)} (xs ys:List α) (hl:xs.length=ys.length)
  (hstep: ∀i (h:i<xs.length) (h':i<ys.length),f (i:Int)=some (if xs[i] =ys[i] then .nxt ((i+1:Nat):Int) else .ret false)) (hend:f (xs.length:Int)=some (.brk (xs.length:Int))): ∀(m i k:Nat),i+m=xs.length->m<k->
   aO f k (i:Int)=some (if xs.drop i=ys.drop i then .brk (xs.length:Int) else .ret false)
 | 0,i,k,e,hk=>by
  obtain ⟨k,rfl⟩: ∃q,k=q+1:=⟨k - 1,by omega⟩
  obtain rfl:i=xs.length:=by omega
  rw[aO,hend,List.drop_of_length_le (aA _),List.drop_of_length_le (by omega),if_pos rfl]
 | m+1,i,k,e,hk=>by
  obtain ⟨k,rfl⟩: ∃q,k=q+1:=⟨k - 1,by omega⟩
  have hi:i<xs.length:=by omega
  have hi':i<ys.length:=by omega
  have d1:=List.drop_eq_getElem_cons hi
  have d2:=List.drop_eq_getElem_cons hi'
  rw[aO,hstep i hi hi',d1,d2]
  by_cases h:xs[i] =ys[i]
  ·rw[if_pos h]
   simp only
   rw[Mr xs ys hl hstep hend m (i+1) k (by omega) (by omega)]
   simp only[List.cons.injEq,h,true_and]
  ·rw[if_neg h]
   simp only[List.cons.injEq,h,false_and,if_false]
theorem eqL {α:Type} [DecidableEq α] {f:Int->Option (Out Bool Int)} (xs ys:List α) (hN:xs.length<=9223372036854775807)
  (hstep: ∀i (h:i<xs.length) (h':i<ys.length),f (i:Int)=some (if xs[i] =ys[i] then .nxt ((i+1:Nat):Int) else .ret false)) (hend:f (xs.length:Int)=some (.brk (xs.length:Int))) :
  (if (xs.length:Int) !=(ys.length:Int) then (some false) else (be (aO f bt 0) (fun r=>some r) (fun s4=>some true)))=some (decide (xs=ys)):=by
 by_cases hl:xs.length=ys.length
 ·rw[if_neg (by rw[hl];simp),show ((0:Int))=((0:Nat):Int) from rfl,Mr xs ys hl hstep hend xs.length 0 bt (by omega) (vW _ hN)]
  by_cases h:xs=ys
  ·subst h;simp[be]
  ·simp[be,h]
 ·have:xs≠ys:=fun e=>hl (by rw[e])
  rw[if_pos (by simp;omega)];simp[this]
theorem eqB {α:Type} [DecidableEq α] {f:Int->Option (Out Bool Int)} {K:Option Bool} (xs ys:List α) (hN:xs.length<=9223372036854775807) (hl:xs.length=ys.length)
  (hstep: ∀i (h:i<xs.length) (h':i<ys.length),f (i:Int)=some (if xs[i] =ys[i] then .nxt ((i+1:Nat):Int) else .ret false)) (hend:f (xs.length:Int)=some (.brk (xs.length:Int))) :
  be (aO f bt 0) (fun r=>some r) (fun s4=>K)=(if xs=ys then K else some false):=by
 rw[show ((0:Int))=((0:Nat):Int) from rfl,Mr xs ys hl hstep hend xs.length 0 bt (by omega) (vW _ hN)]
 by_cases h:xs=ys
 ·subst h;simp[be]
 ·simp[be,h]
theorem K0 {f:Int->Option (Out Int Int)} (xs ys:List Int)
  (hstep: ∀i (h:i<xs.length) (h':i<ys.length),f (i:Int)=some (if xs[i] < ys[i] then .ret (-1) else if xs[i] > ys[i] then .ret 1 else .nxt ((i+1:Nat):Int))) (hend: ∀i,xs.length<=i\/ys.length<=i->f (i:Int)=some (.brk (i:Int))): ∀(m i k:Nat),i+m=xs.length->m<k->
   (∃r,aO f k (i:Int)=some (.ret r)/\r≠0/\xs≠ys)\/ ∃s,aO f k (i:Int)=some (.brk s)/\(xs.length=ys.length->xs.drop i=ys.drop i)
 | 0,i,k,e,hk=>by
  obtain ⟨k,rfl⟩: ∃q,k=q+1:=⟨k - 1,by omega⟩
  exact .inr ⟨_,by rw[aO,hend i (.inl (by omega))],fun h=>by rw[List.drop_of_length_le (by omega),List.drop_of_length_le (by omega)]⟩
 | m+1,i,k,e,hk=>by
  obtain ⟨k,rfl⟩: ∃q,k=q+1:=⟨k - 1,by omega⟩
  have hi:i<xs.length:=by omega
  by_cases hi':i<ys.length
  ·have hne: ∀h:xs[i] ≠ys[i],xs≠ys:=fun h e=>h (by subst e;rfl)
   rw[aO,hstep i hi hi']
   by_cases h1:xs[i] < ys[i]
   ·rw[if_pos h1];exact .inl ⟨-1,rfl,by decide,hne (by omega)⟩
   ·rw[if_neg h1]
    by_cases h2:xs[i] > ys[i]
    ·rw[if_pos h2];exact .inl ⟨1,rfl,by decide,hne (by omega)⟩
    ·rw[if_neg h2]
     rcases K0 xs ys hstep hend m (i+1) k (by omega) (by omega) with h | ⟨s,g1,g2⟩
     ·exact .inl h
     ·refine .inr ⟨s,g1,fun hl=>?_⟩
      have h3:xs[i] =ys[i]:=by omega
      rw[List.drop_eq_getElem_cons hi,List.drop_eq_getElem_cons hi',g2 hl,h3]
  ·exact .inr ⟨_,by rw[aO,hend i (.inr (by omega))],fun h=>by omega⟩
instance:LawfulBEq ByteArray where
 eq_of_beq {a b} h:=ByteArray.ext (eq_of_beq (show (a.data==b.data)=true from h))
 rfl {a}:=beq_self_eq_true a.data
theorem kd {α β:Type} (p:α×β):(p.1,p.2)=p:=rfl
end D
namespace D
open Go.RowKit
theorem eh {R S:Type} {f:S->Option (Out R S)} (Inv:Nat->S->Prop) (Q:Out R S->Prop) (N:Nat)
  (h: ∀i s,i<=N->Inv i s->(i<N/\ ∃s',f s=some (.nxt s')/\Inv (i+1) s')\/ ∃o,f s=some o/\(∀s',o≠ .nxt s')/\Q o) {s:S} (h0:Inv 0 s) (hN:N<bt): ∃o,aO f bt s=some o/\Q o:=by
 have key: ∀(k i:Nat) (s:S),i<=N->N<i+k->Inv i s-> ∃o,aO f k s=some o/\Q o:=by
  intro k
  induction k with
  | zero=>intro i s h1 h2;omega
  | succ k ih =>
   intro i s h1 h2 hI
   rcases h i s h1 hI with ⟨hi,s',e,hI'⟩ | ⟨o,e,hn,hq⟩
   ·obtain ⟨o,e',hq⟩:=ih (i+1) s' (by omega) (by omega) hI'
    exact ⟨o,by rw[aO,e];exact e',hq⟩
   ·refine ⟨o,?_,hq⟩
    rw[aO,e]
    cases o with
    | nxt s'=>exact absurd rfl (hn s')
    | brk s'=>rfl
    | ret r=>rfl
 exact key bt 0 s (by omega) (by omega) h0
theorem di {R S:Type} {f:S->Option (Out R S)} (Inv:Nat->S->Prop) (N:Nat) (h: ∀i s,i<N->Inv i s-> ∃s',f s=some (.nxt s')/\Inv (i+1) s') (he: ∀s,Inv N s->f s=some (.brk s)) {s:S} (h0:Inv 0 s) (hN:N<bt): ∃s',aO f bt s=some (.brk s')/\Inv N s':=by
 obtain ⟨o,e,s',rfl,h⟩:=eh (f:=f) Inv (fun o=> ∃s',o= .brk s'/\Inv N s') N (fun i s hi hI=>by
  by_cases h1:i<N
  ·exact .inl ⟨h1,h i s h1 hI⟩
  ·obtain rfl:i=N:=by omega
   exact .inr ⟨_,he s hI,(fun s' e=>by cases e),s,rfl,hI⟩) h0 hN
 exact ⟨s',e,h⟩
theorem bY {R S:Type} {f:S->Option (Out R S)} (st:Nat->S) (N:Nat) (h: ∀i,i<N->f (st i)=some (.nxt (st (i+1)))) (he:f (st N)=some (.brk (st N))) (hN:N<bt):aO f bt (st 0)=some (.brk (st N)):=C2 st N h he hN
theorem lD {k:Nat} (h:k<=9223372036854775807):k<bt:=vW k h
theorem nk {i:Nat} (h:i<=9223372036854775807):IntKind.i64.wrap ((i:Int) - 1)=(i:Int) - 1:=dh (by omega) (by omega)
theorem aQ {α:Type} {b:Nat} {xs ys:List α} (h:(xs.length+ys.length)*b<=140737488355328):da b xs ys=some (xs++ys):=by unfold da;rw[if_pos h]
theorem nZ {i n:Nat} :decide ((i:Int)<(n:Int))=decide (i<n):=by simp
theorem dj {R S T:Type} {x:Option (Out R S)} {r:R} {kr:R->Option T} {k:S->Option T} (h:x=some (.ret r)):be x kr k=kr r:=by rw[h];rfl
theorem aJ {R S T:Type} {x:Option (Out R S)} {s:S} {kr:R->Option T} {k:S->Option T} (h:x=some (.brk s)):be x kr k=k s:=by rw[h];rfl
def nth {α:Type} [Inhabited α] (xs:List α) (i:Int):α:=xs.getD i.toNat default
section
variable {α:Type} [Inhabited α] {xs ys:List α}
theorem aF {i:Int} (h0:0<=i) (h1:i<xs.length):bm xs i=some (nth xs i):=by
 unfold bm nth
 rw[if_pos h0]
 have:i.toNat<xs.length:=by omega
 simp[List.getD_eq_getElem?_getD,this]
theorem bd {i:Nat} (h:i<xs.length):nth xs (i:Int)=xs[i]:=by simp[nth,List.getD_eq_getElem?_getD,h]
theorem cF {i:Int} (h0:0<=i) (h1:i<xs.length):nth xs i∈xs:=by
 have:i.toNat<xs.length:=by omega
 have e:nth xs i=xs[i.toNat]:=by simp[nth,List.getD_eq_getElem?_getD,this]
 rw[e];exact List.getElem_mem this
theorem fE {i:Int} (h0:0<=i) (h1:i<xs.length):nth (xs++ys) i=nth xs i:=by
 have:i.toNat<xs.length:=by omega
 simp[nth,List.getD_eq_getElem?_getD,List.getElem?_append_left this]
theorem n7 {β:Type} [Inhabited β] {f:α->β} {i:Int} (h0:0<=i) (h1:i<xs.length):nth (xs.map f) i=f (nth xs i):=by
 have:i.toNat<xs.length:=by omega
 simp[nth,List.getD_eq_getElem?_getD,this]
theorem Jl {x:α} (h:x∈xs): ∃i:Nat,i<xs.length/\nth xs (i:Int)=x:=by
 obtain ⟨i,hi,rfl⟩:=List.getElem_of_mem h
 exact ⟨i,hi,bd hi⟩
theorem oD {i:Int} {x:α} (h0:0<=i) (h1:i<xs.length):nth (xs.set i.toNat x) i=x:=by
 have:i.toNat<xs.length:=by omega
 simp[nth,List.getD_eq_getElem?_getD,this]
theorem AC {i j:Int} {x:α} (h0:0<=i) (hj:0<=j) (h:i≠j):nth (xs.set i.toNat x) j=nth xs j:=by
 have:i.toNat≠j.toNat:=by omega
 simp[nth,List.getD_eq_getElem?_getD,List.getElem?_set_ne this]
theorem Jm (h:xs.length=ys.length) (k: ∀i:Nat,i<xs.length->nth xs (i:Int)=nth ys (i:Int)):xs=ys:=by
 refine List.ext_getElem h fun i h1 h2=>?_
 have:=k i h1
 rwa [bd h1,bd h2] at this
end
section
variable {κ:Type} [DecidableEq κ]
def nbL (l:List κ):Option κ->List κ
 | none=>l
 | some x=>if x∈l then l else l++ [x]
def nbI (l:List κ):Option κ->Int
 | none=> -1
 | some x=>(l.idxOf x:Int)
def nbS (l:List κ) (os:List (Option κ)):List κ:=os.foldl nbL l
def nbR (l:List κ):List (Option κ)->List Int
 | [] =>[]
 | o::os=>nbI l o::nbR (nbL l o) os
theorem jW (l:List κ) (os:List (Option κ)) (o:Option κ):nbS l (os++ [o])=nbL (nbS l os) o:=by simp[nbS]
theorem iT: ∀(l:List κ) (os:List (Option κ)) (o:Option κ),nbR l (os++ [o])=nbR l os++ [nbI (nbS l os) o]
 | l,[],o=>rfl
 | l,p::os,o=>by
  show nbI l p::nbR (nbL l p) (os++ [o])=nbI l p::nbR (nbL l p) os++ [nbI (nbS (nbL l p) os) o]
  rw[iT (nbL l p) os o];rfl
theorem bO: ∀(l:List κ) (os:List (Option κ)),(nbR l os).length=os.length
 | l,[] =>rfl
 | l,o::os=>by show (nbR (nbL l o) os).length+1=_;rw[bO];rfl
theorem AD (l : List κ) (o : Option κ) : l <+: nbL l o := by
  cases o with
  | none => exact List.prefix_refl l
  | some x => unfold nbL; simp only; split
              · exact List.prefix_refl l
              · exact List.prefix_append l [x]
theorem ep: ∀(l:List κ) (os:List (Option κ)),l <+:nbS l os
 | l,[] =>List.prefix_refl l
 | l,o::os=>(AD l o).trans (ep (nbL l o) os)
theorem C3 {l : List κ} {o : Option κ} (h : l.Nodup) : (nbL l o).Nodup := by
  cases o with
  | none => exact h
  | some x => unfold nbL; simp only; split
              · exact h
              · rename_i hx; exact List.nodup_append.2 ⟨h, by simp, by rintro a ha b hb rfl; simp at hb; exact hx (hb ▸ ha)⟩
theorem gl: ∀ {l:List κ} {os:List (Option κ)},l.Nodup->(nbS l os).Nodup
 | l,[],h=>h
 | l,o::os,h=>gl (l:=nbL l o) (os:=os) (C3 h)
theorem C4 {l : List κ} {o : Option κ} {x : κ} : x ∈ nbL l o ↔ x ∈ l \/ o = some x := by
  cases o with
  | none => simp [nbL]
  | some y => unfold nbL; simp only; split
              · rename_i h; constructor
                · exact .inl
                · rintro (h' | h')
                  · exact h'
                  · simp at h'; exact h' ▸ h
              · simp; exact or_congr Iff.rfl eq_comm
theorem jX: ∀ {l:List κ} {os:List (Option κ)} {x:κ},x∈nbS l os↔x∈l\/some x∈os
 | l,[],x=>by simp[nbS]
 | l,o::os,x=>by
  show x∈nbS (nbL l o) os↔_
  rw[jX,C4,List.mem_cons,or_assoc]
  exact or_congr Iff.rfl (or_congr eq_comm Iff.rfl)
theorem dU {l:List κ} {x:κ} (h:x∈l):nbL l (some x)=l:=by simp[nbL,h]
theorem du {l:List κ} {x:κ} (h:x∉l):nbL l (some x)=l++ [x]:=by simp[nbL,h]
theorem iw {l:List κ} {x:κ} (h:x∉l):l.idxOf x=l.length:=List.idxOf_eq_length h
def bfS (nx:κ->List (Option κ)) (first:κ):Nat->List κ
 | 0=>[first]
 | i+1=>match (bfS nx first i)[i]? with
  | some x=>nbS (bfS nx first i) (nx x)
  | none=>bfS nx first i
def bfR (nx:κ->List (Option κ)) (first:κ):Nat->List (List Int)
 | 0=>[]
 | i+1=>bfR nx first i++(match (bfS nx first i)[i]? with
  | some x=>[nbR (bfS nx first i) (nx x)]
  | none=>[])
variable {nx:κ->List (Option κ)} {first:κ}
theorem o7 {i:Nat} (h:i<(bfS nx first i).length):bfS nx first (i+1)=nbS (bfS nx first i) (nx ((bfS nx first i)[i])):=by
 rw[bfS,List.getElem?_eq_getElem h]
theorem lE {i:Nat} (h:i<(bfS nx first i).length):bfR nx first (i+1)=bfR nx first i++ [nbR (bfS nx first i) (nx ((bfS nx first i)[i]))]:=by
 rw[bfR,List.getElem?_eq_getElem h]
theorem aU (i:Nat):bfS nx first i <+:bfS nx first (i+1):=by
 rw[bfS]
 split
 ·exact ep _ _
 ·exact List.prefix_refl _
theorem jv {i j:Nat} (h:i<=j):bfS nx first i <+:bfS nx first j:=by
 induction h with
 | refl=>exact List.prefix_refl _
 | step _ ih=>exact ih.trans (aU _)
theorem fF: ∀i,(bfS nx first i).Nodup
 | 0=>by simp[bfS]
 | i+1=>by
  rw[bfS]
  split
  ·exact gl (fF i)
  ·exact fF i
theorem et {G:κ->Prop} (h0:G first) (h: ∀x,G x-> ∀y,some y∈nx x->G y): ∀i,∀x∈bfS nx first i,G x
 | 0=>by simp[bfS];exact h0
 | i+1=>by
  rw[bfS]
  split
  ·rename_i y hy
   intro x hx
   rcases jX.1 hx with hx | hx
   ·exact et h0 h i x hx
   ·exact h y (et h0 h i y (List.mem_of_getElem? hy)) x hx
  ·exact et h0 h i
theorem nl (i:Nat):(bfS nx first i)[0]? =some first:=by
 obtain ⟨t,ht⟩:=jv (nx:=nx) (first:=first) (Nat.zero_le i)
 rw[<-ht];rfl
theorem dq: ∀ {i:Nat},(∀j,j<i->j<(bfS nx first j).length)->(bfR nx first i).length=i
 | 0,_=>rfl
 | i+1,h=>by rw[lE (h i (by omega)),aw,dq fun j hj=>h j (by omega)];rfl
def bfE (nx:κ->List (Option κ)) (first:κ) (N:Nat):Prop:=N=(bfS nx first N).length/\ ∀i,i<N->i<(bfS nx first i).length
theorem zf {B:Nat} (hB: ∀i,(bfS nx first i).length<=B): ∃N,N<=B/\bfE nx first N:=by
 have key: ∀m i,i+m=B->(∀j,j<i->j<(bfS nx first j).length)-> ∃N,N<=B/\bfE nx first N:=by
  intro m
  induction m with
  | zero =>
   intro i hi hj
   have h1:=hB i
   have h2:i<=(bfS nx first i).length:=by
    cases i with
    | zero=>omega
    | succ i =>
     have:=hj i (by omega)
     have hp:=(aU (nx:=nx) (first:=first) i).length_le
     omega
   exact ⟨i,by omega,by omega,hj⟩
  | succ m ih =>
   intro i hi hj
   by_cases h:i<(bfS nx first i).length
   ·exact ih (i+1) (by omega) fun j hj'=>by
     by_cases e:j=i
     ·subst e;exact h
     ·exact hj j (by omega)
   ·have h2:i<=(bfS nx first i).length:=by
     cases i with
     | zero=>omega
     | succ i =>
      have:=hj i (by omega)
      have hp:=(aU (nx:=nx) (first:=first) i).length_le
      omega
    exact ⟨i,by omega,by omega,hj⟩
 exact key B 0 (by omega) (by omega)
theorem tS {N M:Nat} (h:bfE nx first N) (k:bfE nx first M):N=M:=by
 rcases Nat.lt_trichotomy N M with e | e | e
 ·have:=k.2 N e;have:=h.1;omega
 ·exact e
 ·have:=h.2 M e;have:=k.1;omega
end
end D
namespace D
open Go.RowKit
theorem zg (x:Int):0<=qR x 255/\qR x 255<=255:=by
 have h:(BitVec.ofInt 64 x &&& BitVec.ofInt 64 255).toNat<=255:=by
  rw[BitVec.toNat_and]
  exact Nat.le_trans Nat.and_le_right (by decide)
 unfold qR
 rw[dh (by omega) (by omega)]
 omega
def ke (xs:List Int) (i:Int):Prop:=0<=i/\i<=(xs.length:Int)
section
variable {xs:List Int} {i h:Int}
theorem K4 (hl:xs.length<=1048576): ∃r:Int×Int,kH xs=some r/\ke xs r.1:=by
 have key: ∃s,aO (iJ xs) bt (IntKind.i64.wrap (10101+(xs.length:Int)),0)=some (.brk s):=by
  obtain ⟨o,e,s,rfl⟩:=eh (f:=iJ xs) (fun j s=>s.2=(j:Int)) (fun o=> ∃s,o= .brk s) xs.length (fun j s hj hb=>by
   obtain ⟨a,b⟩:=s
   obtain rfl:b=(j:Int):=hb
   unfold iJ
   simp only
   rw[nZ]
   by_cases c0:j<xs.length
   ·rw[if_pos (by simpa using c0)]
    by_cases c:((j:Nat):Int)<4000
    ·rw[if_pos (by simpa using c),aF (by omega) (by omega)];simp only[ae]
     exact .inl ⟨c0,_,rfl,by show IntKind.i64.wrap ((j:Int)+1)=_;rw[dh (by omega) (by omega)];omega⟩
    ·rw[if_neg (by simpa using c)]
     exact .inr ⟨_,rfl,(fun s' e=>by cases e),_,rfl⟩
   ·rw[if_neg (by simpa using c0)]
    exact .inr ⟨_,rfl,(fun s' e=>by cases e),_,rfl⟩) (s:=(IntKind.i64.wrap (10101+(xs.length:Int)),0)) rfl (lD (by omega))
  exact ⟨s,e⟩
 obtain ⟨s,hs⟩:=key
 unfold kH
 rw[aJ hs]
 exact ⟨_,rfl,by show (0:Int)<=0;omega,by show (0:Int)<=_;omega⟩
theorem vY (hl:xs.length<=1048576) (hc:ke xs i): ∃r:Int×Int×Int,eX (xs,i,h)=some r/\(0<=r.1/\r.1<=255)/\ke xs r.2.1:=by
 unfold eX
 simp only
 by_cases c:i<(xs.length:Int)
 ·rw[if_pos (by simpa using c),aF hc.1 c];simp only[ae]
  refine ⟨_,rfl,zg _,?_⟩
  show ke xs (IntKind.i64.wrap (i+1))
  have:=hc.1
  rw[dh (by omega) (by omega)]
  exact ⟨by omega,by omega⟩
 ·rw[if_neg (by simpa using c)];simp only[ae]
  exact ⟨_,rfl,zg _,hc⟩
theorem gu (hl:xs.length<=1048576) (hc:ke xs i) {n:Int} (hn:0<n): ∃r:Int×Int×Int,bg (xs,i,h) n=some r/\(0<=r.1/\r.1<n)/\ke xs r.2.1:=by
 unfold bg
 simp only
 rw[if_neg (by simpa using hn)]
 have hck:chk (n≠0)=some ():=by unfold chk;rw[if_pos (by omega)]
 by_cases c:n<=256
 ·rw[if_pos (by simpa using c)]
  obtain ⟨r,e,h1,h2⟩:=vY (h:=h) hl hc
  rw[e,hck];simp only[ae]
  exact ⟨_,rfl,⟨Int.tmod_nonneg _ h1.1,Int.tmod_lt_of_pos _ hn⟩,h2⟩
 ·rw[if_neg (by simpa using c)]
  obtain ⟨r1,e1,h1,k1⟩:=vY (h:=h) hl hc
  rw[e1];simp only[ae]
  obtain ⟨r2,e2,h2,k2⟩:=vY (h:=r1.2.2) hl k1
  rw[e2];simp only[ae]
  obtain ⟨r3,e3,h3,k3⟩:=vY (h:=r2.2.2) hl k2
  rw[e3];simp only[ae]
  obtain ⟨r4,e4,h4,k4⟩:=vY (h:=r3.2.2) hl k3
  rw[e4,hck];simp only[ae]
  have w1:IntKind.i64.wrap (r1.1*16777216)=r1.1*16777216:=dh (by omega) (by omega)
  have w2:IntKind.i64.wrap (r2.1*65536)=r2.1*65536:=dh (by omega) (by omega)
  have w3:IntKind.i64.wrap (r3.1*256)=r3.1*256:=dh (by omega) (by omega)
  have w4:IntKind.i64.wrap (r1.1*16777216+r2.1*65536)=r1.1*16777216+r2.1*65536:=dh (by omega) (by omega)
  have w5:IntKind.i64.wrap (r1.1*16777216+r2.1*65536+r3.1*256)=r1.1*16777216+r2.1*65536+r3.1*256:=dh (by omega) (by omega)
  have w6:IntKind.i64.wrap (r1.1*16777216+r2.1*65536+r3.1*256+r4.1)=r1.1*16777216+r2.1*65536+r3.1*256+r4.1:=dh (by omega) (by omega)
  rw[w1,w2,w3,w4,w5,w6]
  exact ⟨_,rfl,⟨Int.tmod_nonneg _ (by omega),Int.tmod_lt_of_pos _ hn⟩,k4⟩
theorem qD (hl:xs.length<=1048576) (hc:ke xs i) {n:Int} (hn:0<n): ∃r:Bool×Int×Int,dn (xs,i,h) n=some r/\ke xs r.2.1:=by
 obtain ⟨r,e,-,k⟩:=gu (h:=h) hl hc hn
 unfold dn
 simp only
 rw[e]
 exact ⟨_,rfl,k⟩
theorem jw (hl:xs.length<=1048576) (hc:ke xs i) {l:List Int} (h0:l≠ []): ∃r:Int×Int×Int,bT (xs,i,h) l=some r/\r.1∈l/\ke xs r.2.1:=by
 have hp:0<(l.length:Int):=by have:=List.length_pos_iff.2 h0;omega
 obtain ⟨r,e,h1,k⟩:=gu (h:=h) hl hc hp
 unfold bT
 simp only
 rw[e];simp only[ae]
 rw[aF h1.1 h1.2];simp only[ae]
 exact ⟨_,rfl,cF h1.1 h1.2,k⟩
theorem K5 (hl:xs.length<=1048576) (hc:ke xs i) {l:List ByteArray} (h0:l≠ []): ∃r:ByteArray×Int×Int,lr (xs,i,h) l=some r/\r.1∈l/\ke xs r.2.1:=by
 have hp:0<(l.length:Int):=by have:=List.length_pos_iff.2 h0;omega
 obtain ⟨r,e,h1,k⟩:=gu (h:=h) hl hc hp
 unfold lr
 simp only
 rw[e];simp only[ae]
 rw[aF h1.1 h1.2];simp only[ae]
 exact ⟨_,rfl,cF h1.1 h1.2,k⟩
end
end D
namespace D
open Go.RowKit
abbrev AutT:=Int×(List Bool)×(List (List Int))
structure VA (a:AutT) (n:Nat):Prop where
 len:a.2.1.length=n
 start:0<=a.1/\a.1<n
 nlen:a.2.2.length=n
 row: ∀r∈a.2.2,r.length=9
 ent: ∀r∈a.2.2,∀t∈r,-1<=t/\t<n
def mv (a:AutT) (s:Int) (k:Nat):Int:=nth (nth a.2.2 s) k
theorem LW (x l h:Int):iH x l h=some (decide (l<=x/\x<=h)):=by
 unfold iH
 by_cases c:l<=x
 ·simp[c]
 ·have: ¬l<=x/\True:=⟨c,trivial⟩
  simp[c]
theorem K6 (x l h:Int):fQ x l h=some (decide (l<=x/\x<=h)):=by
 unfold fQ
 by_cases c:l<=x
 ·simp[c]
 ·simp[c]
theorem scan {α R:Type} [Inhabited α] {f:Int->Option (Out R Int)} (xs:List α) (p:α->Prop) [DecidablePred p] (r:R) (hN:xs.length<=9223372036854775807)
  (h: ∀i:Nat,i<xs.length->f (i:Int)=some (if p (nth xs i) then .nxt ((i+1:Nat):Int) else .ret r)) (he:f (xs.length:Int)=some (.brk (xs.length:Int))) :
  (aO f bt 0=some (.brk (xs.length:Int))/\ ∀x∈xs,p x)\/(aO f bt 0=some (.ret r)/\ ¬ ∀x∈xs,p x):=by
 obtain ⟨o,e,hq⟩:=eh (f:=f) (fun i s=>s=(i:Int)/\ ∀j:Nat,j<i->p (nth xs j)) (fun o=>(o= .brk (xs.length:Int)/\ ∀x∈xs,p x)\/(o= .ret r/\ ¬ ∀x∈xs,p x)) xs.length (s:=0) (by
  rintro i s hi ⟨rfl,hp⟩
  by_cases hl:i<xs.length
  ·by_cases c:p (nth xs i)
   ·refine .inl ⟨hl,_,by rw[h i hl,if_pos c],rfl,fun j hj=>?_⟩
    by_cases e:j=i
    ·subst e;exact c
    ·exact hp j (by omega)
   ·refine .inr ⟨_,by rw[h i hl,if_neg c],(fun s' e=>by cases e),.inr ⟨rfl,fun hx=>c (hx _ (cF (by omega) (by omega)))⟩⟩
  ·obtain rfl:i=xs.length:=by omega
   refine .inr ⟨_,he,(fun s' e=>by cases e),.inl ⟨rfl,fun x hx=>?_⟩⟩
   obtain ⟨j,hj,rfl⟩:=Jl hx
   exact hp j hj) ⟨rfl,by omega⟩ (lD hN)
 rcases hq with ⟨rfl,hq⟩ | ⟨rfl,hq⟩
 ·exact .inl ⟨e,hq⟩
 ·exact .inr ⟨e,hq⟩
section
variable {a:AutT} {n:Nat} (V:VA a n)
include V
theorem VA.pos:0<n:=by have:=V.start;omega
theorem VA.rowAt {s:Int} (h0:0<=s) (h1:s<n):(nth a.2.2 s).length=9:=V.row _ (cF h0 (by rw[V.nlen];exact h1))
theorem VA.mv {s:Int} {k:Nat} (h0:0<=s) (h1:s<n) (hk:k<9): -1<=mv a s k/\mv a s k<n:=
 V.ent _ (cF h0 (by rw[V.nlen];exact h1)) _ (cF (by omega) (by rw[V.rowAt h0 h1];omega))
theorem VA.get {s:Int} (h0:0<=s) (h1:s<n):bm a.2.2 s=some (nth a.2.2 s):=aF h0 (by rw[V.nlen];exact h1)
theorem VA.get2 {s:Int} {k:Nat} (h0:0<=s) (h1:s<n) (hk:k<9):bm (nth a.2.2 s) (k:Int)=some (D.mv a s k):=aF (by omega) (by rw[V.rowAt h0 h1];omega)
theorem VA.acc {s:Int} (h0:0<=s) (h1:s<n):bm a.2.1 s=some (nth a.2.1 s):=aF h0 (by rw[V.len];exact h1)
theorem C5 {s:Int} {k:Nat} (h0:0<=s) (h1:s<n) (hk:k<9):aS a s (k:Int)=some (mv a s k):=by
 unfold aS iL
 rw[if_neg (by simp;omega),K6];simp only[ae]
 rw[if_pos (by simp;omega),V.get h0 h1];simp only[ae]
 rw[V.get2 h0 h1 hk];rfl
end
theorem sn {a:AutT} {s:Int} {k:Int} (h0:s<0):aS a s k=some (-1):=by
 unfold aS;rw[if_pos (by simpa using h0)]
end D
namespace D
open Go.RowKit
abbrev Tok:=Int×Int×Int×Int
def ar (t:Tok):Int:=
 if t.1=1\/t.1=2 then (if t.2.1=0/\t.2.2.1=0/\t.2.2.2=0 then 0 else -1)
 else if t.1=3 then (if (0<=t.2.1/\t.2.1<=8)/\t.2.2.1=0/\t.2.2.2=0 then 0 else -1)
 else if t.1=4\/t.1=5 then (if t.2.1=0/\t.2.2.1=0/\t.2.2.2=0 then 2 else -1)
 else if t.1=6 then (if t.2.1=0/\t.2.2.1=0/\t.2.2.2=0 then 1 else -1)
 else if t.1=7 then (if t.2.1=0/\(0<=t.2.2.1/\t.2.2.1<=t.2.2.2)/\(1<=t.2.2.2/\t.2.2.2<=3) then 1 else -1)
 else -1
theorem zh (x:Int):eY x=some (decide (0<=x/\x<=8)):=by unfold eY;rw[LW];rfl
theorem M2 (t:Tok):g9 t=some (ar t):=by
 obtain ⟨k,l,lo,hi⟩:=t
 unfold g9 ar
 simp only[zh,LW,ae]
 by_cases h1:k=1
 ·subst h1;simp;grind
 by_cases h2:k=2
 ·subst h2;simp;grind
 by_cases h3:k=3
 ·subst h3;simp;grind
 by_cases h4:k=4
 ·subst h4;simp;grind
 by_cases h5:k=5
 ·subst h5;simp;grind
 by_cases h6:k=6
 ·subst h6;simp;grind
 by_cases h7:k=7
 ·subst h7;simp;grind
 simp[h1,h2,h3,h4,h5,h6,h7]
theorem o8 (t:Tok): -1<=ar t/\ar t<=2:=by
 unfold ar
 grind
theorem jY {t:Tok} (h:0<=ar t):(ar t=2/\(t.1=4\/t.1=5))\/(ar t=1/\(t.1=6\/t.1=7))\/(ar t=0/\(t.1=1\/t.1=2\/t.1=3)):=by
 unfold ar at h⊢
 grind
theorem vZ {t:Tok} (h:0<=ar t) (k:t.1=7):(0<=t.2.2.1/\t.2.2.1<=t.2.2.2)/\(1<=t.2.2.2/\t.2.2.2<=3):=by
 unfold ar at h
 grind
mutual
def flat:Tr Tok->List Tok
 | .nil=>[]
 | .node t ks=>eU ks++ [t]
def eU:List (Tr Tok)->List Tok
 | [] =>[]
 | k::ks=>flat k++eU ks
end
inductive WT:Tr Tok->Prop
 | node {t:Tok} {ks:List (Tr Tok)} :ar t=(ks.length:Int)->(∀k,k∈ks->WT k)->WT (.node t ks)
theorem jx: ∀(a b:List (Tr Tok)),eU (a++b)=eU a++eU b
 | [],b=>rfl
 | k::a,b=>by rw[List.cons_append,eU,eU,jx a b,ah]
theorem gm (x:Tr Tok):eU [x] =flat x:=by rw[eU,eU,List.append_nil]
theorem C6 (x y:Tr Tok):eU [x,y] =flat x++flat y:=by rw[eU,gm]
theorem WT.cases {x:Tr Tok} (h:WT x):(∃t,x= .node t [] /\ar t=0)\/(∃t a,x= .node t [a] /\ar t=1/\WT a)\/ ∃t a b,x= .node t [a,b] /\ar t=2/\WT a/\WT b:=by
 cases h with
 | @node t ks h1 h2 =>
  have:=(o8 t).2
  match ks,h1,h2 with
  | [],h1,h2=>exact .inl ⟨t,rfl,h1⟩
  | [a],h1,h2=>exact .inr (.inl ⟨t,a,rfl,h1,h2 a (by simp)⟩)
  | [a,b],h1,h2=>exact .inr (.inr ⟨t,a,b,rfl,h1,h2 a (by simp),h2 b (by simp)⟩)
  | _::_::_::_,h1,h2=>simp at h1;omega
theorem WT.ind {p:Tr Tok->Prop} (h0: ∀t,ar t=0->p (.node t [])) (h1: ∀t a,ar t=1->WT a->p a->p (.node t [a])) (h2: ∀t a b,ar t=2->WT a->WT b->p a->p b->p (.node t [a,b])) {x:Tr Tok} (h:WT x):p x:=by
 induction h with
 | @node t ks e k ih =>
  have:=(o8 t).2
  match ks,e,k,ih with
  | [],e,k,ih=>exact h0 t e
  | [a],e,k,ih=>exact h1 t a e (k a (by simp)) (ih a (by simp))
  | [a,b],e,k,ih=>exact h2 t a b e (k a (by simp)) (k b (by simp)) (ih a (by simp)) (ih b (by simp))
  | _::_::_::_,e,_,_=>simp at e;omega
theorem xI (t:Tok):flat (.node t [])= [t]:=by rw[flat,eU];rfl
theorem AE (t:Tok) (a:Tr Tok):flat (.node t [a])=flat a++ [t]:=by rw[flat,gm]
theorem oK (t:Tok) (a b:Tr Tok):flat (.node t [a,b])=(flat a++flat b)++ [t]:=by rw[flat,C6]
theorem WT.pos {x:Tr Tok} (h:WT x):1<=(flat x).length:=by
 cases h with
 | node h1 h2=>rw[flat];simp
def stp (s:List (Tr Tok)) (t:Tok):Option (List (Tr Tok)):=if ar t<0\/(s.length:Int)<ar t then none else some (s.take (s.length - (ar t).toNat)++ [.node t (s.drop (s.length - (ar t).toNat))])
def run:List (Tr Tok)->List Tok->Option (List (Tr Tok))
 | s,[] =>some s
 | s,t::l=>(stp s t).bind fun s'=>run s' l
theorem tT: ∀(a:List Tok) {b:List Tok} {s:List (Tr Tok)},run s (a++b)=(run s a).bind fun s'=>run s' b
 | [],b,s=>rfl
 | t::a,b,s=>by
  rw[List.cons_append,run,run]
  cases stp s t with
  | none=>rfl
  | some s'=>exact tT a
theorem o9 {a:List Tok} {t:Tok} {s:List (Tr Tok)} :run s (a++ [t])=(run s a).bind fun s'=>stp s' t:=by
 rw[tT]
 congr 1
 funext s'
 rw[run]
 cases stp s' t <;> rfl
theorem G9: ∀ {l:List Tok} {s s':List (Tr Tok)},run s l=some s'->(∀k,k∈s->WT k)->(∀k,k∈s'->WT k)/\eU s'=eU s++l
 | [],s,s',h,hs=>by
  obtain rfl:=aa h
  exact ⟨hs,by simp⟩
 | t::l,s,s',h,hs=>by
  rw[run] at h
  unfold stp at h
  by_cases c:ar t<0\/(s.length:Int)<ar t
  ·rw[if_pos c] at h;cases h
  ·rw[if_neg c] at h
   have hlen:(s.drop (s.length - (ar t).toNat)).length=(ar t).toNat:=by rw[aW];omega
   obtain ⟨k1,k2⟩:=G9 (show run _ l=some s' from h) fun k hk=>by
    rcases aB hk with hk | hk
    ·exact hs k (List.mem_of_mem_take hk)
    ·obtain rfl:=al hk
     exact .node (by rw[hlen];omega) fun k hk=>hs k (List.mem_of_mem_drop hk)
   refine ⟨k1,?_⟩
   rw[k2,jx,gm,flat,<-ah,<-jx,List.take_append_drop]
   simp
theorem FX {x:Tr Tok} (h:WT x): ∀s,run s (flat x)=some (s++ [x]):=by
 refine WT.ind (p:=fun x=> ∀s,run s (flat x)=some (s++ [x])) ?_ ?_ ?_ h
 ·intro t e s
  rw[xI,run,stp,if_neg (by omega),e]
  simp[run]
 ·intro t a e _ ia s
  rw[AE,o9,ia]
  show stp (s++ [a]) t=_
  rw[stp,if_neg (by simp;omega),e]
  simp
 ·intro t a b e _ _ ia ib s
  rw[oK,o9,tT,ia]
  show ((run (s++ [a]) (flat b)).bind fun s'=>stp s' t)=_
  rw[ib]
  show stp (s++ [a] ++ [b]) t=_
  rw[stp,if_neg (by simp;omega),e]
  have:(s++ [a] ++ [b]).length - (2:Int).toNat=s.length:=by simp
  rw[this]
  simp
def isX (e:List Tok):Bool:=match run [] e with
 | some [_] =>true
 | _=>false
theorem Ha {e:List Tok} (h:isX e=true): ∃x,run [] e=some [x] /\WT x/\flat x=e:=by
 unfold isX at h
 split at h
 ·rename_i x hx
  obtain ⟨k1,k2⟩:=G9 hx (fun k hk=>by cases hk)
  refine ⟨x,hx,k1 x (by simp),?_⟩
  rw[gm] at k2
  rw[k2];rfl
 ·cases h
theorem Jn {l:List Tok} : ∀ {s s':List (Tr Tok)},run s l=some s'->s'.length<=s.length+l.length:=by
 induction l with
 | nil=>intro s s' h;obtain rfl:=aa h;simp
 | cons t l ih =>
  intro s s' h
  rw[run] at h
  obtain ⟨s1,h1,h2⟩:=Option.bind_eq_some_iff.1 h
  have h3:=ih h2
  unfold stp at h1
  split at h1
  ·cases h1
  ·obtain rfl:=aa h1
   simp only[aw,aC,az,aG] at h3⊢
   omega
theorem v5 {e:List Tok} {i:Nat} (h:i<e.length):e.take (i+1)=e.take i++ [nth e (i:Int)]:=by
 rw[List.take_succ_eq_append_getElem h,bd h]
theorem zi {e:List Tok} {i:Nat} (h:i<e.length) {st:List (Tr Tok)} (h1:run [] (e.take i)=some st) (h2:stp st (nth e (i:Int))=none):run [] e=none:=by
 have:run [] (e.take (i+1))=none:=by rw[v5 h,o9,h1];exact h2
 rw[<-List.take_append_drop (i+1) e,tT,this];rfl
theorem FY {e:List Tok} (he:e.length<=1048576):lq e=some (isX e):=by
 obtain ⟨o,eo,hq⟩:=eh (f:=jI e) (fun i s=> ∃st,s=((st.length:Int),(i:Int))/\run [] (e.take i)=some st) (fun o=>(o= .ret false/\run [] e=none)\/ ∃st,o= .brk ((st.length:Int),(e.length:Int))/\run [] e=some st) e.length (s:=(0,0)) (by
  rintro i s hi ⟨st,rfl,hst⟩
  have hl:=Jn hst
  simp only[aG,aC] at hl
  unfold jI
  simp only[kd]
  by_cases c:i<e.length
  ·rw[if_pos (by simp;omega),aF (by omega) (by omega)];simp only[ae]
   rw[M2];simp only[ae]
   have hr:=o8 (nth e (i:Int))
   by_cases c1:ar (nth e (i:Int))<0
   ·refine .inr ⟨_,by rw[if_pos (by simpa using c1)],(fun s' e=>by cases e),.inl ⟨rfl,zi c hst ?_⟩⟩
    rw[stp,if_pos (.inl c1)]
   ·rw[if_neg (by simpa using c1)]
    by_cases c2:ar (nth e (i:Int))>(st.length:Int)
    ·refine .inr ⟨_,by rw[if_pos (by simpa using c2)],(fun s' e=>by cases e),.inl ⟨rfl,zi c hst ?_⟩⟩
     rw[stp,if_pos (.inr c2)]
    ·rw[if_neg (by simpa using c2)]
     refine .inl ⟨c,_,rfl,st.take (st.length - (ar (nth e (i:Int))).toNat)++ [.node (nth e (i:Int)) (st.drop (st.length - (ar (nth e (i:Int))).toNat))],?_,?_⟩
     ·rw[dh (n:=(st.length:Int) - ar (nth e (i:Int))) (by omega) (by omega),dh (by omega) (by omega),aM (by omega)]
      congr 1
      simp only[aw,aC,az,aG]
      omega
     ·rw[v5 c,o9,hst]
      show stp st _=_
      rw[stp,if_neg (by omega)]
  ·obtain rfl:i=e.length:=by omega
   rw[List.take_of_length_le (by omega)] at hst
   exact .inr ⟨_,by rw[if_neg (by simp)],(fun s' e=>by cases e),.inr ⟨st,rfl,hst⟩⟩) ⟨[],rfl,rfl⟩ (lD (by omega))
 unfold lq
 rcases hq with ⟨rfl,h⟩ | ⟨st,rfl,h⟩
 ·rw[dj eo];unfold isX;rw[h]
 ·rw[aJ eo];unfold isX;rw[h]
  match st with
  | [] =>rfl
  | [_] =>rfl
  | _::_::_=>simp;omega
def C7 (e:List Tok):Tr Tok:=match run [] e with
 | some [x] =>x
 | _=>.nil
theorem so {x:Tr Tok} (h:WT x):C7 (flat x)=x:=by unfold C7;rw[FX h];rfl
theorem xJ {e:List Tok} (he:e.length<=1048576):dJ e=some (decide (e.length<=24)&&isX e):=by
 unfold dJ
 rw[FY he]
 by_cases c:e.length<=24
 ·rw[if_pos (by simp;omega)];simp[c]
 ·rw[if_neg (by simp;omega)];simp[c]
theorem ix {p:Prop} [Decidable p] (h:p):chk p=some ():=by unfold chk;rw[if_pos h]
theorem Jo {A:List Tok} {x:Tr Tok} (hx:WT x) (hl:(A++flat x).length<=1000000):dK (A++flat x)=some (A.length:Int):=by
 obtain ⟨s',e,ks,q1,q2,q3⟩: ∃s',aO (fW (A++flat x)) bt (1,((A++flat x).length:Int))=some (.brk s')/\ ∃ks:List (Tr Tok),ks= [] /\s'.2=(A.length:Int)/\True:=by
  obtain ⟨o,eo,hq⟩:=eh (f:=fW (A++flat x)) (fun i s=> ∃ks:List (Tr Tok),(∀k,k∈ks->WT k)/\s=((ks.length:Int),(((A++eU ks).length:Nat):Int))/\i+(eU ks).length=(flat x).length/\(A++flat x).take (A++eU ks).length=A++eU ks) (fun o=> ∃s',o= .brk s'/\s'.2=(A.length:Int)) (flat x).length (s:=(1,((A++flat x).length:Int))) (by
   rintro i s hi ⟨ks,hw,rfl,hlen,htk⟩
   unfold fW
   simp only[kd]
   rcases List.eq_nil_or_concat ks with rfl | ⟨ks',y,rfl⟩
   ·refine .inr ⟨_,by rw[if_neg (by simp)],(fun s' e=>by cases e),_,rfl,?_⟩
    simp[eU]
   ·have hy:=hw y (by simp)
    cases hy with
    | @node t cs h1 h2 =>
     have hfl:eU (ks'++ [.node t cs])=eU (ks'++cs)++ [t]:=by rw[jx,gm,flat,jx,ah]
     rw[List.concat_eq_append,hfl] at hlen htk⊢
     simp only[aw,az,aG] at hlen htk hl⊢
     rw[if_pos (by simp <;> omega)]
     have hpos:IntKind.i64.wrap (((A.length+((eU (ks'++cs)).length+1):Nat):Int) - 1)=((A.length+(eU (ks'++cs)).length:Nat):Int):=by
      rw[dh (by omega) (by omega)];omega
     have hget:nth (A++flat x) ((A.length+(eU (ks'++cs)).length:Nat):Int)=t:=by
      have hlt:A.length+(eU (ks'++cs)).length<(A++flat x).length:=by rw[aw];omega
      have e1:=congrArg (fun l:List Tok=>l[A.length+(eU (ks'++cs)).length]?) htk
      rw[List.getElem?_take_of_lt (by omega),List.getElem?_eq_getElem hlt,<-ah,List.getElem?_append_right (by rw[aw];omega),aw] at e1
      rw[bd hlt]
      simpa using e1
     rw[hpos,aF (by omega) (by simp only[aw];omega),hget];simp only[ae]
     rw[M2,h1];simp only[ae]
     have hcl:(cs.length:Int)<=2:=by rw[<-h1];exact (o8 t).2
     have hkl:ks'.length<=(eU (ks'++cs)).length+1000000:=by
      have: ∀l:List (Tr Tok),(∀k,k∈l->WT k)->l.length<=(eU l).length:=by
       intro l
       induction l with
       | nil=>intro _;simp
       | cons k l ih =>
        intro h
        have h1:=(h k (by simp)).pos
        have h2:=ih fun k hk=>h k (by simp[hk])
        rw[eU];simp only[az,aw];omega
      have:=this ks' fun k hk=>hw k (by simp[hk])
      rw[jx,aw];omega
     refine .inl ⟨by omega,_,rfl,ks'++cs,fun k hk=>?_,?_,by omega,?_⟩
     ·rcases aB hk with hk | hk
      ·exact hw k (by simp[hk])
      ·exact h2 k hk
     ·rw[dh (n:=((ks'.length+1:Nat):Int) - 1) (by omega) (by omega),dh (by omega) (by omega)]
      congr 1
      (simp only[aw]) <;> omega
     ·have e1:=congrArg (List.take (A++eU (ks'++cs)).length) htk
      rw[List.take_take,Nat.min_eq_left (by rw[aw];omega),<-ah,List.take_left] at e1
      rw[aw] at e1
      exact e1) ⟨[x],fun k hk=>by (obtain rfl:=al hk;exact hx),by rw[gm];rfl,by rw[gm];omega,by rw[gm,List.take_length]⟩ (lD (by rw[aw] at hl;omega))
  obtain ⟨s',rfl,h2⟩:=hq
  exact ⟨s',eo,[],rfl,h2,trivial⟩
 unfold dK
 rw[aJ e,q2]
end D
end Go.Proofs.YtobhhnobjflbnaaGreat
