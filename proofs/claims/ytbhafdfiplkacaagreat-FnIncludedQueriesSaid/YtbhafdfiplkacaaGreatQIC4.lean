/- FnIncludedQueries: for every input the law returns true and changes nothing that was there. Part 5 of 8. -/
import Derived.Test.YtbhafdfiplkacaaGreatQIC3
set_option linter.unusedVariables false
set_option linter.unusedSimpArgs false
set_option linter.unnecessarySimpa false
set_option linter.unusedSectionVars false
set_option maxRecDepth 1000000
namespace Go.Proofs.YtbhafdfiplkacaaGreat
namespace R
open Go.RowKit
open D
def LA (i:Nat):(p:PM)->p.den->AV
 | .rd t,d=>JO i t d
 | .ow t,d=>Kc (jV i [] t d)
 | .fn a b,d=>.one (.fn ⟨i,[]⟩ a b d)
 | .cap T t,d=>.one (.fz ⟨i,[]⟩ T t d 0)
 | .capf T a b,d=>.one (.fzf ⟨i,[]⟩ T a b d)
 | .ptr _ _,_=>.one (.ptr ⟨i,[]⟩ 0)
 | .eat t,d=>Kc (jV i [] t d)
 | .fk g,_=>.one (.val (.func (.func g) #[] #[]))
 | .crs _ _,_=>.one (.ptr ⟨i,[]⟩ 0)
def GX (q i:Nat):(p:PM)->p.den->List (Hdr×Chk)
 | .ow t,d=>ky i [] t d
 | .ptr T t,d=>[(⟨i,[]⟩,.box T t d)]
 | .eat t,d=>ky i [] t d
 | .crs T E,d=>[(⟨i,[]⟩,.blk T [.rd ⟨q,[]⟩ (.sl E (.int .u8)) d.1,.val (.int .i64 d.2.1),.val (.int .i64 d.2.2)])]
 | _,_=>[]
def GY:(i:Nat)->(ps:List PM)->denP ps->List (Nat×Nat×AV)
 | _,[],_=>[]
 | i,p::ps,d=>(i,i,LA i p d.1)::GY (i+1) ps d.2
def Dm (q:Nat):(i:Nat)->(ps:List PM)->denP ps->List Ent
 | _,[],_=>[]
 | i,p::ps,d=>(GX q i p d.1).map (fun g=>(g.1,i,g.2))++Dm q (i+1) ps d.2
def vN (ps:List PM) (d:denP ps):Sg:=⟨GY 0 ps d,Dm ps.length 0 ps d,ps.length+1⟩
def XG (P:Program) (w0:World) (J:Hp) (θ:Th) (n i:Nat):(p:PM)->Value->p.den->Prop
 | .ow t,v,d=>(jV i [] t d).2.map (·.v θ)=iU t.isProd v/\ ∀x∈(jV i [] t d).2,x.ok P w0 J θ n
 | .ptr _ _,v,_=>hv θ ⟨i,[]⟩=v/\i<n
 | .crs _ _,v,_=>hv θ ⟨i,[]⟩=v/\i<n
 | _,_,_=>True
def StF (P:Program) (w0:World) (J:Hp) (θ:Th) (n:Nat):(i:Nat)->(ps:List PM)->List Value->denP ps->Prop
 | i,p::ps,v::vs,d=>XG P w0 J θ n i p v d.1/\StF P w0 J θ n (i+1) ps vs d.2
 | _,_,_,_=>True
section
variable {P:Program} {w0 w:World} {J:Hp} {θ:Th} {n:Nat} {C:List Ch}
theorem vO {id:Nat} {pre:List Nat} {t:Ty} {d:t.den} : ∀g∈ky id pre t d,NU g.2:=gD t d 0
theorem LB {p:PM} {i:Nat} {v:Value} {d:p.den} {ps:List PM} {vs:List Value} {e:denP ps} {γ:Value} {q:Nat} (hi:i<n) (hq:q<n) (hγ:θ q=γ) (hθ:θ i=v) (h:WD P w0 J γ p v d) (hS:St J w0 w (owCh γ (p::ps) (v::vs) (d,e)++C)) :
  (∀chs,(LA i p d).ok P w0 J θ n chs)/\(LA i p d).v θ=v/\St J w0 w ((GX q i p d).map (fun g=>toCh P θ (g.1,i,g.2))++(owCh γ ps vs e++C))/\(∀g∈GX q i p d,Sc P w0 J θ n g.2/\g.1.id=i)/\XG P w0 J θ n i p v d:=by
 cases p with
 | rd t =>
  obtain ⟨cs,h1,h2⟩:=h
  have hav:=fun chs=>oh (P:=P) (w0:=w0) (J:=J) (chs:=chs) hi hθ t d cs h2 h1
  exact ⟨fun chs=>(hav chs).1,(hav []).2,hS,fun g hg=>(by cases hg),trivial⟩
 | fn a b =>
  have hh:hv θ ⟨i,[]⟩=v:=hθ
  exact ⟨fun chs=>⟨hi,by rw[hh];exact h⟩,hh,hS,fun g hg=>(by cases hg),trivial⟩
 | cap T t =>
  obtain ⟨b,rfl,cells,h1,h2⟩:=h
  have hh:hv θ ⟨i,[]⟩= .pointer (some ⟨b,0,none⟩):=hθ
  refine ⟨fun chs=>⟨hi,cells,by rw[hh];exact h1,h2⟩,?_,hS,fun g hg=>(by cases hg),trivial⟩
  show Value.pointer (some ⟨bk (hv θ ⟨i,[]⟩),0,none⟩)=_
  rw[hh];rfl
 | capf T x y =>
  obtain ⟨b,rfl,u,h1,h2⟩:=h
  have hh:hv θ ⟨i,[]⟩= .pointer (some ⟨b,0,none⟩):=hθ
  refine ⟨fun chs=>⟨hi,u,by rw[hh];exact h1,h2⟩,?_,hS,fun g hg=>(by cases hg),trivial⟩
  show Value.pointer (some ⟨bk (hv θ ⟨i,[]⟩),0,none⟩)=_
  rw[hh];rfl
 | ptr T t =>
  obtain ⟨b,rfl⟩:=h
  have hh:hv θ ⟨i,[]⟩= .pointer (some ⟨b,0,none⟩):=hθ
  refine ⟨fun chs=>hi,?_,?_,fun g hg=>by obtain rfl:=al hg;exact ⟨.inl trivial,rfl⟩,hh,hi⟩
  ·show Value.pointer (some ⟨bk (hv θ ⟨i,[]⟩),0,none⟩)=_
   rw[hh];rfl
  ·show St J w0 w (Ch.box (bk (hv θ ⟨i,[]⟩)) T t.rep d::_)
   rw[hh];exact hS
 | ow t =>
  have hS:St J w0 w (Ch.own t.rep (iU t.isProd v) d::(owCh γ ps vs e++C)):=hS
  obtain ⟨k1,k2,k3,k4,k5⟩:=tG (P:=P) (m:=i) (pre:=[]) (id:=i) (n:=n) hi (show hv θ ⟨i,[]⟩=v from hθ) h hS
  have q:=fun chs=>A8 (P:=P) (w0:=w0) (J:=J) (θ:=θ) (n:=n) (chs:=chs) (jV i [] t d) (fun e=>pZ e) k1
  exact ⟨fun chs=>(q chs).1,(q []).2.trans k3,k5,fun g hg=>⟨.inl (vO g hg),k4 g hg⟩,k2,k1⟩
 | eat t =>
  have hS:St J w0 w (Ch.own t.rep (iU t.isProd v) d::(owCh γ ps vs e++C)):=hS
  obtain ⟨k1,k2,k3,k4,k5⟩:=tG (P:=P) (m:=i) (pre:=[]) (id:=i) (n:=n) hi (show hv θ ⟨i,[]⟩=v from hθ) h hS
  have q:=fun chs=>A8 (P:=P) (w0:=w0) (J:=J) (θ:=θ) (n:=n) (chs:=chs) (jV i [] t d) (fun e=>pZ e) k1
  exact ⟨fun chs=>(q chs).1,(q []).2.trans k3,k5,fun g hg=>⟨.inl (vO g hg),k4 g hg⟩,trivial⟩
 | fk g =>
  obtain rfl:=h
  exact ⟨fun chs=>rfl,rfl,hS,fun g hg=>(by cases hg),trivial⟩
 | crs T E =>
  obtain ⟨⟨b,rfl⟩,hrd⟩:=h
  have hh:hv θ ⟨i,[]⟩= .pointer (some ⟨b,0,none⟩):=hθ
  have hg0:hv θ ⟨q,[]⟩=γ:=hγ
  refine ⟨fun chs=>hi,?_,?_,fun g hg=>?_,hh,hi⟩
  ·show Value.pointer (some ⟨bk (hv θ ⟨i,[]⟩),0,none⟩)=_
   rw[hh];rfl
  ·show St J w0 w (Ch.blk (bk (hv θ ⟨i,[]⟩)) [hv θ ⟨q,[]⟩,.int .i64 d.2.1,.int .i64 d.2.2] T::_)
   rw[hh,hg0];exact hS
  ·obtain rfl:=al hg
   refine ⟨.inr ⟨_,_,rfl,fun z hz=>?_⟩,rfl⟩
   rcases az hz with rfl | hz
   ·exact ⟨hq,by rw[hg0];exact hrd⟩
   ·rcases az hz with rfl | hz
    ·exact Eq.refl true
    ·obtain rfl:=al hz
     exact Eq.refl true
theorem GZ {γ:Value} {q:Nat} (hq:q<n) (hγ:θ q=γ): ∀ {ps:List PM} {i:Nat} {vs:List Value} {d:denP ps} {C:List Ch},PArgs P w0 J γ ps vs d->(∀j v,vs[j]? =some v->θ (i+j)=v)->i+ps.length<=n->St J w0 w (owCh γ ps vs d++C)->
  (∀e∈GY i ps d,(∀chs,e.2.2.ok P w0 J θ n chs)/\i<=e.1/\e.2.1=e.1/\e.1<i+ps.length/\vs[e.1 - i]? =some (e.2.2.v θ))/\((GY i ps d).Pairwise fun a b=>a.2.1≠b.2.1)/\St J w0 w ((Dm q i ps d).map (toCh P θ)++C)/\(∀e∈Dm q i ps d,∀chs,okE P w0 J θ n chs e)/\StF P w0 J θ n i ps vs d
 | [],i,vs,d,C,h,_,_,hS=>by
  have h:vs= []:=h
  subst h
  exact ⟨fun e he=>(by cases he),List.Pairwise.nil,hS,fun e he=>(by cases he),trivial⟩
 | p::ps,i,vs,d,C,h,hθ,hn,hS=>by
  obtain ⟨v,r,rfl,h1,h3⟩:=h
  rw[au] at hn
  obtain ⟨a1,a2,a3,a4,a5⟩:=LB (n:=n) (i:=i) (θ:=θ) (e:=d.2) (show i<n by omega) hq hγ (hθ 0 v rfl) h1 hS
  obtain ⟨k1,k2,k3,k4,k5⟩:=GZ hq hγ (i:=i+1) h3 (fun j u hj=>by
   have:=hθ (j+1) u hj
   rwa [show i+(j+1)=i+1+j from by omega] at this) (by omega) (a3.perm (List.perm_append_comm_assoc _ _ _))
  refine ⟨fun e he=>?_,List.pairwise_cons.2 ⟨fun e he hh=>?_,k2⟩,?_,fun e he chs=>?_,a5,k5⟩
  ·rcases az he with rfl | he
   ·exact ⟨a1,aC _,rfl,by rw[au];show i<_;omega,by show (v::r)[i - i]? =_;rw[Nat.sub_self,a2];rfl⟩
   ·obtain ⟨q1,q2,q3,q4,q5⟩:=k1 e he
    refine ⟨q1,by omega,q3,by rw[au];omega,?_⟩
    rw[show e.1 - i=(e.1 - (i+1))+1 from by omega];exact q5
  ·have:=k1 e he
   have hh:i=e.2.1:=hh
   omega
  ·show St J w0 w (((GX q i p d.1).map _++Dm q (i+1) ps d.2).map (toCh P θ)++C)
   rw[aJ,List.map_map]
   refine k3.perm ?_
   rw[ak]
   exact List.perm_append_comm_assoc _ _ _
  ·rcases aH he with he | he
   ·obtain ⟨g,hg,rfl⟩:=List.mem_map.1 he
    obtain ⟨g1,g2⟩:=a4 g hg
    exact Bd g1 (aC _) (by omega) (by omega)
   ·exact k4 e he chs
theorem Dn {γ:Value} : ∀ {ps:List PM} {vs:List Value} {d:denP ps},PArgs P w0 J γ ps vs d->vs.length=ps.length
 | [],vs,d,h=>by
  have h:vs= []:=h
  subst h;rfl
 | p::ps,vs,d,h=>by
  obtain ⟨v,r,rfl,h1,h3⟩:=h
  simpa using Dn h3
end
def S5 (tt:TT) (s:Sg):ResultVar->Option AV
 | .tmp t=>look s.env t
 | .cell p T=>(Nf (look s.env p)).bind fun h=>(td tt T).bind fun d=>(sw h s.chs).bind fun b=>bU (Nat.beq b.cells.length d.n) (WB d.agg b.cells)
theorem S6 {v:Option AV} {h:Hdr} (k:Nf v=some h):v=some (.one (.ptr h 0)):=by
 unfold Nf at k
 split at k
 ·rename_i h' off
  split at k
  ·rename_i ho
   rw[aw ho,ae k]
  ·cases k
 ·cases k
section
variable {P:Program} {I:Hp} {w0 w:World} {F:Ch} {J:Hp} {θ:Th} {n:Nat} {s:Sg} {a:Act} {tt:TT}
theorem S7 (ha:Agr n a (envL θ s)) {t g:Nat} {T E:TypeId} {v:Value} {cs:List Ch} (h:(envL θ s).lookup t=some (.pointer (some ⟨g,0,none⟩))) (hs:St J w0 w cs) (i:Nat) (hi:cs[i]? =some (Ch.blk g [v] E)) (hT:TI P T false 1):Ej P a w (.cell t T) v:=by
 refine ⟨_,ha.2.2 t _ h,?_⟩
 have hg:=hs.heap i hi
 have hc:w.cell? ⟨g,0,none⟩=some v:=by simp[World.cell?,hg]
 simp[loadVar,Sem.run_bind,hT.run_agg,load,Sem.run,hc,Result.andThen]
theorem O5 (hT:TTok P tt) (hS:Sim P I w0 F n J θ s a w) {r:ResultVar} {v:AV} (h:S5 tt s r=some v):Ej P a w r (v.v θ)/\v.ok P w0 J θ s.nxt s.chs:=by
 cases r with
 | tmp t=>exact ⟨Rv hS.agr (fY h),bA (x:=.tmp t) hS.fine h⟩
 | cell p T =>
  obtain ⟨hh,h1,h⟩:=bind_some (show (Nf (look s.env p)).bind _=some v from h)
  obtain ⟨d,hd,h⟩:=bind_some h
  obtain ⟨b,hb,h⟩:=bind_some h
  obtain ⟨hl,h⟩:=aq h
  have hl:=aw hl
  have hp:=jT hb
  have hok:=hS.fine.chs _ (hp.mem_iff.2 (List.mem_cons_self ..))
  obtain ⟨k1,k2⟩:=J6 (chs:=s.chs) h hok.2.2
  refine ⟨?_,k1⟩
  have hlk:(envL θ s).lookup p=some (.pointer (some ⟨bk (hv θ hh),0,none⟩)):=fY (S6 h1)
  have hst:=hS.st.perm ((hp.map (toCh P θ)).append_right [F])
  have hti:=(hT.get hd).ti
  cases hagg:d.agg with
  | true =>
   rw[hagg] at k2 hti
   rw[<-k2]
   exact Nn hS.agr hlk hst 0 rfl hti (by rw[List.length_map];exact hl)
  | false =>
   rw[hagg] at k2 hti h
   have h1':d.n=1:=by
    have:=(hT.get hd).one
    rw[hagg] at this
    simpa using this
   obtain ⟨x,hx⟩:=List.length_eq_one_iff.1 (hl.trans h1')
   rw[h1'] at hti
   rw[hx] at k2
   rw[<-k2]
   have hst2:St J w0 w (Ch.blk (bk (hv θ hh)) [x.v θ] b.T::(b.rest.map (toCh P θ)++ [F])):=by
    have:(toCh P θ (b.ent hh))=Ch.blk (bk (hv θ hh)) (b.cells.map (·.v θ)) b.T:=rfl
    rw[hx] at this
    rw[<-show toCh P θ (b.ent hh)=Ch.blk (bk (hv θ hh)) [x.v θ] b.T from this]
    exact hst
   exact S7 hS.agr hlk hst2 0 rfl hti
end
def E6:(ts:List Ty)->List AV->List Ent->Option (iT ts×List Ent×List Ent)
 | [],[],chs=>some ((),[],chs)
 | t::ts,v::vs,chs=>bU (tJ v==t.isProd) ((jw v).bind fun cs=>(dz t cs chs).bind fun q=>bU q.cells.isEmpty ((E6 ts vs q.rest).bind fun r=>some ((q.d,r.1),q.used++r.2.1,r.2.2)))
 | _,_,_=>none
def ve:(ts:List Ty)->List Value->iT ts->List Ch
 | t::ts,v::vs,d=>Ch.own t.rep (iU t.isProd v) d.1::ve ts vs d.2
 | _,_,_=>[]
theorem Ad {P:Program} {w0:World} {J:Hp} {θ:Th} {n:Nat} {chs0:List Ent} : ∀ {ts:List Ty} {vs:List AV} {chs:List Ent} {r:iT ts×List Ent×List Ent},E6 ts vs chs=some r->(∀v∈vs,v.ok P w0 J θ n chs0)->
  chs.Perm (r.2.1++r.2.2)/\vs.length=ts.length/\nO J (r.2.1.map (toCh P θ)) (ve ts (vs.map (·.v θ)) r.1)/\ ∀(i:Nat) t v,ts[i]? =some t->vs[i]? =some v->nr (v.v θ)=t.isProd
 | [],[],chs,r,h,_=>by
  obtain rfl:=ae (show some _=some r from h)
  exact ⟨List.Perm.refl _,rfl,tw,fun i t v ht=>by simp at ht⟩
 | t::ts,v::vs,chs,r,h,hv'=>by
  obtain ⟨ha,h⟩:=aq (show bU (tJ v==t.isProd) _=some r from h)
  have ha:tJ v=t.isProd:=by simpa using ha
  obtain ⟨cs,hcs,h⟩:=bind_some h
  obtain ⟨q,hq,h⟩:=bind_some h
  obtain ⟨he,h⟩:=aq h
  obtain ⟨r',hr,h⟩:=bind_some h
  obtain rfl:=ae h
  obtain ⟨c1,c2⟩:=im hcs (hv' v (by simp))
  obtain ⟨p,cc,e1,e2⟩:=jx (J:=J) (θ:=θ) hq c1
  rw[List.isEmpty_iff.1 he,List.append_nil] at e1
  subst e1
  obtain ⟨k1,k2,k3,k4⟩:=Ad hr fun x hx=>hv' x (by simp[hx])
  have hcell:iU t.isProd (v.v θ)=cs.map (·.v θ)/\nr (v.v θ)=t.isProd:=by
   rw[<-ha]
   cases v with
   | agg xs =>
    obtain rfl:=ae (show some xs=some cs from hcs)
    exact ⟨rfl,rfl⟩
   | one x =>
    obtain rfl:=ae (show some [x] =some cs from hcs)
    refine ⟨rfl,?_⟩
    have h1:(x.v θ).oneCell'=true:=LV.one (show LV.ok P w0 J θ n x from hv' (.one x) (by simp))
    show nr (x.v θ)=false
    generalize x.v θ=u at h1
    cases u <;> first | rfl | cases h1
   | _=>cases hcs
  refine ⟨by rw[ak];exact p.trans (k1.append_left _),by rw[au,au,k2],?_,fun i t' v' ht hv0=>?_⟩
  ·show nO J ((q.used++r'.2.1).map _) (Ch.own t.rep (iU t.isProd (v.v θ)) q.d::ve ts (vs.map _) r'.1)
   rw[aJ,hcell.1]
   exact pX e2 k3
  ·cases i with
   | zero =>
    obtain rfl:t=t':=by simpa using ht
    obtain rfl:v=v':=by simpa using hv0
    exact hcell.2
   | succ i=>exact k4 i t' v' (by simpa using ht) (by simpa using hv0)
 | [],_::_,chs,r,h,_=>by cases h
 | _::_,[],chs,r,h,_=>by cases h
def Wq:List Value->Value
 | [v] =>v
 | vs=>.tuple vs.toArray
def G0 (P:Program) (a:Act) (w:World):List ResultVar->List Value->Prop
 | [],vs=>vs= []
 | r::rs,vs=> ∃v us,vs=v::us/\Ej P a w r v/\G0 P a w rs us
theorem vP {P:Program} {a:Act} {w:World} {f:ResultVar->Sem Value} (hf: ∀r v,Ej P a w r v->(f r).run P w= .ok v w): ∀ {l:List ResultVar} {vs:List Value},G0 P a w l vs->(l.mapM f).run P w= .ok vs w
 | [],vs,h=>by
  have h:vs= []:=h
  subst h
  rw[List.mapM_nil];rfl
 | r::l,vs,h=>by
  obtain ⟨v,us,rfl,h1,h2⟩:=h
  rw[List.mapM_cons,Sem.run_bind,hf r v h1]
  simp only[Result.andThen_ok,Sem.run_bind,vP hf h2]
  rfl
def Wr (a:Act) (r:ResultVar):Sem Value:=match r with
 | .tmp t=>pure (a.tmps.getD t undef)
 | .cell p t=>do loadVar t (<-asAddr (a.tmps.getD p undef))
theorem S8 {P:Program} {a:Act} {w:World} {r:ResultVar} {v:Value} (h:Ej P a w r v):(Wr a r).run P w= .ok v w:=by
 cases r with
 | tmp t =>
  have h:a.tmps.getD t undef=v:=h
  show (pure (a.tmps.getD t undef):Sem Value).run P w=_
  rw[h];rfl
 | cell p T =>
  obtain ⟨A,h1,h2⟩:=h
  show ((asAddr (a.tmps.getD p undef)) >>=fun x=>loadVar T x).run P w=_
  rw[h1,Sem.run_bind]
  show Result.andThen (.ok A w) _=_
  rw[Result.andThen_ok];exact h2
theorem U4 {P:Program} {n:Nat} {a:Act} {w:World} {L:List (Nat×Value)} {fn:Func} {R:Ending->World->Prop} {vs:List Value} (ha:Agr n a L) (h:G0 P a w fn.results.toList vs) (hR:R (.returned (Wq vs)) w):bodyPost P fn R .ret a w:=by
 refine ⟨ha.1,Wq vs,?_,hR⟩
 have hr:((fn.results.mapM (Wr a)):Sem (Array Value)).run P w= .ok vs.toArray w:=by
  rw[Array.mapM_eq_mapM_toList]
  have:=vP (f:=Wr a) (fun r v=>S8) h
  simp[this,Sem.run_map]
 show ((fn.results.mapM (Wr a)) >>=fun vs=>pure (if h:vs.size=1 then vs[0] else .tuple vs):Sem Value).run P w=_
 rw[Sem.run_bind,hr,Result.andThen_ok]
 match vs with
 | [] =>rfl
 | [v] =>rfl
 | _::_::_=>rfl
def eO (g0:Nat):(i:Nat)->(ps:List PM)->denP ps->List Ent->Option (iT (outs ps)×List Ent×List Ent)
 | _,[],_,chs=>some ((),[],chs)
 | i,.ow t::ps,d,chs=>(dz t (jV i [] t d.1).2 chs).bind fun q=>bU q.cells.isEmpty ((eO g0 (i+1) ps d.2 q.rest).bind fun r=>some ((q.d,r.1),q.used++r.2.1,r.2.2))
 | i,.ptr T t::ps,d,chs=>(xu ⟨i,[]⟩ T t chs).bind fun q=>(eO g0 (i+1) ps d.2 q.2.2).bind fun r=>some ((q.1,r.1),q.2.1++r.2.1,r.2.2)
 | i,.rd _::ps,d,chs=>eO g0 (i+1) ps d.2 chs
 | i,.fn _ _::ps,d,chs=>eO g0 (i+1) ps d.2 chs
 | i,.eat _::ps,d,chs=>eO g0 (i+1) ps d.2 chs
 | i,.cap _ _::ps,d,chs=>eO g0 (i+1) ps d.2 chs
 | i,.capf _ _ _::ps,d,chs=>eO g0 (i+1) ps d.2 chs
 | i,.fk _::ps,d,chs=>eO g0 (i+1) ps d.2 chs
 | i,.crs T E::ps,d,chs=>(sA ⟨i,[]⟩ T E chs).bind fun q=>bU (Hdr.beq q.g ⟨g0,[]⟩) ((eO g0 (i+1) ps d.2 q.rest).bind fun r=>some ((q.d.2,r.1),q.ent::r.2.1,r.2.2))
theorem eY {P:Program} {w0:World} {J J':Hp} {θ θ':Th} {n n':Nat} {chs0:List Ent} (hJ:J.le J') (hs:Same n θ θ') {γ:Value} {g0:Nat} (hg0:g0<n) (hγ:θ g0=γ): ∀ {ps:List PM} {i:Nat} {d:denP ps} {chs:List Ent} {vs:List Value} {r:iT (outs ps)×List Ent×List Ent},eO g0 i ps d chs=some r->vs.length=ps.length->StF P w0 J θ n i ps vs d->(∀e∈chs,okE P w0 J' θ' n' chs0 e)->
  chs.Perm (r.2.1++r.2.2)/\nO J' (r.2.1.map (toCh P θ')) (outCh γ ps vs r.1)
 | [],i,d,chs,vs,r,h,_,_,_=>by
  obtain rfl:=ae (show some _=some r from h)
  exact ⟨List.Perm.refl _,tw⟩
 | p::ps,i,d,chs,[],r,h,hl,_,_=>by cases hl
 | .ow t::ps,i,d,chs,v::vs,r,h,hl,hF,hc=>by
  obtain ⟨q,hq,h⟩:=bind_some (show (dz t (jV i [] t d.1).2 chs).bind _=some r from h)
  obtain ⟨he,h⟩:=aq h
  obtain ⟨r',hr,h⟩:=bind_some h
  obtain rfl:=ae h
  obtain ⟨⟨k1,k2⟩,k3⟩:=hF
  obtain ⟨p,cc,e1,e2⟩:=jx (P:=P) (w0:=w0) (J:=J') (θ:=θ') (n:=n) hq fun x hx=>LV.ok_same hs (aC _) (k2 x hx) hJ
  rw[List.isEmpty_iff.1 he,List.append_nil] at e1
  subst e1
  rw[gi hs k2,k1] at e2
  obtain ⟨q1,q2⟩:=eY hJ hs hg0 hγ hr (by simpa using hl) k3 fun e he=>hc e (p.mem_iff.2 (by simp[he]))
  refine ⟨by rw[ak];exact p.trans (q1.append_left _),?_⟩
  show nO J' ((q.used++r'.2.1).map _) (Ch.own t.rep (iU t.isProd v) q.d::outCh γ ps vs r'.1)
  rw[aJ]
  exact pX e2 q2
 | .ptr T t::ps,i,d,chs,v::vs,r,h,hl,hF,hc=>by
  obtain ⟨q,hq,h⟩:=bind_some (show (xu ⟨i,[]⟩ T t chs).bind _=some r from h)
  obtain ⟨r',hr,h⟩:=bind_some h
  obtain rfl:=ae h
  obtain ⟨⟨k1,k2⟩,k3⟩:=hF
  obtain ⟨p,hb⟩:=zP (P:=P) (w0:=w0) (J:=J') (J':=J') (θ:=θ') hq Hp.le.rfl hc
  obtain ⟨q1,q2⟩:=eY hJ hs hg0 hγ hr (by simpa using hl) k3 fun e he=>hc e (p.mem_iff.2 (by simp[he]))
  refine ⟨by rw[ak];exact p.trans (q1.append_left _),?_⟩
  show nO J' ((q.2.1++r'.2.1).map _) (Ch.box (bk v) T t.rep q.1::outCh γ ps vs r'.1)
  rw[aJ]
  have hh:hv θ' ⟨i,[]⟩=v:=(a7 hs (show (⟨i,[]⟩:Hdr).id<n from k2)).trans k1
  rw[hh] at hb
  intro w F hsp
  obtain ⟨G,K,rfl,h1,h2⟩:=hsp.split
  exact ⟨G,K,rfl,hb w G h1,q2 w K h2⟩
 | .rd t::ps,i,d,chs,v::vs,r,h,hl,hF,hc=>eY (ps:=ps) hJ hs hg0 hγ (show eO g0 (i+1) ps d.2 chs=some r from h) (by simpa using hl) hF.2 hc
 | .fn _ _::ps,i,d,chs,v::vs,r,h,hl,hF,hc=>eY (ps:=ps) hJ hs hg0 hγ (show eO g0 (i+1) ps d.2 chs=some r from h) (by simpa using hl) hF.2 hc
 | .eat _::ps,i,d,chs,v::vs,r,h,hl,hF,hc=>eY (ps:=ps) hJ hs hg0 hγ (show eO g0 (i+1) ps d.2 chs=some r from h) (by simpa using hl) hF.2 hc
 | .cap _ _::ps,i,d,chs,v::vs,r,h,hl,hF,hc=>eY (ps:=ps) hJ hs hg0 hγ (show eO g0 (i+1) ps d.2 chs=some r from h) (by simpa using hl) hF.2 hc
 | .capf _ _ _::ps,i,d,chs,v::vs,r,h,hl,hF,hc=>eY (ps:=ps) hJ hs hg0 hγ (show eO g0 (i+1) ps d.2 chs=some r from h) (by simpa using hl) hF.2 hc
 | .fk _::ps,i,d,chs,v::vs,r,h,hl,hF,hc=>eY (ps:=ps) hJ hs hg0 hγ (show eO g0 (i+1) ps d.2 chs=some r from h) (by simpa using hl) hF.2 hc
 | .crs T E::ps,i,d,chs,v::vs,r,h,hl,hF,hc=>by
  obtain ⟨q,hq,h⟩:=bind_some (show (sA ⟨i,[]⟩ T E chs).bind _=some r from h)
  obtain ⟨hb,h⟩:=aq h
  obtain ⟨r',hr,h⟩:=bind_some h
  obtain rfl:=ae h
  obtain ⟨⟨k1,k2⟩,k3⟩:=hF
  obtain ⟨p,ver,he⟩:=me hq
  obtain ⟨q1,q2⟩:=eY hJ hs hg0 hγ hr (by simpa using hl) k3 fun e he=>hc e (p.mem_iff.2 (by simp[he]))
  refine ⟨p.trans (q1.cons _),?_⟩
  have hh:hv θ' ⟨i,[]⟩=v:=(a7 hs (show (⟨i,[]⟩:Hdr).id<n from k2)).trans k1
  have hg:hv θ' q.g=γ:=by
   rw[Hdr.beq_eq hb]
   show vg (θ' g0) [] =γ
   rw[hs g0 hg0,hγ];rfl
  show nO J' (toCh P θ' q.ent::r'.2.1.map _) (Ch.blk (bk v) [γ,.int .i64 q.d.2.1,.int .i64 q.d.2.2] T::outCh γ ps vs r'.1)
  rw[he]
  intro w F hsp
  obtain ⟨G,K,rfl,h1,h2⟩:=hsp
  have h1:(Ch.blk (bk (hv θ' ⟨i,[]⟩)) [hv θ' q.g,.int .i64 q.d.2.1,.int .i64 q.d.2.2] T).holds J' w G:=h1
  rw[hh,hg] at h1
  exact ⟨G,K,rfl,h1,q2 w K h2⟩
def ofH:(ts:List Ty)->iT ts->dens ts
 | [],_=>()
 | [_],d=>d.1
 | _::u::ts,d=>(d.1,ofH (u::ts) d.2)
theorem E7: ∀(ts:List Ty) (d:iT ts),toH ts (ofH ts d)=d
 | [],_=>rfl
 | [_],_=>rfl
 | _::u::ts,d=>congrArg (Prod.mk d.1) (E7 (u::ts) d.2)
def Cf:(ts us:List Ty)->iT ts->iT us->iT (ts++us)
 | [],_,_,e=>e
 | _::ts,us,d,e=>(d.1,Cf ts us d.2 e)
theorem Bz: ∀(ts us:List Ty) (d:iT ts) (e:iT us),hFst ts us (Cf ts us d e)=d
 | [],_,_,_=>rfl
 | _::ts,us,d,e=>congrArg (Prod.mk d.1) (Bz ts us d.2 e)
theorem G5: ∀(ts us:List Ty) (d:iT ts) (e:iT us),hSnd ts us (Cf ts us d e)=e
 | [],_,_,_=>rfl
 | _::ts,us,d,e=>G5 ts us d.2 e
def xT (tt:TT) (s:Sg):List ResultVar->Option (List AV)
 | [] =>some []
 | r::rs=>(S5 tt s r).bind fun v=>(xT tt s rs).bind fun vs=>some (v::vs)
def E8 (s:Sg):List AV->List Hdr
 | [] =>[]
 | v::vs=>xI v++E8 s vs
def wO:List Ent->List Hdr
 | [] =>[]
 | e::l=>match e.2.2 with
  | .hole _ _ _ _ _ _ _ _ _ _=>e.1::wO l
  | _=>wO l
def U5:List AV->List (Bool×Hdr)
 | [] =>[]
 | v::vs=>XE true v++U5 vs
def Do (tr:Trs) (vs:List AV) (s:Sg):Sg:=match tr with
 | [] =>s
 | _=>Ob tr (U5 vs) s
def O6 (tr:Trs) (vs:List AV) (s0:Sg):Sg:=match Do tr vs s0 with
 | s=>tO (E8 s0 vs++wO s.chs) s
def nlN:List AV->(ts:List Ty)->iT ts->Int
 | [.one (.own _)],[.sl _ t],d=>((List.length (α:=t.den) d.1:Nat):Int)
 | [.one (.val v)],[.sl _ _],_=>match isNil v with
  | true=>1
  | false=>0
 | _,_,_=>0
def U6 (an:List (Nat×Ty)) (vs:List AV) (ts:List Ty) (d:iT ts):Option Unit:=match xH 1000000 an with
 | true=>chk (0<nlN vs ts d)
 | false=>some ()
theorem U7 {vs:List AV} {ts:List Ty} {d:iT ts} {θ:Th} (h:0<nlN vs ts d) {v:Value} (hv:vs.map (·.v θ)= [v]):vF ts d v:=by
 unfold nlN at h
 split at h
 ·intro h0
  omega
 ·split at h
  ·rename_i h1
   intro _
   have:=lU h1
   subst this
   simpa [AV.v,LV.v] using hv.symm
  ·omega
 ·omega
def Iw (V:Env) (rvs:List ResultVar) (rs:List Ty) (ps:List PM) (d:denP ps) (s00:Sg):Option (dens (rs++outs ps)):=(xT V.tt s00 rvs).bind fun vs00=>Oj vs00 s00 fun s0=>(xT V.tt s0 rvs).bind fun vs0=>match O6 V.tr vs0 s0 with
 | s=>(xT V.tt s rvs).bind fun vs=>(E6 rs vs s.chs).bind fun r=>(eO ps.length 0 ps d r.2.2).bind fun o=>(U6 V.an vs rs r.1).bind fun _=>some (ofH _ (Cf rs (outs ps) r.1 o.1))
end R
namespace R
open Go.RowKit
open D
theorem Ae {vs:List Value} : ∀ {ts:List Ty} {i:Nat} {us:List Value} {d:iT ts},us.length=ts.length->(∀j v,us[j]? =some v->vs[i+j]? =some v)->tz i ts d (.tuple vs.toArray)=ve ts us d
 | [],i,us,d,h,_=>by
  cases us with
  | nil=>rfl
  | cons _ _=>cases h
 | t::ts,i,[],d,h,_=>by cases h
 | t::ts,i,u::us,d,h,k=>by
  have h0:vg (.tuple vs.toArray) [i] =u:=by
   show vs.toArray.getD i undef=u
   have:=k 0 u rfl
   rw[Nat.add_zero] at this
   simp[Array.getD_eq_getD_getElem?,this]
  show Ch.own t.rep (iU t.isProd (vg (.tuple vs.toArray) [i])) d.1::tz (i+1) ts d.2 _=Ch.own t.rep (iU t.isProd u) d.1::ve ts us d.2
  rw[h0,Ae (us:=us) (by simpa using h) fun j v hj=>by
   have:=k (j+1) v (by simpa using hj)
   rwa [show i+(j+1)=i+1+j from by omega] at this]
theorem Ix {ts:List Ty} {vs:List Value} {d:iT ts} (h:vs.length=ts.length):resGv ts d (Wq vs)=ve ts vs d:=by
 match ts,vs,d,h with
 | [],[],d,_=>rfl
 | [t],[v],d,_=>rfl
 | t::u::ts,v::w::vs,d,h =>
  show tz 0 _ d (.tuple (v::w::vs).toArray)=_
  exact Ae h fun j x hj=>by rw[Nat.zero_add];exact hj
theorem O7 {ts:List Ty} {vs:List Value} (h:vs.length=ts.length) (k: ∀(i:Nat) t v,ts[i]? =some t->vs[i]? =some v->nr v=t.isProd):resFa ts (Wq vs):=by
 match ts,vs,h with
 | [],[],_=>exact ⟨#[],rfl,rfl,fun i t ht=>by simp at ht⟩
 | [t],[v],_=>exact k 0 t v rfl rfl
 | t::u::ts,v::w::vs,h =>
  refine ⟨(v::w::vs).toArray,rfl,by simpa using h,fun i t' ht=>?_⟩
  have hlt:i<(v::w::vs).length:=by rw[h];exact (List.getElem?_eq_some_iff.1 ht).1
  have:=k i t' ((v::w::vs)[i]) ht (List.getElem?_eq_getElem hlt)
  rw[<-this,Array.getD_eq_getD_getElem?,List.getElem?_toArray,List.getElem?_eq_getElem hlt];rfl
theorem tS {P:Program} {I:Hp} {w0 w:World} {F:Ch} {J:Hp} {θ:Th} {n:Nat} {s:Sg} {a:Act} {tt:TT} (hT:TTok P tt) (hS:Sim P I w0 F n J θ s a w): ∀ {rs:List ResultVar} {vs:List AV},xT tt s rs=some vs->G0 P a w rs (vs.map (·.v θ))/\ ∀v∈vs,v.ok P w0 J θ s.nxt s.chs
 | [],vs,h=>by
  obtain rfl:=ae (show some [] =some vs from h)
  exact ⟨rfl,fun v hv=>by cases hv⟩
 | r::rs,vs,h=>by
  obtain ⟨v,hv',h⟩:=bind_some (show (S5 tt s r).bind _=some vs from h)
  obtain ⟨us,hus,h⟩:=bind_some h
  obtain rfl:=ae h
  obtain ⟨k1,k2⟩:=O5 hT hS hv'
  obtain ⟨q1,q2⟩:=tS hT hS hus
  refine ⟨⟨_,_,rfl,k1,q1⟩,fun x hx=>?_⟩
  rcases az hx with rfl | hx
  ·exact k2
  ·exact q2 x hx
theorem LC {J:Hp} {a b c d:List Ch} (h:nO J a b) (k:nO J c d):nO J (a++c) (b++d):=fun w F hs=>by
 obtain ⟨G,K,rfl,e1,e2⟩:=hs.split
 exact (h w G e1).append (k w K e2)
theorem St.sepTo {J:Hp} {w0 w:World} {a b C:List Ch} (h:St J w0 w (a++C)) (k:nO J a b):St J w0 w (b++C):=by
 obtain ⟨h1,h2,F,h3,h4,h5⟩:=h
 obtain ⟨G,K,rfl,e1,e2⟩:=h3.split
 exact ⟨h1,h2,G++K,(k w G e1).append e2,h4,h5⟩
theorem vf {P:Program} {n:Nat} {I:Hp} {w0:World} {k:FuncId} {fn:Func} {c:Code} {args:Array Value} {rn:List Ch} {fact:Value->Prop} {gv:Value->List Ch} (L:List (Nat×Value)) (hf:P.funcs[k]? =some fn) (hb:fn.body=some c) (hn:fn.ntmps=n) (hm:args.size<=n) (hL: ∀p∈L,args[p.1]? =some p.2)
  (h: ∀F w a,Agr n a L->St I w0 w (rn++ [F])->c.wp P (bodyPost P fn fun e w'=> ∃v,e= .returned v/\fact v/\ ∃J,I.le J/\St J w0 w' (gv v++ [F])) a w) (hd: ∀v,Ch.back (gv v)):Con P k args I w0 rn fact gv:=by
 intro w C hs
 have hs':St I w0 w (rn++ [Ch.fr I C]):=by
  obtain ⟨hb,hi,F,h1,h2,h3⟩:=hs
  obtain ⟨G,K,rfl,e1,e2⟩:=h1.split
  exact ⟨hb,hi,G++K,e1.append ⟨K,[],by simp,e2,rfl⟩,h2,h3⟩
 have:=h (Ch.fr I C) w { tmps:=args++Array.replicate (fn.ntmps - args.size) undef,defers:=[] } (Agr.start L (by omega) hL) hs'
 refine (calls_of_wp hf hb this).mono ?_
 rintro e w' ⟨v,rfl,hv,J,hJ,hs⟩
 exact ⟨v,rfl,hv,hs.back hJ (hd v)⟩
theorem O8 {P:Program} {I:Hp} {w0 w:World} {F:Ch} {n:Nat} {J:Hp} {θ:Th} {s:Sg} {a:Act} {tr:Trs} {vs:List AV} (hS:Sim P I w0 F n J θ s a w): ∃J' θ',J.le J'/\Sim P I w0 F n J' θ' (O6 tr vs s) a w/\Fr s θ (O6 tr vs s) θ':=by
 have key: ∃J' θ',J.le J'/\Sim P I w0 F n J' θ' (Do tr vs s) a w/\Fr s θ (Do tr vs s) θ':=by
  unfold Do
  split
  ·exact ⟨J,θ,Hp.le.rfl,hS,Fr.rfl⟩
  ·exact sC hS
 obtain ⟨J',θ',h1,h2,h3⟩:=key
 obtain ⟨S2,F2⟩:=qW (V:=⟨[],[],[],n,[]⟩) (hs:=E8 s vs++wO (Do tr vs s).chs) h2
 exact ⟨J',θ',h1,S2,h3.trans F2⟩
theorem QI {V:Env} {P:Program} {w0:World} {F:Ch} {J:Hp} {θ:Th} (hT:TTok P V.tt) {fn:Func} {rs:List Ty} {ps:List PM} {d:denP ps} {vs:List Value} {s0:Sg} (k0:vs.length=ps.length) (k5:StF P w0 J θ (ps.length+1) 0 ps vs d) (hn0:ps.length+1<=s0.nxt) {γ:Value} (hγ:θ ps.length=γ): ∀r J' θ' s' a' w',Iw V fn.results.toList rs ps d s'=some r->Sim P J w0 F V.n J' θ' s' a' w'->J.le J'->Fr s0 θ s' θ'->
  bodyPost P fn (fun e w'=> ∃v,e= .returned v/\(resFa rs v/\(xH 1000000 V.an=true->vF rs (hFst rs (outs ps) (toH _ r)) v))/\ ∃J2,J.le J2/\St J2 w0 w' ((resGv rs (hFst rs (outs ps) (toH _ r)) v++outCh γ ps vs (hSnd rs (outs ps) (toH _ r)))++ [F])) .ret a' w':=by
 intro r J' θ' s' a' w' hrt hS' hJ hFr
 obtain ⟨vs00,hv00,hrt⟩:=bind_some (show (xT V.tt s' fn.results.toList).bind _=some r from hrt)
 obtain ⟨s0',hrt,S0,N0⟩:=GH hrt (tS hT hS' hv00).2 hS'
 obtain ⟨vs0,hv0,hrt⟩:=bind_some hrt
 obtain ⟨J1,θ1,hJ1,S1,F1⟩:=O8 (tr:=V.tr) (vs:=vs0) S0
 generalize O6 V.tr vs0 s0'=s1 at hrt S1 F1
 have hle:s0.nxt<=s'.nxt:=hFr.1
 have hsame:Same (ps.length+1) θ θ1:=fun i hi=>(F1.same i (by omega)).trans (hFr.same i (by omega))
 replace hJ:=hJ.trans hJ1
 clear hJ1 F1 hS' S0 hFr
 revert J1 θ1
 clear J' θ'
 intro J' θ' S1 hsame hJ
 obtain ⟨us,hus,hrt⟩:=bind_some hrt
 obtain ⟨q,hq,hrt⟩:=bind_some hrt
 obtain ⟨o,ho,hrt⟩:=bind_some hrt
 obtain ⟨u0,hnl,hrt⟩:=bind_some hrt
 obtain rfl:=ae hrt
 obtain ⟨r1,r2⟩:=tS hT S1 hus
 obtain ⟨t1,t2,t3,t4⟩:=Ad (J:=J') (θ:=θ') hq r2
 obtain ⟨o1,o2⟩:=eY (P:=P) (J:=J) (J':=J') (θ:=θ) (θ':=θ') (vs:=vs) (n:=ps.length+1) (n':=s1.nxt) (chs0:=s1.chs) hJ hsame (aB _) hγ ho k0 k5 fun e he=>S1.fine.chs e (t1.mem_iff.2 (by simp[he]))
 have hl:(us.map (·.v θ')).length=rs.length:=by rw[List.length_map];exact t2
 refine U4 S1.agr r1 ⟨_,rfl,⟨O7 hl fun i t v ht hv1=>?_,fun han=>?_⟩,J',hJ,?_⟩
 ·rw[List.getElem?_map] at hv1
  obtain ⟨x,hx,rfl⟩:=Option.map_eq_some_iff.1 hv1
  exact t4 i t x ht hx
 ·rw[E7,Bz]
  unfold U6 at hnl
  rw[han] at hnl
  have hnl:0<nlN us rs q.1:=bO hnl
  rcases us with _ | ⟨x,us⟩
  ·cases hnl
  ·cases us with
   | nil=>exact U7 (θ:=θ') hnl rfl
   | cons y us=>unfold nlN at hnl;split at hnl <;> first | omega | simp_all
 ·rw[E7,Bz,G5,Ix hl]
  have hp:=t1.trans (o1.append_left _)
  have h1:=S1.st.perm ((hp.map (toCh P θ')).append_right [F])
  have h2:St J' w0 w' ((q.2.1.map (toCh P θ')++o.2.1.map (toCh P θ'))++(o.2.2.map (toCh P θ')++ [F])):=by
   simpa [aJ,ak] using h1
  have h3:=St.sepTo h2 (LC t3 o2)
  refine St.left (ds:=o.2.2.map (toCh P θ')) (h3.perm ?_)
  simp only[ak]
  exact List.Perm.append_left _ (List.Perm.append_left _ List.perm_append_comm)
theorem E9 {V:Env} {P:Program} (hT:TTok P V.tt) (hF:FTok P V.ft) (hmx:P.follows .mixedOrders=true) {k:FuncId} {fn:Func} {c:Code} {f:FS} (hf:P.funcs[k]? =some fn) (hb:fn.body=some c) (hn:fn.ntmps=V.n) (hen:Enters P k) (hm:f.ps.length<=V.n) (hdp:(Be f.rs&&wm f.ps)=true) (ann:Ann)
  (hmod: ∀d,appP f.ps f.m d=iX V (Iw V fn.results.toList f.rs f.ps d) c ann (fun r=>some r) (fun _ _=>none) (Iw V fn.results.toList f.rs f.ps d) (oY (vN f.ps d))): ∀w0 J γ vs (d:denP f.ps) r,Lay P J->PArgs P w0 J γ f.ps vs d->appP f.ps f.m d=some r->Con P k vs.toArray J w0 (owCh γ f.ps vs d) (fun v=>resFa f.rs v/\(xH 1000000 V.an=true->vF f.rs (hFst f.rs (outs f.ps) (toH _ r)) v)) (fun v=>resGv f.rs (hFst f.rs (outs f.ps) (toH _ r)) v++outCh γ f.ps vs (hSnd f.rs (outs f.ps) (toH _ r))):=by
 rw[ah] at hdp
 intro w0 J γ vs d r hlay ha hr
 rw[hmod] at hr
 have k0:=Dn ha
 let θ:Th:=fun i=>if i=vs.length then γ else vs.getD i undef
 have hθ: ∀j v,vs[j]? =some v->θ (0+j)=v:=fun j v hj=>by
  show (if 0+j=vs.length then γ else vs.getD (0+j) undef)=v
  rw[Nat.zero_add,if_neg (Nat.ne_of_lt (List.getElem?_eq_some_iff.1 hj).1),List.getD_eq_getElem?_getD,hj];rfl
 have hθg:θ f.ps.length=γ:=by
  show (if f.ps.length=vs.length then γ else _)=γ
  rw[if_pos k0.symm]
 have hzip: ∀p∈(vs.zipIdx.map fun q=>(q.2,q.1)),vs.toArray[p.1]? =some p.2:=fun p hp=>by
  obtain ⟨q,hq,rfl⟩:=List.mem_map.1 hp
  obtain ⟨v,j⟩:=q
  have:=(List.mk_mem_zipIdx_iff_getElem? (x:=v) (i:=j)).1 hq
  simpa using this
 refine vf (n:=V.n) (vs.zipIdx.map fun q=>(q.2,q.1)) hf hb hn (by rw[List.size_toArray,k0];exact hm) hzip (fun F w a hA hst=>?_) (fun v=>uV (eH _ _ _ hdp.2) _ _ hdp.1)
 ·obtain ⟨k1,k2,k3,k4,k5⟩:=GZ (n:=f.ps.length+1) (q:=f.ps.length) (C:=[F]) (aB _) hθg ha hθ (by omega) hst
  have hfine:Fine P w0 J θ (vN f.ps d):=⟨fun e he=>(k1 e he).1 _,fun e he=>by have:=k1 e he;show e.2.1<f.ps.length+1;omega,k2,fun e he=>k4 e he _,hlay⟩
  have hA':Agr V.n a (envL θ (vN f.ps d)):=hA.pick _ fun p hp=>by
   obtain ⟨e,he,rfl⟩:=List.mem_map.1 hp
   have h5:=(k1 e he).2.2.2.2
   rw[Nat.sub_zero] at h5
   have key: ∀(l:List Value) (k:Nat) (i:Nat) (v:Value),k<=i->l[i - k]? =some v->((l.zipIdx k).map fun q=>(q.2,q.1)).lookup i=some v:=by
    intro l
    induction l with
    | nil=>intro k i v _ h;simp at h
    | cons x l ih =>
     intro k i v hk h
     simp only[List.zipIdx_cons,List.map_cons,List.lookup_cons]
     by_cases e:i=k
     ·subst e
      simp at h
      simp[h]
     ·have:(i==k)=false:=by simpa using e
      rw[this]
      refine ih (k+1) i v (by omega) ?_
      rw[show i - k=(i - (k+1))+1 from by omega] at h
      simpa using h
   exact key vs 0 e.1 _ (Nat.zero_le _) h5
  have hS:Sim P J w0 F V.n J θ (vN f.ps d) a w:=⟨Hp.le.rfl,hA',k3,hfine⟩
  have fin:=QI (rs:=f.rs) (fn:=fn) (F:=F) hT k0 k5 (aC (vN f.ps d).nxt) hθg
  obtain ⟨θ0,hS0,hFr0⟩:=wH hS
  exact (sF (I:=J) (w0:=w0) (F:=F) hT hF hmx c).1 ann hr hS0 (fun J' θ' s' a' w' hk S' hJ hFr=>fin r J' θ' s' a' w' hk S' hJ (hFr0.trans hFr)) (fun i J' θ' s' a' w' hk=>by cases hk) (fun r' J' θ' s' a' w' hrt hrr hS' hJ hFr=>by
   obtain rfl:=ae hrr
   exact fin _ J' θ' s' a' w' hrt hS' hJ (hFr0.trans hFr))
theorem fok {V:Env} {P:Program} (hT:TTok P V.tt) (hF:FTok P V.ft) (hmx:P.follows .mixedOrders=true) {k:FuncId} {fn:Func} {c:Code} {f:FS} (hf:P.funcs[k]? =some fn) (hb:fn.body=some c) (hn:fn.ntmps=V.n) (hen:Enters P k) (hcl:f.cl=none) (hm:f.ps.length<=V.n) (hdp:(Be f.rs&&wm f.ps)=true) (ann:Ann)
  (hmod: ∀d,appP f.ps f.m d=iX V (Iw V fn.results.toList f.rs f.ps d) c ann (fun r=>some r) (fun _ _=>none) (Iw V fn.results.toList f.rs f.ps d) (oY (vN f.ps d))):FOk P k f:=
 ⟨fun q hq=>by (rw[hcl] at hq;cases hq),fun _=>hen,fun _ w0 J γ vs d r hlay ha hr w C hs=>(E9 hT hF hmx hf hb hn hen hm hdp ann hmod w0 J γ vs d r hlay ha hr w C hs).mono fun e w' ⟨v,h1,h2,h3⟩=>⟨v,h1,h2.1,h3⟩⟩
theorem X0 {V:Env} {P:Program} (hT:TTok P V.tt) (hF:FTok P V.ft) (hmx:P.follows .mixedOrders=true) {k:FuncId} {fn:Func} {c:Code} {f:FS} (hf:P.funcs[k]? =some fn) (hb:fn.body=some c) (hn:fn.ntmps=V.n) (hen:Enters P k) (hcl:f.cl=some (0,7)/\xH 1000000 V.an=true) (hm:f.ps.length<=V.n) (hdp:(Be f.rs&&wm f.ps)=true) (ann:Ann)
  (hmod: ∀d,appP f.ps f.m d=iX V (Iw V fn.results.toList f.rs f.ps d) c ann (fun r=>some r) (fun _ _=>none) (Iw V fn.results.toList f.rs f.ps d) (oY (vN f.ps d))):FOk P k f:=
 ⟨fun q hq=>by
  rw[hcl.1] at hq
  obtain rfl:=ae hq
  exact ⟨⟨fun e=>(by cases e),fun _ e=>(by cases e),fun e=>(by cases e)⟩,(fun _ w0 J γ vs d r hlay ha hr w C hs=>(E9 hT hF hmx hf hb hn hen hm hdp ann hmod w0 J γ vs d r hlay ha hr w C hs).mono fun e w' ⟨v,h1,h2,h3⟩=>⟨v,h1,⟨h2.1,h2.2 hcl.2⟩,h3⟩),fun e=>(by cases e)⟩,fun _=>hen,fun _ w0 J γ vs d r hlay ha hr w C hs=>(E9 hT hF hmx hf hb hn hen hm hdp ann hmod w0 J γ vs d r hlay ha hr w C hs).mono fun e w' ⟨v,h1,h2,h3⟩=>⟨v,h1,h2.1,h3⟩⟩
theorem G6 {V:Env} {P:Program} (hT:TTok P V.tt) (hF:FTok P V.ft) (hmx:P.follows .mixedOrders=true) {k:FuncId} {fn:Func} {c:Code} {E b:Nat} (hf:P.funcs[k]? =some fn) (hb:fn.body=some c) (hn:fn.ntmps=V.n) (hen:Enters P k) (hm:1<=V.n) (ann:Ann)
  (hmod: ∀(E':TypeId) (bn:Bool) (xs:List Raw),(match bn with | true=>some ([] :List Raw) | false=>(ct b [] xs).bind fun zs=>some zs)=iX V (Iw V fn.results.toList [.sl E .raw] [] ()) c ann (fun r=>some r) (fun _ _=>none) (Iw V fn.results.toList [.sl E .raw] [] ()) ⟨[(0,0,.one (.rdn ⟨0,[]⟩ bn (.sl E' .raw) xs))],[],1⟩):uS P k E b:=by
 refine ⟨hen,fun E' J w0 v xs zs hlay hrd Cf=>?_⟩
 obtain ⟨bn,hbn⟩: ∃bn,zK v=bn:=⟨_,rfl⟩
 have hr:iX V (Iw V fn.results.toList [.sl E .raw] [] ()) c ann (fun r=>some r) (fun _ _=>none) (Iw V fn.results.toList [.sl E .raw] [] ()) ⟨[(0,0,.one (.rdn ⟨0,[]⟩ bn (.sl E' .raw) xs))],[],1⟩=some zs:=by
  rw[<-hmod E' bn xs]
  cases bn with
  | false =>
   show (ct b [] xs).bind _=_
   rw[Cf];rfl
  | true =>
   obtain ⟨h1,-⟩:=Bi Cf
   obtain ⟨ao,cap,e,-,hx⟩:=hrd
   obtain rfl:v= .slice ao xs.length cap:=by simpa using e
   rcases hx with rfl | ⟨b,off,ccs,t,fr,rfl,-⟩
   ·rw[h1];rfl
   ·cases hbn
 let θ:Th:=fun _=>v
 have key:Con P k #[v] J w0 [] (fun v=>resFa [.sl E .raw] v/\(xH 1000000 V.an=true->vF [.sl E .raw] (zs,()) v)) (fun v=>resGv [.sl E .raw] (zs,()) v++ []):=by
  refine vf (n:=V.n) [(0,v)] hf hb hn hm (fun p hp=>by obtain rfl:=al hp;rfl) (fun F w a hA hst=>?_) (fun u=>uV (D:=[]) trivial [.sl E .raw] (zs,()) rfl)
  have hfine:Fine P w0 J θ ⟨[(0,0,.one (.rdn ⟨0,[]⟩ bn (.sl E' .raw) xs))],[],1⟩:=⟨fun e he=>by obtain rfl:=al he;exact ⟨Nat.one_pos,hrd,hbn⟩,fun e he=>by obtain rfl:=al he;exact Nat.one_pos,List.pairwise_singleton _ _,fun e he=>(by cases he),hlay⟩
  have hS:Sim P J w0 F V.n J θ ⟨[(0,0,.one (.rdn ⟨0,[]⟩ bn (.sl E' .raw) xs))],[],1⟩ a w:=⟨Hp.le.rfl,hA,hst,hfine⟩
  have fin:=QI (V:=V) (θ:=θ) (J:=J) (w0:=w0) (rs:=[.sl E .raw]) (ps:=[]) (d:=()) (vs:=[]) (s0:=⟨[(0,0,.one (.rdn ⟨0,[]⟩ bn (.sl E' .raw) xs))],[],1⟩) (fn:=fn) (F:=F) hT rfl trivial (aC _) (γ:=θ 0) rfl
  exact (sF (I:=J) (w0:=w0) (F:=F) hT hF hmx c).1 ann hr hS (fun J' θ' s' a' w' hk S' hJ hFr=>fin _ J' θ' s' a' w' hk S' hJ hFr) (fun i J' θ' s' a' w' hk=>by cases hk) (fun r' J' θ' s' a' w' hrt hrr hS' hJ hFr=>by
   obtain rfl:=ae hrr
   exact fin _ J' θ' s' a' w' hrt hS' hJ hFr)
 exact fun w C hs=>(key w C hs).mono fun e w' ⟨v,h1,h2,h3⟩=>⟨v,h1,trivial,h3⟩
theorem iu {P:Program} {k:FuncId} {f:FS} (h:Enters P k) (hc:f.cl=none) (hm: ∀d,appP f.ps f.m d=none):FOk P k f:=
 ⟨fun q hq=>by (rw[hc] at hq;cases hq),fun _=>h,fun _ _ _ _ _ d r _ _ hr=>by rw[hm d] at hr;cases hr⟩
theorem Dq {P:Program} {k:FuncId} {f:FS} {E b:Nat} (h:FOk P k ⟨f.ps,f.rs,f.m,none⟩) (hc:uS P k E b) (hb:Nat.beq b 0=false:=by rfl) (h7:Nat.beq b 7=false:=by rfl) (h8:Nat.ble 1000 b=false:=by rfl) (h9:Nat.beq b 9=false:=by rfl):FOk P k ⟨f.ps,f.rs,f.m,some (E,b)⟩:=
 ⟨fun q hq=>by obtain rfl:=ae hq;exact ⟨⟨fun e=>(by rw[hb] at e;cases e),fun _ _ _ _=>hc,fun e=>(by rw[h8] at e;cases e)⟩,fun e=>(by rw[h7] at e;cases e),fun e=>(by rw[h9] at e;cases e)⟩,fun _=>h.en rfl,fun _=>h.con rfl⟩
theorem S9 {P:Program} {k:FuncId} {f:FS} {E b:Nat} (h:FOk P k ⟨f.ps,f.rs,f.m,none⟩) (hc:NL P k E (b - 1000)) (h8:Nat.ble 1000 b=true:=by rfl) (h0:Nat.beq b 0=false:=by rfl) (h7:Nat.beq b 7=false:=by rfl) (h9:Nat.beq b 9=false:=by rfl):FOk P k ⟨f.ps,f.rs,f.m,some (E,b)⟩:=
 ⟨fun q hq=>by obtain rfl:=ae hq;exact ⟨⟨fun e=>(by rw[h0] at e;cases e),fun _ _ e=>(by rw[h8] at e;cases e),fun _=>hc⟩,fun e=>(by rw[h7] at e;cases e),fun e=>(by rw[h9] at e;cases e)⟩,fun _=>h.en rfl,fun _=>h.con rfl⟩
theorem U8 {P:Program} {k:FuncId} {T f:Nat} (he:Enters P k) (h: ∀(c d:List Value) (w:World),Calls P k #[.agg c.toArray,.agg d.toArray] w fun e w'=>e= .returned (.func (.func f) #[] #[.pointer (some ⟨w.heap.size,0,none⟩),.pointer (some ⟨w.heap.size+1,0,none⟩)])/\w'=(w.alloc (.cells c.toArray T)).alloc (.cells d.toArray T)):NL P k T f:=by
 refine ⟨he,fun I w0 c d w C hs=>(h c d w).mono ?_⟩
 rintro e w' ⟨rfl,rfl⟩
 refine ⟨_,rfl,⟨_,_,rfl⟩,?_⟩
 have h1:=(hs.alloc c T).alloc d T
 have hsz:(w.alloc (.cells c.toArray T)).heap.size=w.heap.size+1:=by simp
 rw[hsz] at h1
 exact St.emp.2 (h1.perm (List.Perm.swap _ _ _))
end R
namespace R
open Go.RowKit
open D
end R
namespace R
open Go.RowKit
open D
def rtN (V:Env) (rvs:List ResultVar) (T:TypeId) (s:Sg):Option (Int×Int):=(xT V.tt s rvs).bind fun vs=>match vs with
 | [.one (.ptr h off)] =>bU (Nat.beq off 0) ((sw h s.chs).bind fun b=>bU (Nat.beq b.T T) (match b.cells with
  | [.rd g _ _,.val (.int .i64 x),.val (.int .i64 y)] =>bU (Hdr.beq g ⟨0,[]⟩) (some (x,y))
  | _=>none))
 | _=>none
theorem U9 {V:Env} {P:Program} (hT:TTok P V.tt) (hF:FTok P V.ft) (hmx:P.follows .mixedOrders=true) {k:FuncId} {fn:Func} {c:Code} {E T:Nat} {t:Ty} {m:List t.den->Option (Int×Int)} (hf:P.funcs[k]? =some fn) (hb:fn.body=some c) (hn:fn.ntmps=V.n) (hen:Enters P k) (hm:1<=V.n) (ann:Ann)
  (hmod: ∀xs:List t.den,m xs=iX V (rtN V fn.results.toList T) c ann (fun r=>some r) (fun _ _=>none) (rtN V fn.results.toList T) ⟨[(0,0,.one (.rd ⟨0,[]⟩ (.sl E t) xs))],[],1⟩):NewOk P k T ⟨[.rd (.sl E t)],[.int .i64,.int .i64],m,some (T,9)⟩:=by
 refine ⟨hen,fun w0 J γ vs d r ns hlay ha Cf hns=>?_⟩
 obtain ⟨v,vs',rfl,hd,hnil⟩:=ha
 obtain rfl:vs'= []:=hnil
 obtain ⟨xs,u⟩:=d
 obtain ⟨cs,hcs,hrd⟩:=hd
 obtain rfl:cs= [v]:=hcs
 obtain ⟨x,y⟩:=r
 have hr:=hmod xs
 rw[show m xs=some (x,y) from Cf] at hr
 obtain rfl: [x,y] =ns:=ae hns
 let θ:Th:=fun _=>v
 refine vf (n:=V.n) [(0,v)] hf hb hn hm (fun p hp=>by obtain rfl:=al hp;rfl) (fun F w a hA hst=>?_) (fun u=>Ch.back_deeps ⟨P3,trivial⟩)
 have hfine:Fine P w0 J θ ⟨[(0,0,.one (.rd ⟨0,[]⟩ (.sl E t) xs))],[],1⟩:=⟨fun e he=>by obtain rfl:=al he;exact ⟨Nat.one_pos,hrd⟩,fun e he=>by obtain rfl:=al he;exact Nat.one_pos,List.pairwise_singleton _ _,fun e he=>(by cases he),hlay⟩
 have hS:Sim P J w0 F V.n J θ ⟨[(0,0,.one (.rd ⟨0,[]⟩ (.sl E t) xs))],[],1⟩ a w:=⟨Hp.le.rfl,hA,hst,hfine⟩
 have fin: ∀r J' θ' s' a' w',rtN V fn.results.toList T s'=some r->Sim P J w0 F V.n J' θ' s' a' w'->J.le J'->Fr ⟨[(0,0,.one (.rd ⟨0,[]⟩ (.sl E t) xs))],[],1⟩ θ s' θ'->
   bodyPost P fn (fun e w'=> ∃u,e= .returned u/\(∃b,u= .pointer (some ⟨b,0,none⟩))/\ ∃J2,J.le J2/\St J2 w0 w' ([Ch.blk (bk u) ([v] ++ [r.1,r.2].map (Value.int .i64)) T] ++ [F])) .ret a' w':=by
  intro r J' θ' s' a' w' hrt S' hJ hFr
  obtain ⟨us,hus,hrt⟩:=bind_some hrt
  obtain ⟨r1,r2⟩:=tS hT S' hus
  split at hrt
  ·rename_i h off
   obtain ⟨ho,hrt⟩:=aq hrt
   obtain rfl:off=0:=aw ho
   obtain ⟨b,hb',hrt⟩:=bind_some hrt
   obtain ⟨hT',hrt⟩:=aq hrt
   have hT':b.T=T:=aw hT'
   split at hrt
   ·rename_i g ty d p q hcells
    obtain ⟨hg,hrt⟩:=aq hrt
    obtain rfl:=Hdr.beq_eq hg
    obtain rfl:=ae hrt
    refine U4 S'.agr r1 ⟨_,rfl,⟨bk (hv θ' h),rfl⟩,J',hJ,?_⟩
    have h1:=S'.st.perm (((jT hb').map (toCh P θ')).append_right [F])
    have e0:hv θ' ⟨0,[]⟩=v:=by
     show vg (θ' 0) [] =v
     rw[hFr.same 0 Nat.one_pos];rfl
    have h2:St J' w0 w' (Ch.blk (bk (hv θ' h)) (b.cells.map (·.v θ')) b.T::(b.rest.map (toCh P θ')++ [F])):=h1
    rw[hcells,hT'] at h2
    have h3:St J' w0 w' ([Ch.blk (bk (hv θ' h)) [hv θ' ⟨0,[]⟩,.int .i64 p,.int .i64 q] T] ++ [F] ++b.rest.map (toCh P θ')):=h2.perm ((List.perm_append_comm).cons _)
    rw[e0] at h3
    exact h3.left
   ·cases hrt
  ·cases hrt
 exact (sF (I:=J) (w0:=w0) (F:=F) hT hF hmx c).1 ann hr.symm hS (fun J' θ' s' a' w' hk S' hJ hFr=>fin _ J' θ' s' a' w' hk S' hJ hFr) (fun i J' θ' s' a' w' hk=>by cases hk) (fun r' J' θ' s' a' w' hrt hrr hS' hJ hFr=>by
  obtain rfl:=ae hrr
  exact fin _ J' θ' s' a' w' hrt hS' hJ hFr)
theorem Ta {P:Program} {k:FuncId} {f:FS} {T:Nat} (hc:NewOk P k T f) (hcl:f.cl=some (T,9)):FOk P k f:=by
 have ho:f.ov=true:=by unfold FS.ov;rw[hcl];rfl
 refine ⟨fun q hq=>?_,fun e=>(by rw[ho] at e;cases e),fun e=>(by rw[ho] at e;cases e)⟩
 rw[hcl] at hq
 obtain rfl:=ae hq
 exact ⟨⟨fun e=>(by cases e),fun _ _ _ e=>(by cases e),fun e=>(by cases e)⟩,fun e=>(by cases e),fun _=>hc⟩
end R
namespace R
open Go.RowKit Go.Shelf Go.Sort
open D
end R
namespace R
open Go.Shelf
end R
namespace R
open Go.RowKit Go.Shelf Go.Sort
open D
abbrev IT:Ty:=.int .i64
def O9 (xs:List Int):Option (List Int):=(chk (xs.length<4611686018427387904)).bind fun _=>some (xs.mergeSort fun x y=>decide (x<=y))
theorem St.grownI {I:Hp} {w0 w:World} {cs:List Ch} (h:St I w0 w cs) (os:Array Obj):St I w0 (grow w os) cs:=by
 refine St.step (w:=w) (c:=[]) (c':=[]) h rfl rfl rfl (by simp[grow]) ?_
 rintro F rfl - -
 exact ⟨fun b hb _=>heap_grow_old w os hb,[],rfl,List.nodup_nil,by simp⟩
theorem LD {P:Program} {ρ:Ren} (L:Lays.n189 P ρ) (en:Enters P (ρ.f 189)) (E:TypeId) :
  FOk P (ρ.f 189) ⟨[.ow (.sl E IT)],[],fun xs=>O9 xs,none⟩:=by
 refine ⟨fun q hq=>(by cases hq),fun _=>en,fun _ w0 J γ vs d r hlay ha Cf=>?_⟩
 obtain ⟨v,vs1,rfl,hd,hnil⟩:=ha
 obtain rfl:vs1= []:=hnil
 obtain ⟨xs0,un⟩:=d
 let xs:List Int:=xs0
 let zs:List Int:=r
 have Cf:O9 xs=some zs:=Cf
 obtain ⟨u1,hc,hz⟩:=Option.bind_eq_some_iff.1 Cf
 have hc:=bO hc
 have hz:=ae hz
 intro w C hst
 have hst:St J w0 w (Ch.own (aA E IT.rep) [v] xs::C):=hst
 clear Cf
 rename_i happ0
 clear happ0 hd
 clear_value xs
 have hfin: ∀ {e:Ending} {w':World},(∃W,e= .returned (.tuple #[])/\w'=W/\St J w0 W (Ch.own (aA E IT.rep) [v] zs::C))-> ∃v':Value,e= .returned v'/\(∃vs:Array Value,v'= .tuple vs/\vs.size=0/\ ∀(i:Nat) (t:Ty),([] :List Ty)[i]? =some t->nr (vs.getD i undef)=t.isProd)/\St J w0 w' (Ch.own (aA E IT.rep) [v] zs::C):=by
  rintro e w' ⟨W,rfl,rfl,h⟩
  exact ⟨_,rfl,⟨#[],rfl,rfl,fun i t h=>(by simp at h)⟩,h⟩
 have hcase:(v= .slice none 0 0/\xs= [])\/ ∃g' ofs n cap,v= .slice (some ⟨g',ofs,none⟩) n cap:=by
  obtain ⟨hb,hi,F,⟨G,K,rfl,⟨hl,e2⟩,e3⟩,h4,h5⟩:=hst
  rcases e2 with ⟨hv,h1,_⟩ | ⟨g',ofs',cap',cur,K1,hv,_⟩
  ·exact .inl ⟨List.cons.inj hv |>.1,h1⟩
  ·exact .inr ⟨_,_,_,_,List.cons.inj hv |>.1⟩
 rcases hcase with ⟨rfl,hx⟩ | ⟨g',ofs,n,cap,rfl⟩
 ·refine (Any.slices_Sort_int_none L none 0 w).mono fun e w' ⟨he,hw⟩=>hfin ⟨_,he,hw,?_⟩
  rw[<-hz,hx,List.mergeSort_nil]
  rw[hx] at hst
  exact hst
 ·obtain ⟨hn,h1,h2,cur,hg,hroom,hat⟩:=xz (R:=IT.rep) (k:=1) (Ty.sh_ok (t:=IT) rfl) rfl hst
  obtain rfl:=hn
  have hH:Holds (Value.int .i64) w g' ofs xs.toArray:=by
   intro j hj
   have hj:j<xs.length:=by simpa using hj
   obtain ⟨c,e1,e2,e3⟩:=hat j _ (List.getElem?_eq_getElem hj)
   have hcj:=e2 0 Nat.one_pos
   obtain rfl:c= [.int .i64 xs[j]]:=e3
   rw[Nat.mul_one,Nat.add_zero,List.getElem?_drop] at hcj
   refine ⟨?_,?_⟩
   ·unfold World.cell?
    simp only[hg]
    rw[<-Array.getElem?_toList,hcj,getElem!_pos xs.toArray _ (by simpa using hj)]
    simp
   ·unfold World.frozen?
    simp only[hg]
    simp
  have hblk:g'<w.heap.size:=by
   rcases Nat.lt_or_ge g' w.heap.size with c | c
   ·exact c
   ·rw[Array.getElem?_eq_none c] at hg;cases hg
  refine (Any.slices_Sort_int L g' ofs cap xs w hH hblk hc).mono ?_
  rintro e w' ⟨he,m,os,rfl⟩
  refine hfin ⟨_,he,rfl,?_⟩
  have hlen:zs.length=xs.length:=by rw[<-hz];exact List.length_mergeSort _
  rw[hz,Go.Lib.sorted_world (Value.int .i64) w g' ofs m xs.toArray zs os hH (by simpa using hlen)]
  refine St.grownI ?_ os
  have hst2:St J w0 (w.drewN m) (Ch.own (aA E IT.rep) [.slice (some ⟨g',ofs,none⟩) xs.length cap] xs::C):=hst.drawn rfl rfl rfl rfl
  have hcapz:zs.length<=cap:=by rw[hlen];exact h1
  have hlimz:zs.length<=lim:=by
   have:lim=2 ^ 63 - 1:=rfl
   have:maxLen=2 ^ 63 - 1:=rfl
   omega
  have h3:=Bk (p:=0) (cnt:=xs.length) (zs:=zs) (news:=zs.map (Value.int .i64)) (Ty.sh_ok (t:=IT) rfl) (Ty.cpy (t:=IT) rfl) (k:=1) rfl (by simp[hlen]) (by omega) hcapz hlimz (fun i z hi=>.inl ⟨Nat.zero_le _,(by
   have:=(List.getElem?_eq_some_iff.1 hi).1
   have:i<zs.length:=this
   omega),[.int .i64 z],rfl,fun j hj=>by
    obtain rfl:j=0:=by omega
    rw[Nat.sub_zero,Nat.mul_one,Nat.add_zero,List.getElem?_map]
    have hi:zs[i]? =some z:=hi
    rw[hi];rfl,rfl⟩) hst2
  rw[Nat.zero_mul,Nat.add_zero,show @List.length IT.den zs=xs.length from hlen] at h3
  exact h3
end R
namespace R
open Go.Shelf
def xU:Go.Shelf.Ren:=⟨fun | 189=>248 | 125=>303 | 257=>302 | 128=>334 | 129=>335 | 294=>325 | 295=>326 | 296=>327 | 297=>328 | 298=>329 | 299=>330 | 216=>331 | 300=>332 | 301=>333 | 328=>351 | 329=>352 | 330=>353 | 331=>354 | 332=>355 | 215=>356 | 343=>363 | n=>n,fun | 28=>47 | 3=>3 | 46=>226 | 0=>0 | 51=>345 | 53=>347 | 4=>4 | 183=>338 | 182=>337 | 131=>248 | 5=>5 | 9=>9 | 218=>361 | 222=>365 | 228=>369 | 229=>259 | n=>n,fun | n=>n⟩
theorem Fa:Go.Proofs.Lays.n189 Tryz.prog xU:= {
 mixed:=by kernel_rfl
 f125:=Tryz.func303.trans (congrArg some (by kernel_rfl))
 f128:=Tryz.func334.trans (congrArg some (by kernel_rfl))
 f129:=Tryz.func335.trans (congrArg some (by kernel_rfl))
 f189:=Tryz.func248.trans (congrArg some (by kernel_rfl))
 f215:=Tryz.func356.trans (congrArg some (by kernel_rfl))
 f216:=Tryz.func331.trans (congrArg some (by kernel_rfl))
 f257:=Tryz.func302.trans (congrArg some (by kernel_rfl))
 f294:=Tryz.func325.trans (congrArg some (by kernel_rfl))
 f295:=Tryz.func326.trans (congrArg some (by kernel_rfl))
 f296:=Tryz.func327.trans (congrArg some (by kernel_rfl))
 f297:=Tryz.func328.trans (congrArg some (by kernel_rfl))
 f298:=Tryz.func329.trans (congrArg some (by kernel_rfl))
 f299:=Tryz.func330.trans (congrArg some (by kernel_rfl))
 f300:=Tryz.func332.trans (congrArg some (by kernel_rfl))
 f301:=Tryz.func333.trans (congrArg some (by kernel_rfl))
 f328:=Tryz.func351.trans (congrArg some (by kernel_rfl))
 f329:=Tryz.func352.trans (congrArg some (by kernel_rfl))
 f330:=Tryz.func353.trans (congrArg some (by kernel_rfl))
 f331:=Tryz.func354.trans (congrArg some (by kernel_rfl))
 f332:=Tryz.func355.trans (congrArg some (by kernel_rfl))
 f343:=Tryz.func363.trans (congrArg some (by kernel_rfl))
 t0:=Tryz.underlying0
 a0:=Tryz.isAgg0
 z0:=Tryz.sizeOf0
 v0:=Tryz.zeroValue0
 t3:=Tryz.underlying3
 a3:=Tryz.isAgg3
 z3:=Tryz.sizeOf3
 v3:=Tryz.zeroValue3
 t4:=Tryz.underlying4
 a4:=Tryz.isAgg4
 z4:=Tryz.sizeOf4
 v4:=Tryz.zeroValue4
 t5:=Tryz.underlying5
 a5:=Tryz.isAgg5
 z5:=Tryz.sizeOf5
 v5:=Tryz.zeroValue5
 t9:=Tryz.underlying9
 a9:=Tryz.isAgg9
 z9:=Tryz.sizeOf9
 v9:=Tryz.zeroValue9
 t28:=Tryz.underlying47
 a28:=Tryz.isAgg47
 z28:=Tryz.sizeOf47
 v28:=Tryz.zeroValue47
 t46:=Tryz.underlying226
 a46:=Tryz.isAgg226
 z46:=Tryz.sizeOf226
 v46:=Tryz.zeroValue226
 t51:=Tryz.underlying345
 a51:=Tryz.isAgg345
 z51:=Tryz.sizeOf345
 v51:=Tryz.zeroValue345
 t53:=Tryz.underlying347
 a53:=Tryz.isAgg347
 z53:=Tryz.sizeOf347
 v53:=Tryz.zeroValue347
 t131:=Tryz.underlying248
 a131:=Tryz.isAgg248
 z131:=Tryz.sizeOf248
 v131:=Tryz.zeroValue248
 t182:=Tryz.underlying337
 a182:=Tryz.isAgg337
 z182:=Tryz.sizeOf337
 v182:=Tryz.zeroValue337
 t183:=Tryz.underlying338
 a183:=Tryz.isAgg338
 z183:=Tryz.sizeOf338
 v183:=Tryz.zeroValue338
 t218:=Tryz.underlying361
 a218:=Tryz.isAgg361
 z218:=Tryz.sizeOf361
 v218:=Tryz.zeroValue361
 t222:=Tryz.underlying365
 a222:=Tryz.isAgg365
 z222:=Tryz.sizeOf365
 v222:=Tryz.zeroValue365
 t228:=Tryz.underlying369
 a228:=Tryz.isAgg369
 z228:=Tryz.sizeOf369
 v228:=Tryz.zeroValue369
 t229:=Tryz.underlying259
 a229:=Tryz.isAgg259
 z229:=Tryz.sizeOf259
 v229:=Tryz.zeroValue259 }
end R
namespace R
open Go.RowKit
open D
def FldAll (P:Program) (T:TypeId):Nat->List (Nat×Nat)->Prop
 | _,[] =>True
 | i,q::l=>TF P T i q.1 q.2/\FldAll P T (i+1) l
theorem FldAll.get {P:Program} {T:TypeId} : ∀ {l:List (Nat×Nat)} {i:Nat},FldAll P T i l-> ∀f q,l[f]? =some q->TF P T (i+f) q.1 q.2
 | [],_,_,f,q,h=>by simp at h
 | x::l,i,⟨h1,h2⟩,f,q,h=>by
  cases f with
  | zero=>simp at h;subst h;exact h1
  | succ f =>
   have:=FldAll.get h2 f q (by simpa using h)
   rwa [show i+1+f=i+(f+1) from by omega] at this
section
variable {P:Program} {T:TypeId}
theorem sG {n b:Nat} {ty:Ty} {z:Value} {boo:Bool} {ik:Option (Option IntKind)} (h1:TI P T false 1) (h2:ty.size=1) (h3:TZ P T z 1 b) (h4:z.cells=(zeroCells ty).toArray) (h5:1<=b) (h6:boo=true->P.underlying T=some .bool) (h7: ∀k,ik=some k->P.underlying T=some (ikD k)):TDok P T ⟨false,1,none,ty,[],some b,none,boo,none,none,ik,false,none⟩:=
 ⟨h1,rfl,h2,fun E h=>by simp at h,fun f q h=>by simp at h,fun b' h=>by obtain rfl:=ae h;exact ⟨z,h3,h4,h5⟩,fun pl h=>by simp at h,h6,(fun ks h=>by cases h),(fun m h=>by cases h),h7,(fun h=>by cases h),fun e h=>by cases h⟩
theorem qd {E:TypeId} {t:Ty} (h1:TI P T false 1) (h2:P.underlying T=some (.slice E)) (h3:TZ P T (.slice none 0 0) 1 24):TDok P T ⟨false,1,some E,.sl E t,[],some 24,none,false,none,none,none,false,none⟩:=
 ⟨h1,rfl,rfl,fun E' h=>by obtain rfl:=ae h;exact h2,fun f q h=>by simp at h,fun b' h=>by obtain rfl:=ae h;exact ⟨_,h3,rfl,by decide⟩,fun pl h=>by simp at h,(fun h=>by cases h),(fun ks h=>by cases h),(fun m h=>by cases h),(fun k h=>by cases h),(fun h=>by cases h),fun e h=>by cases h⟩
theorem o8 {n b:Nat} {ty:Ty} {fs pl:List (Nat×Nat)} {z:Value} {eq:Option (List (Option IntKind))} (h1:TI P T true n) (h2:ty.size=n) (h3:FldAll P T 0 fs) (h4:TZ P T z n b) (h5:z.cells=(zeroCells ty).toArray) (h6:1<=b) (h7:TB P T pl) (h8: ∀ks,eq=some ks-> ∀w,Curq ks fun xs ys r=>EqT P T (.agg xs.toArray) (.agg ys.toArray) r w):TDok P T ⟨true,n,none,ty,fs,some b,some pl,false,eq,none,none,false,none⟩:=
 ⟨h1,rfl,h2,fun E h=>by simp at h,fun f q h=>by have:=h3.get f q h;rwa [Nat.zero_add] at this,fun b' h=>by obtain rfl:=ae h;exact ⟨z,h4,h5,h6⟩,fun pl' h=>by obtain rfl:=ae h;exact h7,(fun h=>by cases h),h8,(fun m h=>by cases h),(fun k h=>by cases h),(fun h=>by cases h),fun e h=>by cases h⟩
theorem wq {ty:Ty} {b:Nat} (h1:TI P T false 1) (h2:ty.size=1) (h3:TZ P T .nilFunc 1 b):TDok P T ⟨false,1,none,ty,[],none,none,false,none,none,none,true,none⟩:=
 ⟨h1,rfl,h2,fun E h=>by simp at h,fun f q h=>by simp at h,(fun b' h=>by cases h),(fun pl h=>by cases h),(fun h=>by cases h),(fun ks h=>by cases h),(fun m' h=>by cases h),(fun k h=>by cases h),(fun _=>⟨b,h3⟩),fun e h=>by cases h⟩
theorem Vc {m:MD} {ty:Ty} (h1:TI P T false 1) (h2:ty.size=1) (h3:MDok P T m):TDok P T ⟨false,1,none,ty,[],none,none,false,none,some m,none,false,none⟩:=
 ⟨h1,rfl,h2,fun E h=>by simp at h,fun f q h=>by simp at h,(fun b' h=>by cases h),(fun pl h=>by cases h),(fun h=>by cases h),(fun ks h=>by cases h),(fun m' h=>by obtain rfl:=ae h;exact h3),(fun k h=>by cases h),(fun h=>by cases h),fun e h=>by cases h⟩
theorem WV {e E:TypeId} {u:Ty} (h1:TI P T false 1) (h2:P.underlying T=some (.pointer e)) (h3:TZ P T (.pointer none) 1 8):TDok P T ⟨false,1,none,.fro (.tree e E u),[],some 8,none,false,none,none,none,false,some e⟩:=
 ⟨h1,rfl,rfl,fun E' h=>by simp at h,fun f q h=>by simp at h,fun b' h=>by obtain rfl:=ae h;exact ⟨_,h3,rfl,by decide⟩,fun pl h=>by simp at h,(fun h=>by cases h),(fun ks h=>by cases h),(fun m h=>by cases h),(fun k h=>by cases h),(fun h=>by cases h),fun e' h=>by obtain rfl:=ae h;exact h2⟩
end
end R
namespace D
open Go.RowKit
abbrev Yq1:Type:=(Int×Int×Int×Int)
abbrev Yq2:Type:=(Int×(List Bool)×(List (List Int)))
abbrev Yq3:Type:=(Int×((List Yq1))×Int)
abbrev Yq4:Type:=(List (Int×Int))
abbrev Yq5:Type:=((Int×Bool)×Int×Int)
abbrev Yq6:Type:=(Int×(List Bool)×List (List Int))
abbrev Yq7:Type:=((List Int)×Int×Int×(List Int)×Bool)
abbrev Yq8:Type:=(Out (List Int) ((List Int)×Int))
abbrev Yq9:Type:=(Int×Int×Bool×Int×Int)
abbrev QJ:Type:=(Int×(List Yq2)×(List Yq3))
abbrev Ng:Type:=((List Yq2)×(List Yq3))
abbrev Jk:Type:=(Out Int (Int×Int))
abbrev Pa:Type:=(Int×(List Yq1)×Int)
def Fb (p0code:List Int):Option Bool:=
 some (decide ((p0code.length:Int)>1048576))
def nw (p0code:List Int) (s1:Int×Int):Option (Out (Int×Int) (Int×Int)):=
 if decide (s1.2<(p0code.length:Int)) then (if decide (s1.2<4000) then ((aP p0code s1.2).bind fun x2=>some (.nxt (od (IntKind.i64.wrap ((IntKind.i64.wrap ((IntKind.i64.wrap (s1.1*131))+(IntKind.i64.wrap x2)))+7)) 1073741823,IntKind.i64.wrap (s1.2+1)))) else (some (.brk (s1.1,s1.2)))) else (some (.brk (s1.1,s1.2)))
def tT (p0code:List Int):Option (Int×Int):=
 aM (ay (nw p0code) aQ (IntKind.i64.wrap (10101+(p0code.length:Int)),0)) (fun r3=>some r3) (fun s4=>some (0,s4.1))
def jE (p0c:(List Int)×Int×Int):Option (Int×Int×Int):=
 Option.bind ((if decide (p0c.2.1<(p0c.1.length:Int)) then ((aP p0c.1 p0c.2.1).bind fun x1=>some (od (IntKind.i64.wrap ((od (V9 (lT (IntKind.i64.wrap ((IntKind.i64.wrap (p0c.2.2*6364136223846793005))+1442695040888963407)) 33) (lT (IntKind.i64.wrap ((IntKind.i64.wrap (p0c.2.2*6364136223846793005))+1442695040888963407)) 45)) 255)+(IntKind.i64.wrap x1))) 255,IntKind.i64.wrap (p0c.2.1+1),IntKind.i64.wrap ((IntKind.i64.wrap (p0c.2.2*6364136223846793005))+1442695040888963407))) else (some (od (V9 (lT (IntKind.i64.wrap ((IntKind.i64.wrap (p0c.2.2*6364136223846793005))+1442695040888963407)) 33) (lT (IntKind.i64.wrap ((IntKind.i64.wrap (p0c.2.2*6364136223846793005))+1442695040888963407)) 45)) 255,p0c.2.1,IntKind.i64.wrap ((IntKind.i64.wrap (p0c.2.2*6364136223846793005))+1442695040888963407))):Option (Int×Int×Int))) (fun s2=>some (s2.1,s2.2.1,s2.2.2))
def ba (p0c:(List Int)×Int×Int) (p1n:Int):Option (Int×Int×Int):=
 if decide (p1n<=0) then (some (0,p0c.2.1,p0c.2.2)) else (if decide (p1n<=256) then ((jE (p0c.1,p0c.2.1,p0c.2.2)).bind fun r0=>(chk (p1n≠0)).bind fun _=>some (Int.tmod r0.1 p1n,r0.2.1,r0.2.2)) else ((jE (p0c.1,p0c.2.1,p0c.2.2)).bind fun r2=>(jE (p0c.1,r2.2.1,r2.2.2)).bind fun r3=>(jE (p0c.1,r3.2.1,r3.2.2)).bind fun r4=>(jE (p0c.1,r4.2.1,r4.2.2)).bind fun r5=>(chk (p1n≠0)).bind fun _=>some (Int.tmod (IntKind.i64.wrap ((IntKind.i64.wrap ((IntKind.i64.wrap ((IntKind.i64.wrap (r2.1*16777216))+(IntKind.i64.wrap (r3.1*65536))))+(IntKind.i64.wrap (r4.1*256))))+r5.1)) p1n,r5.2.1,r5.2.2)))
def cj (p0c:(List Int)×Int×Int) (p1list:List Int):Option (Int×Int×Int):=
 (ba (p0c.1,p0c.2.1,p0c.2.2) (p1list.length:Int)).bind fun r0=>(aP p1list r0.1).bind fun x1=>some (x1,r0.2.1,r0.2.2)
def eP (p0x:Int) (p1low:Int) (p2high:Int):Option Bool:=
 if decide (p0x≥p1low) then (some (decide (p0x<=p2high))) else (some false)
def kX (p0n:Int):Option Bool:=
 (eP p0n 0 8).bind fun r1=>some r1
def mE (p0:Int×Int×Int×Int):Option Int:=
 Option.bind ((if p0.1==1 then (some (p0.1==1)) else (some (p0.1==2)):Option Bool)) (fun s1=>if s1 then (if p0.2.1 !=0 then (some (-1)) else (if p0.2.2.1 !=0 then (some (-1)) else (if p0.2.2.2 !=0 then (some (-1)) else (some 0)))) else (if p0.1==3 then ((kX p0.2.1).bind fun r3=>if r3 then (if p0.2.2.1 !=0 then (some (-1)) else (if p0.2.2.2 !=0 then (some (-1)) else (some 0))) else (some (-1))) else (Option.bind ((if p0.1==4 then (some (p0.1==4)) else (some (p0.1==5)):Option Bool)) (fun s2=>if s2 then (if p0.2.1 !=0 then (some (-1)) else (if p0.2.2.1 !=0 then (some (-1)) else (if p0.2.2.2 !=0 then (some (-1)) else (some 2)))) else (if p0.1==6 then (if p0.2.1 !=0 then (some (-1)) else (if p0.2.2.1 !=0 then (some (-1)) else (if p0.2.2.2 !=0 then (some (-1)) else (some 1)))) else (if p0.1==7 then (if p0.2.1 !=0 then (some (-1)) else ((eP p0.2.2.2 1 3).bind fun r1=>if r1 then ((eP p0.2.2.1 0 p0.2.2.2).bind fun r2=>if r2 then (some 1) else (some (-1))) else (some (-1)))) else (some (-1))))))))
def o9 (p0e:(List Yq1)) (s3:Int×Int):Option (Out Bool (Int×Int)):=
 if decide (s3.2<(p0e.length:Int)) then ((aP p0e s3.2).bind fun x3=>(mE (x3.1,x3.2.1,x3.2.2.1,x3.2.2.2)).bind fun r3=>if decide (r3<0) then (some (.ret false)) else (if decide (r3>s3.1) then (some (.ret false)) else (some (.nxt (IntKind.i64.wrap ((IntKind.i64.wrap (s3.1 - r3))+1),IntKind.i64.wrap (s3.2+1)))))) else (some (.brk (s3.1,s3.2)))
def q9 (p0e:(List Yq1)):Option Bool:=
 aM (ay (o9 p0e) aQ (0,0)) (fun r=>some r) (fun s4=>some (s4.1==1))
def gG (p0e:(List Yq1)):Option Bool:=
 if decide ((p0e.length:Int)<=24) then ((q9 p0e).bind fun r1=>some r1) else (some false)
def kM (p0l:List Yq1) (s3:Int×Int):Option Jk:=
 if decide (s3.1>0) then ((aP p0l (IntKind.i64.wrap (s3.2 - 1))).bind fun x3=>(mE (x3.1,x3.2.1,x3.2.2.1,x3.2.2.2)).bind fun r3=>some (.nxt (IntKind.i64.wrap ((IntKind.i64.wrap (s3.1 - 1))+r3),IntKind.i64.wrap (s3.2 - 1)))) else (some (.brk (s3.1,s3.2)))
def gH (p0l:List Yq1):Option Int:=
 aM (ay (kM p0l) aQ (1,(p0l.length:Int))) (fun r=>some r) (fun s4=>some s4.2)
def dV:Nat->(List Yq1)->Option Int
 | 0,_=>none
 | n+1,p0l =>
  (aP p0l (IntKind.i64.wrap ((p0l.length:Int) - 1))).bind fun x0=>Option.bind ((if x0.1==4 then (some (x0.1==4)) else (some (x0.1==5)):Option Bool)) (fun s1=>if s1 then ((chk (And (0<=(IntKind.i64.wrap ((p0l.length:Int) - 1))) ((IntKind.i64.wrap ((p0l.length:Int) - 1))<=(p0l.length:Int)))).bind fun _=>(gH (p0l.take ((IntKind.i64.wrap ((p0l.length:Int) - 1)).toNat))).bind fun r3=>(chk (And (0<=r3) (r3<=(p0l.length:Int)))).bind fun _=>((dV n) (p0l.take r3.toNat)).bind fun r9=>(chk (And (0<=r3) (And (r3<=(IntKind.i64.wrap ((p0l.length:Int) - 1))) ((IntKind.i64.wrap ((p0l.length:Int) - 1))<=(p0l.length:Int))))).bind fun _=>((dV n) ((p0l.take ((IntKind.i64.wrap ((p0l.length:Int) - 1)).toNat)).drop r3.toNat)).bind fun r11=>some (Min.min 100000 (IntKind.i64.wrap ((IntKind.i64.wrap (r9+r11))+1)))) else (if x0.1==6 then ((chk (And (0<=(IntKind.i64.wrap ((p0l.length:Int) - 1))) ((IntKind.i64.wrap ((p0l.length:Int) - 1))<=(p0l.length:Int)))).bind fun _=>((dV n) (p0l.take ((IntKind.i64.wrap ((p0l.length:Int) - 1)).toNat))).bind fun r13=>some (Min.min 100000 (IntKind.i64.wrap (r13+1)))) else (if x0.1==7 then ((chk (And (0<=(IntKind.i64.wrap ((p0l.length:Int) - 1))) ((IntKind.i64.wrap ((p0l.length:Int) - 1))<=(p0l.length:Int)))).bind fun _=>((dV n) (p0l.take ((IntKind.i64.wrap ((p0l.length:Int) - 1)).toNat))).bind fun r17=>some (Min.min 100000 (IntKind.i64.wrap ((IntKind.i64.wrap ((IntKind.i64.wrap (r17+3))*x0.2.2.2))+1)))) else (some 1))))
def eI (p0l:List Yq1):Option (List Yq1):=
 (ct 32 ([] :List Yq1) p0l).bind fun z1=>some z1
def dR (p0a:(List Yq1)) (p1b:(List Yq1)) (p2t:Int×Int×Int×Int):Option (List Yq1):=
 (eI p0a).bind fun r1=>(ct 32 r1 p1b).bind fun z1=>(ct 32 z1 ([(p2t.1,p2t.2.1,p2t.2.2.1,p2t.2.2.2)])).bind fun z2=>some z2
def mf (p0kind:Int):Option (List Yq1):=
 some ([(p0kind,0,0,0)])
def jF:Nat->(List Yq1)->Int->Int->Option (List Yq1)
 | 0,_,_,_=>none
 | n+1,p0e,p1low,p2high =>
  if p2high==0 then ((mf 2).bind fun r0=>some r0) else (((jF n) p0e (Max.max 0 (IntKind.i64.wrap (p1low - 1))) (IntKind.i64.wrap (p2high - 1))).bind fun r3=>(dR p0e r3 (4,0,0,0)).bind fun r4=>if decide (p1low>0) then (some r4) else ((mf 2).bind fun r7=>(dR r4 r7 (5,0,0,0)).bind fun r8=>some r8))
def cQ:Nat->(List Yq1)->Option (List Yq1)
 | 0,_=>none
 | n+1,p0l =>
  (aP p0l (IntKind.i64.wrap ((p0l.length:Int) - 1))).bind fun x0=>Option.bind ((if x0.1==4 then (some (x0.1==4)) else (some (x0.1==5)):Option Bool)) (fun s1=>if s1 then ((chk (And (0<=(IntKind.i64.wrap ((p0l.length:Int) - 1))) ((IntKind.i64.wrap ((p0l.length:Int) - 1))<=(p0l.length:Int)))).bind fun _=>(gH (p0l.take ((IntKind.i64.wrap ((p0l.length:Int) - 1)).toNat))).bind fun r3=>(chk (And (0<=r3) (r3<=(p0l.length:Int)))).bind fun _=>((cQ n) (p0l.take r3.toNat)).bind fun r10=>(chk (And (0<=r3) (And (r3<=(IntKind.i64.wrap ((p0l.length:Int) - 1))) ((IntKind.i64.wrap ((p0l.length:Int) - 1))<=(p0l.length:Int))))).bind fun _=>((cQ n) ((p0l.take ((IntKind.i64.wrap ((p0l.length:Int) - 1)).toNat)).drop r3.toNat)).bind fun r12=>(dR r10 r12 (x0.1,x0.2.1,x0.2.2.1,x0.2.2.2)).bind fun r13=>some r13) else (if x0.1==6 then ((chk (And (0<=(IntKind.i64.wrap ((p0l.length:Int) - 1))) ((IntKind.i64.wrap ((p0l.length:Int) - 1))<=(p0l.length:Int)))).bind fun _=>((cQ n) (p0l.take ((IntKind.i64.wrap ((p0l.length:Int) - 1)).toNat))).bind fun r18=>(dR r18 ([] :List Yq1) (x0.1,x0.2.1,x0.2.2.1,x0.2.2.2)).bind fun r19=>some r19) else (if x0.1==7 then ((chk (And (0<=(IntKind.i64.wrap ((p0l.length:Int) - 1))) ((IntKind.i64.wrap ((p0l.length:Int) - 1))<=(p0l.length:Int)))).bind fun _=>((cQ n) (p0l.take ((IntKind.i64.wrap ((p0l.length:Int) - 1)).toNat))).bind fun r24=>(jF eE r24 x0.2.2.1 x0.2.2.2).bind fun r25=>some r25) else (some ([(x0.1,x0.2.1,x0.2.2.1,x0.2.2.2)])))))
def gj (p0e:(List Yq1)):Option (((List Yq1))×Bool):=
 (gG p0e).bind fun r1=>if r1 then ((dV eE p0e).bind fun r2=>if decide (r2>5000) then (some ([],false)) else ((cQ eE p0e).bind fun r3=>if decide ((r3.length:Int)>400) then (some ([],false)) else (some (r3,true)))) else (some ([],false))
def iY (p1from:Int) (p2to:Int) (s2:Int×List Int):Option (Out Yq7 (Int×List Int)):=
 if decide (s2.1<(s2.2.length:Int)) then (Option.bind (((chk (0<=s2.1)).bind fun _=>if (od (lT p1from s2.1) 1)==1 then ((aP s2.2 s2.1).bind fun x6=>(aP s2.2 s2.1).bind fun x7=>some (s2.2.set s2.1.toNat (orI x6 p2to))) else (some s2.2):Option (List Int))) (fun s8=>some (.nxt (IntKind.i64.wrap (s2.1+1),s8)))) else (some (.brk (s2.1,s2.2)))
def mF (p0p:(List Int)×Int×Int×(List Int)×Bool) (p1from:Int) (p2to:Int):Option Yq7:=
 aM (ay (iY p1from p2to) aQ (0,p0p.2.2.2.1)) (fun r9=>some r9) (fun s10=>some (p0p.1,p0p.2.1,p0p.2.2.1,s10.2,p0p.2.2.2.2))
def b7:Nat->Yq7->(List Yq1)->Option ((Bool×Int×Int)×(List Int)×Int×Int×(List Int)×Bool)
 | 0,_,_=>none
 | n+1,p0,p1 =>
  (aP p1 (IntKind.i64.wrap ((p1.length:Int) - 1))).bind fun x0=>if x0.1==2 then (some ((true,0,0),p0.1,p0.2.1,p0.2.2.1,p0.2.2.2.1,p0.2.2.2.2)) else (if x0.1==3 then ((ct 8 p0.1 ([x0.2.1])).bind fun z2=>(ct 8 p0.2.2.2.1 ([0])).bind fun z3=>some ((false,tn 1 (p0.1.length:Int),tn 1 (p0.1.length:Int)),z2,p0.2.1,p0.2.2.1,z3,p0.2.2.2.2)) else (if x0.1==4 then ((chk (And (0<=(IntKind.i64.wrap ((p1.length:Int) - 1))) ((IntKind.i64.wrap ((p1.length:Int) - 1))<=(p1.length:Int)))).bind fun _=>(gH (p1.take ((IntKind.i64.wrap ((p1.length:Int) - 1)).toNat))).bind fun r5=>(chk (And (0<=r5) (r5<=(p1.length:Int)))).bind fun _=>((b7 n) (p0.1,p0.2.1,p0.2.2.1,p0.2.2.2.1,p0.2.2.2.2) (p1.take r5.toNat)).bind fun r7=>(chk (And (0<=r5) (And (r5<=(IntKind.i64.wrap ((p1.length:Int) - 1))) ((IntKind.i64.wrap ((p1.length:Int) - 1))<=(p1.length:Int))))).bind fun _=>((b7 n) (r7.2.1,r7.2.2.1,r7.2.2.2.1,r7.2.2.2.2.1,r7.2.2.2.2.2) ((p1.take ((IntKind.i64.wrap ((p1.length:Int) - 1)).toNat)).drop r5.toNat)).bind fun r9=>(mF (r9.2.1,r9.2.2.1,r9.2.2.2.1,r9.2.2.2.2.1,r9.2.2.2.2.2) r7.1.2.2 r9.1.2.1).bind fun r10=>if r7.1.1 then (Option.bind ((if r7.1.1 then (some (r9.1.1,orI r7.1.2.1 r9.1.2.1,r9.1.2.2)) else (some (r9.1.1,r7.1.2.1,r9.1.2.2)):Option (Bool×Int×Int))) (fun s11=>Option.bind ((if r9.1.1 then (some (s11.1,s11.2.1,orI r7.1.2.2 r9.1.2.2)) else (some (s11.1,s11.2.1,s11.2.2)):Option (Bool×Int×Int))) (fun s12=>some ((s12.1,s12.2.1,s12.2.2),r10.1,r10.2.1,r10.2.2.1,r10.2.2.2.1,r10.2.2.2.2)))) else (Option.bind ((if r7.1.1 then (some (false,orI r7.1.2.1 r9.1.2.1,r9.1.2.2)) else (some (false,r7.1.2.1,r9.1.2.2)):Option (Bool×Int×Int))) (fun s13=>Option.bind ((if r9.1.1 then (some (s13.1,s13.2.1,orI r7.1.2.2 r9.1.2.2)) else (some (s13.1,s13.2.1,s13.2.2)):Option (Bool×Int×Int))) (fun s14=>some ((s14.1,s14.2.1,s14.2.2),r10.1,r10.2.1,r10.2.2.1,r10.2.2.2.1,r10.2.2.2.2))))) else (if x0.1==5 then ((chk (And (0<=(IntKind.i64.wrap ((p1.length:Int) - 1))) ((IntKind.i64.wrap ((p1.length:Int) - 1))<=(p1.length:Int)))).bind fun _=>(gH (p1.take ((IntKind.i64.wrap ((p1.length:Int) - 1)).toNat))).bind fun r16=>(chk (And (0<=r16) (r16<=(p1.length:Int)))).bind fun _=>((b7 n) (p0.1,p0.2.1,p0.2.2.1,p0.2.2.2.1,p0.2.2.2.2) (p1.take r16.toNat)).bind fun r18=>(chk (And (0<=r16) (And (r16<=(IntKind.i64.wrap ((p1.length:Int) - 1))) ((IntKind.i64.wrap ((p1.length:Int) - 1))<=(p1.length:Int))))).bind fun _=>((b7 n) (r18.2.1,r18.2.2.1,r18.2.2.2.1,r18.2.2.2.2.1,r18.2.2.2.2.2) ((p1.take ((IntKind.i64.wrap ((p1.length:Int) - 1)).toNat)).drop r16.toNat)).bind fun r20=>if r18.1.1 then (some ((true,orI r18.1.2.1 r20.1.2.1,orI r18.1.2.2 r20.1.2.2),r20.2.1,r20.2.2.1,r20.2.2.2.1,r20.2.2.2.2.1,r20.2.2.2.2.2)) else (some ((r20.1.1,orI r18.1.2.1 r20.1.2.1,orI r18.1.2.2 r20.1.2.2),r20.2.1,r20.2.2.1,r20.2.2.2.1,r20.2.2.2.2.1,r20.2.2.2.2.2))) else (if x0.1==6 then ((chk (And (0<=(IntKind.i64.wrap ((p1.length:Int) - 1))) ((IntKind.i64.wrap ((p1.length:Int) - 1))<=(p1.length:Int)))).bind fun _=>((b7 n) (p0.1,p0.2.1,p0.2.2.1,p0.2.2.2.1,p0.2.2.2.2) (p1.take ((IntKind.i64.wrap ((p1.length:Int) - 1)).toNat))).bind fun r22=>(mF (r22.2.1,r22.2.2.1,r22.2.2.2.1,r22.2.2.2.2.1,r22.2.2.2.2.2) r22.1.2.2 r22.1.2.1).bind fun r23=>some ((true,r22.1.2.1,r22.1.2.2),r23.1,r23.2.1,r23.2.2.1,r23.2.2.2.1,r23.2.2.2.2)) else (some ((false,0,0),p0.1,p0.2.1,p0.2.2.1,p0.2.2.2.1,p0.2.2.2.2))))))
def dn (r0:(List Yq1)×Bool) (s2:Int×Int):Option (Out (Yq7×Bool) (Int×Int)):=
 if decide (s2.2<(r0.1.length:Int)) then (Option.bind (((aP r0.1 s2.2).bind fun x3=>if x3.1==3 then (some (IntKind.i64.wrap (s2.1+1))) else (some s2.1):Option Int)) (fun s4=>some (.nxt (s4,IntKind.i64.wrap (s2.2+1))))) else (some (.brk (s2.1,s2.2)))
def cR (p0e:List Yq1):Option (Yq7×Bool):=
 (gj p0e).bind fun r0=>if r0.2 then (aM (ay (dn r0) aQ (0,0)) (fun r5=>some r5) (fun s6=>if decide (s6.1>20) then (some ((([] :List Int),0,0,([] :List Int),false),false)) else ((b7 eE (([] :List Int),0,0,([] :List Int),false) r0.1).bind fun r7=>some ((r7.2.1,r7.1.2.1,r7.1.2.2,r7.2.2.2.2.1,r7.1.1),true)))) else (some ((([] :List Int),0,0,([] :List Int),false),false))
def gI (p0p:(List Int)×Int×Int×(List Int)×Bool) (p1set:Int) (s6:Int×Int):Option Jk:=
 if decide (s6.2<(p0p.1.length:Int)) then (Option.bind (((chk (0<=IntKind.i64.wrap (s6.2+1))).bind fun _=>if (od (lT p1set (IntKind.i64.wrap (s6.2+1))) 1)==1 then ((aP p0p.2.2.2.1 s6.2).bind fun x6=>some (orI s6.1 x6)) else (some s6.1):Option Int)) (fun s8=>some (.nxt (s8,IntKind.i64.wrap (s6.2+1))))) else (some (.brk (s6.1,s6.2)))
def gJ (p0p:(List Int)×Int×Int×(List Int)×Bool) (p2letter:Int) (s7:Int×Int) (s13:Int×Int):Option Jk:=
 if decide (s13.2<(p0p.1.length:Int)) then (Option.bind (((chk (0<=s13.2)).bind fun _=>if (od (lT s7.1 s13.2) 1)==1 then ((aP p0p.1 s13.2).bind fun x12=>if x12==p2letter then ((chk (0<=IntKind.i64.wrap (s13.2+1))).bind fun _=>some (orI s13.1 (tn 1 (IntKind.i64.wrap (s13.2+1))))) else (some s13.1)) else (some s13.1):Option Int)) (fun s15=>some (.nxt (s15,IntKind.i64.wrap (s13.2+1))))) else (some (.brk (s13.1,s13.2)))
def nz (p0p:(List Int)×Int×Int×(List Int)×Bool) (p1set:Int) (p2letter:Int):Option Int:=
 Option.bind ((if (od p1set 1)==1 then (some p0p.2.1) else (some 0):Option Int)) (fun s1=>aM (ay (gI p0p p1set) aQ (s1,0)) (fun r=>some r) (fun s7=>aM (ay (gJ p0p p2letter s7) aQ (0,0)) (fun r=>some r) (fun s14=>some s14.1)))
def nT (p0l:List Int) (p1x:Int) (s3:Int):Option (Out Int Int):=
 if decide (s3<(p0l.length:Int)) then ((aP p0l s3).bind fun x3=>if x3==p1x then (some (.ret s3)) else (some (.nxt (IntKind.i64.wrap (s3+1))))) else (some (.brk s3))
def mG (p0l:List Int) (p1x:Int):Option Int:=
 aM (ay (nT p0l p1x) aQ 0) (fun r=>some r) (fun s4=>some (-1))
def kN (p0p:(List Int)×Int×Int×(List Int)×Bool) (p1set:Int):Option Bool:=
 if (od p1set 1)==1 then (if p0p.2.2.2.2 then (some true) else (some ((od (lT p1set 1) p0p.2.2.1) !=0))) else (some ((od (lT p1set 1) p0p.2.2.1) !=0))
def fw (p0:(List Int)×Int×Int×(List Int)×Bool) (s17:(List Int)×Int×Int×(List Bool)×(List (List Int))) (s23:(List Int)×(List Int)×Int):Option (Out (Yq2×Bool) ((List Int)×(List Int)×Int)):=
 if decide (s23.2.2<9) then ((aP s23.1 s17.2.1).bind fun x11=>(nz (p0.1,p0.2.1,p0.2.2.1,p0.2.2.2.1,p0.2.2.2.2) x11 s23.2.2).bind fun r27=>Option.bind ((if r27 !=0 then ((mG s23.1 r27).bind fun r29=>if decide (r29<0) then ((ct 8 s23.1 ([r27])).bind fun z30=>some (z30,(s23.1.length:Int))) else (some (s23.1,r29))) else (some (s23.1,-1)):Option ((List Int)×Int))) (fun s25=>(ct 8 s23.2.1 ([s25.2])).bind fun z31=>some (.nxt (s25.1,z31,IntKind.i64.wrap (s23.2.2+1))))) else (some (.brk (s23.1,s23.2.1,s23.2.2)))
def fx (p0:(List Int)×Int×Int×(List Int)×Bool) (p1:Int) (s17:(List Int)×Int×Int×(List Bool)×(List (List Int))):Option (Out (Yq2×Bool) ((List Int)×Int×Int×(List Bool)×(List (List Int)))):=
 if decide (s17.2.1<(s17.1.length:Int)) then (aM (ay (fw p0 s17) aQ (s17.1,([] :List Int),0)) (fun r=>some (.ret r)) (fun s24=>if decide ((s24.1.length:Int)>p1) then (some (.ret ((0,[],[]),false))) else ((aP s24.1 s17.2.1).bind fun x12=>(kN (p0.1,p0.2.1,p0.2.2.1,p0.2.2.2.1,p0.2.2.2.2) x12).bind fun r30=>(ct 1 s17.2.2.2.1 ([r30])).bind fun z32=>(ct 24 s17.2.2.2.2 ([s24.2.1])).bind fun z33=>some (.nxt (s24.1,IntKind.i64.wrap (s17.2.1+1),s17.2.2.1,z32,z33))))) else (some (.brk (s17.1,s17.2.1,s17.2.2.1,s17.2.2.2.1,s17.2.2.2.2)))
def dk (p0:(List Int)×Int×Int×(List Int)×Bool) (p1:Int):Option (Yq2×Bool):=
 aM (ay (fx p0 p1) aQ ([1],0,0,[],[])) (fun r=>some r) (fun s18=>some ((s18.2.2.1,s18.2.2.2.1,s18.2.2.2.2),true))
def vh (s3:(List Int)×Int):Option (Out Yq2 ((List Int)×Int)):=
 if decide (s3.2<9) then ((ct 8 s3.1 ([-1])).bind fun z3=>some (.nxt (z3,IntKind.i64.wrap (s3.2+1)))) else (some (.brk (s3.1,s3.2)))
def nU:Option Yq2:=
 aM (ay (vh) aQ (([] :List Int),0)) (fun r=>some r) (fun s4=>some (0,[false],[s4.1]))
def fZ (p0:Int×(List Bool)×(List (List Int))) (p1:List Int) (p2:List Bool) (s17:(List Int)×(List Int)×Int×Int×(List Bool)×(List (List Int))) (s23:(List Int)×(List Int)×(List Int)×Int):Option (Out Yq2 ((List Int)×(List Int)×(List Int)×Int)):=
 if decide (s23.2.2.2<9) then ((aP s23.2.1 s17.2.2.1).bind fun x79=>(aP p0.2.2 x79).bind fun x80=>(aP x80 s23.2.2.2).bind fun x81=>Option.bind ((if decide (x81≥0) then ((aP p2 x81).bind fun x85=>if x85 then ((aP p1 x81).bind fun x86=>(mG s23.1 x86).bind fun r28=>if decide (r28<0) then ((aP p1 x81).bind fun x87=>(ct 8 s23.1 ([x87])).bind fun z47=>(ct 8 s23.2.1 ([x81])).bind fun z48=>some (z47,z48,(s23.1.length:Int))) else (some (s23.1,s23.2.1,r28))) else (some (s23.1,s23.2.1,-1))) else (some (s23.1,s23.2.1,-1)):Option ((List Int)×(List Int)×Int))) (fun s25=>(ct 8 s23.2.2.1 ([s25.2.2])).bind fun z49=>some (.nxt (s25.1,s25.2.1,z49,IntKind.i64.wrap (s23.2.2.2+1))))) else (some (.brk (s23.1,s23.2.1,s23.2.2.1,s23.2.2.2)))
def jo (p0:Int×(List Bool)×(List (List Int))) (p1:List Int) (p2:List Bool) (s17:(List Int)×(List Int)×Int×Int×(List Bool)×(List (List Int))):Option (Out Yq2 ((List Int)×(List Int)×Int×Int×(List Bool)×(List (List Int)))):=
 if decide (s17.2.2.1<(s17.1.length:Int)) then (aM (ay (fZ p0 p1 p2 s17) aQ (s17.1,s17.2.1,([] :List Int),0)) (fun r=>some (.ret r)) (fun s24=>(aP s24.2.1 s17.2.2.1).bind fun x88=>(aP p0.2.1 x88).bind fun x89=>(ct 1 s17.2.2.2.2.1 ([x89])).bind fun z50=>(ct 24 s17.2.2.2.2.2 ([s24.2.2.1])).bind fun z51=>some (.nxt (s24.1,s24.2.1,IntKind.i64.wrap (s17.2.2.1+1),s17.2.2.2.1,z50,z51)))) else (some (.brk (s17.1,s17.2.1,s17.2.2.1,s17.2.2.2.1,s17.2.2.2.2.1,s17.2.2.2.2.2)))
def iw (p0:Int×(List Bool)×(List (List Int))) (p1:List Int) (p2:List Bool):Option Yq2:=
 (aP p2 p0.1).bind fun x1=>if x1 then ((aP p1 p0.1).bind fun x2=>aM (ay (jo p0 p1 p2) aQ ([x2],[p0.1],0,0,[],[])) (fun r=>some r) (fun s18=>some (s18.2.2.2.1,s18.2.2.2.2.1,s18.2.2.2.2.2))) else ((nU).bind fun r1=>some (r1.1,r1.2.1,r1.2.2))
def nA (p0a:List Int) (p1b:List Int) (s3:Int):Option (Out Int Int):=
 if decide (s3<(p0a.length:Int)) then (if decide (s3<(p1b.length:Int)) then ((aP p0a s3).bind fun x9=>(aP p1b s3).bind fun x10=>if decide (x9<x10) then (some (.ret (-1))) else ((aP p0a s3).bind fun x11=>(aP p1b s3).bind fun x12=>if decide (x11>x12) then (some (.ret 1)) else (some (.nxt (IntKind.i64.wrap (s3+1)))))) else (some (.brk s3))) else (some (.brk s3))
def oo (p0a:List Int) (p1b:List Int):Option Int:=
 aM (ay (nA p0a p1b) aQ 0) (fun r=>some r) (fun s4=>if decide ((p0a.length:Int)<(p1b.length:Int)) then (some (-1)) else (if decide ((p0a.length:Int)>(p1b.length:Int)) then (some 1) else (some 0)))
def iZ (p0a:Int×(List Bool)×(List (List Int))) (s71:(List Bool)×Int) (s77:(List Bool)×Int):Option (Out (List Bool) ((List Bool)×Int)):=
 if decide (s77.2<9) then (Option.bind (((aP p0a.2.2 s71.2).bind fun x319=>(aP x319 s77.2).bind fun x320=>if decide (x320≥0) then ((aP p0a.2.2 s71.2).bind fun x321=>(aP x321 s77.2).bind fun x322=>(aP s77.1 x322).bind fun x323=>if x323 then ((aP s77.1 s71.2).bind fun x324=>some (s77.1.set s71.2.toNat true)) else (some s77.1)) else (some s77.1):Option (List Bool))) (fun s79=>some (.nxt (s79,IntKind.i64.wrap (s77.2+1))))) else (some (.brk (s77.1,s77.2)))
def ja (p0a:Int×(List Bool)×(List (List Int))) (s71:(List Bool)×Int):Option (Out (List Bool) ((List Bool)×Int)):=
 if decide (s71.2<(p0a.2.1.length:Int)) then (aM (ay (iZ p0a s71) aQ (s71.1,0)) (fun r=>some (.ret r)) (fun s78=>some (.nxt (s78.1,IntKind.i64.wrap (s71.2+1))))) else (some (.brk (s71.1,s71.2)))
def kO (p0a:Int×(List Bool)×(List (List Int))) (s53:(List Bool)×Int):Option (Out (List Bool) ((List Bool)×Int)):=
 if decide (s53.2<(p0a.2.1.length:Int)) then (aM (ay (ja p0a) aQ (s53.1,0)) (fun r=>some (.ret r)) (fun s72=>some (.nxt (s72.1,IntKind.i64.wrap (s53.2+1))))) else (some (.brk (s53.1,s53.2)))
def kA (p0a:Int×(List Bool)×(List (List Int))):Option (List Bool):=
 (ct 1 ([] :List Bool) p0a.2.1).bind fun z1=>aM (ay (kO p0a) aQ (z1,0)) (fun r=>some r) (fun s54=>some s54.1)
def lW (p0a:Int×(List Bool)×(List (List Int))) (p1classes:List Int) (p2s:Int) (s5:(List Int)×Int):Option Yq8:=
 if decide (s5.2<9) then (Option.bind (((aP p0a.2.2 p2s).bind fun x17=>(aP x17 s5.2).bind fun x18=>if decide (x18<0) then ((ct 8 s5.1 ([-1])).bind fun z12=>some z12) else ((aP p1classes x18).bind fun x19=>(ct 8 s5.1 ([x19])).bind fun z11=>some z11):Option (List Int))) (fun s7=>some (.nxt (s7,IntKind.i64.wrap (s5.2+1))))) else (some (.brk (s5.1,s5.2)))
def oq (p0a:Int×(List Bool)×(List (List Int))) (p1classes:List Int) (p2s:Int):Option (List Int):=
 (aP p1classes p2s).bind fun x1=>aM (ay (lW p0a p1classes p2s) aQ ([x1],0)) (fun r=>some r) (fun s6=>some s6.1)
def fy (p0:Int×(List Bool)×List (List Int)) (r0:List Bool) (s2:(List Int)×Int):Option Yq8:=
 if decide (s2.2<(p0.2.1.length:Int)) then ((aP p0.2.1 s2.2).bind fun x3=>Option.bind ((if x3 then (some 1) else (some 0):Option Int)) (fun s4=>(aP r0 s2.2).bind fun x5=>Option.bind ((if x5 then (some s4) else (some (-1)):Option Int)) (fun s6=>(ct 8 s2.1 ([s6])).bind fun z7=>some (.nxt (z7,IntKind.i64.wrap (s2.2+1)))))) else (some (.brk (s2.1,s2.2)))
def fA (s13:(List (List Int))×(List Int)×Int) (r16:List Int) (s18:Int×Int):Option (Out (List Int) (Int×Int)):=
 if decide (s18.2<(s13.1.length:Int)) then (Option.bind (((aP s13.1 s18.2).bind fun x19=>(oo x19 r16).bind fun r20=>if r20==0 then (some s18.2) else (some s18.1):Option Int)) (fun s21=>some (.nxt (s21,IntKind.i64.wrap (s18.2+1))))) else (some (.brk (s18.1,s18.2)))
def fB (p0:Int×(List Bool)×List (List Int)) (s11:(List Int)×Int) (s13:(List (List Int))×(List Int)×Int):Option (Out (List Int) ((List (List Int))×(List Int)×Int)):=
 if decide (s13.2.2<(p0.2.1.length:Int)) then (Option.bind (((aP s11.1 s13.2.2).bind fun x14=>if decide (x14<0) then ((ct 8 s13.2.1 ([(-1)])).bind fun z15=>some (s13.1,z15)) else ((oq (p0.1,p0.2.1,p0.2.2) s11.1 s13.2.2).bind fun r16=>aM (ay (fA s13 r16) aQ ((-1),0)) (fun r22=>none) (fun s23=>Option.bind ((if decide (s23.1<0) then ((ct 24 s13.1 ([r16])).bind fun z24=>some (z24,(s13.1.length:Int))) else (some (s13.1,s23.1)):Option ((List (List Int))×Int))) (fun s25=>(ct 8 s13.2.1 ([s25.2])).bind fun z26=>some (s25.1,z26)))):Option ((List (List Int))×List Int))) (fun s27=>some (.nxt (s27.1,s27.2,IntKind.i64.wrap (s13.2.2+1))))) else (some (.brk (s13.1,s13.2.1,s13.2.2)))
def kB (p0:Int×(List Bool)×List (List Int)) (s11:(List Int)×Int):Option Yq8:=
 if decide (s11.2<=(p0.2.1.length:Int)) then (aM (ay (fB p0 s11) aQ (([] :List (List Int)),([] :List Int),0)) (fun r28=>some (.ret r28)) (fun s29=>(oo s29.2.1 s11.1).bind fun r30=>if r30==0 then (some (.ret s11.1)) else (some (.nxt (s29.2.1,IntKind.i64.wrap (s11.2+1)))))) else (some (.brk (s11.1,s11.2)))
def jb (p0:Int×(List Bool)×List (List Int)):Option (List Int):=
 (kA (p0.1,p0.2.1,p0.2.2)).bind fun r0=>aM (ay (fy p0 r0) aQ (([] :List Int),0)) (fun r8=>some r8) (fun s9=>aM (ay (kB p0) aQ (s9.1,0)) (fun r31=>some r31) (fun s32=>some s32.1))
def fC (p0a:Int×(List Bool)×(List (List Int))):Option Yq2:=
 (jb (p0a.1,p0a.2.1,p0a.2.2)).bind fun r1=>(kA (p0a.1,p0a.2.1,p0a.2.2)).bind fun r2=>(iw (p0a.1,p0a.2.1,p0a.2.2) r1 r2).bind fun r3=>some (r3.1,r3.2.1,r3.2.2)
def m_s_CompileExpr (p0e:(List Yq1)):Option (Yq2×Bool):=
 (cR p0e).bind fun r1=>if r1.2 then ((dk (r1.1.1,r1.1.2.1,r1.1.2.2.1,r1.1.2.2.2.1,r1.1.2.2.2.2) 200).bind fun r2=>if r2.2 then ((fC (r2.1.1,r2.1.2.1,r2.1.2.2)).bind fun r3=>if decide ((r3.2.1.length:Int)>12) then (some ((0,[],[]),false)) else (some ((r3.1,r3.2.1,r3.2.2),true))) else (some ((0,[],[]),false))) else (some ((0,[],[]),false))
def fg (p0:Int×(List Bool)×(List (List Int))) (p1:Int×(List Bool)×(List (List Int))) (s3:Int):Option (Out Bool Int):=
 if decide (s3<(p0.2.1.length:Int)) then ((aP p0.2.1 s3).bind fun x5=>(aP p1.2.1 s3).bind fun x6=>if x5 !=x6 then (some (.ret false)) else (some (.nxt (IntKind.i64.wrap (s3+1))))) else (some (.brk s3))
def fh (p0:Int×(List Bool)×(List (List Int))) (p1:Int×(List Bool)×(List (List Int))) (s7:Int):Option (Out Bool Int):=
 if decide (s7<(p0.2.2.length:Int)) then ((aP p0.2.2 s7).bind fun x11=>(aP p1.2.2 s7).bind fun x12=>(oo x11 x12).bind fun r9=>if r9 !=0 then (some (.ret false)) else (some (.nxt (IntKind.i64.wrap (s7+1))))) else (some (.brk s7))
def fD (p0:Int×(List Bool)×(List (List Int))) (p1:Int×(List Bool)×(List (List Int))):Option Bool:=
 if p0.1 !=p1.1 then (some false) else (if (p0.2.1.length:Int) !=(p1.2.1.length:Int) then (some false) else (if (p0.2.2.length:Int) !=(p1.2.2.length:Int) then (some false) else (aM (ay (fg p0 p1) aQ 0) (fun r=>some r) (fun s4=>aM (ay (fh p0 p1) aQ 0) (fun r=>some r) (fun s8=>some true)))))
def dq (p0l:List Yq2) (p1a:Int×(List Bool)×(List (List Int))) (s3:Int):Option (Out Int Int):=
 if decide (s3<(p0l.length:Int)) then ((aP p0l s3).bind fun x3=>(fD (x3.1,x3.2.1,x3.2.2) (p1a.1,p1a.2.1,p1a.2.2)).bind fun r9=>if r9 then (some (.ret s3)) else (some (.nxt (IntKind.i64.wrap (s3+1))))) else (some (.brk s3))
def dQ (p0l:List Yq2) (p1a:Int×(List Bool)×(List (List Int))):Option Int:=
 aM (ay (dq p0l p1a) aQ 0) (fun r=>some r) (fun s4=>some (-1))
def bp (p0:List Yq3) (s7:Int×(List Yq2)×(List Yq3)):Option (Out (Ng×Bool) QJ):=
 if decide (s7.1<(p0.length:Int)) then ((aP p0 s7.1).bind fun x17=>(m_s_CompileExpr x17.2.1).bind fun r20=>if r20.2 then ((aP p0 s7.1).bind fun x18=>(eP x18.1 1 99).bind fun r21=>if r21 then (if decide (s7.1>0) then ((aP p0 (IntKind.i64.wrap (s7.1 - 1))).bind fun x21=>(aP p0 s7.1).bind fun x22=>if decide (x21.1≥x22.1) then (some (.ret (([],[]),false))) else ((dQ s7.2.1 (r20.1.1,r20.1.2.1,r20.1.2.2)).bind fun r25=>Option.bind ((if decide (r25<0) then ((ct 56 s7.2.1 ([(r20.1.1,r20.1.2.1,r20.1.2.2)])).bind fun z17=>some ((s7.2.1.length:Int),z17,s7.2.2)) else (some (r25,s7.2.1,s7.2.2)):Option QJ)) (fun s10=>(aP p0 s7.1).bind fun x23=>(aP p0 s7.1).bind fun x24=>(eI x24.2.1).bind fun r27=>(ct 40 s10.2.2 ([(x23.1,r27,s10.1)])).bind fun z18=>some (.nxt (IntKind.i64.wrap (s7.1+1),s10.2.1,z18))))) else ((dQ s7.2.1 (r20.1.1,r20.1.2.1,r20.1.2.2)).bind fun r22=>Option.bind ((if decide (r22<0) then ((ct 56 s7.2.1 ([(r20.1.1,r20.1.2.1,r20.1.2.2)])).bind fun z14=>some ((s7.2.1.length:Int),z14,s7.2.2)) else (some (r22,s7.2.1,s7.2.2)):Option QJ)) (fun s9=>(aP p0 s7.1).bind fun x19=>(aP p0 s7.1).bind fun x20=>(eI x20.2.1).bind fun r24=>(ct 40 s9.2.2 ([(x19.1,r24,s9.1)])).bind fun z15=>some (.nxt (IntKind.i64.wrap (s7.1+1),s9.2.1,z15))))) else (some (.ret (([],[]),false)))) else (some (.ret (([],[]),false)))) else (some (.brk (s7.1,s7.2.1,s7.2.2)))
def b8 (p0:List Yq3):Option (Ng×Bool):=
 if decide ((p0.length:Int)>4) then (some (([],[]),false)) else (aM (ay (bp p0) aQ (0,[],[])) (fun r=>some r) (fun s8=>some ((s8.2.1,s8.2.2),true)))
def ix (p0a:(List Yq1)) (p1b:(List Yq1)) (s3:Int):Option (Out Bool Int):=
 if decide (s3<(p0a.length:Int)) then ((aP p0a s3).bind fun x5=>(aP p1b s3).bind fun x6=>if (x5.1==x6.1)&&((x5.2.1==x6.2.1)&&((x5.2.2.1==x6.2.2.1)&&((x5.2.2.2==x6.2.2.2)&&true))) then (some (.nxt (IntKind.i64.wrap (s3+1)))) else (some (.ret false))) else (some (.brk s3))
def kP (p0a:(List Yq1)) (p1b:(List Yq1)):Option Bool:=
 if (p0a.length:Int) !=(p1b.length:Int) then (some false) else (aM (ay (ix p0a p1b) aQ 0) (fun r=>some r) (fun s4=>some true))
def eB (p0:(List Yq2)×(List Yq3)) (p1:(List Yq2)×(List Yq3)) (s3:Int):Option (Out Bool Int):=
 if decide (s3<(p0.1.length:Int)) then ((aP p0.1 s3).bind fun x5=>(aP p1.1 s3).bind fun x6=>(fD (x5.1,x5.2.1,x5.2.2) (x6.1,x6.2.1,x6.2.2)).bind fun r15=>if r15 then (some (.nxt (IntKind.i64.wrap (s3+1)))) else (some (.ret false))) else (some (.brk s3))
def eC (p0:(List Yq2)×(List Yq3)) (p1:(List Yq2)×(List Yq3)) (s7:Int):Option (Out Bool Int):=
 if decide (s7<(p0.2.length:Int)) then ((aP p0.2 s7).bind fun x19=>(aP p1.2 s7).bind fun x20=>if x19.1 !=x20.1 then (some (.ret false)) else ((aP p0.2 s7).bind fun x21=>(aP p1.2 s7).bind fun x22=>(kP x21.2.1 x22.2.1).bind fun r24=>if r24 then ((aP p0.2 s7).bind fun x23=>(aP p1.2 s7).bind fun x24=>if x23.2.2 !=x24.2.2 then (some (.ret false)) else (some (.nxt (IntKind.i64.wrap (s7+1))))) else (some (.ret false)))) else (some (.brk s7))
def fN (p0:(List Yq2)×(List Yq3)) (p1:(List Yq2)×(List Yq3)):Option Bool:=
 if (p0.1.length:Int) !=(p1.1.length:Int) then (some false) else (if (p0.2.length:Int) !=(p1.2.length:Int) then (some false) else (aM (ay (eB p0 p1) aQ 0) (fun r=>some r) (fun s4=>aM (ay (eC p0 p1) aQ 0) (fun r=>some r) (fun s8=>some true))))
def bI (p0r:(List Yq2)×(List Yq3)):Option Bool:=
 (b8 p0r.2).bind fun r1=>if r1.2 then ((fN (r1.1.1,r1.1.2) (p0r.1,p0r.2)).bind fun r2=>some r2) else (some false)
def cD (p0r:(List Yq2)×(List Yq3)) (p1id:Int) (s3:Int):Option (Out Int Int):=
 if decide (s3<(p0r.2.length:Int)) then ((aP p0r.2 s3).bind fun x3=>if x3.1==p1id then (some (.ret s3)) else (some (.nxt (IntKind.i64.wrap (s3+1))))) else (some (.brk s3))
def dJ (p0r:(List Yq2)×(List Yq3)) (p1id:Int):Option Int:=
 aM (ay (cD p0r p1id) aQ 0) (fun r=>some r) (fun s4=>some (-1))
def jc (p0a:Int×(List Bool)×(List (List Int))) (s3:Int×Int×(List Bool)×(List (List Int))):Option (Out Yq2 (Int×Int×(List Bool)×(List (List Int)))):=
 if decide (s3.1<(p0a.2.2.length:Int)) then ((aP p0a.2.2 s3.1).bind fun x3=>(ct 8 ([] :List Int) x3).bind fun z6=>(ct 24 s3.2.2.2 ([z6])).bind fun z7=>some (.nxt (IntKind.i64.wrap (s3.1+1),s3.2.1,s3.2.2.1,z7))) else (some (.brk (s3.1,s3.2.1,s3.2.2.1,s3.2.2.2)))
def mH (p0a:Int×(List Bool)×(List (List Int))):Option Yq2:=
 (ct 1 ([] :List Bool) p0a.2.1).bind fun z1=>aM (ay (jc p0a) aQ (0,p0a.1,z1,[])) (fun r=>some r) (fun s4=>some (s4.2.1,s4.2.2.1,s4.2.2.2))
def jd (p0r:(List Yq2)×(List Yq3)) (s3:Int×(List Yq2)×(List Yq3)):Option (Out Ng QJ):=
 if decide (s3.1<(p0r.1.length:Int)) then ((aP p0r.1 s3.1).bind fun x3=>(mH (x3.1,x3.2.1,x3.2.2)).bind fun r9=>(ct 56 s3.2.1 ([(r9.1,r9.2.1,r9.2.2)])).bind fun z3=>some (.nxt (IntKind.i64.wrap (s3.1+1),z3,s3.2.2))) else (some (.brk (s3.1,s3.2.1,s3.2.2)))
def je (p0r:(List Yq2)×(List Yq3)) (s7:Int×(List Yq2)×(List Yq3)):Option (Out Ng QJ):=
 if decide (s7.1<(p0r.2.length:Int)) then ((aP p0r.2 s7.1).bind fun x6=>(eI x6.2.1).bind fun r15=>(ct 40 s7.2.2 ([(x6.1,r15,x6.2.2)])).bind fun z6=>some (.nxt (IntKind.i64.wrap (s7.1+1),s7.2.1,z6))) else (some (.brk (s7.1,s7.2.1,s7.2.2)))
def kC (p0r:(List Yq2)×(List Yq3)):Option Ng:=
 aM (ay (jd p0r) aQ (0,[],[])) (fun r=>some r) (fun s4=>aM (ay (je p0r) aQ (0,s4.2.1,s4.2.2)) (fun r=>some r) (fun s8=>some (s8.2.1,s8.2.2)))
def lM (p0:(List Yq2)×(List Yq3)) (p1:Int) (s3:Int):Option (Out (Ng×Bool) Int):=
 if decide (s3<(p0.2.length:Int)) then ((aP p0.2 s3).bind fun x3=>if decide (x3.1<p1) then (some (.nxt (IntKind.i64.wrap (s3+1)))) else (some (.brk s3))) else (some (.brk s3))
def fE (p0:(List Yq2)×(List Yq3)) (p1:Int) (p2:(List Yq1)):Option (Ng×Bool):=
 (bI (p0.1,p0.2)).bind fun r1=>if r1 then ((dJ (p0.1,p0.2) p1).bind fun r3=>if decide (r3≥0) then ((kC (p0.1,p0.2)).bind fun r6=>some ((r6.1,r6.2),false)) else (aM (ay (lM p0 p1) aQ 0) (fun r=>some r) (fun s4=>(chk (0<=s4/\s4<=(p0.2.length:Int))).bind fun _=>(ct 40 ([] :List Yq3) (p0.2.take s4.toNat)).bind fun z1=>(ct 40 z1 ([(p1,p2,0)])).bind fun z2=>(chk (0<=s4/\s4<=(p0.2.length:Int))).bind fun _=>(ct 40 z2 (p0.2.drop s4.toNat)).bind fun z3=>(b8 z3).bind fun r4=>if r4.2 then (some ((r4.1.1,r4.1.2),true)) else ((kC (p0.1,p0.2)).bind fun r5=>some ((r5.1,r5.2),false))))) else ((kC (p0.1,p0.2)).bind fun r2=>some ((r2.1,r2.2),false))
def Dr (p0s:ByteArray) (p1sep:Int) (s1:(List ByteArray)×Int×Int):Option (Out (List ByteArray) ((List ByteArray)×Int×Int)):=
 if decide (s1.2.2<((p0s.size:Nat):Int)) then (Option.bind (((ER p0s s1.2.2).bind fun z2=>if z2==p1sep then ((Sx p0s s1.2.1 s1.2.2).bind fun z3=>(ct 16 s1.1 ([z3])).bind fun z4=>some (z4,IntKind.i64.wrap (s1.2.2+1))) else (some (s1.1,s1.2.1)):Option ((List ByteArray)×Int))) (fun s5=>some (.nxt (s5.1,s5.2,IntKind.i64.wrap (s1.2.2+1))))) else (some (.brk (s1.1,s1.2.1,s1.2.2)))
def Ds (p0s:ByteArray) (p1sep:Int):Option (List ByteArray):=
 aM (ay (Dr p0s p1sep) aQ (([] :List ByteArray),0,0)) (fun r6=>some r6) (fun s7=>(Sx p0s s7.2.1 ((p0s.size:Nat):Int)).bind fun z8=>(ct 16 s7.1 ([z8])).bind fun z9=>some z9)
def lE (p0n:Int):Option ByteArray:=
 (kX p0n).bind fun r1=>if r1 then ((aP ([(⟨#[97]⟩:ByteArray),(⟨#[97,45]⟩:ByteArray),(⟨#[98]⟩:ByteArray),(⟨#[98,45]⟩:ByteArray),(⟨#[99]⟩:ByteArray),(⟨#[99,45]⟩:ByteArray),(⟨#[48]⟩:ByteArray),(⟨#[49]⟩:ByteArray),(⟨#[50]⟩:ByteArray)]) p0n).bind fun x1=>some x1) else (some (⟨#[]⟩:ByteArray))
def wt (s1:Int×ByteArray):Option (Out ByteArray (Int×ByteArray)):=
 if s1.1 !=0 then (Option.bind ((if decide ((Int.tmod s1.1 10)<0) then (some (IntKind.i64.wrap (-(Int.tmod s1.1 10)))) else (some (Int.tmod s1.1 10)):Option Int)) (fun s2=>(Sw (xF ([IntKind.u8.wrap (IntKind.i64.wrap (48+s2))])) s1.2).bind fun z3=>some (.nxt (Ed s1.1 10,z3)))) else (some (.brk (s1.1,s1.2)))
def pa (p0n:Int):Option ByteArray:=
 if p0n==0 then (some (⟨#[48]⟩)) else (aM (ay (wt) aQ (p0n,(⟨#[]⟩:ByteArray))) (fun r4=>some r4) (fun s5=>if decide (p0n<0) then ((Sw (⟨#[45]⟩) s5.2).bind fun z6=>some z6) else (some s5.2)))
def xV (p0t:Int×Int×Int×Int):Option ByteArray:=
 if p0t.1==1 then (some (⟨#[33]⟩)) else (if p0t.1==2 then (some (⟨#[40,41]⟩)) else (if p0t.1==3 then ((lE p0t.2.1).bind fun r0=>some r0) else (if p0t.1==4 then (some (⟨#[46]⟩)) else (if p0t.1==5 then (some (⟨#[124]⟩)) else (if p0t.1==6 then (some (⟨#[42]⟩)) else ((pa p0t.2.2.1).bind fun r7=>(Sw (⟨#[123]⟩) r7).bind fun z8=>(Sw z8 (⟨#[44]⟩)).bind fun z9=>(pa p0t.2.2.2).bind fun r10=>(Sw z9 r10).bind fun z11=>(Sw z11 (⟨#[125]⟩)).bind fun z12=>some z12))))))
def tU (p0s:ByteArray) (s3:Int):Option (Out (Int×Bool) Int):=
 if decide (s3<9) then ((lE s3).bind fun r3=>if r3==p0s then (some (.ret (s3,true))) else (some (.nxt (IntKind.i64.wrap (s3+1))))) else (some (.brk s3))
def qe (p0s:ByteArray):Option (Int×Bool):=
 aM (ay (tU p0s) aQ 0) (fun r=>some r) (fun s4=>some (0,false))
def BA (p0s:ByteArray) (s1:Int):Option (Out Yq1 Int):=
 if decide (s1<=6) then (if s1 !=3 then ((xV (s1,0,0,0)).bind fun r2=>if r2==p0s then (some (.ret (s1,0,0,0))) else (some (.nxt (IntKind.i64.wrap (s1+1))))) else (some (.nxt (IntKind.i64.wrap (s1+1))))) else (some (.brk s1))
def Af (p0s:ByteArray):Option Yq1:=
 aM (ay (BA p0s) aQ 1) (fun r3=>some r3) (fun s4=>(qe p0s).bind fun r5=>if r5.2 then (some (3,r5.1,0,0)) else (if ((p0s.size:Nat):Int)==5 then ((ER p0s 0).bind fun z6=>if z6==123 then ((ER p0s 2).bind fun z7=>if z7==44 then ((ER p0s 4).bind fun z8=>if z8==125 then ((ER p0s 1).bind fun z11=>(ER p0s 3).bind fun z12=>some (7,0,IntKind.i64.wrap ((IntKind.i64.wrap z11) - 48),IntKind.i64.wrap ((IntKind.i64.wrap z12) - 48))) else (some (0,0,0,0))) else (some (0,0,0,0))) else (some (0,0,0,0))) else (some (0,0,0,0))))
def wu (r1:List ByteArray) (s3:Int×(List Yq1)):Option (Out (((List Yq1))×Bool) (Int×(List Yq1))):=
 if decide (s3.1<(r1.length:Int)) then (if decide (s3.1<=24) then ((aP r1 s3.1).bind fun x3=>(Af x3).bind fun r4=>(ct 32 s3.2 ([(r4.1,r4.2.1,r4.2.2.1,r4.2.2.2)])).bind fun z3=>some (.nxt (IntKind.i64.wrap (s3.1+1),z3))) else (some (.brk (s3.1,s3.2)))) else (some (.brk (s3.1,s3.2)))
def iy (p0s:ByteArray):Option (((List Yq1))×Bool):=
 (Ds p0s 32).bind fun r1=>aM (ay (wu r1) aQ (0,[])) (fun r=>some r) (fun s4=>(gG s4.2).bind fun r5=>if r5 then (some (s4.2,true)) else (some ([],false)))
def ra (p0c:(List Int)×Int×Int) (p1list:List ByteArray):Option (ByteArray×Int×Int):=
 (ba (p0c.1,p0c.2.1,p0c.2.2) (p1list.length:Int)).bind fun r0=>(aP p1list r0.1).bind fun x1=>some (x1,r0.2.1,r0.2.2)
def mI (p0c:(List Int)×Int×Int):Option ((List Yq1)×Int×Int):=
 (ra (p0c.1,p0c.2.1,p0c.2.2) ([⟨#[97]⟩,⟨#[97,32,98,32,46]⟩,⟨#[97,32,42]⟩,⟨#[97,32,98,32,124,32,42]⟩,⟨#[97,32,97,45,32,46]⟩,⟨#[97,32,42,32,98,32,46]⟩,⟨#[97,32,98,32,42,32,46,32,99,32,46]⟩,⟨#[97,32,97,32,124,32,42]⟩,⟨#[97,32,98,32,46,32,42]⟩,⟨#[48,32,97,32,46,32,42]⟩,⟨#[97,32,49,32,46,32,98,32,46]⟩,⟨#[97,32,123,48,44,50,125]⟩,⟨#[97,32,98,32,124,32,123,49,44,51,125]⟩,⟨#[40,41]⟩,⟨#[33]⟩,⟨#[97,45,32,42,32,97,32,46]⟩,⟨#[97,32,98,45,32,46,32,42,32,99,32,124]⟩,⟨#[97,32,42,32,97,32,42,32,46]⟩,⟨#[97,32,48,32,124,32,42,32,98,32,46]⟩,⟨#[97,32,97,32,46,32,42]⟩,⟨#[97,32,98,32,46,32,98,32,97,32,46,32,124,32,42]⟩])).bind fun r0=>(iy r0.1).bind fun r1=>some (r1.1,r0.2.1,r0.2.2)
def dA (p0c:(List Int)×Int×Int) (s3:Int×Int×Int×(List Yq6)×List Pa):Option (Out (((List Yq6)×List Pa)×Int×Int) (Int×Int×Int×(List Yq6)×List Pa)):=
 if decide (s3.1>0) then ((ba (p0c.1,s3.2.1,s3.2.2.1) 6).bind fun r7=>(mI (p0c.1,r7.2.1,r7.2.2)).bind fun r8=>(fE (s3.2.2.2.1,s3.2.2.2.2) (IntKind.i64.wrap (1+r7.1)) r8.1).bind fun r9=>some (.nxt (IntKind.i64.wrap (s3.1 - 1),r8.2.1,r8.2.2,r9.1.1,r9.1.2))) else (some (.brk (s3.1,s3.2.1,s3.2.2.1,s3.2.2.2.1,s3.2.2.2.2)))
def jY (p0c:(List Int)×Int×Int):Option (((List Yq6)×List Pa)×Int×Int):=
 (ba (p0c.1,p0c.2.1,p0c.2.2) 3).bind fun r0=>aM (ay (dA p0c) aQ (IntKind.i64.wrap (1+r0.1),r0.2.1,r0.2.2,([] :List Yq6),([] :List Pa))) (fun r10=>some r10) (fun s11=>some ((s11.2.2.2.1,s11.2.2.2.2),s11.2.1,s11.2.2.1))
def iz (p0c:(List Int)×Int×Int) (p1n:Int):Option (Bool×Int×Int):=
 (ba (p0c.1,p0c.2.1,p0c.2.2) p1n).bind fun r0=>some (r0.1==0,r0.2.1,r0.2.2)
def rO (p0letter:Int):Option (List Yq1):=
 some ([(3,p0letter,0,0)])
def dB:Nat->((List Int)×Int×Int)->Int->Option ((List Yq1)×Int×Int)
 | 0,_,_=>none
 | n+1,p0,p1 =>
  if p1==0 then ((iz (p0.1,p0.2.1,p0.2.2) 12).bind fun r0=>if r0.1 then ((cj (p0.1,r0.2.1,r0.2.2) ([1,2])).bind fun r1=>(mf r1.1).bind fun r2=>some (r2,r1.2.1,r1.2.2)) else ((cj (p0.1,r0.2.1,r0.2.2) ([0,0,2,2,1,4,3,6,7])).bind fun r3=>(rO r3.1).bind fun r4=>some (r4,r3.2.1,r3.2.2))) else ((ba (p0.1,p0.2.1,p0.2.2) 6).bind fun r5=>Option.bind ((if r5.1==0 then (some (r5.1==0)) else (some (r5.1==1)):Option Bool)) (fun s6=>if s6 then (((dB n) (p0.1,r5.2.1,r5.2.2) (IntKind.i64.wrap (p1 - 1))).bind fun r7=>((dB n) (p0.1,r7.2.1,r7.2.2) (IntKind.i64.wrap (p1 - 1))).bind fun r8=>(dR r7.1 r8.1 (4,0,0,0)).bind fun r9=>some (r9,r8.2.1,r8.2.2)) else (Option.bind ((if r5.1==2 then (some (r5.1==2)) else (some (r5.1==3)):Option Bool)) (fun s10=>if s10 then (((dB n) (p0.1,r5.2.1,r5.2.2) (IntKind.i64.wrap (p1 - 1))).bind fun r11=>((dB n) (p0.1,r11.2.1,r11.2.2) (IntKind.i64.wrap (p1 - 1))).bind fun r12=>(dR r11.1 r12.1 (5,0,0,0)).bind fun r13=>some (r13,r12.2.1,r12.2.2)) else (if r5.1==4 then (((dB n) (p0.1,r5.2.1,r5.2.2) (IntKind.i64.wrap (p1 - 1))).bind fun r14=>(dR r14.1 ([] :List Yq1) (6,0,0,0)).bind fun r15=>some (r15,r14.2.1,r14.2.2)) else ((ba (p0.1,r5.2.1,r5.2.2) 3).bind fun r16=>((dB n) (p0.1,r16.2.1,r16.2.2) (IntKind.i64.wrap (p1 - 1))).bind fun r17=>(ba (p0.1,r17.2.1,r17.2.2) (IntKind.i64.wrap ((IntKind.i64.wrap (1+r16.1))+1))).bind fun r18=>(dR r17.1 ([] :List Yq1) (7,0,r18.1,IntKind.i64.wrap (1+r16.1))).bind fun r19=>some (r19,r18.2.1,r18.2.2)))))))
def rb (p0c:(List Int)×Int×Int):Option ((List Yq1)×Int×Int):=
 (iz (p0c.1,p0c.2.1,p0c.2.2) 2).bind fun r0=>if r0.1 then ((mI (p0c.1,r0.2.1,r0.2.2)).bind fun r1=>some (r1.1,r1.2.1,r1.2.2)) else ((ba (p0c.1,r0.2.1,r0.2.2) 3).bind fun r2=>(dB eE (p0c.1,r2.2.1,r2.2.2) (IntKind.i64.wrap (1+r2.1))).bind fun r3=>some (r3.1,r3.2.1,r3.2.2))
def ga (p0c:(List Int)×Int×Int) (r0:Int×Int×Int) (s6:(List Int)×Int×Int×Int):Option (Out (Yq6×Int×Int) ((List Int)×Int×Int×Int)):=
 if decide (s6.2.1<9) then ((iz (p0c.1,s6.2.2.1,s6.2.2.2) 3).bind fun r7=>Option.bind ((if r7.1 then (some ((-1),r7.2.1,r7.2.2)) else ((ba (p0c.1,r7.2.1,r7.2.2) (IntKind.i64.wrap (1+r0.1))).bind fun r8=>some (r8.1,r8.2.1,r8.2.2)):Option (Int×Int×Int))) (fun s9=>Option.bind ((if decide (s6.2.1>3) then (some (-1)) else (some s9.1):Option Int)) (fun s10=>(ct 8 s6.1 ([s10])).bind fun z11=>some (.nxt (z11,IntKind.i64.wrap (s6.2.1+1),s9.2.1,s9.2.2))))) else (some (.brk (s6.1,s6.2.1,s6.2.2.1,s6.2.2.2)))
def jq (p0c:(List Int)×Int×Int) (r0:Int×Int×Int) (s4:Int×Int×(List Bool)×(List (List Int))×Int×Int):Option (Out (Yq6×Int×Int) (Int×Int×(List Bool)×(List (List Int))×Int×Int)):=
 if decide (s4.1<(IntKind.i64.wrap (1+r0.1))) then (aM (ay (ga p0c r0) aQ (([] :List Int),0,s4.2.2.2.2.1,s4.2.2.2.2.2)) (fun r12=>some (.ret r12)) (fun s13=>(iz (p0c.1,s13.2.2.1,s13.2.2.2) 3).bind fun r16=>(ct 1 s4.2.2.1 ([r16.1])).bind fun z17=>(ct 24 s4.2.2.2.1 ([s13.1])).bind fun z18=>some (.nxt (IntKind.i64.wrap (s4.1+1),s4.2.1,z17,z18,r16.2.1,r16.2.2)))) else (some (.brk (s4.1,s4.2.1,s4.2.2.1,s4.2.2.2.1,s4.2.2.2.2.1,s4.2.2.2.2.2)))
def jZ (p0c:(List Int)×Int×Int):Option (Yq6×Int×Int):=
 (ba (p0c.1,p0c.2.1,p0c.2.2) 4).bind fun r0=>(ba (p0c.1,r0.2.1,r0.2.2) (IntKind.i64.wrap (1+r0.1))).bind fun r1=>aM (ay (jq p0c r0) aQ (0,r1.1,([] :List Bool),([] :List (List Int)),r1.2.1,r1.2.2)) (fun r19=>some r19) (fun s20=>some ((s20.2.1,s20.2.2.1,s20.2.2.2.1),s20.2.2.2.2.1,s20.2.2.2.2.2))
def re (p0c:(List Int)×Int×Int):Option (Yq6×Int×Int):=
 (iz (p0c.1,p0c.2.1,p0c.2.2) 3).bind fun r0=>if r0.1 then ((jZ (p0c.1,r0.2.1,r0.2.2)).bind fun r1=>some ((r1.1.1,r1.1.2.1,r1.1.2.2),r1.2.1,r1.2.2)) else ((rb (p0c.1,r0.2.1,r0.2.2)).bind fun r2=>(cR r2.1).bind fun r3=>(dk (r3.1.1,r3.1.2.1,r3.1.2.2.1,r3.1.2.2.2.1,r3.1.2.2.2.2) 12).bind fun r4=>if r4.2 then (some ((r4.1.1,r4.1.2.1,r4.1.2.2),r2.2.1,r2.2.2)) else ((jZ (p0c.1,r2.2.1,r2.2.2)).bind fun r5=>some ((r5.1.1,r5.1.2.1,r5.1.2.2),r5.2.1,r5.2.2)))
def rf (p0c:(List Int)×Int×Int):Option (((List Yq6)×List Pa)×Int×Int):=
 (jY (p0c.1,p0c.2.1,p0c.2.2)).bind fun r0=>(ba (p0c.1,r0.2.1,r0.2.2) 16).bind fun r1=>Option.bind ((if r1.1==0 then (if decide ((r0.1.2.length:Int)>0) then ((ba (p0c.1,r1.2.1,r1.2.2) 3).bind fun r4=>(aP r0.1.2 0).bind fun x5=>some (r4.2.1,r4.2.2,r0.1.1,r0.1.2.set 0 (x5.1,x5.2.1,r4.1))) else (some (r1.2.1,r1.2.2,r0.1.1,r0.1.2))) else (if r1.1==1 then (if decide ((r0.1.2.length:Int)>0) then ((cj (p0c.1,r1.2.1,r1.2.2) ([0,100,99])).bind fun r8=>(aP r0.1.2 0).bind fun x9=>some (r8.2.1,r8.2.2,r0.1.1,r0.1.2.set 0 (r8.1,x9.2))) else (some (r1.2.1,r1.2.2,r0.1.1,r0.1.2))) else (if r1.1==2 then ((re (p0c.1,r1.2.1,r1.2.2)).bind fun r12=>(ct 56 r0.1.1 ([(r12.1.1,r12.1.2.1,r12.1.2.2)])).bind fun z13=>some (r12.2.1,r12.2.2,z13,r0.1.2)) else (some (r1.2.1,r1.2.2,r0.1.1,r0.1.2)))):Option (Int×Int×(List Yq6)×List Pa))) (fun s14=>some ((s14.2.2.1,s14.2.2.2),s14.1,s14.2.1))
def jf (p0c:(List Int)×Int×Int) (s3:Int×Int×Int×(List Int)×List Yq1):Option (Out (((List Int)×List Yq1)×Int×Int) (Int×Int×Int×(List Int)×List Yq1)):=
 if decide (s3.1>0) then ((ba (p0c.1,s3.2.1,s3.2.2.1) 3).bind fun r6=>(ct 8 s3.2.2.2.1 ([r6.1])).bind fun z7=>some (.nxt (IntKind.i64.wrap (s3.1 - 1),r6.2.1,r6.2.2,z7,s3.2.2.2.2))) else (some (.brk (s3.1,s3.2.1,s3.2.2.1,s3.2.2.2.1,s3.2.2.2.2)))
def kQ (p0c:(List Int)×Int×Int) (s14:Int×Int×Int×Int×(List Int)×List Yq1):Option (Out (((List Int)×List Yq1)×Int×Int) (Int×Int×Int×Int×(List Int)×List Yq1)):=
 if decide (s14.2.1>0) then ((ba (p0c.1,s14.2.2.1,s14.2.2.2.1) 3).bind fun r15=>(ba (p0c.1,r15.2.1,r15.2.2) (s14.2.2.2.2.1.length:Int)).bind fun r20=>(ba (p0c.1,r20.2.1,r20.2.2) (s14.2.2.2.2.1.length:Int)).bind fun r21=>(cj (p0c.1,r21.2.1,r21.2.2) ([0,0,1,2])).bind fun r22=>(ct 32 s14.2.2.2.2.2 ([(IntKind.i64.wrap ((IntKind.i64.wrap (s14.1+1))+r15.1),r20.1,r21.1,r22.1)])).bind fun z23=>some (.nxt (IntKind.i64.wrap ((IntKind.i64.wrap (s14.1+1))+r15.1),IntKind.i64.wrap (s14.2.1 - 1),r22.2.1,r22.2.2,s14.2.2.2.2.1,z23))) else (some (.brk (s14.1,s14.2.1,s14.2.2.1,s14.2.2.2.1,s14.2.2.2.2.1,s14.2.2.2.2.2)))
def pb (p0c:(List Int)×Int×Int):Option (((List Int)×List Yq1)×Int×Int):=
 (cj (p0c.1,p0c.2.1,p0c.2.2) ([2,3,4,4,5])).bind fun r0=>aM (ay (jf p0c) aQ (r0.1,r0.2.1,r0.2.2,([] :List Int),([] :List Yq1))) (fun r8=>some r8) (fun s9=>(cj (p0c.1,s9.2.1,s9.2.2.1) ([4,8,11])).bind fun r10=>(ba (p0c.1,r10.2.1,r10.2.2) r10.1).bind fun r11=>aM (ay (kQ p0c) aQ (0,r11.1,r11.2.1,r11.2.2,s9.2.2.2.1,s9.2.2.2.2)) (fun r24=>some r24) (fun s25=>some ((s25.2.2.2.2.1,s25.2.2.2.2.2),s25.2.2.1,s25.2.2.2.1)))
def tV (p0c:(List Int)×Int×Int):Option (((List Int)×List Yq1)×Int×Int):=
 (pb (p0c.1,p0c.2.1,p0c.2.2)).bind fun r0=>(ba (p0c.1,r0.2.1,r0.2.2) 14).bind fun r1=>Option.bind ((if r1.1==0 then ((cj (p0c.1,r1.2.1,r1.2.2) ([(-1),3,2])).bind fun r4=>(aP r0.1.1 0).bind fun x5=>some (r4.2.1,r4.2.2,r0.1.1.set 0 r4.1,r0.1.2)) else (if r1.1==1 then ((cj (p0c.1,r1.2.1,r1.2.2) ([0,1,99,100])).bind fun r11=>(ba (p0c.1,r11.2.1,r11.2.2) 6).bind fun r12=>(ba (p0c.1,r12.2.1,r12.2.2) 6).bind fun r13=>(ba (p0c.1,r13.2.1,r13.2.2) 4).bind fun r14=>(ct 32 r0.1.2 ([(r11.1,r12.1,r13.1,r14.1)])).bind fun z15=>some (r14.2.1,r14.2.2,r0.1.1,z15)) else (if r1.1==2 then (some (r1.2.1,r1.2.2,([] :List Int),r0.1.2)) else (some (r1.2.1,r1.2.2,r0.1.1,r0.1.2)))):Option (Int×Int×(List Int)×List Yq1))) (fun s16=>some ((s16.2.2.1,s16.2.2.2),s16.1,s16.2.1))
def tW (p0c:(List Int)×Int×Int) (p1r:(List Yq6)×List Pa):Option (Int×Int×Int):=
 if decide ((p1r.2.length:Int)>0) then ((iz (p0c.1,p0c.2.1,p0c.2.2) 4).bind fun r0=>if r0.1 then ((cj (p0c.1,r0.2.1,r0.2.2) ([0,1,2,3,4,99,100])).bind fun r5=>some (r5.1,r5.2.1,r5.2.2)) else ((ba (p0c.1,r0.2.1,r0.2.2) (p1r.2.length:Int)).bind fun r3=>(aP p1r.2 r3.1).bind fun x4=>some (x4.1,r3.2.1,r3.2.2))) else ((cj (p0c.1,p0c.2.1,p0c.2.2) ([0,1,2,3,4,99,100])).bind fun r6=>some (r6.1,r6.2.1,r6.2.2))
def fj (p0code:List Int):Option (((List Yq6)×List Pa)×((List Int)×List Yq1)×Int):=
 (tT p0code).bind fun r0=>(rf (p0code,r0.1,r0.2)).bind fun r1=>(tV (p0code,r1.2.1,r1.2.2)).bind fun r4=>(tW (p0code,r4.2.1,r4.2.2) (r1.1.1,r1.1.2)).bind fun r5=>some ((r1.1.1,r1.1.2),(r4.1.1,r4.1.2),r5.1)
def cm (p0s1:List Bool) (p1s2:List Bool) (s3:Int):Option (Out Bool Int):=
 if decide (s3<(p0s1.length:Int)) then ((aP p0s1 s3).bind fun x5=>(aP p1s2 s3).bind fun x6=>if x5 !=x6 then (some (.ret false)) else (some (.nxt (IntKind.i64.wrap (s3+1))))) else (some (.brk s3))
def dK (p0s1:List Bool) (p1s2:List Bool):Option Bool:=
 if (p0s1.length:Int) !=(p1s2.length:Int) then (some false) else (aM (ay (cm p0s1 p1s2) aQ 0) (fun r=>some r) (fun s4=>some true))
def aZ (p0s1:List (List Int)) (p1s2:List (List Int)) (p2eq:(List Int)->(List Int)->Option Bool) (s3:Int):Option (Out Bool Int):=
 if decide (s3<(p0s1.length:Int)) then ((aP p0s1 s3).bind fun x5=>(aP p1s2 s3).bind fun x6=>(p2eq x5 x6).bind fun r9=>if r9 then (some (.nxt (IntKind.i64.wrap (s3+1)))) else (some (.ret false))) else (some (.brk s3))
def bG (p0s1:List (List Int)) (p1s2:List (List Int)) (p2eq:(List Int)->(List Int)->Option Bool):Option Bool:=
 if (p0s1.length:Int) !=(p1s2.length:Int) then (some false) else (aM (ay (aZ p0s1 p1s2 p2eq) aQ 0) (fun r=>some r) (fun s4=>some true))
def cE (p0s1:List Int) (p1s2:List Int) (s3:Int):Option (Out Bool Int):=
 if decide (s3<(p0s1.length:Int)) then ((aP p0s1 s3).bind fun x5=>(aP p1s2 s3).bind fun x6=>if x5 !=x6 then (some (.ret false)) else (some (.nxt (IntKind.i64.wrap (s3+1))))) else (some (.brk s3))
def c8 (p0s1:List Int) (p1s2:List Int):Option Bool:=
 if (p0s1.length:Int) !=(p1s2.length:Int) then (some false) else (aM (ay (cE p0s1 p1s2) aQ 0) (fun r=>some r) (fun s4=>some true))
def fO (p0x:List Int) (p1y:List Int):Option Bool:=
 (c8 p0x p1y).bind fun r1=>some r1
def dS (p0a:Int×(List Bool)×(List (List Int))) (p1b:Int×(List Bool)×(List (List Int))):Option Bool:=
 if p0a.1==p1b.1 then ((dK p0a.2.1 p1b.2.1).bind fun r1=>if r1 then ((bG p0a.2.2 p1b.2.2 (fun a0 a1=>fO a0 a1)).bind fun r2=>some r2) else (some false)) else (some false)
def aL (p0s1:List Yq2) (p1s2:List Yq2) (p2eq:Yq2->Yq2->Option Bool) (s3:Int):Option (Out Bool Int):=
 if decide (s3<(p0s1.length:Int)) then ((aP p0s1 s3).bind fun x5=>(aP p1s2 s3).bind fun x6=>(p2eq (x5.1,x5.2.1,x5.2.2) (x6.1,x6.2.1,x6.2.2)).bind fun r15=>if r15 then (some (.nxt (IntKind.i64.wrap (s3+1)))) else (some (.ret false))) else (some (.brk s3))
def aY (p0s1:List Yq2) (p1s2:List Yq2) (p2eq:Yq2->Yq2->Option Bool):Option Bool:=
 if (p0s1.length:Int) !=(p1s2.length:Int) then (some false) else (aM (ay (aL p0s1 p1s2 p2eq) aQ 0) (fun r=>some r) (fun s4=>some true))
def aK (p0s1:List Yq3) (p1s2:List Yq3) (p2eq:Yq3->Yq3->Option Bool) (s3:Int):Option (Out Bool Int):=
 if decide (s3<(p0s1.length:Int)) then ((aP p0s1 s3).bind fun x5=>(aP p1s2 s3).bind fun x6=>(p2eq (x5.1,x5.2.1,x5.2.2) (x6.1,x6.2.1,x6.2.2)).bind fun r9=>if r9 then (some (.nxt (IntKind.i64.wrap (s3+1)))) else (some (.ret false))) else (some (.brk s3))
def aV (p0s1:List Yq3) (p1s2:List Yq3) (p2eq:Yq3->Yq3->Option Bool):Option Bool:=
 if (p0s1.length:Int) !=(p1s2.length:Int) then (some false) else (aM (ay (aK p0s1 p1s2 p2eq) aQ 0) (fun r=>some r) (fun s4=>some true))
def bW (p0s1:List Yq1) (p1s2:List Yq1) (s3:Int):Option (Out Bool Int):=
 if decide (s3<(p0s1.length:Int)) then ((aP p0s1 s3).bind fun x5=>(aP p1s2 s3).bind fun x6=>if (x5.1==x6.1)&&((x5.2.1==x6.2.1)&&((x5.2.2.1==x6.2.2.1)&&((x5.2.2.2==x6.2.2.2)&&true))) then (some (.nxt (IntKind.i64.wrap (s3+1)))) else (some (.ret false))) else (some (.brk s3))
def cy (p0s1:List Yq1) (p1s2:List Yq1):Option Bool:=
 if (p0s1.length:Int) !=(p1s2.length:Int) then (some false) else (aM (ay (bW p0s1 p1s2) aQ 0) (fun r=>some r) (fun s4=>some true))
def kR (p0a:(List Yq1)) (p1b:(List Yq1)):Option Bool:=
 (cy p0a p1b).bind fun r1=>some r1
def gb (p0a:Int×((List Yq1))×Int) (p1b:Int×((List Yq1))×Int):Option Bool:=
 if p0a.1==p1b.1 then ((kR p0a.2.1 p1b.2.1).bind fun r1=>if r1 then (some (p0a.2.2==p1b.2.2)) else (some false)) else (some false)
def fP (p0a:(List Yq2)×(List Yq3)) (p1b:(List Yq2)×(List Yq3)):Option Bool:=
 (aY p0a.1 p1b.1 (fun a0 a1=>dS a0 a1)).bind fun r1=>if r1 then ((aV p0a.2 p1b.2 (fun a0 a1=>gb a0 a1)).bind fun r2=>some r2) else (some false)
def cG (p0n:Int) (p1a:Int) (p2b:Int):Option Bool:=
 if decide (p0n≥p1a) then (some (decide (p0n<=p2b))) else (some false)
def jG (p0n:Int):Option Bool:=
 (cG p0n 0 8).bind fun r1=>some r1
def pc (p0t:Int×Int×Int×Int):Option Bool:=
 if p0t.1==3 then ((jG p0t.2.1).bind fun r3=>if r3 then (if p0t.2.2.1==0 then (some (p0t.2.2.2==0)) else (some false)) else (some false)) else (if p0t.1==7 then (if p0t.2.1==0 then ((cG p0t.2.2.1 0 p0t.2.2.2).bind fun r1=>if r1 then ((cG p0t.2.2.2 1 3).bind fun r2=>some r2) else (some false)) else (some false)) else (Option.bind ((if p0t.1==1 then (some (p0t.1==1)) else (if p0t.1==2 then (some (p0t.1==2)) else (if p0t.1==4 then (some (p0t.1==4)) else (if p0t.1==5 then (some (p0t.1==5)) else (some (p0t.1==6))))):Option Bool)) (fun s1=>if s1 then (some ((p0t.1==p0t.1)&&((p0t.2.1==0)&&((p0t.2.2.1==0)&&((p0t.2.2.2==0)&&true))))) else (some false))))
def pd (p0e:List Yq1) (s1:(List (Tr Yq1))×Int):Option (Out (Tr Yq1) ((List (Tr Yq1))×Int)):=
 if decide (s1.2<(p0e.length:Int)) then ((aP p0e s1.2).bind fun x2=>Option.bind ((Option.bind ((if x2.1==4 then (some (x2.1==4)) else (some (x2.1==5)):Option Bool)) (fun s3=>if s3 then (some 2) else (Option.bind ((if x2.1==6 then (some (x2.1==6)) else (some (x2.1==7)):Option Bool)) (fun s4=>if s4 then (some 1) else (some 0)))):Option Int)) (fun s5=>(pc (x2.1,x2.2.1,x2.2.2.1,x2.2.2.2)).bind fun r6=>if r6 then (if decide ((IntKind.i64.wrap ((s1.1.length:Int) - s5))<0) then (some (.ret Tr.nil)) else ((chk (And (0<=(IntKind.i64.wrap ((s1.1.length:Int) - s5))) ((IntKind.i64.wrap ((s1.1.length:Int) - s5))<=(s1.1.length:Int)))).bind fun _=>(ct 8 ([] :List (Tr Yq1)) (s1.1.drop ((IntKind.i64.wrap ((s1.1.length:Int) - s5)).toNat))).bind fun z10=>(chk (And (0<=(IntKind.i64.wrap ((s1.1.length:Int) - s5))) ((IntKind.i64.wrap ((s1.1.length:Int) - s5))<=(s1.1.length:Int)))).bind fun _=>(ct 8 (s1.1.take ((IntKind.i64.wrap ((s1.1.length:Int) - s5)).toNat)) ([Tr.node (x2.1,x2.2.1,x2.2.2.1,x2.2.2.2) z10])).bind fun z12=>some (.nxt (z12,IntKind.i64.wrap (s1.2+1))))) else (some (.ret Tr.nil)))) else (some (.brk (s1.1,s1.2)))
def mg (p0e:List Yq1):Option (Tr Yq1):=
 aM (ay (pd p0e) aQ (([] :List (Tr Yq1)),0)) (fun r13=>some r13) (fun s14=>if (s14.1.length:Int) !=1 then (some Tr.nil) else ((aP s14.1 0).bind fun x15=>some x15))
def rh (p0e:List Yq1):Option Bool:=
 (mg p0e).bind fun r0=>some (cond.match_1 (fun (u4:Bool)=>Bool) (Tr.isNil r0) (fun (u5:Unit)=>false) (fun (u6:Unit)=>true))
def j3 (p0e:(List Yq1)):Option Bool:=
 if decide ((p0e.length:Int)<=24) then ((rh p0e).bind fun r1=>some r1) else (some false)
def bD (mrec:(Tr Yq1)->Option Int) (p0x:Tr Yq1) (z1:Yq1×List (Tr Yq1)) (s3:Int×Int):Option Jk:=
 if decide (s3.2<(z1.2.length:Int)) then (Option.bind (((aP z1.2 s3.2).bind fun x4=>(Tr.get p0x).bind fun z5=>(Tr.get p0x).bind fun z6=>if z6.1.1==7 then ((mrec x4).bind fun r10=>(Tr.get p0x).bind fun z11=>(Tr.get p0x).bind fun z12=>some (IntKind.i64.wrap (s3.1+(IntKind.i64.wrap ((IntKind.i64.wrap (r10+3))*z12.1.2.2.2))))) else ((mrec x4).bind fun r13=>some (IntKind.i64.wrap (s3.1+r13))):Option Int)) (fun s14=>some (.nxt (s14,IntKind.i64.wrap (s3.2+1))))) else (some (.brk (s3.1,s3.2)))
def bP:Nat->(Tr Yq1)->Option Int
 | 0,_=>none
 | n+1,p0x =>
  (Tr.get p0x).bind fun z0=>(Tr.get p0x).bind fun z1=>aM (ay (bD (bP n) p0x z1) aQ (1,0)) (fun r15=>some r15) (fun s16=>some (Min.min s16.1 100000))
def BB (p0kind:Int):Option (Tr Yq1):=
 some (Tr.node (p0kind,0,0,0) ([] :List (Tr Yq1)))
def jH:Nat->(Tr Yq1)->Int->Int->Option (Tr Yq1)
 | 0,_,_,_=>none
 | n+1,p0x,p1low,p2high =>
  if p2high==0 then ((BB 2).bind fun r0=>some r0) else (((jH n) p0x (Max.max 0 (IntKind.i64.wrap (p1low - 1))) (IntKind.i64.wrap (p2high - 1))).bind fun r1=>if decide (p1low>0) then (some (Tr.node (4,0,0,0) ([p0x,r1]))) else ((BB 2).bind fun r2=>some (Tr.node (5,0,0,0) ([Tr.node (4,0,0,0) ([p0x,r1]),r2]))))
def bm (mrec:(Tr Yq1)->Option (Tr Yq1)) (z23:Yq1×List (Tr Yq1)) (s26:Int×Int×Int×Int×Int×List (Tr Yq1)):Option (Out (Tr Yq1) (Int×Int×Int×Int×Int×List (Tr Yq1))):=
 if decide (s26.1<(z23.2.length:Int)) then ((aP z23.2 s26.1).bind fun x27=>(mrec x27).bind fun r30=>(ct 8 s26.2.2.2.2.2 ([r30])).bind fun z31=>some (.nxt (IntKind.i64.wrap (s26.1+1),s26.2.1,s26.2.2.1,s26.2.2.2.1,s26.2.2.2.2.1,z31))) else (some (.brk (s26.1,s26.2.1,s26.2.2.1,s26.2.2.2.1,s26.2.2.2.2.1,s26.2.2.2.2.2)))
def bw:Nat->(Tr Yq1)->Option (Tr Yq1)
 | 0,_=>none
 | n+1,p0x =>
  (Tr.get p0x).bind fun z0=>(Tr.get p0x).bind fun z1=>if z1.1.1==7 then ((Tr.get p0x).bind fun z11=>(Tr.get p0x).bind fun z12=>(aP z12.2 0).bind fun x13=>((bw n) x13).bind fun r14=>(Tr.get p0x).bind fun z15=>(Tr.get p0x).bind fun z16=>(Tr.get p0x).bind fun z17=>(Tr.get p0x).bind fun z18=>(jH eE r14 z16.1.2.2.1 z18.1.2.2.2).bind fun r19=>some r19) else ((Tr.get p0x).bind fun z20=>(Tr.get p0x).bind fun z21=>(Tr.get p0x).bind fun z22=>(Tr.get p0x).bind fun z23=>aM (ay (bm (bw n) z23) aQ (0,z21.1.1,z21.1.2.1,z21.1.2.2.1,z21.1.2.2.2,([] :List (Tr Yq1)))) (fun r32=>some r32) (fun s33=>some (Tr.node (s33.2.1,s33.2.2.1,s33.2.2.2.1,s33.2.2.2.2.1) s33.2.2.2.2.2)))
def bf (mrec:(Tr Yq1)->(List Yq1)->Option (List Yq1)) (z1:Yq1×List (Tr Yq1)) (s4:Int×List Yq1):Option (Out (List Yq1) (Int×List Yq1)):=
 if decide (s4.1<(z1.2.length:Int)) then ((aP z1.2 s4.1).bind fun x5=>(mrec x5 s4.2).bind fun r6=>some (.nxt (IntKind.i64.wrap (s4.1+1),r6))) else (some (.brk (s4.1,s4.2)))
def bq:Nat->(Tr Yq1)->(List Yq1)->Option (List Yq1)
 | 0,_,_=>none
 | n+1,p0x,p1out =>
  (Tr.get p0x).bind fun z0=>(Tr.get p0x).bind fun z1=>aM (ay (bf (bq n) z1) aQ (0,p1out)) (fun r7=>some r7) (fun s8=>(Tr.get p0x).bind fun z12=>(Tr.get p0x).bind fun z13=>(ct 32 s8.2 ([(z13.1.1,z13.1.2.1,z13.1.2.2.1,z13.1.2.2.2)])).bind fun z14=>some z14)
def pe (p0x:Tr Yq1):Option (List Yq1):=
 (bq eE p0x ([] :List Yq1)).bind fun r0=>some r0
def kS (p0e:List Yq1):Option ((List Yq1)×Bool):=
 (j3 p0e).bind fun r0=>if r0 then ((mg p0e).bind fun r1=>(bP eE r1).bind fun r2=>if decide (r2>5000) then (some (([] :List Yq1),false)) else ((bw eE r1).bind fun r3=>(pe r3).bind fun r4=>if decide ((r4.length:Int)>400) then (some (([] :List Yq1),false)) else (some (r4,true)))) else (some (([] :List Yq1),false))
def cT (p0p:(List Int)×Int×Int×(List Int)×Bool) (p1last:Int) (p2first:Int) (s2:Int×List Int):Option (Out Yq7 (Int×List Int)):=
 if decide (s2.1<(p0p.2.2.2.1.length:Int)) then (Option.bind (((chk (0<=s2.1)).bind fun _=>if (od (lT p1last s2.1) 1)==1 then ((aP s2.2 s2.1).bind fun x4=>(aP s2.2 s2.1).bind fun x5=>some (s2.2.set s2.1.toNat (orI x4 p2first))) else (some s2.2):Option (List Int))) (fun s6=>some (.nxt (IntKind.i64.wrap (s2.1+1),s6)))) else (some (.brk (s2.1,s2.2)))
def dF (p0p:(List Int)×Int×Int×(List Int)×Bool) (p1last:Int) (p2first:Int):Option Yq7:=
 aM (ay (cT p0p p1last p2first) aQ (0,p0p.2.2.2.1)) (fun r7=>some r7) (fun s8=>some (p0p.1,p0p.2.1,p0p.2.2.1,s8.2,p0p.2.2.2.2))
def bz:Nat->Yq7->(Tr Yq1)->Option ((Int×Int×Bool)×(List Int)×Int×Int×(List Int)×Bool)
 | 0,_,_=>none
 | n+1,p0,p1 =>
  (Tr.get p1).bind fun z0=>(Tr.get p1).bind fun z1=>if z1.1.1==2 then (some ((0,0,true),p0.1,p0.2.1,p0.2.2.1,p0.2.2.2.1,p0.2.2.2.2)) else (if z1.1.1==3 then ((Tr.get p1).bind fun z5=>(Tr.get p1).bind fun z6=>(ct 8 p0.1 ([z6.1.2.1])).bind fun z7=>(ct 8 p0.2.2.2.1 ([0])).bind fun z8=>some ((tn 1 (p0.1.length:Int),tn 1 (p0.1.length:Int),false),z7,p0.2.1,p0.2.2.1,z8,p0.2.2.2.2)) else (if z1.1.1==5 then ((Tr.get p1).bind fun z17=>(Tr.get p1).bind fun z18=>(aP z18.2 0).bind fun x19=>((bz n) (p0.1,p0.2.1,p0.2.2.1,p0.2.2.2.1,p0.2.2.2.2) x19).bind fun r20=>(Tr.get p1).bind fun z21=>(Tr.get p1).bind fun z22=>(aP z22.2 1).bind fun x23=>((bz n) r20.2 x23).bind fun r24=>if r20.1.2.2 then (some ((orI r20.1.1 r24.1.1,orI r20.1.2.1 r24.1.2.1,true),r24.2.1,r24.2.2.1,r24.2.2.2.1,r24.2.2.2.2.1,r24.2.2.2.2.2)) else (some ((orI r20.1.1 r24.1.1,orI r20.1.2.1 r24.1.2.1,r24.1.2.2),r24.2.1,r24.2.2.1,r24.2.2.2.1,r24.2.2.2.2.1,r24.2.2.2.2.2))) else (if z1.1.1==4 then ((Tr.get p1).bind fun z33=>(Tr.get p1).bind fun z34=>(aP z34.2 0).bind fun x35=>((bz n) (p0.1,p0.2.1,p0.2.2.1,p0.2.2.2.1,p0.2.2.2.2) x35).bind fun r36=>(Tr.get p1).bind fun z37=>(Tr.get p1).bind fun z38=>(aP z38.2 1).bind fun x39=>((bz n) r36.2 x39).bind fun r40=>(dF (r40.2.1,r40.2.2.1,r40.2.2.2.1,r40.2.2.2.2.1,r40.2.2.2.2.2) r36.1.2.1 r40.1.1).bind fun r41=>if r36.1.2.2 then (Option.bind ((if r36.1.2.2 then (some (orI r36.1.1 r40.1.1,r40.1.2.1,r40.1.2.2)) else (some (r36.1.1,r40.1.2.1,r40.1.2.2)):Option (Int×Int×Bool))) (fun s42=>Option.bind ((if r40.1.2.2 then (some (s42.1,orI s42.2.1 r36.1.2.1,s42.2.2)) else (some (s42.1,s42.2.1,s42.2.2)):Option (Int×Int×Bool))) (fun s43=>some ((s43.1,s43.2.1,s43.2.2),r41.1,r41.2.1,r41.2.2.1,r41.2.2.2.1,r41.2.2.2.2)))) else (Option.bind ((if r36.1.2.2 then (some (orI r36.1.1 r40.1.1,r40.1.2.1,false)) else (some (r36.1.1,r40.1.2.1,false)):Option (Int×Int×Bool))) (fun s44=>Option.bind ((if r40.1.2.2 then (some (s44.1,orI s44.2.1 r36.1.2.1,s44.2.2)) else (some (s44.1,s44.2.1,s44.2.2)):Option (Int×Int×Bool))) (fun s45=>some ((s45.1,s45.2.1,s45.2.2),r41.1,r41.2.1,r41.2.2.1,r41.2.2.2.1,r41.2.2.2.2))))) else (if z1.1.1==6 then ((Tr.get p1).bind fun z46=>(Tr.get p1).bind fun z47=>(aP z47.2 0).bind fun x48=>((bz n) (p0.1,p0.2.1,p0.2.2.1,p0.2.2.2.1,p0.2.2.2.2) x48).bind fun r49=>(dF (r49.2.1,r49.2.2.1,r49.2.2.2.1,r49.2.2.2.2.1,r49.2.2.2.2.2) r49.1.2.1 r49.1.1).bind fun r50=>some ((r49.1.1,r49.1.2.1,true),r50.1,r50.2.1,r50.2.2.1,r50.2.2.2.1,r50.2.2.2.2)) else (some ((0,0,false),p0.1,p0.2.1,p0.2.2.1,p0.2.2.2.1,p0.2.2.2.2))))))
def dt (r0:(List Yq1)×Bool) (s2:Int×Int):Option (Out (Yq7×Bool) (Int×Int)):=
 if decide (s2.2<(r0.1.length:Int)) then (Option.bind (((aP r0.1 s2.2).bind fun x3=>if x3.1==3 then (some (IntKind.i64.wrap (s2.1+1))) else (some s2.1):Option Int)) (fun s4=>some (.nxt (s4,IntKind.i64.wrap (s2.2+1))))) else (some (.brk (s2.1,s2.2)))
def gq (p0e:List Yq1):Option (Yq7×Bool):=
 (kS p0e).bind fun r0=>if r0.2 then (aM (ay (dt r0) aQ (0,0)) (fun r5=>some r5) (fun s6=>if decide (s6.1>20) then (some ((([] :List Int),0,0,([] :List Int),false),false)) else ((mg r0.1).bind fun r7=>(bz eE (([] :List Int),0,0,([] :List Int),false) r7).bind fun r8=>some ((r8.2.1,r8.1.1,r8.1.2.1,r8.2.2.2.2.1,r8.1.2.2),true)))) else (some ((([] :List Int),0,0,([] :List Int),false),false))
def dW (p3:Int->Int->Option (Int×Bool)) (s29:(List Int)×Yq4×Int×Int×(List Bool)×(List (List Int))) (s39:(List Int)×Yq4×(List Int)×Int):Option (Out (Yq2×Bool) ((List Int)×Yq4×(List Int)×Int)):=
 if decide (s39.2.2.2<9) then (Option.bind (((aP s39.1 s29.2.2.1).bind fun x20=>(p3 x20 s39.2.2.2).bind fun r20=>if r20.2 then ((chk (iOk r20.1=true)).bind fun _=>Option.bind ((if (lkM s39.2.1 r20.1).isSome then (some (s39.1,s39.2.1,(lkM s39.2.1 r20.1).getD 0)) else ((Cp s39.2.1 iOk iOk r20.1 (s39.1.length:Int)).bind fun m37=>(ct 8 s39.1 ([r20.1])).bind fun z75=>some (z75,m37,(s39.1.length:Int))):Option ((List Int)×Yq4×Int))) (fun s43=>(ct 8 s39.2.2.1 ([s43.2.2])).bind fun z76=>some (s43.1,s43.2.1,z76))) else ((ct 8 s39.2.2.1 ([-1])).bind fun z73=>some (s39.1,s39.2.1,z73)):Option ((List Int)×Yq4×(List Int)))) (fun s42=>some (.nxt (s42.1,s42.2.1,s42.2.2,IntKind.i64.wrap (s39.2.2.2+1))))) else (some (.brk (s39.1,s39.2.1,s39.2.2.1,s39.2.2.2)))
def cd (p1:Int) (p2:Int->Option Bool) (p3:Int->Int->Option (Int×Bool)) (s29:(List Int)×Yq4×Int×Int×(List Bool)×(List (List Int))):Option (Out (Yq2×Bool) ((List Int)×Yq4×Int×Int×(List Bool)×(List (List Int)))):=
 if decide (s29.2.2.1<(s29.1.length:Int)) then (aM (ay (dW p3 s29) aQ (s29.1,s29.2.1,([] :List Int),0)) (fun r=>some (.ret r)) (fun s40=>if decide ((s40.1.length:Int)>p1) then (some (.ret ((0,[],[]),false))) else ((aP s40.1 s29.2.2.1).bind fun x21=>(p2 x21).bind fun r21=>(ct 1 s29.2.2.2.2.1 ([r21])).bind fun z77=>(ct 24 s29.2.2.2.2.2 ([s40.2.2.1])).bind fun z78=>some (.nxt (s40.1,s40.2.1,IntKind.i64.wrap (s29.2.2.1+1),s29.2.2.2.1,z77,z78))))) else (some (.brk (s29.1,s29.2.1,s29.2.2.1,s29.2.2.2.1,s29.2.2.2.2.1,s29.2.2.2.2.2)))
def eJ (p0:Int) (p1:Int) (p2:Int->Option Bool) (p3:Int->Int->Option (Int×Bool)):Option (Yq2×Bool):=
 (Cp ([] :List (Int×Int)) iOk iOk p0 0).bind fun m1=>aM (ay (cd p1 p2 p3) aQ ([p0],m1,0,0,[],[])) (fun r=>some r) (fun s30=>some ((s30.2.2.2.1,s30.2.2.2.2.1,s30.2.2.2.2.2),true))
def du (p0p:(List Int)×Int×Int×(List Int)×Bool) (p1set:Int):Option Bool:=
 if (od p1set 1)==1 then (if p0p.2.2.2.2 then (some true) else (some ((od (lT p1set 1) p0p.2.2.1) !=0))) else (some ((od (lT p1set 1) p0p.2.2.1) !=0))
def c9 (p0p:(List Int)×Int×Int×(List Int)×Bool) (p1set:Int) (s6:Int×Int):Option Jk:=
 if decide (s6.2<(p0p.2.2.2.1.length:Int)) then (Option.bind (((aP p0p.2.2.2.1 s6.2).bind fun x6=>(chk (0<=IntKind.i64.wrap (s6.2+1))).bind fun _=>if (od (lT p1set (IntKind.i64.wrap (s6.2+1))) 1)==1 then (some (orI s6.1 x6)) else (some s6.1):Option Int)) (fun s8=>some (.nxt (s8,IntKind.i64.wrap (s6.2+1))))) else (some (.brk (s6.1,s6.2)))
def da (p0p:(List Int)×Int×Int×(List Int)×Bool) (p2letter:Int) (s7:Int×Int) (s13:Int×Int):Option Jk:=
 if decide (s13.2<(p0p.1.length:Int)) then (Option.bind (((aP p0p.1 s13.2).bind fun x12=>if x12==p2letter then ((chk (0<=s13.2)).bind fun _=>if (od (lT s7.1 s13.2) 1)==1 then ((chk (0<=IntKind.i64.wrap (s13.2+1))).bind fun _=>some (orI s13.1 (tn 1 (IntKind.i64.wrap (s13.2+1))))) else (some s13.1)) else (some s13.1):Option Int)) (fun s15=>some (.nxt (s15,IntKind.i64.wrap (s13.2+1))))) else (some (.brk (s13.1,s13.2)))
def fQ (p0p:(List Int)×Int×Int×(List Int)×Bool) (p1set:Int) (p2letter:Int):Option Int:=
 Option.bind ((if (od p1set 1)==1 then (some p0p.2.1) else (some 0):Option Int)) (fun s1=>aM (ay (c9 p0p p1set) aQ (s1,0)) (fun r=>some r) (fun s7=>aM (ay (da p0p p2letter s7) aQ (0,0)) (fun r=>some r) (fun s14=>some s14.1)))
def de (p0set:Int) (p1letter:Int) (q0:(List Int)×Int×Int×(List Int)×Bool):Option (Int×Bool):=
 (fQ (q0.1,q0.2.1,q0.2.2.1,q0.2.2.2.1,q0.2.2.2.2) p0set p1letter).bind fun r1=>some (r1,r1 !=0)
def gK (p0p:(List Int)×Int×Int×(List Int)×Bool) (p1most:Int):Option (Yq2×Bool):=
 (eJ 1 p1most (fun a0=>du (p0p.1,p0p.2.1,p0p.2.2.1,p0p.2.2.2.1,p0p.2.2.2.2) a0) (fun a0 a1=>de a0 a1 (p0p.1,p0p.2.1,p0p.2.2.1,p0p.2.2.2.1,p0p.2.2.2.2))).bind fun r1=>some ((r1.1.1,r1.1.2.1,r1.1.2.2),r1.2)
def dw (s5:Bool×Int×List Bool) (x6:List Int) (s8:Bool×Int×List Bool):Option (Out (List Bool) (Bool×Int×List Bool)):=
 if decide (s8.2.1<(x6.length:Int)) then (Option.bind (((aP x6 s8.2.1).bind fun x9=>if decide (x9≥0) then ((aP s8.2.2 x9).bind fun x10=>if x10 then ((aP s8.2.2 s5.2.1).bind fun x11=>if x11 then (some (s8.1,s8.2.2)) else ((aP s8.2.2 s5.2.1).bind fun x12=>some (true,s8.2.2.set s5.2.1.toNat true))) else (some (s8.1,s8.2.2))) else (some (s8.1,s8.2.2)):Option (Bool×List Bool))) (fun s13=>some (.nxt (s13.1,IntKind.i64.wrap (s8.2.1+1),s13.2)))) else (some (.brk (s8.1,s8.2.1,s8.2.2)))
def dx (p0a:Int×(List Bool)×List (List Int)) (s5:Bool×Int×List Bool):Option (Out (List Bool) (Bool×Int×List Bool)):=
 if decide (s5.2.1<(p0a.2.2.length:Int)) then ((aP p0a.2.2 s5.2.1).bind fun x6=>aM (ay (dw s5 x6) aQ (s5.1,0,s5.2.2)) (fun r14=>some (.ret r14)) (fun s15=>some (.nxt (s15.1,IntKind.i64.wrap (s5.2.1+1),s15.2.2)))) else (some (.brk (s5.1,s5.2.1,s5.2.2)))
def gL (p0a:Int×(List Bool)×List (List Int)) (s3:Bool×List Bool):Option (Out (List Bool) (Bool×List Bool)):=
 if s3.1 then (aM (ay (dx p0a) aQ (false,0,s3.2)) (fun r16=>some (.ret r16)) (fun s17=>some (.nxt (s17.1,s17.2.2)))) else (some (.brk (s3.1,s3.2)))
def eQ (p0a:Int×(List Bool)×List (List Int)):Option (List Bool):=
 (ct 1 ([] :List Bool) p0a.2.1).bind fun z0=>aM (ay (gL p0a) aQ (true,z0)) (fun r18=>some r18) (fun s19=>some s19.2)
def cw (p0s:List (List Int)) (p1f:(List Int)->Option Bool) (s3:Int):Option (Out Int Int):=
 if decide (s3<(p0s.length:Int)) then ((aP p0s s3).bind fun x3=>(p1f x3).bind fun r6=>if r6 then (some (.ret s3)) else (some (.nxt (IntKind.i64.wrap (s3+1))))) else (some (.brk s3))
def bV (p0s:List (List Int)) (p1f:(List Int)->Option Bool):Option Int:=
 aM (ay (cw p0s p1f) aQ 0) (fun r=>some r) (fun s4=>some (-1))
def gm (p0x:List Int) (q0:List Int):Option Bool:=
 (c8 p0x q0).bind fun r1=>some r1
def cU (p1:List Int) (x57:List Int) (s52:Int×(List Int)):Option (Out ((List Int)×Int) (Int×(List Int))):=
 if decide (s52.1<(x57.length:Int)) then ((aP x57 s52.1).bind fun x64=>Option.bind ((if decide (x64≥0) then ((aP p1 x64).bind fun x66=>some x66) else (some x64):Option Int)) (fun s54=>(ct 8 s52.2 ([s54])).bind fun z38=>some (.nxt (IntKind.i64.wrap (s52.1+1),z38)))) else (some (.brk (s52.1,s52.2)))
def dL (p0:Int×(List Bool)×(List (List Int))) (p1:List Int) (s37:(List (List Int))×(List Int)×Int):Option (Out ((List Int)×Int) ((List (List Int))×(List Int)×Int)):=
 if decide (s37.2.2<(p1.length:Int)) then (Option.bind (((aP p1 s37.2.2).bind fun x56=>if decide (x56<0) then ((ct 8 s37.2.1 ([-1])).bind fun z42=>some (s37.1,z42)) else ((aP p0.2.2 s37.2.2).bind fun x57=>aM (ay (cU p1 x57) aQ (0,[x56])) (fun _=>none) (fun s53=>(bV s37.1 (fun a0=>gm a0 s53.2)).bind fun r12=>Option.bind ((if decide (r12<0) then ((ct 24 s37.1 ([s53.2])).bind fun z40=>some (z40,(s37.1.length:Int))) else (some (s37.1,r12)):Option ((List (List Int))×Int))) (fun s55=>(ct 8 s37.2.1 ([s55.2])).bind fun z41=>some (s55.1,z41)))):Option ((List (List Int))×(List Int)))) (fun s47=>some (.nxt (s47.1,s47.2,IntKind.i64.wrap (s37.2.2+1))))) else (some (.brk (s37.1,s37.2.1,s37.2.2)))
def dG (p0:Int×(List Bool)×(List (List Int))) (p1:List Int):Option ((List Int)×Int):=
 aM (ay (dL p0 p1) aQ (([] :List (List Int)),([] :List Int),0)) (fun r=>some r) (fun s38=>some (s38.2.1,(s38.1.length:Int)))
def cH (p0a:Int×(List Bool)×(List (List Int))) (r1:List Bool) (s5:(List Int)×Int):Option Yq8:=
 if decide (s5.2<(r1.length:Int)) then (Option.bind (((aP r1 s5.2).bind fun x11=>if x11 then ((aP p0a.2.1 s5.2).bind fun x12=>if x12 then ((ct 8 s5.1 ([1])).bind fun z18=>some z18) else ((ct 8 s5.1 ([0])).bind fun z17=>some z17)) else ((ct 8 s5.1 ([-1])).bind fun z16=>some z16):Option (List Int))) (fun s7=>some (.nxt (s7,IntKind.i64.wrap (s5.2+1))))) else (some (.brk (s5.1,s5.2)))
def fF (p0a:Int×(List Bool)×(List (List Int))) (s10:(List Int)×Int):Option Yq8:=
 (dG (p0a.1,p0a.2.1,p0a.2.2) s10.1).bind fun r4=>if r4.2==s10.2 then (some (.ret r4.1)) else (some (.nxt (r4.1,r4.2)))
def dy (p0a:Int×(List Bool)×(List (List Int))):Option (List Int):=
 (eQ (p0a.1,p0a.2.1,p0a.2.2)).bind fun r1=>aM (ay (cH p0a r1) aQ (([] :List Int),0)) (fun r=>some r) (fun s6=>aM (ay (fF p0a) aQ (s6.1,-1)) (fun r=>some r) (fun s11=>none))
def sH (p0x:Int) (p1y:Int):Option (Int×Int):=
 some (IntKind.u32.wrap (lT (IntKind.u64.wrap ((IntKind.u64.wrap p0x)*(IntKind.u64.wrap p1y))) 32),IntKind.u32.wrap (IntKind.u64.wrap ((IntKind.u64.wrap p0x)*(IntKind.u64.wrap p1y))))
def mJ (p0x:Int) (p1y:Int):Option (Int×Int):=
 some (IntKind.u64.wrap ((IntKind.u64.wrap ((IntKind.u64.wrap ((lT p0x 32)*(lT p1y 32)))+(lT (IntKind.u64.wrap ((IntKind.u64.wrap ((lT p0x 32)*(Na p1y 4294967295)))+(lT (IntKind.u64.wrap ((Na p0x 4294967295)*(Na p1y 4294967295))) 32))) 32)))+(lT (IntKind.u64.wrap ((Na (IntKind.u64.wrap ((IntKind.u64.wrap ((lT p0x 32)*(Na p1y 4294967295)))+(lT (IntKind.u64.wrap ((Na p0x 4294967295)*(Na p1y 4294967295))) 32))) 4294967295)+(IntKind.u64.wrap ((Na p0x 4294967295)*(lT p1y 32))))) 32)),IntKind.u64.wrap (p0x*p1y))
def ot (p0x:Int) (p1y:Int):Option (Int×Int):=
 (mJ p0x p1y).bind fun r1=>some (r1.1,r1.2)
def kY (s4:Int×List Int):Option (Out (List Int) (Int×List Int)):=
 if decide (s4.1<(s4.2.length:Int)) then ((chk (And (0<=s4.1) (s4.1<=(s4.2.length:Int)))).bind fun _=>(chk (And (0<=s4.1) (s4.1<=(s4.2.length:Int)))).bind fun _=>(chk (And (0<=s4.1) (s4.1<=(s4.2.length:Int)))).bind fun _=>(chk (And (0<=s4.1) (s4.1<=(s4.2.length:Int)))).bind fun _=>some (.nxt (IntKind.i64.wrap (s4.1+((Min.min ((s4.2.take s4.1.toNat).length) (s4.2.length - s4.1.toNat):Nat):Int)),zj s4.2 s4.1.toNat (s4.2.take s4.1.toNat)))) else (some (.brk (s4.1,s4.2)))
def cf (p0x:List Int) (p1count:Int):Option (List Int):=
 if decide (p1count<0) then (none) else ((ot (IntKind.u64.wrap (p0x.length:Int)) (IntKind.u64.wrap p1count)).bind fun r0=>if decide (r0.1>0) then (none) else (if decide (r0.2>9223372036854775807) then (none) else ((mkI 8 (IntKind.i64.wrap r0.2) 0).bind fun z1=>aM (ay (kY) aQ (((Min.min p0x.length (z1.length - 0):Nat):Int),zj z1 0 p0x)) (fun r13=>some r13) (fun s14=>some s14.2))))
def sI:Option Yq2:=
 (cf ([-1]) 9).bind fun r1=>some (0,[false],[r1])
def dC (p0s:List Int) (p1v:Int) (s3:Int):Option (Out Int Int):=
 if decide (s3<(p0s.length:Int)) then ((aP p0s s3).bind fun x3=>if p1v==x3 then (some (.ret s3)) else (some (.nxt (IntKind.i64.wrap (s3+1))))) else (some (.brk s3))
def eF (p0s:List Int) (p1v:Int):Option Int:=
 aM (ay (dC p0s p1v) aQ 0) (fun r=>some r) (fun s4=>some (-1))
def bc (p0class:Int) (q0:List Int):Option Int:=
 (eF q0 p0class).bind fun r1=>some r1
def cJ (p0c:Int) (q0:Int×(List Bool)×(List (List Int))) (q1:Int->Option Int):Option Bool:=
 (q1 p0c).bind fun r1=>(aP q0.2.1 r1).bind fun x1=>some x1
def aS (p0a:Int×(List Bool)×(List (List Int))) (p1s:Int) (p2letter:Int):Option Int:=
 if decide (p1s<0) then (some (-1)) else ((jG p2letter).bind fun r1=>if r1 then ((aP p0a.2.2 p1s).bind fun x1=>(aP x1 p2letter).bind fun x2=>some x2) else (some (-1)))
def cK (p0c:Int) (p1letter:Int) (q0:Int×(List Bool)×(List (List Int))) (q1:Int->Option Int) (q2:List Int):Option (Int×Bool):=
 (q1 p0c).bind fun r1=>(aS (q0.1,q0.2.1,q0.2.2) r1 p1letter).bind fun r2=>if decide (r2<0) then (some (0,false)) else ((aP q2 r2).bind fun x1=>if decide (x1<0) then (some (0,false)) else ((aP q2 r2).bind fun x2=>some (x2,true)))
def cB (p0a:Int×(List Bool)×(List (List Int))):Option Yq2:=
 (dy (p0a.1,p0a.2.1,p0a.2.2)).bind fun r1=>(aP r1 p0a.1).bind fun x1=>if decide (x1<0) then ((sI).bind fun r3=>some (r3.1,r3.2.1,r3.2.2)) else ((aP r1 p0a.1).bind fun x2=>(eJ x2 (r1.length:Int) (fun a0=>cJ a0 (p0a.1,p0a.2.1,p0a.2.2) (fun a0=>bc a0 r1)) (fun a0 a1=>cK a0 a1 (p0a.1,p0a.2.1,p0a.2.2) (fun a0=>bc a0 r1) r1)).bind fun r2=>some (r2.1.1,r2.1.2.1,r2.1.2.2))
def xW (p0a:Int×(List Bool)×(List (List Int))):Option (Yq2×Bool):=
 (cB (p0a.1,p0a.2.1,p0a.2.2)).bind fun r1=>if decide ((r1.2.1.length:Int)>12) then (some ((0,[],[]),false)) else (some ((r1.1,r1.2.1,r1.2.2),true))
def gM (p0e:(List Yq1)):Option (Yq2×Bool):=
 (gq p0e).bind fun r1=>if r1.2 then ((gK (r1.1.1,r1.1.2.1,r1.1.2.2.1,r1.1.2.2.2.1,r1.1.2.2.2.2) 200).bind fun r2=>if r2.2 then ((xW (r2.1.1,r2.1.2.1,r2.1.2.2)).bind fun r3=>some ((r3.1.1,r3.1.2.1,r3.1.2.2),r3.2)) else (some ((0,[],[]),false))) else (some ((0,[],[]),false))
def kZ (p0e:(List Yq1)):Option (List Yq1):=
 (ct 32 ([] :List Yq1) p0e).bind fun z1=>some z1
def bL (p0s:List Yq2) (p1f:Yq2->Option Bool) (s3:Int):Option (Out Int Int):=
 if decide (s3<(p0s.length:Int)) then ((aP p0s s3).bind fun x3=>(p1f (x3.1,x3.2.1,x3.2.2)).bind fun r9=>if r9 then (some (.ret s3)) else (some (.nxt (IntKind.i64.wrap (s3+1))))) else (some (.brk s3))
def a8 (p0s:List Yq2) (p1f:Yq2->Option Bool):Option Int:=
 aM (ay (bL p0s p1f) aQ 0) (fun r=>some r) (fun s4=>some (-1))
def k9 (p0b:Int×(List Bool)×(List (List Int))) (q0:Int×(List Bool)×(List (List Int))):Option Bool:=
 (dS (q0.1,q0.2.1,q0.2.2) (p0b.1,p0b.2.1,p0b.2.2)).bind fun r1=>some r1
def j4 (p0:List Yq3) (s7:Int×(List Yq2)×(List Yq3)):Option (Out (Ng×Bool) QJ):=
 if decide (s7.1<(p0.length:Int)) then ((aP p0 s7.1).bind fun x5=>(gM x5.2.1).bind fun r16=>if r16.2 then ((cG x5.1 1 99).bind fun r17=>if r17 then (if decide (s7.1>0) then ((aP p0 (IntKind.i64.wrap (s7.1 - 1))).bind fun x6=>if decide (x6.1≥x5.1) then (some (.ret (([],[]),false))) else ((a8 s7.2.1 (fun a0=>k9 a0 (r16.1.1,r16.1.2.1,r16.1.2.2))).bind fun r20=>Option.bind ((if decide (r20<0) then ((ct 56 s7.2.1 ([(r16.1.1,r16.1.2.1,r16.1.2.2)])).bind fun z17=>some ((s7.2.1.length:Int),z17,s7.2.2)) else (some (r20,s7.2.1,s7.2.2)):Option QJ)) (fun s10=>(kZ x5.2.1).bind fun r21=>(ct 40 s10.2.2 ([(x5.1,r21,s10.1)])).bind fun z18=>some (.nxt (IntKind.i64.wrap (s7.1+1),s10.2.1,z18))))) else ((a8 s7.2.1 (fun a0=>k9 a0 (r16.1.1,r16.1.2.1,r16.1.2.2))).bind fun r18=>Option.bind ((if decide (r18<0) then ((ct 56 s7.2.1 ([(r16.1.1,r16.1.2.1,r16.1.2.2)])).bind fun z14=>some ((s7.2.1.length:Int),z14,s7.2.2)) else (some (r18,s7.2.1,s7.2.2)):Option QJ)) (fun s9=>(kZ x5.2.1).bind fun r19=>(ct 40 s9.2.2 ([(x5.1,r19,s9.1)])).bind fun z15=>some (.nxt (IntKind.i64.wrap (s7.1+1),s9.2.1,z15))))) else (some (.ret (([],[]),false)))) else (some (.ret (([],[]),false)))) else (some (.brk (s7.1,s7.2.1,s7.2.2)))
def ri (p0:List Yq3):Option (Ng×Bool):=
 aM (ay (j4 p0) aQ (0,[],[])) (fun r=>some r) (fun s8=>some ((s8.2.1,s8.2.2),decide ((p0.length:Int)<=4)))
def df (p0r:(List Yq2)×(List Yq3)):Option Bool:=
 (ri p0r.2).bind fun r1=>if r1.2 then ((fP (r1.1.1,r1.1.2) (p0r.1,p0r.2)).bind fun r2=>some r2) else (some false)
def bh (p0s:List Yq3) (p1f:Yq3->Option Bool) (s3:Int):Option (Out Int Int):=
 if decide (s3<(p0s.length:Int)) then ((aP p0s s3).bind fun x3=>(p1f (x3.1,x3.2.1,x3.2.2)).bind fun r6=>if r6 then (some (.ret s3)) else (some (.nxt (IntKind.i64.wrap (s3+1))))) else (some (.brk s3))
def bR (p0s:List Yq3) (p1f:Yq3->Option Bool):Option Int:=
 aM (ay (bh p0s p1f) aQ 0) (fun r=>some r) (fun s4=>some (-1))
def j5 (p0q:Int×((List Yq1))×Int) (q0:Int):Option Bool:=
 some (p0q.1==q0)
def lX (p0r:(List Yq2)×(List Yq3)) (p1id:Int):Option Int:=
 (bR p0r.2 (fun a0=>j5 a0 p1id)).bind fun r1=>some r1
def eR (p0l:List Int):Option (List Int):=
 (ct 8 ([] :List Int) p0l).bind fun z1=>some z1
def dH (p0a:Int×(List Bool)×(List (List Int))) (s3:Int×Int×(List Bool)×(List (List Int))):Option (Out Yq2 (Int×Int×(List Bool)×(List (List Int)))):=
 if decide (s3.1<(p0a.2.2.length:Int)) then ((aP p0a.2.2 s3.1).bind fun x3=>(eR x3).bind fun r6=>(ct 24 s3.2.2.2 ([r6])).bind fun z4=>some (.nxt (IntKind.i64.wrap (s3.1+1),s3.2.1,s3.2.2.1,z4))) else (some (.brk (s3.1,s3.2.1,s3.2.2.1,s3.2.2.2)))
def iA (p0a:Int×(List Bool)×(List (List Int))):Option Yq2:=
 (ct 1 ([] :List Bool) p0a.2.1).bind fun z1=>aM (ay (dH p0a) aQ (0,p0a.1,z1,[])) (fun r=>some r) (fun s4=>some (s4.2.1,s4.2.2.1,s4.2.2.2))
def cz (p0r:(List Yq2)×(List Yq3)) (p1id:Int):Option (Yq2×Bool):=
 (lX (p0r.1,p0r.2) p1id).bind fun r1=>if decide (r1<0) then (some ((0,[],[]),false)) else ((df (p0r.1,p0r.2)).bind fun r2=>if r2 then ((aP p0r.2 r1).bind fun x1=>(aP p0r.1 x1.2.2).bind fun x2=>(iA (x2.1,x2.2.1,x2.2.2)).bind fun r5=>some ((r5.1,r5.2.1,r5.2.2),true)) else (some ((0,[],[]),false)))
def cn (p0a:Int×(List Bool)×(List (List Int))) (x9:List Int) (s15:Int):Option (Out Bool Int):=
 if decide (s15<(x9.length:Int)) then ((aP x9 s15).bind fun x12=>(cG x12 (-1) (IntKind.i64.wrap ((p0a.2.1.length:Int) - 1))).bind fun r14=>if r14 then (some (.nxt (IntKind.i64.wrap (s15+1)))) else (some (.ret false))) else (some (.brk s15))
def dM (p0a:Int×(List Bool)×(List (List Int))) (s11:Int):Option (Out Bool Int):=
 if decide (s11<(p0a.2.2.length:Int)) then ((aP p0a.2.2 s11).bind fun x9=>aM (ay (cn p0a x9) aQ 0) (fun r=>some (.ret r)) (fun s16=>if (x9.length:Int) !=9 then (some (.ret false)) else (some (.nxt (IntKind.i64.wrap (s11+1)))))) else (some (.brk s11))
def aW (p0a:Int×(List Bool)×(List (List Int))):Option Bool:=
 (cG (p0a.2.1.length:Int) 1 12).bind fun r1=>if r1 then ((cG p0a.1 0 (IntKind.i64.wrap ((p0a.2.1.length:Int) - 1))).bind fun r2=>if r2 then (if (p0a.2.2.length:Int) !=(p0a.2.1.length:Int) then (some false) else (aM (ay (dM p0a) aQ 0) (fun r=>some r) (fun s12=>some true))) else (some false)) else (some false)
def cV (p1next:(Int×Int)->Int->Option (Int×Int)) (x4:(Int×Int)×List Int) (s8:(List ((Int×Int)×List Int))×Int×List ((Int×Int)×Bool)):Option (Out ((List Int)×Bool) ((List ((Int×Int)×List Int))×Int×List ((Int×Int)×Bool))):=
 if decide (s8.2.1<9) then (Option.bind (((p1next (x4.1.1,x4.1.2) s8.2.1).bind fun r9=>(chk ((Em (r9.1,r9.2))=true)).bind fun _=>if Option.getD (lkM s8.2.2 (r9.1,r9.2)) false then (some (s8.1,s8.2.2)) else ((Cp s8.2.2 Em bOk (r9.1,r9.2) true).bind fun z11=>(eR x4.2).bind fun r15=>(ct 8 r15 ([s8.2.1])).bind fun z16=>(ct 40 s8.1 ([((r9.1,r9.2),z16)])).bind fun z17=>some (z17,z11)):Option ((List ((Int×Int)×List Int))×List ((Int×Int)×Bool)))) (fun s18=>some (.nxt (s18.1,IntKind.i64.wrap (s8.2.1+1),s18.2)))) else (some (.brk (s8.1,s8.2.1,s8.2.2)))
def fR (p1next:(Int×Int)->Int->Option (Int×Int)) (p2test:(Int×Int)->Option Bool) (s3:(List ((Int×Int)×List Int))×List ((Int×Int)×Bool)):Option (Out ((List Int)×Bool) ((List ((Int×Int)×List Int))×List ((Int×Int)×Bool))):=
 if decide ((s3.1.length:Int)>0) then ((aP s3.1 0).bind fun x4=>(p2test (x4.1.1,x4.1.2)).bind fun r5=>if r5 then ((eR x4.2).bind fun r6=>some (.ret (r6,true))) else (aM (ay (cV p1next x4) aQ (s3.1,0,s3.2)) (fun r19=>some (.ret r19)) (fun s20=>(chk (And ((0:Int)<=1) (1<=(s20.1.length:Int)))).bind fun _=>some (.nxt (s20.1.drop 1,s20.2.2))))) else (some (.brk (s3.1,s3.2)))
def cY (p0first:Int×Int) (p1next:(Int×Int)->Int->Option (Int×Int)) (p2test:(Int×Int)->Option Bool):Option ((List Int)×Bool):=
 (Cp ([] :List ((Int×Int)×Bool)) Em bOk (p0first.1,p0first.2) true).bind fun z0=>aM (ay (fR p1next p2test) aQ ([((p0first.1,p0first.2),([] :List Int))],z0)) (fun r22=>some r22) (fun s23=>some (([] :List Int),false))
def jg (p0s:Int×Int) (p1letter:Int) (q0:Int×(List Bool)×(List (List Int))) (q1:Int×(List Bool)×(List (List Int))):Option (Int×Int):=
 (aS (q0.1,q0.2.1,q0.2.2) p0s.1 p1letter).bind fun r1=>(aS (q1.1,q1.2.1,q1.2.2) p0s.2 p1letter).bind fun r2=>some (r1,r2)
def bS (p0a:Int×(List Bool)×(List (List Int))) (p1s:Int):Option Bool:=
 if decide (p1s≥0) then ((aP p0a.2.1 p1s).bind fun x1=>some x1) else (some false)
def iB (p0s:Int×Int) (q0:Int×(List Bool)×(List (List Int))) (q1:Int×(List Bool)×(List (List Int))):Option Bool:=
 (bS (q0.1,q0.2.1,q0.2.2) p0s.2).bind fun r1=>if r1 then ((bS (q1.1,q1.2.1,q1.2.2) p0s.1).bind fun r2=>some (!r2)) else (some false)
def mK (p0a:Int×(List Bool)×List (List Int)) (p1b:Int×(List Bool)×List (List Int)):Option ((List Int)×Bool):=
 (aW (p0a.1,p0a.2.1,p0a.2.2)).bind fun r0=>if r0 then ((aW (p1b.1,p1b.2.1,p1b.2.2)).bind fun r1=>if r1 then ((cY (p0a.1,p1b.1) (fun (u6:Int×Int) (u7:Int)=>jg u6 u7 (p0a.1,p0a.2.1,p0a.2.2) (p1b.1,p1b.2.1,p1b.2.2)) (fun (u8:Int×Int)=>iB u8 (p1b.1,p1b.2.1,p1b.2.2) (p0a.1,p0a.2.1,p0a.2.2))).bind fun r9=>some (r9.1,r9.2)) else (some (([] :List Int),false))) else (some (([] :List Int),false))
def fl (p0a:Int×(List Bool)×(List (List Int))) (p1b:Int×(List Bool)×(List (List Int))):Option Bool:=
 (mK (p0a.1,p0a.2.1,p0a.2.2) (p1b.1,p1b.2.1,p1b.2.2)).bind fun r1=>(aW (p0a.1,p0a.2.1,p0a.2.2)).bind fun r2=>if r2 then ((aW (p1b.1,p1b.2.1,p1b.2.2)).bind fun r3=>if r3 then (some (!r1.2)) else (some false)) else (some false)
def cC (p0r:(List Yq2)×(List Yq3)) (p1id:Int) (r1:Yq2×Bool) (s5:(List Int)×Int):Option Yq8:=
 if decide (s5.2<(p0r.2.length:Int)) then (Option.bind (((aP p0r.2 s5.2).bind fun x11=>if x11.1 !=p1id then ((aP p0r.1 x11.2.2).bind fun x12=>(fl (r1.1.1,r1.1.2.1,r1.1.2.2) (x12.1,x12.2.1,x12.2.2)).bind fun r25=>if r25 then ((ct 8 s5.1 ([x11.1])).bind fun z6=>some z6) else (some s5.1)) else (some s5.1):Option (List Int))) (fun s7=>some (.nxt (s7,IntKind.i64.wrap (s5.2+1))))) else (some (.brk (s5.1,s5.2)))
def fS (p0r:(List Yq2)×(List Yq3)) (p1id:Int):Option (List Int):=
 (cz (p0r.1,p0r.2) p1id).bind fun r1=>if r1.2 then (aM (ay (cC p0r p1id r1) aQ (([] :List Int),0)) (fun r=>some r) (fun s6=>some s6.1)) else (some ([]))
def gN (p0a:List Int) (p1b:List Int) (s3:Int):Option (Out Bool Int):=
 if decide (s3<(p0a.length:Int)) then ((aP p0a s3).bind fun x5=>(aP p1b s3).bind fun x6=>if x5 !=x6 then (some (.ret false)) else (some (.nxt (IntKind.i64.wrap (s3+1))))) else (some (.brk s3))
def nB (p0a:List Int) (p1b:List Int):Option Bool:=
 if (p0a.length:Int) !=(p1b.length:Int) then (some false) else (aM (ay (gN p0a p1b) aQ 0) (fun r=>some r) (fun s4=>some true))
def gk (p0a:Int×(List Bool)×(List (List Int))) (s11:Int) (s15:Int):Option (Out Bool Int):=
 if decide (s15<9) then ((aP p0a.2.2 s11).bind fun x20=>(aP x20 s15).bind fun x21=>(eP x21 (-1) (IntKind.i64.wrap ((p0a.2.1.length:Int) - 1))).bind fun r22=>if r22 then (some (.nxt (IntKind.i64.wrap (s15+1)))) else (some (.ret false))) else (some (.brk s15))
def kT (p0a:Int×(List Bool)×(List (List Int))) (s11:Int):Option (Out Bool Int):=
 if decide (s11<(p0a.2.1.length:Int)) then ((aP p0a.2.2 s11).bind fun x15=>if (x15.length:Int) !=9 then (some (.ret false)) else (aM (ay (gk p0a s11) aQ 0) (fun r=>some (.ret r)) (fun s16=>some (.nxt (IntKind.i64.wrap (s11+1)))))) else (some (.brk s11))
def mL (p0a:Int×(List Bool)×(List (List Int))):Option Bool:=
 (eP p0a.1 0 (IntKind.i64.wrap ((p0a.2.1.length:Int) - 1))).bind fun r1=>if r1 then (if (p0a.2.2.length:Int) !=(p0a.2.1.length:Int) then (some false) else (aM (ay (kT p0a) aQ 0) (fun r=>some r) (fun s12=>some true))) else (some false)
def a6 (p0a:Int×(List Bool)×(List (List Int))):Option Bool:=
 if decide ((p0a.2.1.length:Int)<=12) then ((mL (p0a.1,p0a.2.1,p0a.2.2)).bind fun r1=>some r1) else (some false)
def j6 (p0a:Int×(List Bool)×(List (List Int))) (p1s:Int):Option Bool:=
 if decide (p1s≥0) then ((aP p0a.2.1 p1s).bind fun x1=>some x1) else (some false)
def nV (p0l:List Yq9) (s3:Int×(List Int)):Option (Out (List Int) (Int×(List Int))):=
 if decide (s3.1>0) then ((aP p0l s3.1).bind fun x5=>(ct 8 ([x5.2.2.2.2]) s3.2).bind fun z3=>(aP p0l s3.1).bind fun x6=>some (.nxt (x6.2.2.2.1,z3))) else (some (.brk (s3.1,s3.2)))
def pf (p0l:List Yq9) (p1k:Int):Option (List Int):=
 aM (ay (nV p0l) aQ (p1k,([] :List Int))) (fun r=>some r) (fun s4=>some s4.2)
def mM (p0a:Int×(List Bool)×(List (List Int))) (p1s:Int) (p2k:Int):Option Int:=
 if decide (p1s<0) then (some (-1)) else ((aP p0a.2.2 p1s).bind fun x1=>(aP x1 p2k).bind fun x2=>some x2)
def lY (p0l:List Yq9) (p1x:Int×Int×Bool×Int×Int) (s3:Int):Option (Out Bool Int):=
 if decide (s3<(p0l.length:Int)) then ((aP p0l s3).bind fun x7=>if x7.1==p1x.1 then ((aP p0l s3).bind fun x8=>if x8.2.1==p1x.2.1 then ((aP p0l s3).bind fun x9=>if x9.2.2.1==p1x.2.2.1 then (some (.ret true)) else (some (.nxt (IntKind.i64.wrap (s3+1))))) else (some (.nxt (IntKind.i64.wrap (s3+1))))) else (some (.nxt (IntKind.i64.wrap (s3+1))))) else (some (.brk s3))
def rj (p0l:List Yq9) (p1x:Int×Int×Bool×Int×Int):Option Bool:=
 aM (ay (lY p0l p1x) aQ 0) (fun r=>some r) (fun s4=>some false)
def gf (p0:Int×(List Bool)×(List (List Int))) (p2:Int×(List Bool)×(List (List Int))) (s19:(List Yq9)×Int) (s26:(List Yq9)×Int):Option (Out ((List Int)×Bool) ((List Yq9)×Int)):=
 if decide (s26.2<9) then (Option.bind (((aP s26.1 s19.2).bind fun x41=>(mM (p0.1,p0.2.1,p0.2.2) x41.1 s26.2).bind fun r70=>(aP s26.1 s19.2).bind fun x42=>(mM (p2.1,p2.2.1,p2.2.2) x42.2.1 s26.2).bind fun r71=>(rj s26.1 (r70,r71,false,s19.2,s26.2)).bind fun r72=>if r72 then (some s26.1) else ((ct 40 s26.1 ([(r70,r71,false,s19.2,s26.2)])).bind fun z18=>some z18):Option (List Yq9))) (fun s28=>some (.nxt (s28,IntKind.i64.wrap (s26.2+1))))) else (some (.brk (s26.1,s26.2)))
def lF (p0:Int×(List Bool)×(List (List Int))) (p2:Int×(List Bool)×(List (List Int))) (p4:Bool) (s19:(List Yq9)×Int):Option (Out ((List Int)×Bool) ((List Yq9)×Int)):=
 if decide (s19.2<(s19.1.length:Int)) then ((aP s19.1 s19.2).bind fun x29=>(j6 (p0.1,p0.2.1,p0.2.2) x29.1).bind fun r49=>(aP s19.1 s19.2).bind fun x30=>(j6 (p2.1,p2.2.1,p2.2.2) x30.2.1).bind fun r50=>Option.bind (if r50 then (if r49 then (if r49 then (if r50 then some false else some (!p4)) else some false) else some true) else (if r49 then (if r50 then some false else some (!p4)) else some false):Option Bool) (fun b57=>if b57 then ((pf s19.1 s19.2).bind fun r54=>some (.ret (r54,true))) else (aM (ay (gf p0 p2 s19) aQ (s19.1,0)) (fun r=>some (.ret r)) (fun s27=>some (.nxt (s27.1,IntKind.i64.wrap (s19.2+1))))))) else (some (.brk (s19.1,s19.2)))
def fT (p0:Int×(List Bool)×(List (List Int))) (p1:Int) (p2:Int×(List Bool)×(List (List Int))) (p3:Int) (p4:Bool):Option ((List Int)×Bool):=
 aM (ay (lF p0 p2 p4) aQ ([(p1,p3,false,0,0)],0)) (fun r=>some r) (fun s20=>some (([] :List Int),false))
def gO (p0a:Int×(List Bool)×(List (List Int))) (p1b:Int×(List Bool)×(List (List Int))):Option ((List Int)×Bool):=
 (a6 (p0a.1,p0a.2.1,p0a.2.2)).bind fun r1=>if r1 then ((a6 (p1b.1,p1b.2.1,p1b.2.2)).bind fun r2=>if r2 then ((fT (p0a.1,p0a.2.1,p0a.2.2) p0a.1 (p1b.1,p1b.2.1,p1b.2.2) p1b.1 true).bind fun r3=>some (r3.1,r3.2)) else (some (([] :List Int),false))) else (some (([] :List Int),false))
def bK (p0a:Int×(List Bool)×(List (List Int))) (p1b:Int×(List Bool)×(List (List Int))):Option Bool:=
 (gO (p0a.1,p0a.2.1,p0a.2.2) (p1b.1,p1b.2.1,p1b.2.2)).bind fun r1=>(a6 (p0a.1,p0a.2.1,p0a.2.2)).bind fun r2=>if r2 then ((a6 (p1b.1,p1b.2.1,p1b.2.2)).bind fun r3=>if r3 then (some (!r1.2)) else (some false)) else (some false)
def br (p0r:(List Yq2)×(List Yq3)) (p1id:Int):Option (Yq2×Bool):=
 (dJ (p0r.1,p0r.2) p1id).bind fun r1=>(bI (p0r.1,p0r.2)).bind fun r2=>if r2 then (if decide (r1<0) then (some ((0,[],[]),false)) else ((aP p0r.2 r1).bind fun x1=>(aP p0r.1 x1.2.2).bind fun x2=>(mH (x2.1,x2.2.1,x2.2.2)).bind fun r5=>some ((r5.1,r5.2.1,r5.2.2),true))) else (some ((0,[],[]),false))
def be (p0r:(List Yq2)×(List Yq3)) (p1id:Int) (r1:Yq2×Bool) (s5:(List Int)×Int):Option Yq8:=
 if decide (s5.2<(p0r.2.length:Int)) then (if r1.2 then (Option.bind (((aP p0r.2 s5.2).bind fun x21=>if x21.1 !=p1id then ((aP p0r.2 s5.2).bind fun x22=>(aP p0r.1 x22.2.2).bind fun x23=>(bK (r1.1.1,r1.1.2.1,r1.1.2.2) (x23.1,x23.2.1,x23.2.2)).bind fun r19=>if r19 then ((aP p0r.2 s5.2).bind fun x24=>(ct 8 s5.1 ([x24.1])).bind fun z6=>some z6) else (some s5.1)) else (some s5.1):Option (List Int))) (fun s7=>some (.nxt (s7,IntKind.i64.wrap (s5.2+1))))) else (some (.brk (s5.1,s5.2)))) else (some (.brk (s5.1,s5.2)))
def fU (p0r:(List Yq2)×(List Yq3)) (p1id:Int):Option (List Int):=
 (br (p0r.1,p0r.2) p1id).bind fun r1=>aM (ay (be p0r p1id r1) aQ (([] :List Int),0)) (fun r=>some r) (fun s6=>some s6.1)
def ou (p0e:Int×Int×Int×Int) (p1nodes:Int):Option Bool:=
 (cG p0e.1 1 99).bind fun r1=>if r1 then ((cG p0e.2.1 0 (IntKind.i64.wrap (p1nodes - 1))).bind fun r2=>if r2 then ((cG p0e.2.2.1 0 (IntKind.i64.wrap (p1nodes - 1))).bind fun r3=>if r3 then ((cG p0e.2.2.2 0 2).bind fun r4=>some r4) else (some false)) else (some false)) else (some false)
def dX (p0g:(List Int)×(List Yq1)) (s3:Int):Option (Out Bool Int):=
 if decide (s3<(p0g.1.length:Int)) then ((aP p0g.1 s3).bind fun x3=>(cG x3 0 2).bind fun r3=>if r3 then (some (.nxt (IntKind.i64.wrap (s3+1)))) else (some (.ret false))) else (some (.brk s3))
def dg (p0g:(List Int)×(List Yq1)) (s7:Int):Option (Out Bool Int):=
 if decide (s7<(p0g.2.length:Int)) then ((aP p0g.2 s7).bind fun x8=>(ou (x8.1,x8.2.1,x8.2.2.1,x8.2.2.2) (p0g.1.length:Int)).bind fun r6=>if r6 then (if decide (s7>0) then ((aP p0g.2 (IntKind.i64.wrap (s7 - 1))).bind fun x9=>if decide (x9.1≥x8.1) then (some (.ret false)) else (some (.nxt (IntKind.i64.wrap (s7+1))))) else (some (.nxt (IntKind.i64.wrap (s7+1))))) else (some (.ret false))) else (some (.brk s7))
def bs (p0g:(List Int)×(List Yq1)):Option Bool:=
 aM (ay (dX p0g) aQ 0) (fun r=>some r) (fun s4=>aM (ay (dg p0g) aQ 0) (fun r=>some r) (fun s8=>(cG (p0g.1.length:Int) 1 5).bind fun r7=>if r7 then (some (decide ((p0g.2.length:Int)<=12))) else (some false)))
def cq (p0g:(List Int)×(List Yq1)) (p2nodes:List Int) (s3:Int):Option (Out Bool Int):=
 if decide (s3<(p2nodes.length:Int)) then ((aP p2nodes s3).bind fun x3=>(cG x3 0 (IntKind.i64.wrap ((p0g.1.length:Int) - 1))).bind fun r3=>if r3 then (some (.nxt (IntKind.i64.wrap (s3+1)))) else (some (.ret false))) else (some (.brk s3))
def bZ (p0g:(List Int)×(List Yq1)) (p1a:Int×(List Bool)×(List (List Int))) (p2nodes:List Int):Option Bool:=
 aM (ay (cq p0g p2nodes) aQ 0) (fun r=>some r) (fun s4=>(bs (p0g.1,p0g.2)).bind fun r4=>if r4 then ((aW (p1a.1,p1a.2.1,p1a.2.2)).bind fun r5=>some r5) else (some false))
def dN (p1:List Int) (s3:(List Int)×Int×List Int):Option (Out (List Int) ((List Int)×Int×List Int)):=
 if decide (s3.2.1<(p1.length:Int)) then ((aP p1 s3.2.1).bind fun x4=>(aP s3.2.2 x4).bind fun x5=>(ct 8 s3.1 ([x4])).bind fun z6=>some (.nxt (z6,IntKind.i64.wrap (s3.2.1+1),s3.2.2.set x4.toNat 0))) else (some (.brk (s3.1,s3.2.1,s3.2.2)))
def dO (x13:List Int) (s15:(List Int)×Int×List Int):Option (Out (List Int) ((List Int)×Int×List Int)):=
 if decide (s15.2.1<(x13.length:Int)) then (Option.bind (((aP x13 s15.2.1).bind fun x16=>(aP s15.2.2 x16).bind fun x17=>if decide (x17<0) then ((aP s15.1 0).bind fun x18=>(aP s15.2.2 x18).bind fun x19=>(aP s15.2.2 x16).bind fun x20=>(ct 8 s15.1 ([x16])).bind fun z21=>some (z21,s15.2.2.set x16.toNat (IntKind.i64.wrap (x19+1)))) else (some (s15.1,s15.2.2)):Option ((List Int)×List Int))) (fun s22=>some (.nxt (s22.1,IntKind.i64.wrap (s15.2.1+1),s22.2)))) else (some (.brk (s15.1,s15.2.1,s15.2.2)))
def eS (p0:List (List Int)) (s11:(List Int)×List Int):Option (Out (List Int) ((List Int)×List Int)):=
 if decide ((s11.1.length:Int)>0) then ((aP s11.1 0).bind fun x12=>(aP p0 x12).bind fun x13=>aM (ay (dO x13) aQ (s11.1,0,s11.2)) (fun r23=>some (.ret r23)) (fun s24=>(chk (And ((0:Int)<=1) (1<=(s24.1.length:Int)))).bind fun _=>some (.nxt (s24.1.drop 1,s24.2.2)))) else (some (.brk (s11.1,s11.2)))
def mi (p0:List (List Int)) (p1:List Int):Option (List Int):=
 (cf ([(-1)]) (p0.length:Int)).bind fun r0=>aM (ay (dN p1) aQ (([] :List Int),0,r0)) (fun r7=>some r7) (fun s8=>aM (ay (eS p0) aQ (s8.1,s8.2.2)) (fun r26=>some r26) (fun s27=>some s27.2))
def qf (p0e:Int×Int×Int×Int) (p1inverse:Bool):Option Int:=
 if p1inverse then (some (IntKind.i64.wrap ((IntKind.i64.wrap (2*p0e.2.2.2))+1))) else (some (IntKind.i64.wrap (2*p0e.2.2.2)))
def mN (p0g:(List Int)×List Yq1) (s3:Int×List (List Yq5)):Option (Out (List (List Yq5)) (Int×List (List Yq5))):=
 if decide (s3.1<(p0g.2.length:Int)) then ((aP p0g.2 s3.1).bind fun x4=>(aP s3.2 x4.2.1).bind fun x11=>(qf (x4.1,x4.2.1,x4.2.2.1,x4.2.2.2) false).bind fun r12=>(ct 32 x11 ([((x4.1,false),r12,x4.2.2.1)])).bind fun z13=>(aP s3.2 x4.2.1).bind fun x14=>(chk (x4.2.1<((s3.2.set x4.2.1.toNat ([] :List Yq5)).length:Int))).bind fun _=>(chk (x4.2.1=x4.2.1)).bind fun _=>(aP (s3.2.set x4.2.1.toNat z13) x4.2.2.1).bind fun x23=>(qf (x4.1,x4.2.1,x4.2.2.1,x4.2.2.2) true).bind fun r24=>(ct 32 x23 ([((x4.1,true),r24,x4.2.1)])).bind fun z25=>(aP (s3.2.set x4.2.1.toNat z13) x4.2.2.1).bind fun x26=>(chk (x4.2.2.1<(((s3.2.set x4.2.1.toNat z13).set x4.2.2.1.toNat ([] :List Yq5)).length:Int))).bind fun _=>(chk (x4.2.2.1=x4.2.2.1)).bind fun _=>some (.nxt (IntKind.i64.wrap (s3.1+1),(s3.2.set x4.2.1.toNat z13).set x4.2.2.1.toNat z25))) else (some (.brk (s3.1,s3.2)))
def tX (p0g:(List Int)×List Yq1):Option (List (List Yq5)):=
 (mkI 24 (p0g.1.length:Int) ([] :List Yq5)).bind fun z0=>aM (ay (mN p0g) aQ (0,z0)) (fun r29=>some r29) (fun s30=>some s30.2)
def nW (p0set:Int) (s5:(List Int)×Int):Option Yq8:=
 (chk (0<=s5.2)).bind fun _=>if (lT p0set s5.2) !=0 then (Option.bind (((chk (0<=s5.2)).bind fun _=>if (od (lT p0set s5.2) 1)==1 then ((ct 8 s5.1 ([s5.2])).bind fun z6=>some z6) else (some s5.1):Option (List Int))) (fun s7=>some (.nxt (s7,IntKind.i64.wrap (s5.2+1))))) else (some (.brk (s5.1,s5.2)))
def gP (p0set:Int):Option (List Int):=
 aM (ay (nW p0set) aQ (([] :List Int),0)) (fun r=>some r) (fun s6=>some s6.1)
def bQ (p0a:Int×(List Bool)×(List (List Int))) (p2value:Int) (s3:Int×Int):Option Jk:=
 if decide (s3.2≥0) then ((chk (0<=s3.2)).bind fun _=>if (od (lT s3.1 s3.2) 1)==0 then ((chk (0<=s3.2)).bind fun _=>(aS (p0a.1,p0a.2.1,p0a.2.2) s3.2 (IntKind.i64.wrap (6+p2value))).bind fun r3=>some (.nxt (orI s3.1 (tn 1 s3.2),r3))) else (some (.brk (s3.1,s3.2)))) else (some (.brk (s3.1,s3.2)))
def dY (p0a:Int×(List Bool)×(List (List Int))) (p1state:Int) (p2value:Int):Option Int:=
 aM (ay (bQ p0a p2value) aQ (0,p1state)) (fun r=>some r) (fun s4=>some s4.1)
def lf (p0a:Int×(List Bool)×(List (List Int))) (p3letter:Int) (r19:List Int) (s23:Int×Int):Option Jk:=
 if decide (s23.2<(r19.length:Int)) then (Option.bind (((aP r19 s23.2).bind fun x21=>(aS (p0a.1,p0a.2.1,p0a.2.2) x21 p3letter).bind fun r25=>if decide (r25≥0) then ((chk (0<=r25)).bind fun _=>some (orI s23.1 (tn 1 r25))) else (some s23.1):Option Int)) (fun s25=>some (.nxt (s25,IntKind.i64.wrap (s23.2+1))))) else (some (.brk (s23.1,s23.2)))
def gQ (p0a:Int×(List Bool)×(List (List Int))) (p2value:Int) (p3letter:Int) (r1:List Int) (s17:Int×Int):Option Jk:=
 if decide (s17.2<(r1.length:Int)) then ((aP r1 s17.2).bind fun x15=>(dY (p0a.1,p0a.2.1,p0a.2.2) x15 p2value).bind fun r18=>(gP r18).bind fun r19=>aM (ay (lf p0a p3letter r19) aQ (s17.1,0)) (fun r=>some (.ret r)) (fun s24=>some (.nxt (s24.1,IntKind.i64.wrap (s17.2+1))))) else (some (.brk (s17.1,s17.2)))
def qg (p0a:Int×(List Bool)×(List (List Int))) (p1set:Int) (p2value:Int) (p3letter:Int):Option Int:=
 (gP p1set).bind fun r1=>aM (ay (gQ p0a p2value p3letter r1) aQ (0,0)) (fun r=>some r) (fun s18=>some s18.1)
def dh (p1:Int×(List Bool)×List (List Int)) (s4:Int×List (List Int)) (s7:Int×List (List Int)) (x10:(Int×Bool)×Int×Int) (r18:List Int) (s20:Int×List (List Int)):Option (Out (List (List Int)) (Int×List (List Int))):=
 if decide (s20.1<(r18.length:Int)) then ((aP r18 s20.1).bind fun x21=>(aP s20.2 (IntKind.i64.wrap ((IntKind.i64.wrap (s4.1*(p1.2.1.length:Int)))+s7.1))).bind fun x27=>(ct 8 x27 ([IntKind.i64.wrap ((IntKind.i64.wrap (x10.2.2*(p1.2.1.length:Int)))+x21)])).bind fun z28=>(aP s20.2 (IntKind.i64.wrap ((IntKind.i64.wrap (s4.1*(p1.2.1.length:Int)))+s7.1))).bind fun x29=>(chk ((IntKind.i64.wrap ((IntKind.i64.wrap (s4.1*(p1.2.1.length:Int)))+s7.1))<((s20.2.set ((IntKind.i64.wrap ((IntKind.i64.wrap (s4.1*(p1.2.1.length:Int)))+s7.1)).toNat) ([] :List Int)).length:Int))).bind fun _=>(chk ((IntKind.i64.wrap ((IntKind.i64.wrap (s4.1*(p1.2.1.length:Int)))+s7.1))=(IntKind.i64.wrap ((IntKind.i64.wrap (s4.1*(p1.2.1.length:Int)))+s7.1)))).bind fun _=>some (.nxt (IntKind.i64.wrap (s20.1+1),s20.2.set ((IntKind.i64.wrap ((IntKind.i64.wrap (s4.1*(p1.2.1.length:Int)))+s7.1)).toNat) z28))) else (some (.brk (s20.1,s20.2)))
def dZ (p0:(List Int)×List Yq1) (p1:Int×(List Bool)×List (List Int)) (s4:Int×List (List Int)) (x5:List Yq5) (s7:Int×List (List Int)) (s9:Int×List (List Int)):Option (Out (List (List Int)) (Int×List (List Int))):=
 if decide (s9.1<(x5.length:Int)) then ((aP x5 s9.1).bind fun x10=>(chk (0<=s7.1)).bind fun _=>(aP p0.1 s4.1).bind fun x16=>(qg (p1.1,p1.2.1,p1.2.2) (tn 1 s7.1) x16 x10.2.1).bind fun r17=>(gP r17).bind fun r18=>aM (ay (dh p1 s4 s7 x10 r18) aQ (0,s9.2)) (fun r32=>some (.ret r32)) (fun s33=>some (.nxt (IntKind.i64.wrap (s9.1+1),s33.2)))) else (some (.brk (s9.1,s9.2)))
def eg (p0:(List Int)×List Yq1) (p1:Int×(List Bool)×List (List Int)) (s4:Int×List (List Int)) (x5:List Yq5) (s7:Int×List (List Int)):Option (Out (List (List Int)) (Int×List (List Int))):=
 if decide (s7.1<(p1.2.1.length:Int)) then (aM (ay (dZ p0 p1 s4 x5 s7) aQ (0,s7.2)) (fun r34=>some (.ret r34)) (fun s35=>some (.nxt (IntKind.i64.wrap (s7.1+1),s35.2)))) else (some (.brk (s7.1,s7.2)))
def fV (p0:(List Int)×List Yq1) (p1:Int×(List Bool)×List (List Int)) (r1:List (List Yq5)) (s4:Int×List (List Int)):Option (Out (List (List Int)) (Int×List (List Int))):=
 if decide (s4.1<(r1.length:Int)) then ((aP r1 s4.1).bind fun x5=>aM (ay (eg p0 p1 s4 x5) aQ (0,s4.2)) (fun r36=>some (.ret r36)) (fun s37=>some (.nxt (IntKind.i64.wrap (s4.1+1),s37.2)))) else (some (.brk (s4.1,s4.2)))
def eK (p0:(List Int)×List Yq1) (p1:Int×(List Bool)×List (List Int)):Option (List (List Int)):=
 (mkI 24 (IntKind.i64.wrap ((p1.2.1.length:Int)*(p0.1.length:Int))) ([] :List Int)).bind fun z0=>(tX (p0.1,p0.2)).bind fun r1=>aM (ay (fV p0 p1 r1) aQ (0,z0)) (fun r38=>some r38) (fun s39=>some s39.2)
def fG (p0g:(List Int)×List Yq1) (p1a:Int×(List Bool)×List (List Int)) (p2source:Int):Option (List Int):=
 (bZ (p0g.1,p0g.2) (p1a.1,p1a.2.1,p1a.2.2) ([p2source])).bind fun r0=>if r0 then ((eK (p0g.1,p0g.2) (p1a.1,p1a.2.1,p1a.2.2)).bind fun r3=>(mi r3 ([IntKind.i64.wrap ((IntKind.i64.wrap (p2source*(p1a.2.1.length:Int)))+p1a.1)])).bind fun r4=>((chk (0<(r4.length:Int))).bind fun _=>some r4).bind fun r6=>some r6) else (some ([] :List Int))
def jr (p0a:Int×(List Bool)×(List (List Int))) (r7:List Int) (s15:Int):Option (Out Bool Int):=
 if decide (s15<(r7.length:Int)) then ((aP r7 s15).bind fun x20=>(aP p0a.2.1 x20).bind fun x21=>if x21 then (some (.ret true)) else (some (.nxt (IntKind.i64.wrap (s15+1))))) else (some (.brk s15))
def eL (p0a:Int×(List Bool)×(List (List Int))) (p2value:Int) (r1:List Int) (s11:Int):Option (Out Bool Int):=
 if decide (s11<(r1.length:Int)) then ((aP r1 s11).bind fun x15=>(dY (p0a.1,p0a.2.1,p0a.2.2) x15 p2value).bind fun r6=>(gP r6).bind fun r7=>aM (ay (jr p0a r7) aQ 0) (fun r=>some (.ret r)) (fun s16=>some (.nxt (IntKind.i64.wrap (s11+1))))) else (some (.brk s11))
def j7 (p0a:Int×(List Bool)×(List (List Int))) (p1set:Int) (p2value:Int):Option Bool:=
 (gP p1set).bind fun r1=>aM (ay (eL p0a p2value r1) aQ 0) (fun r=>some r) (fun s12=>some false)
def eZ (p0:List Int):Option (List Int):=R.O9 p0
def cr (p0s:List Int) (s1:Int) (s8:Int×Int×List Int):Option (Out (List Int) (Int×Int×List Int)):=
 if decide (s8.2.1<((0+((p0s.length:Int) - 0)) - (0+s1))) then (Option.bind (((chk (And (0<=s8.2.1) (s8.2.1<((0+((p0s.length:Int) - 0)) - (0+s1))))).bind fun _=>(aP s8.2.2 ((0+s1)+s8.2.1)).bind fun x14=>(chk (And (0<=(IntKind.i64.wrap (s8.2.1 - 1))) ((IntKind.i64.wrap (s8.2.1 - 1))<((0+((p0s.length:Int) - 0)) - (0+s1))))).bind fun _=>(aP s8.2.2 ((0+s1)+(IntKind.i64.wrap (s8.2.1 - 1)))).bind fun x16=>if x14 !=x16 then ((chk (And (0<=s8.2.1) (s8.2.1<((0+((p0s.length:Int) - 0)) - (0+s1))))).bind fun _=>(aP s8.2.2 ((0+s1)+s8.2.1)).bind fun x18=>(aP s8.2.2 s8.1).bind fun x19=>some (IntKind.i64.wrap (s8.1+1),s8.2.2.set s8.1.toNat x18)) else (some (s8.1,s8.2.2)):Option (Int×List Int))) (fun s20=>some (.nxt (s20.1,IntKind.i64.wrap (s8.2.1+1),s20.2)))) else (some (.brk (s8.1,s8.2.1,s8.2.2)))
def bM (p0s:List Int) (s1:Int):Option (Out (List Int) Int):=
 if decide (s1<(p0s.length:Int)) then ((aP p0s s1).bind fun x4=>(aP p0s (IntKind.i64.wrap (s1 - 1))).bind fun x5=>if x4==x5 then ((chk (And (0<=s1) (And (s1<=((p0s.length:Int) - 0)) ((0+((p0s.length:Int) - 0))<=(p0s.length:Int))))).bind fun _=>aM (ay (cr p0s s1) aQ (s1,1,p0s)) (fun r21=>some (.ret r21)) (fun s22=>(chk (And (0<=s22.1) (And (s22.1<=((s22.2.2.length:Int) - 0)) ((0+((s22.2.2.length:Int) - 0))<=(s22.2.2.length:Int))))).bind fun _=>(chk (And ((0+s22.1)<=(0+((s22.2.2.length:Int) - 0))) ((0+((s22.2.2.length:Int) - 0))<=(s22.2.2.length:Int)))).bind fun _=>(chk (And ((0:Int)<=0) (And (0<=s22.1) ((0+s22.1)<=((rE s22.2.2 ((0+s22.1).toNat) ((0+((s22.2.2.length:Int) - 0)).toNat) 0).length:Int))))).bind fun _=>some (.ret (((rE s22.2.2 ((0+s22.1).toNat) ((0+((s22.2.2.length:Int) - 0)).toNat) 0).take ((0+s22.1).toNat)).drop 0)))) else (some (.nxt (IntKind.i64.wrap (s1+1))))) else (some (.brk s1))
def cM (p0s:List Int):Option (List Int):=
 if decide ((p0s.length:Int)<2) then (some p0s) else (aM (ay (bM p0s) aQ 1) (fun r26=>some r26) (fun s27=>some p0s))
def j8 (p0l:List Int):Option (List Int):=
 (eR p0l).bind fun r0=>(eZ r0).bind fun r1=>(cM r1).bind fun r2=>some r2
def tY (s2:(List Int)×Int):Option Yq8:=
 if decide (s2.2<((0:Nat):Int)) then (none) else (some (.brk (s2.1,s2.2)))
def eT (p0g:(List Int)×List Yq1) (p1a:Int×(List Bool)×List (List Int)) (r0:List Int) (s7:(List Int)×Int):Option Yq8:=
 if decide (s7.2<(r0.length:Int)) then (Option.bind (((aP r0 s7.2).bind fun x8=>if decide (x8≥0) then ((chk ((p1a.2.1.length:Int)≠0)).bind fun _=>(chk (0<=(Int.tmod s7.2 (p1a.2.1.length:Int)))).bind fun _=>(chk ((p1a.2.1.length:Int)≠0)).bind fun _=>(aP p0g.1 (Ed s7.2 (p1a.2.1.length:Int))).bind fun x17=>(j7 (p1a.1,p1a.2.1,p1a.2.2) (tn 1 (Int.tmod s7.2 (p1a.2.1.length:Int))) x17).bind fun r18=>if r18 then ((chk ((p1a.2.1.length:Int)≠0)).bind fun _=>(ct 8 s7.1 ([Ed s7.2 (p1a.2.1.length:Int)])).bind fun z20=>some z20) else (some s7.1)) else (some s7.1):Option (List Int))) (fun s21=>some (.nxt (s21,IntKind.i64.wrap (s7.2+1))))) else (some (.brk (s7.1,s7.2)))
def gR (p0g:(List Int)×List Yq1) (p1a:Int×(List Bool)×List (List Int)) (p2source:Int):Option (List Int):=
 (fG (p0g.1,p0g.2) (p1a.1,p1a.2.1,p1a.2.2) p2source).bind fun r0=>if decide ((r0.length:Int)=0) then (aM (ay (tY) aQ (([] :List Int),0)) (fun r3=>some r3) (fun s4=>(j8 s4.1).bind fun r5=>some r5)) else (aM (ay (eT p0g p1a r0) aQ (([] :List Int),0)) (fun r22=>some r22) (fun s23=>(j8 s23.1).bind fun r24=>some r24))
def kD (s11:Yq4×Int) (r4:List Int) (s15:Yq4×Int):Option (Out Yq4 (Yq4×Int)):=
 if decide (s15.2<(r4.length:Int)) then ((aP r4 s15.2).bind fun x9=>(ct 16 s15.1 ([(s11.2,x9)])).bind fun z9=>some (.nxt (z9,IntKind.i64.wrap (s15.2+1)))) else (some (.brk (s15.1,s15.2)))
def fH (p0g:(List Int)×(List Yq1)) (p1a:Int×(List Bool)×(List (List Int))) (s11:Yq4×Int):Option (Out Yq4 (Yq4×Int)):=
 if decide (s11.2<(p0g.1.length:Int)) then ((gR (p0g.1,p0g.2) (p1a.1,p1a.2.1,p1a.2.2) s11.2).bind fun r4=>aM (ay (kD s11 r4) aQ (s11.1,0)) (fun r=>some (.ret r)) (fun s16=>some (.nxt (s16.1,IntKind.i64.wrap (s11.2+1))))) else (some (.brk (s11.1,s11.2)))
def fa (p0g:(List Int)×(List Yq1)) (p1a:Int×(List Bool)×(List (List Int))):Option Yq4:=
 (bZ (p0g.1,p0g.2) (p1a.1,p1a.2.1,p1a.2.2) ([])).bind fun r1=>if r1 then (aM (ay (fH p0g p1a) aQ (([] :List (Int×Int)),0)) (fun r=>some r) (fun s12=>some s12.1)) else (some ([]))
def eM (p0r:(List Yq2)×(List Yq3)) (p1g:(List Int)×(List Yq1)) (p2id:Int):Option (Yq4×Bool):=
 (cz (p0r.1,p0r.2) p2id).bind fun r1=>if r1.2 then ((bs (p1g.1,p1g.2)).bind fun r2=>if r2 then ((fa (p1g.1,p1g.2) (r1.1.1,r1.1.2.1,r1.1.2.2)).bind fun r3=>some (r3,true)) else (some ([],false))) else (some ([],false))
def Ag (p0g:(List Int)×(List Yq1)) (p1e:Int×Int×Int×Int):Option Bool:=
 (eP p1e.1 1 99).bind fun r1=>if r1 then ((eP p1e.2.1 0 (IntKind.i64.wrap ((p0g.1.length:Int) - 1))).bind fun r2=>if r2 then ((eP p1e.2.2.1 0 (IntKind.i64.wrap ((p0g.1.length:Int) - 1))).bind fun r3=>if r3 then ((eP p1e.2.2.2 0 2).bind fun r4=>some r4) else (some false)) else (some false)) else (some false)
def mO (p0g:(List Int)×(List Yq1)) (s3:Int):Option (Out Bool Int):=
 if decide (s3<(p0g.1.length:Int)) then ((aP p0g.1 s3).bind fun x3=>(eP x3 0 2).bind fun r3=>if r3 then (some (.nxt (IntKind.i64.wrap (s3+1)))) else (some (.ret false))) else (some (.brk s3))
def jz (p0g:(List Int)×(List Yq1)) (s7:Int):Option (Out Bool Int):=
 if decide (s7<(p0g.2.length:Int)) then ((aP p0g.2 s7).bind fun x10=>(Ag (p0g.1,p0g.2) (x10.1,x10.2.1,x10.2.2.1,x10.2.2.2)).bind fun r6=>if r6 then (if decide (s7>0) then ((aP p0g.2 (IntKind.i64.wrap (s7 - 1))).bind fun x11=>(aP p0g.2 s7).bind fun x12=>if decide (x11.1≥x12.1) then (some (.ret false)) else (some (.nxt (IntKind.i64.wrap (s7+1))))) else (some (.nxt (IntKind.i64.wrap (s7+1))))) else (some (.ret false))) else (some (.brk s7))
def cg (p0g:(List Int)×(List Yq1)):Option Bool:=
 aM (ay (mO p0g) aQ 0) (fun r=>some r) (fun s4=>aM (ay (jz p0g) aQ 0) (fun r=>some r) (fun s8=>(eP (p0g.1.length:Int) 1 5).bind fun r7=>if r7 then (some (decide ((p0g.2.length:Int)<=12))) else (some false)))
def gS (p0g:(List Int)×(List Yq1)) (p1a:Int×(List Bool)×(List (List Int))) (p2node:Int) (p3s:Int):Option Bool:=
 (cg (p0g.1,p0g.2)).bind fun r1=>if r1 then ((a6 (p1a.1,p1a.2.1,p1a.2.2)).bind fun r2=>if r2 then ((eP p2node 0 (IntKind.i64.wrap ((p0g.1.length:Int) - 1))).bind fun r3=>if r3 then ((eP p3s 0 (IntKind.i64.wrap ((p1a.2.1.length:Int) - 1))).bind fun r4=>some r4) else (some false)) else (some false)) else (some false)
def j9 (p0g:(List Int)×(List Yq1)) (p1node:Int) (s9:(List (Int×Bool))×Int):Option (Out (List (Int×Bool)) ((List (Int×Bool))×Int)):=
 if decide (s9.2<(p0g.2.length:Int)) then (Option.bind ((Option.bind (((aP p0g.2 s9.2).bind fun x33=>if x33.2.1==p1node then ((aP p0g.2 s9.2).bind fun x34=>(ct 16 s9.1 ([(x34.1,false)])).bind fun z17=>some z17) else (some s9.1):Option (List (Int×Bool)))) (fun s13=>(aP p0g.2 s9.2).bind fun x35=>if x35.2.2.1==p1node then ((aP p0g.2 s9.2).bind fun x36=>(ct 16 s13 ([(x36.1,true)])).bind fun z18=>some z18) else (some s13)):Option (List (Int×Bool)))) (fun s12=>some (.nxt (s12,IntKind.i64.wrap (s9.2+1))))) else (some (.brk (s9.1,s9.2)))
def ox (p0g:(List Int)×(List Yq1)) (p1node:Int):Option (List (Int×Bool)):=
 aM (ay (j9 p0g p1node) aQ (([] :List (Int×Bool)),0)) (fun r=>some r) (fun s10=>some s10.1)
def kE (p0a:Int×(List Bool)×(List (List Int))) (p2v:Int) (s3:Int×Int):Option Jk:=
 if decide (s3.1≥0) then ((chk (0<=s3.1)).bind fun _=>if (od (lT s3.2 s3.1) 1)==0 then ((chk (0<=s3.1)).bind fun _=>(aP p0a.2.2 s3.1).bind fun x5=>(aP x5 (IntKind.i64.wrap (6+p2v))).bind fun x6=>some (.nxt (x6,orI s3.2 (tn 1 s3.1)))) else (some (.brk (s3.1,s3.2)))) else (some (.brk (s3.1,s3.2)))
def fb (p0a:Int×(List Bool)×(List (List Int))) (p1s:Int) (p2v:Int):Option Int:=
 aM (ay (kE p0a p2v) aQ (p1s,0)) (fun r=>some r) (fun s4=>some s4.2)
def lG (p0g:(List Int)×(List Yq1)) (p1id:Int) (s3:Int):Option (Out Int Int):=
 if decide (s3<(p0g.2.length:Int)) then ((aP p0g.2 s3).bind fun x3=>if x3.1==p1id then (some (.ret s3)) else (some (.nxt (IntKind.i64.wrap (s3+1))))) else (some (.brk s3))
def iC (p0g:(List Int)×(List Yq1)) (p1id:Int):Option Int:=
 aM (ay (lG p0g p1id) aQ 0) (fun r=>some r) (fun s4=>some (-1))
def fW (p0e:Int×Int×Int×Int) (p1inverse:Bool):Option Int:=
 if p1inverse then (some (IntKind.i64.wrap ((IntKind.i64.wrap (2*p0e.2.2.2))+1))) else (some (IntKind.i64.wrap (2*p0e.2.2.2)))
def mP (p0e:Int×Int×Int×Int) (p1inverse:Bool):Option Int:=
 if p1inverse then (some p0e.2.1) else (some p0e.2.2.1)
def gT (p1:Int×(List Bool)×(List (List Int))) (r1:Int) (r2:List (Int×Bool)) (s31:(List Yq5)×Int) (x67:Int×Int×Int×Int) (s37:Int×Int):Option (Out (List Yq5) (Int×Int)):=
 if decide (s37.2<(p1.2.1.length:Int)) then (Option.bind (((aP p1.2.2 s37.2).bind fun x83=>(aP r2 s31.2).bind fun x84=>(fW (x67.1,x67.2.1,x67.2.2.1,x67.2.2.2) x84.2).bind fun r53=>(aP x83 r53).bind fun x85=>(chk (0<=s37.2)).bind fun _=>if (od (lT r1 s37.2) 1)==1 then (if decide (x85≥0) then ((chk (0<=x85)).bind fun _=>some (orI s37.1 (tn 1 x85))) else (some s37.1)) else (some s37.1):Option Int)) (fun s39=>some (.nxt (s39,IntKind.i64.wrap (s37.2+1))))) else (some (.brk (s37.1,s37.2)))
def gU (p1:Int×(List Bool)×(List (List Int))) (r2:List (Int×Bool)) (s31:(List Yq5)×Int) (x67:Int×Int×Int×Int) (s38:Int×Int) (s44:(List Yq5)×Int):Option (Out (List Yq5) ((List Yq5)×Int)):=
 if decide (s44.2<(p1.2.1.length:Int)) then (Option.bind (((chk (0<=s44.2)).bind fun _=>if (od (lT s38.1 s44.2) 1)==1 then ((aP r2 s31.2).bind fun x96=>(aP r2 s31.2).bind fun x97=>(mP (x67.1,x67.2.1,x67.2.2.1,x67.2.2.2) x97.2).bind fun r59=>(ct 32 s44.1 ([((x96.1,x96.2),r59,s44.2)])).bind fun z18=>some z18) else (some s44.1):Option (List Yq5))) (fun s46=>some (.nxt (s46,IntKind.i64.wrap (s44.2+1))))) else (some (.brk (s44.1,s44.2)))
def gV (p0:(List Int)×(List Yq1)) (p1:Int×(List Bool)×(List (List Int))) (r1:Int) (r2:List (Int×Bool)) (s31:(List Yq5)×Int):Option (Out (List Yq5) ((List Yq5)×Int)):=
 if decide (s31.2<(r2.length:Int)) then ((aP r2 s31.2).bind fun x66=>(iC (p0.1,p0.2) x66.1).bind fun r41=>(aP p0.2 r41).bind fun x67=>aM (ay (gT p1 r1 r2 s31 x67) aQ (0,0)) (fun r=>some (.ret r)) (fun s38=>aM (ay (gU p1 r2 s31 x67 s38) aQ (s31.1,0)) (fun r=>some (.ret r)) (fun s45=>some (.nxt (s45.1,IntKind.i64.wrap (s31.2+1)))))) else (some (.brk (s31.1,s31.2)))
def jI (p0:(List Int)×(List Yq1)) (p1:Int×(List Bool)×(List (List Int))) (p2:Int) (p3:Int):Option (List Yq5):=
 (aP p0.1 p2).bind fun x1=>(fb (p1.1,p1.2.1,p1.2.2) p3 x1).bind fun r1=>(ox (p0.1,p0.2) p2).bind fun r2=>aM (ay (gV p0 p1 r1 r2) aQ (([] :List Yq5),0)) (fun r=>some r) (fun s32=>some s32.1)
def gW (p0:(List Int)×(List Yq1)) (p1:Int×(List Bool)×(List (List Int))) (s3:(List Int)×Int):Option Yq8:=
 if decide (s3.2<IntKind.i64.wrap ((p0.1.length:Int)*(p1.2.1.length:Int))) then ((ct 8 s3.1 ([-1])).bind fun z3=>some (.nxt (z3,IntKind.i64.wrap (s3.2+1)))) else (some (.brk (s3.1,s3.2)))
def gX (p1:Int×(List Bool)×(List (List Int))) (s21:(List Int)×(List Int)×Int) (r3:List Yq5) (s27:(List Int)×(List Int)×Int):Option (Out (List Int) ((List Int)×(List Int)×Int)):=
 if decide (s27.2.2<(r3.length:Int)) then (Option.bind (((aP r3 s27.2.2).bind fun x111=>(aP r3 s27.2.2).bind fun x112=>(aP s27.1 (IntKind.i64.wrap ((IntKind.i64.wrap (x111.2.1*(p1.2.1.length:Int)))+x112.2.2))).bind fun x113=>if decide (x113<0) then ((aP s27.2.1 s21.2.2).bind fun x114=>(aP s27.1 x114).bind fun x115=>(aP s27.1 (IntKind.i64.wrap ((IntKind.i64.wrap (x111.2.1*(p1.2.1.length:Int)))+x112.2.2))).bind fun x116=>(ct 8 s27.2.1 ([IntKind.i64.wrap ((IntKind.i64.wrap (x111.2.1*(p1.2.1.length:Int)))+x112.2.2)])).bind fun z21=>some (s27.1.set (IntKind.i64.wrap ((IntKind.i64.wrap (x111.2.1*(p1.2.1.length:Int)))+x112.2.2)).toNat (IntKind.i64.wrap (x115+1)),z21)) else (some (s27.1,s27.2.1)):Option ((List Int)×(List Int)))) (fun s29=>some (.nxt (s29.1,s29.2,IntKind.i64.wrap (s27.2.2+1))))) else (some (.brk (s27.1,s27.2.1,s27.2.2)))
def gY (p0:(List Int)×(List Yq1)) (p1:Int×(List Bool)×(List (List Int))) (s21:(List Int)×(List Int)×Int):Option (Out (List Int) ((List Int)×(List Int)×Int)):=
 if decide (s21.2.2<(s21.2.1.length:Int)) then ((aP s21.2.1 s21.2.2).bind fun x79=>(chk ((p1.2.1.length:Int)≠0)).bind fun _=>(aP s21.2.1 s21.2.2).bind fun x80=>(chk ((p1.2.1.length:Int)≠0)).bind fun _=>(jI (p0.1,p0.2) (p1.1,p1.2.1,p1.2.2) (Ed x79 (p1.2.1.length:Int)) (Int.tmod x80 (p1.2.1.length:Int))).bind fun r3=>aM (ay (gX p1 s21 r3) aQ (s21.1,s21.2.1,0)) (fun r=>some (.ret r)) (fun s28=>some (.nxt (s28.1,s28.2.1,IntKind.i64.wrap (s21.2.2+1))))) else (some (.brk (s21.1,s21.2.1,s21.2.2)))
def lg (p0:(List Int)×(List Yq1)) (p1:Int×(List Bool)×(List (List Int))) (p2:Int):Option (List Int):=
 aM (ay (gW p0 p1) aQ (([] :List Int),0)) (fun r=>some r) (fun s4=>(aP ([IntKind.i64.wrap ((IntKind.i64.wrap (p2*(p1.2.1.length:Int)))+p1.1)]) 0).bind fun x1=>(aP s4.1 x1).bind fun x2=>aM (ay (gY p0 p1) aQ (s4.1.set x1.toNat 0,[IntKind.i64.wrap ((IntKind.i64.wrap (p2*(p1.2.1.length:Int)))+p1.1)],0)) (fun r=>some r) (fun s22=>some s22.1))
def fI (p1a:Int×(List Bool)×(List (List Int))) (r1:Int) (s3:Int):Option (Out Bool Int):=
 if decide (s3<(p1a.2.1.length:Int)) then ((chk (0<=s3)).bind fun _=>if (od (lT r1 s3) 1)==1 then ((aP p1a.2.1 s3).bind fun x4=>if x4 then (some (.ret true)) else (some (.nxt (IntKind.i64.wrap (s3+1))))) else (some (.nxt (IntKind.i64.wrap (s3+1))))) else (some (.brk s3))
def jh (p0g:(List Int)×(List Yq1)) (p1a:Int×(List Bool)×(List (List Int))) (p2node:Int) (p3s:Int):Option Bool:=
 (aP p0g.1 p2node).bind fun x1=>(fb (p1a.1,p1a.2.1,p1a.2.2) p3s x1).bind fun r1=>aM (ay (fI p1a r1) aQ 0) (fun r=>some r) (fun s4=>some false)
def lh (p0m:Int) (s5:(List Int)×Int):Option Yq8:=
 if decide (s5.2<30) then (Option.bind (((chk (0<=s5.2)).bind fun _=>if (od (lT p0m s5.2) 1)==1 then ((ct 8 s5.1 ([s5.2])).bind fun z6=>some z6) else (some s5.1):Option (List Int))) (fun s7=>some (.nxt (s7,IntKind.i64.wrap (s5.2+1))))) else (some (.brk (s5.1,s5.2)))
def tZ (p0m:Int):Option (List Int):=
 aM (ay (lh p0m) aQ (([] :List Int),0)) (fun r=>some r) (fun s6=>some s6.1)
def ji (p0g:(List Int)×(List Yq1)) (p1a:Int×(List Bool)×(List (List Int))) (r1:List Int) (s5:Int×Int):Option (Out (List Int) (Int×Int)):=
 if decide (s5.2<(r1.length:Int)) then (Option.bind (((aP r1 s5.2).bind fun x6=>if decide (x6≥0) then ((chk ((p1a.2.1.length:Int)≠0)).bind fun _=>(chk ((p1a.2.1.length:Int)≠0)).bind fun _=>(jh (p0g.1,p0g.2) (p1a.1,p1a.2.1,p1a.2.2) (Ed s5.2 (p1a.2.1.length:Int)) (Int.tmod s5.2 (p1a.2.1.length:Int))).bind fun r7=>if r7 then ((chk ((p1a.2.1.length:Int)≠0)).bind fun _=>(chk (0<=Ed s5.2 (p1a.2.1.length:Int))).bind fun _=>some (orI s5.1 (tn 1 (Ed s5.2 (p1a.2.1.length:Int))))) else (some s5.1)) else (some s5.1):Option Int)) (fun s7=>some (.nxt (s7,IntKind.i64.wrap (s5.2+1))))) else (some (.brk (s5.1,s5.2)))
def mQ (p0g:(List Int)×(List Yq1)) (p1a:Int×(List Bool)×(List (List Int))) (p2source:Int):Option (List Int):=
 (lg (p0g.1,p0g.2) (p1a.1,p1a.2.1,p1a.2.2) p2source).bind fun r1=>aM (ay (ji p0g p1a r1) aQ (0,0)) (fun r=>some r) (fun s6=>(tZ s6.1).bind fun r8=>some r8)
def kF (s11:Yq4×Int) (r6:List Int) (s15:Yq4×Int):Option (Out Yq4 (Yq4×Int)):=
 if decide (s15.2<(r6.length:Int)) then ((aP r6 s15.2).bind fun x9=>(ct 16 s15.1 ([(s11.2,x9)])).bind fun z9=>some (.nxt (z9,IntKind.i64.wrap (s15.2+1)))) else (some (.brk (s15.1,s15.2)))
def di (p0g:(List Int)×(List Yq1)) (p1a:Int×(List Bool)×(List (List Int))) (s11:Yq4×Int):Option (Out Yq4 (Yq4×Int)):=
 if decide (s11.2<(p0g.1.length:Int)) then ((gS (p0g.1,p0g.2) (p1a.1,p1a.2.1,p1a.2.2) 0 0).bind fun r5=>if r5 then ((mQ (p0g.1,p0g.2) (p1a.1,p1a.2.1,p1a.2.2) s11.2).bind fun r6=>aM (ay (kF s11 r6) aQ (s11.1,0)) (fun r=>some (.ret r)) (fun s16=>some (.nxt (s16.1,IntKind.i64.wrap (s11.2+1))))) else (some (.brk (s11.1,s11.2)))) else (some (.brk (s11.1,s11.2)))
def gl (p0g:(List Int)×(List Yq1)) (p1a:Int×(List Bool)×(List (List Int))):Option Yq4:=
 aM (ay (di p0g p1a) aQ (([] :List (Int×Int)),0)) (fun r=>some r) (fun s12=>some s12.1)
def cZ (p0r:(List Yq2)×(List Yq3)) (p1g:(List Int)×(List Yq1)) (p2id:Int):Option (Yq4×Bool):=
 (br (p0r.1,p0r.2) p2id).bind fun r1=>if r1.2 then ((cg (p1g.1,p1g.2)).bind fun r2=>if r2 then ((gl (p1g.1,p1g.2) (r1.1.1,r1.1.2.1,r1.1.2.2)).bind fun r3=>some (r3,true)) else (some (([] :List (Int×Int)),false))) else (some (([] :List (Int×Int)),false))
def iD (p0a:List (Int×Int)) (p1b:List (Int×Int)) (s3:Int):Option (Out Bool Int):=
 if decide (s3<(p0a.length:Int)) then ((aP p0a s3).bind fun x5=>(aP p1b s3).bind fun x6=>if (x5.1==x6.1)&&((x5.2==x6.2)&&true) then (some (.nxt (IntKind.i64.wrap (s3+1)))) else (some (.ret false))) else (some (.brk s3))
def jj (p0a:List (Int×Int)) (p1b:List (Int×Int)):Option Bool:=
 if (p0a.length:Int) !=(p1b.length:Int) then (some false) else (aM (ay (iD p0a p1b) aQ 0) (fun r=>some r) (fun s4=>some true))
def lZ (p0l:List (Int×Int)) (p1p:Int×Int) (s3:Int):Option (Out Bool Int):=
 if decide (s3<(p0l.length:Int)) then ((aP p0l s3).bind fun x3=>if ((x3.1==p1p.1)&&((x3.2==p1p.2)&&true)) then (some (.ret true)) else (some (.nxt (IntKind.i64.wrap (s3+1))))) else (some (.brk s3))
def rk (p0l:List (Int×Int)) (p1p:Int×Int):Option Bool:=
 aM (ay (lZ p0l p1p) aQ 0) (fun r=>some r) (fun s4=>some false)
def pg (p0a:Int×Int) (p1b:Int×Int):Option Bool:=
 if decide (p0a.1<p1b.1) then (some true) else (if p0a.1==p1b.1 then (some (decide (p0a.2<p1b.2))) else (some false))
def l5 (p0l:List (Int×Int)) (p1p:Int×Int) (s1:Int):Option (Out Yq4 Int):=
 if decide (s1<(p0l.length:Int)) then ((aP p0l s1).bind fun x4=>(pg (x4.1,x4.2) (p1p.1,p1p.2)).bind fun r5=>if r5 then (some (.nxt (IntKind.i64.wrap (s1+1)))) else (some (.brk s1))) else (some (.brk s1))
def mj (p0l:List (Int×Int)) (p1p:Int×Int):Option Yq4:=
 aM (ay (l5 p0l p1p) aQ 0) (fun r6=>some r6) (fun s7=>if decide (s7<(p0l.length:Int)) then ((aP p0l s7).bind fun x9=>if Bool.and.match_1 (fun (u10:Bool)=>Bool) (x9.1==p1p.1) (fun (u11:Unit)=>false) (fun (u12:Unit)=>Bool.and.match_1 (fun (u13:Bool)=>Bool) (x9.2==p1p.2) (fun (u14:Unit)=>false) (fun (u15:Unit)=>true)) then (some p0l) else ((chk (And (0<=s7) (s7<=(p0l.length:Int)))).bind fun _=>(ct 16 ([] :List (Int×Int)) ((p0l.take s7.toNat).drop 0)).bind fun z22=>(ct 16 z22 ([(p1p.1,p1p.2)])).bind fun z23=>(chk (And (0<=s7) (s7<=(p0l.length:Int)))).bind fun _=>(ct 16 z23 ((p0l.take p0l.length).drop s7.toNat)).bind fun z25=>some z25)) else ((chk (And (0<=s7) (s7<=(p0l.length:Int)))).bind fun _=>(ct 16 ([] :List (Int×Int)) ((p0l.take s7.toNat).drop 0)).bind fun z32=>(ct 16 z32 ([(p1p.1,p1p.2)])).bind fun z33=>(chk (And (0<=s7) (s7<=(p0l.length:Int)))).bind fun _=>(ct 16 z33 ((p0l.take p0l.length).drop s7.toNat)).bind fun z35=>some z35))
def fm (p0a:List (Int×Int)) (p1b:List (Int×Int)) (s5:Yq4×Int):Option (Out Yq4 (Yq4×Int)):=
 if decide (s5.2<(p0a.length:Int)) then (Option.bind (((aP p0a s5.2).bind fun x11=>(rk p1b (x11.1,x11.2)).bind fun r11=>if r11 then (some s5.1) else ((aP p0a s5.2).bind fun x12=>(mj s5.1 (x12.1,x12.2)).bind fun r12=>some r12):Option Yq4)) (fun s7=>some (.nxt (s7,IntKind.i64.wrap (s5.2+1))))) else (some (.brk (s5.1,s5.2)))
def iE (p0a:List (Int×Int)) (p1b:List (Int×Int)):Option Yq4:=
 aM (ay (fm p0a p1b) aQ (([] :List (Int×Int)),0)) (fun r=>some r) (fun s6=>some s6.1)
def BC (p0a:List (Int×Int)) (p1b:List (Int×Int)):Option Bool:=
 (iE p0a p1b).bind fun r1=>some ((r1.length:Int)==0)
def cL (r2:Ng×((List Int)×(List Yq1))×Int) (r3:List Int) (r6:Yq4×Bool) (s3:Int):Option (Out Bool Int):=
 if decide (s3<(r3.length:Int)) then ((aP r3 s3).bind fun x3=>(eM (r2.1.1,r2.1.2) (r2.2.1.1,r2.2.1.2) x3).bind fun r13=>if r13.2 then ((BC r13.1 r6.1).bind fun r14=>if r14 then (some (.nxt (IntKind.i64.wrap (s3+1)))) else (some (.ret false))) else (some (.nxt (IntKind.i64.wrap (s3+1))))) else (some (.brk s3))
def eU (p0:List Int):Option Bool:=
 (Fb p0).bind fun r1=>if r1 then (some true) else ((fj p0).bind fun r2=>(fS (r2.1.1,r2.1.2) r2.2.2).bind fun r3=>(fU (r2.1.1,r2.1.2) r2.2.2).bind fun r4=>(nB r3 r4).bind fun r5=>if r5 then ((eM (r2.1.1,r2.1.2) (r2.2.1.1,r2.2.1.2) r2.2.2).bind fun r6=>(cZ (r2.1.1,r2.1.2) (r2.2.1.1,r2.2.1.2) r2.2.2).bind fun r7=>if r6.2 !=r7.2 then (some false) else ((jj r6.1 r7.1).bind fun r8=>if r8 then (aM (ay (cL r2 r3 r6) aQ 0) (fun r=>some r) (fun s4=>some true)) else (some false))) else (some false))
def iF (p0a:List (Int×Int)) (s3:Yq4×Int):Option (Out Yq4 (Yq4×Int)):=
 if decide (s3.2<(p0a.length:Int)) then ((aP p0a s3.2).bind fun x3=>(mj s3.1 (x3.1,x3.2)).bind fun r3=>some (.nxt (r3,IntKind.i64.wrap (s3.2+1)))) else (some (.brk (s3.1,s3.2)))
def iG (p1b:List (Int×Int)) (s7:Yq4×Int):Option (Out Yq4 (Yq4×Int)):=
 if decide (s7.2<(p1b.length:Int)) then ((aP p1b s7.2).bind fun x6=>(mj s7.1 (x6.1,x6.2)).bind fun r6=>some (.nxt (r6,IntKind.i64.wrap (s7.2+1)))) else (some (.brk (s7.1,s7.2)))
def rP (p0a:List (Int×Int)) (p1b:List (Int×Int)):Option Yq4:=
 aM (ay (iF p0a) aQ (([] :List (Int×Int)),0)) (fun r=>some r) (fun s4=>aM (ay (iG p1b) aQ (s4.1,0)) (fun r=>some r) (fun s8=>some s8.1))
end D
end Go.Proofs.YtbhafdfiplkacaaGreat
