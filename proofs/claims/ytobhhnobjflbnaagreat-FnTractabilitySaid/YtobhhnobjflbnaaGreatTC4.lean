/- FnTractability: for every input the law returns true and changes nothing that was there. Part 5 of 7. -/
import Derived.Test.YtobhhnobjflbnaaGreatTC3
set_option linter.unusedVariables false
set_option linter.unusedSimpArgs false
set_option linter.unnecessarySimpa false
set_option linter.unusedSectionVars false
set_option maxRecDepth 1000000
namespace Go.Proofs.YtobhhnobjflbnaaGreat
namespace R
open Go.RowKit
open D
def FN (i:Nat):(p:PM)->p.den->AV
 | .rd t,d=>D6 i t d
 | .ow t,d=>Er (gP i [] t d)
 | .fn a b,d=>.one (.fn ⟨i,[]⟩ a b d)
 | .cap T t,d=>.one (.fz ⟨i,[]⟩ T t d 0)
 | .capf T a b,d=>.one (.fzf ⟨i,[]⟩ T a b d)
 | .ptr _ _,_=>.one (.ptr ⟨i,[]⟩ 0)
 | .eat t,d=>Er (gP i [] t d)
 | .fk g,_=>.one (.val (.func (.func g) #[] #[]))
 | .crs _ _,_=>.one (.ptr ⟨i,[]⟩ 0)
def BQ (q i:Nat):(p:PM)->p.den->List (Hdr×Chk)
 | .ow t,d=>ir i [] t d
 | .ptr T t,d=>[(⟨i,[]⟩,.box T t d)]
 | .eat t,d=>ir i [] t d
 | .crs T E,d=>[(⟨i,[]⟩,.blk T [.rd ⟨q,[]⟩ (.sl E (.int .u8)) d.1,.val (.int .i64 d.2.1),.val (.int .i64 d.2.2)])]
 | _,_=>[]
def BR:(i:Nat)->(ps:List PM)->denP ps->List (Nat×Nat×AV)
 | _,[],_=>[]
 | i,p::ps,d=>(i,i,FN i p d.1)::BR (i+1) ps d.2
def yy (q:Nat):(i:Nat)->(ps:List PM)->denP ps->List Ent
 | _,[],_=>[]
 | i,p::ps,d=>(BQ q i p d.1).map (fun g=>(g.1,i,g.2))++yy q (i+1) ps d.2
def sJ (ps:List PM) (d:denP ps):Sg:=⟨BR 0 ps d,yy ps.length 0 ps d,ps.length+1⟩
def Qy (P:Program) (w0:World) (J:Hp) (θ:Th) (n i:Nat):(p:PM)->Value->p.den->Prop
 | .ow t,v,d=>(gP i [] t d).2.map (·.v θ)=fJ t.isProd v/\ ∀x∈(gP i [] t d).2,x.ok P w0 J θ n
 | .ptr _ _,v,_=>hv θ ⟨i,[]⟩=v/\i<n
 | .crs _ _,v,_=>hv θ ⟨i,[]⟩=v/\i<n
 | _,_,_=>True
def StF (P:Program) (w0:World) (J:Hp) (θ:Th) (n:Nat):(i:Nat)->(ps:List PM)->List Value->denP ps->Prop
 | i,p::ps,v::vs,d=>Qy P w0 J θ n i p v d.1/\StF P w0 J θ n (i+1) ps vs d.2
 | _,_,_,_=>True
section
variable {P:Program} {w0 w:World} {J:Hp} {θ:Th} {n:Nat} {C:List Ch}
theorem qD {id:Nat} {pre:List Nat} {t:Ty} {d:t.den} : ∀g∈ir id pre t d,HV g.2:=eO t d 0
theorem FO {p:PM} {i:Nat} {v:Value} {d:p.den} {ps:List PM} {vs:List Value} {e:denP ps} {γ:Value} {q:Nat} (hi:i<n) (hq:q<n) (hγ:θ q=γ) (hθ:θ i=v) (h:PO P w0 J γ p v d) (hS:St J w0 w (owCh γ (p::ps) (v::vs) (d,e)++C)) :
  (∀chs,(FN i p d).ok P w0 J θ n chs)/\(FN i p d).v θ=v/\St J w0 w ((BQ q i p d).map (fun g=>toCh P θ (g.1,i,g.2))++(owCh γ ps vs e++C))/\(∀g∈BQ q i p d,LZ P w0 J θ n g.2/\g.1.id=i)/\Qy P w0 J θ n i p v d:=by
 cases p with
 | rd t =>
  obtain ⟨cs,h1,h2⟩:=h
  have hav:=fun chs=>kM (P:=P) (w0:=w0) (J:=J) (chs:=chs) hi hθ t d cs h2 h1
  exact ⟨fun chs=>(hav chs).1,(hav []).2,hS,fun g hg=>(by cases hg),trivial⟩
 | fn a b =>
  have hh:hv θ ⟨i,[]⟩=v:=hθ
  exact ⟨fun chs=>⟨hi,by rw[hh];exact h⟩,hh,hS,fun g hg=>(by cases hg),trivial⟩
 | cap T t =>
  obtain ⟨b,rfl,cells,h1,h2⟩:=h
  have hh:hv θ ⟨i,[]⟩= .pointer (some ⟨b,0,none⟩):=hθ
  refine ⟨fun chs=>⟨hi,cells,by rw[hh];exact h1,h2⟩,?_,hS,fun g hg=>(by cases hg),trivial⟩
  show Value.pointer (some ⟨bk (hv θ ⟨i,[]⟩),0,none⟩)=_
  rw[hh];rfl
 | capf T x y =>
  obtain ⟨b,rfl,u,h1,h2⟩:=h
  have hh:hv θ ⟨i,[]⟩= .pointer (some ⟨b,0,none⟩):=hθ
  refine ⟨fun chs=>⟨hi,u,by rw[hh];exact h1,h2⟩,?_,hS,fun g hg=>(by cases hg),trivial⟩
  show Value.pointer (some ⟨bk (hv θ ⟨i,[]⟩),0,none⟩)=_
  rw[hh];rfl
 | ptr T t =>
  obtain ⟨b,rfl⟩:=h
  have hh:hv θ ⟨i,[]⟩= .pointer (some ⟨b,0,none⟩):=hθ
  refine ⟨fun chs=>hi,?_,?_,fun g hg=>by obtain rfl:=aj hg;exact ⟨.inl trivial,rfl⟩,hh,hi⟩
  ·show Value.pointer (some ⟨bk (hv θ ⟨i,[]⟩),0,none⟩)=_
   rw[hh];rfl
  ·show St J w0 w (Ch.box (bk (hv θ ⟨i,[]⟩)) T t.rep d::_)
   rw[hh];exact hS
 | ow t =>
  have hS:St J w0 w (Ch.own t.rep (fJ t.isProd v) d::(owCh γ ps vs e++C)):=hS
  obtain ⟨k1,k2,k3,k4,k5⟩:=oO (P:=P) (m:=i) (pre:=[]) (id:=i) (n:=n) hi (show hv θ ⟨i,[]⟩=v from hθ) h hS
  have q:=fun chs=>vM (P:=P) (w0:=w0) (J:=J) (θ:=θ) (n:=n) (chs:=chs) (gP i [] t d) (fun e=>mi e) k1
  exact ⟨fun chs=>(q chs).1,(q []).2.trans k3,k5,fun g hg=>⟨.inl (qD g hg),k4 g hg⟩,k2,k1⟩
 | eat t =>
  have hS:St J w0 w (Ch.own t.rep (fJ t.isProd v) d::(owCh γ ps vs e++C)):=hS
  obtain ⟨k1,k2,k3,k4,k5⟩:=oO (P:=P) (m:=i) (pre:=[]) (id:=i) (n:=n) hi (show hv θ ⟨i,[]⟩=v from hθ) h hS
  have q:=fun chs=>vM (P:=P) (w0:=w0) (J:=J) (θ:=θ) (n:=n) (chs:=chs) (gP i [] t d) (fun e=>mi e) k1
  exact ⟨fun chs=>(q chs).1,(q []).2.trans k3,k5,fun g hg=>⟨.inl (qD g hg),k4 g hg⟩,trivial⟩
 | fk g =>
  obtain rfl:=h
  exact ⟨fun chs=>rfl,rfl,hS,fun g hg=>(by cases hg),trivial⟩
 | crs T E =>
  obtain ⟨⟨b,rfl⟩,hrd⟩:=h
  have hh:hv θ ⟨i,[]⟩= .pointer (some ⟨b,0,none⟩):=hθ
  have hg0:hv θ ⟨q,[]⟩=γ:=hγ
  refine ⟨fun chs=>hi,?_,?_,fun g hg=>?_,hh,hi⟩
  ·show Value.pointer (some ⟨bk (hv θ ⟨i,[]⟩),0,none⟩)=_
   rw[hh];rfl
  ·show St J w0 w (Ch.blk (bk (hv θ ⟨i,[]⟩)) [hv θ ⟨q,[]⟩,.int .i64 d.2.1,.int .i64 d.2.2] T::_)
   rw[hh,hg0];exact hS
  ·obtain rfl:=aj hg
   refine ⟨.inr ⟨_,_,rfl,fun z hz=>?_⟩,rfl⟩
   rcases au hz with rfl | hz
   ·exact ⟨hq,by rw[hg0];exact hrd⟩
   ·rcases au hz with rfl | hz
    ·exact Eq.refl true
    ·obtain rfl:=aj hz
     exact Eq.refl true
theorem BS {γ:Value} {q:Nat} (hq:q<n) (hγ:θ q=γ): ∀ {ps:List PM} {i:Nat} {vs:List Value} {d:denP ps} {C:List Ch},PArgs P w0 J γ ps vs d->(∀j v,vs[j]? =some v->θ (i+j)=v)->i+ps.length<=n->St J w0 w (owCh γ ps vs d++C)->
  (∀e∈BR i ps d,(∀chs,e.2.2.ok P w0 J θ n chs)/\i<=e.1/\e.2.1=e.1/\e.1<i+ps.length/\vs[e.1 - i]? =some (e.2.2.v θ))/\((BR i ps d).Pairwise fun a b=>a.2.1≠b.2.1)/\St J w0 w ((yy q i ps d).map (toCh P θ)++C)/\(∀e∈yy q i ps d,∀chs,okE P w0 J θ n chs e)/\StF P w0 J θ n i ps vs d
 | [],i,vs,d,C,h,_,_,hS=>by
  have h:vs= []:=h
  subst h
  exact ⟨fun e he=>(by cases he),List.Pairwise.nil,hS,fun e he=>(by cases he),trivial⟩
 | p::ps,i,vs,d,C,h,hθ,hn,hS=>by
  obtain ⟨v,r,rfl,h1,h3⟩:=h
  rw[az] at hn
  obtain ⟨a1,a2,a3,a4,a5⟩:=FO (n:=n) (i:=i) (θ:=θ) (e:=d.2) (show i<n by omega) hq hγ (hθ 0 v rfl) h1 hS
  obtain ⟨k1,k2,k3,k4,k5⟩:=BS hq hγ (i:=i+1) h3 (fun j u hj=>by
   have:=hθ (j+1) u hj
   rwa [show i+(j+1)=i+1+j from by omega] at this) (by omega) (a3.perm (List.perm_append_comm_assoc _ _ _))
  refine ⟨fun e he=>?_,List.pairwise_cons.2 ⟨fun e he hh=>?_,k2⟩,?_,fun e he chs=>?_,a5,k5⟩
  ·rcases au he with rfl | he
   ·exact ⟨a1,ay _,rfl,by rw[az];show i<_;omega,by show (v::r)[i - i]? =_;rw[Nat.sub_self,a2];rfl⟩
   ·obtain ⟨q1,q2,q3,q4,q5⟩:=k1 e he
    refine ⟨q1,by omega,q3,by rw[az];omega,?_⟩
    rw[show e.1 - i=(e.1 - (i+1))+1 from by omega];exact q5
  ·have:=k1 e he
   have hh:i=e.2.1:=hh
   omega
  ·show St J w0 w (((BQ q i p d.1).map _++yy q (i+1) ps d.2).map (toCh P θ)++C)
   rw[aH,List.map_map]
   refine k3.perm ?_
   rw[ah]
   exact List.perm_append_comm_assoc _ _ _
  ·rcases aC he with he | he
   ·obtain ⟨g,hg,rfl⟩:=List.mem_map.1 he
    obtain ⟨g1,g2⟩:=a4 g hg
    exact vR g1 (ay _) (by omega) (by omega)
   ·exact k4 e he chs
theorem yz {γ:Value} : ∀ {ps:List PM} {vs:List Value} {d:denP ps},PArgs P w0 J γ ps vs d->vs.length=ps.length
 | [],vs,d,h=>by
  have h:vs= []:=h
  subst h;rfl
 | p::ps,vs,d,h=>by
  obtain ⟨v,r,rfl,h1,h3⟩:=h
  simpa using yz h3
end
def MP (tt:TT) (s:Sg):ResultVar->Option AV
 | .tmp t=>look s.env t
 | .cell p T=>(Hi (look s.env p)).bind fun h=>(td tt T).bind fun d=>(nW h s.chs).bind fun b=>bq (Nat.beq b.cells.length d.n) (PL d.agg b.cells)
theorem MQ {v:Option AV} {h:Hdr} (k:Hi v=some h):v=some (.one (.ptr h 0)):=by
 unfold Hi at k
 split at k
 ·rename_i h' off
  split at k
  ·rename_i ho
   rw[ak ho,ae k]
  ·cases k
 ·cases k
section
variable {P:Program} {I:Hp} {w0 w:World} {F:Ch} {J:Hp} {θ:Th} {n:Nat} {s:Sg} {a:Act} {tt:TT}
theorem MR (ha:Agr n a (envL θ s)) {t g:Nat} {T E:TypeId} {v:Value} {cs:List Ch} (h:(envL θ s).lookup t=some (.pointer (some ⟨g,0,none⟩))) (hs:St J w0 w cs) (i:Nat) (hi:cs[i]? =some (Ch.blk g [v] E)) (hT:TI P T false 1):zt P a w (.cell t T) v:=by
 refine ⟨_,ha.2.2 t _ h,?_⟩
 have hg:=hs.heap i hi
 have hc:w.cell? ⟨g,0,none⟩=some v:=by simp[World.cell?,hg]
 simp[loadVar,Sem.run_bind,hT.run_agg,load,Sem.run,hc,Result.andThen]
theorem I8 (hT:TTok P tt) (hS:Sim P I w0 F n J θ s a w) {r:ResultVar} {v:AV} (h:MP tt s r=some v):zt P a w r (v.v θ)/\v.ok P w0 J θ s.nxt s.chs:=by
 cases r with
 | tmp t=>exact ⟨Lg hS.agr (dO h),aX (x:=.tmp t) hS.fine h⟩
 | cell p T =>
  obtain ⟨hh,h1,h⟩:=bind_some (show (Hi (look s.env p)).bind _=some v from h)
  obtain ⟨d,hd,h⟩:=bind_some h
  obtain ⟨b,hb,h⟩:=bind_some h
  obtain ⟨hl,h⟩:=ai h
  have hl:=ak hl
  have hp:=gN hb
  have hok:=hS.fine.chs _ (hp.mem_iff.2 (List.mem_cons_self ..))
  obtain ⟨k1,k2⟩:=Ek (chs:=s.chs) h hok.2.2
  refine ⟨?_,k1⟩
  have hlk:(envL θ s).lookup p=some (.pointer (some ⟨bk (hv θ hh),0,none⟩)):=dO (MQ h1)
  have hst:=hS.st.perm ((hp.map (toCh P θ)).append_right [F])
  have hti:=(hT.get hd).ti
  cases hagg:d.agg with
  | true =>
   rw[hagg] at k2 hti
   rw[<-k2]
   exact Hn hS.agr hlk hst 0 rfl hti (by rw[List.length_map];exact hl)
  | false =>
   rw[hagg] at k2 hti h
   have h1':d.n=1:=by
    have:=(hT.get hd).one
    rw[hagg] at this
    simpa using this
   obtain ⟨x,hx⟩:=List.length_eq_one_iff.1 (hl.trans h1')
   rw[h1'] at hti
   rw[hx] at k2
   rw[<-k2]
   have hst2:St J w0 w (Ch.blk (bk (hv θ hh)) [x.v θ] b.T::(b.rest.map (toCh P θ)++ [F])):=by
    have:(toCh P θ (b.ent hh))=Ch.blk (bk (hv θ hh)) (b.cells.map (·.v θ)) b.T:=rfl
    rw[hx] at this
    rw[<-show toCh P θ (b.ent hh)=Ch.blk (bk (hv θ hh)) [x.v θ] b.T from this]
    exact hst
   exact MR hS.agr hlk hst2 0 rfl hti
end
def Ak:(ts:List Ty)->List AV->List Ent->Option (fI ts×List Ent×List Ent)
 | [],[],chs=>some ((),[],chs)
 | t::ts,v::vs,chs=>bq (oR v==t.isProd) ((gb v).bind fun cs=>(ct t cs chs).bind fun q=>bq q.cells.isEmpty ((Ak ts vs q.rest).bind fun r=>some ((q.d,r.1),q.used++r.2.1,r.2.2)))
 | _,_,_=>none
def qb:(ts:List Ty)->List Value->fI ts->List Ch
 | t::ts,v::vs,d=>Ch.own t.rep (fJ t.isProd v) d.1::qb ts vs d.2
 | _,_,_=>[]
theorem uH {P:Program} {w0:World} {J:Hp} {θ:Th} {n:Nat} {chs0:List Ent} : ∀ {ts:List Ty} {vs:List AV} {chs:List Ent} {r:fI ts×List Ent×List Ent},Ak ts vs chs=some r->(∀v∈vs,v.ok P w0 J θ n chs0)->
  chs.Perm (r.2.1++r.2.2)/\vs.length=ts.length/\ku J (r.2.1.map (toCh P θ)) (qb ts (vs.map (·.v θ)) r.1)/\ ∀(i:Nat) t v,ts[i]? =some t->vs[i]? =some v->j6 (v.v θ)=t.isProd
 | [],[],chs,r,h,_=>by
  obtain rfl:=ae (show some _=some r from h)
  exact ⟨List.Perm.refl _,rfl,oG,fun i t v ht=>by simp at ht⟩
 | t::ts,v::vs,chs,r,h,hv'=>by
  obtain ⟨ha,h⟩:=ai (show bq (oR v==t.isProd) _=some r from h)
  have ha:oR v=t.isProd:=by simpa using ha
  obtain ⟨cs,hcs,h⟩:=bind_some h
  obtain ⟨q,hq,h⟩:=bind_some h
  obtain ⟨he,h⟩:=ai h
  obtain ⟨r',hr,h⟩:=bind_some h
  obtain rfl:=ae h
  obtain ⟨c1,c2⟩:=fp hcs (hv' v (by simp))
  obtain ⟨p,cc,e1,e2⟩:=gf (J:=J) (θ:=θ) hq c1
  rw[List.isEmpty_iff.1 he,List.append_nil] at e1
  subst e1
  obtain ⟨k1,k2,k3,k4⟩:=uH hr fun x hx=>hv' x (by simp[hx])
  have hcell:fJ t.isProd (v.v θ)=cs.map (·.v θ)/\j6 (v.v θ)=t.isProd:=by
   rw[<-ha]
   cases v with
   | agg xs =>
    obtain rfl:=ae (show some xs=some cs from hcs)
    exact ⟨rfl,rfl⟩
   | one x =>
    obtain rfl:=ae (show some [x] =some cs from hcs)
    refine ⟨rfl,?_⟩
    have h1:(x.v θ).oneCell'=true:=LV.one (show LV.ok P w0 J θ n x from hv' (.one x) (by simp))
    show j6 (x.v θ)=false
    generalize x.v θ=u at h1
    cases u <;> first | rfl | cases h1
   | _=>cases hcs
  refine ⟨by rw[ah];exact p.trans (k1.append_left _),by rw[az,az,k2],?_,fun i t' v' ht hv0=>?_⟩
  ·show ku J ((q.used++r'.2.1).map _) (Ch.own t.rep (fJ t.isProd (v.v θ)) q.d::qb ts (vs.map _) r'.1)
   rw[aH,hcell.1]
   exact mf e2 k3
  ·cases i with
   | zero =>
    obtain rfl:t=t':=by simpa using ht
    obtain rfl:v=v':=by simpa using hv0
    exact hcell.2
   | succ i=>exact k4 i t' v' (by simpa using ht) (by simpa using hv0)
 | [],_::_,chs,r,h,_=>by cases h
 | _::_,[],chs,r,h,_=>by cases h
def PB:List Value->Value
 | [v] =>v
 | vs=>.tuple vs.toArray
def BT (P:Program) (a:Act) (w:World):List ResultVar->List Value->Prop
 | [],vs=>vs= []
 | r::rs,vs=> ∃v us,vs=v::us/\zt P a w r v/\BT P a w rs us
theorem qF {P:Program} {a:Act} {w:World} {f:ResultVar->Sem Value} (hf: ∀r v,zt P a w r v->(f r).run P w= .ok v w): ∀ {l:List ResultVar} {vs:List Value},BT P a w l vs->(l.mapM f).run P w= .ok vs w
 | [],vs,h=>by
  have h:vs= []:=h
  subst h
  rw[List.mapM_nil];rfl
 | r::l,vs,h=>by
  obtain ⟨v,us,rfl,h1,h2⟩:=h
  rw[List.mapM_cons,Sem.run_bind,hf r v h1]
  simp only[Result.andThen_ok,Sem.run_bind,qF hf h2]
  rfl
def PC (a:Act) (r:ResultVar):Sem Value:=match r with
 | .tmp t=>pure (a.tmps.getD t undef)
 | .cell p t=>do loadVar t (<-asAddr (a.tmps.getD p undef))
theorem MS {P:Program} {a:Act} {w:World} {r:ResultVar} {v:Value} (h:zt P a w r v):(PC a r).run P w= .ok v w:=by
 cases r with
 | tmp t =>
  have h:a.tmps.getD t undef=v:=h
  show (pure (a.tmps.getD t undef):Sem Value).run P w=_
  rw[h];rfl
 | cell p T =>
  obtain ⟨A,h1,h2⟩:=h
  show ((asAddr (a.tmps.getD p undef)) >>=fun x=>loadVar T x).run P w=_
  rw[h1,Sem.run_bind]
  show Result.andThen (.ok A w) _=_
  rw[Result.andThen_ok];exact h2
theorem OH {P:Program} {n:Nat} {a:Act} {w:World} {L:List (Nat×Value)} {fn:Func} {R:Ending->World->Prop} {vs:List Value} (ha:Agr n a L) (h:BT P a w fn.results.toList vs) (hR:R (.returned (PB vs)) w):bodyPost P fn R .ret a w:=by
 refine ⟨ha.1,PB vs,?_,hR⟩
 have hr:((fn.results.mapM (PC a)):Sem (Array Value)).run P w= .ok vs.toArray w:=by
  rw[Array.mapM_eq_mapM_toList]
  have:=qF (f:=PC a) (fun r v=>MS) h
  simp[this,Sem.run_map]
 show ((fn.results.mapM (PC a)) >>=fun vs=>pure (if h:vs.size=1 then vs[0] else .tuple vs):Sem Value).run P w=_
 rw[Sem.run_bind,hr,Result.andThen_ok]
 match vs with
 | [] =>rfl
 | [v] =>rfl
 | _::_::_=>rfl
def c7 (g0:Nat):(i:Nat)->(ps:List PM)->denP ps->List Ent->Option (fI (outs ps)×List Ent×List Ent)
 | _,[],_,chs=>some ((),[],chs)
 | i,.ow t::ps,d,chs=>(ct t (gP i [] t d.1).2 chs).bind fun q=>bq q.cells.isEmpty ((c7 g0 (i+1) ps d.2 q.rest).bind fun r=>some ((q.d,r.1),q.used++r.2.1,r.2.2))
 | i,.ptr T t::ps,d,chs=>(si ⟨i,[]⟩ T t chs).bind fun q=>(c7 g0 (i+1) ps d.2 q.2.2).bind fun r=>some ((q.1,r.1),q.2.1++r.2.1,r.2.2)
 | i,.rd _::ps,d,chs=>c7 g0 (i+1) ps d.2 chs
 | i,.fn _ _::ps,d,chs=>c7 g0 (i+1) ps d.2 chs
 | i,.eat _::ps,d,chs=>c7 g0 (i+1) ps d.2 chs
 | i,.cap _ _::ps,d,chs=>c7 g0 (i+1) ps d.2 chs
 | i,.capf _ _ _::ps,d,chs=>c7 g0 (i+1) ps d.2 chs
 | i,.fk _::ps,d,chs=>c7 g0 (i+1) ps d.2 chs
 | i,.crs T E::ps,d,chs=>(nY ⟨i,[]⟩ T E chs).bind fun q=>bq (Hdr.beq q.g ⟨g0,[]⟩) ((c7 g0 (i+1) ps d.2 q.rest).bind fun r=>some ((q.d.2,r.1),q.ent::r.2.1,r.2.2))
theorem db {P:Program} {w0:World} {J J':Hp} {θ θ':Th} {n n':Nat} {chs0:List Ent} (hJ:J.le J') (hs:Same n θ θ') {γ:Value} {g0:Nat} (hg0:g0<n) (hγ:θ g0=γ): ∀ {ps:List PM} {i:Nat} {d:denP ps} {chs:List Ent} {vs:List Value} {r:fI (outs ps)×List Ent×List Ent},c7 g0 i ps d chs=some r->vs.length=ps.length->StF P w0 J θ n i ps vs d->(∀e∈chs,okE P w0 J' θ' n' chs0 e)->
  chs.Perm (r.2.1++r.2.2)/\ku J' (r.2.1.map (toCh P θ')) (outCh γ ps vs r.1)
 | [],i,d,chs,vs,r,h,_,_,_=>by
  obtain rfl:=ae (show some _=some r from h)
  exact ⟨List.Perm.refl _,oG⟩
 | p::ps,i,d,chs,[],r,h,hl,_,_=>by cases hl
 | .ow t::ps,i,d,chs,v::vs,r,h,hl,hF,hc=>by
  obtain ⟨q,hq,h⟩:=bind_some (show (ct t (gP i [] t d.1).2 chs).bind _=some r from h)
  obtain ⟨he,h⟩:=ai h
  obtain ⟨r',hr,h⟩:=bind_some h
  obtain rfl:=ae h
  obtain ⟨⟨k1,k2⟩,k3⟩:=hF
  obtain ⟨p,cc,e1,e2⟩:=gf (P:=P) (w0:=w0) (J:=J') (θ:=θ') (n:=n) hq fun x hx=>LV.ok_same hs (ay _) (k2 x hx) hJ
  rw[List.isEmpty_iff.1 he,List.append_nil] at e1
  subst e1
  rw[ep hs k2,k1] at e2
  obtain ⟨q1,q2⟩:=db hJ hs hg0 hγ hr (by simpa using hl) k3 fun e he=>hc e (p.mem_iff.2 (by simp[he]))
  refine ⟨by rw[ah];exact p.trans (q1.append_left _),?_⟩
  show ku J' ((q.used++r'.2.1).map _) (Ch.own t.rep (fJ t.isProd v) q.d::outCh γ ps vs r'.1)
  rw[aH]
  exact mf e2 q2
 | .ptr T t::ps,i,d,chs,v::vs,r,h,hl,hF,hc=>by
  obtain ⟨q,hq,h⟩:=bind_some (show (si ⟨i,[]⟩ T t chs).bind _=some r from h)
  obtain ⟨r',hr,h⟩:=bind_some h
  obtain rfl:=ae h
  obtain ⟨⟨k1,k2⟩,k3⟩:=hF
  obtain ⟨p,hb⟩:=um (P:=P) (w0:=w0) (J:=J') (J':=J') (θ:=θ') hq Hp.le.rfl hc
  obtain ⟨q1,q2⟩:=db hJ hs hg0 hγ hr (by simpa using hl) k3 fun e he=>hc e (p.mem_iff.2 (by simp[he]))
  refine ⟨by rw[ah];exact p.trans (q1.append_left _),?_⟩
  show ku J' ((q.2.1++r'.2.1).map _) (Ch.box (bk v) T t.rep q.1::outCh γ ps vs r'.1)
  rw[aH]
  have hh:hv θ' ⟨i,[]⟩=v:=(aQ hs (show (⟨i,[]⟩:Hdr).id<n from k2)).trans k1
  rw[hh] at hb
  intro w F hsp
  obtain ⟨G,K,rfl,h1,h2⟩:=hsp.split
  exact ⟨G,K,rfl,hb w G h1,q2 w K h2⟩
 | .rd t::ps,i,d,chs,v::vs,r,h,hl,hF,hc=>db (ps:=ps) hJ hs hg0 hγ (show c7 g0 (i+1) ps d.2 chs=some r from h) (by simpa using hl) hF.2 hc
 | .fn _ _::ps,i,d,chs,v::vs,r,h,hl,hF,hc=>db (ps:=ps) hJ hs hg0 hγ (show c7 g0 (i+1) ps d.2 chs=some r from h) (by simpa using hl) hF.2 hc
 | .eat _::ps,i,d,chs,v::vs,r,h,hl,hF,hc=>db (ps:=ps) hJ hs hg0 hγ (show c7 g0 (i+1) ps d.2 chs=some r from h) (by simpa using hl) hF.2 hc
 | .cap _ _::ps,i,d,chs,v::vs,r,h,hl,hF,hc=>db (ps:=ps) hJ hs hg0 hγ (show c7 g0 (i+1) ps d.2 chs=some r from h) (by simpa using hl) hF.2 hc
 | .capf _ _ _::ps,i,d,chs,v::vs,r,h,hl,hF,hc=>db (ps:=ps) hJ hs hg0 hγ (show c7 g0 (i+1) ps d.2 chs=some r from h) (by simpa using hl) hF.2 hc
 | .fk _::ps,i,d,chs,v::vs,r,h,hl,hF,hc=>db (ps:=ps) hJ hs hg0 hγ (show c7 g0 (i+1) ps d.2 chs=some r from h) (by simpa using hl) hF.2 hc
 | .crs T E::ps,i,d,chs,v::vs,r,h,hl,hF,hc=>by
  obtain ⟨q,hq,h⟩:=bind_some (show (nY ⟨i,[]⟩ T E chs).bind _=some r from h)
  obtain ⟨hb,h⟩:=ai h
  obtain ⟨r',hr,h⟩:=bind_some h
  obtain rfl:=ae h
  obtain ⟨⟨k1,k2⟩,k3⟩:=hF
  obtain ⟨p,ver,he⟩:=jr hq
  obtain ⟨q1,q2⟩:=db hJ hs hg0 hγ hr (by simpa using hl) k3 fun e he=>hc e (p.mem_iff.2 (by simp[he]))
  refine ⟨p.trans (q1.cons _),?_⟩
  have hh:hv θ' ⟨i,[]⟩=v:=(aQ hs (show (⟨i,[]⟩:Hdr).id<n from k2)).trans k1
  have hg:hv θ' q.g=γ:=by
   rw[Hdr.beq_eq hb]
   show vg (θ' g0) [] =γ
   rw[hs g0 hg0,hγ];rfl
  show ku J' (toCh P θ' q.ent::r'.2.1.map _) (Ch.blk (bk v) [γ,.int .i64 q.d.2.1,.int .i64 q.d.2.2] T::outCh γ ps vs r'.1)
  rw[he]
  intro w F hsp
  obtain ⟨G,K,rfl,h1,h2⟩:=hsp
  have h1:(Ch.blk (bk (hv θ' ⟨i,[]⟩)) [hv θ' q.g,.int .i64 q.d.2.1,.int .i64 q.d.2.2] T).holds J' w G:=h1
  rw[hh,hg] at h1
  exact ⟨G,K,rfl,h1,q2 w K h2⟩
def ofH:(ts:List Ty)->fI ts->dens ts
 | [],_=>()
 | [_],d=>d.1
 | _::u::ts,d=>(d.1,ofH (u::ts) d.2)
theorem Al: ∀(ts:List Ty) (d:fI ts),toH ts (ofH ts d)=d
 | [],_=>rfl
 | [_],_=>rfl
 | _::u::ts,d=>congrArg (Prod.mk d.1) (Al (u::ts) d.2)
def tI:(ts us:List Ty)->fI ts->fI us->fI (ts++us)
 | [],_,_,e=>e
 | _::ts,us,d,e=>(d.1,tI ts us d.2 e)
theorem wq: ∀(ts us:List Ty) (d:fI ts) (e:fI us),hFst ts us (tI ts us d e)=d
 | [],_,_,_=>rfl
 | _::ts,us,d,e=>congrArg (Prod.mk d.1) (wq ts us d.2 e)
theorem BU: ∀(ts us:List Ty) (d:fI ts) (e:fI us),hSnd ts us (tI ts us d e)=e
 | [],_,_,_=>rfl
 | _::ts,us,d,e=>BU ts us d.2 e
def sK (tt:TT) (s:Sg):List ResultVar->Option (List AV)
 | [] =>some []
 | r::rs=>(MP tt s r).bind fun v=>(sK tt s rs).bind fun vs=>some (v::vs)
def Am (s:Sg):List AV->List Hdr
 | [] =>[]
 | v::vs=>sx v++Am s vs
def rz:List Ent->List Hdr
 | [] =>[]
 | e::l=>match e.2.2 with
  | .hole _ _ _ _ _ _ _ _ _ _=>e.1::rz l
  | _=>rz l
def OI:List AV->List (Bool×Hdr)
 | [] =>[]
 | v::vs=>Qw true v++OI vs
def yA (tr:Trs) (vs:List AV) (s:Sg):Sg:=match tr with
 | [] =>s
 | _=>Ic tr (OI vs) s
def I9 (tr:Trs) (vs:List AV) (s0:Sg):Sg:=match yA tr vs s0 with
 | s=>oW (Am s0 vs++rz s.chs) s
def nlN:List AV->(ts:List Ty)->fI ts->Int
 | [.one (.own _)],[.sl _ t],d=>((List.length (α:=t.den) d.1:Nat):Int)
 | [.one (.val v)],[.sl _ _],_=>match isNil v with
  | true=>1
  | false=>0
 | _,_,_=>0
def OJ (an:List (Nat×Ty)) (vs:List AV) (ts:List Ty) (d:fI ts):Option Unit:=match uC 1000000 an with
 | true=>chk (0<nlN vs ts d)
 | false=>some ()
theorem OK {vs:List AV} {ts:List Ty} {d:fI ts} {θ:Th} (h:0<nlN vs ts d) {v:Value} (hv:vs.map (·.v θ)= [v]):qx ts d v:=by
 unfold nlN at h
 split at h
 ·intro h0
  omega
 ·split at h
  ·rename_i h1
   intro _
   have:=jd h1
   subst this
   simpa [AV.v,LV.v] using hv.symm
  ·omega
 ·omega
def FP (V:Env) (rvs:List ResultVar) (rs:List Ty) (ps:List PM) (d:denP ps) (s00:Sg):Option (dens (rs++outs ps)):=(sK V.tt s00 rvs).bind fun vs00=>Il vs00 s00 fun s0=>(sK V.tt s0 rvs).bind fun vs0=>match I9 V.tr vs0 s0 with
 | s=>(sK V.tt s rvs).bind fun vs=>(Ak rs vs s.chs).bind fun r=>(c7 ps.length 0 ps d r.2.2).bind fun o=>(OJ V.an vs rs r.1).bind fun _=>some (ofH _ (tI rs (outs ps) r.1 o.1))
end R
namespace R
open Go.RowKit
open D
theorem uI {vs:List Value} : ∀ {ts:List Ty} {i:Nat} {us:List Value} {d:fI ts},us.length=ts.length->(∀j v,us[j]? =some v->vs[i+j]? =some v)->oJ i ts d (.tuple vs.toArray)=qb ts us d
 | [],i,us,d,h,_=>by
  cases us with
  | nil=>rfl
  | cons _ _=>cases h
 | t::ts,i,[],d,h,_=>by cases h
 | t::ts,i,u::us,d,h,k=>by
  have h0:vg (.tuple vs.toArray) [i] =u:=by
   show vs.toArray.getD i undef=u
   have:=k 0 u rfl
   rw[Nat.add_zero] at this
   simp[Array.getD_eq_getD_getElem?,this]
  show Ch.own t.rep (fJ t.isProd (vg (.tuple vs.toArray) [i])) d.1::oJ (i+1) ts d.2 _=Ch.own t.rep (fJ t.isProd u) d.1::qb ts us d.2
  rw[h0,uI (us:=us) (by simpa using h) fun j v hj=>by
   have:=k (j+1) v (by simpa using hj)
   rwa [show i+(j+1)=i+1+j from by omega] at this]
theorem C8 {ts:List Ty} {vs:List Value} {d:fI ts} (h:vs.length=ts.length):resGv ts d (PB vs)=qb ts vs d:=by
 match ts,vs,d,h with
 | [],[],d,_=>rfl
 | [t],[v],d,_=>rfl
 | t::u::ts,v::w::vs,d,h =>
  show oJ 0 _ d (.tuple (v::w::vs).toArray)=_
  exact uI h fun j x hj=>by rw[Nat.zero_add];exact hj
theorem Ja {ts:List Ty} {vs:List Value} (h:vs.length=ts.length) (k: ∀(i:Nat) t v,ts[i]? =some t->vs[i]? =some v->j6 v=t.isProd):resFa ts (PB vs):=by
 match ts,vs,h with
 | [],[],_=>exact ⟨#[],rfl,rfl,fun i t ht=>by simp at ht⟩
 | [t],[v],_=>exact k 0 t v rfl rfl
 | t::u::ts,v::w::vs,h =>
  refine ⟨(v::w::vs).toArray,rfl,by simpa using h,fun i t' ht=>?_⟩
  have hlt:i<(v::w::vs).length:=by rw[h];exact (List.getElem?_eq_some_iff.1 ht).1
  have:=k i t' ((v::w::vs)[i]) ht (List.getElem?_eq_getElem hlt)
  rw[<-this,Array.getD_eq_getD_getElem?,List.getElem?_toArray,List.getElem?_eq_getElem hlt];rfl
theorem o6 {P:Program} {I:Hp} {w0 w:World} {F:Ch} {J:Hp} {θ:Th} {n:Nat} {s:Sg} {a:Act} {tt:TT} (hT:TTok P tt) (hS:Sim P I w0 F n J θ s a w): ∀ {rs:List ResultVar} {vs:List AV},sK tt s rs=some vs->BT P a w rs (vs.map (·.v θ))/\ ∀v∈vs,v.ok P w0 J θ s.nxt s.chs
 | [],vs,h=>by
  obtain rfl:=ae (show some [] =some vs from h)
  exact ⟨rfl,fun v hv=>by cases hv⟩
 | r::rs,vs,h=>by
  obtain ⟨v,hv',h⟩:=bind_some (show (MP tt s r).bind _=some vs from h)
  obtain ⟨us,hus,h⟩:=bind_some h
  obtain rfl:=ae h
  obtain ⟨k1,k2⟩:=I8 hT hS hv'
  obtain ⟨q1,q2⟩:=o6 hT hS hus
  refine ⟨⟨_,_,rfl,k1,q1⟩,fun x hx=>?_⟩
  rcases au hx with rfl | hx
  ·exact k2
  ·exact q2 x hx
theorem FQ {J:Hp} {a b c d:List Ch} (h:ku J a b) (k:ku J c d):ku J (a++c) (b++d):=fun w F hs=>by
 obtain ⟨G,K,rfl,e1,e2⟩:=hs.split
 exact (h w G e1).append (k w K e2)
theorem St.sepTo {J:Hp} {w0 w:World} {a b C:List Ch} (h:St J w0 w (a++C)) (k:ku J a b):St J w0 w (b++C):=by
 obtain ⟨h1,h2,F,h3,h4,h5⟩:=h
 obtain ⟨G,K,rfl,e1,e2⟩:=h3.split
 exact ⟨h1,h2,G++K,(k w G e1).append e2,h4,h5⟩
theorem qc {P:Program} {n:Nat} {I:Hp} {w0:World} {k:FuncId} {fn:Func} {c:Code} {args:Array Value} {rn:List Ch} {fact:Value->Prop} {gv:Value->List Ch} (L:List (Nat×Value)) (hf:P.funcs[k]? =some fn) (hb:fn.body=some c) (hn:fn.ntmps=n) (hm:args.size<=n) (hL: ∀p∈L,args[p.1]? =some p.2)
  (h: ∀F w a,Agr n a L->St I w0 w (rn++ [F])->c.wp P (bodyPost P fn fun e w'=> ∃v,e= .returned v/\fact v/\ ∃J,I.le J/\St J w0 w' (gv v++ [F])) a w) (hd: ∀v,Ch.back (gv v)):Con P k args I w0 rn fact gv:=by
 intro w C hs
 have hs':St I w0 w (rn++ [Ch.fr I C]):=by
  obtain ⟨hb,hi,F,h1,h2,h3⟩:=hs
  obtain ⟨G,K,rfl,e1,e2⟩:=h1.split
  exact ⟨hb,hi,G++K,e1.append ⟨K,[],by simp,e2,rfl⟩,h2,h3⟩
 have:=h (Ch.fr I C) w { tmps:=args++Array.replicate (fn.ntmps - args.size) undef,defers:=[] } (Agr.start L (by omega) hL) hs'
 refine (calls_of_wp hf hb this).mono ?_
 rintro e w' ⟨v,rfl,hv,J,hJ,hs⟩
 exact ⟨v,rfl,hv,hs.back hJ (hd v)⟩
theorem Jb {P:Program} {I:Hp} {w0 w:World} {F:Ch} {n:Nat} {J:Hp} {θ:Th} {s:Sg} {a:Act} {tr:Trs} {vs:List AV} (hS:Sim P I w0 F n J θ s a w): ∃J' θ',J.le J'/\Sim P I w0 F n J' θ' (I9 tr vs s) a w/\Fr s θ (I9 tr vs s) θ':=by
 have key: ∃J' θ',J.le J'/\Sim P I w0 F n J' θ' (yA tr vs s) a w/\Fr s θ (yA tr vs s) θ':=by
  unfold yA
  split
  ·exact ⟨J,θ,Hp.le.rfl,hS,Fr.rfl⟩
  ·exact n7 hS
 obtain ⟨J',θ',h1,h2,h3⟩:=key
 obtain ⟨S2,F2⟩:=m9 (V:=⟨[],[],[],n,[]⟩) (hs:=Am s vs++rz (yA tr vs s).chs) h2
 exact ⟨J',θ',h1,S2,h3.trans F2⟩
theorem KE {V:Env} {P:Program} {w0:World} {F:Ch} {J:Hp} {θ:Th} (hT:TTok P V.tt) {fn:Func} {rs:List Ty} {ps:List PM} {d:denP ps} {vs:List Value} {s0:Sg} (k0:vs.length=ps.length) (k5:StF P w0 J θ (ps.length+1) 0 ps vs d) (hn0:ps.length+1<=s0.nxt) {γ:Value} (hγ:θ ps.length=γ): ∀r J' θ' s' a' w',FP V fn.results.toList rs ps d s'=some r->Sim P J w0 F V.n J' θ' s' a' w'->J.le J'->Fr s0 θ s' θ'->
  bodyPost P fn (fun e w'=> ∃v,e= .returned v/\(resFa rs v/\(uC 1000000 V.an=true->qx rs (hFst rs (outs ps) (toH _ r)) v))/\ ∃J2,J.le J2/\St J2 w0 w' ((resGv rs (hFst rs (outs ps) (toH _ r)) v++outCh γ ps vs (hSnd rs (outs ps) (toH _ r)))++ [F])) .ret a' w':=by
 intro r J' θ' s' a' w' hrt hS' hJ hFr
 obtain ⟨vs00,hv00,hrt⟩:=bind_some (show (sK V.tt s' fn.results.toList).bind _=some r from hrt)
 obtain ⟨s0',hrt,S0,N0⟩:=BA hrt (o6 hT hS' hv00).2 hS'
 obtain ⟨vs0,hv0,hrt⟩:=bind_some hrt
 obtain ⟨J1,θ1,hJ1,S1,F1⟩:=Jb (tr:=V.tr) (vs:=vs0) S0
 generalize I9 V.tr vs0 s0'=s1 at hrt S1 F1
 have hle:s0.nxt<=s'.nxt:=hFr.1
 have hsame:Same (ps.length+1) θ θ1:=fun i hi=>(F1.same i (by omega)).trans (hFr.same i (by omega))
 replace hJ:=hJ.trans hJ1
 clear hJ1 F1 hS' S0 hFr
 revert J1 θ1
 clear J' θ'
 intro J' θ' S1 hsame hJ
 obtain ⟨us,hus,hrt⟩:=bind_some hrt
 obtain ⟨q,hq,hrt⟩:=bind_some hrt
 obtain ⟨o,ho,hrt⟩:=bind_some hrt
 obtain ⟨u0,hnl,hrt⟩:=bind_some hrt
 obtain rfl:=ae hrt
 obtain ⟨r1,r2⟩:=o6 hT S1 hus
 obtain ⟨t1,t2,t3,t4⟩:=uH (J:=J') (θ:=θ') hq r2
 obtain ⟨o1,o2⟩:=db (P:=P) (J:=J) (J':=J') (θ:=θ) (θ':=θ') (vs:=vs) (n:=ps.length+1) (n':=s1.nxt) (chs0:=s1.chs) hJ hsame (aw _) hγ ho k0 k5 fun e he=>S1.fine.chs e (t1.mem_iff.2 (by simp[he]))
 have hl:(us.map (·.v θ')).length=rs.length:=by rw[List.length_map];exact t2
 refine OH S1.agr r1 ⟨_,rfl,⟨Ja hl fun i t v ht hv1=>?_,fun han=>?_⟩,J',hJ,?_⟩
 ·rw[List.getElem?_map] at hv1
  obtain ⟨x,hx,rfl⟩:=Option.map_eq_some_iff.1 hv1
  exact t4 i t x ht hx
 ·rw[Al,wq]
  unfold OJ at hnl
  rw[han] at hnl
  have hnl:0<nlN us rs q.1:=bc hnl
  rcases us with _ | ⟨x,us⟩
  ·cases hnl
  ·cases us with
   | nil=>exact OK (θ:=θ') hnl rfl
   | cons y us=>unfold nlN at hnl;split at hnl <;> first | omega | simp_all
 ·rw[Al,wq,BU,C8 hl]
  have hp:=t1.trans (o1.append_left _)
  have h1:=S1.st.perm ((hp.map (toCh P θ')).append_right [F])
  have h2:St J' w0 w' ((q.2.1.map (toCh P θ')++o.2.1.map (toCh P θ'))++(o.2.2.map (toCh P θ')++ [F])):=by
   simpa [aH,ah] using h1
  have h3:=St.sepTo h2 (FQ t3 o2)
  refine St.left (ds:=o.2.2.map (toCh P θ')) (h3.perm ?_)
  simp only[ah]
  exact List.Perm.append_left _ (List.Perm.append_left _ List.perm_append_comm)
theorem MT {V:Env} {P:Program} (hT:TTok P V.tt) (hF:FTok P V.ft) (hmx:P.follows .mixedOrders=true) {k:FuncId} {fn:Func} {c:Code} {f:FS} (hf:P.funcs[k]? =some fn) (hb:fn.body=some c) (hn:fn.ntmps=V.n) (hen:Enters P k) (hm:f.ps.length<=V.n) (hdp:(xL f.rs&&sj f.ps)=true) (ann:Ann)
  (hmod: ∀d,appP f.ps f.m d=gu V (FP V fn.results.toList f.rs f.ps d) c ann (fun r=>some r) (fun _ _=>none) (FP V fn.results.toList f.rs f.ps d) (lX (sJ f.ps d))): ∀w0 J γ vs (d:denP f.ps) r,Lay P J->PArgs P w0 J γ f.ps vs d->appP f.ps f.m d=some r->Con P k vs.toArray J w0 (owCh γ f.ps vs d) (fun v=>resFa f.rs v/\(uC 1000000 V.an=true->qx f.rs (hFst f.rs (outs f.ps) (toH _ r)) v)) (fun v=>resGv f.rs (hFst f.rs (outs f.ps) (toH _ r)) v++outCh γ f.ps vs (hSnd f.rs (outs f.ps) (toH _ r))):=by
 rw[af] at hdp
 intro w0 J γ vs d r hlay ha hr
 rw[hmod] at hr
 have k0:=yz ha
 let θ:Th:=fun i=>if i=vs.length then γ else vs.getD i undef
 have hθ: ∀j v,vs[j]? =some v->θ (0+j)=v:=fun j v hj=>by
  show (if 0+j=vs.length then γ else vs.getD (0+j) undef)=v
  rw[Nat.zero_add,if_neg (Nat.ne_of_lt (List.getElem?_eq_some_iff.1 hj).1),List.getD_eq_getElem?_getD,hj];rfl
 have hθg:θ f.ps.length=γ:=by
  show (if f.ps.length=vs.length then γ else _)=γ
  rw[if_pos k0.symm]
 have hzip: ∀p∈(vs.zipIdx.map fun q=>(q.2,q.1)),vs.toArray[p.1]? =some p.2:=fun p hp=>by
  obtain ⟨q,hq,rfl⟩:=List.mem_map.1 hp
  obtain ⟨v,j⟩:=q
  have:=(List.mk_mem_zipIdx_iff_getElem? (x:=v) (i:=j)).1 hq
  simpa using this
 refine qc (n:=V.n) (vs.zipIdx.map fun q=>(q.2,q.1)) hf hb hn (by rw[List.size_toArray,k0];exact hm) hzip (fun F w a hA hst=>?_) (fun v=>pW (cV _ _ _ hdp.2) _ _ hdp.1)
 ·obtain ⟨k1,k2,k3,k4,k5⟩:=BS (n:=f.ps.length+1) (q:=f.ps.length) (C:=[F]) (aw _) hθg ha hθ (by omega) hst
  have hfine:Fine P w0 J θ (sJ f.ps d):=⟨fun e he=>(k1 e he).1 _,fun e he=>by have:=k1 e he;show e.2.1<f.ps.length+1;omega,k2,fun e he=>k4 e he _,hlay⟩
  have hA':Agr V.n a (envL θ (sJ f.ps d)):=hA.pick _ fun p hp=>by
   obtain ⟨e,he,rfl⟩:=List.mem_map.1 hp
   have h5:=(k1 e he).2.2.2.2
   rw[Nat.sub_zero] at h5
   have key: ∀(l:List Value) (k:Nat) (i:Nat) (v:Value),k<=i->l[i - k]? =some v->((l.zipIdx k).map fun q=>(q.2,q.1)).lookup i=some v:=by
    intro l
    induction l with
    | nil=>intro k i v _ h;simp at h
    | cons x l ih =>
     intro k i v hk h
     simp only[List.zipIdx_cons,List.map_cons,List.lookup_cons]
     by_cases e:i=k
     ·subst e
      simp at h
      simp[h]
     ·have:(i==k)=false:=by simpa using e
      rw[this]
      refine ih (k+1) i v (by omega) ?_
      rw[show i - k=(i - (k+1))+1 from by omega] at h
      simpa using h
   exact key vs 0 e.1 _ (Nat.zero_le _) h5
  have hS:Sim P J w0 F V.n J θ (sJ f.ps d) a w:=⟨Hp.le.rfl,hA',k3,hfine⟩
  have fin:=KE (rs:=f.rs) (fn:=fn) (F:=F) hT k0 k5 (ay (sJ f.ps d).nxt) hθg
  obtain ⟨θ0,hS0,hFr0⟩:=rm hS
  exact (oc (I:=J) (w0:=w0) (F:=F) hT hF hmx c).1 ann hr hS0 (fun J' θ' s' a' w' hk S' hJ hFr=>fin r J' θ' s' a' w' hk S' hJ (hFr0.trans hFr)) (fun i J' θ' s' a' w' hk=>by cases hk) (fun r' J' θ' s' a' w' hrt hrr hS' hJ hFr=>by
   obtain rfl:=ae hrr
   exact fin _ J' θ' s' a' w' hrt hS' hJ (hFr0.trans hFr))
theorem fok {V:Env} {P:Program} (hT:TTok P V.tt) (hF:FTok P V.ft) (hmx:P.follows .mixedOrders=true) {k:FuncId} {fn:Func} {c:Code} {f:FS} (hf:P.funcs[k]? =some fn) (hb:fn.body=some c) (hn:fn.ntmps=V.n) (hen:Enters P k) (hcl:f.cl=none) (hm:f.ps.length<=V.n) (hdp:(xL f.rs&&sj f.ps)=true) (ann:Ann)
  (hmod: ∀d,appP f.ps f.m d=gu V (FP V fn.results.toList f.rs f.ps d) c ann (fun r=>some r) (fun _ _=>none) (FP V fn.results.toList f.rs f.ps d) (lX (sJ f.ps d))):FOk P k f:=
 ⟨fun q hq=>by (rw[hcl] at hq;cases hq),fun _=>hen,fun _ w0 J γ vs d r hlay ha hr w C hs=>(MT hT hF hmx hf hb hn hen hm hdp ann hmod w0 J γ vs d r hlay ha hr w C hs).mono fun e w' ⟨v,h1,h2,h3⟩=>⟨v,h1,h2.1,h3⟩⟩
theorem Jc {V:Env} {P:Program} (hT:TTok P V.tt) (hF:FTok P V.ft) (hmx:P.follows .mixedOrders=true) {k:FuncId} {fn:Func} {c:Code} {E b:Nat} (hf:P.funcs[k]? =some fn) (hb:fn.body=some c) (hn:fn.ntmps=V.n) (hen:Enters P k) (hm:1<=V.n) (ann:Ann)
  (hmod: ∀(E':TypeId) (bn:Bool) (xs:List Raw),(match bn with | true=>some ([] :List Raw) | false=>(dE b [] xs).bind fun zs=>some zs)=gu V (FP V fn.results.toList [.sl E .raw] [] ()) c ann (fun r=>some r) (fun _ _=>none) (FP V fn.results.toList [.sl E .raw] [] ()) ⟨[(0,0,.one (.rdn ⟨0,[]⟩ bn (.sl E' .raw) xs))],[],1⟩):pT P k E b:=by
 refine ⟨hen,fun E' J w0 v xs zs hlay hrd tI=>?_⟩
 obtain ⟨bn,hbn⟩: ∃bn,ug v=bn:=⟨_,rfl⟩
 have hr:gu V (FP V fn.results.toList [.sl E .raw] [] ()) c ann (fun r=>some r) (fun _ _=>none) (FP V fn.results.toList [.sl E .raw] [] ()) ⟨[(0,0,.one (.rdn ⟨0,[]⟩ bn (.sl E' .raw) xs))],[],1⟩=some zs:=by
  rw[<-hmod E' bn xs]
  cases bn with
  | false =>
   show (dE b [] xs).bind _=_
   rw[tI];rfl
  | true =>
   obtain ⟨h1,-⟩:=vV tI
   obtain ⟨ao,cap,e,-,hx⟩:=hrd
   obtain rfl:v= .slice ao xs.length cap:=by simpa using e
   rcases hx with rfl | ⟨b,off,ccs,t,fr,rfl,-⟩
   ·rw[h1];rfl
   ·cases hbn
 let θ:Th:=fun _=>v
 have key:Con P k #[v] J w0 [] (fun v=>resFa [.sl E .raw] v/\(uC 1000000 V.an=true->qx [.sl E .raw] (zs,()) v)) (fun v=>resGv [.sl E .raw] (zs,()) v++ []):=by
  refine qc (n:=V.n) [(0,v)] hf hb hn hm (fun p hp=>by obtain rfl:=aj hp;rfl) (fun F w a hA hst=>?_) (fun u=>pW (D:=[]) trivial [.sl E .raw] (zs,()) rfl)
  have hfine:Fine P w0 J θ ⟨[(0,0,.one (.rdn ⟨0,[]⟩ bn (.sl E' .raw) xs))],[],1⟩:=⟨fun e he=>by obtain rfl:=aj he;exact ⟨Nat.one_pos,hrd,hbn⟩,fun e he=>by obtain rfl:=aj he;exact Nat.one_pos,List.pairwise_singleton _ _,fun e he=>(by cases he),hlay⟩
  have hS:Sim P J w0 F V.n J θ ⟨[(0,0,.one (.rdn ⟨0,[]⟩ bn (.sl E' .raw) xs))],[],1⟩ a w:=⟨Hp.le.rfl,hA,hst,hfine⟩
  have fin:=KE (V:=V) (θ:=θ) (J:=J) (w0:=w0) (rs:=[.sl E .raw]) (ps:=[]) (d:=()) (vs:=[]) (s0:=⟨[(0,0,.one (.rdn ⟨0,[]⟩ bn (.sl E' .raw) xs))],[],1⟩) (fn:=fn) (F:=F) hT rfl trivial (ay _) (γ:=θ 0) rfl
  exact (oc (I:=J) (w0:=w0) (F:=F) hT hF hmx c).1 ann hr hS (fun J' θ' s' a' w' hk S' hJ hFr=>fin _ J' θ' s' a' w' hk S' hJ hFr) (fun i J' θ' s' a' w' hk=>by cases hk) (fun r' J' θ' s' a' w' hrt hrr hS' hJ hFr=>by
   obtain rfl:=ae hrr
   exact fin _ J' θ' s' a' w' hrt hS' hJ hFr)
 exact fun w C hs=>(key w C hs).mono fun e w' ⟨v,h1,h2,h3⟩=>⟨v,h1,trivial,h3⟩
def jY:Nat->Ty
 | 0=>.raw
 | n+1=>.prod .raw (jY n)
def lP:(n:Nat)->(jY n).den->List Value
 | 0,p=>[p.1]
 | n+1,p=>p.1.1::lP n p.2
theorem mz: ∀n,(jY n).rep.size=n+1
 | 0=>rfl
 | n+1=>by
  show 1+(jY n).rep.size=_
  rw[mz n];omega
theorem BV {I:Hp} {w:World} : ∀(n:Nat) {cs:List Value} {p:(jY n).den} {F:List Nat},(jY n).rep.own I w cs p F->F= [] /\cs=lP n p
 | 0,cs,p,F,h=>by
  obtain ⟨h1,h2⟩:=h
  exact ⟨h1,h2⟩
 | n+1,cs,p,F,⟨c,d,G,K,h1,h2,h3,h4⟩=>by
  obtain ⟨rfl,h5⟩:=h3
  obtain ⟨rfl,h6⟩:=BV n h4
  have h5:c= [p.1.1]:=h5
  subst h1;subst h2;subst h5
  exact ⟨rfl,by rw[h6];rfl⟩
theorem FR: ∀(n:Nat) (cs:List Value),cs.length=n+1->(∀u∈cs,u.oneCell'=true)-> ∃p:(jY n).den,lP n p=cs
 | 0,cs,hl,h1=>by
  obtain ⟨u,rfl⟩:=List.length_eq_one_iff.1 hl
  exact ⟨⟨u,h1 u (by simp)⟩,rfl⟩
 | n+1,u::cs,hl,h1=>by
  obtain ⟨p,hp⟩:=FR n cs (by simpa using hl) (fun v hv=>h1 v (by simp[hv]))
  exact ⟨(⟨u,h1 u (by simp)⟩,p),by show u::lP n p=_;rw[hp]⟩
theorem lx {P:Program} {k:FuncId} {f:FS} (h:Enters P k) (hc:f.cl=none) (hm: ∀d,appP f.ps f.m d=none):FOk P k f:=
 ⟨fun q hq=>by (rw[hc] at hq;cases hq),fun _=>h,fun _ _ _ _ _ d r _ _ hr=>by rw[hm d] at hr;cases hr⟩
theorem FU {P:Program} {k:FuncId} {f:FS} {E b:Nat} (h:FOk P k ⟨f.ps,f.rs,f.m,none⟩) (hc:pT P k E b) (hb:Nat.beq b 0=false:=by rfl) (h7:Nat.beq b 7=false:=by rfl) (h8:Nat.ble 1000 b=false:=by rfl) (h9:Nat.beq b 9=false:=by rfl):FOk P k ⟨f.ps,f.rs,f.m,some (E,b)⟩:=
 ⟨fun q hq=>by obtain rfl:=ae hq;exact ⟨⟨fun e=>(by rw[hb] at e;cases e),fun _ _ _ _=>hc,fun e=>(by rw[h8] at e;cases e)⟩,fun e=>(by rw[h7] at e;cases e),fun e=>(by rw[h9] at e;cases e)⟩,fun _=>h.en rfl,fun _=>h.con rfl⟩
theorem MU {P:Program} {k:FuncId} {f:FS} {E b:Nat} (h:FOk P k ⟨f.ps,f.rs,f.m,none⟩) (hc:HK P k E (b - 1000)) (h8:Nat.ble 1000 b=true:=by rfl) (h0:Nat.beq b 0=false:=by rfl) (h7:Nat.beq b 7=false:=by rfl) (h9:Nat.beq b 9=false:=by rfl):FOk P k ⟨f.ps,f.rs,f.m,some (E,b)⟩:=
 ⟨fun q hq=>by obtain rfl:=ae hq;exact ⟨⟨fun e=>(by rw[h0] at e;cases e),fun _ _ e=>(by rw[h8] at e;cases e),fun _=>hc⟩,fun e=>(by rw[h7] at e;cases e),fun e=>(by rw[h9] at e;cases e)⟩,fun _=>h.en rfl,fun _=>h.con rfl⟩
theorem OL {P:Program} {k:FuncId} {T f:Nat} (he:Enters P k) (h: ∀(c d:List Value) (w:World),Calls P k #[.agg c.toArray,.agg d.toArray] w fun e w'=>e= .returned (.func (.func f) #[] #[.pointer (some ⟨w.heap.size,0,none⟩),.pointer (some ⟨w.heap.size+1,0,none⟩)])/\w'=(w.alloc (.cells c.toArray T)).alloc (.cells d.toArray T)):HK P k T f:=by
 refine ⟨he,fun I w0 c d w C hs=>(h c d w).mono ?_⟩
 rintro e w' ⟨rfl,rfl⟩
 refine ⟨_,rfl,⟨_,_,rfl⟩,?_⟩
 have h1:=(hs.alloc c T).alloc d T
 have hsz:(w.alloc (.cells c.toArray T)).heap.size=w.heap.size+1:=by simp
 rw[hsz] at h1
 exact St.emp.2 (h1.perm (List.Perm.swap _ _ _))
end R
namespace R
open Go.RowKit
open D
theorem BW {n:Nat} {α:Type} {R:Rep α} (hR:R.Sh) (h1:R.size=n+1) {I:Hp} {w:World} : ∀ {xs:List α} {cur:List Value} {K:List Nat},OwnEls R I w cur xs K-> ∃ps:List (jY n).den,K= [] /\OwnEls (jY n).rep I w cur ps [] /\All2 (fun p x=>R.rd I (lP n p) x) ps xs
 | [],cur,K,h=>⟨[],h,rfl,.nil⟩
 | x::xs,cur,K,⟨c,rest,G,K1,e1,e2,e3,e4,e5⟩=>by
  obtain ⟨rfl,hrd⟩:=hR e4
  obtain ⟨p,rfl⟩:=FR n c (e2.trans h1) (R.rd_one hrd)
  obtain ⟨ps,rfl,k2,k3⟩:=BW hR h1 e5
  have hraw: ∀(m:Nat) (q:(jY m).den),(jY m).rep.own I w (lP m q) q []:=by
   intro m
   induction m with
   | zero=>intro q;exact ⟨rfl,rfl⟩
   | succ m ih=>intro q;exact ⟨[q.1.1],lP m q.2,[],[],rfl,rfl,⟨rfl,rfl⟩,ih q.2⟩
  exact ⟨p::ps,e3,⟨lP n p,rest,[],[],e1,by rw[e2,h1,mz],rfl,hraw n p,k2⟩,.cons hrd k3⟩
theorem Jd {n:Nat} {α:Type} {E:TypeId} {R:Rep α} (hR:R.Sh) (h1:R.size=n+1) {I:Hp} {w0 w:World} {C:List Ch} {v:Value} {xs:List α} (h:St I w0 w (Ch.own (al E R) [v] xs::C)): ∃ps:List (jY n).den,All2 (fun p x=>R.rd I (lP n p) x) ps xs/\St I w0 w (Ch.own (al E (jY n).rep) [v] ps::C):=by
 obtain ⟨a1,a2,F,⟨G,K,rfl,⟨hl,k⟩,e⟩,a4,a5⟩:=h
 rcases k with ⟨hv',rfl,rfl⟩ | ⟨g,ofs,cap,cur,K1,hv',k1,k2,k3,k4,rfl,k5⟩
 ·exact ⟨[],.nil,a1,a2,[] ++K,⟨[],K,rfl,⟨Nat.zero_le _,.inl ⟨hv',rfl,rfl⟩⟩,e⟩,a4,a5⟩
 ·obtain ⟨ps,rfl,q1,q2⟩:=BW hR h1 k5
  have hlen:=q2.length_eq
  exact ⟨ps,q2,a1,a2,[g] ++K,⟨[g],K,rfl,⟨by rw[hlen];exact hl,.inr ⟨g,ofs,cap,cur,[],by rw[hlen];exact hv',k1,by rw[hlen];exact k2,k3,by rw[h1] at k4;rw[mz];exact k4,rfl,q1⟩⟩,e⟩,a4,a5⟩
theorem yB {n:Nat} {α:Type} {R:Rep α} (hC:Cpy R R) (h1:R.size=n+1) {I:Hp} {w:World} : ∀ {ps:List (jY n).den} {xs:List α} {cur:List Value} {F:List Nat},OwnEls (jY n).rep I w cur ps F->All2 (fun p x=>R.rd I (lP n p) x) ps xs->OwnEls R I w cur xs F
 | [],[],_,_,h,_=>h
 | p::ps,x::xs,cur,F,⟨c,rest,G,K,e1,e2,e3,e4,e5⟩,hh=>by
  cases hh with
  | cons hp hps =>
   obtain ⟨rfl,rfl⟩:=BV n e4
   exact ⟨lP n p,rest,[],K,e1,by rw[e2,mz];exact h1.symm,e3,hC hp,yB hC h1 e5 hps⟩
 | [],_::_,_,_,_,hh=>by cases hh
 | _::_,[],_,_,_,hh=>by cases hh
theorem FV {n:Nat} {α:Type} {E:TypeId} {R:Rep α} (hC:Cpy R R) (h1:R.size=n+1) {I:Hp} {w0 w:World} {C:List Ch} {v:Value} {xs:List α} {ps:List (jY n).den} (hp:All2 (fun p x=>R.rd I (lP n p) x) ps xs) (h:St I w0 w (Ch.own (al E (jY n).rep) [v] ps::C)):St I w0 w (Ch.own (al E R) [v] xs::C):=by
 obtain ⟨a1,a2,F,⟨G,K,rfl,⟨hl,k⟩,e⟩,a4,a5⟩:=h
 have hlen:=hp.length_eq
 rcases k with ⟨hv',rfl,rfl⟩ | ⟨g,ofs,cap,cur,K1,hv',k1,k2,k3,k4,rfl,k5⟩
 ·cases hp
  exact ⟨a1,a2,[] ++K,⟨[],K,rfl,⟨Nat.zero_le _,.inl ⟨hv',rfl,rfl⟩⟩,e⟩,a4,a5⟩
 ·exact ⟨a1,a2,(g::K1)++K,⟨g::K1,K,rfl,⟨by rw[<-hlen];exact hl,.inr ⟨g,ofs,cap,cur,K1,by rw[<-hlen];exact hv',k1,by rw[<-hlen];exact k2,k3,by rw[mz] at k4;rw[h1];exact k4,rfl,yB hC h1 k5 hp⟩⟩,e⟩,a4,a5⟩
theorem yC {α β:Type} {p:α->β->Prop} : ∀ {xs:List α} {ys:List β} (n:Nat),All2 p xs ys->All2 p (xs.take n) (ys.take n)
 | _,_,0,_=>.nil
 | _,_,n+1,.nil=>.nil
 | _,_,n+1,.cons h k=>.cons h (yC n k)
theorem BX {α β:Type} {p:α->β->Prop} : ∀ {xs:List α} {ys:List β} {xs':List α} {ys':List β},All2 p xs ys->All2 p xs' ys'->All2 p (xs++xs') (ys++ys')
 | _,_,_,_,.nil,h=>h
 | _,_,_,_,.cons h k,h'=>.cons h (BX k h')
def PD {α:Type} (xs:List α) (i j:Int):Option (List α):=(chk (0<=i/\i<=j/\j<=(xs.length:Int))).bind fun _=>some (xs.take i.toNat++xs.drop j.toNat)
def PE {α:Type} (z:α) (p0s:List α) (p1i p2j:Int):Option (List α):=
 (chk (And (0<=p1i) (And (p1i<=p2j) (And (p2j<=(p0s.length:Int)) ((0+(p0s.length:Int))<=(p0s.length:Int)))))).bind fun _=>if p1i==p2j then (some p0s) else ((chk (And ((0:Int)<=0) (And (0<=p1i) ((0+p1i)<=(p0s.length:Int))))).bind fun _=>(chk (And (0<=p2j) (And (p2j<=((p0s.length:Int) - 0)) ((0+((p0s.length:Int) - 0))<=(p0s.length:Int))))).bind fun _=>(chk (And ((0+0:Int)=0) (And ((0+p1i)<=(0+p2j)) (And ((0+p2j)<=(0+((p0s.length:Int) - 0))) ((0+((p0s.length:Int) - 0))<=(p0s.length:Int)))))).bind fun _=>(chk (And (0<=(((0+p1i)+((0+((p0s.length:Int) - 0)) - (0+p2j))) - 0)) (And ((((0+p1i)+((0+((p0s.length:Int) - 0)) - (0+p2j))) - 0)<=(p0s.length:Int)) ((0+(p0s.length:Int))<=((j8 p0s ((0+p1i).toNat) ((0+p2j).toNat) ((0+((p0s.length:Int) - 0)).toNat)).length:Int))))).bind fun _=>(chk (And ((0+(((0+p1i)+((0+((p0s.length:Int) - 0)) - (0+p2j))) - 0))<=(0+(p0s.length:Int))) ((0+(p0s.length:Int))<=((j8 p0s ((0+p1i).toNat) ((0+p2j).toNat) ((0+((p0s.length:Int) - 0)).toNat)).length:Int)))).bind fun _=>some (((lY (j8 p0s ((0+p1i).toNat) ((0+p2j).toNat) ((0+((p0s.length:Int) - 0)).toNat)) ((0+(((0+p1i)+((0+((p0s.length:Int) - 0)) - (0+p2j))) - 0)).toNat) ((0+(p0s.length:Int)).toNat) z).take (((0+p1i)+((0+((p0s.length:Int) - 0)) - (0+p2j))).toNat)).drop ((0:Int).toNat)))
theorem chk_of {α:Type} {p:Prop} [Decidable p] {k:Unit->Option α} (h:p):(chk p).bind k=k ():=by
 unfold chk
 rw[if_pos h];rfl
theorem MV {α:Type} {z:α} {xs:List α} {i j:Int} (h1:0<=i) (h2:i<=j) (h3:j<=(xs.length:Int)):PE z xs i j=some (xs.take i.toNat++xs.drop j.toNat):=by
 have hsl:(j8 xs ((0+i).toNat) ((0+j).toNat) ((0+((xs.length:Int) - 0)).toNat)).length=xs.length:=oT (by omega) (by omega) (by omega)
 unfold PE
 rw[chk_of (by omega)]
 by_cases hij:i=j
 ·subst hij
  rw[if_pos (by simp),List.take_append_drop]
 ·rw[if_neg (by simpa using hij),chk_of (by omega),chk_of (by omega),chk_of (by omega),chk_of (by rw[hsl];omega),chk_of (by rw[hsl];omega)]
  have hzl:(lY (j8 xs ((0+i).toNat) ((0+j).toNat) ((0+((xs.length:Int) - 0)).toNat)) ((0+(((0+i)+((0+((xs.length:Int) - 0)) - (0+j))) - 0)).toNat) ((0+(xs.length:Int)).toNat) z).length=xs.length:=by
   rw[mr (by omega) (by rw[hsl];omega),hsl]
  congr 1
  rw[show ((0:Int).toNat)=0 from rfl,List.drop_zero]
  apply List.ext_getElem?
  intro q
  have hi:(xs.take i.toNat).length=i.toNat:=by rw[aE];omega
  rw[List.getElem?_take]
  by_cases c:q<((0+i)+((0+((xs.length:Int) - 0)) - (0+j))).toNat
  ·rw[if_pos c,xT (by omega) (by rw[hsl];omega),if_neg (by omega),uw (by omega) (by omega) (by omega)]
   by_cases c1:q<i.toNat
   ·rw[if_neg (by omega),List.getElem?_append_left (by omega),List.getElem?_take,if_pos c1]
   ·rw[if_pos (by omega),List.getElem?_append_right (by omega),hi,List.getElem?_drop]
    congr 1;omega
  ·rw[if_neg c,List.getElem?_append_right (by omega),List.getElem?_drop,List.getElem?_eq_none (by omega)]
theorem MW {P:Program} {k:FuncId} {E n:Nat} {u:Ty} {z:(jY n).den} (hu:u.sh=true) (hs:u.size=n+1) (h:FOk P k ⟨[.eat (.sl E (jY n)),.rd (.int .i64),.rd (.int .i64)],[.sl E (jY n)],PE z,none⟩):FOk P k ⟨[.eat (.sl E u),.rd (.int .i64),.rd (.int .i64)],[.sl E u],PD,none⟩:=by
 refine ⟨fun q hq=>(by cases hq),fun _=>h.en rfl,fun _ w0 J γ vs d r hlay ha tI=>?_⟩
 obtain ⟨v,vs1,rfl,hd,v2,vs2,rfl,hd2,v3,vs3,rfl,hd3,hnil⟩:=ha
 obtain rfl:vs3= []:=hnil
 obtain ⟨xs0,i0,j0,un⟩:=d
 let xs:List u.den:=xs0
 let i:Int:=i0
 let j:Int:=j0
 let zs:List u.den:=r
 have tI:PD xs i j=some zs:=tI
 obtain ⟨u1,hc,hz⟩:=Option.bind_eq_some_iff.1 tI
 obtain ⟨c1,c2,c3⟩:=bc hc
 have hz:=ae hz
 have hsz:u.rep.size=n+1:=(Ty.rep_size u).trans hs
 intro w C hst
 have hst:St J w0 w (Ch.own (al E u.rep) [v] xs::C):=hst
 obtain ⟨ps,hp,hst2⟩:=Jd (Ty.sh_ok hu) hsz hst
 have hlen:=hp.length_eq
 have hm:PE z ps i j=some (ps.take i.toNat++ps.drop j.toNat):=MV c1 c2 (by rw[hlen];exact c3)
 have key:=h.con rfl w0 J undef [v,v2,v3] (ps,i,j,()) (show dens ([Ty.sl E (jY n)] ++ []) from ps.take i.toNat++ps.drop j.toNat) hlay ⟨v,_,rfl,hd,v2,_,rfl,hd2,v3,_,rfl,hd3,rfl⟩ hm
 refine (key w C hst2).mono fun e w' ⟨r,a1,a2,a3⟩=>⟨r,a1,a2,?_⟩
 have a3:St J w0 w' (Ch.own (al E (jY n).rep) [r] (ps.take i.toNat++ps.drop j.toNat)::C):=a3
 show St J w0 w' (Ch.own (al E u.rep) [r] zs::C)
 rw[<-hz]
 exact FV (Ty.cpy hu) hsz (BX (yC _ hp) (mj _ hp)) a3
end R
namespace R
open Go.RowKit
open D
def rtN (V:Env) (rvs:List ResultVar) (T:TypeId) (s:Sg):Option (Int×Int):=(sK V.tt s rvs).bind fun vs=>match vs with
 | [.one (.ptr h off)] =>bq (Nat.beq off 0) ((nW h s.chs).bind fun b=>bq (Nat.beq b.T T) (match b.cells with
  | [.rd g _ _,.val (.int .i64 x),.val (.int .i64 y)] =>bq (Hdr.beq g ⟨0,[]⟩) (some (x,y))
  | _=>none))
 | _=>none
theorem OM {V:Env} {P:Program} (hT:TTok P V.tt) (hF:FTok P V.ft) (hmx:P.follows .mixedOrders=true) {k:FuncId} {fn:Func} {c:Code} {E T:Nat} {t:Ty} {m:List t.den->Option (Int×Int)} (hf:P.funcs[k]? =some fn) (hb:fn.body=some c) (hn:fn.ntmps=V.n) (hen:Enters P k) (hm:1<=V.n) (ann:Ann)
  (hmod: ∀xs:List t.den,m xs=gu V (rtN V fn.results.toList T) c ann (fun r=>some r) (fun _ _=>none) (rtN V fn.results.toList T) ⟨[(0,0,.one (.rd ⟨0,[]⟩ (.sl E t) xs))],[],1⟩):NewOk P k T ⟨[.rd (.sl E t)],[.int .i64,.int .i64],m,some (T,9)⟩:=by
 refine ⟨hen,fun w0 J γ vs d r ns hlay ha tI hns=>?_⟩
 obtain ⟨v,vs',rfl,hd,hnil⟩:=ha
 obtain rfl:vs'= []:=hnil
 obtain ⟨xs,u⟩:=d
 obtain ⟨cs,hcs,hrd⟩:=hd
 obtain rfl:cs= [v]:=hcs
 obtain ⟨x,y⟩:=r
 have hr:=hmod xs
 rw[show m xs=some (x,y) from tI] at hr
 obtain rfl: [x,y] =ns:=ae hns
 let θ:Th:=fun _=>v
 refine qc (n:=V.n) [(0,v)] hf hb hn hm (fun p hp=>by obtain rfl:=aj hp;rfl) (fun F w a hA hst=>?_) (fun u=>Ch.back_deeps ⟨JS,trivial⟩)
 have hfine:Fine P w0 J θ ⟨[(0,0,.one (.rd ⟨0,[]⟩ (.sl E t) xs))],[],1⟩:=⟨fun e he=>by obtain rfl:=aj he;exact ⟨Nat.one_pos,hrd⟩,fun e he=>by obtain rfl:=aj he;exact Nat.one_pos,List.pairwise_singleton _ _,fun e he=>(by cases he),hlay⟩
 have hS:Sim P J w0 F V.n J θ ⟨[(0,0,.one (.rd ⟨0,[]⟩ (.sl E t) xs))],[],1⟩ a w:=⟨Hp.le.rfl,hA,hst,hfine⟩
 have fin: ∀r J' θ' s' a' w',rtN V fn.results.toList T s'=some r->Sim P J w0 F V.n J' θ' s' a' w'->J.le J'->Fr ⟨[(0,0,.one (.rd ⟨0,[]⟩ (.sl E t) xs))],[],1⟩ θ s' θ'->
   bodyPost P fn (fun e w'=> ∃u,e= .returned u/\(∃b,u= .pointer (some ⟨b,0,none⟩))/\ ∃J2,J.le J2/\St J2 w0 w' ([Ch.blk (bk u) ([v] ++ [r.1,r.2].map (Value.int .i64)) T] ++ [F])) .ret a' w':=by
  intro r J' θ' s' a' w' hrt S' hJ hFr
  obtain ⟨us,hus,hrt⟩:=bind_some hrt
  obtain ⟨r1,r2⟩:=o6 hT S' hus
  split at hrt
  ·rename_i h off
   obtain ⟨ho,hrt⟩:=ai hrt
   obtain rfl:off=0:=ak ho
   obtain ⟨b,hb',hrt⟩:=bind_some hrt
   obtain ⟨hT',hrt⟩:=ai hrt
   have hT':b.T=T:=ak hT'
   split at hrt
   ·rename_i g ty d p q hcells
    obtain ⟨hg,hrt⟩:=ai hrt
    obtain rfl:=Hdr.beq_eq hg
    obtain rfl:=ae hrt
    refine OH S'.agr r1 ⟨_,rfl,⟨bk (hv θ' h),rfl⟩,J',hJ,?_⟩
    have h1:=S'.st.perm (((gN hb').map (toCh P θ')).append_right [F])
    have e0:hv θ' ⟨0,[]⟩=v:=by
     show vg (θ' 0) [] =v
     rw[hFr.same 0 Nat.one_pos];rfl
    have h2:St J' w0 w' (Ch.blk (bk (hv θ' h)) (b.cells.map (·.v θ')) b.T::(b.rest.map (toCh P θ')++ [F])):=h1
    rw[hcells,hT'] at h2
    have h3:St J' w0 w' ([Ch.blk (bk (hv θ' h)) [hv θ' ⟨0,[]⟩,.int .i64 p,.int .i64 q] T] ++ [F] ++b.rest.map (toCh P θ')):=h2.perm ((List.perm_append_comm).cons _)
    rw[e0] at h3
    exact h3.left
   ·cases hrt
  ·cases hrt
 exact (oc (I:=J) (w0:=w0) (F:=F) hT hF hmx c).1 ann hr.symm hS (fun J' θ' s' a' w' hk S' hJ hFr=>fin _ J' θ' s' a' w' hk S' hJ hFr) (fun i J' θ' s' a' w' hk=>by cases hk) (fun r' J' θ' s' a' w' hrt hrr hS' hJ hFr=>by
  obtain rfl:=ae hrr
  exact fin _ J' θ' s' a' w' hrt hS' hJ hFr)
theorem MX {P:Program} {k:FuncId} {f:FS} {T:Nat} (hc:NewOk P k T f) (hcl:f.cl=some (T,9)):FOk P k f:=by
 have ho:f.ov=true:=by unfold FS.ov;rw[hcl];rfl
 refine ⟨fun q hq=>?_,fun e=>(by rw[ho] at e;cases e),fun e=>(by rw[ho] at e;cases e)⟩
 rw[hcl] at hq
 obtain rfl:=ae hq
 exact ⟨⟨fun e=>(by cases e),fun _ _ _ e=>(by cases e),fun e=>(by cases e)⟩,fun e=>(by cases e),fun _=>hc⟩
end R
namespace R
open Go.RowKit Go.Shelf Go.Sort
open D
abbrev IT:Ty:=.int .i64
def Je (xs:List Int):Option (List Int):=(chk (xs.length<4611686018427387904)).bind fun _=>some (xs.mergeSort fun x y=>decide (x<=y))
theorem St.grownI {I:Hp} {w0 w:World} {cs:List Ch} (h:St I w0 w cs) (os:Array Obj):St I w0 (grow w os) cs:=by
 refine St.step (w:=w) (c:=[]) (c':=[]) h rfl rfl rfl (by simp[grow]) ?_
 rintro F rfl - -
 exact ⟨fun b hb _=>heap_grow_old w os hb,[],rfl,List.nodup_nil,by simp⟩
theorem FW {P:Program} {ρ:Ren} (L:Lays.n189 P ρ) (en:Enters P (ρ.f 189)) (E:TypeId) :
  FOk P (ρ.f 189) ⟨[.ow (.sl E IT)],[],fun xs=>Je xs,none⟩:=by
 refine ⟨fun q hq=>(by cases hq),fun _=>en,fun _ w0 J γ vs d r hlay ha tI=>?_⟩
 obtain ⟨v,vs1,rfl,hd,hnil⟩:=ha
 obtain rfl:vs1= []:=hnil
 obtain ⟨xs0,un⟩:=d
 let xs:List Int:=xs0
 let zs:List Int:=r
 have tI:Je xs=some zs:=tI
 obtain ⟨u1,hc,hz⟩:=Option.bind_eq_some_iff.1 tI
 have hc:=bc hc
 have hz:=ae hz
 intro w C hst
 have hst:St J w0 w (Ch.own (al E IT.rep) [v] xs::C):=hst
 clear tI
 rename_i happ0
 clear happ0 hd
 clear_value xs
 have hfin: ∀ {e:Ending} {w':World},(∃W,e= .returned (.tuple #[])/\w'=W/\St J w0 W (Ch.own (al E IT.rep) [v] zs::C))-> ∃v':Value,e= .returned v'/\(∃vs:Array Value,v'= .tuple vs/\vs.size=0/\ ∀(i:Nat) (t:Ty),([] :List Ty)[i]? =some t->j6 (vs.getD i undef)=t.isProd)/\St J w0 w' (Ch.own (al E IT.rep) [v] zs::C):=by
  rintro e w' ⟨W,rfl,rfl,h⟩
  exact ⟨_,rfl,⟨#[],rfl,rfl,fun i t h=>(by simp at h)⟩,h⟩
 have hcase:(v= .slice none 0 0/\xs= [])\/ ∃g' ofs n cap,v= .slice (some ⟨g',ofs,none⟩) n cap:=by
  obtain ⟨hb,hi,F,⟨G,K,rfl,⟨hl,e2⟩,e3⟩,h4,h5⟩:=hst
  rcases e2 with ⟨hv,h1,_⟩ | ⟨g',ofs',cap',cur,K1,hv,_⟩
  ·exact .inl ⟨List.cons.inj hv |>.1,h1⟩
  ·exact .inr ⟨_,_,_,_,List.cons.inj hv |>.1⟩
 rcases hcase with ⟨rfl,hx⟩ | ⟨g',ofs,n,cap,rfl⟩
 ·refine (Any.slices_Sort_int_none L none 0 w).mono fun e w' ⟨he,hw⟩=>hfin ⟨_,he,hw,?_⟩
  rw[<-hz,hx,List.mergeSort_nil]
  rw[hx] at hst
  exact hst
 ·obtain ⟨hn,h1,h2,cur,hg,hroom,hat⟩:=sn (R:=IT.rep) (k:=1) (Ty.sh_ok (t:=IT) rfl) rfl hst
  obtain rfl:=hn
  have hH:Holds (Value.int .i64) w g' ofs xs.toArray:=by
   intro j hj
   have hj:j<xs.length:=by simpa using hj
   obtain ⟨c,e1,e2,e3⟩:=hat j _ (List.getElem?_eq_getElem hj)
   have hcj:=e2 0 Nat.one_pos
   obtain rfl:c= [.int .i64 xs[j]]:=e3
   rw[Nat.mul_one,Nat.add_zero,List.getElem?_drop] at hcj
   refine ⟨?_,?_⟩
   ·unfold World.cell?
    simp only[hg]
    rw[<-Array.getElem?_toList,hcj,getElem!_pos xs.toArray _ (by simpa using hj)]
    simp
   ·unfold World.frozen?
    simp only[hg]
    simp
  have hblk:g'<w.heap.size:=by
   rcases Nat.lt_or_ge g' w.heap.size with c | c
   ·exact c
   ·rw[Array.getElem?_eq_none c] at hg;cases hg
  refine (Any.slices_Sort_int L g' ofs cap xs w hH hblk hc).mono ?_
  rintro e w' ⟨he,m,os,rfl⟩
  refine hfin ⟨_,he,rfl,?_⟩
  have hlen:zs.length=xs.length:=by rw[<-hz];exact List.length_mergeSort _
  rw[hz,Go.Lib.sorted_world (Value.int .i64) w g' ofs m xs.toArray zs os hH (by simpa using hlen)]
  refine St.grownI ?_ os
  have hst2:St J w0 (w.drewN m) (Ch.own (al E IT.rep) [.slice (some ⟨g',ofs,none⟩) xs.length cap] xs::C):=hst.drawn rfl rfl rfl rfl
  have hcapz:zs.length<=cap:=by rw[hlen];exact h1
  have hlimz:zs.length<=lim:=by
   have:lim=2 ^ 63 - 1:=rfl
   have:maxLen=2 ^ 63 - 1:=rfl
   omega
  have h3:=vX (p:=0) (cnt:=xs.length) (zs:=zs) (news:=zs.map (Value.int .i64)) (Ty.sh_ok (t:=IT) rfl) (Ty.cpy (t:=IT) rfl) (k:=1) rfl (by simp[hlen]) (by omega) hcapz hlimz (fun i z hi=>.inl ⟨Nat.zero_le _,(by
   have:=(List.getElem?_eq_some_iff.1 hi).1
   have:i<zs.length:=this
   omega),[.int .i64 z],rfl,fun j hj=>by
    obtain rfl:j=0:=by omega
    rw[Nat.sub_zero,Nat.mul_one,Nat.add_zero,List.getElem?_map]
    have hi:zs[i]? =some z:=hi
    rw[hi];rfl,rfl⟩) hst2
  rw[Nat.zero_mul,Nat.add_zero,show @List.length IT.den zs=xs.length from hlen] at h3
  exact h3
end R
namespace R
open Go.Shelf
def sL:Go.Shelf.Ren:=⟨fun | 189=>251 | 125=>275 | 257=>274 | 128=>296 | 129=>297 | 294=>287 | 295=>288 | 296=>289 | 297=>290 | 298=>291 | 299=>292 | 216=>293 | 300=>294 | 301=>295 | 328=>303 | 329=>304 | 330=>305 | 331=>306 | 332=>307 | 215=>308 | 343=>312 | n=>n,fun | 28=>30 | 3=>3 | 46=>172 | 0=>0 | 51=>262 | 53=>265 | 4=>4 | 183=>279 | 182=>278 | 131=>202 | 5=>5 | 9=>9 | 218=>292 | 222=>296 | 228=>300 | 229=>301 | n=>n,fun | n=>n⟩
theorem An:Go.Proofs.Lays.n189 Tryz.prog sL:= {
 mixed:=by kernel_rfl
 f125:=Tryz.func275.trans (congrArg some (by kernel_rfl))
 f128:=Tryz.func296.trans (congrArg some (by kernel_rfl))
 f129:=Tryz.func297.trans (congrArg some (by kernel_rfl))
 f189:=Tryz.func251.trans (congrArg some (by kernel_rfl))
 f215:=Tryz.func308.trans (congrArg some (by kernel_rfl))
 f216:=Tryz.func293.trans (congrArg some (by kernel_rfl))
 f257:=Tryz.func274.trans (congrArg some (by kernel_rfl))
 f294:=Tryz.func287.trans (congrArg some (by kernel_rfl))
 f295:=Tryz.func288.trans (congrArg some (by kernel_rfl))
 f296:=Tryz.func289.trans (congrArg some (by kernel_rfl))
 f297:=Tryz.func290.trans (congrArg some (by kernel_rfl))
 f298:=Tryz.func291.trans (congrArg some (by kernel_rfl))
 f299:=Tryz.func292.trans (congrArg some (by kernel_rfl))
 f300:=Tryz.func294.trans (congrArg some (by kernel_rfl))
 f301:=Tryz.func295.trans (congrArg some (by kernel_rfl))
 f328:=Tryz.func303.trans (congrArg some (by kernel_rfl))
 f329:=Tryz.func304.trans (congrArg some (by kernel_rfl))
 f330:=Tryz.func305.trans (congrArg some (by kernel_rfl))
 f331:=Tryz.func306.trans (congrArg some (by kernel_rfl))
 f332:=Tryz.func307.trans (congrArg some (by kernel_rfl))
 f343:=Tryz.func312.trans (congrArg some (by kernel_rfl))
 t0:=Tryz.underlying0
 a0:=Tryz.isAgg0
 z0:=Tryz.sizeOf0
 v0:=Tryz.zeroValue0
 t3:=Tryz.underlying3
 a3:=Tryz.isAgg3
 z3:=Tryz.sizeOf3
 v3:=Tryz.zeroValue3
 t4:=Tryz.underlying4
 a4:=Tryz.isAgg4
 z4:=Tryz.sizeOf4
 v4:=Tryz.zeroValue4
 t5:=Tryz.underlying5
 a5:=Tryz.isAgg5
 z5:=Tryz.sizeOf5
 v5:=Tryz.zeroValue5
 t9:=Tryz.underlying9
 a9:=Tryz.isAgg9
 z9:=Tryz.sizeOf9
 v9:=Tryz.zeroValue9
 t28:=Tryz.underlying30
 a28:=Tryz.isAgg30
 z28:=Tryz.sizeOf30
 v28:=Tryz.zeroValue30
 t46:=Tryz.underlying172
 a46:=Tryz.isAgg172
 z46:=Tryz.sizeOf172
 v46:=Tryz.zeroValue172
 t51:=Tryz.underlying262
 a51:=Tryz.isAgg262
 z51:=Tryz.sizeOf262
 v51:=Tryz.zeroValue262
 t53:=Tryz.underlying265
 a53:=Tryz.isAgg265
 z53:=Tryz.sizeOf265
 v53:=Tryz.zeroValue265
 t131:=Tryz.underlying202
 a131:=Tryz.isAgg202
 z131:=Tryz.sizeOf202
 v131:=Tryz.zeroValue202
 t182:=Tryz.underlying278
 a182:=Tryz.isAgg278
 z182:=Tryz.sizeOf278
 v182:=Tryz.zeroValue278
 t183:=Tryz.underlying279
 a183:=Tryz.isAgg279
 z183:=Tryz.sizeOf279
 v183:=Tryz.zeroValue279
 t218:=Tryz.underlying292
 a218:=Tryz.isAgg292
 z218:=Tryz.sizeOf292
 v218:=Tryz.zeroValue292
 t222:=Tryz.underlying296
 a222:=Tryz.isAgg296
 z222:=Tryz.sizeOf296
 v222:=Tryz.zeroValue296
 t228:=Tryz.underlying300
 a228:=Tryz.isAgg300
 z228:=Tryz.sizeOf300
 v228:=Tryz.zeroValue300
 t229:=Tryz.underlying301
 a229:=Tryz.isAgg301
 z229:=Tryz.sizeOf301
 v229:=Tryz.zeroValue301 }
end R
namespace R
open Go.RowKit
open D
def FldAll (P:Program) (T:TypeId):Nat->List (Nat×Nat)->Prop
 | _,[] =>True
 | i,q::l=>TF P T i q.1 q.2/\FldAll P T (i+1) l
theorem FldAll.get {P:Program} {T:TypeId} : ∀ {l:List (Nat×Nat)} {i:Nat},FldAll P T i l-> ∀f q,l[f]? =some q->TF P T (i+f) q.1 q.2
 | [],_,_,f,q,h=>by simp at h
 | x::l,i,⟨h1,h2⟩,f,q,h=>by
  cases f with
  | zero=>simp at h;subst h;exact h1
  | succ f =>
   have:=FldAll.get h2 f q (by simpa using h)
   rwa [show i+1+f=i+(f+1) from by omega] at this
section
variable {P:Program} {T:TypeId}
theorem od {n b:Nat} {ty:Ty} {z:Value} {boo:Bool} {ik:Option (Option IntKind)} (h1:TI P T false 1) (h2:ty.size=1) (h3:TZ P T z 1 b) (h4:z.cells=(zeroCells ty).toArray) (h5:1<=b) (h6:boo=true->P.underlying T=some .bool) (h7: ∀k,ik=some k->P.underlying T=some (ikD k)):TDok P T ⟨false,1,none,ty,[],some b,none,boo,none,none,ik,false,none⟩:=
 ⟨h1,rfl,h2,fun E h=>by simp at h,fun f q h=>by simp at h,fun b' h=>by obtain rfl:=ae h;exact ⟨z,h3,h4,h5⟩,fun pl h=>by simp at h,h6,(fun ks h=>by cases h),(fun m h=>by cases h),h7,(fun h=>by cases h),fun e h=>by cases h⟩
theorem wt {E:TypeId} {t:Ty} (h1:TI P T false 1) (h2:P.underlying T=some (.slice E)) (h3:TZ P T (.slice none 0 0) 1 24):TDok P T ⟨false,1,some E,.sl E t,[],some 24,none,false,none,none,none,false,none⟩:=
 ⟨h1,rfl,rfl,fun E' h=>by obtain rfl:=ae h;exact h2,fun f q h=>by simp at h,fun b' h=>by obtain rfl:=ae h;exact ⟨_,h3,rfl,by decide⟩,fun pl h=>by simp at h,(fun h=>by cases h),(fun ks h=>by cases h),(fun m h=>by cases h),(fun k h=>by cases h),(fun h=>by cases h),fun e h=>by cases h⟩
theorem wu {n b:Nat} {ty:Ty} {fs pl:List (Nat×Nat)} {z:Value} {eq:Option (List (Option IntKind))} (h1:TI P T true n) (h2:ty.size=n) (h3:FldAll P T 0 fs) (h4:TZ P T z n b) (h5:z.cells=(zeroCells ty).toArray) (h6:1<=b) (h7:TB P T pl) (h8: ∀ks,eq=some ks-> ∀w,Curq ks fun xs ys r=>EqT P T (.agg xs.toArray) (.agg ys.toArray) r w):TDok P T ⟨true,n,none,ty,fs,some b,some pl,false,eq,none,none,false,none⟩:=
 ⟨h1,rfl,h2,fun E h=>by simp at h,fun f q h=>by have:=h3.get f q h;rwa [Nat.zero_add] at this,fun b' h=>by obtain rfl:=ae h;exact ⟨z,h4,h5,h6⟩,fun pl' h=>by obtain rfl:=ae h;exact h7,(fun h=>by cases h),h8,(fun m h=>by cases h),(fun k h=>by cases h),(fun h=>by cases h),fun e h=>by cases h⟩
theorem C9 {ty:Ty} {b:Nat} (h1:TI P T false 1) (h2:ty.size=1) (h3:TZ P T .nilFunc 1 b):TDok P T ⟨false,1,none,ty,[],none,none,false,none,none,none,true,none⟩:=
 ⟨h1,rfl,h2,fun E h=>by simp at h,fun f q h=>by simp at h,(fun b' h=>by cases h),(fun pl h=>by cases h),(fun h=>by cases h),(fun ks h=>by cases h),(fun m' h=>by cases h),(fun k h=>by cases h),(fun _=>⟨b,h3⟩),fun e h=>by cases h⟩
theorem ON {m:MD} {ty:Ty} (h1:TI P T false 1) (h2:ty.size=1) (h3:MDok P T m):TDok P T ⟨false,1,none,ty,[],none,none,false,none,some m,none,false,none⟩:=
 ⟨h1,rfl,h2,fun E h=>by simp at h,fun f q h=>by simp at h,(fun b' h=>by cases h),(fun pl h=>by cases h),(fun h=>by cases h),(fun ks h=>by cases h),(fun m' h=>by obtain rfl:=ae h;exact h3),(fun k h=>by cases h),(fun h=>by cases h),fun e h=>by cases h⟩
end
end R
namespace D
open Go.RowKit
abbrev Yq1:Type:=(Int×Int×Int×Int)
abbrev Yq2:Type:=(Int×(List Bool)×(List (List Int)))
abbrev Yq3:Type:=(Int×Int×Bool×Int×Int)
abbrev Yq4:Type:=(Out (List Int) ((List Int)×Int))
abbrev Yq5:Type:=(Out (List Bool) ((List Bool)×Int))
abbrev Yq6:Type:=((Int×Int)×Bool)
abbrev Yq7:Type:=((Int×(List Bool)×List (List Int))×Int×Int)
abbrev Yq8:Type:=((List Int)×Int×Int×(List Int)×Bool)
def Ao (p0code:List Int):Option Bool:=
 some (decide ((p0code.length:Int)>1048576))
def jf (p0x:Int) (p1low:Int) (p2high:Int):Option Bool:=
 if decide (p0x≥p1low) then (some (decide (p0x<=p2high))) else (some false)
def eu (p0a:Int×(List Bool)×(List (List Int))) (s11:Int) (s15:Int):Option (Out Bool Int):=
 if decide (s15<9) then ((a8 p0a.2.2 s11).bind fun x20=>(a8 x20 s15).bind fun x21=>(jf x21 (-1) (IntKind.i64.wrap ((p0a.2.1.length:Int) - 1))).bind fun r22=>if r22 then (some (.nxt (IntKind.i64.wrap (s15+1)))) else (some (.ret false))) else (some (.brk s15))
def iB (p0a:Int×(List Bool)×(List (List Int))) (s11:Int):Option (Out Bool Int):=
 if decide (s11<(p0a.2.1.length:Int)) then ((a8 p0a.2.2 s11).bind fun x15=>if (x15.length:Int) !=9 then (some (.ret false)) else (aW (aG (eu p0a s11) aV 0) (fun r=>some (.ret r)) (fun s16=>some (.nxt (IntKind.i64.wrap (s11+1)))))) else (some (.brk s11))
def jG (p0a:Int×(List Bool)×(List (List Int))):Option Bool:=
 (jf p0a.1 0 (IntKind.i64.wrap ((p0a.2.1.length:Int) - 1))).bind fun r1=>if r1 then (if (p0a.2.2.length:Int) !=(p0a.2.1.length:Int) then (some false) else (aW (aG (iB p0a) aV 0) (fun r=>some r) (fun s12=>some true))) else (some false)
def aY (p0a:Int×(List Bool)×(List (List Int))):Option Bool:=
 if decide ((p0a.2.1.length:Int)<=12) then ((jG (p0a.1,p0a.2.1,p0a.2.2)).bind fun r1=>some r1) else (some false)
def kC (p0l:List Int) (p1x:Int) (s3:Int):Option (Out Int Int):=
 if decide (s3<(p0l.length:Int)) then ((a8 p0l s3).bind fun x3=>if x3==p1x then (some (.ret s3)) else (some (.nxt (IntKind.i64.wrap (s3+1))))) else (some (.brk s3))
def jH (p0l:List Int) (p1x:Int):Option Int:=
 aW (aG (kC p0l p1x) aV 0) (fun r=>some r) (fun s4=>some (-1))
def qd (s3:(List Int)×Int):Option (Out Yq2 ((List Int)×Int)):=
 if decide (s3.2<9) then ((dE 8 s3.1 ([-1])).bind fun z3=>some (.nxt (z3,IntKind.i64.wrap (s3.2+1)))) else (some (.brk (s3.1,s3.2)))
def kD:Option Yq2:=
 aW (aG (qd) aV (([] :List Int),0)) (fun r=>some r) (fun s4=>some (0,[false],[s4.1]))
def dP (p0:Int×(List Bool)×(List (List Int))) (p1:List Int) (p2:List Bool) (s17:(List Int)×(List Int)×Int×Int×(List Bool)×(List (List Int))) (s23:(List Int)×(List Int)×(List Int)×Int):Option (Out Yq2 ((List Int)×(List Int)×(List Int)×Int)):=
 if decide (s23.2.2.2<9) then ((a8 s23.2.1 s17.2.2.1).bind fun x79=>(a8 p0.2.2 x79).bind fun x80=>(a8 x80 s23.2.2.2).bind fun x81=>Option.bind ((if decide (x81≥0) then ((a8 p2 x81).bind fun x85=>if x85 then ((a8 p1 x81).bind fun x86=>(jH s23.1 x86).bind fun r28=>if decide (r28<0) then ((a8 p1 x81).bind fun x87=>(dE 8 s23.1 ([x87])).bind fun z47=>(dE 8 s23.2.1 ([x81])).bind fun z48=>some (z47,z48,(s23.1.length:Int))) else (some (s23.1,s23.2.1,r28))) else (some (s23.1,s23.2.1,-1))) else (some (s23.1,s23.2.1,-1)):Option ((List Int)×(List Int)×Int))) (fun s25=>(dE 8 s23.2.2.1 ([s25.2.2])).bind fun z49=>some (.nxt (s25.1,s25.2.1,z49,IntKind.i64.wrap (s23.2.2.2+1))))) else (some (.brk (s23.1,s23.2.1,s23.2.2.1,s23.2.2.2)))
def fT (p0:Int×(List Bool)×(List (List Int))) (p1:List Int) (p2:List Bool) (s17:(List Int)×(List Int)×Int×Int×(List Bool)×(List (List Int))):Option (Out Yq2 ((List Int)×(List Int)×Int×Int×(List Bool)×(List (List Int)))):=
 if decide (s17.2.2.1<(s17.1.length:Int)) then (aW (aG (dP p0 p1 p2 s17) aV (s17.1,s17.2.1,([] :List Int),0)) (fun r=>some (.ret r)) (fun s24=>(a8 s24.2.1 s17.2.2.1).bind fun x88=>(a8 p0.2.1 x88).bind fun x89=>(dE 1 s17.2.2.2.2.1 ([x89])).bind fun z50=>(dE 24 s17.2.2.2.2.2 ([s24.2.2.1])).bind fun z51=>some (.nxt (s24.1,s24.2.1,IntKind.i64.wrap (s17.2.2.1+1),s17.2.2.2.1,z50,z51)))) else (some (.brk (s17.1,s17.2.1,s17.2.2.1,s17.2.2.2.1,s17.2.2.2.2.1,s17.2.2.2.2.2)))
def fv (p0:Int×(List Bool)×(List (List Int))) (p1:List Int) (p2:List Bool):Option Yq2:=
 (a8 p2 p0.1).bind fun x1=>if x1 then ((a8 p1 p0.1).bind fun x2=>aW (aG (fT p0 p1 p2) aV ([x2],[p0.1],0,0,[],[])) (fun r=>some r) (fun s18=>some (s18.2.2.2.1,s18.2.2.2.2.1,s18.2.2.2.2.2))) else ((kD).bind fun r1=>some (r1.1,r1.2.1,r1.2.2))
def fL (p0a:Int×(List Bool)×(List (List Int))) (s71:(List Bool)×Int) (s77:(List Bool)×Int):Option Yq5:=
 if decide (s77.2<9) then (Option.bind (((a8 p0a.2.2 s71.2).bind fun x319=>(a8 x319 s77.2).bind fun x320=>if decide (x320≥0) then ((a8 p0a.2.2 s71.2).bind fun x321=>(a8 x321 s77.2).bind fun x322=>(a8 s77.1 x322).bind fun x323=>if x323 then ((a8 s77.1 s71.2).bind fun x324=>some (s77.1.set s71.2.toNat true)) else (some s77.1)) else (some s77.1):Option (List Bool))) (fun s79=>some (.nxt (s79,IntKind.i64.wrap (s77.2+1))))) else (some (.brk (s77.1,s77.2)))
def fM (p0a:Int×(List Bool)×(List (List Int))) (s71:(List Bool)×Int):Option Yq5:=
 if decide (s71.2<(p0a.2.1.length:Int)) then (aW (aG (fL p0a s71) aV (s71.1,0)) (fun r=>some (.ret r)) (fun s78=>some (.nxt (s78.1,IntKind.i64.wrap (s71.2+1))))) else (some (.brk (s71.1,s71.2)))
def iC (p0a:Int×(List Bool)×(List (List Int))) (s53:(List Bool)×Int):Option Yq5:=
 if decide (s53.2<(p0a.2.1.length:Int)) then (aW (aG (fM p0a) aV (s53.1,0)) (fun r=>some (.ret r)) (fun s72=>some (.nxt (s72.1,IntKind.i64.wrap (s53.2+1))))) else (some (.brk (s53.1,s53.2)))
def gi (p0a:Int×(List Bool)×(List (List Int))):Option (List Bool):=
 (dE 1 ([] :List Bool) p0a.2.1).bind fun z1=>aW (aG (iC p0a) aV (z1,0)) (fun r=>some r) (fun s54=>some s54.1)
def ka (p0a:List Int) (p1b:List Int) (s3:Int):Option (Out Int Int):=
 if decide (s3<(p0a.length:Int)) then (if decide (s3<(p1b.length:Int)) then ((a8 p0a s3).bind fun x9=>(a8 p1b s3).bind fun x10=>if decide (x9<x10) then (some (.ret (-1))) else ((a8 p0a s3).bind fun x11=>(a8 p1b s3).bind fun x12=>if decide (x11>x12) then (some (.ret 1)) else (some (.nxt (IntKind.i64.wrap (s3+1)))))) else (some (.brk s3))) else (some (.brk s3))
def mA (p0a:List Int) (p1b:List Int):Option Int:=
 aW (aG (ka p0a p1b) aV 0) (fun r=>some r) (fun s4=>if decide ((p0a.length:Int)<(p1b.length:Int)) then (some (-1)) else (if decide ((p0a.length:Int)>(p1b.length:Int)) then (some 1) else (some 0)))
def jg (p0a:Int×(List Bool)×(List (List Int))) (p1classes:List Int) (p2s:Int) (s5:(List Int)×Int):Option Yq4:=
 if decide (s5.2<9) then (Option.bind (((a8 p0a.2.2 p2s).bind fun x17=>(a8 x17 s5.2).bind fun x18=>if decide (x18<0) then ((dE 8 s5.1 ([-1])).bind fun z12=>some z12) else ((a8 p1classes x18).bind fun x19=>(dE 8 s5.1 ([x19])).bind fun z11=>some z11):Option (List Int))) (fun s7=>some (.nxt (s7,IntKind.i64.wrap (s5.2+1))))) else (some (.brk (s5.1,s5.2)))
def kQ (p0a:Int×(List Bool)×(List (List Int))) (p1classes:List Int) (p2s:Int):Option (List Int):=
 (a8 p1classes p2s).bind fun x1=>aW (aG (jg p0a p1classes p2s) aV ([x1],0)) (fun r=>some r) (fun s6=>some s6.1)
def dq (p0:Int×(List Bool)×List (List Int)) (r0:List Bool) (s2:(List Int)×Int):Option Yq4:=
 if decide (s2.2<(p0.2.1.length:Int)) then ((a8 p0.2.1 s2.2).bind fun x3=>Option.bind ((if x3 then (some 1) else (some 0):Option Int)) (fun s4=>(a8 r0 s2.2).bind fun x5=>Option.bind ((if x5 then (some s4) else (some (-1)):Option Int)) (fun s6=>(dE 8 s2.1 ([s6])).bind fun z7=>some (.nxt (z7,IntKind.i64.wrap (s2.2+1)))))) else (some (.brk (s2.1,s2.2)))
def dt (s13:(List (List Int))×(List Int)×Int) (r16:List Int) (s18:Int×Int):Option (Out (List Int) (Int×Int)):=
 if decide (s18.2<(s13.1.length:Int)) then (Option.bind (((a8 s13.1 s18.2).bind fun x19=>(mA x19 r16).bind fun r20=>if r20==0 then (some s18.2) else (some s18.1):Option Int)) (fun s21=>some (.nxt (s21,IntKind.i64.wrap (s18.2+1))))) else (some (.brk (s18.1,s18.2)))
def du (p0:Int×(List Bool)×List (List Int)) (s11:(List Int)×Int) (s13:(List (List Int))×(List Int)×Int):Option (Out (List Int) ((List (List Int))×(List Int)×Int)):=
 if decide (s13.2.2<(p0.2.1.length:Int)) then (Option.bind (((a8 s11.1 s13.2.2).bind fun x14=>if decide (x14<0) then ((dE 8 s13.2.1 ([(-1)])).bind fun z15=>some (s13.1,z15)) else ((kQ (p0.1,p0.2.1,p0.2.2) s11.1 s13.2.2).bind fun r16=>aW (aG (dt s13 r16) aV ((-1),0)) (fun r22=>none) (fun s23=>Option.bind ((if decide (s23.1<0) then ((dE 24 s13.1 ([r16])).bind fun z24=>some (z24,(s13.1.length:Int))) else (some (s13.1,s23.1)):Option ((List (List Int))×Int))) (fun s25=>(dE 8 s13.2.1 ([s25.2])).bind fun z26=>some (s25.1,z26)))):Option ((List (List Int))×List Int))) (fun s27=>some (.nxt (s27.1,s27.2,IntKind.i64.wrap (s13.2.2+1))))) else (some (.brk (s13.1,s13.2.1,s13.2.2)))
def iw (p0:Int×(List Bool)×List (List Int)) (s11:(List Int)×Int):Option Yq4:=
 if decide (s11.2<=(p0.2.1.length:Int)) then (aW (aG (du p0 s11) aV (([] :List (List Int)),([] :List Int),0)) (fun r28=>some (.ret r28)) (fun s29=>(mA s29.2.1 s11.1).bind fun r30=>if r30==0 then (some (.ret s11.1)) else (some (.nxt (s29.2.1,IntKind.i64.wrap (s11.2+1)))))) else (some (.brk (s11.1,s11.2)))
def fN (p0:Int×(List Bool)×List (List Int)):Option (List Int):=
 (gi (p0.1,p0.2.1,p0.2.2)).bind fun r0=>aW (aG (dq p0 r0) aV (([] :List Int),0)) (fun r8=>some r8) (fun s9=>aW (aG (iw p0) aV (s9.1,0)) (fun r31=>some r31) (fun s32=>some s32.1))
def eR (p0a:Int×(List Bool)×(List (List Int))):Option Yq2:=
 (fN (p0a.1,p0a.2.1,p0a.2.2)).bind fun r1=>(gi (p0a.1,p0a.2.1,p0a.2.2)).bind fun r2=>(fv (p0a.1,p0a.2.1,p0a.2.2) r1 r2).bind fun r3=>some (r3.1,r3.2.1,r3.2.2)
def eS (p0a:Int×(List Bool)×(List (List Int))):Option Yq2:=
 (aY (p0a.1,p0a.2.1,p0a.2.2)).bind fun r1=>if r1 then ((eR (p0a.1,p0a.2.1,p0a.2.2)).bind fun r2=>some (r2.1,r2.2.1,r2.2.2)) else (some (0,[],[]))
def kc (p0code:List Int) (s1:Int×Int):Option (Out (Int×Int) (Int×Int)):=
 if decide (s1.2<(p0code.length:Int)) then (if decide (s1.2<4000) then ((a8 p0code s1.2).bind fun x2=>some (.nxt (pN (IntKind.i64.wrap ((IntKind.i64.wrap ((IntKind.i64.wrap (s1.1*131))+(IntKind.i64.wrap x2)))+7)) 1073741823,IntKind.i64.wrap (s1.2+1)))) else (some (.brk (s1.1,s1.2)))) else (some (.brk (s1.1,s1.2)))
def o7 (p0code:List Int):Option (Int×Int):=
 aW (aG (kc p0code) aV (IntKind.i64.wrap (10101+(p0code.length:Int)),0)) (fun r3=>some r3) (fun s4=>some (0,s4.1))
def gx (p0c:(List Int)×Int×Int):Option (Int×Int×Int):=
 Option.bind ((if decide (p0c.2.1<(p0c.1.length:Int)) then ((a8 p0c.1 p0c.2.1).bind fun x1=>some (pN (IntKind.i64.wrap ((pN (Pi (ma (IntKind.i64.wrap ((IntKind.i64.wrap (p0c.2.2*6364136223846793005))+1442695040888963407)) 33) (ma (IntKind.i64.wrap ((IntKind.i64.wrap (p0c.2.2*6364136223846793005))+1442695040888963407)) 45)) 255)+(IntKind.i64.wrap x1))) 255,IntKind.i64.wrap (p0c.2.1+1),IntKind.i64.wrap ((IntKind.i64.wrap (p0c.2.2*6364136223846793005))+1442695040888963407))) else (some (pN (Pi (ma (IntKind.i64.wrap ((IntKind.i64.wrap (p0c.2.2*6364136223846793005))+1442695040888963407)) 33) (ma (IntKind.i64.wrap ((IntKind.i64.wrap (p0c.2.2*6364136223846793005))+1442695040888963407)) 45)) 255,p0c.2.1,IntKind.i64.wrap ((IntKind.i64.wrap (p0c.2.2*6364136223846793005))+1442695040888963407))):Option (Int×Int×Int))) (fun s2=>some (s2.1,s2.2.1,s2.2.2))
def bJ (p0c:(List Int)×Int×Int) (p1n:Int):Option (Int×Int×Int):=
 if decide (p1n<=0) then (some (0,p0c.2.1,p0c.2.2)) else (if decide (p1n<=256) then ((gx (p0c.1,p0c.2.1,p0c.2.2)).bind fun r0=>(chk (p1n≠0)).bind fun _=>some (Int.tmod r0.1 p1n,r0.2.1,r0.2.2)) else ((gx (p0c.1,p0c.2.1,p0c.2.2)).bind fun r2=>(gx (p0c.1,r2.2.1,r2.2.2)).bind fun r3=>(gx (p0c.1,r3.2.1,r3.2.2)).bind fun r4=>(gx (p0c.1,r4.2.1,r4.2.2)).bind fun r5=>(chk (p1n≠0)).bind fun _=>some (Int.tmod (IntKind.i64.wrap ((IntKind.i64.wrap ((IntKind.i64.wrap ((IntKind.i64.wrap (r2.1*16777216))+(IntKind.i64.wrap (r3.1*65536))))+(IntKind.i64.wrap (r4.1*256))))+r5.1)) p1n,r5.2.1,r5.2.2)))
def dG (p0c:(List Int)×Int×Int) (p1list:List Int):Option (Int×Int×Int):=
 (bJ (p0c.1,p0c.2.1,p0c.2.2) (p1list.length:Int)).bind fun r0=>(a8 p1list r0.1).bind fun x1=>some (x1,r0.2.1,r0.2.2)
def eT (p0p:(List Int)×Int×Int×(List Int)×Bool) (p1set:Int) (s6:Int×Int):Option (Out Int (Int×Int)):=
 if decide (s6.2<(p0p.1.length:Int)) then (Option.bind (((chk (0<=IntKind.i64.wrap (s6.2+1))).bind fun _=>if (pN (ma p1set (IntKind.i64.wrap (s6.2+1))) 1)==1 then ((a8 p0p.2.2.2.1 s6.2).bind fun x6=>some (orI s6.1 x6)) else (some s6.1):Option Int)) (fun s8=>some (.nxt (s8,IntKind.i64.wrap (s6.2+1))))) else (some (.brk (s6.1,s6.2)))
def eU (p0p:(List Int)×Int×Int×(List Int)×Bool) (p2letter:Int) (s7:Int×Int) (s13:Int×Int):Option (Out Int (Int×Int)):=
 if decide (s13.2<(p0p.1.length:Int)) then (Option.bind (((chk (0<=s13.2)).bind fun _=>if (pN (ma s7.1 s13.2) 1)==1 then ((a8 p0p.1 s13.2).bind fun x12=>if x12==p2letter then ((chk (0<=IntKind.i64.wrap (s13.2+1))).bind fun _=>some (orI s13.1 (xe 1 (IntKind.i64.wrap (s13.2+1))))) else (some s13.1)) else (some s13.1):Option Int)) (fun s15=>some (.nxt (s15,IntKind.i64.wrap (s13.2+1))))) else (some (.brk (s13.1,s13.2)))
def kd (p0p:(List Int)×Int×Int×(List Int)×Bool) (p1set:Int) (p2letter:Int):Option Int:=
 Option.bind ((if (pN p1set 1)==1 then (some p0p.2.1) else (some 0):Option Int)) (fun s1=>aW (aG (eT p0p p1set) aV (s1,0)) (fun r=>some r) (fun s7=>aW (aG (eU p0p p2letter s7) aV (0,0)) (fun r=>some r) (fun s14=>some s14.1)))
def iD (p0p:(List Int)×Int×Int×(List Int)×Bool) (p1set:Int):Option Bool:=
 if (pN p1set 1)==1 then (if p0p.2.2.2.2 then (some true) else (some ((pN (ma p1set 1) p0p.2.2.1) !=0))) else (some ((pN (ma p1set 1) p0p.2.2.1) !=0))
def dw (p0:(List Int)×Int×Int×(List Int)×Bool) (s17:(List Int)×Int×Int×(List Bool)×(List (List Int))) (s23:(List Int)×(List Int)×Int):Option (Out (Yq2×Bool) ((List Int)×(List Int)×Int)):=
 if decide (s23.2.2<9) then ((a8 s23.1 s17.2.1).bind fun x11=>(kd (p0.1,p0.2.1,p0.2.2.1,p0.2.2.2.1,p0.2.2.2.2) x11 s23.2.2).bind fun r27=>Option.bind ((if r27 !=0 then ((jH s23.1 r27).bind fun r29=>if decide (r29<0) then ((dE 8 s23.1 ([r27])).bind fun z30=>some (z30,(s23.1.length:Int))) else (some (s23.1,r29))) else (some (s23.1,-1)):Option ((List Int)×Int))) (fun s25=>(dE 8 s23.2.1 ([s25.2])).bind fun z31=>some (.nxt (s25.1,z31,IntKind.i64.wrap (s23.2.2+1))))) else (some (.brk (s23.1,s23.2.1,s23.2.2)))
def dx (p0:(List Int)×Int×Int×(List Int)×Bool) (p1:Int) (s17:(List Int)×Int×Int×(List Bool)×(List (List Int))):Option (Out (Yq2×Bool) ((List Int)×Int×Int×(List Bool)×(List (List Int)))):=
 if decide (s17.2.1<(s17.1.length:Int)) then (aW (aG (dw p0 s17) aV (s17.1,([] :List Int),0)) (fun r=>some (.ret r)) (fun s24=>if decide ((s24.1.length:Int)>p1) then (some (.ret ((0,[],[]),false))) else ((a8 s24.1 s17.2.1).bind fun x12=>(iD (p0.1,p0.2.1,p0.2.2.1,p0.2.2.2.1,p0.2.2.2.2) x12).bind fun r30=>(dE 1 s17.2.2.2.1 ([r30])).bind fun z32=>(dE 24 s17.2.2.2.2 ([s24.2.1])).bind fun z33=>some (.nxt (s24.1,IntKind.i64.wrap (s17.2.1+1),s17.2.2.1,z32,z33))))) else (some (.brk (s17.1,s17.2.1,s17.2.2.1,s17.2.2.2.1,s17.2.2.2.2)))
def de (p0:(List Int)×Int×Int×(List Int)×Bool) (p1:Int):Option (Yq2×Bool):=
 aW (aG (dx p0 p1) aV ([1],0,0,[],[])) (fun r=>some r) (fun s18=>some ((s18.2.2.1,s18.2.2.2.1,s18.2.2.2.2),true))
def iJ (p0n:Int):Option Bool:=
 (jf p0n 0 8).bind fun r1=>some r1
def jI (p0:Int×Int×Int×Int):Option Int:=
 Option.bind ((if p0.1==1 then (some (p0.1==1)) else (some (p0.1==2)):Option Bool)) (fun s1=>if s1 then (if p0.2.1 !=0 then (some (-1)) else (if p0.2.2.1 !=0 then (some (-1)) else (if p0.2.2.2 !=0 then (some (-1)) else (some 0)))) else (if p0.1==3 then ((iJ p0.2.1).bind fun r3=>if r3 then (if p0.2.2.1 !=0 then (some (-1)) else (if p0.2.2.2 !=0 then (some (-1)) else (some 0))) else (some (-1))) else (Option.bind ((if p0.1==4 then (some (p0.1==4)) else (some (p0.1==5)):Option Bool)) (fun s2=>if s2 then (if p0.2.1 !=0 then (some (-1)) else (if p0.2.2.1 !=0 then (some (-1)) else (if p0.2.2.2 !=0 then (some (-1)) else (some 2)))) else (if p0.1==6 then (if p0.2.1 !=0 then (some (-1)) else (if p0.2.2.1 !=0 then (some (-1)) else (if p0.2.2.2 !=0 then (some (-1)) else (some 1)))) else (if p0.1==7 then (if p0.2.1 !=0 then (some (-1)) else ((jf p0.2.2.2 1 3).bind fun r1=>if r1 then ((jf p0.2.2.1 0 p0.2.2.2).bind fun r2=>if r2 then (some 1) else (some (-1))) else (some (-1)))) else (some (-1))))))))
def lz (p0e:(List Yq1)) (s3:Int×Int):Option (Out Bool (Int×Int)):=
 if decide (s3.2<(p0e.length:Int)) then ((a8 p0e s3.2).bind fun x3=>(jI (x3.1,x3.2.1,x3.2.2.1,x3.2.2.2)).bind fun r3=>if decide (r3<0) then (some (.ret false)) else (if decide (r3>s3.1) then (some (.ret false)) else (some (.nxt (IntKind.i64.wrap ((IntKind.i64.wrap (s3.1 - r3))+1),IntKind.i64.wrap (s3.2+1)))))) else (some (.brk (s3.1,s3.2)))
def nk (p0e:(List Yq1)):Option Bool:=
 aW (aG (lz p0e) aV (0,0)) (fun r=>some r) (fun s4=>some (s4.1==1))
def eV (p0e:(List Yq1)):Option Bool:=
 if decide ((p0e.length:Int)<=24) then ((nk p0e).bind fun r1=>some r1) else (some false)
def iE (p0l:List Yq1) (s3:Int×Int):Option (Out Int (Int×Int)):=
 if decide (s3.1>0) then ((a8 p0l (IntKind.i64.wrap (s3.2 - 1))).bind fun x3=>(jI (x3.1,x3.2.1,x3.2.2.1,x3.2.2.2)).bind fun r3=>some (.nxt (IntKind.i64.wrap ((IntKind.i64.wrap (s3.1 - 1))+r3),IntKind.i64.wrap (s3.2 - 1)))) else (some (.brk (s3.1,s3.2)))
def eW (p0l:List Yq1):Option Int:=
 aW (aG (iE p0l) aV (1,(p0l.length:Int))) (fun r=>some r) (fun s4=>some s4.2)
def cJ:Nat->(List Yq1)->Option Int
 | 0,_=>none
 | n+1,p0l =>
  (a8 p0l (IntKind.i64.wrap ((p0l.length:Int) - 1))).bind fun x0=>Option.bind ((if x0.1==4 then (some (x0.1==4)) else (some (x0.1==5)):Option Bool)) (fun s1=>if s1 then ((chk (And (0<=(IntKind.i64.wrap ((p0l.length:Int) - 1))) ((IntKind.i64.wrap ((p0l.length:Int) - 1))<=(p0l.length:Int)))).bind fun _=>(eW (p0l.take ((IntKind.i64.wrap ((p0l.length:Int) - 1)).toNat))).bind fun r3=>(chk (And (0<=r3) (r3<=(p0l.length:Int)))).bind fun _=>((cJ n) (p0l.take r3.toNat)).bind fun r9=>(chk (And (0<=r3) (And (r3<=(IntKind.i64.wrap ((p0l.length:Int) - 1))) ((IntKind.i64.wrap ((p0l.length:Int) - 1))<=(p0l.length:Int))))).bind fun _=>((cJ n) ((p0l.take ((IntKind.i64.wrap ((p0l.length:Int) - 1)).toNat)).drop r3.toNat)).bind fun r11=>some (Min.min 100000 (IntKind.i64.wrap ((IntKind.i64.wrap (r9+r11))+1)))) else (if x0.1==6 then ((chk (And (0<=(IntKind.i64.wrap ((p0l.length:Int) - 1))) ((IntKind.i64.wrap ((p0l.length:Int) - 1))<=(p0l.length:Int)))).bind fun _=>((cJ n) (p0l.take ((IntKind.i64.wrap ((p0l.length:Int) - 1)).toNat))).bind fun r13=>some (Min.min 100000 (IntKind.i64.wrap (r13+1)))) else (if x0.1==7 then ((chk (And (0<=(IntKind.i64.wrap ((p0l.length:Int) - 1))) ((IntKind.i64.wrap ((p0l.length:Int) - 1))<=(p0l.length:Int)))).bind fun _=>((cJ n) (p0l.take ((IntKind.i64.wrap ((p0l.length:Int) - 1)).toNat))).bind fun r17=>some (Min.min 100000 (IntKind.i64.wrap ((IntKind.i64.wrap ((IntKind.i64.wrap (r17+3))*x0.2.2.2))+1)))) else (some 1))))
def qe (p0l:List Yq1):Option (List Yq1):=
 (dE 32 ([] :List Yq1) p0l).bind fun z1=>some z1
def cG (p0a:(List Yq1)) (p1b:(List Yq1)) (p2t:Int×Int×Int×Int):Option (List Yq1):=
 (qe p0a).bind fun r1=>(dE 32 r1 p1b).bind fun z1=>(dE 32 z1 ([(p2t.1,p2t.2.1,p2t.2.2.1,p2t.2.2.2)])).bind fun z2=>some z2
def jt (p0kind:Int):Option (List Yq1):=
 some ([(p0kind,0,0,0)])
def gy:Nat->(List Yq1)->Int->Int->Option (List Yq1)
 | 0,_,_,_=>none
 | n+1,p0e,p1low,p2high =>
  if p2high==0 then ((jt 2).bind fun r0=>some r0) else (((gy n) p0e (Max.max 0 (IntKind.i64.wrap (p1low - 1))) (IntKind.i64.wrap (p2high - 1))).bind fun r3=>(cG p0e r3 (4,0,0,0)).bind fun r4=>if decide (p1low>0) then (some r4) else ((jt 2).bind fun r7=>(cG r4 r7 (5,0,0,0)).bind fun r8=>some r8))
def bR:Nat->(List Yq1)->Option (List Yq1)
 | 0,_=>none
 | n+1,p0l =>
  (a8 p0l (IntKind.i64.wrap ((p0l.length:Int) - 1))).bind fun x0=>Option.bind ((if x0.1==4 then (some (x0.1==4)) else (some (x0.1==5)):Option Bool)) (fun s1=>if s1 then ((chk (And (0<=(IntKind.i64.wrap ((p0l.length:Int) - 1))) ((IntKind.i64.wrap ((p0l.length:Int) - 1))<=(p0l.length:Int)))).bind fun _=>(eW (p0l.take ((IntKind.i64.wrap ((p0l.length:Int) - 1)).toNat))).bind fun r3=>(chk (And (0<=r3) (r3<=(p0l.length:Int)))).bind fun _=>((bR n) (p0l.take r3.toNat)).bind fun r10=>(chk (And (0<=r3) (And (r3<=(IntKind.i64.wrap ((p0l.length:Int) - 1))) ((IntKind.i64.wrap ((p0l.length:Int) - 1))<=(p0l.length:Int))))).bind fun _=>((bR n) ((p0l.take ((IntKind.i64.wrap ((p0l.length:Int) - 1)).toNat)).drop r3.toNat)).bind fun r12=>(cG r10 r12 (x0.1,x0.2.1,x0.2.2.1,x0.2.2.2)).bind fun r13=>some r13) else (if x0.1==6 then ((chk (And (0<=(IntKind.i64.wrap ((p0l.length:Int) - 1))) ((IntKind.i64.wrap ((p0l.length:Int) - 1))<=(p0l.length:Int)))).bind fun _=>((bR n) (p0l.take ((IntKind.i64.wrap ((p0l.length:Int) - 1)).toNat))).bind fun r18=>(cG r18 ([] :List Yq1) (x0.1,x0.2.1,x0.2.2.1,x0.2.2.2)).bind fun r19=>some r19) else (if x0.1==7 then ((chk (And (0<=(IntKind.i64.wrap ((p0l.length:Int) - 1))) ((IntKind.i64.wrap ((p0l.length:Int) - 1))<=(p0l.length:Int)))).bind fun _=>((bR n) (p0l.take ((IntKind.i64.wrap ((p0l.length:Int) - 1)).toNat))).bind fun r24=>(gy jX r24 x0.2.2.1 x0.2.2.2).bind fun r25=>some r25) else (some ([(x0.1,x0.2.1,x0.2.2.1,x0.2.2.2)])))))
def iF (p0e:(List Yq1)):Option (((List Yq1))×Bool):=
 (eV p0e).bind fun r1=>if r1 then ((cJ jX p0e).bind fun r2=>if decide (r2>5000) then (some ([],false)) else ((bR jX p0e).bind fun r3=>if decide ((r3.length:Int)>400) then (some ([],false)) else (some (r3,true)))) else (some ([],false))
def fO (p1from:Int) (p2to:Int) (s2:Int×List Int):Option (Out Yq8 (Int×List Int)):=
 if decide (s2.1<(s2.2.length:Int)) then (Option.bind (((chk (0<=s2.1)).bind fun _=>if (pN (ma p1from s2.1) 1)==1 then ((a8 s2.2 s2.1).bind fun x6=>(a8 s2.2 s2.1).bind fun x7=>some (s2.2.set s2.1.toNat (orI x6 p2to))) else (some s2.2):Option (List Int))) (fun s8=>some (.nxt (IntKind.i64.wrap (s2.1+1),s8)))) else (some (.brk (s2.1,s2.2)))
def jJ (p0p:(List Int)×Int×Int×(List Int)×Bool) (p1from:Int) (p2to:Int):Option Yq8:=
 aW (aG (fO p1from p2to) aV (0,p0p.2.2.2.1)) (fun r9=>some r9) (fun s10=>some (p0p.1,p0p.2.1,p0p.2.2.1,s10.2,p0p.2.2.2.2))
def cg:Nat->Yq8->(List Yq1)->Option ((Bool×Int×Int)×(List Int)×Int×Int×(List Int)×Bool)
 | 0,_,_=>none
 | n+1,p0,p1 =>
  (a8 p1 (IntKind.i64.wrap ((p1.length:Int) - 1))).bind fun x0=>if x0.1==2 then (some ((true,0,0),p0.1,p0.2.1,p0.2.2.1,p0.2.2.2.1,p0.2.2.2.2)) else (if x0.1==3 then ((dE 8 p0.1 ([x0.2.1])).bind fun z2=>(dE 8 p0.2.2.2.1 ([0])).bind fun z3=>some ((false,xe 1 (p0.1.length:Int),xe 1 (p0.1.length:Int)),z2,p0.2.1,p0.2.2.1,z3,p0.2.2.2.2)) else (if x0.1==4 then ((chk (And (0<=(IntKind.i64.wrap ((p1.length:Int) - 1))) ((IntKind.i64.wrap ((p1.length:Int) - 1))<=(p1.length:Int)))).bind fun _=>(eW (p1.take ((IntKind.i64.wrap ((p1.length:Int) - 1)).toNat))).bind fun r5=>(chk (And (0<=r5) (r5<=(p1.length:Int)))).bind fun _=>((cg n) (p0.1,p0.2.1,p0.2.2.1,p0.2.2.2.1,p0.2.2.2.2) (p1.take r5.toNat)).bind fun r7=>(chk (And (0<=r5) (And (r5<=(IntKind.i64.wrap ((p1.length:Int) - 1))) ((IntKind.i64.wrap ((p1.length:Int) - 1))<=(p1.length:Int))))).bind fun _=>((cg n) (r7.2.1,r7.2.2.1,r7.2.2.2.1,r7.2.2.2.2.1,r7.2.2.2.2.2) ((p1.take ((IntKind.i64.wrap ((p1.length:Int) - 1)).toNat)).drop r5.toNat)).bind fun r9=>(jJ (r9.2.1,r9.2.2.1,r9.2.2.2.1,r9.2.2.2.2.1,r9.2.2.2.2.2) r7.1.2.2 r9.1.2.1).bind fun r10=>if r7.1.1 then (Option.bind ((if r7.1.1 then (some (r9.1.1,orI r7.1.2.1 r9.1.2.1,r9.1.2.2)) else (some (r9.1.1,r7.1.2.1,r9.1.2.2)):Option (Bool×Int×Int))) (fun s11=>Option.bind ((if r9.1.1 then (some (s11.1,s11.2.1,orI r7.1.2.2 r9.1.2.2)) else (some (s11.1,s11.2.1,s11.2.2)):Option (Bool×Int×Int))) (fun s12=>some ((s12.1,s12.2.1,s12.2.2),r10.1,r10.2.1,r10.2.2.1,r10.2.2.2.1,r10.2.2.2.2)))) else (Option.bind ((if r7.1.1 then (some (false,orI r7.1.2.1 r9.1.2.1,r9.1.2.2)) else (some (false,r7.1.2.1,r9.1.2.2)):Option (Bool×Int×Int))) (fun s13=>Option.bind ((if r9.1.1 then (some (s13.1,s13.2.1,orI r7.1.2.2 r9.1.2.2)) else (some (s13.1,s13.2.1,s13.2.2)):Option (Bool×Int×Int))) (fun s14=>some ((s14.1,s14.2.1,s14.2.2),r10.1,r10.2.1,r10.2.2.1,r10.2.2.2.1,r10.2.2.2.2))))) else (if x0.1==5 then ((chk (And (0<=(IntKind.i64.wrap ((p1.length:Int) - 1))) ((IntKind.i64.wrap ((p1.length:Int) - 1))<=(p1.length:Int)))).bind fun _=>(eW (p1.take ((IntKind.i64.wrap ((p1.length:Int) - 1)).toNat))).bind fun r16=>(chk (And (0<=r16) (r16<=(p1.length:Int)))).bind fun _=>((cg n) (p0.1,p0.2.1,p0.2.2.1,p0.2.2.2.1,p0.2.2.2.2) (p1.take r16.toNat)).bind fun r18=>(chk (And (0<=r16) (And (r16<=(IntKind.i64.wrap ((p1.length:Int) - 1))) ((IntKind.i64.wrap ((p1.length:Int) - 1))<=(p1.length:Int))))).bind fun _=>((cg n) (r18.2.1,r18.2.2.1,r18.2.2.2.1,r18.2.2.2.2.1,r18.2.2.2.2.2) ((p1.take ((IntKind.i64.wrap ((p1.length:Int) - 1)).toNat)).drop r16.toNat)).bind fun r20=>if r18.1.1 then (some ((true,orI r18.1.2.1 r20.1.2.1,orI r18.1.2.2 r20.1.2.2),r20.2.1,r20.2.2.1,r20.2.2.2.1,r20.2.2.2.2.1,r20.2.2.2.2.2)) else (some ((r20.1.1,orI r18.1.2.1 r20.1.2.1,orI r18.1.2.2 r20.1.2.2),r20.2.1,r20.2.2.1,r20.2.2.2.1,r20.2.2.2.2.1,r20.2.2.2.2.2))) else (if x0.1==6 then ((chk (And (0<=(IntKind.i64.wrap ((p1.length:Int) - 1))) ((IntKind.i64.wrap ((p1.length:Int) - 1))<=(p1.length:Int)))).bind fun _=>((cg n) (p0.1,p0.2.1,p0.2.2.1,p0.2.2.2.1,p0.2.2.2.2) (p1.take ((IntKind.i64.wrap ((p1.length:Int) - 1)).toNat))).bind fun r22=>(jJ (r22.2.1,r22.2.2.1,r22.2.2.2.1,r22.2.2.2.2.1,r22.2.2.2.2.2) r22.1.2.2 r22.1.2.1).bind fun r23=>some ((true,r22.1.2.1,r22.1.2.2),r23.1,r23.2.1,r23.2.2.1,r23.2.2.2.1,r23.2.2.2.2)) else (some ((false,0,0),p0.1,p0.2.1,p0.2.2.1,p0.2.2.2.1,p0.2.2.2.2))))))
def cj (r0:(List Yq1)×Bool) (s2:Int×Int):Option (Out (Yq8×Bool) (Int×Int)):=
 if decide (s2.2<(r0.1.length:Int)) then (Option.bind (((a8 r0.1 s2.2).bind fun x3=>if x3.1==3 then (some (IntKind.i64.wrap (s2.1+1))) else (some s2.1):Option Int)) (fun s4=>some (.nxt (s4,IntKind.i64.wrap (s2.2+1))))) else (some (.brk (s2.1,s2.2)))
def eF (p0e:List Yq1):Option (Yq8×Bool):=
 (iF p0e).bind fun r0=>if r0.2 then (aW (aG (cj r0) aV (0,0)) (fun r5=>some r5) (fun s6=>if decide (s6.1>20) then (some ((([] :List Int),0,0,([] :List Int),false),false)) else ((cg jX (([] :List Int),0,0,([] :List Int),false) r0.1).bind fun r7=>some ((r7.2.1,r7.1.2.1,r7.1.2.2,r7.2.2.2.2.1,r7.1.1),true)))) else (some ((([] :List Int),0,0,([] :List Int),false),false))
def gz (p0c:(List Int)×Int×Int) (p1n:Int):Option (Bool×Int×Int):=
 (bJ (p0c.1,p0c.2.1,p0c.2.2) p1n).bind fun r0=>some (r0.1==0,r0.2.1,r0.2.2)
def yD (p0s:ByteArray) (p1sep:Int) (s1:(List ByteArray)×Int×Int):Option (Out (List ByteArray) ((List ByteArray)×Int×Int)):=
 if decide (s1.2.2<((p0s.size:Nat):Int)) then (Option.bind (((zY p0s s1.2.2).bind fun z2=>if z2==p1sep then ((Mj p0s s1.2.1 s1.2.2).bind fun z3=>(dE 16 s1.1 ([z3])).bind fun z4=>some (z4,IntKind.i64.wrap (s1.2.2+1))) else (some (s1.1,s1.2.1)):Option ((List ByteArray)×Int))) (fun s5=>some (.nxt (s5.1,s5.2,IntKind.i64.wrap (s1.2.2+1))))) else (some (.brk (s1.1,s1.2.1,s1.2.2)))
def yE (p0s:ByteArray) (p1sep:Int):Option (List ByteArray):=
 aW (aG (yD p0s p1sep) aV (([] :List ByteArray),0,0)) (fun r6=>some r6) (fun s7=>(Mj p0s s7.2.1 ((p0s.size:Nat):Int)).bind fun z8=>(dE 16 s7.1 ([z8])).bind fun z9=>some z9)
def iS (p0n:Int):Option ByteArray:=
 (iJ p0n).bind fun r1=>if r1 then ((a8 ([(⟨#[97]⟩:ByteArray),(⟨#[97,45]⟩:ByteArray),(⟨#[98]⟩:ByteArray),(⟨#[98,45]⟩:ByteArray),(⟨#[99]⟩:ByteArray),(⟨#[99,45]⟩:ByteArray),(⟨#[48]⟩:ByteArray),(⟨#[49]⟩:ByteArray),(⟨#[50]⟩:ByteArray)]) p0n).bind fun x1=>some x1) else (some (⟨#[]⟩:ByteArray))
def qY (s1:Int×ByteArray):Option (Out ByteArray (Int×ByteArray)):=
 if s1.1 !=0 then (Option.bind ((if decide ((Int.tmod s1.1 10)<0) then (some (IntKind.i64.wrap (-(Int.tmod s1.1 10)))) else (some (Int.tmod s1.1 10)):Option Int)) (fun s2=>(Mi (sv ([IntKind.u8.wrap (IntKind.i64.wrap (48+s2))])) s1.2).bind fun z3=>some (.nxt (Ph s1.1 10,z3)))) else (some (.brk (s1.1,s1.2)))
def lA (p0n:Int):Option ByteArray:=
 if p0n==0 then (some (⟨#[48]⟩)) else (aW (aG (qY) aV (p0n,(⟨#[]⟩:ByteArray))) (fun r4=>some r4) (fun s5=>if decide (p0n<0) then ((Mi (⟨#[45]⟩) s5.2).bind fun z6=>some z6) else (some s5.2)))
def sM (p0t:Int×Int×Int×Int):Option ByteArray:=
 if p0t.1==1 then (some (⟨#[33]⟩)) else (if p0t.1==2 then (some (⟨#[40,41]⟩)) else (if p0t.1==3 then ((iS p0t.2.1).bind fun r0=>some r0) else (if p0t.1==4 then (some (⟨#[46]⟩)) else (if p0t.1==5 then (some (⟨#[124]⟩)) else (if p0t.1==6 then (some (⟨#[42]⟩)) else ((lA p0t.2.2.1).bind fun r7=>(Mi (⟨#[123]⟩) r7).bind fun z8=>(Mi z8 (⟨#[44]⟩)).bind fun z9=>(lA p0t.2.2.2).bind fun r10=>(Mi z9 r10).bind fun z11=>(Mi z11 (⟨#[125]⟩)).bind fun z12=>some z12))))))
def o8 (p0s:ByteArray) (s3:Int):Option (Out (Int×Bool) Int):=
 if decide (s3<9) then ((iS s3).bind fun r3=>if r3==p0s then (some (.ret (s3,true))) else (some (.nxt (IntKind.i64.wrap (s3+1))))) else (some (.brk s3))
def mB (p0s:ByteArray):Option (Int×Bool):=
 aW (aG (o8 p0s) aV 0) (fun r=>some r) (fun s4=>some (0,false))
def wv (p0s:ByteArray) (s1:Int):Option (Out Yq1 Int):=
 if decide (s1<=6) then (if s1 !=3 then ((sM (s1,0,0,0)).bind fun r2=>if r2==p0s then (some (.ret (s1,0,0,0))) else (some (.nxt (IntKind.i64.wrap (s1+1))))) else (some (.nxt (IntKind.i64.wrap (s1+1))))) else (some (.brk s1))
def uJ (p0s:ByteArray):Option Yq1:=
 aW (aG (wv p0s) aV 1) (fun r3=>some r3) (fun s4=>(mB p0s).bind fun r5=>if r5.2 then (some (3,r5.1,0,0)) else (if ((p0s.size:Nat):Int)==5 then ((zY p0s 0).bind fun z6=>if z6==123 then ((zY p0s 2).bind fun z7=>if z7==44 then ((zY p0s 4).bind fun z8=>if z8==125 then ((zY p0s 1).bind fun z11=>(zY p0s 3).bind fun z12=>some (7,0,IntKind.i64.wrap ((IntKind.i64.wrap z11) - 48),IntKind.i64.wrap ((IntKind.i64.wrap z12) - 48))) else (some (0,0,0,0))) else (some (0,0,0,0))) else (some (0,0,0,0))) else (some (0,0,0,0))))
def qZ (r1:List ByteArray) (s3:Int×(List Yq1)):Option (Out (((List Yq1))×Bool) (Int×(List Yq1))):=
 if decide (s3.1<(r1.length:Int)) then (if decide (s3.1<=24) then ((a8 r1 s3.1).bind fun x3=>(uJ x3).bind fun r4=>(dE 32 s3.2 ([(r4.1,r4.2.1,r4.2.2.1,r4.2.2.2)])).bind fun z3=>some (.nxt (IntKind.i64.wrap (s3.1+1),z3))) else (some (.brk (s3.1,s3.2)))) else (some (.brk (s3.1,s3.2)))
def fw (p0s:ByteArray):Option (((List Yq1))×Bool):=
 (yE p0s 32).bind fun r1=>aW (aG (qZ r1) aV (0,[])) (fun r=>some r) (fun s4=>(eV s4.2).bind fun r5=>if r5 then (some (s4.2,true)) else (some ([],false)))
def nl (p0c:(List Int)×Int×Int) (p1list:List ByteArray):Option (ByteArray×Int×Int):=
 (bJ (p0c.1,p0c.2.1,p0c.2.2) (p1list.length:Int)).bind fun r0=>(a8 p1list r0.1).bind fun x1=>some (x1,r0.2.1,r0.2.2)
def lB (p0c:(List Int)×Int×Int):Option ((List Yq1)×Int×Int):=
 (nl (p0c.1,p0c.2.1,p0c.2.2) ([⟨#[97]⟩,⟨#[97,32,98,32,46]⟩,⟨#[97,32,42]⟩,⟨#[97,32,98,32,124,32,42]⟩,⟨#[97,32,97,45,32,46]⟩,⟨#[97,32,42,32,98,32,46]⟩,⟨#[97,32,98,32,42,32,46,32,99,32,46]⟩,⟨#[97,32,97,32,124,32,42]⟩,⟨#[97,32,98,32,46,32,42]⟩,⟨#[48,32,97,32,46,32,42]⟩,⟨#[97,32,49,32,46,32,98,32,46]⟩,⟨#[97,32,123,48,44,50,125]⟩,⟨#[97,32,98,32,124,32,123,49,44,51,125]⟩,⟨#[40,41]⟩,⟨#[33]⟩,⟨#[97,45,32,42,32,97,32,46]⟩,⟨#[97,32,98,45,32,46,32,42,32,99,32,124]⟩,⟨#[97,32,42,32,97,32,42,32,46]⟩,⟨#[97,32,48,32,124,32,42,32,98,32,46]⟩,⟨#[97,32,97,32,46,32,42]⟩,⟨#[97,32,98,32,46,32,98,32,97,32,46,32,124,32,42]⟩])).bind fun r0=>(fw r0.1).bind fun r1=>some (r1.1,r0.2.1,r0.2.2)
def nH (p0letter:Int):Option (List Yq1):=
 some ([(3,p0letter,0,0)])
def cv:Nat->((List Int)×Int×Int)->Int->Option ((List Yq1)×Int×Int)
 | 0,_,_=>none
 | n+1,p0,p1 =>
  if p1==0 then ((gz (p0.1,p0.2.1,p0.2.2) 12).bind fun r0=>if r0.1 then ((dG (p0.1,r0.2.1,r0.2.2) ([1,2])).bind fun r1=>(jt r1.1).bind fun r2=>some (r2,r1.2.1,r1.2.2)) else ((dG (p0.1,r0.2.1,r0.2.2) ([0,0,2,2,1,4,3,6,7])).bind fun r3=>(nH r3.1).bind fun r4=>some (r4,r3.2.1,r3.2.2))) else ((bJ (p0.1,p0.2.1,p0.2.2) 6).bind fun r5=>Option.bind ((if r5.1==0 then (some (r5.1==0)) else (some (r5.1==1)):Option Bool)) (fun s6=>if s6 then (((cv n) (p0.1,r5.2.1,r5.2.2) (IntKind.i64.wrap (p1 - 1))).bind fun r7=>((cv n) (p0.1,r7.2.1,r7.2.2) (IntKind.i64.wrap (p1 - 1))).bind fun r8=>(cG r7.1 r8.1 (4,0,0,0)).bind fun r9=>some (r9,r8.2.1,r8.2.2)) else (Option.bind ((if r5.1==2 then (some (r5.1==2)) else (some (r5.1==3)):Option Bool)) (fun s10=>if s10 then (((cv n) (p0.1,r5.2.1,r5.2.2) (IntKind.i64.wrap (p1 - 1))).bind fun r11=>((cv n) (p0.1,r11.2.1,r11.2.2) (IntKind.i64.wrap (p1 - 1))).bind fun r12=>(cG r11.1 r12.1 (5,0,0,0)).bind fun r13=>some (r13,r12.2.1,r12.2.2)) else (if r5.1==4 then (((cv n) (p0.1,r5.2.1,r5.2.2) (IntKind.i64.wrap (p1 - 1))).bind fun r14=>(cG r14.1 ([] :List Yq1) (6,0,0,0)).bind fun r15=>some (r15,r14.2.1,r14.2.2)) else ((bJ (p0.1,r5.2.1,r5.2.2) 3).bind fun r16=>((cv n) (p0.1,r16.2.1,r16.2.2) (IntKind.i64.wrap (p1 - 1))).bind fun r17=>(bJ (p0.1,r17.2.1,r17.2.2) (IntKind.i64.wrap ((IntKind.i64.wrap (1+r16.1))+1))).bind fun r18=>(cG r17.1 ([] :List Yq1) (7,0,r18.1,IntKind.i64.wrap (1+r16.1))).bind fun r19=>some (r19,r18.2.1,r18.2.2)))))))
def nm (p0c:(List Int)×Int×Int):Option ((List Yq1)×Int×Int):=
 (gz (p0c.1,p0c.2.1,p0c.2.2) 2).bind fun r0=>if r0.1 then ((lB (p0c.1,r0.2.1,r0.2.2)).bind fun r1=>some (r1.1,r1.2.1,r1.2.2)) else ((bJ (p0c.1,r0.2.1,r0.2.2) 3).bind fun r2=>(cv jX (p0c.1,r2.2.1,r2.2.2) (IntKind.i64.wrap (1+r2.1))).bind fun r3=>some (r3.1,r3.2.1,r3.2.2))
def dQ (p0c:(List Int)×Int×Int) (r0:Int×Int×Int) (s6:(List Int)×Int×Int×Int):Option (Out Yq7 ((List Int)×Int×Int×Int)):=
 if decide (s6.2.1<9) then ((gz (p0c.1,s6.2.2.1,s6.2.2.2) 3).bind fun r7=>Option.bind ((if r7.1 then (some ((-1),r7.2.1,r7.2.2)) else ((bJ (p0c.1,r7.2.1,r7.2.2) (IntKind.i64.wrap (1+r0.1))).bind fun r8=>some (r8.1,r8.2.1,r8.2.2)):Option (Int×Int×Int))) (fun s9=>Option.bind ((if decide (s6.2.1>3) then (some (-1)) else (some s9.1):Option Int)) (fun s10=>(dE 8 s6.1 ([s10])).bind fun z11=>some (.nxt (z11,IntKind.i64.wrap (s6.2.1+1),s9.2.1,s9.2.2))))) else (some (.brk (s6.1,s6.2.1,s6.2.2.1,s6.2.2.2)))
def fU (p0c:(List Int)×Int×Int) (r0:Int×Int×Int) (s4:Int×Int×(List Bool)×(List (List Int))×Int×Int):Option (Out Yq7 (Int×Int×(List Bool)×(List (List Int))×Int×Int)):=
 if decide (s4.1<(IntKind.i64.wrap (1+r0.1))) then (aW (aG (dQ p0c r0) aV (([] :List Int),0,s4.2.2.2.2.1,s4.2.2.2.2.2)) (fun r12=>some (.ret r12)) (fun s13=>(gz (p0c.1,s13.2.2.1,s13.2.2.2) 3).bind fun r16=>(dE 1 s4.2.2.1 ([r16.1])).bind fun z17=>(dE 24 s4.2.2.2.1 ([s13.1])).bind fun z18=>some (.nxt (IntKind.i64.wrap (s4.1+1),s4.2.1,z17,z18,r16.2.1,r16.2.2)))) else (some (.brk (s4.1,s4.2.1,s4.2.2.1,s4.2.2.2.1,s4.2.2.2.2.1,s4.2.2.2.2.2)))
def gT (p0c:(List Int)×Int×Int):Option Yq7:=
 (bJ (p0c.1,p0c.2.1,p0c.2.2) 4).bind fun r0=>(bJ (p0c.1,r0.2.1,r0.2.2) (IntKind.i64.wrap (1+r0.1))).bind fun r1=>aW (aG (fU p0c r0) aV (0,r1.1,([] :List Bool),([] :List (List Int)),r1.2.1,r1.2.2)) (fun r19=>some r19) (fun s20=>some ((s20.2.1,s20.2.2.1,s20.2.2.2.1),s20.2.2.2.2.1,s20.2.2.2.2.2))
def np (p0c:(List Int)×Int×Int):Option Yq7:=
 (gz (p0c.1,p0c.2.1,p0c.2.2) 3).bind fun r0=>if r0.1 then ((gT (p0c.1,r0.2.1,r0.2.2)).bind fun r1=>some ((r1.1.1,r1.1.2.1,r1.1.2.2),r1.2.1,r1.2.2)) else ((nm (p0c.1,r0.2.1,r0.2.2)).bind fun r2=>(eF r2.1).bind fun r3=>(de (r3.1.1,r3.1.2.1,r3.1.2.2.1,r3.1.2.2.2.1,r3.1.2.2.2.2) 12).bind fun r4=>if r4.2 then (some ((r4.1.1,r4.1.2.1,r4.1.2.2),r2.2.1,r2.2.2)) else ((gT (p0c.1,r2.2.1,r2.2.2)).bind fun r5=>some ((r5.1.1,r5.1.2.1,r5.1.2.2),r5.2.1,r5.2.2)))
def nq (p0c:(List Int)×Int×Int):Option Yq7:=
 (np (p0c.1,p0c.2.1,p0c.2.2)).bind fun r0=>(bJ (p0c.1,r0.2.1,r0.2.2) 14).bind fun r1=>Option.bind ((if r1.1==0 then ((dG (p0c.1,r1.2.1,r1.2.2) ([(-1),12,1])).bind fun r2=>some (r2.2.1,r2.2.2,r2.1,r0.1.2.1,r0.1.2.2)) else (if r1.1==1 then ((dE 1 r0.1.2.1 ([true])).bind fun z3=>some (r1.2.1,r1.2.2,r0.1.1,z3,r0.1.2.2)) else (if r1.1==2 then ((a8 r0.1.2.2 0).bind fun x7=>(dG (p0c.1,r1.2.1,r1.2.2) ([(-2),12,0])).bind fun r8=>(a8 x7 0).bind fun x9=>some (r8.2.1,r8.2.2,r0.1.1,r0.1.2.1,r0.1.2.2.set 0 (x7.set 0 r8.1))) else (if r1.1==3 then ((a8 r0.1.2.2 0).bind fun x14=>(chk (And ((0:Int)<=8) (8<=(x14.length:Int)))).bind fun _=>(a8 r0.1.2.2 0).bind fun x16=>(chk (0<((r0.1.2.2.set 0 ([] :List Int)).length:Int))).bind fun _=>some (r1.2.1,r1.2.2,r0.1.1,r0.1.2.1,r0.1.2.2.set 0 (x14.take 8))) else (some (r1.2.1,r1.2.2,r0.1.1,r0.1.2.1,r0.1.2.2))))):Option (Int×Int×Int×(List Bool)×List (List Int)))) (fun s18=>some ((s18.2.2.1,s18.2.2.2.1,s18.2.2.2.2),s18.1,s18.2.1))
def b9 (p0code:List Int):Option (Int×(List Bool)×List (List Int)):=
 (o7 p0code).bind fun r0=>(nq (p0code,r0.1,r0.2)).bind fun r1=>some (r1.1.1,r1.1.2.1,r1.1.2.2)
def fx (p0n:Int) (p1a:Int) (p2b:Int):Option Bool:=
 if decide (p0n≥p1a) then (some (decide (p0n<=p2b))) else (some false)
def bw (p0a:Int×(List Bool)×(List (List Int))) (x9:List Int) (s15:Int):Option (Out Bool Int):=
 if decide (s15<(x9.length:Int)) then ((a8 x9 s15).bind fun x12=>(fx x12 (-1) (IntKind.i64.wrap ((p0a.2.1.length:Int) - 1))).bind fun r14=>if r14 then (some (.nxt (IntKind.i64.wrap (s15+1)))) else (some (.ret false))) else (some (.brk s15))
def cB (p0a:Int×(List Bool)×(List (List Int))) (s11:Int):Option (Out Bool Int):=
 if decide (s11<(p0a.2.2.length:Int)) then ((a8 p0a.2.2 s11).bind fun x9=>aW (aG (bw p0a x9) aV 0) (fun r=>some (.ret r)) (fun s16=>if (x9.length:Int) !=9 then (some (.ret false)) else (some (.nxt (IntKind.i64.wrap (s11+1)))))) else (some (.brk s11))
def bd (p0a:Int×(List Bool)×(List (List Int))):Option Bool:=
 (fx (p0a.2.1.length:Int) 1 12).bind fun r1=>if r1 then ((fx p0a.1 0 (IntKind.i64.wrap ((p0a.2.1.length:Int) - 1))).bind fun r2=>if r2 then (if (p0a.2.2.length:Int) !=(p0a.2.1.length:Int) then (some false) else (aW (aG (cB p0a) aV 0) (fun r=>some r) (fun s12=>some true))) else (some false)) else (some false)
def cm (s5:Bool×Int×List Bool) (x6:List Int) (s8:Bool×Int×List Bool):Option (Out (List Bool) (Bool×Int×List Bool)):=
 if decide (s8.2.1<(x6.length:Int)) then (Option.bind (((a8 x6 s8.2.1).bind fun x9=>if decide (x9≥0) then ((a8 s8.2.2 x9).bind fun x10=>if x10 then ((a8 s8.2.2 s5.2.1).bind fun x11=>if x11 then (some (s8.1,s8.2.2)) else ((a8 s8.2.2 s5.2.1).bind fun x12=>some (true,s8.2.2.set s5.2.1.toNat true))) else (some (s8.1,s8.2.2))) else (some (s8.1,s8.2.2)):Option (Bool×List Bool))) (fun s13=>some (.nxt (s13.1,IntKind.i64.wrap (s8.2.1+1),s13.2)))) else (some (.brk (s8.1,s8.2.1,s8.2.2)))
def cn (p0a:Int×(List Bool)×List (List Int)) (s5:Bool×Int×List Bool):Option (Out (List Bool) (Bool×Int×List Bool)):=
 if decide (s5.2.1<(p0a.2.2.length:Int)) then ((a8 p0a.2.2 s5.2.1).bind fun x6=>aW (aG (cm s5 x6) aV (s5.1,0,s5.2.2)) (fun r14=>some (.ret r14)) (fun s15=>some (.nxt (s15.1,IntKind.i64.wrap (s5.2.1+1),s15.2.2)))) else (some (.brk (s5.1,s5.2.1,s5.2.2)))
def eX (p0a:Int×(List Bool)×List (List Int)) (s3:Bool×List Bool):Option (Out (List Bool) (Bool×List Bool)):=
 if s3.1 then (aW (aG (cn p0a) aV (false,0,s3.2)) (fun r16=>some (.ret r16)) (fun s17=>some (.nxt (s17.1,s17.2.2)))) else (some (.brk (s3.1,s3.2)))
def cw (p0a:Int×(List Bool)×List (List Int)):Option (List Bool):=
 (dE 1 ([] :List Bool) p0a.2.1).bind fun z0=>aW (aG (eX p0a) aV (true,z0)) (fun r18=>some r18) (fun s19=>some s19.2)
def bY (x8:List Int) (s10:(List Int)×Int×List Bool):Option (Out (List Bool) ((List Int)×Int×List Bool)):=
 if decide (s10.2.1<(x8.length:Int)) then (Option.bind (((a8 x8 s10.2.1).bind fun x11=>if decide (x11≥0) then ((a8 s10.2.2 x11).bind fun x12=>if x12 then (some (s10.1,s10.2.2)) else ((a8 s10.2.2 x11).bind fun x13=>(dE 8 s10.1 ([x11])).bind fun z14=>some (z14,s10.2.2.set x11.toNat true))) else (some (s10.1,s10.2.2)):Option ((List Int)×List Bool))) (fun s15=>some (.nxt (s15.1,IntKind.i64.wrap (s10.2.1+1),s15.2)))) else (some (.brk (s10.1,s10.2.1,s10.2.2)))
def eA (p0a:Int×(List Bool)×List (List Int)) (s4:(List Int)×List Bool):Option (Out (List Bool) ((List Int)×List Bool)):=
 if decide ((s4.1.length:Int)>0) then ((a8 s4.1 0).bind fun x7=>(a8 p0a.2.2 x7).bind fun x8=>aW (aG (bY x8) aV (s4.1,0,s4.2)) (fun r16=>some (.ret r16)) (fun s17=>(chk (And ((0:Int)<=1) (1<=(s17.1.length:Int)))).bind fun _=>some (.nxt (s17.1.drop 1,s17.2.2)))) else (some (.brk (s4.1,s4.2)))
def b7 (p0a:Int×(List Bool)×List (List Int)):Option (List Bool):=
 (mkI 1 (p0a.2.1.length:Int) false).bind fun z0=>(a8 z0 p0a.1).bind fun x1=>aW (aG (eA p0a) aV ([p0a.1],z0.set p0a.1.toNat true)) (fun r19=>some r19) (fun s20=>some s20.2)
def cK (r2:List Bool) (r3:List Bool) (s5:(List Int)×Int):Option Yq4:=
 if decide (s5.2<(r2.length:Int)) then (Option.bind (((a8 r2 s5.2).bind fun x11=>if x11 then ((a8 r3 s5.2).bind fun x12=>if x12 then ((dE 8 s5.1 ([s5.2])).bind fun z6=>some z6) else (some s5.1)) else (some s5.1):Option (List Int))) (fun s7=>some (.nxt (s7,IntKind.i64.wrap (s5.2+1))))) else (some (.brk (s5.1,s5.2)))
def fV (p0a:Int×(List Bool)×(List (List Int))):Option (List Int):=
 (bd (p0a.1,p0a.2.1,p0a.2.2)).bind fun r1=>if r1 then ((cw (p0a.1,p0a.2.1,p0a.2.2)).bind fun r2=>(b7 (p0a.1,p0a.2.1,p0a.2.2)).bind fun r3=>aW (aG (cK r2 r3) aV (([] :List Int),0)) (fun r=>some r) (fun s6=>some s6.1)) else (some ([]))
def bt (p0s:List Int) (p1f:Int->Option Bool) (s3:Int):Option (Out Int Int):=
 if decide (s3<(p0s.length:Int)) then ((a8 p0s s3).bind fun x3=>(p1f x3).bind fun r3=>if r3 then (some (.ret s3)) else (some (.nxt (IntKind.i64.wrap (s3+1))))) else (some (.brk s3))
def aJ (p0s:List Int) (p1f:Int->Option Bool):Option Int:=
 aW (aG (bt p0s p1f) aV 0) (fun r=>some r) (fun s4=>some (-1))
def aL (p0s:List Int) (p1f:Int->Option Bool):Option Bool:=
 (aJ p0s p1f).bind fun r1=>some (decide (r1≥0))
def a6 (p0s:List Int) (p1v:Int) (s3:Int):Option (Out Int Int):=
 if decide (s3<(p0s.length:Int)) then ((a8 p0s s3).bind fun x3=>if p1v==x3 then (some (.ret s3)) else (some (.nxt (IntKind.i64.wrap (s3+1))))) else (some (.brk s3))
def bA (p0s:List Int) (p1v:Int):Option Int:=
 aW (aG (a6 p0s p1v) aV 0) (fun r=>some r) (fun s4=>some (-1))
def bH (p0s:List Int) (p1v:Int):Option Bool:=
 (bA p0s p1v).bind fun r1=>some (decide (r1≥0))
def dy (p0t:Int) (q0:List Int):Option Bool:=
 (bH q0 p0t).bind fun r1=>some r1
def bs (p0s:Int) (q0:Int×(List Bool)×(List (List Int))) (q1:List Int):Option Bool:=
 (a8 q0.2.2 p0s).bind fun x1=>(aL x1 (fun a0=>dy a0 q1)).bind fun r2=>some (!r2)
def cL (p0:List Int) (p1 p2:Int):Option (List Int):=R.PD p0 p1 p2
def dH (p0a:Int×(List Bool)×List (List Int)) (s4:List Int):Option (Out Bool (List Int)):=
 if decide ((s4.length:Int)>0) then ((aJ s4 (fun (u5:Int)=>bs u5 (p0a.1,p0a.2.1,p0a.2.2) s4)).bind fun r6=>if decide (r6<0) then (some (.ret false)) else ((cL s4 r6 (IntKind.i64.wrap (r6+1))).bind fun r7=>some (.nxt r7))) else (some (.brk s4))
def be (p0a:Int×(List Bool)×List (List Int)):Option Bool:=
 (bd (p0a.1,p0a.2.1,p0a.2.2)).bind fun r0=>if r0 then ((fV (p0a.1,p0a.2.1,p0a.2.2)).bind fun r1=>aW (aG (dH p0a) aV r1) (fun r8=>some r8) (fun s9=>some true)) else (some false)
def gU (p0a:Int×(List Bool)×(List (List Int))) (p1list:List Int) (s3:Int):Option (Out Bool Int):=
 if decide (s3<(p1list.length:Int)) then ((a8 p1list s3).bind fun x3=>(fx x3 0 (IntKind.i64.wrap ((p0a.2.1.length:Int) - 1))).bind fun r3=>if r3 then (some (.nxt (IntKind.i64.wrap (s3+1)))) else (some (.ret false))) else (some (.brk s3))
def eY (p0a:Int×(List Bool)×(List (List Int))) (p1list:List Int):Option Bool:=
 aW (aG (gU p0a p1list) aV 0) (fun r=>some r) (fun s4=>(bd (p0a.1,p0a.2.1,p0a.2.2)).bind fun r4=>some r4)
def cW (p0a:Int×(List Bool)×(List (List Int))) (p1s:Int) (p2t:Int):Option Bool:=
 (eY (p0a.1,p0a.2.1,p0a.2.2) ([p1s,p2t])).bind fun r1=>if r1 then ((b7 (p1s,p0a.2.1,p0a.2.2)).bind fun r2=>(a8 r2 p2t).bind fun x1=>some x1) else (some false)
def fy (p0t:Int) (q0:Int×(List Bool)×(List (List Int))) (q1:Int):Option Bool:=
 if decide (p0t≥0) then ((cW (q0.1,q0.2.1,q0.2.2) p0t q1).bind fun r1=>some r1) else (some false)
def gj (p0a:Int×(List Bool)×(List (List Int))) (p1s:Int):Option Bool:=
 (eY (p0a.1,p0a.2.1,p0a.2.2) ([p1s])).bind fun r1=>if r1 then ((a8 p0a.2.2 p1s).bind fun x1=>(aL x1 (fun a0=>fy a0 (p0a.1,p0a.2.1,p0a.2.2) p1s)).bind fun r3=>some r3) else (some false)
def cM (p3:Int->Int->Option (Int×Bool)) (s29:(List Int)×(List (Int×Int))×Int×Int×(List Bool)×(List (List Int))) (s39:(List Int)×(List (Int×Int))×(List Int)×Int):Option (Out (Yq2×Bool) ((List Int)×(List (Int×Int))×(List Int)×Int)):=
 if decide (s39.2.2.2<9) then (Option.bind (((a8 s39.1 s29.2.2.1).bind fun x20=>(p3 x20 s39.2.2.2).bind fun r20=>if r20.2 then ((chk (iOk r20.1=true)).bind fun _=>Option.bind ((if (lkM s39.2.1 r20.1).isSome then (some (s39.1,s39.2.1,(lkM s39.2.1 r20.1).getD 0)) else ((xc s39.2.1 iOk iOk r20.1 (s39.1.length:Int)).bind fun m37=>(dE 8 s39.1 ([r20.1])).bind fun z75=>some (z75,m37,(s39.1.length:Int))):Option ((List Int)×(List (Int×Int))×Int))) (fun s43=>(dE 8 s39.2.2.1 ([s43.2.2])).bind fun z76=>some (s43.1,s43.2.1,z76))) else ((dE 8 s39.2.2.1 ([-1])).bind fun z73=>some (s39.1,s39.2.1,z73)):Option ((List Int)×(List (Int×Int))×(List Int)))) (fun s42=>some (.nxt (s42.1,s42.2.1,s42.2.2,IntKind.i64.wrap (s39.2.2.2+1))))) else (some (.brk (s39.1,s39.2.1,s39.2.2.1,s39.2.2.2)))
def dI (p1:Int) (p2:Int->Option Bool) (p3:Int->Int->Option (Int×Bool)) (s29:(List Int)×(List (Int×Int))×Int×Int×(List Bool)×(List (List Int))):Option (Out (Yq2×Bool) ((List Int)×(List (Int×Int))×Int×Int×(List Bool)×(List (List Int)))):=
 if decide (s29.2.2.1<(s29.1.length:Int)) then (aW (aG (cM p3 s29) aV (s29.1,s29.2.1,([] :List Int),0)) (fun r=>some (.ret r)) (fun s40=>if decide ((s40.1.length:Int)>p1) then (some (.ret ((0,[],[]),false))) else ((a8 s40.1 s29.2.2.1).bind fun x21=>(p2 x21).bind fun r21=>(dE 1 s29.2.2.2.2.1 ([r21])).bind fun z77=>(dE 24 s29.2.2.2.2.2 ([s40.2.2.1])).bind fun z78=>some (.nxt (s40.1,s40.2.1,IntKind.i64.wrap (s29.2.2.1+1),s29.2.2.2.1,z77,z78))))) else (some (.brk (s29.1,s29.2.1,s29.2.2.1,s29.2.2.2.1,s29.2.2.2.2.1,s29.2.2.2.2.2)))
def fW (p0:Int) (p1:Int) (p2:Int->Option Bool) (p3:Int->Int->Option (Int×Bool)):Option (Yq2×Bool):=
 (xc ([] :List (Int×Int)) iOk iOk p0 0).bind fun m1=>aW (aG (dI p1 p2 p3) aV ([p0],m1,0,0,[],[])) (fun r=>some r) (fun s30=>some ((s30.2.2.2.1,s30.2.2.2.2.1,s30.2.2.2.2.2),true))
def oe (p0x:Int) (p1y:Int):Option (Int×Int):=
 some (IntKind.u32.wrap (ma (IntKind.u64.wrap ((IntKind.u64.wrap p0x)*(IntKind.u64.wrap p1y))) 32),IntKind.u32.wrap (IntKind.u64.wrap ((IntKind.u64.wrap p0x)*(IntKind.u64.wrap p1y))))
def jK (p0x:Int) (p1y:Int):Option (Int×Int):=
 some (IntKind.u64.wrap ((IntKind.u64.wrap ((IntKind.u64.wrap ((ma p0x 32)*(ma p1y 32)))+(ma (IntKind.u64.wrap ((IntKind.u64.wrap ((ma p0x 32)*(He p1y 4294967295)))+(ma (IntKind.u64.wrap ((He p0x 4294967295)*(He p1y 4294967295))) 32))) 32)))+(ma (IntKind.u64.wrap ((He (IntKind.u64.wrap ((IntKind.u64.wrap ((ma p0x 32)*(He p1y 4294967295)))+(ma (IntKind.u64.wrap ((He p0x 4294967295)*(He p1y 4294967295))) 32))) 4294967295)+(IntKind.u64.wrap ((He p0x 4294967295)*(ma p1y 32))))) 32)),IntKind.u64.wrap (p0x*p1y))
def kR (p0x:Int) (p1y:Int):Option (Int×Int):=
 (jK p0x p1y).bind fun r1=>some (r1.1,r1.2)
def iK (s4:Int×List Int):Option (Out (List Int) (Int×List Int)):=
 if decide (s4.1<(s4.2.length:Int)) then ((chk (And (0<=s4.1) (s4.1<=(s4.2.length:Int)))).bind fun _=>(chk (And (0<=s4.1) (s4.1<=(s4.2.length:Int)))).bind fun _=>(chk (And (0<=s4.1) (s4.1<=(s4.2.length:Int)))).bind fun _=>(chk (And (0<=s4.1) (s4.1<=(s4.2.length:Int)))).bind fun _=>some (.nxt (IntKind.i64.wrap (s4.1+((Min.min ((s4.2.take s4.1.toNat).length) (s4.2.length - s4.1.toNat):Nat):Int)),tN s4.2 s4.1.toNat (s4.2.take s4.1.toNat)))) else (some (.brk (s4.1,s4.2)))
def eZ (p0x:List Int) (p1count:Int):Option (List Int):=
 if decide (p1count<0) then (none) else ((kR (IntKind.u64.wrap (p0x.length:Int)) (IntKind.u64.wrap p1count)).bind fun r0=>if decide (r0.1>0) then (none) else (if decide (r0.2>9223372036854775807) then (none) else ((mkI 8 (IntKind.i64.wrap r0.2) 0).bind fun z1=>aW (aG (iK) aV (((Min.min p0x.length (z1.length - 0):Nat):Int),tN z1 0 p0x)) (fun r13=>some r13) (fun s14=>some s14.2))))
def oh:Option Yq2:=
 (eZ ([-1]) 9).bind fun r1=>some (0,[false],[r1])
def bB (p0s:List (List Int)) (p1f:(List Int)->Option Bool) (s3:Int):Option (Out Int Int):=
 if decide (s3<(p0s.length:Int)) then ((a8 p0s s3).bind fun x3=>(p1f x3).bind fun r6=>if r6 then (some (.ret s3)) else (some (.nxt (IntKind.i64.wrap (s3+1))))) else (some (.brk s3))
def br (p0s:List (List Int)) (p1f:(List Int)->Option Bool):Option Int:=
 aW (aG (bB p0s p1f) aV 0) (fun r=>some r) (fun s4=>some (-1))
def bI (p0s1:List Int) (p1s2:List Int) (s3:Int):Option (Out Bool Int):=
 if decide (s3<(p0s1.length:Int)) then ((a8 p0s1 s3).bind fun x5=>(a8 p1s2 s3).bind fun x6=>if x5 !=x6 then (some (.ret false)) else (some (.nxt (IntKind.i64.wrap (s3+1))))) else (some (.brk s3))
def cT (p0s1:List Int) (p1s2:List Int):Option Bool:=
 if (p0s1.length:Int) !=(p1s2.length:Int) then (some false) else (aW (aG (bI p0s1 p1s2) aV 0) (fun r=>some r) (fun s4=>some true))
def eB (p0x:List Int) (q0:List Int):Option Bool:=
 (cT p0x q0).bind fun r1=>some r1
def bS (p1:List Int) (x57:List Int) (s52:Int×(List Int)):Option (Out ((List Int)×Int) (Int×(List Int))):=
 if decide (s52.1<(x57.length:Int)) then ((a8 x57 s52.1).bind fun x64=>Option.bind ((if decide (x64≥0) then ((a8 p1 x64).bind fun x66=>some x66) else (some x64):Option Int)) (fun s54=>(dE 8 s52.2 ([s54])).bind fun z38=>some (.nxt (IntKind.i64.wrap (s52.1+1),z38)))) else (some (.brk (s52.1,s52.2)))
def cC (p0:Int×(List Bool)×(List (List Int))) (p1:List Int) (s37:(List (List Int))×(List Int)×Int):Option (Out ((List Int)×Int) ((List (List Int))×(List Int)×Int)):=
 if decide (s37.2.2<(p1.length:Int)) then (Option.bind (((a8 p1 s37.2.2).bind fun x56=>if decide (x56<0) then ((dE 8 s37.2.1 ([-1])).bind fun z42=>some (s37.1,z42)) else ((a8 p0.2.2 s37.2.2).bind fun x57=>aW (aG (bS p1 x57) aV (0,[x56])) (fun _=>none) (fun s53=>(br s37.1 (fun a0=>eB a0 s53.2)).bind fun r12=>Option.bind ((if decide (r12<0) then ((dE 24 s37.1 ([s53.2])).bind fun z40=>some (z40,(s37.1.length:Int))) else (some (s37.1,r12)):Option ((List (List Int))×Int))) (fun s55=>(dE 8 s37.2.1 ([s55.2])).bind fun z41=>some (s55.1,z41)))):Option ((List (List Int))×(List Int)))) (fun s47=>some (.nxt (s47.1,s47.2,IntKind.i64.wrap (s37.2.2+1))))) else (some (.brk (s37.1,s37.2.1,s37.2.2)))
def cy (p0:Int×(List Bool)×(List (List Int))) (p1:List Int):Option ((List Int)×Int):=
 aW (aG (cC p0 p1) aV (([] :List (List Int)),([] :List Int),0)) (fun r=>some r) (fun s38=>some (s38.2.1,(s38.1.length:Int)))
def bL (p0a:Int×(List Bool)×(List (List Int))) (r1:List Bool) (s5:(List Int)×Int):Option Yq4:=
 if decide (s5.2<(r1.length:Int)) then (Option.bind (((a8 r1 s5.2).bind fun x11=>if x11 then ((a8 p0a.2.1 s5.2).bind fun x12=>if x12 then ((dE 8 s5.1 ([1])).bind fun z18=>some z18) else ((dE 8 s5.1 ([0])).bind fun z17=>some z17)) else ((dE 8 s5.1 ([-1])).bind fun z16=>some z16):Option (List Int))) (fun s7=>some (.nxt (s7,IntKind.i64.wrap (s5.2+1))))) else (some (.brk (s5.1,s5.2)))
def dz (p0a:Int×(List Bool)×(List (List Int))) (s10:(List Int)×Int):Option Yq4:=
 (cy (p0a.1,p0a.2.1,p0a.2.2) s10.1).bind fun r4=>if r4.2==s10.2 then (some (.ret r4.1)) else (some (.nxt (r4.1,r4.2)))
def cq (p0a:Int×(List Bool)×(List (List Int))):Option (List Int):=
 (cw (p0a.1,p0a.2.1,p0a.2.2)).bind fun r1=>aW (aG (bL p0a r1) aV (([] :List Int),0)) (fun r=>some r) (fun s6=>aW (aG (dz p0a) aV (s6.1,-1)) (fun r=>some r) (fun s11=>none))
def aR (p0class:Int) (q0:List Int):Option Int:=
 (bA q0 p0class).bind fun r1=>some r1
def bM (p0c:Int) (q0:Int×(List Bool)×(List (List Int))) (q1:Int->Option Int):Option Bool:=
 (q1 p0c).bind fun r1=>(a8 q0.2.1 r1).bind fun x1=>some x1
def mC (p0n:Int):Option Bool:=
 (fx p0n 0 8).bind fun r1=>some r1
def bh (p0a:Int×(List Bool)×(List (List Int))) (p1s:Int) (p2letter:Int):Option Int:=
 if decide (p1s<0) then (some (-1)) else ((mC p2letter).bind fun r1=>if r1 then ((a8 p0a.2.2 p1s).bind fun x1=>(a8 x1 p2letter).bind fun x2=>some x2) else (some (-1)))
def bN (p0c:Int) (p1letter:Int) (q0:Int×(List Bool)×(List (List Int))) (q1:Int->Option Int) (q2:List Int):Option (Int×Bool):=
 (q1 p0c).bind fun r1=>(bh (q0.1,q0.2.1,q0.2.2) r1 p1letter).bind fun r2=>if decide (r2<0) then (some (0,false)) else ((a8 q2 r2).bind fun x1=>if decide (x1<0) then (some (0,false)) else ((a8 q2 r2).bind fun x2=>some (x2,true)))
def bZ (p0a:Int×(List Bool)×(List (List Int))):Option Yq2:=
 (cq (p0a.1,p0a.2.1,p0a.2.2)).bind fun r1=>(a8 r1 p0a.1).bind fun x1=>if decide (x1<0) then ((oh).bind fun r3=>some (r3.1,r3.2.1,r3.2.2)) else ((a8 r1 p0a.1).bind fun x2=>(fW x2 (r1.length:Int) (fun a0=>bM a0 (p0a.1,p0a.2.1,p0a.2.2) (fun a0=>aR a0 r1)) (fun a0 a1=>bN a0 a1 (p0a.1,p0a.2.1,p0a.2.2) (fun a0=>aR a0 r1) r1)).bind fun r2=>some (r2.1.1,r2.1.2.1,r2.1.2.2))
def cE (p0s:Int×Int) (p1letter:Int) (q0:Int×(List Bool)×(List (List Int))) (q1:Int×(List Bool)×(List (List Int))):Option (Int×Int):=
 (bh (q0.1,q0.2.1,q0.2.2) p0s.1 p1letter).bind fun r1=>(bh (q1.1,q1.2.1,q1.2.2) p0s.2 p1letter).bind fun r2=>some (r1,r2)
def fa (p0l:List Int):Option (List Int):=
 (dE 8 ([] :List Int) p0l).bind fun z1=>some z1
def df (p0:List Int):Option (List Int):=R.Je p0
def bz (p0s:List Int) (s1:Int) (s8:Int×Int×List Int):Option (Out (List Int) (Int×Int×List Int)):=
 if decide (s8.2.1<((0+((p0s.length:Int) - 0)) - (0+s1))) then (Option.bind (((chk (And (0<=s8.2.1) (s8.2.1<((0+((p0s.length:Int) - 0)) - (0+s1))))).bind fun _=>(a8 s8.2.2 ((0+s1)+s8.2.1)).bind fun x14=>(chk (And (0<=(IntKind.i64.wrap (s8.2.1 - 1))) ((IntKind.i64.wrap (s8.2.1 - 1))<((0+((p0s.length:Int) - 0)) - (0+s1))))).bind fun _=>(a8 s8.2.2 ((0+s1)+(IntKind.i64.wrap (s8.2.1 - 1)))).bind fun x16=>if x14 !=x16 then ((chk (And (0<=s8.2.1) (s8.2.1<((0+((p0s.length:Int) - 0)) - (0+s1))))).bind fun _=>(a8 s8.2.2 ((0+s1)+s8.2.1)).bind fun x18=>(a8 s8.2.2 s8.1).bind fun x19=>some (IntKind.i64.wrap (s8.1+1),s8.2.2.set s8.1.toNat x18)) else (some (s8.1,s8.2.2)):Option (Int×List Int))) (fun s20=>some (.nxt (s20.1,IntKind.i64.wrap (s8.2.1+1),s20.2)))) else (some (.brk (s8.1,s8.2.1,s8.2.2)))
def bf (p0s:List Int) (s1:Int):Option (Out (List Int) Int):=
 if decide (s1<(p0s.length:Int)) then ((a8 p0s s1).bind fun x4=>(a8 p0s (IntKind.i64.wrap (s1 - 1))).bind fun x5=>if x4==x5 then ((chk (And (0<=s1) (And (s1<=((p0s.length:Int) - 0)) ((0+((p0s.length:Int) - 0))<=(p0s.length:Int))))).bind fun _=>aW (aG (bz p0s s1) aV (s1,1,p0s)) (fun r21=>some (.ret r21)) (fun s22=>(chk (And (0<=s22.1) (And (s22.1<=((s22.2.2.length:Int) - 0)) ((0+((s22.2.2.length:Int) - 0))<=(s22.2.2.length:Int))))).bind fun _=>(chk (And ((0+s22.1)<=(0+((s22.2.2.length:Int) - 0))) ((0+((s22.2.2.length:Int) - 0))<=(s22.2.2.length:Int)))).bind fun _=>(chk (And ((0:Int)<=0) (And (0<=s22.1) ((0+s22.1)<=((lY s22.2.2 ((0+s22.1).toNat) ((0+((s22.2.2.length:Int) - 0)).toNat) 0).length:Int))))).bind fun _=>some (.ret (((lY s22.2.2 ((0+s22.1).toNat) ((0+((s22.2.2.length:Int) - 0)).toNat) 0).take ((0+s22.1).toNat)).drop 0)))) else (some (.nxt (IntKind.i64.wrap (s1+1))))) else (some (.brk s1))
def bQ (p0s:List Int):Option (List Int):=
 if decide ((p0s.length:Int)<2) then (some p0s) else (aW (aG (bf p0s) aV 1) (fun r26=>some r26) (fun s27=>some p0s))
def fA (p0l:List Int):Option (List Int):=
 (fa p0l).bind fun r0=>(df r0).bind fun r1=>(bQ r1).bind fun r2=>some r2
def gV (p0a:Int×(List Bool)×List (List Int)) (p2q:Int) (s4:(List Int)×(List (Int×Int))×Int×List Yq6):Option (Out (List Int) ((List Int)×(List (Int×Int))×Int×List Yq6)):=
 if decide (s4.2.2.1<9) then (Option.bind (((a8 s4.2.1 0).bind fun x5=>(cE (x5.1,x5.2) s4.2.2.1 (p0a.1,p0a.2.1,p0a.2.2) (p0a.1,p0a.2.1,p0a.2.2)).bind fun r6=>if decide (r6.2<0) then (some (s4.1,s4.2.1,s4.2.2.2)) else ((chk ((tM (r6.1,r6.2))=true)).bind fun _=>if Option.getD (lkM s4.2.2.2 (r6.1,r6.2)) false then (some (s4.1,s4.2.1,s4.2.2.2)) else ((xc s4.2.2.2 tM bOk (r6.1,r6.2) true).bind fun z8=>(dE 16 s4.2.1 ([(r6.1,r6.2)])).bind fun z9=>if r6.2==p2q then ((dE 8 s4.1 ([r6.1])).bind fun z10=>some (z10,z9,z8)) else (some (s4.1,z9,z8)))):Option ((List Int)×(List (Int×Int))×List Yq6))) (fun s11=>some (.nxt (s11.1,s11.2.1,IntKind.i64.wrap (s4.2.2.1+1),s11.2.2)))) else (some (.brk (s4.1,s4.2.1,s4.2.2.1,s4.2.2.2)))
def jh (p0a:Int×(List Bool)×List (List Int)) (p2q:Int) (s2:(List Int)×(List (Int×Int))×List Yq6):Option (Out (List Int) ((List Int)×(List (Int×Int))×List Yq6)):=
 if decide ((s2.2.1.length:Int)>0) then (aW (aG (gV p0a p2q) aV (s2.1,s2.2.1,0,s2.2.2)) (fun r12=>some (.ret r12)) (fun s13=>(chk (And ((0:Int)<=1) (1<=(s13.2.1.length:Int)))).bind fun _=>some (.nxt (s13.1,s13.2.1.drop 1,s13.2.2.2)))) else (some (.brk (s2.1,s2.2.1,s2.2.2)))
def ix (p0a:Int×(List Bool)×List (List Int)) (p1p:Int) (p2q:Int):Option (List Int):=
 aW (aG (jh p0a p2q) aV (([] :List Int),[(p1p,p2q)],([] :List Yq6))) (fun r15=>some r15) (fun s16=>(fA s16.1).bind fun r17=>some r17)
def cN (p0a:Int×(List Bool)×(List (List Int))) (p2q:Int) (s11:Int×(List Int)) (s15:(List Int)×Int):Option Yq4:=
 if decide (s15.2<(s11.2.length:Int)) then ((a8 s11.2 s15.2).bind fun x9=>(ix (p0a.1,p0a.2.1,p0a.2.2) x9 p2q).bind fun r13=>(dE 8 s15.1 r13).bind fun z9=>some (.nxt (z9,IntKind.i64.wrap (s15.2+1)))) else (some (.brk (s15.1,s15.2)))
def dJ (p0a:Int×(List Bool)×(List (List Int))) (p2q:Int) (s11:Int×(List Int)):Option (Out (List Int) (Int×(List Int))):=
 if decide (s11.1>0) then (aW (aG (cN p0a p2q s11) aV (([] :List Int),0)) (fun r=>some (.ret r)) (fun s16=>(fA s16.1).bind fun r14=>some (.nxt (IntKind.i64.wrap (s11.1 - 1),r14)))) else (some (.brk (s11.1,s11.2)))
def dR (p0a:Int×(List Bool)×(List (List Int))) (p1p:Int) (p2q:Int) (p3times:Int):Option (List Int):=
 (eY (p0a.1,p0a.2.1,p0a.2.2) ([p1p,p2q])).bind fun r1=>if r1 then ((fx p3times 0 12).bind fun r2=>if r2 then (aW (aG (dJ p0a p2q) aV (p3times,[p1p])) (fun r=>some r) (fun s12=>some s12.2)) else (some ([]))) else (some ([]))
def bT (p1next:(Int×Int)->Int->Option (Int×Int)) (x4:(Int×Int)×List Int) (s8:(List ((Int×Int)×List Int))×Int×List Yq6):Option (Out ((List Int)×Bool) ((List ((Int×Int)×List Int))×Int×List Yq6)):=
 if decide (s8.2.1<9) then (Option.bind (((p1next (x4.1.1,x4.1.2) s8.2.1).bind fun r9=>(chk ((tM (r9.1,r9.2))=true)).bind fun _=>if Option.getD (lkM s8.2.2 (r9.1,r9.2)) false then (some (s8.1,s8.2.2)) else ((xc s8.2.2 tM bOk (r9.1,r9.2) true).bind fun z11=>(fa x4.2).bind fun r15=>(dE 8 r15 ([s8.2.1])).bind fun z16=>(dE 40 s8.1 ([((r9.1,r9.2),z16)])).bind fun z17=>some (z17,z11)):Option ((List ((Int×Int)×List Int))×List Yq6))) (fun s18=>some (.nxt (s18.1,IntKind.i64.wrap (s8.2.1+1),s18.2)))) else (some (.brk (s8.1,s8.2.1,s8.2.2)))
def dK (p1next:(Int×Int)->Int->Option (Int×Int)) (p2test:(Int×Int)->Option Bool) (s3:(List ((Int×Int)×List Int))×List Yq6):Option (Out ((List Int)×Bool) ((List ((Int×Int)×List Int))×List Yq6)):=
 if decide ((s3.1.length:Int)>0) then ((a8 s3.1 0).bind fun x4=>(p2test (x4.1.1,x4.1.2)).bind fun r5=>if r5 then ((fa x4.2).bind fun r6=>some (.ret (r6,true))) else (aW (aG (bT p1next x4) aV (s3.1,0,s3.2)) (fun r19=>some (.ret r19)) (fun s20=>(chk (And ((0:Int)<=1) (1<=(s20.1.length:Int)))).bind fun _=>some (.nxt (s20.1.drop 1,s20.2.2))))) else (some (.brk (s3.1,s3.2)))
def cz (p0first:Int×Int) (p1next:(Int×Int)->Int->Option (Int×Int)) (p2test:(Int×Int)->Option Bool):Option ((List Int)×Bool):=
 (xc ([] :List Yq6) tM bOk (p0first.1,p0first.2) true).bind fun z0=>aW (aG (dK p1next p2test) aV ([((p0first.1,p0first.2),([] :List Int))],z0)) (fun r22=>some r22) (fun s23=>some (([] :List Int),false))
def bj (p0a:Int×(List Bool)×(List (List Int))) (p1s:Int):Option Bool:=
 if decide (p1s≥0) then ((a8 p0a.2.1 p1s).bind fun x1=>some x1) else (some false)
def ke (p0x:Int×Int) (q0:Int×(List Bool)×(List (List Int))):Option Bool:=
 (bj (q0.1,q0.2.1,q0.2.2) p0x.2).bind fun r1=>if r1 then ((bj (q0.1,q0.2.1,q0.2.2) p0x.1).bind fun r2=>some (!r2)) else (some false)
def ew (p0a:Int×(List Bool)×List (List Int)) (p1s:Int) (p2q:Int):Option Bool:=
 (cz (p1s,p2q) (fun (u0:Int×Int) (u1:Int)=>cE u0 u1 (p0a.1,p0a.2.1,p0a.2.2) (p0a.1,p0a.2.1,p0a.2.2)) (fun (u2:Int×Int)=>ke u2 (p0a.1,p0a.2.1,p0a.2.2))).bind fun r3=>some r3.2
def iG (p0s:Int) (q0:Int×(List Bool)×(List (List Int))) (q1:Int):Option Bool:=
 (ew (q0.1,q0.2.1,q0.2.2) p0s q1).bind fun r1=>some r1
def gW (r1:Int×(List Bool)×List (List Int)) (s3:Int) (s5:Int):Option (Out (Int×Int×Bool) Int):=
 if decide (s5<(r1.2.1.length:Int)) then (tL (S:=Unit) ((gj (r1.1,r1.2.1,r1.2.2) s3).bind fun r6=>if r6 then ((gj (r1.1,r1.2.1,r1.2.2) s5).bind fun r7=>if r7 then ((cW (r1.1,r1.2.1,r1.2.2) s3 s5).bind fun r8=>if r8 then ((dR (r1.1,r1.2.1,r1.2.2) s3 s5 (r1.2.1.length:Int)).bind fun r9=>(aL r9 (fun (u10:Int)=>iG u10 (r1.1,r1.2.1,r1.2.2) s5)).bind fun r11=>if r11 then (some (.inl (.ret (s3,s5,true)))) else (some (.inr ()))) else (some (.inr ()))) else (some (.inr ()))) else (some (.inr ()))) (fun s12=>some (.nxt (IntKind.i64.wrap (s5+1))))) else (some (.brk s5))
def gX (r1:Int×(List Bool)×List (List Int)) (s3:Int):Option (Out (Int×Int×Bool) Int):=
 if decide (s3<(r1.2.1.length:Int)) then (aW (aG (gW r1 s3) aV 0) (fun r13=>some (.ret r13)) (fun s14=>some (.nxt (IntKind.i64.wrap (s3+1))))) else (some (.brk s3))
def fb (p0a:Int×(List Bool)×List (List Int)):Option (Int×Int×Bool):=
 (bd (p0a.1,p0a.2.1,p0a.2.2)).bind fun r0=>if r0 then ((bZ (p0a.1,p0a.2.1,p0a.2.2)).bind fun r1=>aW (aG (gX r1) aV 0) (fun r15=>some r15) (fun s16=>some (0,0,false))) else (some (0,0,false))
def bO (p0a:Int×(List Bool)×(List (List Int))):Option Int:=
 (fb (p0a.1,p0a.2.1,p0a.2.2)).bind fun r1=>(bd (p0a.1,p0a.2.1,p0a.2.2)).bind fun r2=>if r2 then ((be (p0a.1,p0a.2.1,p0a.2.2)).bind fun r3=>if r3 then (some 1) else (if r1.2.2 then (some 3) else (some 2))) else (some 0)
def sN (p0a:Int×(List Bool)×(List (List Int))) (s71:(List Bool)×Int) (s77:(List Bool)×Int):Option Yq5:=
 if decide (s77.2<9) then (Option.bind (((a8 s77.1 s71.2).bind fun x321=>if x321 then ((a8 p0a.2.2 s71.2).bind fun x322=>(a8 x322 s77.2).bind fun x323=>if decide (x323≥0) then ((a8 p0a.2.2 s71.2).bind fun x324=>(a8 x324 s77.2).bind fun x325=>(a8 s77.1 x325).bind fun x326=>some (s77.1.set x325.toNat true)) else (some s77.1)) else (some s77.1):Option (List Bool))) (fun s79=>some (.nxt (s79,IntKind.i64.wrap (s77.2+1))))) else (some (.brk (s77.1,s77.2)))
def mD (p0a:Int×(List Bool)×(List (List Int))) (s71:(List Bool)×Int):Option Yq5:=
 if decide (s71.2<(p0a.2.1.length:Int)) then (aW (aG (sN p0a s71) aV (s71.1,0)) (fun r=>some (.ret r)) (fun s78=>some (.nxt (s78.1,IntKind.i64.wrap (s71.2+1))))) else (some (.brk (s71.1,s71.2)))
def fc (p0a:Int×(List Bool)×(List (List Int))) (s53:(List Bool)×Int):Option Yq5:=
 if decide (s53.2<(p0a.2.1.length:Int)) then (aW (aG (mD p0a) aV (s53.1,0)) (fun r=>some (.ret r)) (fun s72=>some (.nxt (s72.1,IntKind.i64.wrap (s53.2+1))))) else (some (.brk (s53.1,s53.2)))
def kg (p0a:Int×(List Bool)×(List (List Int))):Option (List Bool):=
 (mkI 1 (p0a.2.1.length:Int) (false:Bool)).bind fun x1=>(a8 x1 p0a.1).bind fun x2=>aW (aG (fc p0a) aV (x1.set p0a.1.toNat true,0)) (fun r=>some r) (fun s54=>some s54.1)
def cO (p0a:Int×(List Bool)×(List (List Int))) (r2:List Bool) (r3:List Bool) (s5:(List Int)×Int):Option Yq4:=
 if decide (s5.2<(p0a.2.1.length:Int)) then (Option.bind (((a8 r2 s5.2).bind fun x11=>if x11 then ((a8 r3 s5.2).bind fun x12=>if x12 then ((dE 8 s5.1 ([s5.2])).bind fun z6=>some z6) else (some s5.1)) else (some s5.1):Option (List Int))) (fun s7=>some (.nxt (s7,IntKind.i64.wrap (s5.2+1))))) else (some (.brk (s5.1,s5.2)))
def fX (p0a:Int×(List Bool)×(List (List Int))):Option (List Int):=
 (aY (p0a.1,p0a.2.1,p0a.2.2)).bind fun r1=>if r1 then ((kg (p0a.1,p0a.2.1,p0a.2.2)).bind fun r2=>(gi (p0a.1,p0a.2.1,p0a.2.2)).bind fun r3=>aW (aG (cO p0a r2 r3) aV (([] :List Int),0)) (fun r=>some r) (fun s6=>some s6.1)) else (some ([] :List Int))
def dS (p0:Int×(List Bool)×(List (List Int))) (p1:Int) (s5:(List Bool)×Int):Option Yq5:=
 if decide (s5.2<9) then (Option.bind (((a8 p0.2.2 p1).bind fun x27=>(a8 x27 s5.2).bind fun x28=>if decide (x28≥0) then ((a8 p0.2.2 p1).bind fun x29=>(a8 x29 s5.2).bind fun x30=>(a8 s5.1 x30).bind fun x31=>some (s5.1.set x30.toNat true)) else (some s5.1):Option (List Bool))) (fun s7=>some (.nxt (s7,IntKind.i64.wrap (s5.2+1))))) else (some (.brk (s5.1,s5.2)))
def bX (p0:Int×(List Bool)×(List (List Int))) (s78:(List Bool)×Int) (s84:(List Bool)×Int):Option Yq5:=
 if decide (s84.2<9) then (Option.bind (((a8 s84.1 s78.2).bind fun x350=>if x350 then ((a8 p0.2.2 s78.2).bind fun x351=>(a8 x351 s84.2).bind fun x352=>if decide (x352≥0) then ((a8 p0.2.2 s78.2).bind fun x353=>(a8 x353 s84.2).bind fun x354=>(a8 s84.1 x354).bind fun x355=>some (s84.1.set x354.toNat true)) else (some s84.1)) else (some s84.1):Option (List Bool))) (fun s86=>some (.nxt (s86,IntKind.i64.wrap (s84.2+1))))) else (some (.brk (s84.1,s84.2)))
def cX (p0:Int×(List Bool)×(List (List Int))) (s78:(List Bool)×Int):Option Yq5:=
 if decide (s78.2<(p0.2.1.length:Int)) then (aW (aG (bX p0 s78) aV (s78.1,0)) (fun r=>some (.ret r)) (fun s85=>some (.nxt (s85.1,IntKind.i64.wrap (s78.2+1))))) else (some (.brk (s78.1,s78.2)))
def dU (p0:Int×(List Bool)×(List (List Int))) (s60:(List Bool)×Int):Option Yq5:=
 if decide (s60.2<(p0.2.1.length:Int)) then (aW (aG (cX p0) aV (s60.1,0)) (fun r=>some (.ret r)) (fun s79=>some (.nxt (s79.1,IntKind.i64.wrap (s60.2+1))))) else (some (.brk (s60.1,s60.2)))
def fB (p0:Int×(List Bool)×(List (List Int))) (p1:Int):Option (List Bool):=
 (mkI 1 (p0.2.1.length:Int) (false:Bool)).bind fun x1=>aW (aG (dS p0 p1) aV (x1,0)) (fun r=>some r) (fun s6=>aW (aG (dU p0) aV (s6.1,0)) (fun r=>some r) (fun s61=>some s61.1))
def cD (p0a:Int×(List Bool)×(List (List Int))) (r2:List Int) (s3:Int):Option (Out Bool Int):=
 if decide (s3<(r2.length:Int)) then ((a8 r2 s3).bind fun x7=>(fB (p0a.1,p0a.2.1,p0a.2.2) x7).bind fun r5=>(a8 r2 s3).bind fun x8=>(a8 r5 x8).bind fun x9=>if x9 then (some (.ret false)) else (some (.nxt (IntKind.i64.wrap (s3+1))))) else (some (.brk s3))
def bC (p0a:Int×(List Bool)×(List (List Int))):Option Bool:=
 (aY (p0a.1,p0a.2.1,p0a.2.2)).bind fun r1=>if r1 then ((fX (p0a.1,p0a.2.1,p0a.2.2)).bind fun r2=>aW (aG (cD p0a r2) aV 0) (fun r=>some r) (fun s4=>some true)) else (some false)
def gA (p0a:Int×(List Bool)×(List (List Int))) (p1s:Int):Option Bool:=
 (aY (p0a.1,p0a.2.1,p0a.2.2)).bind fun r1=>if r1 then ((jf p1s 0 (IntKind.i64.wrap ((p0a.2.1.length:Int) - 1))).bind fun r2=>some r2) else (some false)
def jL (p0a:Int×(List Bool)×(List (List Int))) (p1s:Int):Option Bool:=
 (gA (p0a.1,p0a.2.1,p0a.2.2) p1s).bind fun r1=>if r1 then ((fB (p0a.1,p0a.2.1,p0a.2.2) p1s).bind fun r2=>(a8 r2 p1s).bind fun x1=>some x1) else (some false)
def fY (p0a:Int×(List Bool)×(List (List Int))) (p1s:Int) (p2t:Int):Option Bool:=
 (gA (p0a.1,p0a.2.1,p0a.2.2) p1s).bind fun r1=>if r1 then ((gA (p0a.1,p0a.2.1,p0a.2.2) p2t).bind fun r2=>if r2 then (if p1s==p2t then (some true) else ((fB (p0a.1,p0a.2.1,p0a.2.2) p1s).bind fun r3=>(a8 r3 p2t).bind fun x1=>some x1)) else (some false)) else (some false)
def gk (p0a:Int×(List Bool)×(List (List Int))) (p1s:Int) (p2k:Int):Option Int:=
 if decide (p1s<0) then (some (-1)) else ((a8 p0a.2.2 p1s).bind fun x1=>(a8 x1 p2k).bind fun x2=>some x2)
def iL (p0m:Int) (s5:(List Int)×Int):Option Yq4:=
 if decide (s5.2<30) then (Option.bind (((chk (0<=s5.2)).bind fun _=>if (pN (ma p0m s5.2) 1)==1 then ((dE 8 s5.1 ([s5.2])).bind fun z6=>some z6) else (some s5.1):Option (List Int))) (fun s7=>some (.nxt (s7,IntKind.i64.wrap (s5.2+1))))) else (some (.brk (s5.1,s5.2)))
def mE (p0m:Int):Option (List Int):=
 aW (aG (iL p0m) aV (([] :List Int),0)) (fun r=>some r) (fun s6=>some s6.1)
def dL (p0l:List Yq3) (p1x:Int×Int×Bool×Int×Int) (s3:Int):Option (Out Bool Int):=
 if decide (s3<(p0l.length:Int)) then ((a8 p0l s3).bind fun x7=>if x7.1==p1x.1 then ((a8 p0l s3).bind fun x8=>if x8.2.1==p1x.2.1 then ((a8 p0l s3).bind fun x9=>if x9.2.2.1==p1x.2.2.1 then (some (.ret true)) else (some (.nxt (IntKind.i64.wrap (s3+1))))) else (some (.nxt (IntKind.i64.wrap (s3+1))))) else (some (.nxt (IntKind.i64.wrap (s3+1))))) else (some (.brk s3))
def iy (p0l:List Yq3) (p1x:Int×Int×Bool×Int×Int):Option Bool:=
 aW (aG (dL p0l p1x) aV 0) (fun r=>some r) (fun s4=>some false)
def dV (p0:Int×(List Bool)×(List (List Int))) (p2:Int) (s29:(List Yq3)×Int×Int) (s39:(List Yq3)×Int×Int):Option (Out (List Int) ((List Yq3)×Int×Int)):=
 if decide (s39.2.2<9) then (Option.bind (((a8 s39.1 s29.2.2).bind fun x35=>(gk (p0.1,p0.2.1,p0.2.2) x35.1 s39.2.2).bind fun r52=>(a8 s39.1 s29.2.2).bind fun x36=>(gk (p0.1,p0.2.1,p0.2.2) x36.2.1 s39.2.2).bind fun r53=>if decide (r53<0) then (some (s39.1,s39.2.1)) else (Option.bind ((if r53==p2 then ((chk (0<=IntKind.i64.wrap (r52+1))).bind fun _=>some (orI s39.2.1 (xe 1 (IntKind.i64.wrap (r52+1))))) else (some s39.2.1):Option Int)) (fun s43=>(iy s39.1 (r52,r53,true,0,0)).bind fun r54=>if r54 then (some (s39.1,s43)) else ((dE 40 s39.1 ([(r52,r53,true,0,0)])).bind fun z18=>some (z18,s43)))):Option ((List Yq3)×Int))) (fun s42=>some (.nxt (s42.1,s42.2,IntKind.i64.wrap (s39.2.2+1))))) else (some (.brk (s39.1,s39.2.1,s39.2.2)))
def fZ (p0:Int×(List Bool)×(List (List Int))) (p2:Int) (s29:(List Yq3)×Int×Int):Option (Out (List Int) ((List Yq3)×Int×Int)):=
 if decide (s29.2.2<(s29.1.length:Int)) then (aW (aG (dV p0 p2 s29) aV (s29.1,s29.2.1,0)) (fun r=>some (.ret r)) (fun s40=>some (.nxt (s40.1,s40.2.1,IntKind.i64.wrap (s29.2.2+1))))) else (some (.brk (s29.1,s29.2.1,s29.2.2)))
def dW (s46:(List Int)×Int):Option Yq4:=
 if decide (s46.2<(s46.1.length:Int)) then ((a8 s46.1 s46.2).bind fun x41=>(a8 s46.1 s46.2).bind fun x42=>some (.nxt (s46.1.set s46.2.toNat (IntKind.i64.wrap (x41 - 1)),IntKind.i64.wrap (s46.2+1)))) else (some (.brk (s46.1,s46.2)))
def c8 (p0:Int×(List Bool)×(List (List Int))) (p1:Int) (p2:Int):Option (List Int):=
 aW (aG (fZ p0 p2) aV ([(p1,p2,false,0,0)],0,0)) (fun r=>some r) (fun s30=>(mE s30.2.1).bind fun r55=>aW (aG (dW) aV (r55,0)) (fun r=>some r) (fun s47=>some s47.1))
def dX (r3:List Int) (s15:Int×Int):Option (Out (List Int) (Int×Int)):=
 if decide (s15.2<(r3.length:Int)) then ((a8 r3 s15.2).bind fun x9=>(chk (0<=IntKind.i64.wrap (x9+1))).bind fun _=>some (.nxt (orI s15.1 (xe 1 (IntKind.i64.wrap (x9+1))),IntKind.i64.wrap (s15.2+1)))) else (some (.brk (s15.1,s15.2)))
def dY (p0:Int×(List Bool)×(List (List Int))) (p2:Int) (p3:Int) (s11:(List Int)×Int):Option Yq4:=
 if decide (s11.2<(p0.2.1.length:Int)) then (if decide (p3>0) then ((c8 (p0.1,p0.2.1,p0.2.2) s11.2 p2).bind fun r3=>aW (aG (dX r3) aV (0,0)) (fun r=>some (.ret r)) (fun s16=>(dE 8 s11.1 ([s16.1])).bind fun z3=>some (.nxt (z3,IntKind.i64.wrap (s11.2+1))))) else (some (.brk (s11.1,s11.2)))) else (some (.brk (s11.1,s11.2)))
def dZ (s12:(List Int)×Int) (s33:Int×Int) (s39:Int×Int):Option (Out (List Int) (Int×Int)):=
 if decide (s39.2<(s12.1.length:Int)) then (Option.bind (((chk (0<=s39.2)).bind fun _=>if (pN (ma s33.1 s39.2) 1)==1 then ((a8 s12.1 s39.2).bind fun x27=>some (orI s39.1 x27)) else (some s39.1):Option Int)) (fun s41=>some (.nxt (s41,IntKind.i64.wrap (s39.2+1))))) else (some (.brk (s39.1,s39.2)))
def eb (p3:Int) (s12:(List Int)×Int) (s33:Int×Int):Option (Out (List Int) (Int×Int)):=
 if decide (s33.2<p3) then (aW (aG (dZ s12 s33) aV (0,0)) (fun r=>some (.ret r)) (fun s40=>some (.nxt (s40.1,IntKind.i64.wrap (s33.2+1))))) else (some (.brk (s33.1,s33.2)))
def cY (s44:(List Int)×Int):Option Yq4:=
 if decide (s44.2<(s44.1.length:Int)) then ((a8 s44.1 s44.2).bind fun x32=>(a8 s44.1 s44.2).bind fun x33=>some (.nxt (s44.1.set s44.2.toNat (IntKind.i64.wrap (x32 - 1)),IntKind.i64.wrap (s44.2+1)))) else (some (.brk (s44.1,s44.2)))
def ji (p0:Int×(List Bool)×(List (List Int))) (p1:Int) (p2:Int) (p3:Int):Option (List Int):=
 aW (aG (dY p0 p2 p3) aV (([] :List Int),-1)) (fun r=>some r) (fun s12=>(chk (0<=IntKind.i64.wrap (p1+1))).bind fun _=>aW (aG (eb p3 s12) aV (xe 1 (IntKind.i64.wrap (p1+1)),0)) (fun r=>some r) (fun s34=>(mE s34.1).bind fun r4=>aW (aG (cY) aV (r4,0)) (fun r=>some r) (fun s45=>some s45.1)))
def gY (p0a:Int×(List Bool)×(List (List Int))) (p1s:Int):Option Bool:=
 if decide (p1s≥0) then ((a8 p0a.2.1 p1s).bind fun x1=>some x1) else (some false)
def kE (p0l:List Yq3) (s3:Int×(List Int)):Option (Out (List Int) (Int×(List Int))):=
 if decide (s3.1>0) then ((a8 p0l s3.1).bind fun x5=>(dE 8 ([x5.2.2.2.2]) s3.2).bind fun z3=>(a8 p0l s3.1).bind fun x6=>some (.nxt (x6.2.2.2.1,z3))) else (some (.brk (s3.1,s3.2)))
def lC (p0l:List Yq3) (p1k:Int):Option (List Int):=
 aW (aG (kE p0l) aV (p1k,([] :List Int))) (fun r=>some r) (fun s4=>some s4.2)
def ed (p0:Int×(List Bool)×(List (List Int))) (p2:Int×(List Bool)×(List (List Int))) (s19:(List Yq3)×Int) (s26:(List Yq3)×Int):Option (Out ((List Int)×Bool) ((List Yq3)×Int)):=
 if decide (s26.2<9) then (Option.bind (((a8 s26.1 s19.2).bind fun x41=>(gk (p0.1,p0.2.1,p0.2.2) x41.1 s26.2).bind fun r70=>(a8 s26.1 s19.2).bind fun x42=>(gk (p2.1,p2.2.1,p2.2.2) x42.2.1 s26.2).bind fun r71=>(iy s26.1 (r70,r71,false,s19.2,s26.2)).bind fun r72=>if r72 then (some s26.1) else ((dE 40 s26.1 ([(r70,r71,false,s19.2,s26.2)])).bind fun z18=>some z18):Option (List Yq3))) (fun s28=>some (.nxt (s28,IntKind.i64.wrap (s26.2+1))))) else (some (.brk (s26.1,s26.2)))
def iT (p0:Int×(List Bool)×(List (List Int))) (p2:Int×(List Bool)×(List (List Int))) (p4:Bool) (s19:(List Yq3)×Int):Option (Out ((List Int)×Bool) ((List Yq3)×Int)):=
 if decide (s19.2<(s19.1.length:Int)) then ((a8 s19.1 s19.2).bind fun x29=>(gY (p0.1,p0.2.1,p0.2.2) x29.1).bind fun r49=>(a8 s19.1 s19.2).bind fun x30=>(gY (p2.1,p2.2.1,p2.2.2) x30.2.1).bind fun r50=>Option.bind (if r50 then (if r49 then (if r49 then (if r50 then some false else some (!p4)) else some false) else some true) else (if r49 then (if r50 then some false else some (!p4)) else some false):Option Bool) (fun b57=>if b57 then ((lC s19.1 s19.2).bind fun r54=>some (.ret (r54,true))) else (aW (aG (ed p0 p2 s19) aV (s19.1,0)) (fun r=>some (.ret r)) (fun s27=>some (.nxt (s27.1,IntKind.i64.wrap (s19.2+1))))))) else (some (.brk (s19.1,s19.2)))
def dM (p0:Int×(List Bool)×(List (List Int))) (p1:Int) (p2:Int×(List Bool)×(List (List Int))) (p3:Int) (p4:Bool):Option ((List Int)×Bool):=
 aW (aG (iT p0 p2 p4) aV ([(p1,p3,false,0,0)],0)) (fun r=>some r) (fun s20=>some (([] :List Int),false))
def jj (p0a:Int×(List Bool)×(List (List Int))) (p2q:Int) (r1:List Int) (s3:Int):Option (Out Bool Int):=
 if decide (s3<(r1.length:Int)) then ((a8 r1 s3).bind fun x3=>(dM (p0a.1,p0a.2.1,p0a.2.2) x3 (p0a.1,p0a.2.1,p0a.2.2) p2q true).bind fun r4=>if r4.2 then (some (.ret true)) else (some (.nxt (IntKind.i64.wrap (s3+1))))) else (some (.brk s3))
def nr (p0a:Int×(List Bool)×(List (List Int))) (p1p:Int) (p2q:Int):Option Bool:=
 (ji (p0a.1,p0a.2.1,p0a.2.2) p1p p2q (p0a.2.1.length:Int)).bind fun r1=>aW (aG (jj p0a p2q r1) aV 0) (fun r=>some r) (fun s4=>some false)
def bE (r1:Int×(List Bool)×(List (List Int))) (s11:Int) (s15:Int):Option (Out (Int×Int×Bool) Int):=
 if decide (s15<(r1.2.1.length:Int)) then ((jL (r1.1,r1.2.1,r1.2.2) s11).bind fun r34=>if r34 then ((jL (r1.1,r1.2.1,r1.2.2) s15).bind fun r35=>if r35 then ((fY (r1.1,r1.2.1,r1.2.2) s11 s15).bind fun r36=>if r36 then ((nr (r1.1,r1.2.1,r1.2.2) s11 s15).bind fun r37=>if r37 then (some (.ret (s11,s15,true))) else (some (.nxt (IntKind.i64.wrap (s15+1))))) else (some (.nxt (IntKind.i64.wrap (s15+1))))) else (some (.nxt (IntKind.i64.wrap (s15+1))))) else (some (.nxt (IntKind.i64.wrap (s15+1))))) else (some (.brk s15))
def bF (r1:Int×(List Bool)×(List (List Int))) (s11:Int):Option (Out (Int×Int×Bool) Int):=
 if decide (s11<(r1.2.1.length:Int)) then (aW (aG (bE r1 s11) aV 0) (fun r=>some (.ret r)) (fun s16=>some (.nxt (IntKind.i64.wrap (s11+1))))) else (some (.brk s11))
def gB (p0a:Int×(List Bool)×(List (List Int))):Option (Int×Int×Bool):=
 (eS (p0a.1,p0a.2.1,p0a.2.2)).bind fun r1=>aW (aG (bF r1) aV 0) (fun r=>some r) (fun s12=>some (0,0,false))
def bP (p0a:Int×(List Bool)×(List (List Int))):Option Int:=
 (aY (p0a.1,p0a.2.1,p0a.2.2)).bind fun r1=>if r1 then ((bC (p0a.1,p0a.2.1,p0a.2.2)).bind fun r2=>if r2 then (some 1) else ((gB (p0a.1,p0a.2.1,p0a.2.2)).bind fun r3=>if r3.2.2 then (some 3) else (some 2))) else (some 0)
def eG (p0:List Int):Option Bool:=
 (Ao p0).bind fun r1=>if r1 then (some true) else ((b9 p0).bind fun r2=>(bO (r2.1,r2.2.1,r2.2.2)).bind fun r3=>(bP (r2.1,r2.2.1,r2.2.2)).bind fun r4=>if r3 !=r4 then (some false) else ((be (r2.1,r2.2.1,r2.2.2)).bind fun r5=>(bC (r2.1,r2.2.1,r2.2.2)).bind fun r6=>if r5 !=r6 then (some false) else ((fb (r2.1,r2.2.1,r2.2.2)).bind fun r7=>(gB (r2.1,r2.2.1,r2.2.2)).bind fun r8=>if r7.2.2 !=r8.2.2 then (some false) else (if r7.1 !=r8.1 then (some false) else (if r7.2.1 !=r8.2.1 then (some false) else ((aY (r2.1,r2.2.1,r2.2.2)).bind fun r9=>if r9 then ((eS (r2.1,r2.2.1,r2.2.2)).bind fun r10=>if r7.2.2 then (if r3 !=3 then (some false) else ((gj (r10.1,r10.2.1,r10.2.2) r7.1).bind fun r12=>if r12 then ((gj (r10.1,r10.2.1,r10.2.2) r7.2.1).bind fun r13=>if r13 then ((cW (r10.1,r10.2.1,r10.2.2) r7.1 r7.2.1).bind fun r14=>if r14 then ((be (r2.1,r2.2.1,r2.2.2)).bind fun r15=>some ((r3==1)==r15)) else (some false)) else (some false)) else (some false))) else ((be (r2.1,r2.2.1,r2.2.2)).bind fun r11=>some ((r3==1)==r11))) else (if r3==0 then (some (!r7.2.2)) else (some false))))))))
end D
namespace R
open Go.RowKit
open D
abbrev y5:Ty:=.int .u8
abbrev y22:Ty:=.sl 5 y5
abbrev y3:Ty:=.int .i64
abbrev QL:Ty:=.prod y22 (.prod y3 y3)
abbrev DH:Ty:=.prod y3 y3
abbrev OO:Ty:=.int .u64
abbrev MY:Ty:=.prod y3 (.prod y3 (.prod y3 y3))
abbrev y4:Ty:=.bool
abbrev Qz:Ty:=.prod y4 (.prod y3 y3)
abbrev QM:Ty:=.sl 146 DH
abbrev y30:Ty:=.sl 3 y3
abbrev MZ:Ty:=.prod DH y30
abbrev QN:Ty:=.sl 235 MZ
abbrev Jf:Ty:=.prod y3 (.prod y3 (.prod y4 (.prod y3 y3)))
abbrev P2:Ty:=.sl 238 Jf
abbrev y24:Ty:=.sl 4 y4
abbrev y9:Ty:=.str
abbrev P3:Ty:=.sl 9 y9
abbrev y25:Ty:=.sl 30 y30
abbrev OP:Ty:=.int .u32
abbrev OQ:Ty:=.int .u64
abbrev y27:Ty:=.prod y3 (.prod y24 y25)
abbrev y54:Ty:=.prod y30 (.prod y3 (.prod y3 (.prod y30 y4)))
abbrev y67:Ty:=.sl 181 MY
abbrev y69:Ty:=.wr y67
theorem laidOut:laidOutB Tryz.prog=true:=by kernel_rfl
theorem OR:KII Tryz.prog 146:=⟨_,_,Tryz.underlying146,by decide,rfl,rfl,Tryz.underlying3,Tryz.underlying3,by kernel_rfl,by kernel_rfl,by kernel_rfl,by kernel_rfl,Tryz.prog.types.size - 1,by kernel_rfl⟩
theorem mz3 (w:World):(zeroValue 3).run Tryz.prog w= .ok (.int .i64 0) w:=by kernel_rfl
theorem mz4 (w:World):(zeroValue 4).run Tryz.prog w= .ok (.bool false) w:=by kernel_rfl
theorem P4:KeyOk Tryz.prog 146 (fun x:Int×Int=>Value.agg #[.int .i64 x.1,.int .i64 x.2]) Lt tM:=PH OR (Go.deep_law_laid laidOut (m:=2) (by omega) (of_decide_eq_true (by kernel_rfl)) (by kernel_rfl) (by rw[Tryz.underlying146]))
theorem kk3:KeyOk Tryz.prog 3 (fun n:Int=>Value.int .i64 n) Lr iOk:=NY Tryz.underlying3
theorem ek3:EltOk Tryz.prog 3 (fun n:Int=>Value.int .i64 n) Lr iOk 0:=NZ Tryz.underlying3 mz3
theorem ek4:EltOk Tryz.prog 4 (fun n:Bool=>Value.bool n) Pj bOk false:=Ls Tryz.underlying4 mz4
def tt:TT:=[(3,⟨false,1,none,y3,[],some 8,none,false,none,none,some (some .i64),false,none⟩),
 (4,⟨false,1,none,y4,[],some 1,none,true,none,none,none,false,none⟩),
 (5,⟨false,1,none,y5,[],some 1,none,false,none,none,some (some .u8),false,none⟩),
 (9,⟨false,1,none,y9,[],some 16,none,false,none,none,some none,false,none⟩),
 (22,⟨false,1,some 5,y22,[],some 24,none,false,none,none,none,false,none⟩),
 (24,⟨false,1,some 4,y24,[],some 24,none,false,none,none,none,false,none⟩),
 (25,⟨false,1,some 30,y25,[],some 24,none,false,none,none,none,false,none⟩),
 (27,⟨true,3,none,y27,[(0,0),(1,0),(2,0)],some 56,some [(0,1),(1,1),(2,1)],false,none,none,none,false,none⟩),
 (30,⟨false,1,some 3,y30,[],some 24,none,false,none,none,none,false,none⟩),
 (54,⟨true,5,none,y54,[(0,0),(1,0),(2,0),(3,0),(4,0)],some 72,some [(0,1),(1,1),(2,1),(3,1),(4,1)],false,none,none,none,false,none⟩),
 (57,⟨false,1,none,.bool,[],none,none,false,none,none,none,true,none⟩),
 (67,⟨false,1,some 181,y67,[],some 24,none,false,none,none,none,false,none⟩),
 (69,⟨true,1,none,y69,[(0,0)],some 24,some [(0,1)],false,none,none,none,false,none⟩),
 (94,⟨false,1,none,.bool,[],none,none,false,none,none,none,true,none⟩),
 (139,⟨true,3,none,QL,[(0,0),(1,0),(2,0)],some 40,some [(0,1),(1,1),(2,1)],false,none,none,none,false,none⟩),
 (142,⟨false,1,none,.bool,[],none,none,false,none,none,none,true,none⟩),
 (146,⟨true,2,none,DH,[(0,0),(1,0)],some 16,some [(0,1),(1,1)],false,none,none,none,false,none⟩),
 (147,⟨false,1,none,.bool,[],none,none,false,none,none,none,true,none⟩),
 (170,⟨false,1,none,.bool,[],none,none,false,none,none,none,true,none⟩),
 (172,⟨false,1,none,OO,[],some 8,none,false,none,none,some (some .u64),false,none⟩),
 (174,⟨false,1,none,.bool,[],none,none,false,none,none,none,true,none⟩),
 (181,⟨true,4,none,MY,[(0,0),(1,0),(2,0),(3,0)],some 32,some [(0,1),(1,1),(2,1),(3,1)],false,none,none,none,false,none⟩),
 (193,⟨true,3,none,Qz,[(0,0),(1,0),(2,0)],some 24,some [(0,1),(1,1),(2,1)],false,none,none,none,false,none⟩),
 (199,⟨false,1,some 146,QM,[],some 24,none,false,none,none,none,false,none⟩),
 (223,⟨false,1,none,.bool,[],none,none,false,none,some ⟨3,3,.int,.int⟩,none,false,none⟩),
 (232,⟨false,1,none,.bool,[],none,none,false,none,some ⟨146,4,.ii,.bool⟩,none,false,none⟩),
 (235,⟨true,3,none,MZ,[(0,1),(2,0)],some 40,some [(0,2),(2,1)],false,none,none,none,false,none⟩),
 (236,⟨false,1,some 235,QN,[],some 24,none,false,none,none,none,false,none⟩),
 (238,⟨true,5,none,Jf,[(0,0),(1,0),(2,0),(3,0),(4,0)],some 40,some [(0,1),(1,1),(2,1),(3,1),(4,1)],false,none,none,none,false,none⟩),
 (239,⟨false,1,some 238,P2,[],some 24,none,false,none,none,none,false,none⟩),
 (244,⟨false,1,some 9,P3,[],some 24,none,false,none,none,none,false,none⟩),
 (262,⟨false,1,none,OP,[],some 4,none,false,none,none,some (some .u32),false,none⟩),
 (265,⟨false,1,none,OQ,[],some 8,none,false,none,none,some (some .u64),false,none⟩)]
theorem Jg:TTok Tryz.prog tt:=⟨od (n:=1) (z:=.int .i64 0) ⟨⟨_,Tryz.underlying3,rfl⟩,by kernel_rfl⟩ rfl (by unfold TZ;kernel_rfl) rfl (bG rfl) (fun h=>by cases h) (fun k h=>by obtain rfl:=ae h;exact Tryz.underlying3),
 od (n:=1) (z:=.bool false) ⟨⟨_,Tryz.underlying4,rfl⟩,by kernel_rfl⟩ rfl (by unfold TZ;kernel_rfl) rfl (bG rfl) (fun h=>Tryz.underlying4) (fun k h=>by cases h),
 od (n:=1) (z:=.int .u8 0) ⟨⟨_,Tryz.underlying5,rfl⟩,by kernel_rfl⟩ rfl (by unfold TZ;kernel_rfl) rfl (bG rfl) (fun h=>by cases h) (fun k h=>by obtain rfl:=ae h;exact Tryz.underlying5),
 od (n:=1) (z:=.string ⟨#[]⟩) ⟨⟨_,Tryz.underlying9,rfl⟩,by kernel_rfl⟩ rfl (by unfold TZ;kernel_rfl) rfl (bG rfl) (fun h=>by cases h) (fun k h=>by obtain rfl:=ae h;exact Tryz.underlying9),
 wt ⟨⟨_,Tryz.underlying22,rfl⟩,by kernel_rfl⟩ Tryz.underlying22 (by unfold TZ;kernel_rfl),
 wt ⟨⟨_,Tryz.underlying24,rfl⟩,by kernel_rfl⟩ Tryz.underlying24 (by unfold TZ;kernel_rfl),
 wt ⟨⟨_,Tryz.underlying25,rfl⟩,by kernel_rfl⟩ Tryz.underlying25 (by unfold TZ;kernel_rfl),
 wu (z:=.agg #[.int .i64 0,.slice none 0 0,.slice none 0 0]) ⟨⟨_,Tryz.underlying27,rfl⟩,by kernel_rfl⟩ rfl ⟨⟨_,_,Tryz.underlying27,rfl,rfl,by kernel_rfl⟩,⟨_,_,Tryz.underlying27,rfl,rfl,by kernel_rfl⟩,⟨_,_,Tryz.underlying27,rfl,rfl,by kernel_rfl⟩,trivial⟩ (by unfold TZ;kernel_rfl) rfl (bG rfl) ⟨_,Tryz.underlying27,by kernel_rfl⟩ (fun ks h=>by cases h),
 wt ⟨⟨_,Tryz.underlying30,rfl⟩,by kernel_rfl⟩ Tryz.underlying30 (by unfold TZ;kernel_rfl),
 wu (z:=.agg #[.slice none 0 0,.int .i64 0,.int .i64 0,.slice none 0 0,.bool false]) ⟨⟨_,Tryz.underlying54,rfl⟩,by kernel_rfl⟩ rfl ⟨⟨_,_,Tryz.underlying54,rfl,rfl,by kernel_rfl⟩,⟨_,_,Tryz.underlying54,rfl,rfl,by kernel_rfl⟩,⟨_,_,Tryz.underlying54,rfl,rfl,by kernel_rfl⟩,⟨_,_,Tryz.underlying54,rfl,rfl,by kernel_rfl⟩,⟨_,_,Tryz.underlying54,rfl,rfl,by kernel_rfl⟩,trivial⟩ (by unfold TZ;kernel_rfl) rfl (bG rfl) ⟨_,Tryz.underlying54,by kernel_rfl⟩ (fun ks h=>by cases h),
 C9 (ty:=.bool) (b:=8) ⟨⟨_,Tryz.underlying57,rfl⟩,by kernel_rfl⟩ rfl (by unfold TZ;kernel_rfl),
 wt ⟨⟨_,Tryz.underlying67,rfl⟩,by kernel_rfl⟩ Tryz.underlying67 (by unfold TZ;kernel_rfl),
 wu (z:=.agg #[.slice none 0 0]) ⟨⟨_,Tryz.underlying69,rfl⟩,by kernel_rfl⟩ rfl ⟨⟨_,_,Tryz.underlying69,rfl,rfl,by kernel_rfl⟩,trivial⟩ (by unfold TZ;kernel_rfl) rfl (bG rfl) ⟨_,Tryz.underlying69,by kernel_rfl⟩ (fun ks h=>by cases h),
 C9 (ty:=.bool) (b:=8) ⟨⟨_,Tryz.underlying94,rfl⟩,by kernel_rfl⟩ rfl (by unfold TZ;kernel_rfl),
 wu (z:=.agg #[.slice none 0 0,.int .i64 0,.int .i64 0]) ⟨⟨_,Tryz.underlying139,rfl⟩,by kernel_rfl⟩ rfl ⟨⟨_,_,Tryz.underlying139,rfl,rfl,by kernel_rfl⟩,⟨_,_,Tryz.underlying139,rfl,rfl,by kernel_rfl⟩,⟨_,_,Tryz.underlying139,rfl,rfl,by kernel_rfl⟩,trivial⟩ (by unfold TZ;kernel_rfl) rfl (bG rfl) ⟨_,Tryz.underlying139,by kernel_rfl⟩ (fun ks h=>by cases h),
 C9 (ty:=.bool) (b:=8) ⟨⟨_,Tryz.underlying142,rfl⟩,by kernel_rfl⟩ rfl (by unfold TZ;kernel_rfl),
 wu (z:=.agg #[.int .i64 0,.int .i64 0]) ⟨⟨_,Tryz.underlying146,rfl⟩,by kernel_rfl⟩ rfl ⟨⟨_,_,Tryz.underlying146,rfl,rfl,by kernel_rfl⟩,⟨_,_,Tryz.underlying146,rfl,rfl,by kernel_rfl⟩,trivial⟩ (by unfold TZ;kernel_rfl) rfl (bG rfl) ⟨_,Tryz.underlying146,by kernel_rfl⟩ (fun ks h=>by cases h),
 C9 (ty:=.bool) (b:=8) ⟨⟨_,Tryz.underlying147,rfl⟩,by kernel_rfl⟩ rfl (by unfold TZ;kernel_rfl),
 C9 (ty:=.bool) (b:=8) ⟨⟨_,Tryz.underlying170,rfl⟩,by kernel_rfl⟩ rfl (by unfold TZ;kernel_rfl),
 od (n:=1) (z:=.int .u64 0) ⟨⟨_,Tryz.underlying172,rfl⟩,by kernel_rfl⟩ rfl (by unfold TZ;kernel_rfl) rfl (bG rfl) (fun h=>by cases h) (fun k h=>by obtain rfl:=ae h;exact Tryz.underlying172),
 C9 (ty:=.bool) (b:=8) ⟨⟨_,Tryz.underlying174,rfl⟩,by kernel_rfl⟩ rfl (by unfold TZ;kernel_rfl),
 wu (z:=.agg #[.int .i64 0,.int .i64 0,.int .i64 0,.int .i64 0]) ⟨⟨_,Tryz.underlying181,rfl⟩,by kernel_rfl⟩ rfl ⟨⟨_,_,Tryz.underlying181,rfl,rfl,by kernel_rfl⟩,⟨_,_,Tryz.underlying181,rfl,rfl,by kernel_rfl⟩,⟨_,_,Tryz.underlying181,rfl,rfl,by kernel_rfl⟩,⟨_,_,Tryz.underlying181,rfl,rfl,by kernel_rfl⟩,trivial⟩ (by unfold TZ;kernel_rfl) rfl (bG rfl) ⟨_,Tryz.underlying181,by kernel_rfl⟩ (fun ks h=>by cases h),
 wu (z:=.agg #[.bool false,.int .i64 0,.int .i64 0]) ⟨⟨_,Tryz.underlying193,rfl⟩,by kernel_rfl⟩ rfl ⟨⟨_,_,Tryz.underlying193,rfl,rfl,by kernel_rfl⟩,⟨_,_,Tryz.underlying193,rfl,rfl,by kernel_rfl⟩,⟨_,_,Tryz.underlying193,rfl,rfl,by kernel_rfl⟩,trivial⟩ (by unfold TZ;kernel_rfl) rfl (bG rfl) ⟨_,Tryz.underlying193,by kernel_rfl⟩ (fun ks h=>by cases h),
 wt ⟨⟨_,Tryz.underlying199,rfl⟩,by kernel_rfl⟩ Tryz.underlying199 (by unfold TZ;kernel_rfl),
 ON (m:=⟨3,3,.int,.int⟩) (ty:=.bool) ⟨⟨_,Tryz.underlying223,rfl⟩,by kernel_rfl⟩ rfl ⟨Tryz.underlying223,kk3,ek3⟩,
 ON (m:=⟨146,4,.ii,.bool⟩) (ty:=.bool) ⟨⟨_,Tryz.underlying232,rfl⟩,by kernel_rfl⟩ rfl ⟨Tryz.underlying232,P4,ek4⟩,
 wu (z:=.agg #[.int .i64 0,.int .i64 0,.slice none 0 0]) ⟨⟨_,Tryz.underlying235,rfl⟩,by kernel_rfl⟩ rfl ⟨⟨_,_,Tryz.underlying235,rfl,rfl,by kernel_rfl⟩,⟨_,_,Tryz.underlying235,rfl,rfl,by kernel_rfl⟩,trivial⟩ (by unfold TZ;kernel_rfl) rfl (bG rfl) ⟨_,Tryz.underlying235,by kernel_rfl⟩ (fun ks h=>by cases h),
 wt ⟨⟨_,Tryz.underlying236,rfl⟩,by kernel_rfl⟩ Tryz.underlying236 (by unfold TZ;kernel_rfl),
 wu (z:=.agg #[.int .i64 0,.int .i64 0,.bool false,.int .i64 0,.int .i64 0]) ⟨⟨_,Tryz.underlying238,rfl⟩,by kernel_rfl⟩ rfl ⟨⟨_,_,Tryz.underlying238,rfl,rfl,by kernel_rfl⟩,⟨_,_,Tryz.underlying238,rfl,rfl,by kernel_rfl⟩,⟨_,_,Tryz.underlying238,rfl,rfl,by kernel_rfl⟩,⟨_,_,Tryz.underlying238,rfl,rfl,by kernel_rfl⟩,⟨_,_,Tryz.underlying238,rfl,rfl,by kernel_rfl⟩,trivial⟩ (by unfold TZ;kernel_rfl) rfl (bG rfl) ⟨_,Tryz.underlying238,by kernel_rfl⟩ (fun ks h=>by cases h),
 wt ⟨⟨_,Tryz.underlying239,rfl⟩,by kernel_rfl⟩ Tryz.underlying239 (by unfold TZ;kernel_rfl),
 wt ⟨⟨_,Tryz.underlying244,rfl⟩,by kernel_rfl⟩ Tryz.underlying244 (by unfold TZ;kernel_rfl),
 od (n:=1) (z:=.int .u32 0) ⟨⟨_,Tryz.underlying262,rfl⟩,by kernel_rfl⟩ rfl (by unfold TZ;kernel_rfl) rfl (bG rfl) (fun h=>by cases h) (fun k h=>by obtain rfl:=ae h;exact Tryz.underlying262),
 od (n:=1) (z:=.int .u64 0) ⟨⟨_,Tryz.underlying265,rfl⟩,by kernel_rfl⟩ rfl (by unfold TZ;kernel_rfl) rfl (bG rfl) (fun h=>by cases h) (fun k h=>by obtain rfl:=ae h;exact Tryz.underlying265),trivial⟩
theorem mixed:Tryz.prog.follows .mixedOrders=true:=by kernel_rfl
def KF (fn:Func):Code:=match fn.body with
 | some c=>c
 | none=>.skip
theorem fk {k:FuncId} {fn:Func} {f:FS} (ft:FT) (hF:FTok Tryz.prog ft) (hf:Tryz.prog.funcs[k]? =some fn) (ann:Ann) (an:List (Nat×Ty):=[]) (tr:Trs:=[]) (hb:fn.body=some (KF fn):=by rfl) (he:(fn.name == "runtime.NumGoroutine")=false:=by kernel_rfl) (hcl:f.cl=none:=by rfl) (hm:Nat.ble f.ps.length fn.ntmps=true:=by rfl) (hdp:(xL f.rs&&sj f.ps)=true:=by rfl)
  (hmod: ∀d,appP f.ps f.m d=gu ⟨tt,ft,an,fn.ntmps,tr⟩ (FP ⟨tt,ft,an,fn.ntmps,tr⟩ fn.results.toList f.rs f.ps d) (KF fn) ann (fun r=>some r) (fun _ _=>none) (FP ⟨tt,ft,an,fn.ntmps,tr⟩ fn.results.toList f.rs f.ps d) (lX (sJ f.ps d)):=by intro d;kernel_rfl):FOk Tryz.prog k f:=
 fok (V:=⟨tt,ft,an,fn.ntmps,tr⟩) Jg hF mixed hf hb rfl (enters_of hf he hb) hcl (bG hm) hdp ann hmod
def FX:FS:=⟨[.rd y22],[y4],Ao,none⟩
def o9:FS:=⟨[.rd y3,.rd y3,.rd y3],[y4],jf,none⟩
def sO:FS:=⟨[.rd y27],[y4],jG,none⟩
def bD:FS:=⟨[.rd y27],[y4],aY,none⟩
def oi:FS:=⟨[.rd y30,.rd y3],[y3],jH,none⟩
def nI:FS:=⟨[],[y27],kD,none⟩
def pa:FS:=⟨[.rd y27,.rd y30,.rd y24],[y27],fv,none⟩
def lD:FS:=⟨[.rd y27],[y24],gi,none⟩
def yF:FS:=⟨[.rd y30,.rd y30],[y3],mA,none⟩
def uK:FS:=⟨[.rd y27,.rd y30,.rd y3],[y30],kQ,none⟩
def nJ:FS:=⟨[.rd y27],[y30],fN,none⟩
def mF:FS:=⟨[.rd y27],[y27],eR,none⟩
def mG:FS:=⟨[.rd y27],[y27],eS,none⟩
def yG:FS:=⟨[.rd y22],[.int .i64,.int .i64],o7,some (139,9)⟩
def uL:FS:=⟨[.crs 139 5],[y3],gx,none⟩
def fe:FS:=⟨[.crs 139 5,.rd y3],[y3],bJ,none⟩
def lE:FS:=⟨[.crs 139 5,.rd y30],[y3],dG,none⟩
def qG:FS:=⟨[.rd y54,.rd y3,.rd y3],[y3],kd,none⟩
def nK:FS:=⟨[.rd y54,.rd y3],[y4],iD,none⟩
def nL:FS:=⟨[.rd y54,.rd y3],[y27,y4],de,none⟩
def mH:FS:=⟨[.rd y3],[y4],iJ,none⟩
def oj:FS:=⟨[.rd MY],[y3],jI,none⟩
def uM:FS:=⟨[.rd y69],[y4],nk,none⟩
def jM:FS:=⟨[.rd y69],[y4],eV,none⟩
def lF:FS:=⟨[.rd y67],[y3],eW,none⟩
def lG (n:Nat):FS:=⟨[.rd y67],[y3],cJ n,none⟩
def uN:FS:=⟨[.rd y67],[y69],qe,none⟩
def nt:FS:=⟨[.rd y69,.rd y69,.rd MY],[y69],cG,none⟩
def qf:FS:=⟨[.rd y3],[y69],jt,none⟩
def kh (n:Nat):FS:=⟨[.rd y69,.rd y3,.rd y3],[y69],gy n,none⟩
def jk (n:Nat):FS:=⟨[.rd y67],[y69],bR n,none⟩
def nM:FS:=⟨[.rd y69],[y69,y4],iF,none⟩
def sP:FS:=⟨[.ptr 54 y54,.rd y3,.rd y3],[],jJ,none⟩
def kj (n:Nat):FS:=⟨[.ptr 54 y54,.rd y67],[Qz],cg n,none⟩
def kl:FS:=⟨[.rd y69],[y54,y4],eF,none⟩
def kS:FS:=⟨[.crs 139 5,.rd y3],[y4],gz,none⟩
def yH:FS:=⟨[.rd y9,.rd y5],[P3],yE,none⟩
def iU:FS:=⟨[.rd y3],[y9],iS,none⟩
def pb:FS:=⟨[.rd y3],[y9],lA,none⟩
def sQ:FS:=⟨[.rd MY],[y9],sM,none⟩
def mI:FS:=⟨[.rd y9],[y3,y4],mB,none⟩
def uO:FS:=⟨[.rd y9],[MY],uJ,none⟩
def pc:FS:=⟨[.rd y9],[y69,y4],fw,none⟩
def uP:FS:=⟨[.crs 139 5,.rd P3],[y9],nl,none⟩
def sR:FS:=⟨[.crs 139 5],[y69],lB,none⟩
def nN:FS:=⟨[.rd y3],[y69],nH,none⟩
def nv (n:Nat):FS:=⟨[.crs 139 5,.rd y3],[y69],cv n,none⟩
def uQ:FS:=⟨[.crs 139 5],[y69],nm,none⟩
def pd:FS:=⟨[.crs 139 5],[y27],gT,none⟩
def uR:FS:=⟨[.crs 139 5],[y27],np,none⟩
def uS:FS:=⟨[.crs 139 5],[y27],nq,none⟩
def fP:FS:=⟨[.rd y22],[y27],b9,none⟩
def kT:FS:=⟨[.rd y3,.rd y3,.rd y3],[y4],fx,none⟩
def bV:FS:=⟨[.rd y27],[y4],bd,none⟩
def ba:FS:=⟨[.rd y24],[y24],fun _=>none,some (4,1)⟩
def gZ:FS:=⟨[.rd y27],[y24],cw,none⟩
def gl:FS:=⟨[.rd y27],[y24],b7,none⟩
def lQ:FS:=⟨[.rd y27],[y30],fV,none⟩
def cr:FS:=⟨[.rd y30,.fn [y3] [y4]],[y3],aJ,none⟩
def bu:FS:=⟨[.rd y30,.fn [y3] [y4]],[y4],aL,none⟩
def cU:FS:=⟨[.rd y30,.rd y3],[y3],bA,none⟩
def eg:FS:=⟨[.rd y30,.rd y3],[y4],bH,none⟩
def gC:FS:=⟨[.rd y3,.cap 30 y30],[y4],dy,none⟩
def ig:FS:=⟨[.rd y3,.cap 27 y27,.cap 30 y30],[y4],bs,none⟩
def ff:FS:=⟨[.eat (.sl 3 y3),.rd y3,.rd y3],[.sl 3 y3],cL,none⟩
def fG:FS:=⟨[.rd y27],[y4],be,none⟩
def km:FS:=⟨[.rd y27,.rd y30],[y4],eY,none⟩
def ga:FS:=⟨[.rd y27,.rd y3,.rd y3],[y4],cW,none⟩
def pe:FS:=⟨[.rd y3,.cap 27 y27,.cap 3 y3],[y4],fy,none⟩
def om:FS:=⟨[.rd y27,.rd y3],[y4],gj,none⟩
def lR:FS:=⟨[.rd y3,.rd y3,.fn [y3] [y4],.fn [y3,y3] [y3,y4]],[y27,y4],fW,none⟩
def jN:FS:=⟨[.rd OP,.rd OP],[OP,OP],oe,none⟩
def jO:FS:=⟨[.rd OQ,.rd OQ],[OQ,OQ],jK,none⟩
def kU:FS:=⟨[.rd OO,.rd OO],[OO,OO],kR,none⟩
def fg:FS:=⟨[.rd y30,.rd y3],[y30],eZ,none⟩
def sS:FS:=⟨[],[y27],oh,none⟩
def cS:FS:=⟨[.rd y25,.fn [y30] [y4]],[y3],br,none⟩
def fE:FS:=⟨[.rd y30,.rd y30],[y4],cT,none⟩
def ij:FS:=⟨[.rd y30,.cap 30 y30],[y4],eB,none⟩
def iZ:FS:=⟨[.rd y27,.rd y30],[y30,y3],cy,none⟩
def iM:FS:=⟨[.rd y27],[y30],cq,none⟩
def gD:FS:=⟨[.rd y3,.cap 30 y30],[y3],aR,none⟩
def gE:FS:=⟨[.rd y3,.cap 27 y27,.capf 174 [y3] [y3]],[y4],bM,none⟩
def qH:FS:=⟨[.rd y3],[y4],mC,none⟩
def hY:FS:=⟨[.rd y27,.rd y3,.rd y3],[y3],bh,none⟩
def gF:FS:=⟨[.rd y3,.rd y3,.cap 27 y27,.capf 174 [y3] [y3],.cap 30 y30],[y3,y4],bN,none⟩
def il:FS:=⟨[.rd y27],[y27],bZ,none⟩
def kF:FS:=⟨[.rd DH,.rd y3,.cap 27 y27,.cap 27 y27],[DH],cE,none⟩
def fh:FS:=⟨[.rd y27,.rd y27],[],fun _ _=>none,some (27,1219)⟩
def mJ:FS:=⟨[.rd y30],[y30],fa,none⟩
def fQ:FS:=⟨[.ow (.sl 3 y3)],[],df,none⟩
def eH:FS:=⟨[.eat (.sl 3 y3)],[.sl 3 y3],bQ,none⟩
def lH:FS:=⟨[.rd y30],[y30],fA,none⟩
def uT:FS:=⟨[.rd y27,.rd y3,.rd y3],[y30],ix,none⟩
def lS:FS:=⟨[.rd y27,.rd y3,.rd y3,.rd y3],[y30],dR,none⟩
def ja:FS:=⟨[.rd DH,.fn [DH,y3] [DH],.fn [DH] [y4]],[y30,y4],cz,none⟩
def iN:FS:=⟨[.rd y27,.rd y3],[y4],bj,none⟩
def qI:FS:=⟨[.rd DH,.cap 27 y27],[y4],ke,none⟩
def uU:FS:=⟨[.rd y27,.rd y3,.rd y3],[y4],ew,none⟩
def nO:FS:=⟨[.rd y3,.cap 27 y27,.cap 3 y3],[y4],iG,none⟩
def mK:FS:=⟨[.rd y27],[y3,y3,y4],fb,none⟩
def iO:FS:=⟨[.rd y27],[y3],bO,none⟩
def qJ:FS:=⟨[.rd y27],[y24],kg,none⟩
def lT:FS:=⟨[.rd y27],[y30],fX,none⟩
def jl:FS:=⟨[.rd y27,.rd y3],[y24],fB,none⟩
def fH:FS:=⟨[.rd y27],[y4],bC,none⟩
def mL:FS:=⟨[.rd y27,.rd y3],[y4],gA,none⟩
def sU:FS:=⟨[.rd y27,.rd y3],[y4],jL,none⟩
def lU:FS:=⟨[.rd y27,.rd y3,.rd y3],[y4],fY,none⟩
def oo:FS:=⟨[.rd y27,.rd y3,.rd y3],[y3],gk,none⟩
def sV:FS:=⟨[.rd y3],[y30],mE,none⟩
def qg:FS:=⟨[.rd P2,.rd Jf],[y4],iy,none⟩
def pf:FS:=⟨[.rd y27,.rd y3,.rd y3],[y30],c8,none⟩
def pg:FS:=⟨[.rd y27,.rd y3,.rd y3,.rd y3],[y30],ji,none⟩
def ph:FS:=⟨[.rd y27,.rd y3],[y4],gY,none⟩
def sW:FS:=⟨[.rd P2,.rd y3],[y30],lC,none⟩
def pj:FS:=⟨[.rd y27,.rd y3,.rd y27,.rd y3,.rd y4],[y30,y4],dM,none⟩
def uV:FS:=⟨[.rd y27,.rd y3,.rd y3],[y4],nr,none⟩
def mM:FS:=⟨[.rd y27],[y3,y3,y4],gB,none⟩
def iP:FS:=⟨[.rd y27],[y3],bP,none⟩
def pn:FS:=⟨[.rd y22],[y4],eG,none⟩
end R
namespace R
open Go.RowKit
open D
theorem M0:FOk Tryz.prog 8 FX:=fk [] trivial Tryz.func8 .no
theorem rA:FOk Tryz.prog 154 o9:=fk [] trivial Tryz.func154 .no
theorem Ap:FOk Tryz.prog 77 sO:=fk [(154,o9)] ⟨rA,trivial⟩ Tryz.func77 (.two .no (.two .no (.two .no (.two (.two .no (.loop [.slot 4 (.num .i64)] (.two .no (.two (.two .no (.two .no (.loop [.slot 5 (.num .i64)] .no))) .no)))) .no))))
theorem bW:FOk Tryz.prog 18 bD:=fk [(77,sO)] ⟨Ap,trivial⟩ Tryz.func18 .no
theorem sX:FOk Tryz.prog 180 oi:=fk [] trivial Tryz.func180 (.two .no (.two (.two .no (.loop [.slot 5 (.num .i64)] .no)) .no))
theorem tU:FOk Tryz.prog 188 nI:=fk [] trivial Tryz.func188 (.two .no (.two .no (.two (.two .no (.loop [.slot 1 (.own 3 y3),.slot 2 (.num .i64)] .no)) .no)))
theorem wx:FOk Tryz.prog 100 pa:=fk [(180,oi),(188,nI)] ⟨sX,tU,trivial⟩ Tryz.func100 (.two .no (.two .no (.two .no (.two .no (.two .no (.two (.two .no (.loop [.slot 8 (.own 3 y3),.slot 9 (.own 3 y3),.slot 10 (.num .i64),.box 7 [(.num .i64),(.own 4 y4),(.own 30 y30)]] (.two .no (.two (.two .no (.two (.two .no (.loop [.slot 8 (.own 3 y3),.slot 9 (.own 3 y3),.slot 11 (.own 3 y3),.slot 12 (.num .i64)] (.two .no (.two (.two .no (.two .no (.join [.slot 8 (.own 3 y3),.slot 9 (.own 3 y3),.slot 14 (.num .i64)] .no .no))) .no)))) .no)) .no)))) .no))))))
theorem oq:FOk Tryz.prog 101 lD:=fk [] trivial Tryz.func101 (.two .no (.two .no (.two (.two .no (.loop [.row 3 4 y4,.slot 4 (.num .i64)] (.two .no (.two (.two .no (.loop [.row 3 4 y4,.slot 5 (.num .i64)] (.two .no (.two (.two .no (.loop [.row 3 4 y4,.slot 6 (.num .i64)] (.two .no (.join [.row 3 4 y4] .no .no)))) .no)))) .no)))) .no)))
theorem FY:FOk Tryz.prog 76 yF:=fk [] trivial Tryz.func76 (.two .no (.two (.two .no (.loop [.slot 5 (.num .i64)] .no)) .no))
theorem Da:FOk Tryz.prog 242 uK:=fk [] trivial Tryz.func242 (.two .no (.two .no (.two (.two .no (.loop [.slot 7 (.own 3 y3),.slot 8 (.num .i64)] (.two .no (.join [.slot 7 (.own 3 y3)] .no .no)))) .no)))
theorem tV:FOk Tryz.prog 189 nJ:=fk [(76,yF),(101,lD),(242,uK)] ⟨FY,oq,Da,trivial⟩ Tryz.func189 (.two .no (.two .no (.two .no (.two (.two .no (.loop [.slot 4 (.own 3 y3),.slot 5 (.num .i64)] (.two .no (.two (.two .no (.two (.two .no (.at [.slot 6 (.num .i64)] .no)) (.two (.two .no (.at [.slot 6 (.num .i64)] .no)) .no))) .no)))) (.two (.two .no (.loop [.slot 4 (.own 3 y3),.slot 7 (.num .i64)] (.two .no (.two (.two .no (.two .no (.two (.two .no (.loop [.slot 8 (.own 30 y30),.slot 9 (.own 3 y3),.slot 10 (.num .i64)] (.two .no (.two (.at [.slot 8 (.own 30 y30),.slot 9 (.own 3 y3)] (.two .no (.two .no (.two .no (.two (.two .no (.loop [.slot 12 (.num .i64),.slot 13 (.num .i64)] (.two .no (.two (.at [.slot 12 (.num .i64)] .no) .no)))) (.two (.two .no (.at [.slot 8 (.own 30 y30),.slot 12 (.num .i64),.gone 11] .no)) .no)))))) .no)))) .no))) .no)))) .no)))))
theorem sY:FOk Tryz.prog 102 mF:=fk [(100,pa),(101,lD),(189,nJ)] ⟨wx,oq,tV,trivial⟩ Tryz.func102 .no
theorem qK:FOk Tryz.prog 40 mG:=fk [(18,bD),(102,mF)] ⟨bW,sY,trivial⟩ Tryz.func40 .no
theorem FZ:FOk Tryz.prog 66 yG:=MX (T:=139) (OM (V:=⟨tt,[],[],32,[]⟩) Jg trivial mixed Tryz.func66 rfl rfl (enters_of Tryz.func66 (by kernel_rfl) rfl) (bG rfl) (.two .no (.two .no (.two (.two .no (.loop [.slot 3 (.num .i64),.slot 4 (.num .i64)] .no)) .no))) (fun xs=>by kernel_rfl)) rfl
theorem Db:FOk Tryz.prog 218 uL:=fk [] trivial Tryz.func218 (.two .no (.two .no (.two .no (.two (.two .no (.at [.slot 3 (.num .i64),.cur 0] .no)) .no))))
theorem gm:FOk Tryz.prog 146 fe:=fk [(218,uL)] ⟨Db,trivial⟩ Tryz.func146 .no
theorem po:FOk Tryz.prog 110 lE:=fk [(146,fe)] ⟨gm,trivial⟩ Tryz.func110 .no
end R
namespace R
open Go.RowKit
open D
theorem yI:FOk Tryz.prog 95 qG:=fk [] trivial Tryz.func95 (.two .no (.two .no (.join [.slot 7 (.num .i64)] .no (.two (.two .no (.loop [.slot 7 (.num .i64),.slot 8 (.num .i64)] (.two .no (.join [.slot 7 (.num .i64)] .no .no)))) (.two .no (.two (.two .no (.loop [.slot 9 (.num .i64),.slot 10 (.num .i64)] (.two .no (.join [.slot 9 (.num .i64)] .no .no)))) .no))))))
theorem tW:FOk Tryz.prog 96 nK:=fk [] trivial Tryz.func96 .no
theorem tX:FOk Tryz.prog 93 nL:=fk [(95,qG),(96,nK),(180,oi)] ⟨yI,tW,sX,trivial⟩ Tryz.func93 (.two .no (.two .no (.two .no (.two (.two .no (.loop [.slot 7 (.own 3 y3),.slot 8 (.num .i64),.box 6 [(.num .i64),(.own 4 y4),(.own 30 y30)]] (.two .no (.two (.two .no (.two (.two .no (.loop [.slot 7 (.own 3 y3),.slot 9 (.own 3 y3),.slot 10 (.num .i64)] (.two .no (.two (.two .no (.two .no (.join [.slot 7 (.own 3 y3),.slot 12 (.num .i64)] .no .no))) .no)))) .no)) .no)))) .no))))
theorem qL:FOk Tryz.prog 94 mH:=fk [(154,o9)] ⟨rA,trivial⟩ Tryz.func94 .no
theorem sZ:FOk Tryz.prog 273 oj:=fk [(94,mH),(154,o9)] ⟨qL,rA,trivial⟩ Tryz.func273 (.two .no (.two (.two .no (.join [.slot 5 .boo] .no (.two .no (.two .no (.two .no (.join [.slot 37 .boo] .no .no)))))) .no))
theorem Dc:FOk Tryz.prog 271 uM:=fk [(273,oj)] ⟨sZ,trivial⟩ Tryz.func271 (.two .no (.two .no (.two (.two .no (.loop [.slot 3 (.num .i64),.slot 4 (.num .i64)] .no)) .no)))
theorem mN:FOk Tryz.prog 246 jM:=fk [(271,uM)] ⟨Dc,trivial⟩ Tryz.func246 .no
theorem ot:FOk Tryz.prog 249 lF:=fk [(273,oj)] ⟨sZ,trivial⟩ Tryz.func249 (.two .no (.two .no (.two .no (.two (.loop [.slot 3 (.num .i64),.slot 4 (.num .i64)] .no) .no))))
theorem ta: ∀n,FOk Tryz.prog 247 (lG n)
 | 0=>lx (f:=lG 0) (enters_of Tryz.func247 (by kernel_rfl) rfl) rfl (fun d=>rfl)
 | n+1=>by
  have ih:=ta n
  exact fk [(247,(lG n)),(249,lF)] ⟨ih,ot,trivial⟩ Tryz.func247 (.two .no (.two .no (.two .no (.two (.two .no (.two (.two .no (.at [.slot 15 .boo] .no)) .no)) .no))))
theorem Dd:FOk Tryz.prog 202 uN:=fk [] trivial Tryz.func202 .no
theorem qi:FOk Tryz.prog 263 nt:=fk [(202,uN)] ⟨Dd,trivial⟩ Tryz.func263 .no
theorem uW:FOk Tryz.prog 261 qf:=fk [] trivial Tryz.func261 .no
theorem qM: ∀n,FOk Tryz.prog 272 (kh n)
 | 0=>lx (f:=kh 0) (enters_of Tryz.func272 (by kernel_rfl) rfl) rfl (fun d=>rfl)
 | n+1=>by
  have ih:=qM n
  exact fk [(261,qf),(263,nt),(272,(kh n))] ⟨uW,qi,ih,trivial⟩ Tryz.func272 .no
theorem pq: ∀n,FOk Tryz.prog 248 (jk n)
 | 0=>lx (f:=jk 0) (enters_of Tryz.func248 (by kernel_rfl) rfl) rfl (fun d=>rfl)
 | n+1=>by
  have ih:=pq n
  exact fk [(248,(jk n)),(249,lF),(263,nt),(272,(kh jX))] ⟨ih,ot,qi,(qM jX),trivial⟩ Tryz.func248 (.two .no (.two .no (.two .no (.two (.two .no (.two (.two .no (.at [.slot 15 .boo] .no)) .no)) .no))))
theorem tY:FOk Tryz.prog 207 nM:=fk [(246,jM),(247,(lG jX)),(248,(jk jX))] ⟨mN,(ta jX),(pq jX),trivial⟩ Tryz.func207 .no
theorem Aq:FOk Tryz.prog 250 sP:=fk [] trivial Tryz.func250 (.two .no (.loop [.slot 6 (.num .i64),.par 4 [3] 3 y3] (.two .no (.two (.at [.par 4 [3] 3 y3] .no) .no))))
theorem qN: ∀n,FOk Tryz.prog 208 (kj n)
 | 0=>lx (f:=kj 0) (enters_of Tryz.func208 (by kernel_rfl) rfl) rfl (fun d=>rfl)
 | n+1=>by
  have ih:=qN n
  exact fk [(208,(kj n)),(249,lF),(250,sP)] ⟨ih,ot,Aq,trivial⟩ Tryz.func208 (.two .no (.two .no (.two .no (.two (.two .no (.two .no (.two .no (.two .no (.two .no (.two .no (.two (.two .no (.two .no (.two .no (.two .no (.two .no (.two (.two .no (.at [.box 11 [.boo,(.num .i64),(.num .i64)]] .no)) (.two (.two .no (.at [.box 11 [.boo,(.num .i64),(.num .i64)]] .no)) .no))))))) .no))))))) .no))))
end R
namespace R
open Go.RowKit
open D
theorem pv:FOk Tryz.prog 125 kl:=fk [(207,nM),(208,(kj jX))] ⟨tY,(qN jX),trivial⟩ Tryz.func125 (.two .no (.two .no (.two .no (.two .no (.two (.two .no (.loop [.slot 6 (.num .i64),.slot 7 (.num .i64)] (.two .no (.two (.at [.slot 6 (.num .i64)] .no) .no)))) .no)))))
theorem nw:FOk Tryz.prog 144 kS:=fk [(146,fe)] ⟨gm,trivial⟩ Tryz.func144 .no
theorem F5:FOk Tryz.prog 276 yH:=fk [] trivial Tryz.func276 (.two .no (.two .no (.two .no (.two (.two .no (.loop [.slot 5 (.own 9 y9),.slot 6 (.num .i64),.slot 7 (.num .i64)] (.two .no (.two (.at [.slot 5 (.own 9 y9),.slot 6 (.num .i64)] .no) .no)))) .no))))
theorem lV:FOk Tryz.prog 309 iU:=fk [(94,mH)] ⟨qL,trivial⟩ Tryz.func309 .no
theorem wz:FOk Tryz.prog 310 pb:=fk [] trivial Tryz.func310 (.two .no (.two .no (.two .no (.two .no (.two (.loop [.slot 0 (.num .i64),.slot 3 .str] (.two .no (.two .no (.two (.two .no (.at [.slot 5 (.num .i64)] .no)) .no)))) .no)))))
theorem Ar:FOk Tryz.prog 298 sQ:=fk [(309,iU),(310,pb)] ⟨lV,wz,trivial⟩ Tryz.func298 .no
theorem tc:FOk Tryz.prog 299 mI:=fk [(309,iU)] ⟨lV,trivial⟩ Tryz.func299 (.two .no (.two (.two .no (.loop [.slot 4 (.num .i64)] .no)) .no))
theorem De:FOk Tryz.prog 277 uO:=fk [(298,sQ),(299,mI)] ⟨Ar,tc,trivial⟩ Tryz.func277 (.two .no (.two (.two .no (.loop [.slot 3 (.num .i64)] .no)) .no))
theorem wA:FOk Tryz.prog 259 pc:=fk [(246,jM),(276,yH),(277,uO)] ⟨mN,F5,De,trivial⟩ Tryz.func259 (.two .no (.two .no (.two .no (.two (.two .no (.loop [.slot 6 (.num .i64),.box 4 [(.own 181 MY)]] .no)) .no))))
theorem Df:FOk Tryz.prog 260 uP:=fk [(146,fe)] ⟨gm,trivial⟩ Tryz.func260 .no
theorem As:FOk Tryz.prog 238 sR:=fk [(259,pc),(260,uP)] ⟨wA,Df,trivial⟩ Tryz.func238 .no
theorem tZ:FOk Tryz.prog 262 nN:=fk [] trivial Tryz.func262 .no
theorem uX: ∀n,FOk Tryz.prog 239 (nv n)
 | 0=>lx (f:=nv 0) (enters_of Tryz.func239 (by kernel_rfl) rfl) rfl (fun d=>rfl)
 | n+1=>by
  have ih:=uX n
  exact fk [(110,lE),(144,kS),(146,fe),(239,(nv n)),(261,qf),(262,nN),(263,nt)] ⟨po,nw,gm,ih,uW,tZ,qi,trivial⟩ Tryz.func239 (.two .no (.two .no (.two (.two .no (.two (.two .no (.at [.slot 20 .boo] .no)) (.two .no (.two (.two .no (.at [.slot 33 .boo] .no)) .no)))) .no)))
theorem Dg:FOk Tryz.prog 172 uQ:=fk [(144,kS),(146,fe),(238,sR),(239,(nv jX))] ⟨nw,gm,As,(uX jX),trivial⟩ Tryz.func172 .no
theorem wB:FOk Tryz.prog 217 pd:=fk [(144,kS),(146,fe)] ⟨nw,gm,trivial⟩ Tryz.func217 (.two .no (.two .no (.two .no (.two (.two .no (.loop [.slot 5 (.num .i64),.box 4 [(.num .i64),(.own 4 .bool),(.own 30 y30)],.cur 0] (.two .no (.two (.two .no (.two (.two .no (.loop [.slot 6 (.own 3 y3),.slot 7 (.num .i64),.cur 0] (.two .no (.two (.two .no (.two (.two .no (.at [.slot 8 (.num .i64),.cur 0] .no)) (.two (.two .no (.at [.slot 8 (.num .i64)] .no)) .no))) .no)))) .no)) .no)))) .no))))
theorem Dh:FOk Tryz.prog 145 uR:=fk [(93,nL),(125,kl),(144,kS),(172,uQ),(217,pd)] ⟨tX,pv,nw,Dg,wB,trivial⟩ Tryz.func145 .no
theorem Di:FOk Tryz.prog 67 uS:=fk [(110,lE),(145,uR),(146,fe)] ⟨po,Dh,gm,trivial⟩ Tryz.func67 (.two .no (.two .no (.two (.two .no (.at [.cur 0,.box 3 [(.num .i64),(.own 4 y4),(.own 30 y30)]] .no)) .no)))
end R
namespace R
open Go.RowKit
open D
theorem kG:FOk Tryz.prog 56 fP:=fk [(66,yG),(67,uS)] ⟨FZ,Di,trivial⟩ Tryz.func56 .no
theorem nz:FOk Tryz.prog 174 kT:=fk [] trivial Tryz.func174 .no
theorem cA:FOk Tryz.prog 97 bV:=fk [(174,kT)] ⟨nz,trivial⟩ Tryz.func97 (.two .no (.two .no (.two .no (.two (.two .no (.loop [.slot 32 (.num .i64)] (.two .no (.two .no (.two (.two .no (.two (.two .no (.loop [.slot 38 (.num .i64)] .no)) .no)) .no))))) .no))))
theorem jm:FOk Tryz.prog 194 ba:=FU (f:=ba) (lx (f:=⟨ba.ps,ba.rs,ba.m,none⟩) (enters_of Tryz.func194 (by kernel_rfl) rfl) rfl (fun d=>rfl)) (Jc (V:=⟨tt,[],[(5,.raw)],8,[]⟩) Jg trivial mixed Tryz.func194 rfl rfl (enters_of Tryz.func194 (by kernel_rfl) rfl) (bG rfl) .no (fun E bn xs=>by cases bn <;> kernel_rfl))
theorem ko:FOk Tryz.prog 107 gZ:=fk [(194,ba)] ⟨jm,trivial⟩ Tryz.func107 (.two .no (.two .no (.two (.two .no (.loop [.slot 4 .boo,.row 3 4 y4] (.two .no (.two .no (.two .no (.loop [.slot 4 .boo,.slot 16 (.num .i64),.row 3 4 y4] (.two .no (.two .no (.two (.two .no (.two .no (.loop [.slot 4 .boo,.slot 23 (.num .i64),.row 3 4 y4] (.two .no (.two .no (.two (.at [.slot 4 .boo,.row 3 4 y4] .no) .no)))))) .no))))))))) .no)))
theorem jP:FOk Tryz.prog 108 gl:=fk [] trivial Tryz.func108 (.two .no (.two .no (.two .no (.two (.two .no (.loop [.slot 4 (.own 3 (.int .i64)),.row 3 4 y4] (.two .no (.two (.two .no (.loop [.slot 4 (.own 3 y3),.slot 31 (.num .i64),.row 3 4 y4] (.two .no (.two .no (.two (.at [.slot 4 (.own 3 y3),.row 3 4 y4] .no) .no))))) .no)))) .no)))) (an:=[(22,.bool)])
theorem q7:FOk Tryz.prog 45 lQ:=fk [(97,bV),(107,gZ),(108,gl)] ⟨cA,ko,jP,trivial⟩ Tryz.func45 (.two .no (.two .no (.two .no (.two .no (.two (.two .no (.loop [.slot 5 (.own 3 y3),.slot 17 (.num .i64)] (.two .no (.two .no (.join [.slot 5 (.own 3 y3)] .no .no))))) .no)))))
theorem dB:FOk Tryz.prog 128 cr:=fk [] trivial Tryz.func128 (.two .no (.two (.two .no (.loop [.slot 8 (.num .i64)] .no)) .no))
theorem bU:FOk Tryz.prog 130 bu:=fk [(128,cr)] ⟨dB,trivial⟩ Tryz.func130 .no
theorem fF:FOk Tryz.prog 185 cU:=fk [] trivial Tryz.func185 (.two .no (.two (.two .no (.loop [.slot 8 (.num .i64)] .no)) .no))
theorem iV:FOk Tryz.prog 132 eg:=fk [(185,cU)] ⟨fF,trivial⟩ Tryz.func132 .no
theorem kV:FOk Tryz.prog 131 gC:=fk [(132,eg)] ⟨iV,trivial⟩ Tryz.func131 .no
theorem l6:FOk Tryz.prog 129 ig:=fk [(130,bu),(131,gC)] ⟨bU,kV,trivial⟩ Tryz.func129 .no
theorem jQ:FOk Tryz.prog 133 ff:=MW (n:=0) (z:=(⟨.int .i64 0,rfl⟩)) rfl rfl (fok (V:=⟨tt,[],[(13,.raw),(22,.raw),(25,.raw),(31,.raw)],33,[]⟩) Jg trivial mixed Tryz.func133 rfl rfl (enters_of Tryz.func133 (by kernel_rfl) rfl) rfl (bG rfl) rfl .no (fun d=>by kernel_rfl))
theorem jb:FOk Tryz.prog 59 fG:=fk [(45,lQ),(97,bV),(128,cr),(129,ig),(133,ff)] ⟨q7,cA,dB,l6,jQ,trivial⟩ Tryz.func59 (.two .no (.two .no (.two .no (.two (.loop [.box 3 [(.own 3 y3)]] .no) .no))))
theorem mO:FOk Tryz.prog 142 km:=fk [(97,bV),(174,kT)] ⟨cA,nz,trivial⟩ Tryz.func142 (.two .no (.two (.two .no (.loop [.slot 9 (.num .i64)] .no)) .no))
theorem iW:FOk Tryz.prog 64 ga:=fk [(108,gl),(142,km)] ⟨jP,mO,trivial⟩ Tryz.func64 .no
end R
namespace R
open Go.RowKit
open D
theorem wC:FOk Tryz.prog 143 pe:=fk [(64,ga)] ⟨iW,trivial⟩ Tryz.func143 .no
theorem te:FOk Tryz.prog 63 om:=fk [(130,bu),(142,km),(143,pe)] ⟨bU,mO,wC,trivial⟩ Tryz.func63 .no
theorem q8:FOk Tryz.prog 176 lR:=fk [] trivial Tryz.func176 (.two .no (.two .no (.two .no (.two .no (.two (.two .no (.loop [.slot 10 (.own 3 y3),.slot 11 (.map ⟨3,3,.int,.int⟩),.slot 13 (.num .i64),.box 12 [(.num .i64),(.own 4 y4),(.own 30 y30)]] (.two .no (.two (.two .no (.two (.two .no (.loop [.slot 10 (.own 3 y3),.slot 11 (.map ⟨3,3,.int,.int⟩),.slot 14 (.own 3 y3),.slot 15 (.num .i64)] (.two .no (.join [.slot 10 (.own 3 y3),.slot 11 (.map ⟨3,3,.int,.int⟩),.slot 14 (.own 3 y3)] (.two .no (.two .no (.two .no (.join [.slot 10 (.own 3 y3),.slot 11 (.map ⟨3,3,.int,.int⟩),.slot 18 (.num .i64)] .no .no)))) .no)))) .no)) .no)))) .no)))))
theorem ou:FOk Tryz.prog 278 jN:=fk [] trivial Tryz.func278 .no
theorem ox:FOk Tryz.prog 279 jO:=fk [] trivial Tryz.func279 .no
theorem qj:FOk Tryz.prog 264 kU:=fk [(278,jN),(279,jO)] ⟨ou,ox,trivial⟩ Tryz.func264 .no
theorem jR:FOk Tryz.prog 240 fg:=fk [(264,kU)] ⟨qj,trivial⟩ Tryz.func240 (.two .no (.two .no (.two .no (.two .no (.two .no (.two .no (.two (.loop [.slot 8 (.num .i64),.row 7 3 (.int .i64)] .no) .no))))))) (an:=[(44,.bool)])
theorem Au:FOk Tryz.prog 181 sS:=fk [(240,fg)] ⟨jR,trivial⟩ Tryz.func181 .no
theorem gK:FOk Tryz.prog 265 cS:=fk [] trivial Tryz.func265 (.two .no (.two (.two .no (.loop [.slot 8 (.num .i64)] .no)) .no))
theorem jZ:FOk Tryz.prog 165 fE:=fk [] trivial Tryz.func165 (.two .no (.two .no (.two (.two .no (.loop [.slot 13 (.num .i64)] .no)) .no)))
theorem l7:FOk Tryz.prog 266 ij:=fk [(165,fE)] ⟨jZ,trivial⟩ Tryz.func266 .no
theorem nE:FOk Tryz.prog 241 iZ:=fk [(265,cS),(266,ij)] ⟨gK,l7,trivial⟩ Tryz.func241 (.two .no (.two .no (.two .no (.two (.two .no (.loop [.slot 6 (.own 30 y30),.slot 7 (.own 3 y3),.slot 18 (.num .i64)] (.two .no (.two .no (.join [.slot 6 (.own 30 y30),.slot 7 (.own 3 y3)] (.two .no (.two .no (.two .no (.two (.two .no (.loop [.slot 36 (.num .i64),.box 10 [(.own 3 y3)]] (.two .no (.two .no (.two (.two .no (.join [.slot 12 (.num .i64)] .no .no)) .no))))) (.two .no (.join [.slot 6 (.own 30 y30),.slot 13 (.num .i64),.gone 10] .no .no)))))) .no))))) .no))))
theorem mP:FOk Tryz.prog 183 iM:=fk [(107,gZ),(241,iZ)] ⟨ko,nE,trivial⟩ Tryz.func183 (.two .no (.two .no (.two (.two .no (.loop [.slot 3 (.own 3 y3),.slot 13 (.num .i64)] (.two .no (.two .no (.join [.slot 3 (.own 3 y3)] .no .no))))) (.two .no (.loop [.slot 3 (.own 3 y3),.slot 6 (.num .i64)] .no)))))
theorem kW:FOk Tryz.prog 184 gD:=fk [(185,cU)] ⟨fF,trivial⟩ Tryz.func184 .no
theorem kX:FOk Tryz.prog 186 gE:=fk [] trivial Tryz.func186 .no
theorem yJ:FOk Tryz.prog 175 qH:=fk [(174,kT)] ⟨nz,trivial⟩ Tryz.func175 .no
theorem kp:FOk Tryz.prog 103 hY:=fk [(175,qH)] ⟨yJ,trivial⟩ Tryz.func103 .no
end R
namespace R
open Go.RowKit
open D
theorem kY:FOk Tryz.prog 187 gF:=fk [(103,hY)] ⟨kp,trivial⟩ Tryz.func187 .no
theorem l8:FOk Tryz.prog 99 il:=fk [(176,lR),(181,sS),(183,iM),(184,gD),(186,gE),(187,gF)] ⟨q8,Au,mP,kW,kX,kY,trivial⟩ Tryz.func99 .no
theorem nP:FOk Tryz.prog 219 kF:=fk [(103,hY)] ⟨kp,trivial⟩ Tryz.func219 .no
theorem wD (c d:List Value) (w:World):Calls Tryz.prog 148 #[.agg c.toArray,.agg d.toArray] w fun e w'=>e= .returned (.func (.func 219) #[] #[.pointer (some ⟨w.heap.size,0,none⟩),.pointer (some ⟨w.heap.size+1,0,none⟩)])/\w'=(w.alloc (.cells c.toArray 27)).alloc (.cells d.toArray 27):=by
 go_enter Tryz.func148,Tryz.ntmps148
 go_wp2
 go_ret
 exact ⟨rfl,rfl⟩
theorem qO:FOk Tryz.prog 148 fh:=MU (f:=fh) (lx (f:=⟨fh.ps,fh.rs,fh.m,none⟩) (enters_of Tryz.func148 (by kernel_rfl) rfl) rfl (fun d=>rfl)) (OL (enters_of Tryz.func148 (by kernel_rfl) rfl) wD)
theorem qP:FOk Tryz.prog 206 mJ:=fk [] trivial Tryz.func206 .no
theorem kH:FOk Tryz.prog 251 fQ:=FW An (enters_of Tryz.func251 (by kernel_rfl) rfl) 3
theorem jn:FOk Tryz.prog 252 eH:=fk [] trivial Tryz.func252 (.two .no (.two .no (.two (.two .no (.loop [.slot 3 (.num .i64)] (.two .no (.two (.two .no (.two (.two .no (.two (.two .no (.loop [.slot 3 (.num .i64),.slot 5 (.num .i64),.row 0 3 y3] (.two .no (.two (.at [.slot 3 (.num .i64),.row 0 3 y3] .no) .no)))) .no)) .no)) .no)))) .no))) (an:=[(28,.raw),(56,.raw),(59,.raw)])
theorem pw:FOk Tryz.prog 211 lH:=fk [(206,mJ),(251,fQ),(252,eH)] ⟨qP,kH,jn,trivial⟩ Tryz.func211 .no
theorem Dj:FOk Tryz.prog 210 uT:=fk [(148,fh),(211,lH),(219,kF)] ⟨qO,pw,nP,trivial⟩ Tryz.func210 (.two .no (.two .no (.two .no (.two .no (.two (.two .no (.loop [.slot 7 (.own 3 (.int .i64)),.slot 10 (.own 146 (.prod y3 y3)),.slot 9 (.map ⟨146,4,.ii,.bool⟩)] (.two .no (.two (.two .no (.loop [.slot 7 (.own 3 (.int .i64)),.slot 10 (.own 146 DH),.slot 11 (.num .i64),.slot 9 (.map ⟨146,4,.ii,.bool⟩)] (.two .no (.two (.at [.slot 7 (.own 3 (.int .i64)),.slot 10 (.own 146 DH),.slot 9 (.map ⟨146,4,.ii,.bool⟩)] .no) .no)))) .no)))) .no))))) (an:=[(26,.bool)])
theorem q9:FOk Tryz.prog 136 lS:=fk [(142,km),(174,kT),(210,uT),(211,lH)] ⟨mO,nz,Dj,pw,trivial⟩ Tryz.func136 (.two .no (.two .no (.two .no (.two (.loop [.slot 3 (.num .i64),.slot 9 (.own 3 y3)] (.two .no (.two (.two .no (.two (.two .no (.loop [.slot 10 (.own 3 y3),.slot 33 (.num .i64)] .no)) .no)) .no))) .no))))
theorem nF:FOk Tryz.prog 212 ja:=fk [(206,mJ)] ⟨qP,trivial⟩ Tryz.func212 (.two .no (.two .no (.two (.two .no (.loop [.slot 9 (.own 235 (.bag MZ)),.slot 8 (.map ⟨146,4,.ii,.bool⟩)] (.two .no (.two (.two .no (.two .no (.two .no (.loop [.slot 9 (.own 235 (.bag MZ)),.slot 11 (.num .i64),.slot 8 (.map ⟨146,4,.ii,.bool⟩)] (.two .no (.two (.at [.slot 9 (.own 235 (.bag MZ)),.slot 8 (.map ⟨146,4,.ii,.bool⟩)] .no) .no)))))) .no)))) .no))) (an:=[(18,.bag MZ),(23,.bool),(58,.bag MZ)])
theorem mQ:FOk Tryz.prog 78 iN:=fk [] trivial Tryz.func78 .no
theorem yK:FOk Tryz.prog 213 qI:=fk [(78,iN)] ⟨mQ,trivial⟩ Tryz.func213 .no
theorem Dk:FOk Tryz.prog 138 uU:=fk [(148,fh),(212,ja),(213,qI),(219,kF)] ⟨qO,nF,yK,nP,trivial⟩ Tryz.func138 .no
theorem ua:FOk Tryz.prog 137 nO:=fk [(138,uU)] ⟨Dk,trivial⟩ Tryz.func137 .no
theorem qQ:FOk Tryz.prog 61 mK:=fk [(63,om),(64,ga),(97,bV),(99,il),(130,bu),(136,lS),(137,nO)] ⟨te,iW,cA,l8,bU,q9,ua,trivial⟩ Tryz.func61 (.two .no (.two .no (.two .no (.two .no (.two (.two .no (.loop [.slot 7 (.num .i64)] (.two .no (.two (.two .no (.loop [.slot 8 (.bx 3 .i64)] (.two .no (.two (.atX [] .no) .no)))) .no)))) .no)))))
theorem mR:FOk Tryz.prog 57 iO:=fk [(59,fG),(61,mK),(97,bV)] ⟨jb,qQ,cA,trivial⟩ Tryz.func57 .no
end R
namespace R
open Go.RowKit
open D
theorem yL:FOk Tryz.prog 209 qJ:=fk [] trivial Tryz.func209 (.two .no (.two .no (.two .no (.two (.two .no (.loop [.row 3 4 y4,.slot 4 (.num .i64)] (.two .no (.two (.two .no (.loop [.row 3 4 y4,.slot 5 (.num .i64)] (.two .no (.two (.two .no (.loop [.row 3 4 y4,.slot 6 (.num .i64)] (.two .no (.join [.row 3 4 y4] .no .no)))) .no)))) .no)))) .no))))
theorem ra:FOk Tryz.prog 134 lT:=fk [(18,bD),(101,lD),(209,qJ)] ⟨bW,oq,yL,trivial⟩ Tryz.func134 (.two .no (.two .no (.two .no (.two .no (.two .no (.two (.two .no (.loop [.slot 3 (.own 3 y3),.slot 6 (.num .i64)] (.two .no (.join [.slot 3 (.own 3 y3)] .no .no)))) .no))))))
theorem lI:FOk Tryz.prog 135 jl:=fk [] trivial Tryz.func135 (.two .no (.two .no (.two (.two .no (.loop [.row 5 4 y4,.slot 6 (.num .i64)] (.two .no (.join [.row 5 4 y4] .no .no)))) (.two (.two .no (.loop [.row 5 4 y4,.slot 7 (.num .i64)] (.two .no (.two (.two .no (.loop [.row 5 4 y4,.slot 8 (.num .i64)] (.two .no (.two (.two .no (.loop [.row 5 4 y4,.slot 9 (.num .i64)] (.two .no (.join [.row 5 4 y4] .no .no)))) .no)))) .no)))) .no))))
theorem jc:FOk Tryz.prog 60 fH:=fk [(18,bD),(134,lT),(135,jl)] ⟨bW,ra,lI,trivial⟩ Tryz.func60 (.two .no (.two .no (.two .no (.two (.two .no (.loop [.slot 4 (.num .i64)] .no)) .no))))
theorem qR:FOk Tryz.prog 214 mL:=fk [(18,bD),(154,o9)] ⟨bW,rA,trivial⟩ Tryz.func214 .no
theorem Av:FOk Tryz.prog 139 sU:=fk [(135,jl),(214,mL)] ⟨lI,qR,trivial⟩ Tryz.func139 .no
theorem rb:FOk Tryz.prog 140 lU:=fk [(135,jl),(214,mL)] ⟨lI,qR,trivial⟩ Tryz.func140 .no
theorem tf:FOk Tryz.prog 220 oo:=fk [] trivial Tryz.func220 .no
theorem yM:FOk Tryz.prog 254 sV:=fk [] trivial Tryz.func254 (.two .no (.two .no (.two (.two .no (.loop [.slot 3 (.own 3 y3),.slot 4 (.num .i64)] (.two .no (.join [.slot 3 (.own 3 y3)] .no .no)))) .no)))
theorem uY:FOk Tryz.prog 256 qg:=fk [] trivial Tryz.func256 (.two .no (.two (.two .no (.loop [.slot 5 (.num .i64)] .no)) .no))
theorem wE:FOk Tryz.prog 253 pf:=fk [(220,oo),(254,sV),(256,qg)] ⟨tf,yM,uY,trivial⟩ Tryz.func253 (.two .no (.two .no (.two .no (.two (.two .no (.loop [.slot 7 (.own 238 Jf),.slot 8 (.num .i64),.slot 9 (.num .i64)] (.two .no (.two (.two .no (.loop [.slot 7 (.own 238 Jf),.slot 8 (.num .i64),.slot 10 (.num .i64)] (.two .no (.join [.slot 7 (.own 238 Jf),.slot 8 (.num .i64)] (.two .no (.two .no (.join [.slot 8 (.num .i64)] .no .no))) .no)))) .no)))) (.two .no (.two (.two .no (.loop [.row 12 3 y3,.slot 13 (.num .i64)] .no)) .no))))))
theorem wF:FOk Tryz.prog 215 pg:=fk [(253,pf),(254,sV)] ⟨wE,yM,trivial⟩ Tryz.func215 (.two .no (.two .no (.two (.two .no (.loop [.slot 9 (.own 3 y3),.slot 10 (.num .i64)] (.two .no (.two (.two .no (.two .no (.two (.two .no (.loop [.slot 12 (.num .i64),.slot 13 (.num .i64)] .no)) .no))) .no)))) (.two .no (.two (.two .no (.loop [.slot 14 (.num .i64),.slot 15 (.num .i64)] (.two .no (.two (.two .no (.two (.two .no (.loop [.slot 16 (.num .i64),.slot 17 (.num .i64)] (.two .no (.join [.slot 16 (.num .i64)] .no .no)))) .no)) .no)))) (.two .no (.two (.two .no (.loop [.row 18 3 y3,.slot 19 (.num .i64)] .no)) .no)))))))
theorem wG:FOk Tryz.prog 222 ph:=fk [] trivial Tryz.func222 .no
theorem Aw:FOk Tryz.prog 255 sW:=fk [] trivial Tryz.func255 (.two .no (.two .no (.two (.loop [.slot 1 (.num .i64),.slot 5 (.own 3 y3)] .no) .no)))
theorem wH:FOk Tryz.prog 216 pj:=fk [(220,oo),(222,ph),(255,sW),(256,qg)] ⟨tf,wG,Aw,uY,trivial⟩ Tryz.func216 (.two .no (.two .no (.two (.two .no (.loop [.slot 12 (.own 238 Jf),.slot 13 (.num .i64)] (.two .no (.two (.two .no (.two .no (.two (.two (.at [.slot 57 .boo] .no) .no) (.two .no (.loop [.slot 12 (.own 238 Jf),.slot 16 (.num .i64)] (.two .no (.join [.slot 12 (.own 238 Jf)] .no .no))))))) .no)))) .no)))
theorem Dl:FOk Tryz.prog 141 uV:=fk [(215,pg),(216,pj)] ⟨wF,wH,trivial⟩ Tryz.func141 (.two .no (.two .no (.two (.two .no (.loop [.slot 8 (.num .i64)] .no)) .no)))
theorem qS:FOk Tryz.prog 62 mM:=fk [(40,mG),(139,sU),(140,lU),(141,uV)] ⟨qK,Av,rb,Dl,trivial⟩ Tryz.func62 (.two .no (.two .no (.two (.two .no (.loop [.slot 6 (.num .i64)] (.two .no (.two (.two .no (.loop [.slot 7 (.num .i64)] .no)) .no)))) .no)))
end R
namespace R
open Go.RowKit
open D
theorem mS:FOk Tryz.prog 58 iP:=fk [(18,bD),(60,fH),(62,mM)] ⟨bW,jc,qS,trivial⟩ Tryz.func58 .no
theorem px:FOk Tryz.prog 7 pn:=fk [(8,FX),(18,bD),(40,mG),(56,fP),(57,iO),(58,iP),(59,fG),(60,fH),(61,mK),(62,mM),(63,om),(64,ga)] ⟨M0,bW,qK,kG,mR,mS,jb,jc,qQ,qS,te,iW,trivial⟩ Tryz.func7 .no
end R
namespace D
open Go.RowKit
theorem py (x0:List Int) (r:Bool) (hm:eG x0=some r) {I:Hp} {w0:World} (v0_0:Value) (r0_0:(al 5 rU8).rd I [v0_0] x0) (hL:Lay Tryz.prog I):Con Tryz.prog 7 #[v0_0] I w0 [] (fun v=>v= .bool r) (fun _=>[]):=fun w C hs =>
 ((R.px).con rfl w0 I undef [v0_0] (x0,()) r hL ⟨_,_,rfl,⟨[v0_0],rfl,r0_0⟩,rfl⟩ hm w C hs).mono fun e w' ⟨v,he,_,hst⟩=>by
  obtain ⟨h1,h2⟩:=R.oN (h1:=fun _=>rfl) (show St I w0 w' (Ch.own R.Ty.bool.rep [v] r::C) from hst)
  exact ⟨v,he,(List.cons.inj h1).1,h2⟩
end D
namespace D
open Go.RowKit
def I64 (n:Int):Prop:= -9223372036854775808<=n/\n<=9223372036854775807
class Data (α:Type) where
 lim:α->Prop
 sm:α->Prop
instance:Data Int:=⟨I64,fun _=>True⟩
instance:Data Bool:=⟨fun _=>True,fun _=>True⟩
instance:Data ByteArray:=⟨fun s=>s.size<=9223372036854775807,fun s=>s.size<=1048576⟩
instance {α β:Type} [Data α] [Data β] :Data (α×β):=⟨fun x=>Data.lim x.1/\Data.lim x.2,fun x=>Data.sm x.1/\Data.sm x.2⟩
instance {α:Type} [Data α] :Data (List α):=⟨fun xs=>xs.length<=9223372036854775807/\ ∀x,x∈xs->Data.lim x,fun xs=>xs.length<=1048576/\ ∀x,x∈xs->Data.sm x⟩
structure Opens (P:Program) (t:TypeId) {α:Type} [Data α] (R:Rep α):Prop where
 out: ∀ {H:Type} (enc:TypeId×Value->H) (w:World) (fuel:Nat) (cs:List Value) (x:DataW H×List MemPlace),DataW.trod enc P w 0 (fun _=>true) true fuel t cs=some x-> ∃a:α,R.rd (hp w) cs a/\Data.lim a
theorem Jh {P:Program} {t:TypeId} (h:P.underlying t=some (.int .u8)):Opens P t rU8:=by
 constructor
 intro H enc w fuel cs x hx
 obtain ⟨n,rfl,-,hw⟩:=DataW.trod_int h hx
 refine ⟨n,rfl,show I64 n from ?_⟩
 simp[Lit.wf,IntKind.min,IntKind.max,IntKind.signed,IntKind.bits] at hw
 unfold I64
 omega
theorem Ax {P:Program} {t e:TypeId} {α:Type} [Data α] {R:Rep α} {E:TypeId} (h:P.underlying t=some (.slice e)) (hc:P.cellsOf e=R.size) (h0:0<R.size) (he:Opens P e R):Opens P t (al E R):=by
 constructor
 intro H enc w fuel cs x hx
 rcases Go.Deep.open_slice h hx with ⟨rfl,-⟩ | ⟨a,len,cap,m,n,D,Pl,rfl,-,hl,hm,hmm,-,hel⟩
 ·exact ⟨[],⟨none,0,rfl,by simp,.inl rfl⟩,Nat.zero_le _,fun x hx=>by cases hx⟩
 have hlm:m=cap:=by simpa using hmm
 subst hlm
 rw[hc] at hel
 by_cases hz:len=0
 ·subst hz
  exact ⟨[],⟨some a,m,rfl,by simp,.inl rfl⟩,Nat.zero_le _,fun x hx=>by cases hx⟩
 ·have hone: ∀i,i<len-> ∃c:List Value,∃y:α,c.length=R.size/\(∀j,j<R.size->w.cell? ((a.add (i*R.size)).add j)=c[j]?)/\R.rd (hp w) c y/\Data.lim y:=by
   intro i hi
   obtain ⟨c,h1,h2⟩:=hel i (by omega)
   obtain ⟨-,h3,h4⟩:=World.cells?_some h1
   obtain ⟨y,hy⟩:=he.out enc w _ _ _ h2
   exact ⟨c,y,h3,h4,hy⟩
  obtain ⟨c0,y0,hc0,hr0,-⟩:=hone 0 (by omega)
  have h00:=hr0 0 h0
  have hsome: ∃v,c0[0]? =some v:=⟨_,List.getElem?_eq_getElem (by omega)⟩
  obtain ⟨v,hv⟩:=hsome
  rw[hv] at h00
  have ha:(a.add (0*R.size)).add 0=a:=by simp[Addr.add]
  rw[ha] at h00
  obtain ⟨b,off,spot⟩:=a
  have hb: ∃ccs T fr,w.heap[b]? =some (.cells ccs T fr)/\spot=none:=by
   simp only[World.cell?] at h00
   split at h00
   ·rename_i ccs T fr heq
    cases spot with
    | none=>exact ⟨ccs,T,fr,heq,rfl⟩
    | some s=>simp at h00
   ·simp at h00
  obtain ⟨ccs,T,fr,hh,rfl⟩:=hb
  have hadd: ∀i j,(Addr.add ⟨b,off,none⟩ i).add j=⟨b,off+i+j,none⟩:=by
   intro i j
   by_cases h1:i=0 <;> by_cases h2:j=0 <;> simp[Addr.add,h1,h2,Nat.add_assoc]
  haveI:Inhabited α:=⟨y0⟩
  obtain ⟨X,hX⟩:=Go.Deep.choose_lt (α:=α) (n:=len) (p:=fun i y=> ∃c:List Value,c.length=R.size/\(∀j,j<R.size->ccs.toList[off+i*R.size+j]? =c[j]?)/\R.rd (hp w) c y/\Data.lim y) (fun i hi=>by
   obtain ⟨c,y,h1,h2,h3⟩:=hone i hi
   refine ⟨y,c,h1,fun j hj=>?_,h3⟩
   have:=h2 j hj
   rw[hadd] at this
   simp only[World.cell?,hh] at this
   simpa using this)
  have hlen:((List.range len).map X).length=len:=by simp
  have hel2: ∀i y,((List.range len).map X)[i]? =some y->i<len/\y=X i:=fun i y hy=>by
   have hi:i<len:=by have:=(List.getElem?_eq_some_iff.1 hy).1;omega
   exact ⟨hi,by simpa [hi] using hy.symm⟩
  refine ⟨(List.range len).map X,⟨some ⟨b,off,none⟩,m,by rw[hlen],by rw[hlen];unfold maxLen at hm;unfold lim;omega,.inr ⟨b,off,ccs,T,fr,rfl,hh,fun i y hy=>?_⟩⟩,by rw[hlen];unfold maxLen at hm;omega,fun y hy=>?_⟩
  ·obtain ⟨hi,rfl⟩:=hel2 i y hy
   obtain ⟨c,e1,e2,e3,-⟩:=hX i hi
   exact ⟨c,e1,e2,e3⟩
  ·obtain ⟨i,hi,he⟩:=List.mem_iff_getElem?.1 hy |>.imp fun i hi=>hel2 i y hi
   obtain ⟨-,-,-,-,e4⟩:=hX i hi
   rw[he];exact e4
theorem St.below {w0 w:World} {cs:List Ch} (h:St (hp w0) w0 w cs):Below w0.heap.size w0 w:=by
 obtain ⟨⟨h1,h2,h3,h4⟩,h5,-⟩:=h
 refine ⟨h1,h2,h3,h4,fun b hb=>?_⟩
 have e:w0.heap[b]? =some w0.heap[b]:=Array.getElem?_eq_getElem hb
 rw[e];exact h5 b _ e
end D
namespace D
open Go.RowKit
theorem cP {n:Int} (h1: -9223372036854775808<=n) (h2:n<=9223372036854775807):IntKind.i64.wrap n=n:=by
 simp only[IntKind.wrap,IntKind.bits,IntKind.signed,Bool.true_and]
 split <;> rename_i h <;> simp at h <;> omega
theorem aB {i:Nat} (h:i<9223372036854775807):IntKind.i64.wrap ((i:Int)+1)=((i+1:Nat):Int):=by
 rw[cP (by omega) (by omega)];rfl
theorem fC {α:Type} {xs:List α} {i:Nat} (h:i<xs.length):a8 xs (i:Int)=some (xs[i]):=by
 unfold a8
 rw[if_pos (Int.natCast_nonneg _)]
 simp[h]
theorem qT {i n:Nat} (h:i<n):decide ((i:Int)<(n:Int))=true:=by simp[h]
theorem tg {n:Nat} :decide ((n:Int)<(n:Int))=false:=by simp
theorem th (k:Nat) (h:k<=9223372036854775807):k<aV:=by unfold aV;omega
theorem yN {R S:Type} {f:S->Option (Out R S)} (inv:Nat->S) (N:Nat) (h: ∀i,i<N->f (inv i)=some (.nxt (inv (i+1)))): ∀(m i k:Nat),i+m=N->aG f (k+m) (inv i)=aG f k (inv N)
 | 0,i,k,e=>by rw[show i=N by omega];rfl
 | m+1,i,k,e=>by
  rw[<-Nat.add_assoc,aG,h i (by omega)]
  exact yN inv N h m (i+1) k (by omega)
theorem F6 {R S:Type} {f:S->Option (Out R S)} (inv:Nat->S) (N:Nat) {s:S} (h: ∀i,i<N->f (inv i)=some (.nxt (inv (i+1)))) (he:f (inv N)=some (.brk s)) (hN:N<aV):aG f aV (inv 0)=some (.brk s):=by
 have e:aV=(aV - N - 1)+1+N:=by omega
 rw[e,yN inv N h N 0 _ (by omega),aG,he]
theorem QA {α:Type} [Data α] {f:Int×Int->Option (Out Int (Int×Int))} (xs:List α)
  (hstep: ∀i (h:i<xs.length) l,0<=l->l<=1048576-> ∃r,f (l,(i:Int))=some (if r<0 then .ret (-1) else .nxt (r,((i+1:Nat):Int)))/\(r<0\/(0<=r/\r<=l/\Data.sm xs[i])))
  (hend: ∀l,f (l,(xs.length:Int))=some (.brk (l,(xs.length:Int)))): ∀(m i k:Nat) (l:Int),i+m=xs.length->m<k->0<=l->l<=1048576->
   aG f k (l,(i:Int))=some (.ret (-1))\/ ∃r,aG f k (l,(i:Int))=some (.brk (r,(xs.length:Int)))/\0<=r/\r<=l/\ ∀j (h:j<xs.length),i<=j->Data.sm xs[j]
 | 0,i,k,l,e,hk,h0,h1=>by
  obtain ⟨k,rfl⟩: ∃q,k=q+1:=⟨k - 1,by omega⟩
  obtain rfl:i=xs.length:=by omega
  exact .inr ⟨l,by rw[aG,hend],h0,Int.le_refl _,fun j hj hi=>by omega⟩
 | m+1,i,k,l,e,hk,h0,h1=>by
  obtain ⟨k,rfl⟩: ∃q,k=q+1:=⟨k - 1,by omega⟩
  obtain ⟨r,e1,e2⟩:=hstep i (by omega) l h0 h1
  rw[aG,e1]
  rcases e2 with e2 | ⟨e2,e3,e4⟩
  ·rw[if_pos e2];exact .inl rfl
  ·rw[if_neg (by omega)]
   rcases QA xs hstep hend m (i+1) k r (by omega) (by omega) e2 (by omega) with h | ⟨q,g1,g2,g3,g4⟩
   ·exact .inl h
   ·refine .inr ⟨q,g1,g2,by omega,fun j hj hi=>?_⟩
    by_cases hji:j=i
    ·subst hji;exact e4
    ·exact g4 j hj (by omega)
theorem szL {α:Type} [Data α] {f:Int×Int->Option (Out Int (Int×Int))} (xs:List α) {l:Int} (hN:xs.length<=9223372036854775807)
  (hstep: ∀i (h:i<xs.length) l,0<=l->l<=1048576-> ∃r,f (l,(i:Int))=some (if r<0 then .ret (-1) else .nxt (r,((i+1:Nat):Int)))/\(r<0\/(0<=r/\r<=l/\Data.sm xs[i])))
  (hend: ∀l,f (l,(xs.length:Int))=some (.brk (l,(xs.length:Int)))) (h0:0<=l) (h1:l<=1048576) :
  ∃r,(if decide (IntKind.i64.wrap (l - (xs.length:Int))<0) then (some (-1)) else (aW (aG f aV (IntKind.i64.wrap (l - (xs.length:Int)),0)) (fun r=>some r) (fun s4=>some s4.1)))=some r/\(r<0\/(0<=r/\r<=l/\Data.sm xs)):=by
 rw[cP (by omega) (by omega)]
 by_cases h:l - (xs.length:Int)<0
 ·exact ⟨-1,by rw[if_pos (decide_eq_true h)],.inl (by decide)⟩
 ·rw[if_neg (by simpa using h)]
  rcases QA xs hstep hend xs.length 0 aV (l - xs.length) (by omega) (th _ hN) (by omega) (by omega) with e | ⟨r,e,g1,g2,g3⟩
  ·exact ⟨-1,by rw[show ((0:Int))=((0:Nat):Int) from rfl,e];rfl,.inl (by decide)⟩
  ·refine ⟨r,by rw[show ((0:Int))=((0:Nat):Int) from rfl,e];rfl,.inr ⟨g1,by omega,by omega,fun x hx=>?_⟩⟩
   obtain ⟨j,hj,rfl⟩:=List.getElem_of_mem hx
   exact g3 j hj (Nat.zero_le _)
theorem QB {α:Type} [DecidableEq α] {f:Int->Option (Out Bool Int)} (xs ys:List α) (hl:xs.length=ys.length)
  (hstep: ∀i (h:i<xs.length) (h':i<ys.length),f (i:Int)=some (if xs[i] =ys[i] then .nxt ((i+1:Nat):Int) else .ret false)) (hend:f (xs.length:Int)=some (.brk (xs.length:Int))): ∀(m i k:Nat),i+m=xs.length->m<k->
   aG f k (i:Int)=some (if xs.drop i=ys.drop i then .brk (xs.length:Int) else .ret false)
 | 0,i,k,e,hk=>by
  obtain ⟨k,rfl⟩: ∃q,k=q+1:=⟨k - 1,by omega⟩
  obtain rfl:i=xs.length:=by omega
  rw[aG,hend,List.drop_of_length_le (ay _),List.drop_of_length_le (by omega),if_pos rfl]
 | m+1,i,k,e,hk=>by
  obtain ⟨k,rfl⟩: ∃q,k=q+1:=⟨k - 1,by omega⟩
  have hi:i<xs.length:=by omega
  have hi':i<ys.length:=by omega
  have d1:=List.drop_eq_getElem_cons hi
  have d2:=List.drop_eq_getElem_cons hi'
  rw[aG,hstep i hi hi',d1,d2]
  by_cases h:xs[i] =ys[i]
  ·rw[if_pos h]
   simp only
   rw[QB xs ys hl hstep hend m (i+1) k (by omega) (by omega)]
   simp only[List.cons.injEq,h,true_and]
  ·rw[if_neg h]
   simp only[List.cons.injEq,h,false_and,if_false]
theorem eqL {α:Type} [DecidableEq α] {f:Int->Option (Out Bool Int)} (xs ys:List α) (hN:xs.length<=9223372036854775807)
  (hstep: ∀i (h:i<xs.length) (h':i<ys.length),f (i:Int)=some (if xs[i] =ys[i] then .nxt ((i+1:Nat):Int) else .ret false)) (hend:f (xs.length:Int)=some (.brk (xs.length:Int))) :
  (if (xs.length:Int) !=(ys.length:Int) then (some false) else (aW (aG f aV 0) (fun r=>some r) (fun s4=>some true)))=some (decide (xs=ys)):=by
 by_cases hl:xs.length=ys.length
 ·rw[if_neg (by rw[hl];simp),show ((0:Int))=((0:Nat):Int) from rfl,QB xs ys hl hstep hend xs.length 0 aV (by omega) (th _ hN)]
  by_cases h:xs=ys
  ·subst h;simp[aW]
  ·simp[aW,h]
 ·have:xs≠ys:=fun e=>hl (by rw[e])
  rw[if_pos (by simp;omega)];simp[this]
theorem OS {f:Int->Option (Out Int Int)} (xs ys:List Int)
  (hstep: ∀i (h:i<xs.length) (h':i<ys.length),f (i:Int)=some (if xs[i] < ys[i] then .ret (-1) else if xs[i] > ys[i] then .ret 1 else .nxt ((i+1:Nat):Int))) (hend: ∀i,xs.length<=i\/ys.length<=i->f (i:Int)=some (.brk (i:Int))): ∀(m i k:Nat),i+m=xs.length->m<k->
   (∃r,aG f k (i:Int)=some (.ret r)/\r≠0/\xs≠ys)\/ ∃s,aG f k (i:Int)=some (.brk s)/\(xs.length=ys.length->xs.drop i=ys.drop i)
 | 0,i,k,e,hk=>by
  obtain ⟨k,rfl⟩: ∃q,k=q+1:=⟨k - 1,by omega⟩
  exact .inr ⟨_,by rw[aG,hend i (.inl (by omega))],fun h=>by rw[List.drop_of_length_le (by omega),List.drop_of_length_le (by omega)]⟩
 | m+1,i,k,e,hk=>by
  obtain ⟨k,rfl⟩: ∃q,k=q+1:=⟨k - 1,by omega⟩
  have hi:i<xs.length:=by omega
  by_cases hi':i<ys.length
  ·have hne: ∀h:xs[i] ≠ys[i],xs≠ys:=fun h e=>h (by subst e;rfl)
   rw[aG,hstep i hi hi']
   by_cases h1:xs[i] < ys[i]
   ·rw[if_pos h1];exact .inl ⟨-1,rfl,by decide,hne (by omega)⟩
   ·rw[if_neg h1]
    by_cases h2:xs[i] > ys[i]
    ·rw[if_pos h2];exact .inl ⟨1,rfl,by decide,hne (by omega)⟩
    ·rw[if_neg h2]
     rcases OS xs ys hstep hend m (i+1) k (by omega) (by omega) with h | ⟨s,g1,g2⟩
     ·exact .inl h
     ·refine .inr ⟨s,g1,fun hl=>?_⟩
      have h3:xs[i] =ys[i]:=by omega
      rw[List.drop_eq_getElem_cons hi,List.drop_eq_getElem_cons hi',g2 hl,h3]
  ·exact .inr ⟨_,by rw[aG,hend i (.inr (by omega))],fun h=>by omega⟩
instance:LawfulBEq ByteArray where
 eq_of_beq {a b} h:=ByteArray.ext (eq_of_beq (show (a.data==b.data)=true from h))
 rfl {a}:=beq_self_eq_true a.data
theorem ic {α β:Type} (p:α×β):(p.1,p.2)=p:=rfl
end D
end Go.Proofs.YtobhhnobjflbnaaGreat
