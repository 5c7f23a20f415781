/- FnExactCompareExprs: for every input the law returns true and changes nothing that was there. Part 5 of 7. -/
import Derived.Test.YtfbgafccgaoepaaGreatCC3
set_option synthInstance.maxSize 20000
set_option synthInstance.maxHeartbeats 2000000
set_option linter.unusedVariables false
set_option linter.unusedSimpArgs false
set_option linter.unnecessarySimpa false
set_option linter.unusedSectionVars false
set_option maxRecDepth 1000000
namespace Go.Proofs.YtfbgafccgaoepaaGreat
open Go.IntKind (i64)
namespace R
open Go.RowKit
open D
def Jj (i:Nat):(p:PM)->p.den->AV
 | .rd t,d=>Ho i t d
 | .ow t,d=>HI (iY i [] t d)
 | .fn a b,d=>.one (.fn ⟨i,[]⟩ a b d)
 | .cap T t,d=>.one (.fz ⟨i,[]⟩ T t d 0)
 | .capf T a b,d=>.one (.fzf ⟨i,[]⟩ T a b d)
 | .ptr _ _,_=>.one (.ptr ⟨i,[]⟩ 0)
 | .eat t,d=>HI (iY i [] t d)
 | .fk g,_=>.one (.val (.func (.func g) #[] #[]))
 | .crs _ _,_=>.one (.ptr ⟨i,[]⟩ 0)
 | .kb _ _ _,_=>.one (.own ⟨i,[]⟩)
 | .kc _,_=>.one (.own ⟨i,[]⟩)
def Eg (q i:Nat):(p:PM)->p.den->List (Hdr×Chk)
 | .ow t,d=>jF i [] t d
 | .ptr T t,d=>[(⟨i,[]⟩,.box T t d)]
 | .eat t,d=>jF i [] t d
 | .crs T E,d=>[(⟨i,[]⟩,.blk T [.rd ⟨q,[]⟩ (.sl E (.int .u8)) d.1,.val (.int .i64 d.2.1),.val (.int .i64 d.2.2)])]
 | .kb g T t,d=>[(⟨i,[]⟩,.clo g [] [.ptr ⟨q,[]⟩ 0]),(⟨q,[]⟩,.box T t d)]
 | .kc g,_=>[(⟨i,[]⟩,.clo g [] [.ptr ⟨q,[]⟩ 0])]
 | _,_=>[]
def Eh:(i:Nat)->(ps:List PM)->denP ps->List (Nat×Nat×AV)
 | _,[],_=>[]
 | i,p::ps,d=>(i,i,Jj i p d.1)::Eh (i+1) ps d.2
def Bm (q:Nat):(i:Nat)->(ps:List PM)->denP ps->List Ent
 | _,[],_=>[]
 | i,p::ps,d=>(Eg q i p d.1).map (fun g=>(g.1,i,g.2))++Bm q (i+1) ps d.2
def vV (ps:List PM) (d:denP ps):Sg:=⟨Eh 0 ps d,Bm ps.length 0 ps d,ps.length+1⟩
def VW (P:Program) (w0:World) (J:Hp) (θ:Th) (n i:Nat):(p:PM)->Value->p.den->Prop
 | .ow t,v,d=>(iY i [] t d).2.map (·.v θ)=jy t.isProd v/\ ∀x∈(iY i [] t d).2,x.ok P w0 J θ n
 | .ptr _ _,v,_=>hv θ ⟨i,[]⟩=v/\i<n
 | .crs _ _,v,_=>hv θ ⟨i,[]⟩=v/\i<n
 | _,_,_=>True
def StF (P:Program) (w0:World) (J:Hp) (θ:Th) (n:Nat):(i:Nat)->(ps:List PM)->List Value->denP ps->Prop
 | i,p::ps,v::vs,d=>VW P w0 J θ n i p v d.1/\StF P w0 J θ n (i+1) ps vs d.2
 | _,_,_,_=>True
section
variable {P:Program} {w0 w:World} {J:Hp} {θ:Th} {n:Nat} {C:List Ch}
theorem tQ {id:Nat} {pre:List Nat} {t:Ty} {d:t.den} : ∀g∈jF id pre t d,Ln g.2:=fS t d 0
theorem Jk {p:PM} {i:Nat} {v:Value} {d:p.den} {ps:List PM} {vs:List Value} {e:denP ps} {γ:Value} {q:Nat} (hi:i<n) (hq:q<n) (hγ:θ q=γ) (hθ:θ i=v) (h:UJ P w0 J γ p v d) (hS:St J w0 w (owCh γ (p::ps) (v::vs) (d,e)++C)) :
  (∀chs,(Jj i p d).ok P w0 J θ n chs)/\(Jj i p d).v θ=v/\St J w0 w ((Eg q i p d).map (fun g=>toCh P θ (g.1,i,g.2))++(owCh γ ps vs e++C))/\(∀g∈Eg q i p d,∀chs,okE P w0 J θ n chs (g.1,i,g.2))/\VW P w0 J θ n i p v d:=by
 cases p with
 | rd t =>
  have ⟨cs,h1,h2⟩:=h
  have hav:=fun chs=>mP (P:=P) (w0:=w0) (J:=J) (chs:=chs) hi hθ t d cs h2 h1
  exact ⟨fun chs=>(hav chs).1,(hav []).2,hS,fun g hg=>(by cases hg),trivial⟩
 | fn a b =>
  have hh:hv θ ⟨i,[]⟩=v:=hθ
  exact ⟨fun chs=>⟨hi,by rw[hh];exact h⟩,hh,hS,fun g hg=>(by cases hg),trivial⟩
 | cap T t =>
  obtain ⟨b,rfl,cells,h1,h2⟩:=h
  have hh:hv θ ⟨i,[]⟩= .pointer (some ⟨b,0,none⟩):=hθ
  refine ⟨fun chs=>⟨hi,cells,by rw[hh];exact h1,h2⟩,?_,hS,fun g hg=>(by cases hg),trivial⟩
  show Value.pointer (some ⟨bk (hv θ ⟨i,[]⟩),0,none⟩)=_
  rw[hh];rfl
 | capf T x y =>
  obtain ⟨b,rfl,u,h1,h2⟩:=h
  have hh:hv θ ⟨i,[]⟩= .pointer (some ⟨b,0,none⟩):=hθ
  refine ⟨fun chs=>⟨hi,u,by rw[hh];exact h1,h2⟩,?_,hS,fun g hg=>(by cases hg),trivial⟩
  show Value.pointer (some ⟨bk (hv θ ⟨i,[]⟩),0,none⟩)=_
  rw[hh];rfl
 | ptr T t =>
  obtain ⟨b,rfl⟩:=h
  have hh:hv θ ⟨i,[]⟩= .pointer (some ⟨b,0,none⟩):=hθ
  refine ⟨fun chs=>hi,?_,?_,fun g hg chs=>by cases ak hg;exact oW trivial hi hi,hh,hi⟩
  ·show Value.pointer (some ⟨bk (hv θ ⟨i,[]⟩),0,none⟩)=_
   rw[hh];rfl
  ·show St J w0 w (Ch.box (bk (hv θ ⟨i,[]⟩)) T t.rep d::_)
   rw[hh];exact hS
 | ow t =>
  have ⟨k1,k2,k3,k4,k5⟩:=rB (P:=P) (m:=i) (pre:=[]) (id:=i) (n:=n) hi (show hv θ ⟨i,[]⟩=v from hθ) h hS
  have q:=fun chs=>yU (P:=P) (w0:=w0) (J:=J) (θ:=θ) (n:=n) (chs:=chs) (iY i [] t d) (fun e=>oU e) k1
  exact ⟨fun chs=>(q chs).1,(q []).2.trans k3,k5,fun g hg chs=>oW (tQ g hg) (by rw[k4 g hg];exact hi) hi,k2,k1⟩
 | eat t =>
  have ⟨k1,k2,k3,k4,k5⟩:=rB (P:=P) (m:=i) (pre:=[]) (id:=i) (n:=n) hi (show hv θ ⟨i,[]⟩=v from hθ) h hS
  have q:=fun chs=>yU (P:=P) (w0:=w0) (J:=J) (θ:=θ) (n:=n) (chs:=chs) (iY i [] t d) (fun e=>oU e) k1
  exact ⟨fun chs=>(q chs).1,(q []).2.trans k3,k5,fun g hg chs=>oW (tQ g hg) (by rw[k4 g hg];exact hi) hi,trivial⟩
 | fk g =>
  cases h
  exact ⟨fun chs=>rfl,rfl,hS,fun g hg=>(by cases hg),trivial⟩
 | crs T E =>
  obtain ⟨⟨b,rfl⟩,hrd⟩:=h
  have hh:hv θ ⟨i,[]⟩= .pointer (some ⟨b,0,none⟩):=hθ
  have hg0:hv θ ⟨q,[]⟩=γ:=hγ
  refine ⟨fun chs=>hi,?_,?_,fun g hg chs=>?_,hh,hi⟩
  ·show Value.pointer (some ⟨bk (hv θ ⟨i,[]⟩),0,none⟩)=_
   rw[hh];rfl
  ·show St J w0 w (Ch.blk (bk (hv θ ⟨i,[]⟩)) [hv θ ⟨q,[]⟩,.int .i64 d.2.1,.int .i64 d.2.2] T::_)
   rw[hh,hg0];exact hS
  ·cases ak hg
   refine ⟨hi,hi,fun z hz=>?_⟩
   rcases ax hz with rfl | hz
   ·exact ⟨hq,by grind⟩
   ·rcases ax hz with rfl | hz
    ·rfl
    ·cases ak hz
     rfl
 | kb g T t =>
  obtain ⟨rfl,b,hb⟩:=h
  have hh:hv θ ⟨i,[]⟩= .func (.func g) #[] #[γ]:=hθ
  have hg0:hv θ ⟨q,[]⟩=γ:=hγ
  have hp:Value.pointer (some ⟨bk (hv θ ⟨q,[]⟩),0,none⟩)=γ:=by rw[hg0,hb];rfl
  refine ⟨fun chs=>⟨hi,by rw[hh];rfl⟩,hh,?_,fun g' hg chs=>?_,trivial⟩
  ·show St J w0 w (Ch.emp::Ch.box (bk (hv θ ⟨q,[]⟩)) T t.rep d::_)
   rw[hg0]
   exact St.emp.2 hS
  ·rcases ax hg with rfl | hg
   ·refine ⟨hi,hi,fun y hy=>(by cases hy),fun x hx=>?_,?_⟩
    ·cases ak hx
     exact hq
    ·show hv θ ⟨i,[]⟩= .func (.func g) #[] #[Value.pointer (some ⟨bk (hv θ ⟨q,[]⟩),0,none⟩)]
     grind
   ·cases ak hg
    exact oW trivial hq hi
 | kc g =>
  obtain ⟨rfl,b,hb⟩:=h
  have hh:hv θ ⟨i,[]⟩= .func (.func g) #[] #[γ]:=hθ
  have hg0:hv θ ⟨q,[]⟩=γ:=hγ
  have hp:Value.pointer (some ⟨bk (hv θ ⟨q,[]⟩),0,none⟩)=γ:=by rw[hg0,hb];rfl
  refine ⟨fun chs=>⟨hi,by rw[hh];rfl⟩,hh,?_,fun g' hg chs=>?_,trivial⟩
  ·exact St.emp.2 hS
  ·cases ak hg
   refine ⟨hi,hi,fun y hy=>(by cases hy),fun x hx=>?_,?_⟩
   ·cases ak hx
    exact hq
   ·show hv θ ⟨i,[]⟩= .func (.func g) #[] #[Value.pointer (some ⟨bk (hv θ ⟨q,[]⟩),0,none⟩)]
    grind
theorem Ei {γ:Value} {q:Nat} (hq:q<n) (hγ:θ q=γ): ∀ {ps:List PM} {i:Nat} {vs:List Value} {d:denP ps} {C:List Ch},PArgs P w0 J γ ps vs d->(∀j v,vs[j]? =some v->θ (i+j)=v)->i+ps.length<=n->St J w0 w (owCh γ ps vs d++C)->
  (∀e∈Eh i ps d,(∀chs,e.2.2.ok P w0 J θ n chs)/\i<=e.1/\e.2.1=e.1/\e.1<i+ps.length/\vs[e.1 - i]? =some (e.2.2.v θ))/\((Eh i ps d).Pairwise fun a b=>a.2.1≠b.2.1)/\St J w0 w ((Bm q i ps d).map (toCh P θ)++C)/\(∀e∈Bm q i ps d,∀chs,okE P w0 J θ n chs e)/\StF P w0 J θ n i ps vs d
 | [],i,vs,d,C,h,_,_,hS=>by
  exact ⟨fun e he=>(by cases he),List.Pairwise.nil,hS,fun e he=>(by cases he),trivial⟩
 | p::ps,i,vs,d,C,h,hθ,hn,hS=>by
  obtain ⟨v,r,rfl,h1,h3⟩:=h
  rw[aH] at hn
  have ⟨a1,a2,a3,a4,a5⟩:=Jk (n:=n) (i:=i) (θ:=θ) (e:=d.2) (show i<n by omega) hq hγ (hθ 0 v rfl) h1 hS
  have ⟨k1,k2,k3,k4,k5⟩:=Ei hq hγ (i:=i+1) h3 (fun j u hj=>by
   have:=hθ (j+1) u hj
   grind) (by omega) (a3.perm (List.perm_append_comm_assoc _ _ _))
  refine ⟨fun e he=>?_,List.pairwise_cons.2 ⟨fun e he hh=>?_,k2⟩,?_,fun e he chs=>?_,a5,k5⟩
  ·rcases ax he with rfl | he
   ·grind
   grind
  ·grind
  ·show St J w0 w (((Eg q i p d.1).map _++Bm q (i+1) ps d.2).map (toCh P θ)++C)
   rw[aM,List.map_map]
   refine k3.perm ?_
   rw[aB]
   exact List.perm_append_comm_assoc _ _ _
  ·rcases aC he with he | he
   ·obtain ⟨g,hg,rfl⟩:=List.mem_map.1 he
    grind
   grind
theorem Bn {γ:Value} : ∀ {ps:List PM} {vs:List Value} {d:denP ps},PArgs P w0 J γ ps vs d->vs.length=ps.length
 | [],vs,d,h=>by
  have h:vs= []:=h
  grind
 | p::ps,vs,d,h=>by
  obtain ⟨v,r,rfl,h1,h3⟩:=h
  simpa using Bn h3
end
def QL (tt:TT) (s:Sg):ResultVar->Option AV
 | .tmp t=>look s.env t
 | .cell p T=>(KI (look s.env p)).bind fun h=>(td tt T).bind fun d=>(oG h s.chs).bind fun b=>bm (Nat.beq b.cells.length d.n) (UH d.agg b.cells)
theorem QM {v:Option AV} {h:Hdr} (k:KI v=some h):v=some (.one (.ptr h 0)):=by
 unfold KI at k
 grind[al,ae]
section
variable {P:Program} {I:Hp} {w0 w:World} {F:Ch} {J:Hp} {θ:Th} {n:Nat} {s:Sg} {a:Act} {tt:TT}
theorem QN (ha:Agr n a (envL θ s)) {t g:Nat} {T E:TypeId} {v:Value} {cs:List Ch} (h:(envL θ s).lookup t=some (.pointer (some ⟨g,0,none⟩))) (hs:St J w0 w cs) (i:Nat) (hi:cs[i]? =some (Ch.blk g [v] E)) (hT:TI P T false 1):B5 P a w (.cell t T) v:=by
 refine ⟨_,ha.2.2 t _ h,?_⟩
 have hg:=hs.heap i hi
 have hc:w.cell? ⟨g,0,none⟩=some v:=by simp[World.cell?,hg]
 simp[loadVar,Sem.run_bind,hT.run_agg,load,Sem.run,hc,Result.andThen]
theorem MN (hT:TTok P tt) (hS:Sim P I w0 F n J θ s a w) {r:ResultVar} {v:AV} (h:QL tt s r=some v):B5 P a w r (v.v θ)/\v.ok P w0 J θ s.nxt s.chs:=by
 cases r with
 | tmp t=>exact ⟨Ph hS.agr (fh h),bg (x:=.tmp t) hS.fine h⟩
 | cell p T =>
  have ⟨hh,h1,h⟩:=bind_some (show (KI (look s.env p)).bind _=some v from h)
  have ⟨d,hd,h⟩:=bind_some h
  have ⟨b,hb,h⟩:=bind_some h
  have ⟨hl,h⟩:=ai h
  have hl:=al hl
  have hp:=iX hb
  have hok:=hS.fine.chs _ (hp.mem_iff.2 (List.mem_cons_self ..))
  have ⟨k1,k2⟩:=HC (chs:=s.chs) h hok.2.2
  refine ⟨?_,k1⟩
  have hlk:(envL θ s).lookup p=some (.pointer (some ⟨bk (hv θ hh),0,none⟩)):=fh (QM h1)
  have hst:=hS.st.perm ((hp.map (toCh P θ)).append_right [F])
  have hti:=(hT.get hd).ti
  cases hagg:d.agg with
  | true =>
   rw[hagg] at k2 hti
   rw[<-k2]
   exact KQ hS.agr hlk hst 0 rfl hti (by grind)
  | false =>
   rw[hagg] at k2 hti h
   have h1':d.n=1:=by
    have:=(hT.get hd).one
    rw[hagg] at this
    simpa using this
   have ⟨x,hx⟩:=List.length_eq_one_iff.1 (hl.trans h1')
   rw[h1'] at hti
   rw[hx] at k2
   rw[<-k2]
   have hst2:St J w0 w (Ch.blk (bk (hv θ hh)) [x.v θ] b.T::(b.rest.map (toCh P θ)++ [F])):=by
    have:(toCh P θ (b.ent hh))=Ch.blk (bk (hv θ hh)) (b.cells.map (·.v θ)) b.T:=rfl
    rw[hx] at this
    rw[<-show toCh P θ (b.ent hh)=Ch.blk (bk (hv θ hh)) [x.v θ] b.T from this]
    exact hst
   exact QN hS.agr hlk hst2 0 rfl hti
end
def CK:(ts:List Ty)->List AV->List Ent->Option (gZ ts×List Ent×List Ent)
 | [],[],chs=>some ((),[],chs)
 | t::ts,v::vs,chs=>bm (lq v==t.isProd) ((jE v).bind fun cs=>(bX t cs chs).bind fun q=>bm q.cells.isEmpty ((CK ts vs q.rest).bind fun r=>some ((q.d,r.1),q.used++r.2.1,r.2.2)))
 | _,_,_=>none
def sY:(ts:List Ty)->List Value->gZ ts->List Ch
 | t::ts,v::vs,d=>Ch.own t.rep (jy t.isProd v) d.1::sY ts vs d.2
 | _,_,_=>[]
theorem xK {P:Program} {w0:World} {J:Hp} {θ:Th} {n:Nat} {chs0:List Ent} : ∀ {ts:List Ty} {vs:List AV} {chs:List Ent} {r:gZ ts×List Ent×List Ent},CK ts vs chs=some r->(∀v∈vs,v.ok P w0 J θ n chs0)->
  chs.Perm (r.2.1++r.2.2)/\vs.length=ts.length/\oR J (r.2.1.map (toCh P θ)) (sY ts (vs.map (·.v θ)) r.1)/\ ∀(i:Nat) t v,ts[i]? =some t->vs[i]? =some v->l6 (v.v θ)=t.isProd
 | [],[],chs,r,h,_=>by
  cases ae (show some _=some r from h)
  exact ⟨List.Perm.refl _,rfl,ri,fun i t v ht=>by grind⟩
 | t::ts,v::vs,chs,r,h,hv'=>by
  have ⟨ha,h⟩:=ai (show bm (lq v==t.isProd) _=some r from h)
  have ha:lq v=t.isProd:=by simpa using ha
  have ⟨cs,hcs,h⟩:=bind_some h
  have ⟨q,hq,h⟩:=bind_some h
  have ⟨he,h⟩:=ai h
  have ⟨r',hr,h⟩:=bind_some h
  cases ae h
  have ⟨c1,c2⟩:=gr hcs (hv' v (by simp))
  have ⟨p,cc,e1,e2⟩:=fQ (J:=J) (θ:=θ) hq c1
  rw[List.isEmpty_iff.1 he,List.append_nil] at e1
  subst e1
  have ⟨k1,k2,k3,k4⟩:=xK hr fun x hx=>hv' x (by grind)
  have hcell:jy t.isProd (v.v θ)=cs.map (·.v θ)/\l6 (v.v θ)=t.isProd:=by
   rw[<-ha]
   cases v with
   | agg xs =>
    cases ae (show some xs=some cs from hcs)
    exact ⟨rfl,rfl⟩
   | one x =>
    cases ae (show some [x] =some cs from hcs)
    refine ⟨rfl,?_⟩
    have h1:=LV.one (show LV.ok P w0 J θ n x from hv' (.one x) (by simp))
    show l6 (x.v θ)=false
    generalize x.v θ=u at h1
    cases u <;> first | rfl | cases h1
   | _=>cases hcs
  refine ⟨by rw[aB];exact p.trans (k1.append_left _),by grind,?_,fun i t' v' ht hv0=>?_⟩
  ·show oR J ((q.used++r'.2.1).map _) (Ch.own t.rep (jy t.isProd (v.v θ)) q.d::sY ts (vs.map _) r'.1)
   rw[aM,hcell.1]
   exact oS e2 k3
  grind
 | [],_::_,chs,r,h,_=>by cases h
 | _::_,[],chs,r,h,_=>by cases h
def Us:List Value->Value
 | [v] =>v
 | vs=>.tuple vs.toArray
def Ej (P:Program) (a:Act) (w:World):List ResultVar->List Value->Prop
 | [],vs=>vs= []
 | r::rs,vs=> ∃v us,vs=v::us/\B5 P a w r v/\Ej P a w rs us
theorem tR {P:Program} {a:Act} {w:World} {f:ResultVar->Sem Value} (hf: ∀r v,B5 P a w r v->(f r).run P w= .ok v w): ∀ {l:List ResultVar} {vs:List Value},Ej P a w l vs->(l.mapM f).run P w= .ok vs w
 | [],vs,h=>by
  have h:vs= []:=h
  simp_all
 | r::l,vs,h=>by
  obtain ⟨v,us,rfl,h1,h2⟩:=h
  rw[List.mapM_cons,Sem.run_bind,hf r v h1]
  simp only[Result.andThen_ok,Sem.run_bind,tR hf h2]
  rfl
def Ut (a:Act) (r:ResultVar):Sem Value:=match r with
 | .tmp t=>pure (a.tmps.getD t undef)
 | .cell p t=>do loadVar t (<-asAddr (a.tmps.getD p undef))
theorem QO {P:Program} {a:Act} {w:World} {r:ResultVar} {v:Value} (h:B5 P a w r v):(Ut a r).run P w= .ok v w:=by
 cases r with
 | tmp t =>
  have h:a.tmps.getD t undef=v:=h
  show (pure (a.tmps.getD t undef):Sem Value).run P w=_
  simp_all
 | cell p T =>
  have ⟨A,h1,h2⟩:=h
  show ((asAddr (a.tmps.getD p undef)) >>=fun x=>loadVar T x).run P w=_
  rw[h1,Sem.run_bind]
  show Result.andThen (.ok A w) _=_
  simp_all
theorem U6 {P:Program} {n:Nat} {a:Act} {w:World} {L:List (Nat×Value)} {fn:Func} {R:Ending->World->Prop} {vs:List Value} (ha:Agr n a L) (h:Ej P a w fn.results.toList vs) (hR:R (.returned (Us vs)) w):bodyPost P fn R .ret a w:=by
 refine ⟨ha.1,Us vs,?_,hR⟩
 have hr:((fn.results.mapM (Ut a)):Sem (Array Value)).run P w= .ok vs.toArray w:=by
  rw[Array.mapM_eq_mapM_toList]
  have:=tR (f:=Ut a) (fun r v=>QO) h
  simp[this,Sem.run_map]
 show ((fn.results.mapM (Ut a)) >>=fun vs=>pure (if h:vs.size=1 then vs[0] else .tuple vs):Sem Value).run P w=_
 rw[Sem.run_bind,hr,Result.andThen_ok]
 match vs with
 | [] =>rfl
 | [v] =>rfl
 | _::_::_=>rfl
def dg (g0:Nat):(i:Nat)->(ps:List PM)->denP ps->List Ent->Option (gZ (outs ps)×List Ent×List Ent)
 | _,[],_,chs=>some ((),[],chs)
 | i,.ow t::ps,d,chs=>(bX t (iY i [] t d.1).2 chs).bind fun q=>bm q.cells.isEmpty ((dg g0 (i+1) ps d.2 q.rest).bind fun r=>some ((q.d,r.1),q.used++r.2.1,r.2.2))
 | i,.ptr T t::ps,d,chs=>(oV ⟨i,[]⟩ T t chs).bind fun q=>(dg g0 (i+1) ps d.2 q.2.2).bind fun r=>some ((q.1,r.1),q.2.1++r.2.1,r.2.2)
 | i,.rd _::ps,d,chs=>dg g0 (i+1) ps d.2 chs
 | i,.fn _ _::ps,d,chs=>dg g0 (i+1) ps d.2 chs
 | i,.eat _::ps,d,chs=>dg g0 (i+1) ps d.2 chs
 | i,.cap _ _::ps,d,chs=>dg g0 (i+1) ps d.2 chs
 | i,.capf _ _ _::ps,d,chs=>dg g0 (i+1) ps d.2 chs
 | i,.fk _::ps,d,chs=>dg g0 (i+1) ps d.2 chs
 | i,.kc _::ps,d,chs=>dg g0 (i+1) ps d.2 chs
 | i,.kb _ T t::ps,d,chs=>(oV ⟨g0,[]⟩ T t chs).bind fun q=>(dg g0 (i+1) ps d.2 q.2.2).bind fun r=>some ((q.1,r.1),q.2.1++r.2.1,r.2.2)
 | i,.crs T E::ps,d,chs=>(qD ⟨i,[]⟩ T E chs).bind fun q=>bm (Hdr.beq q.g ⟨g0,[]⟩) ((dg g0 (i+1) ps d.2 q.rest).bind fun r=>some ((q.d.2,r.1),q.ent::r.2.1,r.2.2))
theorem di {P:Program} {w0:World} {J J':Hp} {θ θ':Th} {n n':Nat} {chs0:List Ent} (hJ:J.le J') (hs:Same n θ θ') {γ:Value} {g0:Nat} (hg0:g0<n) (hγ:θ g0=γ): ∀ {ps:List PM} {i:Nat} {d:denP ps} {chs:List Ent} {vs:List Value} {r:gZ (outs ps)×List Ent×List Ent},dg g0 i ps d chs=some r->vs.length=ps.length->StF P w0 J θ n i ps vs d->(∀e∈chs,okE P w0 J' θ' n' chs0 e)->
  chs.Perm (r.2.1++r.2.2)/\oR J' (r.2.1.map (toCh P θ')) (outCh γ ps vs r.1)
 | [],i,d,chs,vs,r,h,_,_,_=>by
  cases ae (show some _=some r from h)
  exact ⟨List.Perm.refl _,ri⟩
 | p::ps,i,d,chs,[],r,h,hl,_,_=>by cases hl
 | .ow t::ps,i,d,chs,v::vs,r,h,hl,hF,hc=>by
  have ⟨q,hq,h⟩:=bind_some (show (bX t (iY i [] t d.1).2 chs).bind _=some r from h)
  have ⟨he,h⟩:=ai h
  have ⟨r',hr,h⟩:=bind_some h
  cases ae h
  have ⟨⟨k1,k2⟩,k3⟩:=hF
  have ⟨p,cc,e1,e2⟩:=fQ (P:=P) (w0:=w0) (J:=J') (θ:=θ') (n:=n) hq fun x hx=>LV.ok_same hs (aF _) (k2 x hx) hJ
  rw[List.isEmpty_iff.1 he,List.append_nil] at e1
  subst e1
  rw[fx hs k2,k1] at e2
  have ⟨q1,q2⟩:=di hJ hs hg0 hγ hr (by grind) k3 fun e he=>hc e (p.mem_iff.2 (by grind))
  refine ⟨by rw[aB];exact p.trans (q1.append_left _),?_⟩
  show oR J' ((q.used++r'.2.1).map _) (Ch.own t.rep (jy t.isProd v) q.d::outCh γ ps vs r'.1)
  rw[aM]
  exact oS e2 q2
 | .ptr T t::ps,i,d,chs,v::vs,r,h,hl,hF,hc=>by
  have ⟨q,hq,h⟩:=bind_some (show (oV ⟨i,[]⟩ T t chs).bind _=some r from h)
  have ⟨r',hr,h⟩:=bind_some h
  cases ae h
  have ⟨⟨k1,k2⟩,k3⟩:=hF
  have ⟨p,hb⟩:=pP (P:=P) (w0:=w0) (J:=J') (J':=J') (θ:=θ') hq Hp.le.rfl hc
  have ⟨q1,q2⟩:=di hJ hs hg0 hγ hr (by grind) k3 fun e he=>hc e (p.mem_iff.2 (by grind))
  refine ⟨by rw[aB];exact p.trans (q1.append_left _),?_⟩
  rw[aM]
  have hh:=(aP hs (show (⟨i,[]⟩:Hdr).id<n from k2)).trans k1
  rw[hh] at hb
  intro w F hsp
  obtain ⟨G,K,rfl,h1,h2⟩:=hsp.split
  exact ⟨G,K,rfl,hb w G h1,q2 w K h2⟩
 | .rd t::ps,i,d,chs,v::vs,r,h,hl,hF,hc=>di (ps:=ps) hJ hs hg0 hγ (show dg g0 (i+1) ps d.2 chs=some r from h) (by grind) hF.2 hc
 | .fn _ _::ps,i,d,chs,v::vs,r,h,hl,hF,hc=>di (ps:=ps) hJ hs hg0 hγ (show dg g0 (i+1) ps d.2 chs=some r from h) (by grind) hF.2 hc
 | .eat _::ps,i,d,chs,v::vs,r,h,hl,hF,hc=>di (ps:=ps) hJ hs hg0 hγ (show dg g0 (i+1) ps d.2 chs=some r from h) (by grind) hF.2 hc
 | .cap _ _::ps,i,d,chs,v::vs,r,h,hl,hF,hc=>di (ps:=ps) hJ hs hg0 hγ (show dg g0 (i+1) ps d.2 chs=some r from h) (by grind) hF.2 hc
 | .capf _ _ _::ps,i,d,chs,v::vs,r,h,hl,hF,hc=>di (ps:=ps) hJ hs hg0 hγ (show dg g0 (i+1) ps d.2 chs=some r from h) (by grind) hF.2 hc
 | .kc _::ps,i,d,chs,v::vs,r,h,hl,hF,hc=>di (ps:=ps) hJ hs hg0 hγ (show dg g0 (i+1) ps d.2 chs=some r from h) (by grind) hF.2 hc
 | .kb _ T t::ps,i,d,chs,v::vs,r,h,hl,hF,hc=>by
  have ⟨q,hq,h⟩:=bind_some (show (oV ⟨g0,[]⟩ T t chs).bind _=some r from h)
  have ⟨r',hr,h⟩:=bind_some h
  cases ae h
  obtain ⟨-,k3⟩:=hF
  have ⟨p,hb⟩:=pP (P:=P) (w0:=w0) (J:=J') (J':=J') (θ:=θ') hq Hp.le.rfl hc
  have ⟨q1,q2⟩:=di hJ hs hg0 hγ hr (by grind) k3 fun e he=>hc e (p.mem_iff.2 (by grind))
  refine ⟨by rw[aB];exact p.trans (q1.append_left _),?_⟩
  rw[aM]
  have hh:hv θ' ⟨g0,[]⟩=γ:=by
   show vg (θ' g0) [] =γ
   rw[hs g0 hg0,hγ];rfl
  rw[hh] at hb
  intro w F hsp
  obtain ⟨G,K,rfl,h1,h2⟩:=hsp.split
  exact ⟨G,K,rfl,hb w G h1,q2 w K h2⟩
 | .fk _::ps,i,d,chs,v::vs,r,h,hl,hF,hc=>di (ps:=ps) hJ hs hg0 hγ (show dg g0 (i+1) ps d.2 chs=some r from h) (by grind) hF.2 hc
 | .crs T E::ps,i,d,chs,v::vs,r,h,hl,hF,hc=>by
  have ⟨q,hq,h⟩:=bind_some (show (qD ⟨i,[]⟩ T E chs).bind _=some r from h)
  have ⟨hb,h⟩:=ai h
  have ⟨r',hr,h⟩:=bind_some h
  cases ae h
  have ⟨⟨k1,k2⟩,k3⟩:=hF
  have ⟨p,ver,he⟩:=lf hq
  have ⟨q1,q2⟩:=di hJ hs hg0 hγ hr (by grind) k3 fun e he=>hc e (p.mem_iff.2 (by grind))
  refine ⟨p.trans (q1.cons _),?_⟩
  have hh:=(aP hs (show (⟨i,[]⟩:Hdr).id<n from k2)).trans k1
  have hg:hv θ' q.g=γ:=by
   rw[Hdr.beq_eq hb]
   show vg (θ' g0) [] =γ
   rw[hs g0 hg0,hγ];rfl
  rw[he]
  intro w F hsp
  obtain ⟨G,K,rfl,h1,h2⟩:=hsp
  have h1:(Ch.blk (bk (hv θ' ⟨i,[]⟩)) [hv θ' q.g,.int .i64 q.d.2.1,.int .i64 q.d.2.2] T).holds J' w G:=h1
  rw[hh,hg] at h1
  exact ⟨G,K,rfl,h1,q2 w K h2⟩
def ofH:(ts:List Ty)->gZ ts->dens ts
 | [],_=>()
 | [_],d=>d.1
 | _::u::ts,d=>(d.1,ofH (u::ts) d.2)
theorem CL: ∀(ts:List Ty) (d:gZ ts),toH ts (ofH ts d)=d
 | [],_=>rfl
 | [_],_=>rfl
 | _::u::ts,d=>congrArg (Prod.mk d.1) (CL (u::ts) d.2)
def B0:(ts us:List Ty)->gZ ts->gZ us->gZ (ts++us)
 | [],_,_,e=>e
 | _::ts,us,d,e=>(d.1,B0 ts us d.2 e)
theorem zx: ∀(ts us:List Ty) (d:gZ ts) (e:gZ us),hFst ts us (B0 ts us d e)=d
 | [],_,_,_=>rfl
 | _::ts,us,d,e=>congrArg (Prod.mk d.1) (zx ts us d.2 e)
theorem Ek: ∀(ts us:List Ty) (d:gZ ts) (e:gZ us),hSnd ts us (B0 ts us d e)=e
 | [],_,_,_=>rfl
 | _::ts,us,d,e=>Ek ts us d.2 e
def xL (tt:TT) (s:Sg):List ResultVar->Option (List AV)
 | [] =>some []
 | r::rs=>(QL tt s r).bind fun v=>(xL tt s rs).bind fun vs=>some (v::vs)
def CM (s:Sg):List AV->List Hdr
 | [] =>[]
 | v::vs=>vK v++CM s vs
def uO:List Ent->List Hdr
 | [] =>[]
 | e::l=>match e.2.2 with
  | .hole _ _ _ _ _ _ _ _ _ _=>e.1::uO l
  | _=>uO l
def SU:List AV->List (Bool×Hdr)
 | [] =>[]
 | v::vs=>VT true v++SU vs
def Bo (tr:Trs) (vs:List AV) (s:Sg):Sg:=match tr with
 | [] =>s
 | _=>LG (I1 tr) (SU vs) s
def MO (tr:Trs) (vs:List AV) (s0:Sg):Sg:=match Bo tr vs s0 with
 | s=>rI (CM s0 vs++uO s.chs) s
def nlN:List AV->(ts:List Ty)->gZ ts->Int
 | [.one (.own _)],[.sl _ t],d=>((List.length (α:=t.den) d.1:Nat):Int)
 | [.one (.val v)],[.sl _ _],_=>match isNil v with
  | true=>1
  | false=>0
 | _,_,_=>0
def SV (an:List (Nat×Ty)) (vs:List AV) (ts:List Ty) (d:gZ ts):Option Unit:=match xF 1000000 an with
 | true=>chk (0<nlN vs ts d)
 | false=>some ()
theorem SX {vs:List AV} {ts:List Ty} {d:gZ ts} {θ:Th} (h:0<nlN vs ts d) {v:Value} (hv:vs.map (·.v θ)= [v]):tI ts d v:=by
 unfold nlN at h
 split at h
 ·intro h0
  omega
 ·split at h
  ·intro _
   grind[kP,AV.v,LV.v]
  ·omega
 ·omega
def Jl (V:Env) (rvs:List ResultVar) (rs:List Ty) (ps:List PM) (d:denP ps) (s00:Sg):Option (dens (rs++outs ps)):=(xL V.tt s00 rvs).bind fun vs00=>LP vs00 s00 fun s0=>(xL V.tt s0 rvs).bind fun vs0=>match MO V.tr vs0 s0 with
 | s=>(xL V.tt s rvs).bind fun vs=>(CK rs vs s.chs).bind fun r=>(dg ps.length 0 ps d r.2.2).bind fun o=>(SV V.an vs rs r.1).bind fun _=>some (ofH _ (B0 rs (outs ps) r.1 o.1))
end R
namespace R
open Go.RowKit
open D
theorem xM {vs:List Value} : ∀ {ts:List Ty} {i:Nat} {us:List Value} {d:gZ ts},us.length=ts.length->(∀j v,us[j]? =some v->vs[i+j]? =some v)->sF i ts d (.tuple vs.toArray)=sY ts us d
 | [],i,us,d,h,_=>by
  rfl
 | t::ts,i,[],d,h,_=>by cases h
 | t::ts,i,u::us,d,h,k=>by
  have h0:vg (.tuple vs.toArray) [i] =u:=by
   show vs.toArray.getD i undef=u
   have:=k 0 u rfl
   rw[Nat.add_zero] at this
   simp[Array.getD_eq_getD_getElem?,this]
  show Ch.own t.rep (jy t.isProd (vg (.tuple vs.toArray) [i])) d.1::sF (i+1) ts d.2 _=Ch.own t.rep (jy t.isProd u) d.1::sY ts us d.2
  rw[h0,xM (us:=us) (by grind) fun j v hj=>by
   have:=k (j+1) v (by grind)
   grind]
theorem F7 {ts:List Ty} {vs:List Value} {d:gZ ts} (h:vs.length=ts.length):resGv ts d (Us vs)=sY ts vs d:=by
 match ts,vs,d,h with
 | [],[],d,_=>rfl
 | [t],[v],d,_=>rfl
 | t::u::ts,v::w::vs,d,h =>
  show sF 0 _ d (.tuple (v::w::vs).toArray)=_
  grind[xM]
theorem MP {ts:List Ty} {vs:List Value} (h:vs.length=ts.length) (k: ∀(i:Nat) t v,ts[i]? =some t->vs[i]? =some v->l6 v=t.isProd):resFa ts (Us vs):=by
 match ts,vs,h with
 | [],[],_=>exact ⟨#[],rfl,rfl,fun i t ht=>by grind⟩
 | [t],[v],_=>exact k 0 t v rfl rfl
 | t::u::ts,v::w::vs,h =>
  refine ⟨(v::w::vs).toArray,rfl,by omega,fun i t' ht=>?_⟩
  have hlt:i<(v::w::vs).length:=by rw[h];exact (List.getElem?_eq_some_iff.1 ht).1
  have:=k i t' ((v::w::vs)[i]) ht (List.getElem?_eq_getElem hlt)
  rw[<-this,Array.getD_eq_getD_getElem?,List.getElem?_toArray,List.getElem?_eq_getElem hlt];rfl
theorem vW {P:Program} {I:Hp} {w0 w:World} {F:Ch} {J:Hp} {θ:Th} {n:Nat} {s:Sg} {a:Act} {tt:TT} (hT:TTok P tt) (hS:Sim P I w0 F n J θ s a w): ∀ {rs:List ResultVar} {vs:List AV},xL tt s rs=some vs->Ej P a w rs (vs.map (·.v θ))/\ ∀v∈vs,v.ok P w0 J θ s.nxt s.chs
 | [],vs,h=>by
  cases ae (show some [] =some vs from h)
  exact ⟨rfl,fun v hv=>by cases hv⟩
 | r::rs,vs,h=>by
  have ⟨v,hv',h⟩:=bind_some (show (QL tt s r).bind _=some vs from h)
  have ⟨us,hus,h⟩:=bind_some h
  cases ae h
  have ⟨k1,k2⟩:=MN hT hS hv'
  have ⟨q1,q2⟩:=vW hT hS hus
  refine ⟨⟨_,_,rfl,k1,q1⟩,fun x hx=>?_⟩
  grind
theorem Jm {J:Hp} {a b c d:List Ch} (h:oR J a b) (k:oR J c d):oR J (a++c) (b++d):=fun w F hs=>by
 obtain ⟨G,K,rfl,e1,e2⟩:=hs.split
 exact (h w G e1).append (k w K e2)
theorem St.sepTo {J:Hp} {w0 w:World} {a b C:List Ch} (h:St J w0 w (a++C)) (k:oR J a b):St J w0 w (b++C):=by
 have ⟨h1,h2,F,h3,h4,h5⟩:=h
 obtain ⟨G,K,rfl,e1,e2⟩:=h3.split
 exact ⟨h1,h2,G++K,(k w G e1).append e2,h4,h5⟩
theorem xN {P:Program} {n:Nat} {I:Hp} {w0:World} {k:FuncId} {fn:Func} {c:Code} {args:Array Value} {rn:List Ch} {fact:Value->Prop} {gv:Value->List Ch} (L:List (Nat×Value)) (hf:P.funcs[k]? =some fn) (hb:fn.body=some c) (hn:fn.ntmps=n) (hm:args.size<=n) (hL: ∀p∈L,args[p.1]? =some p.2)
  (h: ∀F w a,Agr n a L->St I w0 w (rn++ [F])->c.wp P (bodyPost P fn fun e w'=> ∃v,e= .returned v/\fact v/\ ∃J,I.le J/\St J w0 w' (gv v++ [F])) a w) (hd: ∀v,Ch.back (gv v)):Con P k args I w0 rn fact gv:=by
 intro w C hs
 have hs':St I w0 w (rn++ [Ch.fr I C]):=by
  have ⟨hb,hi,F,h1,h2,h3⟩:=hs
  obtain ⟨G,K,rfl,e1,e2⟩:=h1.split
  exact ⟨hb,hi,G++K,e1.append ⟨K,[],by simp,e2,rfl⟩,h2,h3⟩
 have:=h (Ch.fr I C) w { tmps:=args++Array.replicate (fn.ntmps - args.size) undef,defers:=[] } (Agr.start L (by omega) hL) hs'
 refine (calls_of_wp hf hb this).mono ?_
 rintro e w' ⟨v,rfl,hv,J,hJ,hs⟩
 exact ⟨v,rfl,hv,hs.back hJ (hd v)⟩
theorem MQ {P:Program} {I:Hp} {w0 w:World} {F:Ch} {n:Nat} {J:Hp} {θ:Th} {s:Sg} {a:Act} {tr:Trs} {vs:List AV} (hS:Sim P I w0 F n J θ s a w): ∃J' θ',J.le J'/\Sim P I w0 F n J' θ' (MO tr vs s) a w/\Fr s θ (MO tr vs s) θ':=by
 have key: ∃J' θ',J.le J'/\Sim P I w0 F n J' θ' (Bo tr vs s) a w/\Fr s θ (Bo tr vs s) θ':=by
  unfold Bo
  split
  ·grind[Hp.le.rfl,Fr.rfl]
  ·exact qG hS
 have ⟨J',θ',h1,h2,h3⟩:=key
 have ⟨S2,F2⟩:=pS (V:=⟨[],[],[],n,[]⟩) (hs:=CM s vs++uO (Bo tr vs s).chs) h2
 exact ⟨J',θ',h1,S2,h3.trans F2⟩
theorem OD {V:Env} {P:Program} {w0:World} {F:Ch} {J:Hp} {θ:Th} (hT:TTok P V.tt) {fn:Func} {rs:List Ty} {ps:List PM} {d:denP ps} {vs:List Value} {s0:Sg} (k0:vs.length=ps.length) (k5:StF P w0 J θ (ps.length+1) 0 ps vs d) (hn0:ps.length+1<=s0.nxt) {γ:Value} (hγ:θ ps.length=γ): ∀r J' θ' s' a' w',Jl V fn.results.toList rs ps d s'=some r->Sim P J w0 F V.n J' θ' s' a' w'->J.le J'->Fr s0 θ s' θ'->
  bodyPost P fn (fun e w'=> ∃v,e= .returned v/\(resFa rs v/\(xF 1000000 V.an=true->tI rs (hFst rs (outs ps) (toH _ r)) v))/\ ∃J2,J.le J2/\St J2 w0 w' ((resGv rs (hFst rs (outs ps) (toH _ r)) v++outCh γ ps vs (hSnd rs (outs ps) (toH _ r)))++ [F])) .ret a' w':=by
 intro r J' θ' s' a' w' hrt hS' hJ hFr
 have ⟨vs00,hv00,hrt⟩:=bind_some (show (xL V.tt s' fn.results.toList).bind _=some r from hrt)
 have ⟨s0',hrt,S0,N0⟩:=D0 hrt (vW hT hS' hv00).2 hS'
 have ⟨vs0,hv0,hrt⟩:=bind_some hrt
 have ⟨J1,θ1,hJ1,S1,F1⟩:=MQ (tr:=V.tr) (vs:=vs0) S0
 generalize MO V.tr vs0 s0'=s1 at hrt S1 F1
 have hle:=hFr.1
 have hsame:Same (ps.length+1) θ θ1:=fun i hi=>(F1.same i (by omega)).trans (hFr.same i (by omega))
 replace hJ:=hJ.trans hJ1
 clear hJ1 F1 hS' S0 hFr
 revert J1 θ1
 intro J' θ' S1 hsame hJ
 have ⟨us,hus,hrt⟩:=bind_some hrt
 have ⟨q,hq,hrt⟩:=bind_some hrt
 have ⟨o,ho,hrt⟩:=bind_some hrt
 have ⟨u0,hnl,hrt⟩:=bind_some hrt
 cases ae hrt
 have ⟨r1,r2⟩:=vW hT S1 hus
 have ⟨t1,t2,t3,t4⟩:=xK (J:=J') (θ:=θ') hq r2
 have ⟨o1,o2⟩:=di (P:=P) (J:=J) (J':=J') (θ:=θ) (θ':=θ') (vs:=vs) (n:=ps.length+1) (n':=s1.nxt) (chs0:=s1.chs) hJ hsame (au _) hγ ho k0 k5 fun e he=>S1.fine.chs e (t1.mem_iff.2 (by grind))
 have hl:(us.map (·.v θ')).length=rs.length:=by rw[List.length_map];exact t2
 refine U6 S1.agr r1 ⟨_,rfl,⟨MP hl fun i t v ht hv1=>?_,fun han=>?_⟩,J',hJ,?_⟩
 ·grind
 ·rw[CL,zx]
  unfold SV at hnl
  rw[han] at hnl
  have hnl:=bp hnl
  rcases us with _ | ⟨x,us⟩
  ·cases hnl
  ·cases us with
   | nil=>exact SX (θ:=θ') hnl rfl
   | cons y us=>grind[nlN]
 ·rw[CL,zx,Ek,F7 hl]
  have hp:=t1.trans (o1.append_left _)
  have h1:=S1.st.perm ((hp.map (toCh P θ')).append_right [F])
  have h2:St J' w0 w' ((q.2.1.map (toCh P θ')++o.2.1.map (toCh P θ'))++(o.2.2.map (toCh P θ')++ [F])):=by
   simpa [aM,aB] using h1
  have h3:=St.sepTo h2 (Jm t3 o2)
  refine St.left (ds:=o.2.2.map (toCh P θ')) (h3.perm ?_)
  grind[aB,List.Perm.append_left,List.perm_append_comm]
theorem QP {V:Env} {P:Program} (hT:TTok P V.tt) (hF:FTok P V.ft) (hmx:P.follows .mixedOrders=true) {k:FuncId} {fn:Func} {c:Code} {f:FS} (hf:P.funcs[k]? =some fn) (hb:fn.body=some c) (hn:fn.ntmps=V.n) (hen:Enters P k) (hm:f.ps.length<=V.n) (hdp:(AP f.rs&&sM f.ps)=true) (ann:Ann)
  (hmod: ∀d,appP f.ps f.m d=j9 V (Jl V fn.results.toList f.rs f.ps d) c ann (fun r=>some r) (fun _ _=>none) (Jl V fn.results.toList f.rs f.ps d) (oH (vV f.ps d))): ∀w0 J γ vs (d:denP f.ps) r,Lay P J->PArgs P w0 J γ f.ps vs d->appP f.ps f.m d=some r->Con P k vs.toArray J w0 (owCh γ f.ps vs d) (fun v=>resFa f.rs v/\(xF 1000000 V.an=true->tI f.rs (hFst f.rs (outs f.ps) (toH _ r)) v)) (fun v=>resGv f.rs (hFst f.rs (outs f.ps) (toH _ r)) v++outCh γ f.ps vs (hSnd f.rs (outs f.ps) (toH _ r))):=by
 rw[ah] at hdp
 intro w0 J γ vs d r hlay ha hr
 rw[hmod] at hr
 have k0:=Bn ha
 let θ:=fun i=>if i=vs.length then γ else vs.getD i undef
 have hθ: ∀j v,vs[j]? =some v->θ (0+j)=v:=fun j v hj=>by
  grind
 have hθg:θ f.ps.length=γ:=by
  grind
 have hzip: ∀p∈(vs.zipIdx.map fun q=>(q.2,q.1)),vs.toArray[p.1]? =some p.2:=fun p hp=>by
  grind
 refine xN (n:=V.n) (vs.zipIdx.map fun q=>(q.2,q.1)) hf hb hn (by grind) hzip (fun F w a hA hst=>?_) (fun v=>sO (df _ _ _ hdp.2) _ _ hdp.1)
 ·have ⟨k1,k2,k3,k4,k5⟩:=Ei (n:=f.ps.length+1) (q:=f.ps.length) (C:=[F]) (au _) hθg ha hθ (by omega) hst
  have hfine:Fine P w0 J θ (vV f.ps d):=⟨fun e he=>(k1 e he).1 _,fun e he=>by have:=k1 e he;show e.2.1<f.ps.length+1;omega,k2,fun e he=>k4 e he _,hlay⟩
  have hA':Agr V.n a (envL θ (vV f.ps d)):=hA.pick _ fun p hp=>by
   obtain ⟨e,he,rfl⟩:=List.mem_map.1 hp
   have h5:=(k1 e he).2.2.2.2
   have key: ∀(l:List Value) (k:Nat) (i:Nat) (v:Value),k<=i->l[i - k]? =some v->((l.zipIdx k).map fun q=>(q.2,q.1)).lookup i=some v:=by
    intro l
    induction l with
    | nil=>grind
    | cons x l ih =>
     intro k i v hk h
     simp[List.zipIdx_cons,List.map_cons,List.lookup_cons]
     by_cases e:i=k
     ·simp_all
     ·rw[show i - k=(i - (k+1))+1 from by omega] at h
      grind
   grind
  have hS:Sim P J w0 F V.n J θ (vV f.ps d) a w:=⟨Hp.le.rfl,hA',k3,hfine⟩
  have fin:=OD (rs:=f.rs) (fn:=fn) (F:=F) hT k0 k5 (aF (vV f.ps d).nxt) hθg
  have ⟨θ0,hS0,hFr0⟩:=uH hS
  exact (vU (I:=J) (w0:=w0) (F:=F) hT hF hmx c).1 ann hr hS0 (fun J' θ' s' a' w' hk S' hJ hFr=>fin r J' θ' s' a' w' hk S' hJ (hFr0.trans hFr)) (fun i J' θ' s' a' w' hk=>by cases hk) (fun r' J' θ' s' a' w' hrt hrr hS' hJ hFr=>by
   cases ae hrr
   exact fin _ J' θ' s' a' w' hrt hS' hJ (hFr0.trans hFr))
theorem fok {V:Env} {P:Program} (hT:TTok P V.tt) (hF:FTok P V.ft) (hmx:P.follows .mixedOrders=true) {k:FuncId} {fn:Func} {c:Code} {f:FS} (hf:P.funcs[k]? =some fn) (hb:fn.body=some c) (hn:fn.ntmps=V.n) (hen:Enters P k) (hcl:f.cl=none) (hm:f.ps.length<=V.n) (hdp:(AP f.rs&&sM f.ps)=true) (ann:Ann)
  (hmod: ∀d,appP f.ps f.m d=j9 V (Jl V fn.results.toList f.rs f.ps d) c ann (fun r=>some r) (fun _ _=>none) (Jl V fn.results.toList f.rs f.ps d) (oH (vV f.ps d))):FOk P k f:=
 ⟨fun q hq=>by grind,fun _=>hen,fun _ w0 J γ vs d r hlay ha hr w C hs=>(QP hT hF hmx hf hb hn hen hm hdp ann hmod w0 J γ vs d r hlay ha hr w C hs).mono fun e w' ⟨v,h1,h2,h3⟩=>⟨v,h1,h2.1,h3⟩⟩
theorem El {V:Env} {P:Program} (hT:TTok P V.tt) (hF:FTok P V.ft) (hmx:P.follows .mixedOrders=true) {k:FuncId} {fn:Func} {c:Code} {E b:Nat} (hf:P.funcs[k]? =some fn) (hb:fn.body=some c) (hn:fn.ntmps=V.n) (hen:Enters P k) (hm:1<=V.n) (ann:Ann)
  (hmod: ∀(E':TypeId) (bn:Bool) (xs:List Raw),(match bn with | true=>some ([] :List Raw) | false=>(cR b [] xs).bind fun zs=>some zs)=j9 V (Jl V fn.results.toList [.sl E .raw] [] ()) c ann (fun r=>some r) (fun _ _=>none) (Jl V fn.results.toList [.sl E .raw] [] ()) ⟨[(0,0,.one (.rdn ⟨0,[]⟩ bn (.sl E' .raw) xs))],[],1⟩):sK P k E b:=by
 refine ⟨hen,fun E' J w0 v xs zs hlay hrd B0=>?_⟩
 have ⟨bn,hbn⟩: ∃bn,Aw v=bn:=⟨_,rfl⟩
 have hr:j9 V (Jl V fn.results.toList [.sl E .raw] [] ()) c ann (fun r=>some r) (fun _ _=>none) (Jl V fn.results.toList [.sl E .raw] [] ()) ⟨[(0,0,.one (.rdn ⟨0,[]⟩ bn (.sl E' .raw) xs))],[],1⟩=some zs:=by
  rw[<-hmod E' bn xs]
  cases bn with
  | false =>
   rw[B0];rfl
  | true =>
   obtain ⟨h1,-⟩:=y9 B0
   obtain ⟨ao,cap,e,-,hx⟩:=hrd
   obtain rfl:v= .slice ao xs.length cap:=by grind
   rcases hx with rfl | ⟨b,off,ccs,t,fr,rfl,-⟩
   ·rw[h1];rfl
   ·cases hbn
 let θ:Th:=fun _=>v
 have key:Con P k #[v] J w0 [] (fun v=>resFa [.sl E .raw] v/\(xF 1000000 V.an=true->tI [.sl E .raw] (zs,()) v)) (fun v=>resGv [.sl E .raw] (zs,()) v++ []):=by
  refine xN (n:=V.n) [(0,v)] hf hb hn hm (fun p hp=>by grind) (fun F w a hA hst=>?_) (fun u=>sO (D:=[]) trivial [.sl E .raw] (zs,()) rfl)
  have hfine:Fine P w0 J θ ⟨[(0,0,.one (.rdn ⟨0,[]⟩ bn (.sl E' .raw) xs))],[],1⟩:=⟨fun e he=>by cases ak he;exact ⟨Nat.one_pos,hrd,hbn⟩,fun e he=>by grind,List.pairwise_singleton _ _,fun e he=>(by cases he),hlay⟩
  have hS:Sim P J w0 F V.n J θ ⟨[(0,0,.one (.rdn ⟨0,[]⟩ bn (.sl E' .raw) xs))],[],1⟩ a w:=⟨Hp.le.rfl,hA,hst,hfine⟩
  have fin:=OD (V:=V) (θ:=θ) (J:=J) (w0:=w0) (rs:=[.sl E .raw]) (ps:=[]) (d:=()) (vs:=[]) (s0:=⟨[(0,0,.one (.rdn ⟨0,[]⟩ bn (.sl E' .raw) xs))],[],1⟩) (fn:=fn) (F:=F) hT rfl trivial (aF _) (γ:=θ 0) rfl
  exact (vU (I:=J) (w0:=w0) (F:=F) hT hF hmx c).1 ann hr hS (fun J' θ' s' a' w' hk S' hJ hFr=>fin _ J' θ' s' a' w' hk S' hJ hFr) (fun i J' θ' s' a' w' hk=>by cases hk) (fun r' J' θ' s' a' w' hrt hrr hS' hJ hFr=>by
   cases ae hrr
   exact fin _ J' θ' s' a' w' hrt hS' hJ hFr)
 exact fun w C hs=>(key w C hs).mono fun e w' ⟨v,h1,h2,h3⟩=>⟨v,h1,trivial,h3⟩
theorem ej {P:Program} {k:FuncId} {f:FS} (h:Enters P k) (hc:f.cl=none) (hm: ∀d,appP f.ps f.m d=none):FOk P k f:=
 ⟨fun q hq=>by grind,fun _=>h,fun _ _ _ _ _ d r _ _ hr=>by grind⟩
theorem Bp {P:Program} {k:FuncId} {f:FS} {E b:Nat} (h:FOk P k ⟨f.ps,f.rs,f.m,none⟩) (hc:sK P k E b) (hb:Nat.beq b 0=false:=by rfl) (h7:Nat.beq b 7=false:=by rfl) (h8:Nat.ble 1000 b=false:=by rfl) (h9:Nat.beq b 9=false:=by rfl):FOk P k ⟨f.ps,f.rs,f.m,some (E,b)⟩:=
 ⟨fun q hq=>by cases ae hq;exact ⟨⟨fun e=>(by grind),fun _ _ _ _=>hc,fun e=>(by grind)⟩,fun e=>(by grind),fun e=>(by grind)⟩,fun _=>h.en rfl,fun _=>h.con rfl⟩
theorem QQ {P:Program} {k:FuncId} {f:FS} {E b:Nat} (h:FOk P k ⟨f.ps,f.rs,f.m,none⟩) (hc:Lh P k E (b - 1000)) (h8:Nat.ble 1000 b=true:=by rfl) (h0:Nat.beq b 0=false:=by rfl) (h7:Nat.beq b 7=false:=by rfl) (h9:Nat.beq b 9=false:=by rfl):FOk P k ⟨f.ps,f.rs,f.m,some (E,b)⟩:=
 ⟨fun q hq=>by cases ae hq;exact ⟨⟨fun e=>(by grind),fun _ _ e=>(by grind),fun _=>hc⟩,fun e=>(by grind),fun e=>(by grind)⟩,fun _=>h.en rfl,fun _=>h.con rfl⟩
theorem SY {P:Program} {k:FuncId} {T f:Nat} (he:Enters P k) (h: ∀(c d:List Value) (w:World),Calls P k #[.agg c.toArray,.agg d.toArray] w fun e w'=>e= .returned (.func (.func f) #[] #[.pointer (some ⟨w.heap.size,0,none⟩),.pointer (some ⟨w.heap.size+1,0,none⟩)])/\w'=(w.alloc (.cells c.toArray T)).alloc (.cells d.toArray T)):Lh P k T f:=by
 refine ⟨he,fun I w0 c d w C hs=>(h c d w).mono ?_⟩
 rintro e w' ⟨rfl,rfl⟩
 refine ⟨_,rfl,⟨_,_,rfl⟩,?_⟩
 have h1:=(hs.alloc c T).alloc d T
 have hsz:(w.alloc (.cells c.toArray T)).heap.size=w.heap.size+1:=by simp
 rw[hsz] at h1
 exact St.emp.2 (h1.perm (List.Perm.swap _ _ _))
end R
namespace R
open Go.RowKit
open D
end R
namespace R
open Go.RowKit Go.Shelf Go.Sort
open D
abbrev PT:Ty:=.prod (.int .i64) (.int .i64)
def uo (x:Int×Int):List Value:=[.int .i64 x.1,.int .i64 x.2]
theorem Em (x:Int×Int):(uo x).length=2:=rfl
theorem MR (x:Int×Int): ∀v∈uo x,v.oneCell'=true:=by
 intro v hv
 simp only[uo,List.mem_cons,List.not_mem_nil,or_false] at hv
 rcases hv with rfl | rfl <;> rfl
def F8 (cf:Int×Int->Int×Int->Int) (xs:List (Int×Int)):List (Int×Int):=xs.mergeSort fun x y=> !(ltOf cf) y x
def MS (cf:Int×Int->Int×Int->Int) (xs:List (Int×Int)):Option (List (Int×Int)):=(chk (xs.length<4611686018427387904)).bind fun _=>some (F8 cf xs)
theorem Bq (cf:Int×Int->Int×Int->Int) (xs:List (Int×Int)):(F8 cf xs).length=xs.length:=List.length_mergeSort _
theorem St.grown {I:Hp} {w0 w:World} {cs:List Ch} (h:St I w0 w cs) (os:Array Obj):St I w0 (grow w os) cs:=by
 refine St.step (w:=w) (c:=[]) (c':=[]) h rfl rfl rfl (by simp[grow]) ?_
 rintro F rfl - -
 exact ⟨fun b hb _=>heap_grow_old w os hb,[],rfl,List.nodup_nil,by simp⟩
theorem Jn (d:Array (Int×Int)) {i j:Nat} {z:Int×Int} (h:d.toList[i]? =some z) (hj:j<2):(flatK uo 2 d)[i*2+j]? =(uo z)[j]? :=by
 have hi:i<d.size:=by
  rcases Nat.lt_or_ge i d.size with c | c
  ·exact c
  ·rw[List.getElem?_eq_none (by simpa using c)] at h;cases h
 have hlt:i*2+j<d.size*2:=by omega
 have hb:=get_flatK uo 2 d (i*2+j) hlt
 have hs:i*2+j<(flatK uo 2 d).size:=by rw[size_flatK];exact hlt
 rw[getElem!_pos (flatK uo 2 d) _ hs] at hb
 rw[Array.getElem?_eq_getElem hs,hb,show (i*2+j) / 2=i from by omega,show (i*2+j) % 2=j from by omega]
 have hz:d[i]! =z:=by
  rw[getElem!_pos d _ hi]
  rw[List.getElem?_eq_getElem (by simpa using hi)] at h
  simpa using ae h
 rw[hz,getElem!_pos (uo z) _ (by rw[Em];exact hj),List.getElem?_eq_getElem]
theorem QR {I:Hp} {c:List Value} {x:Int×Int} (h:PT.rep.rd I c x):c=uo x:=by
 obtain ⟨c1,c2,rfl,h1,h2⟩:=h
 obtain rfl:c1= [_]:=h1
 obtain rfl:c2= [_]:=h2
 rfl
theorem QS {I:Hp} (x:Int×Int):PT.rep.rd I (uo x) x:=⟨[_],[_],rfl,rfl,rfl⟩
theorem Jo {P:Program} {ρ:Ren} (L:SlLaysF0.n6 P ρ) (aE: ∀w,(isAgg (ρ.t 24)).run P w= .ok true w) (zE: ∀w,(Go.sizeOf (ρ.t 24)).run P w= .ok 2 w) {cf:Int×Int->Int×Int->Int} (hO:SWO (ltOf cf)) (hT: ∀x y,(ltOf cf) x y=false->(ltOf cf) y x=false->x=y) {g:FuncId} (eg:Enters P g) (hcmp: ∀blk off size w,CmpLays P g #[] uo 2 cf blk off size w) (en:Enters P (ρ.f 6)) (E:TypeId) :
  FOk P (ρ.f 6) ⟨[.ow (.sl E PT),.fk g],[],fun xs _=>MS cf xs,none⟩:=by
 refine ⟨fun q hq=>(by cases hq),fun _=>en,fun _ w0 J γ vs d r hlay ha B0=>?_⟩
 obtain ⟨v,vs1,rfl,hd,v2,vs2,rfl,rfl,hnil⟩:=ha
 obtain rfl:vs2= []:=hnil
 obtain ⟨xs0,u1,un⟩:=d
 let xs:List (Int×Int):=xs0
 let zs:List (Int×Int):=r
 have B0:MS cf xs=some zs:=B0
 obtain ⟨u1,hc,hz⟩:=Option.bind_eq_some_iff.1 B0
 have hc:=bp hc
 have hz:=ae hz
 intro w C hst
 have hst:St J w0 w (Ch.own (aq E PT.rep) [v] xs::C):=hst
 clear B0
 rename_i happ0
 clear happ0 hd
 clear_value xs
 have hfin: ∀ {e:Ending} {w':World},(∃W,e= .returned (.tuple #[])/\w'=W/\St J w0 W (Ch.own (aq E PT.rep) [v] zs::C))-> ∃v':Value,e= .returned v'/\(∃vs:Array Value,v'= .tuple vs/\vs.size=0/\ ∀(i:Nat) (t:Ty),([] :List Ty)[i]? =some t->l6 (vs.getD i undef)=t.isProd)/\St J w0 w' (Ch.own (aq E PT.rep) [v] zs::C):=by
  rintro e w' ⟨W,rfl,rfl,h⟩
  exact ⟨_,rfl,⟨#[],rfl,rfl,fun i t h=>(by simp at h)⟩,h⟩
 have hcase:(v= .slice none 0 0/\xs= [])\/ ∃g' ofs n cap,v= .slice (some ⟨g',ofs,none⟩) n cap:=by
  obtain ⟨hb,hi,F,⟨G,K,rfl,⟨hl,e2⟩,e3⟩,h4,h5⟩:=hst
  rcases e2 with ⟨hv,h1,_⟩ | ⟨g',ofs',cap',cur,K1,hv,_⟩
  ·exact .inl ⟨List.cons.inj hv |>.1,h1⟩
  ·exact .inr ⟨_,_,_,_,List.cons.inj hv |>.1⟩
 rcases hcase with ⟨rfl,hx⟩ | ⟨g',ofs,n,cap,rfl⟩
 ·refine (AnyF.slices_SortFunc_none L none 0 (.func (.func g) #[] #[]) w).mono fun e w' ⟨he,hw⟩=>hfin ⟨_,he,hw,?_⟩
  rw[<-hz,hx,show F8 cf [] = [] from List.mergeSort_nil ..]
  rw[hx] at hst
  exact hst
 ·obtain ⟨hn,h1,h2,cur,hg,hroom,hat⟩:=vD (R:=PT.rep) (k:=2) (Ty.sh_ok (t:=PT) rfl) rfl hst
  obtain rfl:=hn
  have hH:HoldsK uo 2 w g' ofs xs.toArray:=by
   intro j hj
   rw[size_flatK] at hj
   have hj:j<xs.length*2:=by simpa using hj
   have hi:j / 2<xs.length:=by omega
   obtain ⟨c,e1,e2,e3⟩:=hat (j / 2) _ (List.getElem?_eq_getElem hi)
   have hcj:=e2 (j % 2) (Nat.mod_lt _ (by omega))
   rw[show j / 2*2+j % 2=j from by omega,QR e3] at hcj
   have hf:=Jn xs.toArray (i:=j / 2) (j:=j % 2) (z:=xs[j / 2]) (by simpa using List.getElem?_eq_getElem hi) (Nat.mod_lt _ (by omega))
   rw[show j / 2*2+j % 2=j from by omega] at hf
   have hs:j<(flatK uo 2 xs.toArray).size:=by rw[size_flatK];simpa using hj
   refine ⟨?_,?_⟩
   ·unfold World.cell?
    simp only[hg]
    rw[List.getElem?_drop] at hcj
    rw[getElem!_pos (flatK uo 2 xs.toArray) _ hs,<-Array.getElem?_toList,hcj,<-hf,Array.getElem?_eq_getElem hs]
    rfl
   ·unfold World.frozen?
    simp only[hg]
    simp
  have hblk:g'<w.heap.size:=by
   rcases Nat.lt_or_ge g' w.heap.size with c | c
   ·exact c
   ·rw[Array.getElem?_eq_none c] at hg;cases hg
  have key:=AnyQ.slices_SortFunc_total L 2 aE zE uo Em MR cf hO g #[] g' ofs cap xs.toArray w eg (hcmp _ _ _ _) hH hblk (by simpa using hc) hT
  rw[show xs.toArray.size=xs.length from List.size_toArray] at key
  refine key.mono ?_
  rintro e w' ⟨he,m,os,rfl⟩
  refine hfin ⟨_,he,rfl,?_⟩
  show St J w0 (grow (putRow id (Sort.ahead w m) g' ofs (flatK uo 2 (F8 cf xs).toArray)) os) _
  rw[hz]
  have hlen:zs.length=xs.length:=by rw[<-hz];exact Bq _ _
  have hfl:(flatK uo 2 zs.toArray).toList.length=(flatK uo 2 xs.toArray).size:=by rw[Array.length_toList,size_flatK,size_flatK];simp[hlen]
  have hq:=Go.Lib.putRow_eq_setCells id w g' ofs (flatK uo 2 xs.toArray) (flatK uo 2 zs.toArray).toList m hH hfl
  rw[Array.toArray_toList] at hq
  rw[hq,List.map_id]
  refine St.grown ?_ os
  have hst2:St J w0 (w.drewN m) (Ch.own (aq E PT.rep) [.slice (some ⟨g',ofs,none⟩) xs.length cap] xs::C):=hst.drawn rfl rfl rfl rfl
  have hcapz:zs.length<=cap:=by rw[hlen];exact h1
  have hlimz:zs.length<=lim:=by
   have:lim=2 ^ 63 - 1:=rfl
   have:maxLen=2 ^ 63 - 1:=rfl
   omega
  have hlt: ∀(i:Nat) (z:Int×Int),zs[i]? =some z->i<xs.length:=fun i z hi=>by
   rcases Nat.lt_or_ge i zs.length with c | c
   ·omega
   ·rw[List.getElem?_eq_none c] at hi;cases hi
  have hnw: ∀(i:Nat) (z:Int×Int),zs[i]? =some z-> ∀j,j<2->(flatK uo 2 zs.toArray).toList[(i - 0)*2+j]? =(uo z)[j]? :=fun i z hi j hj=>by
   rw[Nat.sub_zero,Array.getElem?_toList]
   exact Jn zs.toArray (by simpa using hi) hj
  have h3:=zb (p:=0) (cnt:=xs.length) (zs:=zs) (news:=(flatK uo 2 zs.toArray).toList) (Ty.sh_ok (t:=PT) rfl) (Ty.cpy (t:=PT) rfl) (k:=2) rfl (by rw[hfl,size_flatK];simp) (by omega) hcapz hlimz (fun i z hi=>.inl ⟨Nat.zero_le _,(by have:=hlt i z hi;omega),uo z,rfl,hnw i z hi,QS z⟩) hst2
  rw[Nat.zero_mul,Nat.add_zero,show @List.length PT.den zs=xs.length from hlen] at h3
  exact h3
def cmpI (a b:Int):Int:=if a<b then -1 else if b<a then 1 else 0
def F9 (x y:Int×Int):Int:=if x.1=y.1 then cmpI x.2 y.2 else cmpI x.1 y.1
theorem Jp {a b:Int} :cmpI a b<0↔a<b:=by
 unfold cmpI
 split
 ·simp_all
 ·split <;> simp_all
theorem Jq {x y:Int×Int} :ltOf F9 x y=true↔x.1<y.1\/x.1=y.1/\x.2<y.2:=by
 unfold ltOf F9
 rw[decide_eq_true_iff]
 split
 ·rw[Jp];omega
 ·rw[Jp];omega
theorem uP {x y:Int×Int} :ltOf F9 x y=false↔ ¬(x.1<y.1\/x.1=y.1/\x.2<y.2):=by
 rw[<-Jq,Bool.not_eq_true]
theorem MT:SWO (ltOf F9) where
 irrefl x:=by rw[uP];omega
 trans x y z h k:=by rw[Jq] at *;omega
 ntrans x y z h k:=by rw[uP] at *;omega
theorem MU (x y:Int×Int) (h:ltOf F9 x y=false) (k:ltOf F9 y x=false):x=y:=by
 rw[uP] at h k
 exact Prod.ext (by omega) (by omega)
end R
namespace R
open Go.Shelf
def rN:Go.Shelf.Ren:=⟨fun | 6=>182 | 15=>194 | 14=>193 | 28=>206 | 29=>207 | 20=>198 | 21=>199 | 22=>200 | 23=>201 | 24=>202 | 25=>203 | 26=>204 | 27=>205 | 46=>208 | 47=>209 | 48=>210 | 49=>211 | 50=>212 | 57=>213 | n=>n,fun | 22=>47 | 24=>84 | 25=>216 | 3=>3 | 39=>171 | 0=>0 | 53=>225 | 55=>228 | 4=>4 | 46=>233 | 45=>232 | 50=>186 | 5=>5 | 9=>9 | 66=>240 | 70=>244 | 76=>246 | 77=>247 | n=>n,fun | n=>n⟩
theorem xd:Go.Proofs.SlLaysF0.n6 Tryz.prog rN:= {
 mixed:=by kernel_rfl
 f6:=⟨Tryz.f182.name,by decide,Tryz.func182.trans (congrArg some (by kernel_rfl))⟩
 f14:=⟨Tryz.f193.name,by decide,Tryz.func193.trans (congrArg some (by kernel_rfl))⟩
 f15:=Tryz.func194.trans (congrArg some (by kernel_rfl))
 f20:=⟨Tryz.f198.name,by decide,Tryz.func198.trans (congrArg some (by kernel_rfl))⟩
 f21:=⟨Tryz.f199.name,by decide,Tryz.func199.trans (congrArg some (by kernel_rfl))⟩
 f22:=⟨Tryz.f200.name,by decide,Tryz.func200.trans (congrArg some (by kernel_rfl))⟩
 f23:=⟨Tryz.f201.name,by decide,Tryz.func201.trans (congrArg some (by kernel_rfl))⟩
 f24:=⟨Tryz.f202.name,by decide,Tryz.func202.trans (congrArg some (by kernel_rfl))⟩
 f25:=⟨Tryz.f203.name,by decide,Tryz.func203.trans (congrArg some (by kernel_rfl))⟩
 f26:=⟨Tryz.f204.name,by decide,Tryz.func204.trans (congrArg some (by kernel_rfl))⟩
 f27:=⟨Tryz.f205.name,by decide,Tryz.func205.trans (congrArg some (by kernel_rfl))⟩
 f28:=Tryz.func206.trans (congrArg some (by kernel_rfl))
 f29:=Tryz.func207.trans (congrArg some (by kernel_rfl))
 f46:=⟨Tryz.f208.name,by decide,Tryz.func208.trans (congrArg some (by kernel_rfl))⟩
 f47:=Tryz.func209.trans (congrArg some (by kernel_rfl))
 f48:=Tryz.func210.trans (congrArg some (by kernel_rfl))
 f49:=⟨Tryz.f211.name,by decide,Tryz.func211.trans (congrArg some (by kernel_rfl))⟩
 f50:=⟨Tryz.f212.name,by decide,Tryz.func212.trans (congrArg some (by kernel_rfl))⟩
 f57:=⟨Tryz.f213.name,by decide,Tryz.func213.trans (congrArg some (by kernel_rfl))⟩
 t0:=Tryz.underlying0
 a0:=Tryz.isAgg0
 z0:=Tryz.sizeOf0
 v0:=Tryz.zeroValue0
 t3:=Tryz.underlying3
 a3:=Tryz.isAgg3
 z3:=Tryz.sizeOf3
 v3:=Tryz.zeroValue3
 t4:=Tryz.underlying4
 a4:=Tryz.isAgg4
 z4:=Tryz.sizeOf4
 v4:=Tryz.zeroValue4
 t5:=Tryz.underlying5
 a5:=Tryz.isAgg5
 z5:=Tryz.sizeOf5
 v5:=Tryz.zeroValue5
 t9:=Tryz.underlying9
 a9:=Tryz.isAgg9
 z9:=Tryz.sizeOf9
 v9:=Tryz.zeroValue9
 t22:=Tryz.underlying47
 a22:=Tryz.isAgg47
 z22:=Tryz.sizeOf47
 v22:=Tryz.zeroValue47
 t25:=Tryz.underlying216
 a25:=Tryz.isAgg216
 z25:=Tryz.sizeOf216
 v25:=Tryz.zeroValue216
 t39:=Tryz.underlying171
 a39:=Tryz.isAgg171
 z39:=Tryz.sizeOf171
 v39:=Tryz.zeroValue171
 t45:=Tryz.underlying232
 a45:=Tryz.isAgg232
 z45:=Tryz.sizeOf232
 v45:=Tryz.zeroValue232
 t46:=Tryz.underlying233
 a46:=Tryz.isAgg233
 z46:=Tryz.sizeOf233
 v46:=Tryz.zeroValue233
 t50:=Tryz.underlying186
 a50:=Tryz.isAgg186
 z50:=Tryz.sizeOf186
 v50:=Tryz.zeroValue186
 t53:=Tryz.underlying225
 a53:=Tryz.isAgg225
 z53:=Tryz.sizeOf225
 v53:=Tryz.zeroValue225
 t55:=Tryz.underlying228
 a55:=Tryz.isAgg228
 z55:=Tryz.sizeOf228
 v55:=Tryz.zeroValue228
 t66:=Tryz.underlying240
 a66:=Tryz.isAgg240
 z66:=Tryz.sizeOf240
 v66:=Tryz.zeroValue240
 t70:=Tryz.underlying244
 a70:=Tryz.isAgg244
 z70:=Tryz.sizeOf244
 v70:=Tryz.zeroValue244
 t76:=Tryz.underlying246
 a76:=Tryz.isAgg246
 z76:=Tryz.sizeOf246
 v76:=Tryz.zeroValue246
 t77:=Tryz.underlying247
 a77:=Tryz.isAgg247
 z77:=Tryz.sizeOf247
 v77:=Tryz.zeroValue247 }
end R
namespace R
open Go.RowKit
open D
def FldAll (P:Program) (T:TypeId):Nat->List (Nat×Nat)->Prop
 | _,[] =>True
 | i,q::l=>TF P T i q.1 q.2/\FldAll P T (i+1) l
theorem FldAll.get {P:Program} {T:TypeId} : ∀ {l:List (Nat×Nat)} {i:Nat},FldAll P T i l-> ∀f q,l[f]? =some q->TF P T (i+f) q.1 q.2
 | [],_,_,f,q,h=>by simp at h
 | x::l,i,⟨h1,h2⟩,f,q,h=>by
  cases f with
  | zero=>simp at h;subst h;exact h1
  | succ f =>
   have:=FldAll.get h2 f q (by simpa using h)
   rwa [show i+1+f=i+(f+1) from by omega] at this
section
variable {P:Program} {T:TypeId}
theorem vX {n b:Nat} {ty:Ty} {z:Value} {boo:Bool} {ik:Option (Option IntKind)} (h1:TI P T false 1) (h2:ty.size=1) (h3:TZ P T z 1 b) (h4:z.cells=(zeroCells ty).toArray) (h5:1<=b) (h6:boo=true->P.underlying T=some .bool) (h7: ∀k,ik=some k->P.underlying T=some (ikD k)):TDok P T ⟨false,1,none,ty,[],some b,none,boo,none,none,ik,false,none⟩:=
 ⟨h1,rfl,h2,fun E h=>by simp at h,fun f q h=>by simp at h,fun b' h=>by obtain rfl:=ae h;exact ⟨z,h3,h4,h5⟩,fun pl h=>by simp at h,h6,(fun ks h=>by cases h),(fun m h=>by cases h),h7,(fun h=>by cases h),fun e h=>by cases h⟩
theorem rO {E:TypeId} {t:Ty} (h1:TI P T false 1) (h2:P.underlying T=some (.slice E)) (h3:TZ P T (.slice none 0 0) 1 24):TDok P T ⟨false,1,some E,.sl E t,[],some 24,none,false,none,none,none,false,none⟩:=
 ⟨h1,rfl,rfl,fun E' h=>by obtain rfl:=ae h;exact h2,fun f q h=>by simp at h,fun b' h=>by obtain rfl:=ae h;exact ⟨_,h3,rfl,by decide⟩,fun pl h=>by simp at h,(fun h=>by cases h),(fun ks h=>by cases h),(fun m h=>by cases h),(fun k h=>by cases h),(fun h=>by cases h),fun e h=>by cases h⟩
theorem o9 {n b:Nat} {ty:Ty} {fs pl:List (Nat×Nat)} {z:Value} {eq:Option (List (Option IntKind))} (h1:TI P T true n) (h2:ty.size=n) (h3:FldAll P T 0 fs) (h4:TZ P T z n b) (h5:z.cells=(zeroCells ty).toArray) (h6:1<=b) (h7:TB P T pl) (h8: ∀ks,eq=some ks-> ∀w,Curq ks fun xs ys r=>EqT P T (.agg xs.toArray) (.agg ys.toArray) r w):TDok P T ⟨true,n,none,ty,fs,some b,some pl,false,eq,none,none,false,none⟩:=
 ⟨h1,rfl,h2,fun E h=>by simp at h,fun f q h=>by have:=h3.get f q h;rwa [Nat.zero_add] at this,fun b' h=>by obtain rfl:=ae h;exact ⟨z,h4,h5,h6⟩,fun pl' h=>by obtain rfl:=ae h;exact h7,(fun h=>by cases h),h8,(fun m h=>by cases h),(fun k h=>by cases h),(fun h=>by cases h),fun e h=>by cases h⟩
theorem CN {ty:Ty} {b:Nat} (h1:TI P T false 1) (h2:ty.size=1) (h3:TZ P T .nilFunc 1 b):TDok P T ⟨false,1,none,ty,[],none,none,false,none,none,none,true,none⟩:=
 ⟨h1,rfl,h2,fun E h=>by simp at h,fun f q h=>by simp at h,(fun b' h=>by cases h),(fun pl h=>by cases h),(fun h=>by cases h),(fun ks h=>by cases h),(fun m' h=>by cases h),(fun k h=>by cases h),(fun _=>⟨b,h3⟩),fun e h=>by cases h⟩
theorem SZ {m:MD} {ty:Ty} (h1:TI P T false 1) (h2:ty.size=1) (h3:MDok P T m):TDok P T ⟨false,1,none,ty,[],none,none,false,none,some m,none,false,none⟩:=
 ⟨h1,rfl,h2,fun E h=>by simp at h,fun f q h=>by simp at h,(fun b' h=>by cases h),(fun pl h=>by cases h),(fun h=>by cases h),(fun ks h=>by cases h),(fun m' h=>by obtain rfl:=ae h;exact h3),(fun k h=>by cases h),(fun h=>by cases h),fun e h=>by cases h⟩
theorem U7 {e E:TypeId} {u:Ty} (h1:TI P T false 1) (h2:P.underlying T=some (.pointer e)) (h3:TZ P T (.pointer none) 1 8):TDok P T ⟨false,1,none,.fro (.tree e E u),[],some 8,none,false,none,none,none,false,some e⟩:=
 ⟨h1,rfl,rfl,fun E' h=>by simp at h,fun f q h=>by simp at h,fun b' h=>by obtain rfl:=ae h;exact ⟨_,h3,rfl,by decide⟩,fun pl h=>by simp at h,(fun h=>by cases h),(fun ks h=>by cases h),(fun m h=>by cases h),(fun k h=>by cases h),(fun h=>by cases h),fun e' h=>by obtain rfl:=ae h;exact h2⟩
end
end R
namespace D
open Go.RowKit
abbrev Yq1:Type:=(Int×Int×Int×Int)
abbrev Yq2:Type:=(List (Int×Int))
abbrev Yq3:Type:=(Int×(List Bool)×(List (List Int)))
abbrev Yq4:Type:=((List Int)×Int×Int×(List Int)×Bool)
abbrev Yq5:Type:=(Out (List (List Bool)) ((List (List Bool))×Int))
abbrev Yq6:Type:=(Out (List (List Bool)) (Int×List (List Bool)))
abbrev Yq7:Type:=(Int×Int×Bool×Int×Int)
abbrev Yq8:Type:=(Out Yq2 (Yq2×Int))
abbrev Yq9:Type:=(Out (List (List Int)) ((List (List Int))×Int))
abbrev MV:Type:=((Int×Bool)×Int×Int)
def pa (a:List Yq1) (b:Int):Option Int:=
 if decide (i64.wrap (b - (a.length:Int))<0) then (some (-1)) else (some (i64.wrap (b - (a.length:Int))))
def mS (b:(List Yq1)) (c:Int):Option Int:=
 (pa b c).bind fun a=>if decide (a<0) then (some (-1)) else (some a)
def bQ (a:Int) (b:Int) (c:Int):Option Bool:=
 if decide (a≥b) then (some (decide (a<=c))) else (some false)
def kd (a:Int):Option Bool:=
 (bQ a 0 8).bind fun b=>some b
def lA (a:Int×Int×Int×Int):Option Int:=
 Option.bind ((if a.1==1 then (some (a.1==1)) else (some (a.1==2)):Option Bool)) (fun b=>if b then (if a.2.1 !=0 then (some (-1)) else (if a.2.2.1 !=0 then (some (-1)) else (if a.2.2.2 !=0 then (some (-1)) else (some 0)))) else (if a.1==3 then ((kd a.2.1).bind fun c=>if c then (if a.2.2.1 !=0 then (some (-1)) else (if a.2.2.2 !=0 then (some (-1)) else (some 0))) else (some (-1))) else (Option.bind ((if a.1==4 then (some (a.1==4)) else (some (a.1==5)):Option Bool)) (fun d=>if d then (if a.2.1 !=0 then (some (-1)) else (if a.2.2.1 !=0 then (some (-1)) else (if a.2.2.2 !=0 then (some (-1)) else (some 2)))) else (if a.1==6 then (if a.2.1 !=0 then (some (-1)) else (if a.2.2.1 !=0 then (some (-1)) else (if a.2.2.2 !=0 then (some (-1)) else (some 1)))) else (if a.1==7 then (if a.2.1 !=0 then (some (-1)) else ((bQ a.2.2.2 1 3).bind fun e=>if e then ((bQ a.2.2.1 0 a.2.2.2).bind fun f=>if f then (some 1) else (some (-1))) else (some (-1)))) else (some (-1))))))))
def nG (d:(List Yq1)) (a:Int×Int):Option (Out Bool (Int×Int)):=
 if decide (a.2<(d.length:Int)) then ((aL d a.2).bind fun b=>(lA (b.1,b.2.1,b.2.2.1,b.2.2.2)).bind fun c=>if decide (c<0) then (some (.ret false)) else (if decide (c>a.1) then (some (.ret false)) else (some (.nxt (i64.wrap ((i64.wrap (a.1 - c))+1),i64.wrap (a.2+1)))))) else (some (.brk (a.1,a.2)))
def mT (a:(List Yq1)):Option Bool:=
 aO (ay (nG a) aS (0,0)) (fun r=>some r) (fun b=>some (b.1==1))
def bN (a:(List Yq1)):Option Bool:=
 if decide ((a.length:Int)<=24) then ((mT a).bind fun b=>some b) else (some false)
def ke (b:Int) (a:(List Int)×Int):Option (Out (List Int) ((List Int)×Int)):=
 if decide (a.2<30) then (Option.bind (((chk (0<=a.2)).bind fun _=>if (sD (oN b a.2) 1)==1 then ((cR 8 a.1 ([a.2])).bind fun c=>some c) else (some a.1):Option (List Int))) (fun d=>some (.nxt (d,i64.wrap (a.2+1))))) else (some (.brk (a.1,a.2)))
def rP (a:Int):Option (List Int):=
 aO (ay (ke a) aS (([] :List Int),0)) (fun r=>some r) (fun b=>some b.1)
def jd (b:(List Yq1)) (a:Int×Int):Option (Out (List Int) (Int×Int)):=
 if decide (a.2<(b.length:Int)) then ((mT b).bind fun d=>if d then (Option.bind (((aL b a.2).bind fun e=>if e.1==3 then ((aL b a.2).bind fun c=>(chk (0<=c.2.1)).bind fun _=>some (orI a.1 (Aj 1 c.2.1))) else (some a.1):Option Int)) (fun f=>some (.nxt (f,i64.wrap (a.2+1))))) else (some (.brk (a.1,a.2)))) else (some (.brk (a.1,a.2)))
def kg (a:(List Yq1)):Option (List Int):=
 aO (ay (jd a) aS (0,0)) (fun r=>some r) (fun b=>(rP b.1).bind fun c=>some c)
def kR (b:Int) (d:Bool) (a:(List (List Bool))×Int):Option Yq5:=
 if decide (a.2<b) then ((mkI 1 b (false:Bool)).bind fun c=>(aL c a.2).bind fun f=>(cR 24 a.1 ([c.set a.2.toNat d])).bind fun e=>some (.nxt (e,i64.wrap (a.2+1)))) else (some (.brk (a.1,a.2)))
def dK (a:Int) (b:Bool):Option (List (List Bool)):=
 aO (ay (kR a b) aS (([] :List (List Bool)),0)) (fun r=>some r) (fun c=>some c.1)
def bY (d:List (List Bool)) (f:List (List Bool)) (b:Int×List (List Bool)) (e:Int×List (List Bool)) (a:Int×List (List Bool)):Option Yq6:=
 if decide (a.1<(d.length:Int)) then ((aL d b.1).bind fun g=>(aL g e.1).bind fun h=>if h then ((aL a.2 b.1).bind fun c=>(aL a.2 b.1).bind fun l=>(chk (b.1<((a.2.set b.1.toNat ([] :List Bool)).length:Int))).bind fun _=>(chk (b.1=b.1)).bind fun _=>(aL a.2 b.1).bind fun m=>(chk (b.1<((a.2.set b.1.toNat ([] :List Bool)).length:Int))).bind fun _=>(chk (b.1=b.1)).bind fun _=>(aL c a.1).bind fun i=>if i then ((aL c a.1).bind fun n=>some (.nxt (i64.wrap (a.1+1),a.2.set b.1.toNat (c.set a.1.toNat true)))) else ((aL f e.1).bind fun j=>(aL j a.1).bind fun k=>(aL c a.1).bind fun o=>some (.nxt (i64.wrap (a.1+1),a.2.set b.1.toNat (c.set a.1.toNat k))))) else (some (.brk (a.1,a.2)))) else (some (.brk (a.1,a.2)))
def fU (b:List (List Bool)) (c:List (List Bool)) (d:Int×List (List Bool)) (a:Int×List (List Bool)):Option Yq6:=
 if decide (a.1<(b.length:Int)) then (aO (ay (bY b c d a) aS (a.1,a.2)) (fun e=>some (.ret e)) (fun f=>some (.nxt (i64.wrap (a.1+1),f.2)))) else (some (.brk (a.1,a.2)))
def je (b:List (List Bool)) (c:List (List Bool)) (a:Int×List (List Bool)):Option Yq6:=
 if decide (a.1<(b.length:Int)) then (aO (ay (fU b c a) aS (a.1,a.2)) (fun d=>some (.ret d)) (fun e=>some (.nxt (i64.wrap (a.1+1),e.2)))) else (some (.brk (a.1,a.2)))
def iL (a:List (List Bool)) (b:List (List Bool)):Option (List (List Bool)):=
 (dK (a.length:Int) false).bind fun c=>aO (ay (je a b) aS (0,c)) (fun d=>some d) (fun e=>some e.2)
def jf (d:List (List Bool)) (e:List (List Bool)) (b:(List (List Bool))×Int) (a:(List (List Bool))×Int):Option Yq5:=
 if decide (a.2<(d.length:Int)) then ((aL a.1 b.2).bind fun c=>(aL d b.2).bind fun f=>(aL f a.2).bind fun g=>if g then ((aL c a.2).bind fun j=>some (.nxt (a.1.set b.2.toNat (c.set a.2.toNat true),i64.wrap (a.2+1)))) else ((aL e b.2).bind fun h=>(aL h a.2).bind fun i=>(aL c a.2).bind fun k=>some (.nxt (a.1.set b.2.toNat (c.set a.2.toNat i),i64.wrap (a.2+1))))) else (some (.brk (a.1,a.2)))
def jg (b:List (List Bool)) (c:List (List Bool)) (a:(List (List Bool))×Int):Option Yq5:=
 if decide (a.2<(b.length:Int)) then (aO (ay (jf b c a) aS (a.1,a.2)) (fun r=>some (.ret r)) (fun d=>some (.nxt (d.1,i64.wrap (a.2+1))))) else (some (.brk (a.1,a.2)))
def iM (a:List (List Bool)) (b:List (List Bool)):Option (List (List Bool)):=
 (dK (a.length:Int) false).bind fun c=>aO (ay (jg a b) aS (c,0)) (fun r=>some r) (fun d=>some d.1)
def gy (b:List (List Bool)) (c:Int) (d:Int) (a:(List (List Bool))×(List (List Bool))×Int):Option (Out (List (List Bool)) ((List (List Bool))×(List (List Bool))×Int)):=
 if decide (a.2.2<=d) then (Option.bind ((if decide (a.2.2≥c) then ((iM a.1 a.2.1).bind fun e=>some e) else (some a.1):Option (List (List Bool)))) (fun f=>(iL a.2.1 b).bind fun g=>some (.nxt (f,g,i64.wrap (a.2.2+1))))) else (some (.brk (a.1,a.2.1,a.2.2)))
def fy (a:List (List Bool)) (b:Int) (c:Int):Option (List (List Bool)):=
 (dK (a.length:Int) false).bind fun d=>(dK (a.length:Int) true).bind fun e=>aO (ay (gy a b c) aS (d,e,0)) (fun r=>some r) (fun f=>some f.1)
def ig (b:List Int) (d:Int×Int×Int×Int) (a:Int×List (List Bool)):Option (Out Bool (Int×List (List Bool))):=
 if decide (a.1<(b.length:Int)) then ((aL a.2 a.1).bind fun c=>(aL b a.1).bind fun e=>(aL c (i64.wrap (a.1+1))).bind fun f=>some (.nxt (i64.wrap (a.1+1),a.2.set a.1.toNat (c.set ((i64.wrap (a.1+1)).toNat) (e==d.2.1))))) else (some (.brk (a.1,a.2)))
def bh (d:List Yq1) (c:List Int) (a:(List (List (List Bool)))×Int):Option (Out Bool ((List (List (List Bool)))×Int)):=
 if decide (a.2<(d.length:Int)) then (Option.bind (((aL d a.2).bind fun b=>if b.1==2 then ((dK (i64.wrap ((c.length:Int)+1)) true).bind fun e=>(cR 24 a.1 ([e])).bind fun f=>some f) else (if b.1==3 then ((dK (i64.wrap ((c.length:Int)+1)) false).bind fun g=>aO (ay (ig c b) aS (0,g)) (fun y=>none) (fun h=>(cR 24 a.1 ([h.2])).bind fun i=>some i)) else (if b.1==4 then ((aL a.1 (i64.wrap ((a.1.length:Int) - 2))).bind fun j=>(aL a.1 (i64.wrap ((a.1.length:Int) - 1))).bind fun k=>(iL j k).bind fun l=>(chk (And (0<=(i64.wrap ((a.1.length:Int) - 2))) ((i64.wrap ((a.1.length:Int) - 2))<=(a.1.length:Int)))).bind fun _=>(cR 24 (a.1.take ((i64.wrap ((a.1.length:Int) - 2)).toNat)) ([l])).bind fun m=>some m) else (if b.1==5 then ((aL a.1 (i64.wrap ((a.1.length:Int) - 2))).bind fun n=>(aL a.1 (i64.wrap ((a.1.length:Int) - 1))).bind fun o=>(iM n o).bind fun p=>(chk (And (0<=(i64.wrap ((a.1.length:Int) - 2))) ((i64.wrap ((a.1.length:Int) - 2))<=(a.1.length:Int)))).bind fun _=>(cR 24 (a.1.take ((i64.wrap ((a.1.length:Int) - 2)).toNat)) ([p])).bind fun q=>some q) else (if b.1==6 then ((aL a.1 (i64.wrap ((a.1.length:Int) - 1))).bind fun r=>(fy r 0 (c.length:Int)).bind fun s=>(aL a.1 (i64.wrap ((a.1.length:Int) - 1))).bind fun z=>some (a.1.set ((i64.wrap ((a.1.length:Int) - 1)).toNat) s)) else (if b.1==7 then ((aL a.1 (i64.wrap ((a.1.length:Int) - 1))).bind fun t=>(fy t b.2.2.1 b.2.2.2).bind fun u=>(aL a.1 (i64.wrap ((a.1.length:Int) - 1))).bind fun A=>some (a.1.set ((i64.wrap ((a.1.length:Int) - 1)).toNat) u)) else ((dK (i64.wrap ((c.length:Int)+1)) false).bind fun v=>(cR 24 a.1 ([v])).bind fun w=>some w)))))):Option (List (List (List Bool))))) (fun x=>some (.nxt (x,i64.wrap (a.2+1))))) else (some (.brk (a.1,a.2)))
def lB (b:List Yq1) (a:List Int):Option Bool:=
 aO (ay (bh b a) aS (([] :List (List (List Bool))),0)) (fun c=>some c) (fun d=>(aL d.1 0).bind fun e=>(aL e 0).bind fun f=>(aL f (a.length:Int)).bind fun g=>some g)
def fl (b:List Int) (c:(List (List Int))×(List (List Int))×Int×List (List Int)) (d:(List (List Int))×List (List Int)) (a:(List (List Int))×Int):Option Yq9:=
 if decide (a.2<(b.length:Int)) then ((aL d.2 c.2.2.1).bind fun e=>(cR 8 ([] :List Int) e).bind fun f=>(aL b a.2).bind fun g=>(cR 8 f ([g])).bind fun h=>(cR 24 a.1 ([h])).bind fun i=>some (.nxt (i,i64.wrap (a.2+1)))) else (some (.brk (a.1,a.2)))
def fm (c:List Yq1) (d:List Int) (a:(List (List Int))×(List (List Int))×Int×List (List Int)):Option (Out (List (List Int)) ((List (List Int))×(List (List Int))×Int×List (List Int))):=
 if decide (a.2.2.1<(a.2.2.2.length:Int)) then ((aL a.2.2.2 a.2.2.1).bind fun e=>(lB c e).bind fun f=>Option.bind ((if f then ((aL a.2.2.2 a.2.2.1).bind fun g=>(cR 8 ([] :List Int) g).bind fun h=>(cR 24 a.1 ([h])).bind fun i=>some (i,a.2.2.2)) else (some (a.1,a.2.2.2)):Option ((List (List Int))×List (List Int)))) (fun b=>aO (ay (fl d a b) aS (a.2.1,0)) (fun j=>some (.ret j)) (fun k=>some (.nxt (b.1,k.1,i64.wrap (a.2.2.1+1),b.2))))) else (some (.brk (a.1,a.2.1,a.2.2.1,a.2.2.2)))
def fo (c:List Yq1) (d:Int) (e:List Int) (a:(List (List Int))×(List (List Int))×Int):Option (Out (List (List Int)) ((List (List Int))×(List (List Int))×Int)):=
 if decide (a.2.2<=d) then (aO (ay (fm c e) aS (a.1,([] :List (List Int)),0,a.2.1)) (fun f=>some (.ret f)) (fun b=>some (.nxt (b.1,b.2.1,i64.wrap (a.2.2+1))))) else (some (.brk (a.1,a.2.1,a.2.2)))
def gz (a:List Yq1) (b:Int):Option (List (List Int)):=
 (bN a).bind fun c=>if c then ((bQ b 0 3).bind fun d=>if d then ((kg a).bind fun e=>aO (ay (fo a b e) aS (([] :List (List Int)),[([] :List Int)],0)) (fun f=>some f) (fun g=>some g.1)) else (some ([] :List (List Int)))) else (some ([] :List (List Int)))
def zy (b:List Int) (a:Int):Option (Out Bool Int):=
 if decide (a<(b.length:Int)) then ((aL b a).bind fun c=>(kd c).bind fun d=>if d then (some (.nxt (i64.wrap (a+1)))) else (some (.ret false))) else (some (.brk a))
def xO (a:List Int):Option Bool:=
 aO (ay (zy a) aS 0) (fun r=>some r) (fun b=>some (decide ((a.length:Int)<=8)))
def xP (a:Int):Option Bool:=
 (bQ a 0 5).bind fun b=>some b
def uq (b:List Int) (a:Bool×Int×(List Int)×(List Yq1)):Option (Out (((List Int)×(List Yq1))×Bool) (Bool×Int×(List Int)×(List Yq1))):=
 if decide (a.2.1<(b.length:Int)) then (Fg (S:=Bool×(List Int)×(List Yq1)) ((aL b a.2.1).bind fun f=>(xP f).bind fun g=>if g then (if (i64.wrap ((i64.wrap ((a.2.2.1.length:Int) - 1))+1))==5 then (some (.inl (.ret (([],[]),false)))) else ((aL b a.2.1).bind fun h=>Option.bind (((aL b a.2.1).bind fun i=>if (Int.tmod i 2)==1 then ((aL b a.2.1).bind fun j=>some (i64.wrap ((i64.wrap ((a.2.2.1.length:Int) - 1))+1),i64.wrap ((i64.wrap ((a.2.2.1.length:Int) - 1))+1),i64.wrap ((a.2.2.1.length:Int) - 1),O3 j 2)) else (some (i64.wrap ((i64.wrap ((a.2.2.1.length:Int) - 1))+1),i64.wrap ((a.2.2.1.length:Int) - 1),i64.wrap ((i64.wrap ((a.2.2.1.length:Int) - 1))+1),O3 h 2)):Option Yq1)) (fun c=>(cR 8 a.2.2.1 ([0])).bind fun k=>(cR 32 a.2.2.2 ([(c.1,c.2.1,c.2.2.1,c.2.2.2)])).bind fun l=>some (.inr (false,k,l))))) else ((aL b a.2.1).bind fun d=>if a.1 then ((aL a.2.2.1 (i64.wrap ((a.2.2.1.length:Int) - 1))).bind fun m=>if m !=(i64.wrap (d - 6)) then (some (.inl (.ret (([],[]),false)))) else ((aL a.2.2.1 (i64.wrap ((a.2.2.1.length:Int) - 1))).bind fun n=>some (.inr (true,a.2.2.1.set (i64.wrap ((a.2.2.1.length:Int) - 1)).toNat (i64.wrap (d - 6)),a.2.2.2)))) else ((aL a.2.2.1 (i64.wrap ((a.2.2.1.length:Int) - 1))).bind fun o=>some (.inr (true,a.2.2.1.set (i64.wrap ((a.2.2.1.length:Int) - 1)).toNat (i64.wrap (d - 6)),a.2.2.2))))) (fun e=>some (.nxt (e.1,i64.wrap (a.2.1+1),e.2.1,e.2.2)))) else (some (.brk (a.1,a.2.1,a.2.2.1,a.2.2.2)))
def gA (a:List Int):Option (((List Int)×(List Yq1))×Bool):=
 (xO a).bind fun c=>if c then (aO (ay (uq a) aS (false,0,[0],[])) (fun r=>some r) (fun b=>some ((b.2.2.1,b.2.2.2),true))) else (some (([],[]),false))
def bZ (b:Int) (a:Yq2×Int):Option Yq8:=
 if decide (a.2<b) then (if decide (b<=5) then ((cR 16 a.1 ([(a.2,a.2)])).bind fun c=>some (.nxt (c,i64.wrap (a.2+1)))) else (some (.brk (a.1,a.2)))) else (some (.brk (a.1,a.2)))
def cw (a:Int):Option Yq2:=
 aO (ay (bZ a) aS (([] :List (Int×Int)),0)) (fun r=>some r) (fun b=>some b.1)
def xQ (b:(List Int)×(List Yq1)) (a:Int×Int×Int×Int):Option Bool:=
 (bQ a.1 1 99).bind fun c=>if c then ((bQ a.2.1 0 (i64.wrap ((b.1.length:Int) - 1))).bind fun d=>if d then ((bQ a.2.2.1 0 (i64.wrap ((b.1.length:Int) - 1))).bind fun e=>if e then ((bQ a.2.2.2 0 2).bind fun f=>some f) else (some false)) else (some false)) else (some false)
def lC (b:(List Int)×(List Yq1)) (a:Int):Option (Out Bool Int):=
 if decide (a<(b.1.length:Int)) then ((aL b.1 a).bind fun c=>(bQ c 0 2).bind fun d=>if d then (some (.nxt (i64.wrap (a+1)))) else (some (.ret false))) else (some (.brk a))
def iG (b:(List Int)×(List Yq1)) (a:Int):Option (Out Bool Int):=
 if decide (a<(b.2.length:Int)) then ((aL b.2 a).bind fun c=>(xQ (b.1,b.2) (c.1,c.2.1,c.2.2.1,c.2.2.2)).bind fun d=>if d then (if decide (a>0) then ((aL b.2 (i64.wrap (a - 1))).bind fun e=>(aL b.2 a).bind fun f=>if decide (e.1≥f.1) then (some (.ret false)) else (some (.nxt (i64.wrap (a+1))))) else (some (.nxt (i64.wrap (a+1))))) else (some (.ret false))) else (some (.brk a))
def cD (a:(List Int)×(List Yq1)):Option Bool:=
 aO (ay (lC a) aS 0) (fun r=>some r) (fun c=>aO (ay (iG a) aS 0) (fun r=>some r) (fun d=>(bQ (a.1.length:Int) 1 5).bind fun b=>if b then (some (decide ((a.2.length:Int)<=12))) else (some false)))
def jH (a:Int×Int) (b:Int×Int):Option Bool:=
 if decide (a.1<b.1) then (some true) else (if a.1==b.1 then (some (decide (a.2<b.2))) else (some false))
def kS (b:List (Int×Int)) (c:Int×Int) (a:Int):Option (Out Yq2 Int):=
 if decide (a<(b.length:Int)) then ((aL b a).bind fun d=>(jH (d.1,d.2) (c.1,c.2)).bind fun e=>if e then (some (.nxt (i64.wrap (a+1)))) else (some (.brk a))) else (some (.brk a))
def gB (a:List (Int×Int)) (c:Int×Int):Option Yq2:=
 aO (ay (kS a c) aS 0) (fun e=>some e) (fun b=>if decide (b<(a.length:Int)) then ((aL a b).bind fun d=>if Bool.and.match_1 (fun (l:Bool)=>Bool) (d.1==c.1) (fun (m:Unit)=>false) (fun (n:Unit)=>Bool.and.match_1 (fun (o:Bool)=>Bool) (d.2==c.2) (fun (p:Unit)=>false) (fun (q:Unit)=>true)) then (some a) else ((chk (And (0<=b) (b<=(a.length:Int)))).bind fun _=>(cR 16 ([] :List (Int×Int)) ((a.take b.toNat).drop 0)).bind fun f=>(cR 16 f ([(c.1,c.2)])).bind fun g=>(chk (And (0<=b) (b<=(a.length:Int)))).bind fun _=>(cR 16 g ((a.take a.length).drop b.toNat)).bind fun h=>some h)) else ((chk (And (0<=b) (b<=(a.length:Int)))).bind fun _=>(cR 16 ([] :List (Int×Int)) ((a.take b.toNat).drop 0)).bind fun i=>(cR 16 i ([(c.1,c.2)])).bind fun j=>(chk (And (0<=b) (b<=(a.length:Int)))).bind fun _=>(cR 16 j ((a.take a.length).drop b.toNat)).bind fun k=>some k))
def nH (a:(List Int)×(List Yq1)) (b:Int) (c:Int):Option Bool:=
 (cD (a.1,a.2)).bind fun d=>if d then ((bQ b 0 (i64.wrap ((a.1.length:Int) - 1))).bind fun e=>if e then ((bQ c 6 8).bind fun f=>if f then ((aL a.1 b).bind fun g=>some (g==(i64.wrap (c - 6)))) else (some false)) else (some false)) else (some false)
def cU (b:(List Int)×(List Yq1)) (c:Int) (a:Yq2×Int):Option Yq8:=
 if decide (a.2<(b.1.length:Int)) then (Option.bind (((nH (b.1,b.2) a.2 c).bind fun d=>if d then ((gB a.1 (a.2,a.2)).bind fun e=>some e) else (some a.1):Option Yq2)) (fun f=>some (.nxt (f,i64.wrap (a.2+1))))) else (some (.brk (a.1,a.2)))
def cV (c:(List Int)×(List Yq1)) (d:Int) (a:Yq2×Int):Option Yq8:=
 if decide (a.2<(c.2.length:Int)) then (Option.bind (((aL c.2 a.2).bind fun b=>Option.bind ((if (i64.wrap (2*b.2.2.2))==d then ((gB a.1 (b.2.1,b.2.2.1)).bind fun f=>some f) else (some a.1):Option Yq2)) (fun e=>if (i64.wrap ((i64.wrap (2*b.2.2.2))+1))==d then ((gB e (b.2.2.1,b.2.1)).bind fun g=>some g) else (some e)):Option Yq2)) (fun h=>some (.nxt (h,i64.wrap (a.2+1))))) else (some (.brk (a.1,a.2)))
def fH (a:(List Int)×(List Yq1)) (b:Int):Option Yq2:=
 (cD (a.1,a.2)).bind fun c=>if c then (aO (ay (cU a b) aS (([] :List (Int×Int)),0)) (fun r=>some r) (fun d=>aO (ay (cV a b) aS (d.1,0)) (fun r=>some r) (fun e=>some e.1))) else (some ([] :List (Int×Int)))
def jT (c:List Yq1) (a:Int×Int):Option (Out Int (Int×Int)):=
 if decide (a.1>0) then ((aL c (i64.wrap (a.2 - 1))).bind fun b=>(lA (b.1,b.2.1,b.2.2.1,b.2.2.2)).bind fun d=>some (.nxt (i64.wrap ((i64.wrap (a.1 - 1))+d),i64.wrap (a.2 - 1)))) else (some (.brk (a.1,a.2)))
def dY (a:List Yq1):Option Int:=
 aO (ay (jT a) aS (1,(a.length:Int))) (fun r=>some r) (fun b=>some b.2)
def b7 (c:List (Int×Int)) (b:List (Int×Int)) (d:Yq2×Int) (a:Yq2×Int):Option Yq8:=
 if decide (a.2<(b.length:Int)) then (Option.bind (((aL c d.2).bind fun e=>(aL b a.2).bind fun f=>if e.2==f.1 then ((aL c d.2).bind fun g=>(aL b a.2).bind fun h=>(gB a.1 (g.1,h.2)).bind fun i=>some i) else (some a.1):Option Yq2)) (fun j=>some (.nxt (j,i64.wrap (a.2+1))))) else (some (.brk (a.1,a.2)))
def b8 (b:List (Int×Int)) (c:List (Int×Int)) (a:Yq2×Int):Option Yq8:=
 if decide (a.2<(b.length:Int)) then (aO (ay (b7 b c a) aS (a.1,0)) (fun r=>some (.ret r)) (fun d=>some (.nxt (d.1,i64.wrap (a.2+1))))) else (some (.brk (a.1,a.2)))
def cx (a:List (Int×Int)) (b:List (Int×Int)):Option Yq2:=
 aO (ay (b8 a b) aS (([] :List (Int×Int)),0)) (fun r=>some r) (fun c=>some c.1)
def gC (b:List (Int×Int)) (a:Yq2×Int):Option Yq8:=
 if decide (a.2<(b.length:Int)) then ((aL b a.2).bind fun c=>(gB a.1 (c.1,c.2)).bind fun d=>some (.nxt (d,i64.wrap (a.2+1)))) else (some (.brk (a.1,a.2)))
def gD (b:List (Int×Int)) (a:Yq2×Int):Option Yq8:=
 if decide (a.2<(b.length:Int)) then ((aL b a.2).bind fun c=>(gB a.1 (c.1,c.2)).bind fun d=>some (.nxt (d,i64.wrap (a.2+1)))) else (some (.brk (a.1,a.2)))
def fA (a:List (Int×Int)) (b:List (Int×Int)):Option Yq2:=
 aO (ay (gC a) aS (([] :List (Int×Int)),0)) (fun r=>some r) (fun c=>aO (ay (gD b) aS (c.1,0)) (fun r=>some r) (fun d=>some d.1))
def lD (b:List (Int×Int)) (a:Int):Option (Out Bool Int):=
 if decide (a<(b.length:Int)) then ((aL b a).bind fun e=>(bQ e.1 0 4).bind fun f=>if f then ((aL b a).bind fun g=>(bQ g.2 0 4).bind fun h=>if h then (if decide (a>0) then ((aL b (i64.wrap (a - 1))).bind fun c=>(aL b a).bind fun d=>(jH (c.1,c.2) (d.1,d.2)).bind fun i=>if i then (some (.nxt (i64.wrap (a+1)))) else (some (.ret false))) else (some (.nxt (i64.wrap (a+1))))) else (some (.ret false))) else (some (.ret false))) else (some (.brk a))
def fV (a:List (Int×Int)):Option Bool:=
 aO (ay (lD a) aS 0) (fun r=>some r) (fun b=>some true)
def cG (b:List (Int×Int)) (a:Yq2×Int):Option Yq8:=
 if decide (a.2<5) then ((cx a.1 b).bind fun c=>(fA a.1 c).bind fun d=>some (.nxt (d,i64.wrap (a.2+1)))) else (some (.brk (a.1,a.2)))
def e7 (a:Int) (b:List (Int×Int)):Option Yq2:=
 (bQ a 1 5).bind fun c=>if c then ((fV b).bind fun d=>if d then ((cw a).bind fun e=>aO (ay (cG b) aS (e,0)) (fun r=>some r) (fun f=>some f.1)) else (some ([] :List (Int×Int)))) else (some ([] :List (Int×Int)))
def bJ (b:List (Int×Int)) (c:Int) (d:Int) (a:Yq2×Yq2×Int):Option (Out Yq2 (Yq2×Yq2×Int)):=
 if decide (a.2.2<=d) then (Option.bind ((if decide (a.2.2≥c) then ((fA a.1 a.2.1).bind fun e=>some e) else (some a.1):Option Yq2)) (fun f=>(cx a.2.1 b).bind fun g=>some (.nxt (f,g,i64.wrap (a.2.2+1))))) else (some (.brk (a.1,a.2.1,a.2.2)))
def gE (a:Int) (b:List (Int×Int)) (c:Int) (d:Int):Option Yq2:=
 (bQ a 1 5).bind fun e=>if e then ((fV b).bind fun f=>if f then ((bQ d 0 3).bind fun g=>if g then (if decide (c<0) then (some ([] :List (Int×Int))) else ((cw a).bind fun h=>aO (ay (bJ b c d) aS (([] :List (Int×Int)),h,0)) (fun r=>some r) (fun i=>some i.1))) else (some ([] :List (Int×Int)))) else (some ([] :List (Int×Int)))) else (some ([] :List (Int×Int)))
def b9:Nat->((List Int)×List Yq1)->(List Yq1)->Option Yq2 
 | 0,_,_=>none
 | n+1,p0,p1 =>
  (aL p1 (i64.wrap ((p1.length:Int) - 1))).bind fun a=>if a.1==2 then ((cw (p0.1.length:Int)).bind fun d=>some d) else (if a.1==3 then ((fH (p0.1,p0.2) a.2.1).bind fun e=>some e) else (if a.1==4 then ((chk (And (0<=(i64.wrap ((p1.length:Int) - 1))) ((i64.wrap ((p1.length:Int) - 1))<=(p1.length:Int)))).bind fun _=>(dY (p1.take ((i64.wrap ((p1.length:Int) - 1)).toNat))).bind fun b=>(chk (And (0<=b) (b<=(p1.length:Int)))).bind fun _=>((b9 n) (p0.1,p0.2) (p1.take b.toNat)).bind fun f=>(chk (And (0<=b) (And (b<=(i64.wrap ((p1.length:Int) - 1))) ((i64.wrap ((p1.length:Int) - 1))<=(p1.length:Int))))).bind fun _=>((b9 n) (p0.1,p0.2) ((p1.take ((i64.wrap ((p1.length:Int) - 1)).toNat)).drop b.toNat)).bind fun g=>(cx f g).bind fun h=>some h) else (if a.1==5 then ((chk (And (0<=(i64.wrap ((p1.length:Int) - 1))) ((i64.wrap ((p1.length:Int) - 1))<=(p1.length:Int)))).bind fun _=>(dY (p1.take ((i64.wrap ((p1.length:Int) - 1)).toNat))).bind fun c=>(chk (And (0<=c) (c<=(p1.length:Int)))).bind fun _=>((b9 n) (p0.1,p0.2) (p1.take c.toNat)).bind fun i=>(chk (And (0<=c) (And (c<=(i64.wrap ((p1.length:Int) - 1))) ((i64.wrap ((p1.length:Int) - 1))<=(p1.length:Int))))).bind fun _=>((b9 n) (p0.1,p0.2) ((p1.take ((i64.wrap ((p1.length:Int) - 1)).toNat)).drop c.toNat)).bind fun j=>(fA i j).bind fun k=>some k) else (if a.1==6 then ((chk (And (0<=(i64.wrap ((p1.length:Int) - 1))) ((i64.wrap ((p1.length:Int) - 1))<=(p1.length:Int)))).bind fun _=>((b9 n) (p0.1,p0.2) (p1.take ((i64.wrap ((p1.length:Int) - 1)).toNat))).bind fun l=>(e7 (p0.1.length:Int) l).bind fun m=>some m) else (if a.1==7 then ((chk (And (0<=(i64.wrap ((p1.length:Int) - 1))) ((i64.wrap ((p1.length:Int) - 1))<=(p1.length:Int)))).bind fun _=>((b9 n) (p0.1,p0.2) (p1.take ((i64.wrap ((p1.length:Int) - 1)).toNat))).bind fun o=>(gE (p0.1.length:Int) o a.2.2.1 a.2.2.2).bind fun p=>some p) else (some ([] :List (Int×Int))))))))
def kT (b:List (Int×Int)) (c:Int×Int) (a:Int):Option (Out Bool Int):=
 if decide (a<(b.length:Int)) then ((aL b a).bind fun d=>if ((d.1==c.1)&&((d.2==c.2)&&true)) then (some (.ret true)) else (some (.nxt (i64.wrap (a+1))))) else (some (.brk a))
def pX (a:List (Int×Int)) (b:Int×Int):Option Bool:=
 aO (ay (kT a b) aS 0) (fun r=>some r) (fun c=>some false)
def eC (b:(List Yq1)) (c:List Int):Option Bool:=
 (gA c).bind fun a=>if a.2 then ((bN b).bind fun d=>if d then ((b9 cF (a.1.1,a.1.2) b).bind fun e=>(pX e (0,i64.wrap ((a.1.1.length:Int) - 1))).bind fun f=>some f) else (some false)) else (some false)
def cK (c:List Yq1) (b:List (List Int)) (a:Int):Option (Out ((List Int)×Bool) Int):=
 if decide (a<(b.length:Int)) then ((bN c).bind fun d=>if d then ((aL b a).bind fun e=>(gA e).bind fun f=>if f.2 then ((aL b a).bind fun g=>(eC c g).bind fun h=>if h then (some (.nxt (i64.wrap (a+1)))) else ((aL b a).bind fun i=>some (.ret (i,true)))) else (some (.nxt (i64.wrap (a+1))))) else (some (.brk a))) else (some (.brk a))
def dL (a:List Yq1) (b:List Yq1) (c:Int):Option ((List Int)×Bool):=
 (gz a c).bind fun d=>aO (ay (cK b d) aS 0) (fun e=>some e) (fun f=>some (([] :List Int),false))
def dA:Nat->(List Yq1)->Option Int
 | 0,_=>none
 | n+1,p0l =>
  (aL p0l (i64.wrap ((p0l.length:Int) - 1))).bind fun a=>Option.bind ((if a.1==4 then (some (a.1==4)) else (some (a.1==5)):Option Bool)) (fun c=>if c then ((chk (And (0<=(i64.wrap ((p0l.length:Int) - 1))) ((i64.wrap ((p0l.length:Int) - 1))<=(p0l.length:Int)))).bind fun _=>(dY (p0l.take ((i64.wrap ((p0l.length:Int) - 1)).toNat))).bind fun b=>(chk (And (0<=b) (b<=(p0l.length:Int)))).bind fun _=>((dA n) (p0l.take b.toNat)).bind fun d=>(chk (And (0<=b) (And (b<=(i64.wrap ((p0l.length:Int) - 1))) ((i64.wrap ((p0l.length:Int) - 1))<=(p0l.length:Int))))).bind fun _=>((dA n) ((p0l.take ((i64.wrap ((p0l.length:Int) - 1)).toNat)).drop b.toNat)).bind fun e=>some (Min.min 100000 (i64.wrap ((i64.wrap (d+e))+1)))) else (if a.1==6 then ((chk (And (0<=(i64.wrap ((p0l.length:Int) - 1))) ((i64.wrap ((p0l.length:Int) - 1))<=(p0l.length:Int)))).bind fun _=>((dA n) (p0l.take ((i64.wrap ((p0l.length:Int) - 1)).toNat))).bind fun f=>some (Min.min 100000 (i64.wrap (f+1)))) else (if a.1==7 then ((chk (And (0<=(i64.wrap ((p0l.length:Int) - 1))) ((i64.wrap ((p0l.length:Int) - 1))<=(p0l.length:Int)))).bind fun _=>((dA n) (p0l.take ((i64.wrap ((p0l.length:Int) - 1)).toNat))).bind fun g=>some (Min.min 100000 (i64.wrap ((i64.wrap ((i64.wrap (g+3))*a.2.2.2))+1)))) else (some 1))))
def sZ (a:List Yq1):Option (List Yq1):=
 (cR 32 ([] :List Yq1) a).bind fun b=>some b
def jI (b:(List Yq1)) (c:(List Yq1)) (a:Int×Int×Int×Int):Option (List Yq1):=
 (sZ b).bind fun d=>(cR 32 d c).bind fun e=>(cR 32 e ([(a.1,a.2.1,a.2.2.1,a.2.2.2)])).bind fun f=>some f
def pY (a:Int):Option (List Yq1):=
 some ([(a,0,0,0)])
def kh:Nat->(List Yq1)->Int->Int->Option (List Yq1)
 | 0,_,_,_=>none
 | n+1,p0e,p1low,p2high =>
  if p2high==0 then ((pY 2).bind fun b=>some b) else (((kh n) p0e (Max.max 0 (i64.wrap (p1low - 1))) (i64.wrap (p2high - 1))).bind fun c=>(jI p0e c (4,0,0,0)).bind fun a=>if decide (p1low>0) then (some a) else ((pY 2).bind fun d=>(jI a d (5,0,0,0)).bind fun e=>some e))
def cd:Nat->(List Yq1)->Option (List Yq1)
 | 0,_=>none
 | n+1,p0l =>
  (aL p0l (i64.wrap ((p0l.length:Int) - 1))).bind fun a=>Option.bind ((if a.1==4 then (some (a.1==4)) else (some (a.1==5)):Option Bool)) (fun c=>if c then ((chk (And (0<=(i64.wrap ((p0l.length:Int) - 1))) ((i64.wrap ((p0l.length:Int) - 1))<=(p0l.length:Int)))).bind fun _=>(dY (p0l.take ((i64.wrap ((p0l.length:Int) - 1)).toNat))).bind fun b=>(chk (And (0<=b) (b<=(p0l.length:Int)))).bind fun _=>((cd n) (p0l.take b.toNat)).bind fun d=>(chk (And (0<=b) (And (b<=(i64.wrap ((p0l.length:Int) - 1))) ((i64.wrap ((p0l.length:Int) - 1))<=(p0l.length:Int))))).bind fun _=>((cd n) ((p0l.take ((i64.wrap ((p0l.length:Int) - 1)).toNat)).drop b.toNat)).bind fun e=>(jI d e (a.1,a.2.1,a.2.2.1,a.2.2.2)).bind fun f=>some f) else (if a.1==6 then ((chk (And (0<=(i64.wrap ((p0l.length:Int) - 1))) ((i64.wrap ((p0l.length:Int) - 1))<=(p0l.length:Int)))).bind fun _=>((cd n) (p0l.take ((i64.wrap ((p0l.length:Int) - 1)).toNat))).bind fun g=>(jI g ([] :List Yq1) (a.1,a.2.1,a.2.2.1,a.2.2.2)).bind fun h=>some h) else (if a.1==7 then ((chk (And (0<=(i64.wrap ((p0l.length:Int) - 1))) ((i64.wrap ((p0l.length:Int) - 1))<=(p0l.length:Int)))).bind fun _=>((cd n) (p0l.take ((i64.wrap ((p0l.length:Int) - 1)).toNat))).bind fun i=>(kh cF i a.2.2.1 a.2.2.2).bind fun j=>some j) else (some ([(a.1,a.2.1,a.2.2.1,a.2.2.2)])))))
def jU (a:(List Yq1)):Option (((List Yq1))×Bool):=
 (bN a).bind fun c=>if c then ((dA cF a).bind fun d=>if decide (d>5000) then (some ([],false)) else ((cd cF a).bind fun b=>if decide ((b.length:Int)>400) then (some ([],false)) else (some (b,true)))) else (some ([],false))
def ij (b:Int) (c:Int) (a:Int×List Int):Option (Out Yq4 (Int×List Int)):=
 if decide (a.1<(a.2.length:Int)) then (Option.bind (((chk (0<=a.1)).bind fun _=>if (sD (oN b a.1) 1)==1 then ((aL a.2 a.1).bind fun d=>(aL a.2 a.1).bind fun f=>some (a.2.set a.1.toNat (orI d c))) else (some a.2):Option (List Int))) (fun e=>some (.nxt (i64.wrap (a.1+1),e)))) else (some (.brk (a.1,a.2)))
def lE (a:(List Int)×Int×Int×(List Int)×Bool) (b:Int) (c:Int):Option Yq4:=
 aO (ay (ij b c) aS (0,a.2.2.2.1)) (fun d=>some d) (fun e=>some (a.1,a.2.1,a.2.2.1,e.2,a.2.2.2.2))
def cW:Nat->Yq4->(List Yq1)->Option ((Bool×Int×Int)×(List Int)×Int×Int×(List Int)×Bool)
 | 0,_,_=>none
 | n+1,p0,p1 =>
  (aL p1 (i64.wrap ((p1.length:Int) - 1))).bind fun g=>if g.1==2 then (some ((true,0,0),p0.1,p0.2.1,p0.2.2.1,p0.2.2.2.1,p0.2.2.2.2)) else (if g.1==3 then ((cR 8 p0.1 ([g.2.1])).bind fun p=>(cR 8 p0.2.2.2.1 ([0])).bind fun q=>some ((false,Aj 1 (p0.1.length:Int),Aj 1 (p0.1.length:Int)),p,p0.2.1,p0.2.2.1,q,p0.2.2.2.2)) else (if g.1==4 then ((chk (And (0<=(i64.wrap ((p1.length:Int) - 1))) ((i64.wrap ((p1.length:Int) - 1))<=(p1.length:Int)))).bind fun _=>(dY (p1.take ((i64.wrap ((p1.length:Int) - 1)).toNat))).bind fun h=>(chk (And (0<=h) (h<=(p1.length:Int)))).bind fun _=>((cW n) (p0.1,p0.2.1,p0.2.2.1,p0.2.2.2.1,p0.2.2.2.2) (p1.take h.toNat)).bind fun b=>(chk (And (0<=h) (And (h<=(i64.wrap ((p1.length:Int) - 1))) ((i64.wrap ((p1.length:Int) - 1))<=(p1.length:Int))))).bind fun _=>((cW n) (b.2.1,b.2.2.1,b.2.2.2.1,b.2.2.2.2.1,b.2.2.2.2.2) ((p1.take ((i64.wrap ((p1.length:Int) - 1)).toNat)).drop h.toNat)).bind fun a=>(lE (a.2.1,a.2.2.1,a.2.2.2.1,a.2.2.2.2.1,a.2.2.2.2.2) b.1.2.2 a.1.2.1).bind fun d=>if b.1.1 then (Option.bind ((if b.1.1 then (some (a.1.1,orI b.1.2.1 a.1.2.1,a.1.2.2)) else (some (a.1.1,b.1.2.1,a.1.2.2)):Option (Bool×Int×Int))) (fun j=>Option.bind ((if a.1.1 then (some (j.1,j.2.1,orI b.1.2.2 a.1.2.2)) else (some (j.1,j.2.1,j.2.2)):Option (Bool×Int×Int))) (fun m=>some ((m.1,m.2.1,m.2.2),d.1,d.2.1,d.2.2.1,d.2.2.2.1,d.2.2.2.2)))) else (Option.bind ((if b.1.1 then (some (false,orI b.1.2.1 a.1.2.1,a.1.2.2)) else (some (false,b.1.2.1,a.1.2.2)):Option (Bool×Int×Int))) (fun k=>Option.bind ((if a.1.1 then (some (k.1,k.2.1,orI b.1.2.2 a.1.2.2)) else (some (k.1,k.2.1,k.2.2)):Option (Bool×Int×Int))) (fun o=>some ((o.1,o.2.1,o.2.2),d.1,d.2.1,d.2.2.1,d.2.2.2.1,d.2.2.2.2))))) else (if g.1==5 then ((chk (And (0<=(i64.wrap ((p1.length:Int) - 1))) ((i64.wrap ((p1.length:Int) - 1))<=(p1.length:Int)))).bind fun _=>(dY (p1.take ((i64.wrap ((p1.length:Int) - 1)).toNat))).bind fun i=>(chk (And (0<=i) (i<=(p1.length:Int)))).bind fun _=>((cW n) (p0.1,p0.2.1,p0.2.2.1,p0.2.2.2.1,p0.2.2.2.2) (p1.take i.toNat)).bind fun e=>(chk (And (0<=i) (And (i<=(i64.wrap ((p1.length:Int) - 1))) ((i64.wrap ((p1.length:Int) - 1))<=(p1.length:Int))))).bind fun _=>((cW n) (e.2.1,e.2.2.1,e.2.2.2.1,e.2.2.2.2.1,e.2.2.2.2.2) ((p1.take ((i64.wrap ((p1.length:Int) - 1)).toNat)).drop i.toNat)).bind fun c=>if e.1.1 then (some ((true,orI e.1.2.1 c.1.2.1,orI e.1.2.2 c.1.2.2),c.2.1,c.2.2.1,c.2.2.2.1,c.2.2.2.2.1,c.2.2.2.2.2)) else (some ((c.1.1,orI e.1.2.1 c.1.2.1,orI e.1.2.2 c.1.2.2),c.2.1,c.2.2.1,c.2.2.2.1,c.2.2.2.2.1,c.2.2.2.2.2))) else (if g.1==6 then ((chk (And (0<=(i64.wrap ((p1.length:Int) - 1))) ((i64.wrap ((p1.length:Int) - 1))<=(p1.length:Int)))).bind fun _=>((cW n) (p0.1,p0.2.1,p0.2.2.1,p0.2.2.2.1,p0.2.2.2.2) (p1.take ((i64.wrap ((p1.length:Int) - 1)).toNat))).bind fun f=>(lE (f.2.1,f.2.2.1,f.2.2.2.1,f.2.2.2.2.1,f.2.2.2.2.2) f.1.2.2 f.1.2.1).bind fun l=>some ((true,f.1.2.1,f.1.2.2),l.1,l.2.1,l.2.2.1,l.2.2.2.1,l.2.2.2.2)) else (some ((false,0,0),p0.1,p0.2.1,p0.2.2.1,p0.2.2.2.1,p0.2.2.2.2))))))
def cX (b:(List Yq1)×Bool) (a:Int×Int):Option (Out (Yq4×Bool) (Int×Int)):=
 if decide (a.2<(b.1.length:Int)) then (Option.bind (((aL b.1 a.2).bind fun c=>if c.1==3 then (some (i64.wrap (a.1+1))) else (some a.1):Option Int)) (fun d=>some (.nxt (d,i64.wrap (a.2+1))))) else (some (.brk (a.1,a.2)))
def fI (c:List Yq1):Option (Yq4×Bool):=
 (jU c).bind fun b=>if b.2 then (aO (ay (cX b) aS (0,0)) (fun d=>some d) (fun e=>if decide (e.1>20) then (some ((([] :List Int),0,0,([] :List Int),false),false)) else ((cW cF (([] :List Int),0,0,([] :List Int),false) b.1).bind fun a=>some ((a.2.1,a.1.2.1,a.1.2.2,a.2.2.2.2.1,a.1.1),true)))) else (some ((([] :List Int),0,0,([] :List Int),false),false))
def fW (b:(List Int)×Int×Int×(List Int)×Bool) (c:Int) (a:Int×Int):Option (Out Int (Int×Int)):=
 if decide (a.2<(b.1.length:Int)) then (Option.bind (((chk (0<=i64.wrap (a.2+1))).bind fun _=>if (sD (oN c (i64.wrap (a.2+1))) 1)==1 then ((aL b.2.2.2.1 a.2).bind fun d=>some (orI a.1 d)) else (some a.1):Option Int)) (fun e=>some (.nxt (e,i64.wrap (a.2+1))))) else (some (.brk (a.1,a.2)))
def fX (b:(List Int)×Int×Int×(List Int)×Bool) (c:Int) (d:Int×Int) (a:Int×Int):Option (Out Int (Int×Int)):=
 if decide (a.2<(b.1.length:Int)) then (Option.bind (((chk (0<=a.2)).bind fun _=>if (sD (oN d.1 a.2) 1)==1 then ((aL b.1 a.2).bind fun e=>if e==c then ((chk (0<=i64.wrap (a.2+1))).bind fun _=>some (orI a.1 (Aj 1 (i64.wrap (a.2+1))))) else (some a.1)) else (some a.1):Option Int)) (fun f=>some (.nxt (f,i64.wrap (a.2+1))))) else (some (.brk (a.1,a.2)))
def ma (a:(List Int)×Int×Int×(List Int)×Bool) (b:Int) (c:Int):Option Int:=
 Option.bind ((if (sD b 1)==1 then (some a.2.1) else (some 0):Option Int)) (fun d=>aO (ay (fW a b) aS (d,0)) (fun r=>some r) (fun e=>aO (ay (fX a c e) aS (0,0)) (fun r=>some r) (fun f=>some f.1)))
def mI (b:List Int) (c:Int) (a:Int):Option (Out Int Int):=
 if decide (a<(b.length:Int)) then ((aL b a).bind fun d=>if d==c then (some (.ret a)) else (some (.nxt (i64.wrap (a+1))))) else (some (.brk a))
def lF (a:List Int) (b:Int):Option Int:=
 aO (ay (mI a b) aS 0) (fun r=>some r) (fun c=>some (-1))
def jV (a:(List Int)×Int×Int×(List Int)×Bool) (b:Int):Option Bool:=
 if (sD b 1)==1 then (if a.2.2.2.2 then (some true) else (some ((sD (oN b 1) a.2.2.1) !=0))) else (some ((sD (oN b 1) a.2.2.1) !=0))
def gF (b:(List Int)×Int×Int×(List Int)×Bool) (f:(List Int)×Int×Int×(List Bool)×(List (List Int))) (a:(List Int)×(List Int)×Int):Option (Out (Yq3×Bool) ((List Int)×(List Int)×Int)):=
 if decide (a.2.2<9) then ((aL a.1 f.2.1).bind fun g=>(ma (b.1,b.2.1,b.2.2.1,b.2.2.2.1,b.2.2.2.2) g a.2.2).bind fun c=>Option.bind ((if c !=0 then ((lF a.1 c).bind fun d=>if decide (d<0) then ((cR 8 a.1 ([c])).bind fun h=>some (h,(a.1.length:Int))) else (some (a.1,d))) else (some (a.1,-1)):Option ((List Int)×Int))) (fun e=>(cR 8 a.2.1 ([e.2])).bind fun i=>some (.nxt (e.1,i,i64.wrap (a.2.2+1))))) else (some (.brk (a.1,a.2.1,a.2.2)))
def eD (b:(List Int)×Int×Int×(List Int)×Bool) (d:Int) (a:(List Int)×Int×Int×(List Bool)×(List (List Int))):Option (Out (Yq3×Bool) ((List Int)×Int×Int×(List Bool)×(List (List Int)))):=
 if decide (a.2.1<(a.1.length:Int)) then (aO (ay (gF b a) aS (a.1,([] :List Int),0)) (fun r=>some (.ret r)) (fun c=>if decide ((c.1.length:Int)>d) then (some (.ret ((0,[],[]),false))) else ((aL c.1 a.2.1).bind fun e=>(jV (b.1,b.2.1,b.2.2.1,b.2.2.2.1,b.2.2.2.2) e).bind fun f=>(cR 1 a.2.2.2.1 ([f])).bind fun g=>(cR 24 a.2.2.2.2 ([c.2.1])).bind fun h=>some (.nxt (c.1,i64.wrap (a.2.1+1),a.2.2.1,g,h))))) else (some (.brk (a.1,a.2.1,a.2.2.1,a.2.2.2.1,a.2.2.2.2)))
def il (b:(List Int)×Int×Int×(List Int)×Bool) (c:Int):Option (Yq3×Bool):=
 aO (ay (eD b c) aS ([1],0,0,[],[])) (fun r=>some r) (fun a=>some ((a.2.2.1,a.2.2.2.1,a.2.2.2.2),true))
def ta (a:(List Int)×Int):Option (Out Yq3 ((List Int)×Int)):=
 if decide (a.2<9) then ((cR 8 a.1 ([-1])).bind fun b=>some (.nxt (b,i64.wrap (a.2+1)))) else (some (.brk (a.1,a.2)))
def mJ:Option Yq3:=
 aO (ay (ta) aS (([] :List Int),0)) (fun r=>some r) (fun a=>some (0,[false],[a.1]))
def fp (f:Int×(List Bool)×(List (List Int))) (d:List Int) (g:List Bool) (h:(List Int)×(List Int)×Int×Int×(List Bool)×(List (List Int))) (a:(List Int)×(List Int)×(List Int)×Int):Option (Out Yq3 ((List Int)×(List Int)×(List Int)×Int)):=
 if decide (a.2.2.2<9) then ((aL a.2.1 h.2.2.1).bind fun i=>(aL f.2.2 i).bind fun j=>(aL j a.2.2.2).bind fun b=>Option.bind ((if decide (b≥0) then ((aL g b).bind fun k=>if k then ((aL d b).bind fun l=>(lF a.1 l).bind fun e=>if decide (e<0) then ((aL d b).bind fun m=>(cR 8 a.1 ([m])).bind fun n=>(cR 8 a.2.1 ([b])).bind fun o=>some (n,o,(a.1.length:Int))) else (some (a.1,a.2.1,e))) else (some (a.1,a.2.1,-1))) else (some (a.1,a.2.1,-1)):Option ((List Int)×(List Int)×Int))) (fun c=>(cR 8 a.2.2.1 ([c.2.2])).bind fun p=>some (.nxt (c.1,c.2.1,p,i64.wrap (a.2.2.2+1))))) else (some (.brk (a.1,a.2.1,a.2.2.1,a.2.2.2)))
def iz (c:Int×(List Bool)×(List (List Int))) (d:List Int) (e:List Bool) (a:(List Int)×(List Int)×Int×Int×(List Bool)×(List (List Int))):Option (Out Yq3 ((List Int)×(List Int)×Int×Int×(List Bool)×(List (List Int)))):=
 if decide (a.2.2.1<(a.1.length:Int)) then (aO (ay (fp c d e a) aS (a.1,a.2.1,([] :List Int),0)) (fun r=>some (.ret r)) (fun b=>(aL b.2.1 a.2.2.1).bind fun f=>(aL c.2.1 f).bind fun g=>(cR 1 a.2.2.2.2.1 ([g])).bind fun h=>(cR 24 a.2.2.2.2.2 ([b.2.2.1])).bind fun i=>some (.nxt (b.1,b.2.1,i64.wrap (a.2.2.1+1),a.2.2.2.1,h,i)))) else (some (.brk (a.1,a.2.1,a.2.2.1,a.2.2.2.1,a.2.2.2.2.1,a.2.2.2.2.2)))
def gG (a:Int×(List Bool)×(List (List Int))) (d:List Int) (e:List Bool):Option Yq3:=
 (aL e a.1).bind fun f=>if f then ((aL d a.1).bind fun g=>aO (ay (iz a d e) aS ([g],[a.1],0,0,[],[])) (fun r=>some r) (fun b=>some (b.2.2.2.1,b.2.2.2.2.1,b.2.2.2.2.2))) else ((mJ).bind fun c=>some (c.1,c.2.1,c.2.2))
def jW (c:Int×(List Bool)×(List (List Int))) (b:(List Bool)×Int) (a:(List Bool)×Int):Option (Out (List Bool) ((List Bool)×Int)):=
 if decide (a.2<9) then (Option.bind (((aL c.2.2 b.2).bind fun d=>(aL d a.2).bind fun e=>if decide (e≥0) then ((aL c.2.2 b.2).bind fun f=>(aL f a.2).bind fun g=>(aL a.1 g).bind fun h=>if h then ((aL a.1 b.2).bind fun j=>some (a.1.set b.2.toNat true)) else (some a.1)) else (some a.1):Option (List Bool))) (fun i=>some (.nxt (i,i64.wrap (a.2+1))))) else (some (.brk (a.1,a.2)))
def im (b:Int×(List Bool)×(List (List Int))) (a:(List Bool)×Int):Option (Out (List Bool) ((List Bool)×Int)):=
 if decide (a.2<(b.2.1.length:Int)) then (aO (ay (jW b a) aS (a.1,0)) (fun r=>some (.ret r)) (fun c=>some (.nxt (c.1,i64.wrap (a.2+1))))) else (some (.brk (a.1,a.2)))
def jX (b:Int×(List Bool)×(List (List Int))) (a:(List Bool)×Int):Option (Out (List Bool) ((List Bool)×Int)):=
 if decide (a.2<(b.2.1.length:Int)) then (aO (ay (im b) aS (a.1,0)) (fun r=>some (.ret r)) (fun c=>some (.nxt (c.1,i64.wrap (a.2+1))))) else (some (.brk (a.1,a.2)))
def jJ (a:Int×(List Bool)×(List (List Int))):Option (List Bool):=
 (cR 1 ([] :List Bool) a.2.1).bind fun b=>aO (ay (jX a) aS (b,0)) (fun r=>some r) (fun c=>some c.1)
def kU (c:Int×(List Bool)×(List (List Int))) (d:List Int) (e:Int) (a:(List Int)×Int):Option (Out (List Int) ((List Int)×Int)):=
 if decide (a.2<9) then (Option.bind (((aL c.2.2 e).bind fun f=>(aL f a.2).bind fun b=>if decide (b<0) then ((cR 8 a.1 ([-1])).bind fun g=>some g) else ((aL d b).bind fun h=>(cR 8 a.1 ([h])).bind fun i=>some i):Option (List Int))) (fun j=>some (.nxt (j,i64.wrap (a.2+1))))) else (some (.brk (a.1,a.2)))
def mU (c:Int×(List Bool)×(List (List Int))) (a:List Int) (b:Int):Option (List Int):=
 (aL a b).bind fun d=>aO (ay (kU c a b) aS ([d],0)) (fun r=>some r) (fun e=>some e.1)
def mb (b:List Int) (c:List Int) (a:Int):Option (Out Int Int):=
 if decide (a<(b.length:Int)) then (if decide (a<(c.length:Int)) then ((aL b a).bind fun d=>(aL c a).bind fun e=>if decide (d<e) then (some (.ret (-1))) else ((aL b a).bind fun f=>(aL c a).bind fun g=>if decide (f>g) then (some (.ret 1)) else (some (.nxt (i64.wrap (a+1)))))) else (some (.brk a))) else (some (.brk a))
def pb (a:List Int) (b:List Int):Option Int:=
 aO (ay (mb a b) aS 0) (fun r=>some r) (fun c=>if decide ((a.length:Int)<(b.length:Int)) then (some (-1)) else (if decide ((a.length:Int)>(b.length:Int)) then (some 1) else (some 0)))
def eE (b:Int×(List Bool)×List (List Int)) (c:List Bool) (a:(List Int)×Int):Option (Out (List Int) ((List Int)×Int)):=
 if decide (a.2<(b.2.1.length:Int)) then ((aL b.2.1 a.2).bind fun d=>Option.bind ((if d then (some 1) else (some 0):Option Int)) (fun e=>(aL c a.2).bind fun f=>Option.bind ((if f then (some e) else (some (-1)):Option Int)) (fun g=>(cR 8 a.1 ([g])).bind fun h=>some (.nxt (h,i64.wrap (a.2+1)))))) else (some (.brk (a.1,a.2)))
def eF (b:(List (List Int))×(List Int)×Int) (c:List Int) (a:Int×Int):Option (Out (List Int) (Int×Int)):=
 if decide (a.2<(b.1.length:Int)) then (Option.bind (((aL b.1 a.2).bind fun d=>(pb d c).bind fun e=>if e==0 then (some a.2) else (some a.1):Option Int)) (fun f=>some (.nxt (f,i64.wrap (a.2+1))))) else (some (.brk (a.1,a.2)))
def eG (b:Int×(List Bool)×List (List Int)) (c:(List Int)×Int) (a:(List (List Int))×(List Int)×Int):Option (Out (List Int) ((List (List Int))×(List Int)×Int)):=
 if decide (a.2.2<(b.2.1.length:Int)) then (Option.bind (((aL c.1 a.2.2).bind fun h=>if decide (h<0) then ((cR 8 a.2.1 ([(-1)])).bind fun i=>some (a.1,i)) else ((mU (b.1,b.2.1,b.2.2) c.1 a.2.2).bind fun d=>aO (ay (eF a d) aS ((-1),0)) (fun l=>none) (fun e=>Option.bind ((if decide (e.1<0) then ((cR 24 a.1 ([d])).bind fun j=>some (j,(a.1.length:Int))) else (some (a.1,e.1)):Option ((List (List Int))×Int))) (fun f=>(cR 8 a.2.1 ([f.2])).bind fun k=>some (f.1,k)))):Option ((List (List Int))×List Int))) (fun g=>some (.nxt (g.1,g.2,i64.wrap (a.2.2+1))))) else (some (.brk (a.1,a.2.1,a.2.2)))
def jK (b:Int×(List Bool)×List (List Int)) (a:(List Int)×Int):Option (Out (List Int) ((List Int)×Int)):=
 if decide (a.2<=(b.2.1.length:Int)) then (aO (ay (eG b a) aS (([] :List (List Int)),([] :List Int),0)) (fun d=>some (.ret d)) (fun c=>(pb c.2.1 a.1).bind fun e=>if e==0 then (some (.ret a.1)) else (some (.nxt (c.2.1,i64.wrap (a.2+1)))))) else (some (.brk (a.1,a.2)))
def iq (a:Int×(List Bool)×List (List Int)):Option (List Int):=
 (jJ (a.1,a.2.1,a.2.2)).bind fun b=>aO (ay (eE a b) aS (([] :List Int),0)) (fun c=>some c) (fun d=>aO (ay (jK a) aS (d.1,0)) (fun e=>some e) (fun f=>some f.1))
def eH (a:Int×(List Bool)×(List (List Int))):Option Yq3:=
 (iq (a.1,a.2.1,a.2.2)).bind fun c=>(jJ (a.1,a.2.1,a.2.2)).bind fun d=>(gG (a.1,a.2.1,a.2.2) c d).bind fun b=>some (b.1,b.2.1,b.2.2)
def fY (d:(List Yq1)):Option (Yq3×Bool):=
 (fI d).bind fun a=>if a.2 then ((il (a.1.1,a.1.2.1,a.1.2.2.1,a.1.2.2.2.1,a.1.2.2.2.2) 200).bind fun b=>if b.2 then ((eH (b.1.1,b.1.2.1,b.1.2.2)).bind fun c=>if decide ((c.2.1.length:Int)>12) then (some ((0,[],[]),false)) else (some ((c.1,c.2.1,c.2.2),true))) else (some ((0,[],[]),false))) else (some ((0,[],[]),false))
def fB (b:Int×(List Bool)×(List (List Int))) (c:Int) (a:Int):Option (Out Bool Int):=
 if decide (a<9) then ((aL b.2.2 c).bind fun d=>(aL d a).bind fun e=>(bQ e (-1) (i64.wrap ((b.2.1.length:Int) - 1))).bind fun f=>if f then (some (.nxt (i64.wrap (a+1)))) else (some (.ret false))) else (some (.brk a))
def jY (b:Int×(List Bool)×(List (List Int))) (a:Int):Option (Out Bool Int):=
 if decide (a<(b.2.1.length:Int)) then ((aL b.2.2 a).bind fun c=>if (c.length:Int) !=9 then (some (.ret false)) else (aO (ay (fB b a) aS 0) (fun r=>some (.ret r)) (fun d=>some (.nxt (i64.wrap (a+1)))))) else (some (.brk a))
def lG (a:Int×(List Bool)×(List (List Int))):Option Bool:=
 (bQ a.1 0 (i64.wrap ((a.2.1.length:Int) - 1))).bind fun b=>if b then (if (a.2.2.length:Int) !=(a.2.1.length:Int) then (some false) else (aO (ay (jY a) aS 0) (fun r=>some r) (fun c=>some true))) else (some false)
def bz (a:Int×(List Bool)×(List (List Int))):Option Bool:=
 if decide ((a.2.1.length:Int)<=12) then ((lG (a.1,a.2.1,a.2.2)).bind fun b=>some b) else (some false)
def jh (b:Int×(List Bool)×(List (List Int))) (a:Int):Option Bool:=
 if decide (a≥0) then ((aL b.2.1 a).bind fun c=>some c) else (some false)
def mK (b:List Yq7) (a:Int×(List Int)):Option (Out (List Int) (Int×(List Int))):=
 if decide (a.1>0) then ((aL b a.1).bind fun c=>(cR 8 ([c.2.2.2.2]) a.2).bind fun d=>(aL b a.1).bind fun e=>some (.nxt (e.2.2.2.1,d))) else (some (.brk (a.1,a.2)))
def nI (a:List Yq7) (b:Int):Option (List Int):=
 aO (ay (mK a) aS (b,([] :List Int))) (fun r=>some r) (fun c=>some c.2)
def lH (b:Int×(List Bool)×(List (List Int))) (a:Int) (c:Int):Option Int:=
 if decide (a<0) then (some (-1)) else ((aL b.2.2 a).bind fun d=>(aL d c).bind fun e=>some e)
def kV (b:List Yq7) (c:Int×Int×Bool×Int×Int) (a:Int):Option (Out Bool Int):=
 if decide (a<(b.length:Int)) then ((aL b a).bind fun d=>if d.1==c.1 then ((aL b a).bind fun e=>if e.2.1==c.2.1 then ((aL b a).bind fun f=>if f.2.2.1==c.2.2.1 then (some (.ret true)) else (some (.nxt (i64.wrap (a+1))))) else (some (.nxt (i64.wrap (a+1))))) else (some (.nxt (i64.wrap (a+1))))) else (some (.brk a))
def pZ (a:List Yq7) (b:Int×Int×Bool×Int×Int):Option Bool:=
 aO (ay (kV a b) aS 0) (fun r=>some r) (fun c=>some false)
def fq (c:Int×(List Bool)×(List (List Int))) (d:Int×(List Bool)×(List (List Int))) (b:(List Yq7)×Int) (a:(List Yq7)×Int):Option (Out ((List Int)×Bool) ((List Yq7)×Int)):=
 if decide (a.2<9) then (Option.bind (((aL a.1 b.2).bind fun g=>(lH (c.1,c.2.1,c.2.2) g.1 a.2).bind fun e=>(aL a.1 b.2).bind fun h=>(lH (d.1,d.2.1,d.2.2) h.2.1 a.2).bind fun f=>(pZ a.1 (e,f,false,b.2,a.2)).bind fun i=>if i then (some a.1) else ((cR 40 a.1 ([(e,f,false,b.2,a.2)])).bind fun j=>some j):Option (List Yq7))) (fun k=>some (.nxt (k,i64.wrap (a.2+1))))) else (some (.brk (a.1,a.2)))
def kA (b:Int×(List Bool)×(List (List Int))) (c:Int×(List Bool)×(List (List Int))) (f:Bool) (a:(List Yq7)×Int):Option (Out ((List Int)×Bool) ((List Yq7)×Int)):=
 if decide (a.2<(a.1.length:Int)) then ((aL a.1 a.2).bind fun g=>(jh (b.1,b.2.1,b.2.2) g.1).bind fun d=>(aL a.1 a.2).bind fun h=>(jh (c.1,c.2.1,c.2.2) h.2.1).bind fun e=>Option.bind (if e then (if d then (if d then (if e then some false else some (!f)) else some false) else some true) else (if d then (if e then some false else some (!f)) else some false):Option Bool) (fun b57=>if b57 then ((nI a.1 a.2).bind fun i=>some (.ret (i,true))) else (aO (ay (fq b c a) aS (a.1,0)) (fun r=>some (.ret r)) (fun j=>some (.nxt (j.1,i64.wrap (a.2+1))))))) else (some (.brk (a.1,a.2)))
def gH (a:Int×(List Bool)×(List (List Int))) (b:Int) (c:Int×(List Bool)×(List (List Int))) (d:Int) (e:Bool):Option ((List Int)×Bool):=
 aO (ay (kA a c e) aS ([(b,d,false,0,0)],0)) (fun r=>some r) (fun f=>some (([] :List Int),false))
def lI (a:Int×(List Bool)×(List (List Int))) (b:Int×(List Bool)×(List (List Int))):Option ((List Int)×Bool):=
 (bz (a.1,a.2.1,a.2.2)).bind fun d=>if d then ((bz (b.1,b.2.1,b.2.2)).bind fun e=>if e then ((gH (a.1,a.2.1,a.2.2) a.1 (b.1,b.2.1,b.2.2) b.1 true).bind fun c=>some (c.1,c.2)) else (some (([] :List Int),false))) else (some (([] :List Int),false))
def dk (a:Int×(List Bool)×(List (List Int))) (b:Int×(List Bool)×(List (List Int))):Option Bool:=
 (lI (a.1,a.2.1,a.2.2) (b.1,b.2.1,b.2.2)).bind fun c=>(bz (a.1,a.2.1,a.2.2)).bind fun d=>if d then ((bz (b.1,b.2.1,b.2.2)).bind fun e=>if e then (some (!c.2)) else (some false)) else (some false)
def iA (a:(List Yq1)) (b:(List Yq1)) (c:Int):Option Int:=
 (bN a).bind fun f=>if f then ((bN b).bind fun g=>if g then ((bQ c 0 3).bind fun h=>if h then ((fY a).bind fun d=>(fY b).bind fun e=>if d.2 then (if e.2 then ((dk (e.1.1,e.1.2.1,e.1.2.2) (d.1.1,d.1.2.1,d.1.2.2)).bind fun i=>if i then (some 1) else ((dL a b c).bind fun j=>if j.2 then (some 2) else (some 3))) else ((dL a b c).bind fun k=>if k.2 then (some 2) else (some 3))) else ((dL a b c).bind fun l=>if l.2 then (some 2) else (some 3))) else (some 0)) else (some 0)) else (some 0)
def nJ (a:Int×Int×Int×Int):Option Yq1:=
 some (a.1,a.2.1,a.2.2.1,a.2.2.2)
def ji (d:List Yq1) (a:(List Yq1)×Int):Option (Out (List Yq1) ((List Yq1)×Int)):=
 if decide (a.2<(d.length:Int)) then ((aL d a.2).bind fun b=>(nJ (b.1,b.2.1,b.2.2.1,b.2.2.2)).bind fun c=>(aL a.1 a.2).bind fun e=>some (.nxt (a.1.set a.2.toNat (c.1,c.2.1,c.2.2.1,c.2.2.2),i64.wrap (a.2+1)))) else (some (.brk (a.1,a.2)))
def mc (a:List Yq1):Option (List Yq1):=
 (mkI 32 (a.length:Int) ((0,0,0,0):Int×Int×Int×Int)).bind fun b=>aO (ay (ji a) aS (b,0)) (fun r=>some r) (fun c=>some c.1)
def gI (a:(List Yq1)):Option (List Yq1):=
 (mc a).bind fun b=>some b
def a8 (a:Int) (b:Int) (c:Int):Option Bool:=
 if decide (a≥b) then (some (decide (a<=c))) else (some false)
def dS (a:Int):Option Bool:=
 (a8 a 0 8).bind fun b=>some b
def zz (b:List Int) (a:Int):Option (Out Bool Int):=
 if decide (a<(b.length:Int)) then ((aL b a).bind fun c=>(dS c).bind fun d=>if d then (some (.nxt (i64.wrap (a+1)))) else (some (.ret false))) else (some (.brk a))
def xR (a:List Int):Option Bool:=
 aO (ay (zz a) aS 0) (fun r=>some r) (fun b=>some (decide ((a.length:Int)<=8)))
def xS (a:Int):Option Bool:=
 (a8 a 0 5).bind fun b=>some b
def ur (e:List Int) (a:(List Bool)×Int×(List Int)×(List Yq1)):Option (Out (((List Int)×(List Yq1))×Bool) ((List Bool)×Int×(List Int)×(List Yq1))):=
 if decide (a.2.1<(e.length:Int)) then (Fg (S:=(List Bool)×(List Int)×(List Yq1)) ((aL e a.2.1).bind fun b=>(xS b).bind fun f=>if f then (Option.bind ((if (Int.tmod b 2)==1 then (some (i64.wrap ((i64.wrap ((a.2.2.1.length:Int) - 1))+1),i64.wrap ((i64.wrap ((a.2.2.1.length:Int) - 1))+1),i64.wrap ((a.2.2.1.length:Int) - 1),O3 b 2)) else (some (i64.wrap ((i64.wrap ((a.2.2.1.length:Int) - 1))+1),i64.wrap ((a.2.2.1.length:Int) - 1),i64.wrap ((i64.wrap ((a.2.2.1.length:Int) - 1))+1),O3 b 2)):Option Yq1)) (fun c=>(cR 32 a.2.2.2 ([(c.1,c.2.1,c.2.2.1,c.2.2.2)])).bind fun g=>(cR 8 a.2.2.1 ([0])).bind fun h=>(cR 1 a.1 ([false])).bind fun i=>some (.inr (i,h,g)))) else ((aL a.1 (i64.wrap ((a.2.2.1.length:Int) - 1))).bind fun j=>if j then ((aL a.2.2.1 (i64.wrap ((a.2.2.1.length:Int) - 1))).bind fun k=>if k !=(i64.wrap (b - 6)) then (some (.inl (.ret (([],[]),false)))) else ((aL a.2.2.1 (i64.wrap ((a.2.2.1.length:Int) - 1))).bind fun l=>(aL a.1 (i64.wrap ((a.2.2.1.length:Int) - 1))).bind fun m=>some (.inr (a.1.set (i64.wrap ((a.2.2.1.length:Int) - 1)).toNat true,a.2.2.1.set (i64.wrap ((a.2.2.1.length:Int) - 1)).toNat (i64.wrap (b - 6)),a.2.2.2)))) else ((aL a.2.2.1 (i64.wrap ((a.2.2.1.length:Int) - 1))).bind fun n=>(aL a.1 (i64.wrap ((a.2.2.1.length:Int) - 1))).bind fun o=>some (.inr (a.1.set (i64.wrap ((a.2.2.1.length:Int) - 1)).toNat true,a.2.2.1.set (i64.wrap ((a.2.2.1.length:Int) - 1)).toNat (i64.wrap (b - 6)),a.2.2.2))))) (fun d=>some (.nxt (d.1,i64.wrap (a.2.1+1),d.2.1,d.2.2)))) else (some (.brk (a.1,a.2.1,a.2.2.1,a.2.2.2)))
def jj (b:List Int):Option (((List Int)×(List Yq1))×Bool):=
 (xR b).bind fun c=>if c then (aO (ay (ur b) aS ([false],0,[0],[])) (fun r=>some r) (fun a=>if decide ((a.2.2.1.length:Int)>5) then (some (([],[]),false)) else (some ((a.2.2.1,a.2.2.2),true)))) else (some (([],[]),false))
def nK (a:Int×Int×Int×Int):Option Bool:=
 if a.1==3 then ((dS a.2.1).bind fun b=>if b then (if a.2.2.1==0 then (some (a.2.2.2==0)) else (some false)) else (some false)) else (if a.1==7 then (if a.2.1==0 then ((a8 a.2.2.1 0 a.2.2.2).bind fun c=>if c then ((a8 a.2.2.2 1 3).bind fun d=>some d) else (some false)) else (some false)) else (Option.bind ((if a.1==1 then (some (a.1==1)) else (if a.1==2 then (some (a.1==2)) else (if a.1==4 then (some (a.1==4)) else (if a.1==5 then (some (a.1==5)) else (some (a.1==6))))):Option Bool)) (fun e=>if e then (some ((a.1==a.1)&&((a.2.1==0)&&((a.2.2.1==0)&&((a.2.2.2==0)&&true))))) else (some false))))
def nL (d:List Yq1) (a:(List (Tr Yq1))×Int):Option (Out (Tr Yq1) ((List (Tr Yq1))×Int)):=
 if decide (a.2<(d.length:Int)) then ((aL d a.2).bind fun b=>Option.bind ((Option.bind ((if b.1==4 then (some (b.1==4)) else (some (b.1==5)):Option Bool)) (fun e=>if e then (some 2) else (Option.bind ((if b.1==6 then (some (b.1==6)) else (some (b.1==7)):Option Bool)) (fun f=>if f then (some 1) else (some 0)))):Option Int)) (fun c=>(nK (b.1,b.2.1,b.2.2.1,b.2.2.2)).bind fun g=>if g then (if decide ((i64.wrap ((a.1.length:Int) - c))<0) then (some (.ret Tr.nil)) else ((chk (And (0<=(i64.wrap ((a.1.length:Int) - c))) ((i64.wrap ((a.1.length:Int) - c))<=(a.1.length:Int)))).bind fun _=>(cR 8 ([] :List (Tr Yq1)) (a.1.drop ((i64.wrap ((a.1.length:Int) - c)).toNat))).bind fun h=>(chk (And (0<=(i64.wrap ((a.1.length:Int) - c))) ((i64.wrap ((a.1.length:Int) - c))<=(a.1.length:Int)))).bind fun _=>(cR 8 (a.1.take ((i64.wrap ((a.1.length:Int) - c)).toNat)) ([Tr.node (b.1,b.2.1,b.2.2.1,b.2.2.2) h])).bind fun i=>some (.nxt (i,i64.wrap (a.2+1))))) else (some (.ret Tr.nil)))) else (some (.brk (a.1,a.2)))
def iN (b:List Yq1):Option (Tr Yq1):=
 aO (ay (nL b) aS (([] :List (Tr Yq1)),0)) (fun c=>some c) (fun a=>if (a.1.length:Int) !=1 then (some Tr.nil) else ((aL a.1 0).bind fun d=>some d))
def p7 (a:List Yq1):Option Bool:=
 (iN a).bind fun b=>some (cond.match_1 (fun (c:Bool)=>Bool) (Tr.isNil b) (fun (d:Unit)=>false) (fun (e:Unit)=>true))
def bO (a:(List Yq1)):Option Bool:=
 if decide ((a.length:Int)<=24) then ((p7 a).bind fun b=>some b) else (some false)
def mV (a:Int×Int×Int×Int) (b:Int):Option Bool:=
 (a8 a.1 1 99).bind fun c=>if c then ((a8 a.2.1 0 (i64.wrap (b - 1))).bind fun d=>if d then ((a8 a.2.2.1 0 (i64.wrap (b - 1))).bind fun e=>if e then ((a8 a.2.2.2 0 2).bind fun f=>some f) else (some false)) else (some false)) else (some false)
def dB (b:(List Int)×(List Yq1)) (a:Int):Option (Out Bool Int):=
 if decide (a<(b.1.length:Int)) then ((aL b.1 a).bind fun c=>(a8 c 0 2).bind fun d=>if d then (some (.nxt (i64.wrap (a+1)))) else (some (.ret false))) else (some (.brk a))
def cL (c:(List Int)×(List Yq1)) (a:Int):Option (Out Bool Int):=
 if decide (a<(c.2.length:Int)) then ((aL c.2 a).bind fun b=>(mV (b.1,b.2.1,b.2.2.1,b.2.2.2) (c.1.length:Int)).bind fun d=>if d then (if decide (a>0) then ((aL c.2 (i64.wrap (a - 1))).bind fun e=>if decide (e.1≥b.1) then (some (.ret false)) else (some (.nxt (i64.wrap (a+1))))) else (some (.nxt (i64.wrap (a+1))))) else (some (.ret false))) else (some (.brk a))
def aZ (a:(List Int)×(List Yq1)):Option Bool:=
 aO (ay (dB a) aS 0) (fun r=>some r) (fun c=>aO (ay (cL a) aS 0) (fun r=>some r) (fun d=>(a8 (a.1.length:Int) 1 5).bind fun b=>if b then (some (decide ((a.2.length:Int)<=12))) else (some false)))
def cg (b:Int) (a:Yq2×Int):Option Yq8:=
 if decide (a.2<b) then ((cR 16 a.1 ([(a.2,a.2)])).bind fun c=>some (.nxt (c,i64.wrap (a.2+1)))) else (some (.brk (a.1,a.2)))
def cy (a:Int):Option Yq2:=
 if decide (a>5) then (some ([])) else (aO (ay (cg a) aS (([] :List (Int×Int)),0)) (fun r=>some r) (fun b=>some b.1))
def pc (a:Int×Int×Int×Int) (b:Bool):Option Int:=
 if b then (some (i64.wrap ((i64.wrap (2*a.2.2.2))+1))) else (some (i64.wrap (2*a.2.2.2)))
def lJ (d:(List Int)×List Yq1) (b:Int×List (List MV)):Option (Out (List (List MV)) (Int×List (List MV))):=
 if decide (b.1<(d.2.length:Int)) then ((aL d.2 b.1).bind fun a=>(aL b.2 a.2.1).bind fun e=>(pc (a.1,a.2.1,a.2.2.1,a.2.2.2) false).bind fun f=>(cR 32 e ([((a.1,false),f,a.2.2.1)])).bind fun c=>(aL b.2 a.2.1).bind fun j=>(chk (a.2.1<((b.2.set a.2.1.toNat ([] :List MV)).length:Int))).bind fun _=>(chk (a.2.1=a.2.1)).bind fun _=>(aL (b.2.set a.2.1.toNat c) a.2.2.1).bind fun g=>(pc (a.1,a.2.1,a.2.2.1,a.2.2.2) true).bind fun h=>(cR 32 g ([((a.1,true),h,a.2.1)])).bind fun i=>(aL (b.2.set a.2.1.toNat c) a.2.2.1).bind fun k=>(chk (a.2.2.1<(((b.2.set a.2.1.toNat c).set a.2.2.1.toNat ([] :List MV)).length:Int))).bind fun _=>(chk (a.2.2.1=a.2.2.1)).bind fun _=>some (.nxt (i64.wrap (b.1+1),(b.2.set a.2.1.toNat c).set a.2.2.1.toNat i))) else (some (.brk (b.1,b.2)))
def uQ (a:(List Int)×List Yq1):Option (List (List MV)):=
 (mkI 24 (a.1.length:Int) ([] :List MV)).bind fun b=>aO (ay (lJ a) aS (0,b)) (fun c=>some c) (fun d=>some d.2)
def nM (a:(List Int)×(List Yq1)) (b:Int) (c:Int):Option Bool:=
 (aZ (a.1,a.2)).bind fun d=>if d then ((a8 b 0 (i64.wrap ((a.1.length:Int) - 1))).bind fun e=>if e then ((dS c).bind fun f=>if f then ((aL a.1 b).bind fun g=>some (c==(i64.wrap (6+g)))) else (some false)) else (some false)) else (some false)
def cM (a:List (Int×Int)) (b:Unit):Option Yq2:=R.MS R.F9 a
def jk (a:Int) (b:Int):Option Int:=
 if decide (a<b) then (some (-1)) else (if decide (a>b) then (some 1) else (some 0))
def fu (a:Int×Int) (b:Int×Int):Option Int:=
 if a.1 !=b.1 then ((jk a.1 b.1).bind fun c=>some c) else ((jk a.2 b.2).bind fun d=>some d)
def bC (c:List (Int×Int)) (b:Int) (a:Int×Int×List (Int×Int)):Option (Out Yq2 (Int×Int×List (Int×Int))):=
 if decide (a.2.1<((0+((c.length:Int) - 0)) - (0+b))) then (Option.bind (((chk (And (0<=a.2.1) (a.2.1<((0+((c.length:Int) - 0)) - (0+b))))).bind fun _=>(aL a.2.2 ((0+b)+a.2.1)).bind fun d=>(chk (And (0<=(i64.wrap (a.2.1 - 1))) ((i64.wrap (a.2.1 - 1))<((0+((c.length:Int) - 0)) - (0+b))))).bind fun _=>(aL a.2.2 ((0+b)+(i64.wrap (a.2.1 - 1)))).bind fun e=>if Bool.and.match_1 (fun (h:Bool)=>Bool) (d.1==e.1) (fun (i:Unit)=>false) (fun (j:Unit)=>Bool.and.match_1 (fun (k:Bool)=>Bool) (d.2==e.2) (fun (l:Unit)=>false) (fun (m:Unit)=>true)) then (some (a.1,a.2.2)) else ((chk (And (0<=a.2.1) (a.2.1<((0+((c.length:Int) - 0)) - (0+b))))).bind fun _=>(aL a.2.2 ((0+b)+a.2.1)).bind fun f=>(aL a.2.2 a.1).bind fun n=>some (i64.wrap (a.1+1),a.2.2.set a.1.toNat (f.1,f.2))):Option (Int×List (Int×Int)))) (fun g=>some (.nxt (g.1,i64.wrap (a.2.1+1),g.2)))) else (some (.brk (a.1,a.2.1,a.2.2)))
def bd (c:List (Int×Int)) (b:Int):Option (Out Yq2 Int):=
 if decide (b<(c.length:Int)) then ((aL c b).bind fun d=>(aL c (i64.wrap (b - 1))).bind fun e=>if Bool.and.match_1 (fun (g:Bool)=>Bool) (d.1==e.1) (fun (h:Unit)=>false) (fun (i:Unit)=>Bool.and.match_1 (fun (j:Bool)=>Bool) (d.2==e.2) (fun (k:Unit)=>false) (fun (l:Unit)=>true)) then ((chk (And (0<=b) (And (b<=((c.length:Int) - 0)) ((0+((c.length:Int) - 0))<=(c.length:Int))))).bind fun _=>aO (ay (bC c b) aS (b,1,c)) (fun f=>some (.ret f)) (fun a=>(chk (And (0<=a.1) (And (a.1<=((a.2.2.length:Int) - 0)) ((0+((a.2.2.length:Int) - 0))<=(a.2.2.length:Int))))).bind fun _=>(chk (And ((0+a.1)<=(0+((a.2.2.length:Int) - 0))) ((0+((a.2.2.length:Int) - 0))<=(a.2.2.length:Int)))).bind fun _=>(chk (And ((0:Int)<=0) (And (0<=a.1) ((0+a.1)<=((qH a.2.2 ((0+a.1).toNat) ((0+((a.2.2.length:Int) - 0)).toNat) (0,0)).length:Int))))).bind fun _=>some (.ret (((qH a.2.2 ((0+a.1).toNat) ((0+((a.2.2.length:Int) - 0)).toNat) (0,0)).take ((0+a.1).toNat)).drop 0)))) else (some (.nxt (i64.wrap (b+1))))) else (some (.brk b))
def bL (a:List (Int×Int)):Option Yq2:=
 if decide ((a.length:Int)<2) then (some a) else (aO (ay (bd a) aS 1) (fun b=>some b) (fun c=>some a))
def iH (a:List (Int×Int)):Option Yq2:=
 (cR 16 ([] :List (Int×Int)) a).bind fun b=>(cM b ()).bind fun c=>(bL c).bind fun d=>some d
def cY (d:Int) (e:Yq2×Int) (b:List MV) (a:Yq2×Int):Option Yq8:=
 if decide (a.2<(b.length:Int)) then (Option.bind (((aL b a.2).bind fun c=>if c.2.1==d then ((cR 16 a.1 ([(e.2,c.2.2)])).bind fun f=>some f) else (some a.1):Option Yq2)) (fun g=>some (.nxt (g,i64.wrap (a.2+1))))) else (some (.brk (a.1,a.2)))
def cZ (b:(List Int)×List Yq1) (c:Int) (d:List (List MV)) (a:Yq2×Int):Option Yq8:=
 if decide (a.2<(d.length:Int)) then (Option.bind (((aL d a.2).bind fun f=>aO (ay (cY c a f) aS (a.1,0)) (fun j=>none) (fun e=>(nM (b.1,b.2) a.2 c).bind fun g=>if g then ((cR 16 e.1 ([(a.2,a.2)])).bind fun h=>some h) else (some e.1)):Option Yq2)) (fun i=>some (.nxt (i,i64.wrap (a.2+1))))) else (some (.brk (a.1,a.2)))
def fJ (a:(List Int)×List Yq1) (b:Int):Option Yq2:=
 (aZ (a.1,a.2)).bind fun c=>if c then ((dS b).bind fun d=>if d then ((uQ (a.1,a.2)).bind fun e=>aO (ay (cZ a b e) aS (([] :List (Int×Int)),0)) (fun f=>some f) (fun g=>(iH g.1).bind fun h=>some h)) else (some ([] :List (Int×Int)))) else (some ([] :List (Int×Int)))
def cj (b:List (Int×Int)) (c:Int×Int) (a:Yq2×Int):Option Yq8:=
 if decide (a.2<(b.length:Int)) then (Option.bind (((aL b a.2).bind fun d=>if c.2==d.1 then ((cR 16 a.1 ([(c.1,d.2)])).bind fun e=>some e) else (some a.1):Option Yq2)) (fun f=>some (.nxt (f,i64.wrap (a.2+1))))) else (some (.brk (a.1,a.2)))
def cm (c:List (Int×Int)) (b:List (Int×Int)) (a:Yq2×Int):Option Yq8:=
 if decide (a.2<(b.length:Int)) then ((aL b a.2).bind fun d=>aO (ay (cj c d) aS (a.1,0)) (fun r=>some (.ret r)) (fun e=>some (.nxt (e.1,i64.wrap (a.2+1))))) else (some (.brk (a.1,a.2)))
def cz (a:List (Int×Int)) (b:List (Int×Int)):Option Yq2:=
 (iH a).bind fun c=>aO (ay (cm b c) aS (([] :List (Int×Int)),0)) (fun r=>some r) (fun d=>(iH d.1).bind fun e=>some e)
def fC (a:List (Int×Int)) (b:List (Int×Int)):Option Yq2:=
 (cR 16 ([] :List (Int×Int)) a).bind fun c=>(cR 16 c b).bind fun d=>(iH d).bind fun e=>some e
def fZ (c:List (Int×Int)) (a:Int):Option (Out Bool Int):=
 if decide (a<(c.length:Int)) then ((aL c a).bind fun b=>(a8 b.1 0 4).bind fun e=>if e then ((a8 b.2 0 4).bind fun f=>if f then (if decide (a>0) then ((aL c (i64.wrap (a - 1))).bind fun d=>(fu (d.1,d.2) (b.1,b.2)).bind fun g=>if decide (g≥0) then (some (.ret false)) else (some (.nxt (i64.wrap (a+1))))) else (some (.nxt (i64.wrap (a+1))))) else (some (.ret false))) else (some (.ret false))) else (some (.brk a))
def ga (a:List (Int×Int)):Option Bool:=
 aO (ay (fZ a) aS 0) (fun r=>some r) (fun b=>some true)
def dG (c:List (Int×Int)) (a:Yq2):Option (Out Yq2 Yq2):=
 (cz a c).bind fun d=>(fC a d).bind fun b=>if (b.length:Int)==(a.length:Int) then (some (.ret a)) else (some (.nxt b))
def fa (a:Int) (b:List (Int×Int)):Option Yq2:=
 (a8 a 1 5).bind fun c=>if c then ((ga b).bind fun d=>if d then ((cy a).bind fun e=>aO (ay (dG b) aS e) (fun r=>some r) (fun f=>none)) else (some ([]))) else (some ([]))
def cA (b:List (Int×Int)) (c:Int) (d:Int) (a:Yq2×Yq2×Int):Option (Out Yq2 (Yq2×Yq2×Int)):=
 if decide (a.2.2<=d) then (Option.bind ((if decide (a.2.2≥c) then ((fC a.1 a.2.1).bind fun e=>some e) else (some a.1):Option Yq2)) (fun f=>(cz a.2.1 b).bind fun g=>some (.nxt (f,g,i64.wrap (a.2.2+1))))) else (some (.brk (a.1,a.2.1,a.2.2)))
def gJ (a:Int) (b:List (Int×Int)) (c:Int) (d:Int):Option Yq2:=
 (a8 a 1 5).bind fun e=>if e then ((ga b).bind fun f=>if f then (if decide (c<0) then (some ([])) else ((a8 d 0 3).bind fun g=>if g then ((cy a).bind fun h=>aO (ay (cA b c d) aS (([] :List (Int×Int)),h,0)) (fun r=>some r) (fun i=>some i.1)) else (some ([])))) else (some ([]))) else (some ([]))
def aX:Nat->(Tr Yq1)->((List Int)×List Yq1)->Option Yq2 
 | 0,_,_=>none
 | n+1,p0,p1 =>
  (Tr.get p0).bind fun D=>(Tr.get p0).bind fun a=>if a.1.1==2 then ((cy (p1.1.length:Int)).bind fun b=>some b) else (if a.1.1==3 then ((Tr.get p0).bind fun E=>(Tr.get p0).bind fun c=>(fJ (p1.1,p1.2) c.1.2.1).bind fun d=>some d) else (if a.1.1==4 then ((Tr.get p0).bind fun F=>(Tr.get p0).bind fun e=>(aL e.2 0).bind fun f=>((aX n) f (p1.1,p1.2)).bind fun g=>(Tr.get p0).bind fun G=>(Tr.get p0).bind fun h=>(aL h.2 1).bind fun i=>((aX n) i (p1.1,p1.2)).bind fun j=>(cz g j).bind fun k=>some k) else (if a.1.1==5 then ((Tr.get p0).bind fun H=>(Tr.get p0).bind fun l=>(aL l.2 0).bind fun m=>((aX n) m (p1.1,p1.2)).bind fun o=>(Tr.get p0).bind fun I=>(Tr.get p0).bind fun p=>(aL p.2 1).bind fun q=>((aX n) q (p1.1,p1.2)).bind fun r=>(fC o r).bind fun s=>some s) else (if a.1.1==6 then ((Tr.get p0).bind fun J=>(Tr.get p0).bind fun t=>(aL t.2 0).bind fun u=>((aX n) u (p1.1,p1.2)).bind fun v=>(fa (p1.1.length:Int) v).bind fun w=>some w) else (if a.1.1==7 then ((Tr.get p0).bind fun K=>(Tr.get p0).bind fun x=>(aL x.2 0).bind fun y=>((aX n) y (p1.1,p1.2)).bind fun z=>(Tr.get p0).bind fun L=>(Tr.get p0).bind fun A=>(Tr.get p0).bind fun M=>(Tr.get p0).bind fun B=>(gJ (p1.1.length:Int) z A.1.2.2.1 B.1.2.2.2).bind fun C=>some C) else (some ([] :List (Int×Int))))))))
def kB (a:(List Int)×List Yq1) (b:List Yq1):Option (Yq2×Bool):=
 (aZ (a.1,a.2)).bind fun c=>if c then ((bO b).bind fun d=>if d then ((iN b).bind fun e=>(aX cF e (a.1,a.2)).bind fun f=>some (f,true)) else (some (([] :List (Int×Int)),false))) else (some (([] :List (Int×Int)),false))
def bG (b:List (Int×Int)) (c:Int×Int) (a:Int):Option (Out Int Int):=
 if decide (a<(b.length:Int)) then ((aL b a).bind fun d=>if ((c.1==d.1)&&((c.2==d.2)&&true)) then (some (.ret a)) else (some (.nxt (i64.wrap (a+1))))) else (some (.brk a))
def bW (a:List (Int×Int)) (b:Int×Int):Option Int:=
 aO (ay (bG a b) aS 0) (fun r=>some r) (fun c=>some (-1))
def bH (b:List (Int×Int)) (a:Int×Int):Option Bool:=
 (bW b (a.1,a.2)).bind fun c=>some (decide (c≥0))
def gb (c:(List Yq1)) (d:List Int):Option Bool:=
 (jj d).bind fun a=>if a.2 then ((kB (a.1.1,a.1.2) c).bind fun b=>if b.2 then ((bH b.1 (0,i64.wrap ((a.1.1.length:Int) - 1))).bind fun e=>some e) else (some false)) else (some false)
def eV (a:List Int):Option (List Int):=
 (cR 8 ([] :List Int) a).bind fun b=>some b
def ir (mrec:Int->Option (List (List Int))) (b:List Int) (a:(List (List Int))×Int):Option Yq9:=
 if decide (a.2<9) then ((eV b).bind fun c=>(cR 8 c ([a.2])).bind fun d=>(cR 24 a.1 ([d])).bind fun e=>some (.nxt (e,i64.wrap (a.2+1)))) else (some (.brk (a.1,a.2)))
def iu (mrec:Int->Option (List (List Int))) (b:List (List Int)) (a:(List (List Int))×Int):Option Yq9:=
 if decide (a.2<(b.length:Int)) then ((aL b a.2).bind fun c=>aO (ay (ir mrec c) aS (a.1,0)) (fun d=>some (.ret d)) (fun e=>some (.nxt (e.1,i64.wrap (a.2+1))))) else (some (.brk (a.1,a.2)))
def fb:Nat->Int->Option (List (List Int))
 | 0,_=>none
 | n+1,p0length =>
  if p0length==0 then (some ([([] :List Int)])) else (((fb n) (i64.wrap (p0length - 1))).bind fun a=>aO (ay (iu (fb n) a) aS (([] :List (List Int)),0)) (fun b=>some b) (fun c=>some c.1))
def nN (d:Int) (e:Bool) (f:List (List Bool)) (a:(List (List Bool))×Int):Option Yq5:=
 if decide (a.2<(f.length:Int)) then ((mkI 1 d (false:Bool)).bind fun b=>(aL a.1 a.2).bind fun g=>(aL (a.1.set a.2.toNat b) a.2).bind fun c=>(aL c a.2).bind fun h=>some (.nxt ((a.1.set a.2.toNat b).set a.2.toNat (c.set a.2.toNat e),i64.wrap (a.2+1)))) else (some (.brk (a.1,a.2)))
def jl (a:Int) (c:Bool):Option (List (List Bool)):=
 (mkI 24 a ([] :List Bool)).bind fun b=>aO (ay (nN a c b) aS (b,0)) (fun r=>some r) (fun d=>some d.1)
def gK (d:List (List Bool)) (b:Int×List (List Bool)) (e:Int×List (List Bool)) (f:List Bool) (a:Int×List (List Bool)):Option Yq6:=
 if decide (a.1<(f.length:Int)) then ((aL a.2 b.1).bind fun c=>(aL a.2 b.1).bind fun j=>(chk (b.1<((a.2.set b.1.toNat ([] :List Bool)).length:Int))).bind fun _=>(chk (b.1=b.1)).bind fun _=>(aL a.2 b.1).bind fun k=>(chk (b.1<((a.2.set b.1.toNat ([] :List Bool)).length:Int))).bind fun _=>(chk (b.1=b.1)).bind fun _=>(aL c a.1).bind fun g=>if g then ((aL c a.1).bind fun l=>some (.nxt (i64.wrap (a.1+1),a.2.set b.1.toNat (c.set a.1.toNat true)))) else ((aL d e.1).bind fun h=>(aL h a.1).bind fun i=>(aL c a.1).bind fun m=>some (.nxt (i64.wrap (a.1+1),a.2.set b.1.toNat (c.set a.1.toNat i))))) else (some (.brk (a.1,a.2)))
def kW (d:List (List Bool)) (b:List (List Bool)) (c:Int×List (List Bool)) (e:List Bool) (a:Int×List (List Bool)):Option Yq6:=
 if decide (a.1<(e.length:Int)) then (Option.bind (((aL d c.1).bind fun f=>(aL f a.1).bind fun g=>if g then ((aL b a.1).bind fun h=>aO (ay (gK b c a h) aS (0,a.2)) (fun k=>none) (fun i=>some i.2)) else (some a.2):Option (List (List Bool)))) (fun j=>some (.nxt (i64.wrap (a.1+1),j)))) else (some (.brk (a.1,a.2)))
def kX (b:List (List Bool)) (c:List (List Bool)) (a:Int×List (List Bool)):Option Yq6:=
 if decide (a.1<(b.length:Int)) then ((aL b a.1).bind fun d=>aO (ay (kW b c a d) aS (0,a.2)) (fun e=>some (.ret e)) (fun f=>some (.nxt (i64.wrap (a.1+1),f.2)))) else (some (.brk (a.1,a.2)))
def jL (a:List (List Bool)) (b:List (List Bool)):Option (List (List Bool)):=
 (jl (a.length:Int) false).bind fun c=>aO (ay (kX a b) aS (0,c)) (fun d=>some d) (fun e=>some e.2)
def kY (d:List (List Bool)) (e:List (List Bool)) (b:(List (List Bool))×Int) (f:List Bool) (a:(List (List Bool))×Int):Option Yq5:=
 if decide (a.2<(f.length:Int)) then ((aL a.1 b.2).bind fun c=>(aL d b.2).bind fun g=>(aL g a.2).bind fun h=>if h then ((aL c a.2).bind fun k=>some (.nxt (a.1.set b.2.toNat (c.set a.2.toNat true),i64.wrap (a.2+1)))) else ((aL e b.2).bind fun i=>(aL i a.2).bind fun j=>(aL c a.2).bind fun l=>some (.nxt (a.1.set b.2.toNat (c.set a.2.toNat j),i64.wrap (a.2+1))))) else (some (.brk (a.1,a.2)))
def kZ (b:List (List Bool)) (c:List (List Bool)) (a:(List (List Bool))×Int):Option Yq5:=
 if decide (a.2<(b.length:Int)) then ((aL b a.2).bind fun d=>aO (ay (kY b c a d) aS (a.1,0)) (fun r=>some (.ret r)) (fun e=>some (.nxt (e.1,i64.wrap (a.2+1))))) else (some (.brk (a.1,a.2)))
def jM (a:List (List Bool)) (b:List (List Bool)):Option (List (List Bool)):=
 (jl (a.length:Int) false).bind fun c=>aO (ay (kZ a b) aS (c,0)) (fun r=>some r) (fun d=>some d.1)
def eI (mrec:(Tr Yq1)->List Int->Option (List (List Bool))) (b:Tr Yq1) (c:List Int) (a:Int×List (List Bool)):Option Yq6:=
 if decide (a.1<(c.length:Int)) then ((aL c a.1).bind fun e=>(aL a.2 a.1).bind fun d=>(Tr.get b).bind fun g=>(Tr.get b).bind fun f=>(aL d (i64.wrap (a.1+1))).bind fun h=>some (.nxt (i64.wrap (a.1+1),a.2.set a.1.toNat (d.set ((i64.wrap (a.1+1)).toNat) (e==f.1.2.1))))) else (some (.brk (a.1,a.2)))
def eJ (mrec:(Tr Yq1)->List Int->Option (List (List Bool))) (b:List Int) (c:List (List Bool)) (a:(List (List Bool))×Int):Option Yq5:=
 if decide (a.2<(i64.wrap ((b.length:Int)+1))) then ((jL a.1 c).bind fun d=>(jM a.1 d).bind fun e=>some (.nxt (e,i64.wrap (a.2+1)))) else (some (.brk (a.1,a.2)))
def eK (mrec:(Tr Yq1)->List Int->Option (List (List Bool))) (b:Tr Yq1) (c:List (List Bool)) (a:(List (List Bool))×(List (List Bool))×Int):Option (Out (List (List Bool)) ((List (List Bool))×(List (List Bool))×Int)):=
 (Tr.get b).bind fun i=>(Tr.get b).bind fun d=>if decide (a.2.2<=d.1.2.2.2) then ((Tr.get b).bind fun j=>(Tr.get b).bind fun e=>Option.bind ((if decide (a.2.2≥e.1.2.2.1) then ((jM a.1 a.2.1).bind fun f=>some f) else (some a.1):Option (List (List Bool)))) (fun g=>(jL a.2.1 c).bind fun h=>some (.nxt (g,h,i64.wrap (a.2.2+1))))) else (some (.brk (a.1,a.2.1,a.2.2)))
def aV:Nat->(Tr Yq1)->List Int->Option (List (List Bool))
 | 0,_,_=>none
 | n+1,p0,p1 =>
  (jl (i64.wrap ((p1.length:Int)+1)) false).bind fun b=>(Tr.get p0).bind fun E=>(Tr.get p0).bind fun a=>Option.bind ((if a.1.1==2 then ((jl (i64.wrap ((p1.length:Int)+1)) true).bind fun c=>some c) else (if a.1.1==3 then (aO (ay (eI (aV n) p0 p1) aS (0,b)) (fun F=>none) (fun d=>some d.2)) else (if a.1.1==4 then ((Tr.get p0).bind fun G=>(Tr.get p0).bind fun e=>(aL e.2 0).bind fun f=>((aV n) f p1).bind fun g=>(Tr.get p0).bind fun H=>(Tr.get p0).bind fun h=>(aL h.2 1).bind fun i=>((aV n) i p1).bind fun j=>(jL g j).bind fun k=>some k) else (if a.1.1==5 then ((Tr.get p0).bind fun I=>(Tr.get p0).bind fun l=>(aL l.2 0).bind fun m=>((aV n) m p1).bind fun o=>(Tr.get p0).bind fun J=>(Tr.get p0).bind fun p=>(aL p.2 1).bind fun q=>((aV n) q p1).bind fun r=>(jM o r).bind fun s=>some s) else (if a.1.1==6 then ((jl (i64.wrap ((p1.length:Int)+1)) true).bind fun t=>(Tr.get p0).bind fun K=>(Tr.get p0).bind fun u=>(aL u.2 0).bind fun v=>((aV n) v p1).bind fun w=>aO (ay (eJ (aV n) p1 w) aS (t,0)) (fun L=>none) (fun x=>some x.1)) else (if a.1.1==7 then ((Tr.get p0).bind fun M=>(Tr.get p0).bind fun y=>(aL y.2 0).bind fun z=>((aV n) z p1).bind fun A=>(jl (i64.wrap ((p1.length:Int)+1)) true).bind fun B=>aO (ay (eK (aV n) p0 A) aS (b,B,0)) (fun N=>none) (fun C=>some C.1)) else (some b)))))):Option (List (List Bool)))) (fun D=>some D)
def dM (b:Tr Yq1) (a:List Int):Option Bool:=
 (aV cF b a).bind fun c=>(aL c 0).bind fun d=>(aL d (a.length:Int)).bind fun e=>some e
def fv (d:Tr Yq1) (b:List (List Int)) (a:(List (List Int))×Int):Option Yq9:=
 if decide (a.2<(b.length:Int)) then (Option.bind (((aL b a.2).bind fun c=>(dM d c).bind fun e=>if e then ((cR 24 a.1 ([c])).bind fun f=>some f) else (some a.1):Option (List (List Int)))) (fun g=>some (.nxt (g,i64.wrap (a.2+1))))) else (some (.brk (a.1,a.2)))
def fw (b:Int) (c:Tr Yq1) (a:(List (List Int))×Int):Option Yq9:=
 if decide (a.2<=b) then ((fb cF a.2).bind fun d=>aO (ay (fv c d) aS (a.1,0)) (fun e=>some (.ret e)) (fun f=>some (.nxt (f.1,i64.wrap (a.2+1))))) else (some (.brk (a.1,a.2)))
def jm (a:List Yq1) (b:Int):Option (List (List Int)):=
 (bO a).bind fun c=>if c then ((a8 b 0 3).bind fun d=>if d then ((iN a).bind fun e=>aO (ay (fw b e) aS (([] :List (List Int)),0)) (fun f=>some f) (fun g=>some g.1)) else (some ([] :List (List Int)))) else (some ([] :List (List Int)))
def cN (d:List Yq1) (c:List (List Int)) (a:Int):Option (Out ((List Int)×Bool) Int):=
 if decide (a<(c.length:Int)) then ((aL c a).bind fun b=>(jj b).bind fun e=>if e.2 then ((gb d b).bind fun f=>if f then (some (.nxt (i64.wrap (a+1)))) else (some (.ret (b,true)))) else (some (.nxt (i64.wrap (a+1))))) else (some (.brk a))
def dN (b:List Yq1) (a:List Yq1) (c:Int):Option ((List Int)×Bool):=
 (bO a).bind fun d=>if d then ((jm b c).bind fun e=>aO (ay (cN a e) aS 0) (fun f=>some f) (fun g=>some (([] :List Int),false))) else (some (([] :List Int),false))
def cO (mrec:(Tr Yq1)->Option Int) (b:Tr Yq1) (c:Yq1×List (Tr Yq1)) (a:Int×Int):Option (Out Int (Int×Int)):=
 if decide (a.2<(c.2.length:Int)) then (Option.bind (((aL c.2 a.2).bind fun d=>(Tr.get b).bind fun j=>(Tr.get b).bind fun e=>if e.1.1==7 then ((mrec d).bind fun f=>(Tr.get b).bind fun k=>(Tr.get b).bind fun g=>some (i64.wrap (a.1+(i64.wrap ((i64.wrap (f+3))*g.1.2.2.2))))) else ((mrec d).bind fun h=>some (i64.wrap (a.1+h))):Option Int)) (fun i=>some (.nxt (i,i64.wrap (a.2+1))))) else (some (.brk (a.1,a.2)))
def bP:Nat->(Tr Yq1)->Option Int
 | 0,_=>none
 | n+1,p0x =>
  (Tr.get p0x).bind fun d=>(Tr.get p0x).bind fun a=>aO (ay (cO (bP n) p0x a) aS (1,0)) (fun b=>some b) (fun c=>some (Min.min c.1 100000))
def zA (a:Int):Option (Tr Yq1):=
 some (Tr.node (a,0,0,0) ([] :List (Tr Yq1)))
def kj:Nat->(Tr Yq1)->Int->Int->Option (Tr Yq1)
 | 0,_,_,_=>none
 | n+1,p0x,p1low,p2high =>
  if p2high==0 then ((zA 2).bind fun b=>some b) else (((kj n) p0x (Max.max 0 (i64.wrap (p1low - 1))) (i64.wrap (p2high - 1))).bind fun a=>if decide (p1low>0) then (some (Tr.node (4,0,0,0) ([p0x,a]))) else ((zA 2).bind fun c=>some (Tr.node (5,0,0,0) ([Tr.node (4,0,0,0) ([p0x,a]),c]))))
def dh (mrec:(Tr Yq1)->Option (Tr Yq1)) (b:Yq1×List (Tr Yq1)) (a:Int×Int×Int×Int×Int×List (Tr Yq1)):Option (Out (Tr Yq1) (Int×Int×Int×Int×Int×List (Tr Yq1))):=
 if decide (a.1<(b.2.length:Int)) then ((aL b.2 a.1).bind fun c=>(mrec c).bind fun d=>(cR 8 a.2.2.2.2.2 ([d])).bind fun e=>some (.nxt (i64.wrap (a.1+1),a.2.1,a.2.2.1,a.2.2.2.1,a.2.2.2.2.1,e))) else (some (.brk (a.1,a.2.1,a.2.2.1,a.2.2.2.1,a.2.2.2.2.1,a.2.2.2.2.2)))
def bD:Nat->(Tr Yq1)->Option (Tr Yq1)
 | 0,_=>none
 | n+1,p0x =>
  (Tr.get p0x).bind fun l=>(Tr.get p0x).bind fun c=>if c.1.1==7 then ((Tr.get p0x).bind fun m=>(Tr.get p0x).bind fun d=>(aL d.2 0).bind fun e=>((bD n) e).bind fun f=>(Tr.get p0x).bind fun o=>(Tr.get p0x).bind fun g=>(Tr.get p0x).bind fun p=>(Tr.get p0x).bind fun h=>(kj cF f g.1.2.2.1 h.1.2.2.2).bind fun i=>some i) else ((Tr.get p0x).bind fun q=>(Tr.get p0x).bind fun b=>(Tr.get p0x).bind fun r=>(Tr.get p0x).bind fun j=>aO (ay (dh (bD n) j) aS (0,b.1.1,b.1.2.1,b.1.2.2.1,b.1.2.2.2,([] :List (Tr Yq1)))) (fun k=>some k) (fun a=>some (Tr.node (a.2.1,a.2.2.1,a.2.2.2.1,a.2.2.2.2.1) a.2.2.2.2.2)))
def bS (mrec:(Tr Yq1)->(List Yq1)->Option (List Yq1)) (b:Yq1×List (Tr Yq1)) (a:Int×List Yq1):Option (Out (List Yq1) (Int×List Yq1)):=
 if decide (a.1<(b.2.length:Int)) then ((aL b.2 a.1).bind fun c=>(mrec c a.2).bind fun d=>some (.nxt (i64.wrap (a.1+1),d))) else (some (.brk (a.1,a.2)))
def bt:Nat->(Tr Yq1)->(List Yq1)->Option (List Yq1)
 | 0,_,_=>none
 | n+1,p0x,p1out =>
  (Tr.get p0x).bind fun f=>(Tr.get p0x).bind fun b=>aO (ay (bS (bt n) b) aS (0,p1out)) (fun c=>some c) (fun d=>(Tr.get p0x).bind fun g=>(Tr.get p0x).bind fun a=>(cR 32 d.2 ([(a.1.1,a.1.2.1,a.1.2.2.1,a.1.2.2.2)])).bind fun e=>some e)
def nO (a:Tr Yq1):Option (List Yq1):=
 (bt cF a ([] :List Yq1)).bind fun b=>some b
def jZ (a:List Yq1):Option ((List Yq1)×Bool):=
 (bO a).bind fun d=>if d then ((iN a).bind fun b=>(bP cF b).bind fun e=>if decide (e>5000) then (some (([] :List Yq1),false)) else ((bD cF b).bind fun f=>(nO f).bind fun c=>if decide ((c.length:Int)>400) then (some (([] :List Yq1),false)) else (some (c,true)))) else (some (([] :List Yq1),false))
def cq (b:(List Int)×Int×Int×(List Int)×Bool) (c:Int) (d:Int) (a:Int×List Int):Option (Out Yq4 (Int×List Int)):=
 if decide (a.1<(b.2.2.2.1.length:Int)) then (Option.bind (((chk (0<=a.1)).bind fun _=>if (sD (oN c a.1) 1)==1 then ((aL a.2 a.1).bind fun e=>(aL a.2 a.1).bind fun g=>some (a.2.set a.1.toNat (orI e d))) else (some a.2):Option (List Int))) (fun f=>some (.nxt (i64.wrap (a.1+1),f)))) else (some (.brk (a.1,a.2)))
def dm (a:(List Int)×Int×Int×(List Int)×Bool) (b:Int) (c:Int):Option Yq4:=
 aO (ay (cq a b c) aS (0,a.2.2.2.1)) (fun d=>some d) (fun e=>some (a.1,a.2.1,a.2.2.1,e.2,a.2.2.2.2))
def a6:Nat->Yq4->(Tr Yq1)->Option ((Int×Int×Bool)×(List Int)×Int×Int×(List Int)×Bool)
 | 0,_,_=>none
 | n+1,p0,p1 =>
  (Tr.get p1).bind fun A=>(Tr.get p1).bind fun i=>if i.1.1==2 then (some ((0,0,true),p0.1,p0.2.1,p0.2.2.1,p0.2.2.2.1,p0.2.2.2.2)) else (if i.1.1==3 then ((Tr.get p1).bind fun B=>(Tr.get p1).bind fun m=>(cR 8 p0.1 ([m.1.2.1])).bind fun o=>(cR 8 p0.2.2.2.1 ([0])).bind fun p=>some ((Aj 1 (p0.1.length:Int),Aj 1 (p0.1.length:Int),false),o,p0.2.1,p0.2.2.1,p,p0.2.2.2.2)) else (if i.1.1==5 then ((Tr.get p1).bind fun C=>(Tr.get p1).bind fun q=>(aL q.2 0).bind fun r=>((a6 n) (p0.1,p0.2.1,p0.2.2.1,p0.2.2.2.1,p0.2.2.2.2) r).bind fun f=>(Tr.get p1).bind fun D=>(Tr.get p1).bind fun s=>(aL s.2 1).bind fun t=>((a6 n) f.2 t).bind fun b=>if f.1.2.2 then (some ((orI f.1.1 b.1.1,orI f.1.2.1 b.1.2.1,true),b.2.1,b.2.2.1,b.2.2.2.1,b.2.2.2.2.1,b.2.2.2.2.2)) else (some ((orI f.1.1 b.1.1,orI f.1.2.1 b.1.2.1,b.1.2.2),b.2.1,b.2.2.1,b.2.2.2.1,b.2.2.2.2.1,b.2.2.2.2.2))) else (if i.1.1==4 then ((Tr.get p1).bind fun E=>(Tr.get p1).bind fun u=>(aL u.2 0).bind fun v=>((a6 n) (p0.1,p0.2.1,p0.2.2.1,p0.2.2.2.1,p0.2.2.2.2) v).bind fun c=>(Tr.get p1).bind fun F=>(Tr.get p1).bind fun w=>(aL w.2 1).bind fun x=>((a6 n) c.2 x).bind fun a=>(dm (a.2.1,a.2.2.1,a.2.2.2.1,a.2.2.2.2.1,a.2.2.2.2.2) c.1.2.1 a.1.1).bind fun d=>if c.1.2.2 then (Option.bind ((if c.1.2.2 then (some (orI c.1.1 a.1.1,a.1.2.1,a.1.2.2)) else (some (c.1.1,a.1.2.1,a.1.2.2)):Option (Int×Int×Bool))) (fun g=>Option.bind ((if a.1.2.2 then (some (g.1,orI g.2.1 c.1.2.1,g.2.2)) else (some (g.1,g.2.1,g.2.2)):Option (Int×Int×Bool))) (fun k=>some ((k.1,k.2.1,k.2.2),d.1,d.2.1,d.2.2.1,d.2.2.2.1,d.2.2.2.2)))) else (Option.bind ((if c.1.2.2 then (some (orI c.1.1 a.1.1,a.1.2.1,false)) else (some (c.1.1,a.1.2.1,false)):Option (Int×Int×Bool))) (fun h=>Option.bind ((if a.1.2.2 then (some (h.1,orI h.2.1 c.1.2.1,h.2.2)) else (some (h.1,h.2.1,h.2.2)):Option (Int×Int×Bool))) (fun l=>some ((l.1,l.2.1,l.2.2),d.1,d.2.1,d.2.2.1,d.2.2.2.1,d.2.2.2.2))))) else (if i.1.1==6 then ((Tr.get p1).bind fun G=>(Tr.get p1).bind fun y=>(aL y.2 0).bind fun z=>((a6 n) (p0.1,p0.2.1,p0.2.2.1,p0.2.2.2.1,p0.2.2.2.2) z).bind fun e=>(dm (e.2.1,e.2.2.1,e.2.2.2.1,e.2.2.2.2.1,e.2.2.2.2.2) e.1.2.1 e.1.1).bind fun j=>some ((e.1.1,e.1.2.1,true),j.1,j.2.1,j.2.2.1,j.2.2.2.1,j.2.2.2.2)) else (some ((0,0,false),p0.1,p0.2.1,p0.2.2.1,p0.2.2.2.1,p0.2.2.2.2))))))
def c7 (b:(List Yq1)×Bool) (a:Int×Int):Option (Out (Yq4×Bool) (Int×Int)):=
 if decide (a.2<(b.1.length:Int)) then (Option.bind (((aL b.1 a.2).bind fun c=>if c.1==3 then (some (i64.wrap (a.1+1))) else (some a.1):Option Int)) (fun d=>some (.nxt (d,i64.wrap (a.2+1))))) else (some (.brk (a.1,a.2)))
def fK (c:List Yq1):Option (Yq4×Bool):=
 (jZ c).bind fun b=>if b.2 then (aO (ay (c7 b) aS (0,0)) (fun d=>some d) (fun e=>if decide (e.1>20) then (some ((([] :List Int),0,0,([] :List Int),false),false)) else ((iN b.1).bind fun f=>(a6 cF (([] :List Int),0,0,([] :List Int),false) f).bind fun a=>some ((a.2.1,a.1.1,a.1.2.1,a.2.2.2.2.1,a.1.2.2),true)))) else (some ((([] :List Int),0,0,([] :List Int),false),false))
def dC (e:Int->Int->Option (Int×Bool)) (f:(List Int)×Yq2×Int×Int×(List Bool)×(List (List Int))) (a:(List Int)×Yq2×(List Int)×Int):Option (Out (Yq3×Bool) ((List Int)×Yq2×(List Int)×Int)):=
 if decide (a.2.2.2<9) then (Option.bind (((aL a.1 f.2.2.1).bind fun g=>(e g a.2.2.2).bind fun b=>if b.2 then ((chk (iOk b.1=true)).bind fun _=>Option.bind ((if (lkM a.2.1 b.1).isSome then (some (a.1,a.2.1,(lkM a.2.1 b.1).getD 0)) else ((BX a.2.1 iOk iOk b.1 (a.1.length:Int)).bind fun m37=>(cR 8 a.1 ([b.1])).bind fun h=>some (h,m37,(a.1.length:Int))):Option ((List Int)×Yq2×Int))) (fun c=>(cR 8 a.2.2.1 ([c.2.2])).bind fun i=>some (c.1,c.2.1,i))) else ((cR 8 a.2.2.1 ([-1])).bind fun j=>some (a.1,a.2.1,j)):Option ((List Int)×Yq2×(List Int)))) (fun d=>some (.nxt (d.1,d.2.1,d.2.2,i64.wrap (a.2.2.2+1))))) else (some (.brk (a.1,a.2.1,a.2.2.1,a.2.2.2)))
def bE (c:Int) (d:Int->Option Bool) (e:Int->Int->Option (Int×Bool)) (a:(List Int)×Yq2×Int×Int×(List Bool)×(List (List Int))):Option (Out (Yq3×Bool) ((List Int)×Yq2×Int×Int×(List Bool)×(List (List Int)))):=
 if decide (a.2.2.1<(a.1.length:Int)) then (aO (ay (dC e a) aS (a.1,a.2.1,([] :List Int),0)) (fun r=>some (.ret r)) (fun b=>if decide ((b.1.length:Int)>c) then (some (.ret ((0,[],[]),false))) else ((aL b.1 a.2.2.1).bind fun f=>(d f).bind fun g=>(cR 1 a.2.2.2.2.1 ([g])).bind fun h=>(cR 24 a.2.2.2.2.2 ([b.2.2.1])).bind fun i=>some (.nxt (b.1,b.2.1,i64.wrap (a.2.2.1+1),a.2.2.2.1,h,i))))) else (some (.brk (a.1,a.2.1,a.2.2.1,a.2.2.2.1,a.2.2.2.2.1,a.2.2.2.2.2)))
def dO (b:Int) (c:Int) (d:Int->Option Bool) (e:Int->Int->Option (Int×Bool)):Option (Yq3×Bool):=
 (BX ([] :List (Int×Int)) iOk iOk b 0).bind fun m1=>aO (ay (bE c d e) aS ([b],m1,0,0,[],[])) (fun r=>some r) (fun a=>some ((a.2.2.2.1,a.2.2.2.2.1,a.2.2.2.2.2),true))
def c9 (a:(List Int)×Int×Int×(List Int)×Bool) (b:Int):Option Bool:=
 if (sD b 1)==1 then (if a.2.2.2.2 then (some true) else (some ((sD (oN b 1) a.2.2.1) !=0))) else (some ((sD (oN b 1) a.2.2.1) !=0))
def cH (b:(List Int)×Int×Int×(List Int)×Bool) (c:Int) (a:Int×Int):Option (Out Int (Int×Int)):=
 if decide (a.2<(b.2.2.2.1.length:Int)) then (Option.bind (((aL b.2.2.2.1 a.2).bind fun d=>(chk (0<=i64.wrap (a.2+1))).bind fun _=>if (sD (oN c (i64.wrap (a.2+1))) 1)==1 then (some (orI a.1 d)) else (some a.1):Option Int)) (fun e=>some (.nxt (e,i64.wrap (a.2+1))))) else (some (.brk (a.1,a.2)))
def cJ (b:(List Int)×Int×Int×(List Int)×Bool) (c:Int) (d:Int×Int) (a:Int×Int):Option (Out Int (Int×Int)):=
 if decide (a.2<(b.1.length:Int)) then (Option.bind (((aL b.1 a.2).bind fun e=>if e==c then ((chk (0<=a.2)).bind fun _=>if (sD (oN d.1 a.2) 1)==1 then ((chk (0<=i64.wrap (a.2+1))).bind fun _=>some (orI a.1 (Aj 1 (i64.wrap (a.2+1))))) else (some a.1)) else (some a.1):Option Int)) (fun f=>some (.nxt (f,i64.wrap (a.2+1))))) else (some (.brk (a.1,a.2)))
def fc (a:(List Int)×Int×Int×(List Int)×Bool) (b:Int) (c:Int):Option Int:=
 Option.bind ((if (sD b 1)==1 then (some a.2.1) else (some 0):Option Int)) (fun d=>aO (ay (cH a b) aS (d,0)) (fun r=>some r) (fun e=>aO (ay (cJ a c e) aS (0,0)) (fun r=>some r) (fun f=>some f.1)))
def cP (b:Int) (c:Int) (q0:(List Int)×Int×Int×(List Int)×Bool):Option (Int×Bool):=
 (fc (q0.1,q0.2.1,q0.2.2.1,q0.2.2.2.1,q0.2.2.2.2) b c).bind fun a=>some (a,a !=0)
def gf (a:(List Int)×Int×Int×(List Int)×Bool) (c:Int):Option (Yq3×Bool):=
 (dO 1 c (fun a0=>c9 (a.1,a.2.1,a.2.2.1,a.2.2.2.1,a.2.2.2.2) a0) (fun a0 a1=>cP a0 a1 (a.1,a.2.1,a.2.2.1,a.2.2.2.1,a.2.2.2.2))).bind fun b=>some ((b.1.1,b.1.2.1,b.1.2.2),b.2)
def da (b:Bool×Int×List Bool) (c:List Int) (a:Bool×Int×List Bool):Option (Out (List Bool) (Bool×Int×List Bool)):=
 if decide (a.2.1<(c.length:Int)) then (Option.bind (((aL c a.2.1).bind fun d=>if decide (d≥0) then ((aL a.2.2 d).bind fun f=>if f then ((aL a.2.2 b.2.1).bind fun g=>if g then (some (a.1,a.2.2)) else ((aL a.2.2 b.2.1).bind fun h=>some (true,a.2.2.set b.2.1.toNat true))) else (some (a.1,a.2.2))) else (some (a.1,a.2.2)):Option (Bool×List Bool))) (fun e=>some (.nxt (e.1,i64.wrap (a.2.1+1),e.2)))) else (some (.brk (a.1,a.2.1,a.2.2)))
def db (b:Int×(List Bool)×List (List Int)) (a:Bool×Int×List Bool):Option (Out (List Bool) (Bool×Int×List Bool)):=
 if decide (a.2.1<(b.2.2.length:Int)) then ((aL b.2.2 a.2.1).bind fun d=>aO (ay (da a d) aS (a.1,0,a.2.2)) (fun e=>some (.ret e)) (fun c=>some (.nxt (c.1,i64.wrap (a.2.1+1),c.2.2)))) else (some (.brk (a.1,a.2.1,a.2.2)))
def gg (c:Int×(List Bool)×List (List Int)) (a:Bool×List Bool):Option (Out (List Bool) (Bool×List Bool)):=
 if a.1 then (aO (ay (db c) aS (false,0,a.2)) (fun d=>some (.ret d)) (fun b=>some (.nxt (b.1,b.2.2)))) else (some (.brk (a.1,a.2)))
def dU (a:Int×(List Bool)×List (List Int)):Option (List Bool):=
 (cR 1 ([] :List Bool) a.2.1).bind fun b=>aO (ay (gg a) aS (true,b)) (fun c=>some c) (fun d=>some d.2)
def bK (b:List (List Int)) (c:(List Int)->Option Bool) (a:Int):Option (Out Int Int):=
 if decide (a<(b.length:Int)) then ((aL b a).bind fun d=>(c d).bind fun e=>if e then (some (.ret a)) else (some (.nxt (i64.wrap (a+1))))) else (some (.brk a))
def bw (a:List (List Int)) (b:(List Int)->Option Bool):Option Int:=
 aO (ay (bK a b) aS 0) (fun r=>some r) (fun c=>some (-1))
def bR (b:List Int) (c:List Int) (a:Int):Option (Out Bool Int):=
 if decide (a<(b.length:Int)) then ((aL b a).bind fun d=>(aL c a).bind fun e=>if d !=e then (some (.ret false)) else (some (.nxt (i64.wrap (a+1))))) else (some (.brk a))
def dI (a:List Int) (b:List Int):Option Bool:=
 if (a.length:Int) !=(b.length:Int) then (some false) else (aO (ay (bR a b) aS 0) (fun r=>some r) (fun c=>some true))
def fE (a:List Int) (q0:List Int):Option Bool:=
 (dI a q0).bind fun b=>some b
def cr (d:List Int) (c:List Int) (a:Int×(List Int)):Option (Out ((List Int)×Int) (Int×(List Int))):=
 if decide (a.1<(c.length:Int)) then ((aL c a.1).bind fun b=>Option.bind ((if decide (b≥0) then ((aL d b).bind fun e=>some e) else (some b):Option Int)) (fun f=>(cR 8 a.2 ([f])).bind fun g=>some (.nxt (i64.wrap (a.1+1),g)))) else (some (.brk (a.1,a.2)))
def dt (h:Int×(List Bool)×(List (List Int))) (b:List Int) (a:(List (List Int))×(List Int)×Int):Option (Out ((List Int)×Int) ((List (List Int))×(List Int)×Int)):=
 if decide (a.2.2<(b.length:Int)) then (Option.bind (((aL b a.2.2).bind fun c=>if decide (c<0) then ((cR 8 a.2.1 ([-1])).bind fun i=>some (a.1,i)) else ((aL h.2.2 a.2.2).bind fun j=>aO (ay (cr b j) aS (0,[c])) (fun _=>none) (fun d=>(bw a.1 (fun a0=>fE a0 d.2)).bind fun e=>Option.bind ((if decide (e<0) then ((cR 24 a.1 ([d.2])).bind fun k=>some (k,(a.1.length:Int))) else (some (a.1,e)):Option ((List (List Int))×Int))) (fun f=>(cR 8 a.2.1 ([f.2])).bind fun l=>some (f.1,l)))):Option ((List (List Int))×(List Int)))) (fun g=>some (.nxt (g.1,g.2,i64.wrap (a.2.2+1))))) else (some (.brk (a.1,a.2.1,a.2.2)))
def dn (b:Int×(List Bool)×(List (List Int))) (c:List Int):Option ((List Int)×Int):=
 aO (ay (dt b c) aS (([] :List (List Int)),([] :List Int),0)) (fun r=>some r) (fun a=>some (a.2.1,(a.1.length:Int)))
def bT (c:Int×(List Bool)×(List (List Int))) (b:List Bool) (a:(List Int)×Int):Option (Out (List Int) ((List Int)×Int)):=
 if decide (a.2<(b.length:Int)) then (Option.bind (((aL b a.2).bind fun d=>if d then ((aL c.2.1 a.2).bind fun e=>if e then ((cR 8 a.1 ([1])).bind fun f=>some f) else ((cR 8 a.1 ([0])).bind fun g=>some g)) else ((cR 8 a.1 ([-1])).bind fun h=>some h):Option (List Int))) (fun i=>some (.nxt (i,i64.wrap (a.2+1))))) else (some (.brk (a.1,a.2)))
def eL (b:Int×(List Bool)×(List (List Int))) (c:(List Int)×Int):Option (Out (List Int) ((List Int)×Int)):=
 (dn (b.1,b.2.1,b.2.2) c.1).bind fun a=>if a.2==c.2 then (some (.ret a.1)) else (some (.nxt (a.1,a.2)))
def de (a:Int×(List Bool)×(List (List Int))):Option (List Int):=
 (dU (a.1,a.2.1,a.2.2)).bind fun b=>aO (ay (bT a b) aS (([] :List Int),0)) (fun r=>some r) (fun c=>aO (ay (eL a) aS (c.1,-1)) (fun r=>some r) (fun d=>none))
def qK (a:Int) (b:Int):Option (Int×Int):=
 some (IntKind.u32.wrap (oN (IntKind.u64.wrap ((IntKind.u64.wrap a)*(IntKind.u64.wrap b))) 32),IntKind.u32.wrap (IntKind.u64.wrap ((IntKind.u64.wrap a)*(IntKind.u64.wrap b))))
def lK (a:Int) (b:Int):Option (Int×Int):=
 some (IntKind.u64.wrap ((IntKind.u64.wrap ((IntKind.u64.wrap ((oN a 32)*(oN b 32)))+(oN (IntKind.u64.wrap ((IntKind.u64.wrap ((oN a 32)*(KE b 4294967295)))+(oN (IntKind.u64.wrap ((KE a 4294967295)*(KE b 4294967295))) 32))) 32)))+(oN (IntKind.u64.wrap ((KE (IntKind.u64.wrap ((IntKind.u64.wrap ((oN a 32)*(KE b 4294967295)))+(oN (IntKind.u64.wrap ((KE a 4294967295)*(KE b 4294967295))) 32))) 4294967295)+(IntKind.u64.wrap ((KE a 4294967295)*(oN b 32))))) 32)),IntKind.u64.wrap (a*b))
def mW (b:Int) (c:Int):Option (Int×Int):=
 (lK b c).bind fun a=>some (a.1,a.2)
def kl (a:Int×List Int):Option (Out (List Int) (Int×List Int)):=
 if decide (a.1<(a.2.length:Int)) then ((chk (And (0<=a.1) (a.1<=(a.2.length:Int)))).bind fun _=>(chk (And (0<=a.1) (a.1<=(a.2.length:Int)))).bind fun _=>(chk (And (0<=a.1) (a.1<=(a.2.length:Int)))).bind fun _=>(chk (And (0<=a.1) (a.1<=(a.2.length:Int)))).bind fun _=>some (.nxt (i64.wrap (a.1+((Min.min ((a.2.take a.1.toNat).length) (a.2.length - a.1.toNat):Nat):Int)),Af a.2 a.1.toNat (a.2.take a.1.toNat)))) else (some (.brk (a.1,a.2)))
def gi (a:List Int) (c:Int):Option (List Int):=
 if decide (c<0) then (none) else ((mW (IntKind.u64.wrap (a.length:Int)) (IntKind.u64.wrap c)).bind fun b=>if decide (b.1>0) then (none) else (if decide (b.2>9223372036854775807) then (none) else ((mkI 8 (i64.wrap b.2) 0).bind fun d=>aO (ay (kl) aS (((Min.min a.length (d.length - 0):Nat):Int),Af d 0 a)) (fun e=>some e) (fun f=>some f.2))))
def qL:Option Yq3:=
 (gi ([-1]) 9).bind fun a=>some (0,[false],[a])
def dj (b:List Int) (c:Int) (a:Int):Option (Out Int Int):=
 if decide (a<(b.length:Int)) then ((aL b a).bind fun d=>if c==d then (some (.ret a)) else (some (.nxt (i64.wrap (a+1))))) else (some (.brk a))
def dJ (a:List Int) (b:Int):Option Int:=
 aO (ay (dj a b) aS 0) (fun r=>some r) (fun c=>some (-1))
def aT (a:Int) (q0:List Int):Option Int:=
 (dJ q0 a).bind fun b=>some b
def bU (a:Int) (q0:Int×(List Bool)×(List (List Int))) (q1:Int->Option Int):Option Bool:=
 (q1 a).bind fun b=>(aL q0.2.1 b).bind fun c=>some c
def bq (c:Int×(List Bool)×(List (List Int))) (a:Int) (b:Int):Option Int:=
 if decide (a<0) then (some (-1)) else ((dS b).bind fun d=>if d then ((aL c.2.2 a).bind fun e=>(aL e b).bind fun f=>some f) else (some (-1)))
def bV (b:Int) (c:Int) (q0:Int×(List Bool)×(List (List Int))) (q1:Int->Option Int) (q2:List Int):Option (Int×Bool):=
 (q1 b).bind fun d=>(bq (q0.1,q0.2.1,q0.2.2) d c).bind fun a=>if decide (a<0) then (some (0,false)) else ((aL q2 a).bind fun e=>if decide (e<0) then (some (0,false)) else ((aL q2 a).bind fun f=>some (f,true)))
def bM (a:Int×(List Bool)×(List (List Int))):Option Yq3:=
 (de (a.1,a.2.1,a.2.2)).bind fun b=>(aL b a.1).bind fun e=>if decide (e<0) then ((qL).bind fun c=>some (c.1,c.2.1,c.2.2)) else ((aL b a.1).bind fun f=>(dO f (b.length:Int) (fun a0=>bU a0 (a.1,a.2.1,a.2.2) (fun a0=>aT a0 b)) (fun a0 a1=>bV a0 a1 (a.1,a.2.1,a.2.2) (fun a0=>aT a0 b) b)).bind fun d=>some (d.1.1,d.1.2.1,d.1.2.2))
def vY (b:Int×(List Bool)×(List (List Int))):Option (Yq3×Bool):=
 (bM (b.1,b.2.1,b.2.2)).bind fun a=>if decide ((a.2.1.length:Int)>12) then (some ((0,[],[]),false)) else (some ((a.1,a.2.1,a.2.2),true))
def gj (d:(List Yq1)):Option (Yq3×Bool):=
 (fK d).bind fun a=>if a.2 then ((gf (a.1.1,a.1.2.1,a.1.2.2.1,a.1.2.2.2.1,a.1.2.2.2.2) 200).bind fun b=>if b.2 then ((vY (b.1.1,b.1.2.1,b.1.2.2)).bind fun c=>some ((c.1.1,c.1.2.1,c.1.2.2),c.2)) else (some ((0,[],[]),false))) else (some ((0,[],[]),false))
def bI (c:Int×(List Bool)×(List (List Int))) (b:List Int) (a:Int):Option (Out Bool Int):=
 if decide (a<(b.length:Int)) then ((aL b a).bind fun d=>(a8 d (-1) (i64.wrap ((c.2.1.length:Int) - 1))).bind fun e=>if e then (some (.nxt (i64.wrap (a+1)))) else (some (.ret false))) else (some (.brk a))
def du (b:Int×(List Bool)×(List (List Int))) (a:Int):Option (Out Bool Int):=
 if decide (a<(b.2.2.length:Int)) then ((aL b.2.2 a).bind fun c=>aO (ay (bI b c) aS 0) (fun r=>some (.ret r)) (fun d=>if (c.length:Int) !=9 then (some (.ret false)) else (some (.nxt (i64.wrap (a+1)))))) else (some (.brk a))
def bA (a:Int×(List Bool)×(List (List Int))):Option Bool:=
 (a8 (a.2.1.length:Int) 1 12).bind fun b=>if b then ((a8 a.1 0 (i64.wrap ((a.2.1.length:Int) - 1))).bind fun c=>if c then (if (a.2.2.length:Int) !=(a.2.1.length:Int) then (some false) else (aO (ay (du a) aS 0) (fun r=>some r) (fun d=>some true))) else (some false)) else (some false)
def ct (e:(Int×Int)->Int->Option (Int×Int)) (c:(Int×Int)×List Int) (a:(List ((Int×Int)×List Int))×Int×List ((Int×Int)×Bool)):Option (Out ((List Int)×Bool) ((List ((Int×Int)×List Int))×Int×List ((Int×Int)×Bool))):=
 if decide (a.2.1<9) then (Option.bind (((e (c.1.1,c.1.2) a.2.1).bind fun b=>(chk ((B8 (b.1,b.2))=true)).bind fun _=>if Option.getD (lkM a.2.2 (b.1,b.2)) false then (some (a.1,a.2.2)) else ((BX a.2.2 B8 bOk (b.1,b.2) true).bind fun f=>(eV c.2).bind fun g=>(cR 8 g ([a.2.1])).bind fun h=>(cR 40 a.1 ([((b.1,b.2),h)])).bind fun i=>some (i,f)):Option ((List ((Int×Int)×List Int))×List ((Int×Int)×Bool)))) (fun d=>some (.nxt (d.1,i64.wrap (a.2.1+1),d.2)))) else (some (.brk (a.1,a.2.1,a.2.2)))
def fe (d:(Int×Int)->Int->Option (Int×Int)) (e:(Int×Int)->Option Bool) (a:(List ((Int×Int)×List Int))×List ((Int×Int)×Bool)):Option (Out ((List Int)×Bool) ((List ((Int×Int)×List Int))×List ((Int×Int)×Bool))):=
 if decide ((a.1.length:Int)>0) then ((aL a.1 0).bind fun b=>(e (b.1.1,b.1.2)).bind fun f=>if f then ((eV b.2).bind fun g=>some (.ret (g,true))) else (aO (ay (ct d b) aS (a.1,0,a.2)) (fun h=>some (.ret h)) (fun c=>(chk (And ((0:Int)<=1) (1<=(c.1.length:Int)))).bind fun _=>some (.nxt (c.1.drop 1,c.2.2))))) else (some (.brk (a.1,a.2)))
def cB (a:Int×Int) (b:(Int×Int)->Int->Option (Int×Int)) (c:(Int×Int)->Option Bool):Option ((List Int)×Bool):=
 (BX ([] :List ((Int×Int)×Bool)) B8 bOk (a.1,a.2) true).bind fun d=>aO (ay (fe b c) aS ([((a.1,a.2),([] :List Int))],d)) (fun e=>some e) (fun f=>some (([] :List Int),false))
def iw (a:Int×Int) (b:Int) (q0:Int×(List Bool)×(List (List Int))) (q1:Int×(List Bool)×(List (List Int))):Option (Int×Int):=
 (bq (q0.1,q0.2.1,q0.2.2) a.1 b).bind fun c=>(bq (q1.1,q1.2.1,q1.2.2) a.2 b).bind fun d=>some (c,d)
def bs (b:Int×(List Bool)×(List (List Int))) (a:Int):Option Bool:=
 if decide (a≥0) then ((aL b.2.1 a).bind fun c=>some c) else (some false)
def gL (a:Int×Int) (q0:Int×(List Bool)×(List (List Int))) (q1:Int×(List Bool)×(List (List Int))):Option Bool:=
 (bs (q0.1,q0.2.1,q0.2.2) a.2).bind fun b=>if b then ((bs (q1.1,q1.2.1,q1.2.2) a.1).bind fun c=>some (!c)) else (some false)
def lL (a:Int×(List Bool)×List (List Int)) (b:Int×(List Bool)×List (List Int)):Option ((List Int)×Bool):=
 (bA (a.1,a.2.1,a.2.2)).bind fun d=>if d then ((bA (b.1,b.2.1,b.2.2)).bind fun e=>if e then ((cB (a.1,b.1) (fun (f:Int×Int) (g:Int)=>iw f g (a.1,a.2.1,a.2.2) (b.1,b.2.1,b.2.2)) (fun (h:Int×Int)=>gL h (b.1,b.2.1,b.2.2) (a.1,a.2.1,a.2.2))).bind fun c=>some (c.1,c.2)) else (some (([] :List Int),false))) else (some (([] :List Int),false))
def dq (a:Int×(List Bool)×(List (List Int))) (b:Int×(List Bool)×(List (List Int))):Option Bool:=
 (lL (a.1,a.2.1,a.2.2) (b.1,b.2.1,b.2.2)).bind fun c=>(bA (a.1,a.2.1,a.2.2)).bind fun d=>if d then ((bA (b.1,b.2.1,b.2.2)).bind fun e=>if e then (some (!c.2)) else (some false)) else (some false)
def iB (a:(List Yq1)) (b:(List Yq1)) (c:Int):Option Int:=
 (bO a).bind fun f=>if f then ((bO b).bind fun g=>if g then ((a8 c 0 3).bind fun h=>if h then ((gj a).bind fun d=>(gj b).bind fun e=>if d.2 then (if e.2 then ((dq (e.1.1,e.1.2.1,e.1.2.2) (d.1.1,d.1.2.1,d.1.2.2)).bind fun i=>if i then (some 1) else ((dN a b c).bind fun j=>if j.2 then (some 2) else (some 3))) else ((dN a b c).bind fun k=>if k.2 then (some 2) else (some 3))) else ((dN a b c).bind fun l=>if l.2 then (some 2) else (some 3))) else (some 0)) else (some 0)) else (some 0)
def nP (a:Int×Int×Int×Int) (b:Int×Int×Int×Int):Option Bool:=
 if a.1 !=b.1 then (some false) else (if a.2.1 !=b.2.1 then (some false) else (if a.2.2.1 !=b.2.2.1 then (some false) else (if a.2.2.2 !=b.2.2.2 then (some false) else (some true))))
def jn (d:List Yq1) (e:List Yq1) (a:Int):Option (Out Bool Int):=
 if decide (a<(d.length:Int)) then ((aL d a).bind fun b=>(aL e a).bind fun c=>(nP (b.1,b.2.1,b.2.2.1,b.2.2.2) (c.1,c.2.1,c.2.2.1,c.2.2.2)).bind fun f=>if f then (some (.nxt (i64.wrap (a+1)))) else (some (.ret false))) else (some (.brk a))
def pd (a:List Yq1) (b:List Yq1):Option Bool:=
 if (a.length:Int) !=(b.length:Int) then (some false) else (aO (ay (jn a b) aS 0) (fun r=>some r) (fun c=>some true))
def mX (a:(List Yq1)) (b:(List Yq1)):Option Bool:=
 (pd a b).bind fun c=>if c then (some true) else (some false)
def dw (a:(List Yq1)) (b:(List Yq1)) (c:Int):Option Bool:=
 (mS a 1048576).bind fun d=>if decide (d<0) then (some true) else ((mS b d).bind fun g=>if decide (g<0) then (some true) else ((gI a).bind fun h=>(gI b).bind fun i=>(iA h i c).bind fun j=>(gI a).bind fun e=>(gI b).bind fun f=>(iB e f c).bind fun k=>if k !=j then (some false) else ((gI a).bind fun l=>(mX e l).bind fun m=>if m then ((gI b).bind fun n=>(mX f n).bind fun o=>if o then (some true) else (some false)) else (some false))))
end D
namespace R
open Go.RowKit
open D
abbrev y3:Ty:=.int .i64
abbrev y94:Ty:=.prod y3 (.prod y3 (.prod y3 y3))
abbrev t104:Ty:=.tree 157 104 y94
abbrev U8:Ty:=.fro t104
abbrev y4:Ty:=.bool
abbrev VX:Ty:=.prod y4 (.prod y3 y3)
abbrev VY:Ty:=.prod y3 (.prod y3 y4)
abbrev MW:Ty:=.prod y3 y3
abbrev Uu:Ty:=.sl 104 U8
abbrev Wi:Ty:=.prod y94 Uu
abbrev y58:Ty:=.sl 4 y4
abbrev tc:Ty:=.sl 58 y58
abbrev Wj:Ty:=.sl 159 tc
abbrev S4:Ty:=.int .u64
abbrev RR:Ty:=.prod y3 (.prod y3 (.prod y4 (.prod y3 y3)))
abbrev U9:Ty:=.sl 175 RR
abbrev y37:Ty:=.sl 3 y3
abbrev QT:Ty:=.prod MW y37
abbrev Wk:Ty:=.sl 191 QT
abbrev VZ:Ty:=.prod y3 y4
abbrev V0:Ty:=.prod VZ (.prod y3 y3)
abbrev Vc:Ty:=.sl 202 V0
abbrev V1:Ty:=.sl 198 Vc
abbrev y96:Ty:=.prod y3 (.prod y3 (.prod y3 y3))
abbrev y22:Ty:=.sl 96 y96
abbrev S5:Ty:=.int .u32
abbrev S6:Ty:=.int .u64
abbrev y24:Ty:=.wr y22
abbrev y27:Ty:=.sl 94 y94
abbrev y29:Ty:=.wr y27
abbrev y81:Ty:=.prod y3 (.prod y3 (.prod y3 y3))
abbrev y41:Ty:=.sl 81 y81
abbrev y43:Ty:=.prod y37 y41
abbrev y84:Ty:=.prod y3 y3
abbrev y47:Ty:=.sl 84 y84
abbrev y59:Ty:=.sl 37 y37
abbrev y61:Ty:=.prod y3 (.prod y58 y59)
abbrev y86:Ty:=.prod y37 (.prod y3 (.prod y3 (.prod y37 y4)))
theorem ti3:TI Tryz.prog 3 false 1:=⟨⟨_,Tryz.underlying3,rfl⟩,by kernel_rfl⟩
theorem Vd (a0:Int) (a1:Int) (b0:Int) (b1:Int) (w:World):EqT Tryz.prog 84 (.agg #[.int .i64 a0,.int .i64 a1]) (.agg #[.int .i64 b0,.int .i64 b1]) ((a0==b0)&&((a1==b1)&&true)) w:=NT w Tryz.underlying84 (by kernel_rfl) (by kernel_rfl) (pM rfl (oi ti3 rfl) (oi ti3 rfl) (run_equalIn_int w 9998 3 _ _ _ _ Tryz.underlying3) (pM rfl (oi ti3 rfl) (oi ti3 rfl) (run_equalIn_int w 9998 3 _ _ _ _ Tryz.underlying3) (Hc w)))
theorem Ve (a0:Int) (a1:Int) (a2:Int) (a3:Int) (b0:Int) (b1:Int) (b2:Int) (b3:Int) (w:World):EqT Tryz.prog 94 (.agg #[.int .i64 a0,.int .i64 a1,.int .i64 a2,.int .i64 a3]) (.agg #[.int .i64 b0,.int .i64 b1,.int .i64 b2,.int .i64 b3]) ((a0==b0)&&((a1==b1)&&((a2==b2)&&((a3==b3)&&true)))) w:=NT w Tryz.underlying94 (by kernel_rfl) (by kernel_rfl) (pM rfl (oi ti3 rfl) (oi ti3 rfl) (run_equalIn_int w 9998 3 _ _ _ _ Tryz.underlying3) (pM rfl (oi ti3 rfl) (oi ti3 rfl) (run_equalIn_int w 9998 3 _ _ _ _ Tryz.underlying3) (pM rfl (oi ti3 rfl) (oi ti3 rfl) (run_equalIn_int w 9998 3 _ _ _ _ Tryz.underlying3) (pM rfl (oi ti3 rfl) (oi ti3 rfl) (run_equalIn_int w 9998 3 _ _ _ _ Tryz.underlying3) (Hc w)))))
theorem laidOut:laidOutB Tryz.prog=true:=by kernel_rfl
theorem S7:KII Tryz.prog 141:=⟨_,_,Tryz.underlying141,by decide,rfl,rfl,Tryz.underlying3,Tryz.underlying3,by kernel_rfl,by kernel_rfl,by kernel_rfl,by kernel_rfl,Tryz.prog.types.size - 1,by kernel_rfl⟩
theorem mz3 (w:World):(zeroValue 3).run Tryz.prog w= .ok (.int .i64 0) w:=by kernel_rfl
theorem mz4 (w:World):(zeroValue 4).run Tryz.prog w= .ok (.bool false) w:=by kernel_rfl
theorem Vf:KeyOk Tryz.prog 141 (fun x:Int×Int=>Value.agg #[.int .i64 x.1,.int .i64 x.2]) Px B8:=UB S7 (Go.deep_law_laid laidOut (m:=2) (by omega) (of_decide_eq_true (by kernel_rfl)) (by kernel_rfl) (by rw[Tryz.underlying141]))
theorem kk3:KeyOk Tryz.prog 3 (fun n:Int=>Value.int .i64 n) Pv iOk:=R8 Tryz.underlying3
theorem ek3:EltOk Tryz.prog 3 (fun n:Int=>Value.int .i64 n) Pv iOk 0:=R9 Tryz.underlying3 mz3
theorem ek4:EltOk Tryz.prog 4 (fun n:Bool=>Value.bool n) Ua bOk false:=Pw Tryz.underlying4 mz4
def tt:TT:=[(3,⟨false,1,none,y3,[],some 8,none,false,none,none,some (some .i64),false,none⟩),
 (4,⟨false,1,none,y4,[],some 1,none,true,none,none,none,false,none⟩),
 (22,⟨false,1,some 96,y22,[],some 24,none,false,none,none,none,false,none⟩),
 (24,⟨true,1,none,y24,[(0,0)],some 24,some [(0,1)],false,none,none,none,false,none⟩),
 (27,⟨false,1,some 94,y27,[],some 24,none,false,none,none,none,false,none⟩),
 (29,⟨true,1,none,y29,[(0,0)],some 24,some [(0,1)],false,none,none,none,false,none⟩),
 (37,⟨false,1,some 3,y37,[],some 24,none,false,none,none,none,false,none⟩),
 (41,⟨false,1,some 81,y41,[],some 24,none,false,none,none,none,false,none⟩),
 (43,⟨true,2,none,y43,[(0,0),(1,0)],some 48,some [(0,1),(1,1)],false,none,none,none,false,none⟩),
 (47,⟨false,1,some 84,y47,[],some 24,none,false,none,none,none,false,none⟩),
 (58,⟨false,1,some 4,y58,[],some 24,none,false,none,none,none,false,none⟩),
 (59,⟨false,1,some 37,y59,[],some 24,none,false,none,none,none,false,none⟩),
 (61,⟨true,3,none,y61,[(0,0),(1,0),(2,0)],some 56,some [(0,1),(1,1),(2,1)],false,none,none,none,false,none⟩),
 (78,⟨false,1,none,.bool,[],none,none,false,none,none,none,true,none⟩),
 (79,⟨false,1,none,.bool,[],none,none,false,none,none,none,true,none⟩),
 (81,⟨true,4,none,y81,[(0,0),(1,0),(2,0),(3,0)],some 32,some [(0,1),(1,1),(2,1),(3,1)],false,none,none,none,false,none⟩),
 (84,⟨true,2,none,y84,[(0,0),(1,0)],some 16,some [(0,1),(1,1)],false,some [some .i64,some .i64],none,none,false,none⟩),
 (86,⟨true,5,none,y86,[(0,0),(1,0),(2,0),(3,0),(4,0)],some 72,some [(0,1),(1,1),(2,1),(3,1),(4,1)],false,none,none,none,false,none⟩),
 (94,⟨true,4,none,y94,[(0,0),(1,0),(2,0),(3,0)],some 32,some [(0,1),(1,1),(2,1),(3,1)],false,some [some .i64,some .i64,some .i64,some .i64],none,none,false,none⟩),
 (96,⟨true,4,none,y96,[(0,0),(1,0),(2,0),(3,0)],some 32,some [(0,1),(1,1),(2,1),(3,1)],false,none,none,none,false,none⟩),
 (104,⟨false,1,none,U8,[],some 8,none,false,none,none,none,false,some 157⟩),
 (122,⟨true,3,none,VX,[(0,0),(1,0),(2,0)],some 24,some [(0,1),(1,1),(2,1)],false,none,none,none,false,none⟩),
 (133,⟨true,3,none,VY,[(0,0),(1,0),(2,0)],some 24,some [(0,1),(1,1),(2,1)],false,none,none,none,false,none⟩),
 (137,⟨false,1,none,.bool,[],none,none,false,none,none,none,true,none⟩),
 (141,⟨true,2,none,MW,[(0,0),(1,0)],some 16,some [(0,1),(1,1)],false,none,none,none,false,none⟩),
 (142,⟨false,1,none,.bool,[],none,none,false,none,none,none,true,none⟩),
 (144,⟨false,1,none,.bool,[],none,none,false,none,none,none,true,none⟩),
 (153,⟨false,1,some 104,Uu,[],some 24,none,false,none,none,none,false,none⟩),
 (157,⟨true,5,none,Wi,[(0,3),(4,0)],some 56,some [(0,4),(4,1)],false,none,none,none,false,none⟩),
 (159,⟨false,1,some 58,tc,[],some 24,none,false,none,none,none,false,none⟩),
 (162,⟨false,1,some 159,Wj,[],some 24,none,false,none,none,none,false,none⟩),
 (171,⟨false,1,none,S4,[],some 8,none,false,none,none,some (some .u64),false,none⟩),
 (175,⟨true,5,none,RR,[(0,0),(1,0),(2,0),(3,0),(4,0)],some 40,some [(0,1),(1,1),(2,1),(3,1),(4,1)],false,none,none,none,false,none⟩),
 (176,⟨false,1,some 175,U9,[],some 24,none,false,none,none,none,false,none⟩),
 (185,⟨false,1,none,.bool,[],none,none,false,none,some ⟨3,3,.int,.int⟩,none,false,none⟩),
 (188,⟨false,1,none,.bool,[],none,none,false,none,none,none,true,none⟩),
 (189,⟨false,1,none,.bool,[],none,none,false,none,some ⟨141,4,.ii,.bool⟩,none,false,none⟩),
 (191,⟨true,3,none,QT,[(0,1),(2,0)],some 40,some [(0,2),(2,1)],false,none,none,none,false,none⟩),
 (192,⟨false,1,some 191,Wk,[],some 24,none,false,none,none,none,false,none⟩),
 (196,⟨false,1,some 198,V1,[],some 24,none,false,none,none,none,false,none⟩),
 (198,⟨false,1,some 202,Vc,[],some 24,none,false,none,none,none,false,none⟩),
 (200,⟨true,2,none,VZ,[(0,0),(1,0)],some 16,some [(0,1),(1,1)],false,none,none,none,false,none⟩),
 (202,⟨true,4,none,V0,[(0,1),(2,0),(3,0)],some 32,some [(0,2),(2,1),(3,1)],false,none,none,none,false,none⟩),
 (216,⟨false,1,none,.bool,[],none,none,false,none,none,none,true,none⟩),
 (225,⟨false,1,none,S5,[],some 4,none,false,none,none,some (some .u32),false,none⟩),
 (228,⟨false,1,none,S6,[],some 8,none,false,none,none,some (some .u64),false,none⟩)]
theorem QU:TTok Tryz.prog tt:=⟨vX (n:=1) (z:=.int .i64 0) ⟨⟨_,Tryz.underlying3,rfl⟩,by kernel_rfl⟩ rfl (by unfold TZ;kernel_rfl) rfl (bF rfl) (fun h=>by cases h) (fun k h=>by obtain rfl:=ae h;exact Tryz.underlying3),
 vX (n:=1) (z:=.bool false) ⟨⟨_,Tryz.underlying4,rfl⟩,by kernel_rfl⟩ rfl (by unfold TZ;kernel_rfl) rfl (bF rfl) (fun h=>Tryz.underlying4) (fun k h=>by cases h),
 rO ⟨⟨_,Tryz.underlying22,rfl⟩,by kernel_rfl⟩ Tryz.underlying22 (by unfold TZ;kernel_rfl),
 o9 (z:=.agg #[.slice none 0 0]) ⟨⟨_,Tryz.underlying24,rfl⟩,by kernel_rfl⟩ rfl ⟨⟨_,_,Tryz.underlying24,rfl,rfl,by kernel_rfl⟩,trivial⟩ (by unfold TZ;kernel_rfl) rfl (bF rfl) ⟨_,Tryz.underlying24,by kernel_rfl⟩ (fun ks h=>by cases h),
 rO ⟨⟨_,Tryz.underlying27,rfl⟩,by kernel_rfl⟩ Tryz.underlying27 (by unfold TZ;kernel_rfl),
 o9 (z:=.agg #[.slice none 0 0]) ⟨⟨_,Tryz.underlying29,rfl⟩,by kernel_rfl⟩ rfl ⟨⟨_,_,Tryz.underlying29,rfl,rfl,by kernel_rfl⟩,trivial⟩ (by unfold TZ;kernel_rfl) rfl (bF rfl) ⟨_,Tryz.underlying29,by kernel_rfl⟩ (fun ks h=>by cases h),
 rO ⟨⟨_,Tryz.underlying37,rfl⟩,by kernel_rfl⟩ Tryz.underlying37 (by unfold TZ;kernel_rfl),
 rO ⟨⟨_,Tryz.underlying41,rfl⟩,by kernel_rfl⟩ Tryz.underlying41 (by unfold TZ;kernel_rfl),
 o9 (z:=.agg #[.slice none 0 0,.slice none 0 0]) ⟨⟨_,Tryz.underlying43,rfl⟩,by kernel_rfl⟩ rfl ⟨⟨_,_,Tryz.underlying43,rfl,rfl,by kernel_rfl⟩,⟨_,_,Tryz.underlying43,rfl,rfl,by kernel_rfl⟩,trivial⟩ (by unfold TZ;kernel_rfl) rfl (bF rfl) ⟨_,Tryz.underlying43,by kernel_rfl⟩ (fun ks h=>by cases h),
 rO ⟨⟨_,Tryz.underlying47,rfl⟩,by kernel_rfl⟩ Tryz.underlying47 (by unfold TZ;kernel_rfl),
 rO ⟨⟨_,Tryz.underlying58,rfl⟩,by kernel_rfl⟩ Tryz.underlying58 (by unfold TZ;kernel_rfl),
 rO ⟨⟨_,Tryz.underlying59,rfl⟩,by kernel_rfl⟩ Tryz.underlying59 (by unfold TZ;kernel_rfl),
 o9 (z:=.agg #[.int .i64 0,.slice none 0 0,.slice none 0 0]) ⟨⟨_,Tryz.underlying61,rfl⟩,by kernel_rfl⟩ rfl ⟨⟨_,_,Tryz.underlying61,rfl,rfl,by kernel_rfl⟩,⟨_,_,Tryz.underlying61,rfl,rfl,by kernel_rfl⟩,⟨_,_,Tryz.underlying61,rfl,rfl,by kernel_rfl⟩,trivial⟩ (by unfold TZ;kernel_rfl) rfl (bF rfl) ⟨_,Tryz.underlying61,by kernel_rfl⟩ (fun ks h=>by cases h),
 CN (ty:=.bool) (b:=8) ⟨⟨_,Tryz.underlying78,rfl⟩,by kernel_rfl⟩ rfl (by unfold TZ;kernel_rfl),
 CN (ty:=.bool) (b:=8) ⟨⟨_,Tryz.underlying79,rfl⟩,by kernel_rfl⟩ rfl (by unfold TZ;kernel_rfl),
 o9 (z:=.agg #[.int .i64 0,.int .i64 0,.int .i64 0,.int .i64 0]) ⟨⟨_,Tryz.underlying81,rfl⟩,by kernel_rfl⟩ rfl ⟨⟨_,_,Tryz.underlying81,rfl,rfl,by kernel_rfl⟩,⟨_,_,Tryz.underlying81,rfl,rfl,by kernel_rfl⟩,⟨_,_,Tryz.underlying81,rfl,rfl,by kernel_rfl⟩,⟨_,_,Tryz.underlying81,rfl,rfl,by kernel_rfl⟩,trivial⟩ (by unfold TZ;kernel_rfl) rfl (bF rfl) ⟨_,Tryz.underlying81,by kernel_rfl⟩ (fun ks h=>by cases h),
 o9 (z:=.agg #[.int .i64 0,.int .i64 0]) ⟨⟨_,Tryz.underlying84,rfl⟩,by kernel_rfl⟩ rfl ⟨⟨_,_,Tryz.underlying84,rfl,rfl,by kernel_rfl⟩,⟨_,_,Tryz.underlying84,rfl,rfl,by kernel_rfl⟩,trivial⟩ (by unfold TZ;kernel_rfl) rfl (bF rfl) ⟨_,Tryz.underlying84,by kernel_rfl⟩ (fun ks h=>by obtain rfl:=ae h;exact fun w a0 b0 a1 b1=>Vd a0 a1 b0 b1 w),
 o9 (z:=.agg #[.slice none 0 0,.int .i64 0,.int .i64 0,.slice none 0 0,.bool false]) ⟨⟨_,Tryz.underlying86,rfl⟩,by kernel_rfl⟩ rfl ⟨⟨_,_,Tryz.underlying86,rfl,rfl,by kernel_rfl⟩,⟨_,_,Tryz.underlying86,rfl,rfl,by kernel_rfl⟩,⟨_,_,Tryz.underlying86,rfl,rfl,by kernel_rfl⟩,⟨_,_,Tryz.underlying86,rfl,rfl,by kernel_rfl⟩,⟨_,_,Tryz.underlying86,rfl,rfl,by kernel_rfl⟩,trivial⟩ (by unfold TZ;kernel_rfl) rfl (bF rfl) ⟨_,Tryz.underlying86,by kernel_rfl⟩ (fun ks h=>by cases h),
 o9 (z:=.agg #[.int .i64 0,.int .i64 0,.int .i64 0,.int .i64 0]) ⟨⟨_,Tryz.underlying94,rfl⟩,by kernel_rfl⟩ rfl ⟨⟨_,_,Tryz.underlying94,rfl,rfl,by kernel_rfl⟩,⟨_,_,Tryz.underlying94,rfl,rfl,by kernel_rfl⟩,⟨_,_,Tryz.underlying94,rfl,rfl,by kernel_rfl⟩,⟨_,_,Tryz.underlying94,rfl,rfl,by kernel_rfl⟩,trivial⟩ (by unfold TZ;kernel_rfl) rfl (bF rfl) ⟨_,Tryz.underlying94,by kernel_rfl⟩ (fun ks h=>by obtain rfl:=ae h;exact fun w a0 b0 a1 b1 a2 b2 a3 b3=>Ve a0 a1 a2 a3 b0 b1 b2 b3 w),
 o9 (z:=.agg #[.int .i64 0,.int .i64 0,.int .i64 0,.int .i64 0]) ⟨⟨_,Tryz.underlying96,rfl⟩,by kernel_rfl⟩ rfl ⟨⟨_,_,Tryz.underlying96,rfl,rfl,by kernel_rfl⟩,⟨_,_,Tryz.underlying96,rfl,rfl,by kernel_rfl⟩,⟨_,_,Tryz.underlying96,rfl,rfl,by kernel_rfl⟩,⟨_,_,Tryz.underlying96,rfl,rfl,by kernel_rfl⟩,trivial⟩ (by unfold TZ;kernel_rfl) rfl (bF rfl) ⟨_,Tryz.underlying96,by kernel_rfl⟩ (fun ks h=>by cases h),
 U7 (e:=157) (E:=104) (u:=y94) ⟨⟨_,Tryz.underlying104,rfl⟩,by kernel_rfl⟩ Tryz.underlying104 (by unfold TZ;kernel_rfl),
 o9 (z:=.agg #[.bool false,.int .i64 0,.int .i64 0]) ⟨⟨_,Tryz.underlying122,rfl⟩,by kernel_rfl⟩ rfl ⟨⟨_,_,Tryz.underlying122,rfl,rfl,by kernel_rfl⟩,⟨_,_,Tryz.underlying122,rfl,rfl,by kernel_rfl⟩,⟨_,_,Tryz.underlying122,rfl,rfl,by kernel_rfl⟩,trivial⟩ (by unfold TZ;kernel_rfl) rfl (bF rfl) ⟨_,Tryz.underlying122,by kernel_rfl⟩ (fun ks h=>by cases h),
 o9 (z:=.agg #[.int .i64 0,.int .i64 0,.bool false]) ⟨⟨_,Tryz.underlying133,rfl⟩,by kernel_rfl⟩ rfl ⟨⟨_,_,Tryz.underlying133,rfl,rfl,by kernel_rfl⟩,⟨_,_,Tryz.underlying133,rfl,rfl,by kernel_rfl⟩,⟨_,_,Tryz.underlying133,rfl,rfl,by kernel_rfl⟩,trivial⟩ (by unfold TZ;kernel_rfl) rfl (bF rfl) ⟨_,Tryz.underlying133,by kernel_rfl⟩ (fun ks h=>by cases h),
 CN (ty:=.bool) (b:=8) ⟨⟨_,Tryz.underlying137,rfl⟩,by kernel_rfl⟩ rfl (by unfold TZ;kernel_rfl),
 o9 (z:=.agg #[.int .i64 0,.int .i64 0]) ⟨⟨_,Tryz.underlying141,rfl⟩,by kernel_rfl⟩ rfl ⟨⟨_,_,Tryz.underlying141,rfl,rfl,by kernel_rfl⟩,⟨_,_,Tryz.underlying141,rfl,rfl,by kernel_rfl⟩,trivial⟩ (by unfold TZ;kernel_rfl) rfl (bF rfl) ⟨_,Tryz.underlying141,by kernel_rfl⟩ (fun ks h=>by cases h),
 CN (ty:=.bool) (b:=8) ⟨⟨_,Tryz.underlying142,rfl⟩,by kernel_rfl⟩ rfl (by unfold TZ;kernel_rfl),
 CN (ty:=.bool) (b:=8) ⟨⟨_,Tryz.underlying144,rfl⟩,by kernel_rfl⟩ rfl (by unfold TZ;kernel_rfl),
 rO ⟨⟨_,Tryz.underlying153,rfl⟩,by kernel_rfl⟩ Tryz.underlying153 (by unfold TZ;kernel_rfl),
 o9 (z:=.agg #[.int .i64 0,.int .i64 0,.int .i64 0,.int .i64 0,.slice none 0 0]) ⟨⟨_,Tryz.underlying157,rfl⟩,by kernel_rfl⟩ rfl ⟨⟨_,_,Tryz.underlying157,rfl,rfl,by kernel_rfl⟩,⟨_,_,Tryz.underlying157,rfl,rfl,by kernel_rfl⟩,trivial⟩ (by unfold TZ;kernel_rfl) rfl (bF rfl) ⟨_,Tryz.underlying157,by kernel_rfl⟩ (fun ks h=>by cases h),
 rO ⟨⟨_,Tryz.underlying159,rfl⟩,by kernel_rfl⟩ Tryz.underlying159 (by unfold TZ;kernel_rfl),
 rO ⟨⟨_,Tryz.underlying162,rfl⟩,by kernel_rfl⟩ Tryz.underlying162 (by unfold TZ;kernel_rfl),
 vX (n:=1) (z:=.int .u64 0) ⟨⟨_,Tryz.underlying171,rfl⟩,by kernel_rfl⟩ rfl (by unfold TZ;kernel_rfl) rfl (bF rfl) (fun h=>by cases h) (fun k h=>by obtain rfl:=ae h;exact Tryz.underlying171),
 o9 (z:=.agg #[.int .i64 0,.int .i64 0,.bool false,.int .i64 0,.int .i64 0]) ⟨⟨_,Tryz.underlying175,rfl⟩,by kernel_rfl⟩ rfl ⟨⟨_,_,Tryz.underlying175,rfl,rfl,by kernel_rfl⟩,⟨_,_,Tryz.underlying175,rfl,rfl,by kernel_rfl⟩,⟨_,_,Tryz.underlying175,rfl,rfl,by kernel_rfl⟩,⟨_,_,Tryz.underlying175,rfl,rfl,by kernel_rfl⟩,⟨_,_,Tryz.underlying175,rfl,rfl,by kernel_rfl⟩,trivial⟩ (by unfold TZ;kernel_rfl) rfl (bF rfl) ⟨_,Tryz.underlying175,by kernel_rfl⟩ (fun ks h=>by cases h),
 rO ⟨⟨_,Tryz.underlying176,rfl⟩,by kernel_rfl⟩ Tryz.underlying176 (by unfold TZ;kernel_rfl),
 SZ (m:=⟨3,3,.int,.int⟩) (ty:=.bool) ⟨⟨_,Tryz.underlying185,rfl⟩,by kernel_rfl⟩ rfl ⟨Tryz.underlying185,kk3,ek3⟩,
 CN (ty:=.bool) (b:=8) ⟨⟨_,Tryz.underlying188,rfl⟩,by kernel_rfl⟩ rfl (by unfold TZ;kernel_rfl),
 SZ (m:=⟨141,4,.ii,.bool⟩) (ty:=.bool) ⟨⟨_,Tryz.underlying189,rfl⟩,by kernel_rfl⟩ rfl ⟨Tryz.underlying189,Vf,ek4⟩,
 o9 (z:=.agg #[.int .i64 0,.int .i64 0,.slice none 0 0]) ⟨⟨_,Tryz.underlying191,rfl⟩,by kernel_rfl⟩ rfl ⟨⟨_,_,Tryz.underlying191,rfl,rfl,by kernel_rfl⟩,⟨_,_,Tryz.underlying191,rfl,rfl,by kernel_rfl⟩,trivial⟩ (by unfold TZ;kernel_rfl) rfl (bF rfl) ⟨_,Tryz.underlying191,by kernel_rfl⟩ (fun ks h=>by cases h),
 rO ⟨⟨_,Tryz.underlying192,rfl⟩,by kernel_rfl⟩ Tryz.underlying192 (by unfold TZ;kernel_rfl),
 rO ⟨⟨_,Tryz.underlying196,rfl⟩,by kernel_rfl⟩ Tryz.underlying196 (by unfold TZ;kernel_rfl),
 rO ⟨⟨_,Tryz.underlying198,rfl⟩,by kernel_rfl⟩ Tryz.underlying198 (by unfold TZ;kernel_rfl),
 o9 (z:=.agg #[.int .i64 0,.bool false]) ⟨⟨_,Tryz.underlying200,rfl⟩,by kernel_rfl⟩ rfl ⟨⟨_,_,Tryz.underlying200,rfl,rfl,by kernel_rfl⟩,⟨_,_,Tryz.underlying200,rfl,rfl,by kernel_rfl⟩,trivial⟩ (by unfold TZ;kernel_rfl) rfl (bF rfl) ⟨_,Tryz.underlying200,by kernel_rfl⟩ (fun ks h=>by cases h),
 o9 (z:=.agg #[.int .i64 0,.bool false,.int .i64 0,.int .i64 0]) ⟨⟨_,Tryz.underlying202,rfl⟩,by kernel_rfl⟩ rfl ⟨⟨_,_,Tryz.underlying202,rfl,rfl,by kernel_rfl⟩,⟨_,_,Tryz.underlying202,rfl,rfl,by kernel_rfl⟩,⟨_,_,Tryz.underlying202,rfl,rfl,by kernel_rfl⟩,trivial⟩ (by unfold TZ;kernel_rfl) rfl (bF rfl) ⟨_,Tryz.underlying202,by kernel_rfl⟩ (fun ks h=>by cases h),
 CN (ty:=.bool) (b:=8) ⟨⟨_,Tryz.underlying216,rfl⟩,by kernel_rfl⟩ rfl (by unfold TZ;kernel_rfl),
 vX (n:=1) (z:=.int .u32 0) ⟨⟨_,Tryz.underlying225,rfl⟩,by kernel_rfl⟩ rfl (by unfold TZ;kernel_rfl) rfl (bF rfl) (fun h=>by cases h) (fun k h=>by obtain rfl:=ae h;exact Tryz.underlying225),
 vX (n:=1) (z:=.int .u64 0) ⟨⟨_,Tryz.underlying228,rfl⟩,by kernel_rfl⟩ rfl (by unfold TZ;kernel_rfl) rfl (bF rfl) (fun h=>by cases h) (fun k h=>by obtain rfl:=ae h;exact Tryz.underlying228),trivial⟩
theorem mixed:Tryz.prog.follows .mixedOrders=true:=by kernel_rfl
def OE (fn:Func):Code:=match fn.body with
 | some c=>c
 | none=>.skip
theorem fk {k:FuncId} {fn:Func} {f:FS} (ft:FT) (hF:FTok Tryz.prog ft) (hf:Tryz.prog.funcs[k]? =some fn) (ann:Ann) (an:List (Nat×Ty):=[]) (tr:Trs:=[]) (hb:fn.body=some (OE fn):=by rfl) (he:(fn.name == "runtime.NumGoroutine")=false:=by kernel_rfl) (hcl:f.cl=none:=by rfl) (hm:Nat.ble f.ps.length fn.ntmps=true:=by rfl) (hdp:(AP f.rs&&sM f.ps)=true:=by rfl)
  (hmod: ∀d,appP f.ps f.m d=j9 ⟨tt,ft,an,fn.ntmps,tr⟩ (Jl ⟨tt,ft,an,fn.ntmps,tr⟩ fn.results.toList f.rs f.ps d) (OE fn) ann (fun r=>some r) (fun _ _=>none) (Jl ⟨tt,ft,an,fn.ntmps,tr⟩ fn.results.toList f.rs f.ps d) (oH (vV f.ps d)):=by intro d;kernel_rfl):FOk Tryz.prog k f:=
 fok (V:=⟨tt,ft,an,fn.ntmps,tr⟩) QU hF mixed hf hb rfl (enters_of hf he hb) hcl (bF hm) hdp ann hmod
def tS:FS:=⟨[.rd y22,.rd y3],[y3],pa,none⟩
def xT:FS:=⟨[.rd y24,.rd y3],[y3],mS,none⟩
def gM:FS:=⟨[.rd y3,.rd y3,.rd y3],[y4],bQ,none⟩
def pe:FS:=⟨[.rd y3],[y4],kd,none⟩
def qM:FS:=⟨[.rd y94],[y3],lA,none⟩
def te:FS:=⟨[.rd y29],[y4],mT,none⟩
def eN:FS:=⟨[.rd y29],[y4],bN,none⟩
def Br:FS:=⟨[.rd y3],[y37],rP,none⟩
def tT:FS:=⟨[.rd y29],[y37],kg,none⟩
def mY:FS:=⟨[.rd y3,.rd y4],[tc],dK,none⟩
def pf:FS:=⟨[.rd tc,.rd tc],[tc],iL,none⟩
def pg:FS:=⟨[.rd tc,.rd tc],[tc],iM,none⟩
def qj:FS:=⟨[.rd tc,.rd y3,.rd y3],[tc],fy,none⟩
def vZ:FS:=⟨[.rd y27,.rd y37],[y4],lB,none⟩
def rQ:FS:=⟨[.rd y29,.rd y3],[y59],gz,none⟩
def xU:FS:=⟨[.rd y37],[y4],xO,none⟩
def xV:FS:=⟨[.rd y3],[y4],xP,none⟩
def nQ:FS:=⟨[.rd y37],[y43,y4],gA,none⟩
def ek:FS:=⟨[.rd y3],[y47],cw,none⟩
def xW:FS:=⟨[.rd y43,.rd y81],[y4],xQ,none⟩
def kC:FS:=⟨[.rd y43],[y4],cD,none⟩
def qN:FS:=⟨[.rd y84,.rd y84],[y4],jH,none⟩
def p8:FS:=⟨[.eat (.sl 84 y84),.rd y84],[y47],gB,none⟩
def v7:FS:=⟨[.rd y43,.rd y3,.rd y3],[y4],nH,none⟩
def me:FS:=⟨[.rd y43,.rd y3],[y47],fH,none⟩
def lM:FS:=⟨[.rd y27],[y3],dY,none⟩
def ep:FS:=⟨[.rd y47,.rd y47],[y47],cx,none⟩
def j3:FS:=⟨[.rd y47,.rd y47],[y47],fA,none⟩
def ph:FS:=⟨[.rd y47],[y4],fV,none⟩
def lN:FS:=⟨[.rd y3,.rd y47],[y47],e7,none⟩
def mZ:FS:=⟨[.rd y3,.rd y47,.rd y3,.rd y3],[y47],gE,none⟩
def nR (n:Nat):FS:=⟨[.rd y43,.rd y27],[y47],b9 n,none⟩
def xX:FS:=⟨[.rd y47,.rd y84],[y4],pX,none⟩
def pj:FS:=⟨[.rd y29,.rd y37],[y4],eC,none⟩
def ou:FS:=⟨[.rd y29,.rd y29,.rd y3],[.bag (y37),y4],dL,none⟩
def nS (n:Nat):FS:=⟨[.rd y27],[y3],dA n,none⟩
def xY:FS:=⟨[.rd y27],[y29],sZ,none⟩
def tf:FS:=⟨[.rd y29,.rd y29,.rd y94],[y29],jI,none⟩
def xZ:FS:=⟨[.rd y3],[y29],pY,none⟩
def mf (n:Nat):FS:=⟨[.rd y29,.rd y3,.rd y3],[y29],kh n,none⟩
def k7 (n:Nat):FS:=⟨[.rd y27],[y29],cd n,none⟩
def qk:FS:=⟨[.rd y29],[y29,y4],jU,none⟩
def v8:FS:=⟨[.ptr 86 y86,.rd y3,.rd y3],[],lE,none⟩
def mg (n:Nat):FS:=⟨[.ptr 86 y86,.rd y27],[VX],cW n,none⟩
def mi:FS:=⟨[.rd y29],[y86,y4],fI,none⟩
def tU:FS:=⟨[.rd y86,.rd y3,.rd y3],[y3],ma,none⟩
def qO:FS:=⟨[.rd y37,.rd y3],[y3],lF,none⟩
def ql:FS:=⟨[.rd y86,.rd y3],[y4],jV,none⟩
def qm:FS:=⟨[.rd y86,.rd y3],[y61,y4],il,none⟩
def qn:FS:=⟨[],[y61],mJ,none⟩
def rR:FS:=⟨[.rd y61,.rd y37,.rd y58],[y61],gG,none⟩
def qP:FS:=⟨[.rd y61],[y58],jJ,none⟩
def ya:FS:=⟨[.rd y61,.rd y37,.rd y3],[y37],mU,none⟩
def Bs:FS:=⟨[.rd y37,.rd y37],[y3],pb,none⟩
def qo:FS:=⟨[.rd y61],[y37],iq,none⟩
def pn:FS:=⟨[.rd y61],[y61],eH,none⟩
def po:FS:=⟨[.rd y29],[y61,y4],fY,none⟩
def wc:FS:=⟨[.rd y61],[y4],lG,none⟩
def gT:FS:=⟨[.rd y61],[y4],bz,none⟩
def rS:FS:=⟨[.rd y61,.rd y3],[y4],jh,none⟩
def we:FS:=⟨[.rd U9,.rd y3],[y37],nI,none⟩
def wg:FS:=⟨[.rd y61,.rd y3,.rd y3],[y3],lH,none⟩
def yc:FS:=⟨[.rd U9,.rd RR],[y4],pZ,none⟩
def rT:FS:=⟨[.rd y61,.rd y3,.rd y61,.rd y3,.rd y4],[y37,y4],gH,none⟩
def pq:FS:=⟨[.rd y61,.rd y61],[y37,y4],lI,none⟩
def kI:FS:=⟨[.rd y61,.rd y61],[y4],dk,none⟩
def ox:FS:=⟨[.rd y29,.rd y29,.rd y3],[y3],iA,none⟩
def wh:FS:=⟨[.rd y96],[y94],nJ,none⟩
def tV:FS:=⟨[.rd y22],[y27],mc,none⟩
def yd:FS:=⟨[.rd y24],[y29],gI,none⟩
def dy:FS:=⟨[.rd y3,.rd y3,.rd y3],[y4],a8,none⟩
def iO:FS:=⟨[.rd y3],[y4],dS,none⟩
def ye:FS:=⟨[.rd y37],[y4],xR,none⟩
def yf:FS:=⟨[.rd y3],[y4],xS,none⟩
def nT:FS:=⟨[.rd y37],[y43,y4],jj,none⟩
def wi:FS:=⟨[.rd y94],[y4],nK,none⟩
def ba:FS:=⟨[.rd Uu],[Uu],fun _=>none,some (104,8)⟩
def lg:FS:=⟨[.rd y29],[t104],iN,none⟩
def yg:FS:=⟨[.rd y29],[y4],p7,none⟩
def eO:FS:=⟨[.rd y29],[y4],bO,none⟩
def yh:FS:=⟨[.rd y81,.rd y3],[y4],mV,none⟩
def iC:FS:=⟨[.rd y43],[y4],aZ,none⟩
def et:FS:=⟨[.rd y3],[y47],cy,none⟩
def Bt:FS:=⟨[.rd y81,.rd y4],[y3],pc,none⟩
def En:FS:=⟨[.rd y43],[V1],uQ,none⟩
def wj:FS:=⟨[.rd y43,.rd y3,.rd y3],[y4],nM,none⟩
def eP:FS:=⟨[.ow (.sl 84 y84),.fk 183],[],cM,none⟩
def pv:FS:=⟨[.rd y3,.rd y3],[y3],jk,none⟩
def kD:FS:=⟨[.rd y84,.rd y84],[y3],fu,none⟩
def eW:FS:=⟨[.eat (.sl 84 y84)],[.sl 84 y84],bL,none⟩
def nU:FS:=⟨[.rd y47],[y47],iH,none⟩
def mj:FS:=⟨[.rd y43,.rd y3],[y47],fJ,none⟩
def eu:FS:=⟨[.rd y47,.rd y47],[y47],cz,none⟩
def j4:FS:=⟨[.rd y47,.rd y47],[y47],fC,none⟩
def pw:FS:=⟨[.rd y47],[y4],ga,none⟩
def lO:FS:=⟨[.rd y3,.rd y47],[y47],fa,none⟩
def na:FS:=⟨[.rd y3,.rd y47,.rd y3,.rd y3],[y47],gJ,none⟩
def gN (n:Nat):FS:=⟨[.rd t104,.rd y43],[y47],aX n,none⟩
def oy:FS:=⟨[.rd y43,.rd y29],[y47,y4],kB,none⟩
def fL:FS:=⟨[.rd y47,.rd y84],[y3],bW,none⟩
def eQ:FS:=⟨[.rd y47,.rd y84],[y4],bH,none⟩
def px:FS:=⟨[.rd y29,.rd y37],[y4],gb,none⟩
def py:FS:=⟨[.rd y37],[y37],eV,none⟩
def nV (n:Nat):FS:=⟨[.rd y3],[y59],fb n,none⟩
def uR:FS:=⟨[.rd y3,.rd y4],[tc],jl,none⟩
def yi:FS:=⟨[.rd tc,.rd tc],[tc],jL,none⟩
def yj:FS:=⟨[.rd tc,.rd tc],[tc],jM,none⟩
def j5 (n:Nat):FS:=⟨[.rd t104,.rd y37],[tc],aV n,none⟩
def oz:FS:=⟨[.rd t104,.rd y37],[y4],dM,none⟩
def rU:FS:=⟨[.rd y29,.rd y3],[.bag (.sl 37 (.bag y37))],jm,none⟩
def oA:FS:=⟨[.rd y29,.rd y29,.rd y3],[.bag (y37),y4],dN,none⟩
def j6 (n:Nat):FS:=⟨[.rd t104],[y3],bP n,none⟩
def Eo:FS:=⟨[.rd y3],[t104],zA,none⟩
def mn (n:Nat):FS:=⟨[.eat t104,.rd y3,.rd y3],[t104],kj n,none⟩
def jo (n:Nat):FS:=⟨[.rd t104],[t104],bD n,none⟩
def iD (n:Nat):FS:=⟨[.rd t104,.ptr 29 y29],[],bt n,none⟩
def rV:FS:=⟨[.rd t104],[y29],nO,none⟩
def qp:FS:=⟨[.rd y29],[y29,y4],jZ,none⟩
def kJ:FS:=⟨[.ptr 86 y86,.rd y3,.rd y3],[],dm,none⟩
def ff (n:Nat):FS:=⟨[.ptr 86 y86,.rd t104],[VY],a6 n,none⟩
def mo:FS:=⟨[.rd y29],[y86,y4],fK,none⟩
def kE:FS:=⟨[.rd y3,.rd y3,.fn [y3] [y4],.fn [y3,y3] [y3,y4]],[y61,y4],dO,none⟩
def km:FS:=⟨[.rd y86,.rd y3],[y4],c9,none⟩
def lP:FS:=⟨[.rd y86,.rd y3,.rd y3],[y3],fc,none⟩
def nc:FS:=⟨[.rd y3,.rd y3,.cap 86 y86],[y3,y4],cP,none⟩
def pz:FS:=⟨[.rd y86,.rd y3],[y61,y4],gf,none⟩
def bj:FS:=⟨[.rd y58],[y58],fun _=>none,some (4,1)⟩
def mq:FS:=⟨[.rd y61],[y58],dU,none⟩
def dH:FS:=⟨[.rd y59,.fn [y37] [y4]],[y3],bw,none⟩
def gR:FS:=⟨[.rd y37,.rd y37],[y4],dI,none⟩
def jz:FS:=⟨[.rd y37,.cap 37 y37],[y4],fE,none⟩
def kK:FS:=⟨[.rd y61,.rd y37],[y37,y3],dn,none⟩
def ko:FS:=⟨[.rd y61],[y37],de,none⟩
def lQ:FS:=⟨[.rd S5,.rd S5],[S5,S5],qK,none⟩
def lR:FS:=⟨[.rd S6,.rd S6],[S6,S6],lK,none⟩
def nf:FS:=⟨[.rd S4,.rd S4],[S4,S4],mW,none⟩
def gk:FS:=⟨[.rd y37,.rd y3],[y37],gi,none⟩
def wk:FS:=⟨[],[y61],qL,none⟩
def gS:FS:=⟨[.rd y37,.rd y3],[y3],dJ,none⟩
def iP:FS:=⟨[.rd y3,.cap 37 y37],[y3],aT,none⟩
def iQ:FS:=⟨[.rd y3,.cap 61 y61,.capf 188 [y3] [y3]],[y4],bU,none⟩
def jq:FS:=⟨[.rd y61,.rd y3,.rd y3],[y3],bq,none⟩
def iR:FS:=⟨[.rd y3,.rd y3,.cap 61 y61,.capf 188 [y3] [y3],.cap 37 y37],[y3,y4],bV,none⟩
def jA:FS:=⟨[.rd y61],[y61],bM,none⟩
def Bu:FS:=⟨[.rd y61],[y61,y4],vY,none⟩
def pA:FS:=⟨[.rd y29],[y61,y4],gj,none⟩
def gU:FS:=⟨[.rd y61],[y4],bA,none⟩
def kL:FS:=⟨[.rd MW,.fn [MW,y3] [MW],.fn [MW] [y4]],[y37,y4],cB,none⟩
def qq:FS:=⟨[.rd MW,.rd y3,.cap 61 y61,.cap 61 y61],[MW],iw,none⟩
def iS:FS:=⟨[.rd y61,.rd y61],[],fun _ _=>none,some (61,1161)⟩
def kp:FS:=⟨[.rd y61,.rd y3],[y4],bs,none⟩
def ng:FS:=⟨[.rd MW,.cap 61 y61,.cap 61 y61],[y4],gL,none⟩
def pB:FS:=⟨[.rd y61,.rd y61],[y37,y4],lL,none⟩
def kM:FS:=⟨[.rd y61,.rd y61],[y4],dq,none⟩
def oB:FS:=⟨[.rd y29,.rd y29,.rd y3],[y3],iB,none⟩
def wm:FS:=⟨[.rd y94,.rd y94],[y4],nP,none⟩
def tW:FS:=⟨[.rd y27,.rd y27],[y4],pd,none⟩
def yk:FS:=⟨[.rd y29,.rd y29],[y4],mX,none⟩
def nW:FS:=⟨[.rd y24,.rd y24,.rd y3],[y4],dw,none⟩
end R
namespace R
open Go.RowKit
open D
theorem Bv:FOk Tryz.prog 22 tS:=fk [] trivial Tryz.func22 .no
theorem Gc:FOk Tryz.prog 5 xT:=fk [(22,tS)] ⟨Bv,trivial⟩ Tryz.func5 .no
theorem iE:FOk Tryz.prog 24 gM:=fk [] trivial Tryz.func24 .no
theorem tX:FOk Tryz.prog 129 pe:=fk [(24,gM)] ⟨iE,trivial⟩ Tryz.func129 .no
theorem wo:FOk Tryz.prog 90 qM:=fk [(24,gM),(129,pe)] ⟨iE,tX,trivial⟩ Tryz.func90 (.t (.two (.t (.join [.slot 5 .boo] .no (.t (.t (.t (.join [.slot 37 .boo] .no .no)))))) .no))
theorem ym:FOk Tryz.prog 49 te:=fk [(90,qM)] ⟨wo,trivial⟩ Tryz.func49 (.t (.t (.two (.t (.loop [.s 3,.s 4] .no)) .no)))
theorem gl:FOk Tryz.prog 23 eN:=fk [(49,te)] ⟨ym,trivial⟩ Tryz.func23 .no
theorem Jr:FOk Tryz.prog 124 Br:=fk [] trivial Tryz.func124 (.t (.t (.two (.t (.loop [.slot 3 (.own 3 y3),.s 4] (.t (.join [.slot 3 (.own 3 y3)] .no .no)))) .no)))
theorem Bw:FOk Tryz.prog 71 tT:=fk [(49,te),(124,Br)] ⟨ym,Jr,trivial⟩ Tryz.func71 (.t (.t (.two (.t (.loop [.s 3,.s 4] (.t (.join [.s 3] .no .no)))) .no)))
theorem p9:FOk Tryz.prog 125 mY:=fk [] trivial Tryz.func125 (.t (.t (.two (.t (.loop [.slot 5 (.own 58 y58),.s 6] .no)) .no)))
theorem tY:FOk Tryz.prog 126 pf:=fk [(125,mY)] ⟨p9,trivial⟩ Tryz.func126 (.t (.t (.two (.t (.loop [.s 6,.row 5 58 y58] (.t (.two (.t (.loop [.s 7,.row 5 58 y58] (.t (.two (.t (.loop [.s 8,.row 5 58 y58] .no)) .no)))) .no)))) .no)))
theorem tZ:FOk Tryz.prog 127 pg:=fk [(125,mY)] ⟨p9,trivial⟩ Tryz.func127 (.t (.t (.two (.t (.loop [.row 5 58 y58,.s 6] (.t (.two (.t (.loop [.row 5 58 y58,.s 7] .no)) .no)))) .no)))
theorem xe:FOk Tryz.prog 128 qj:=fk [(125,mY),(126,pf),(127,pg)] ⟨p9,tY,tZ,trivial⟩ Tryz.func128 (.t (.t (.t (.two (.t (.loop [.slot 7 (.own 58 y58),.slot 8 (.own 58 y58),.s 9] (.t (.two (.join [.slot 7 (.own 58 y58)] .no .no) .no)))) .no))))
theorem CO:FOk Tryz.prog 72 vZ:=fk [(125,mY),(126,pf),(127,pg),(128,qj)] ⟨p9,tY,tZ,xe,trivial⟩ Tryz.func72 (.t (.t (.t (.two (.t (.loop [.slot 6 (.own 159 (.bag tc)),.s 7] (.t (.two (.at [.slot 6 (.own 159 (.bag tc))] (.t (.t (.t (.t (.t (.t (.two (.t (.two (.t (.loop [.s 11,.row 10 58 y58] .no)) .no)) .no)))))))) .no)))) .no)))) (an:=[(17,.bag tc),(35,.bag tc),(42,.bag tc),(70,.bag tc),(90,.bag tc),(110,.bag tc)])
theorem zB:FOk Tryz.prog 37 rQ:=fk [(23,eN),(24,gM),(71,tT),(72,vZ)] ⟨gl,iE,Bw,CO,trivial⟩ Tryz.func37 (.t (.t (.t (.t (.t (.two (.t (.loop [.slot 5 (.own 37 y37),.slot 7 (.own 37 y37),.s 8] (.t (.two (.t (.two (.t (.loop [.slot 5 (.own 37 y37),.slot 9 (.own 37 y37),.s 10,.row 7 37 y37] (.t (.two (.two (.t (.at [.slot 5 (.own 37 y37),.gone 43,.row 7 37 y37] .no)) (.t (.loop [.slot 9 (.own 37 y37),.s 11] .no))) .no)))) .no)) .no)))) .no))))))
theorem Ge:FOk Tryz.prog 73 xU:=fk [(129,pe)] ⟨tX,trivial⟩ Tryz.func73 (.t (.two (.t (.loop [.s 3] .no)) .no))
theorem Gf:FOk Tryz.prog 74 xV:=fk [(24,gM)] ⟨iE,trivial⟩ Tryz.func74 .no
end R
namespace R
open Go.RowKit
open D
theorem rW:FOk Tryz.prog 38 nQ:=fk [(73,xU),(74,xV)] ⟨Ge,Gf,trivial⟩ Tryz.func38 (.t (.t (.t (.t (.two (.t (.loop [.slot 5 .boo,.s 6,.box 4 [(.own 3 y3),(.own 81 y81)]] (.t (.joinX [.slot 5 .boo,.box 4 [(.own 3 y3),(.own 81 y81)]] (.t (.t (.t (.t (.join [.box 9 [(.num .i64),(.num .i64),(.num .i64),(.num .i64)]] .no .no))))) .no)))) .no)))))
theorem gV:FOk Tryz.prog 78 ek:=fk [] trivial Tryz.func78 (.t (.t (.two (.t (.loop [.slot 3 (.own 84 y84),.s 4] .no)) .no)))
theorem Gg:FOk Tryz.prog 77 xW:=fk [(24,gM)] ⟨iE,trivial⟩ Tryz.func77 .no
theorem oC:FOk Tryz.prog 42 kC:=fk [(24,gM),(77,xW)] ⟨iE,Gg,trivial⟩ Tryz.func42 (.t (.two (.t (.loop [.s 3] .no)) (.two (.t (.loop [.s 4] .no)) .no)))
theorem wq:FOk Tryz.prog 132 qN:=fk [] trivial Tryz.func132 .no
theorem tg:FOk Tryz.prog 85 p8:=fk [(132,qN)] ⟨wq,trivial⟩ Tryz.func85 (.t (.t (.two (.loop [.s 5] .no) .no))) (an:=[(36,.bool)])
theorem CP:FOk Tryz.prog 130 v7:=fk [(24,gM),(42,kC)] ⟨iE,oC,trivial⟩ Tryz.func130 .no
theorem rX:FOk Tryz.prog 79 me:=fk [(42,kC),(85,p8),(130,v7)] ⟨oC,tg,CP,trivial⟩ Tryz.func79 (.t (.t (.t (.two (.t (.loop [.slot 5 (.own 84 y84),.s 6] (.t (.join [.slot 5 (.own 84 y84)] .no .no)))) (.two (.t (.loop [.slot 5 (.own 84 y84),.s 7] (.t (.join [.slot 5 (.own 84 y84)] (.t (.join [.slot 5 (.own 84 y84)] .no .no)) .no)))) .no)))))
theorem nX:FOk Tryz.prog 80 lM:=fk [(90,qM)] ⟨wo,trivial⟩ Tryz.func80 (.t (.t (.t (.two (.loop [.s 3,.s 4] .no) .no))))
theorem gW:FOk Tryz.prog 81 ep:=fk [(85,p8)] ⟨tg,trivial⟩ Tryz.func81 (.t (.t (.two (.t (.loop [.slot 5 (.own 84 y84),.s 6] (.t (.two (.t (.loop [.slot 5 (.own 84 y84),.s 7] (.t (.join [.slot 5 (.own 84 y84)] .no .no)))) .no)))) .no)))
theorem mL:FOk Tryz.prog 82 j3:=fk [(85,p8)] ⟨tg,trivial⟩ Tryz.func82 (.t (.t (.two (.t (.loop [.slot 5 (.own 84 y84),.s 6] .no)) (.two (.t (.loop [.slot 5 (.own 84 y84),.s 7] .no)) .no))))
theorem ua:FOk Tryz.prog 131 ph:=fk [(24,gM),(132,qN)] ⟨iE,wq,trivial⟩ Tryz.func131 (.t (.two (.t (.loop [.s 3] .no)) .no))
theorem qQ:FOk Tryz.prog 83 lN:=fk [(24,gM),(78,ek),(81,ep),(82,j3),(131,ph)] ⟨iE,gV,gW,mL,ua,trivial⟩ Tryz.func83 (.t (.t (.t (.two (.t (.loop [.slot 5 (.own 84 y84),.s 6] .no)) .no))))
theorem th:FOk Tryz.prog 84 mZ:=fk [(24,gM),(78,ek),(81,ep),(82,j3),(131,ph)] ⟨iE,gV,gW,mL,ua,trivial⟩ Tryz.func84 (.t (.t (.t (.t (.two (.t (.loop [.slot 9 (.own 84 y84),.slot 10 (.own 84 y84),.s 11] (.t (.two (.join [.slot 9 (.own 84 y84)] .no .no) .no)))) .no)))))
theorem wt: ∀n,FOk Tryz.prog 43 (nR n)
 | 0=>ej (f:=nR 0) (enters_of Tryz.func43 (by kernel_rfl) rfl) rfl (fun d=>rfl)
 | n+1=>by
  have ih:=wt n
  exact fk [(43,(nR n)),(78,ek),(79,me),(80,lM),(81,ep),(82,j3),(83,lN),(84,mZ)] ⟨ih,gV,rX,nX,gW,mL,qQ,th,trivial⟩ Tryz.func43 .no
theorem Gh:FOk Tryz.prog 75 xX:=fk [] trivial Tryz.func75 (.t (.two (.t (.loop [.s 5] .no)) .no))
theorem wu:FOk Tryz.prog 39 pj:=fk [(23,eN),(38,nQ),(43,(nR cF)),(75,xX)] ⟨gl,rW,(wt cF),Gh,trivial⟩ Tryz.func39 .no
end R
namespace R
open Go.RowKit
open D
theorem uu:FOk Tryz.prog 13 ou:=fk [(23,eN),(37,rQ),(38,nQ),(39,pj)] ⟨gl,zB,rW,wu,trivial⟩ Tryz.func13 (.t (.t (.two (.t (.loop [.s 9] .no)) .no))) (tr:=[(3,0,.raw),(37,0,.raw),(81,0,.raw),(94,0,.raw)])
theorem wv: ∀n,FOk Tryz.prog 140 (nS n)
 | 0=>ej (f:=nS 0) (enters_of Tryz.func140 (by kernel_rfl) rfl) rfl (fun d=>rfl)
 | n+1=>by
  have ih:=wv n
  exact fk [(80,lM),(140,(nS n))] ⟨nX,ih,trivial⟩ Tryz.func140 (.t (.t (.t (.two (.t (.two (.t (.at [.slot 15 .boo] .no)) .no)) .no))))
theorem Gi:FOk Tryz.prog 115 xY:=fk [] trivial Tryz.func115 .no
theorem yn:FOk Tryz.prog 116 tf:=fk [(115,xY)] ⟨Gi,trivial⟩ Tryz.func116 .no
theorem Gj:FOk Tryz.prog 162 xZ:=fk [] trivial Tryz.func162 .no
theorem ub: ∀n,FOk Tryz.prog 173 (mf n)
 | 0=>ej (f:=mf 0) (enters_of Tryz.func173 (by kernel_rfl) rfl) rfl (fun d=>rfl)
 | n+1=>by
  have ih:=ub n
  exact fk [(116,tf),(162,xZ),(173,(mf n))] ⟨yn,Gj,ih,trivial⟩ Tryz.func173 .no
theorem rY: ∀n,FOk Tryz.prog 141 (k7 n)
 | 0=>ej (f:=k7 0) (enters_of Tryz.func141 (by kernel_rfl) rfl) rfl (fun d=>rfl)
 | n+1=>by
  have ih:=rY n
  exact fk [(80,lM),(116,tf),(141,(k7 n)),(173,(mf cF))] ⟨nX,yn,ih,(ub cF),trivial⟩ Tryz.func141 (.t (.t (.t (.two (.t (.two (.t (.at [.slot 15 .boo] .no)) .no)) .no))))
theorem xf:FOk Tryz.prog 91 qk:=fk [(23,eN),(140,(nS cF)),(141,(k7 cF))] ⟨gl,(wv cF),(rY cF),trivial⟩ Tryz.func91 .no
theorem CQ:FOk Tryz.prog 142 v8:=fk [] trivial Tryz.func142 (.t (.loop [.s 6,.par 4 [3] 3 y3] (.t (.two (.at [.par 4 [3] 3 y3] .no) .no))))
theorem uc: ∀n,FOk Tryz.prog 92 (mg n)
 | 0=>ej (f:=mg 0) (enters_of Tryz.func92 (by kernel_rfl) rfl) rfl (fun d=>rfl)
 | n+1=>by
  have ih:=uc n
  exact fk [(80,lM),(92,(mg n)),(142,v8)] ⟨nX,ih,CQ,trivial⟩ Tryz.func92 (.t (.t (.t (.two (.t (.t (.t (.t (.t (.t (.two (.t (.t (.t (.t (.t (.two (.t (.at [.box 11 [.boo,(.num .i64),(.num .i64)]] .no)) (.two (.t (.at [.box 11 [.boo,(.num .i64),(.num .i64)]] .no)) .no))))))) .no))))))) .no))))
theorem rZ:FOk Tryz.prog 50 mi:=fk [(91,qk),(92,(mg cF))] ⟨xf,(uc cF),trivial⟩ Tryz.func50 (.t (.t (.t (.t (.two (.t (.loop [.s 6,.s 7] (.t (.two (.at [.s 6] .no) .no)))) .no)))))
theorem Bx:FOk Tryz.prog 93 tU:=fk [] trivial Tryz.func93 (.t (.t (.join [.s 7] .no (.two (.t (.loop [.s 7,.s 8] (.t (.join [.s 7] .no .no)))) (.t (.two (.t (.loop [.s 9,.s 10] (.t (.join [.s 9] .no .no)))) .no))))))
theorem wz:FOk Tryz.prog 94 qO:=fk [] trivial Tryz.func94 (.t (.two (.t (.loop [.s 5] .no)) .no))
theorem xg:FOk Tryz.prog 95 ql:=fk [] trivial Tryz.func95 .no
theorem xh:FOk Tryz.prog 51 qm:=fk [(93,tU),(94,qO),(95,ql)] ⟨Bx,wz,xg,trivial⟩ Tryz.func51 (.t (.t (.t (.two (.t (.loop [.slot 7 (.own 3 y3),.s 8,.box 6 [(.num .i64),(.own 4 y4),(.own 37 y37)]] (.t (.two (.t (.two (.t (.loop [.slot 7 (.own 3 y3),.slot 9 (.own 3 y3),.s 10] (.t (.two (.t (.t (.join [.slot 7 (.own 3 y3),.s 12] .no .no))) .no)))) .no)) .no)))) .no))))
theorem xi:FOk Tryz.prog 143 qn:=fk [] trivial Tryz.func143 (.t (.t (.two (.t (.loop [.slot 1 (.own 3 y3),.s 2] .no)) .no)))
theorem zC:FOk Tryz.prog 96 rR:=fk [(94,qO),(143,qn)] ⟨wz,xi,trivial⟩ Tryz.func96 (.t (.t (.t (.t (.t (.two (.t (.loop [.slot 8 (.own 3 y3),.slot 9 (.own 3 y3),.s 10,.box 7 [(.num .i64),(.own 4 y4),(.own 37 y37)]] (.t (.two (.t (.two (.t (.loop [.slot 8 (.own 3 y3),.slot 9 (.own 3 y3),.slot 11 (.own 3 y3),.s 12] (.t (.two (.t (.t (.join [.slot 8 (.own 3 y3),.slot 9 (.own 3 y3),.s 14] .no .no))) .no)))) .no)) .no)))) .no))))))
end R
namespace R
open Go.RowKit
open D
theorem wA:FOk Tryz.prog 98 qP:=fk [] trivial Tryz.func98 (.t (.t (.two (.t (.loop [.row 3 4 y4,.s 4] (.t (.two (.t (.loop [.row 3 4 y4,.s 5] (.t (.two (.t (.loop [.row 3 4 y4,.s 6] (.t (.join [.row 3 4 y4] .no .no)))) .no)))) .no)))) .no)))
theorem Gk:FOk Tryz.prog 144 ya:=fk [] trivial Tryz.func144 (.t (.t (.two (.t (.loop [.slot 7 (.own 3 y3),.s 8] (.t (.join [.slot 7 (.own 3 y3)] .no .no)))) .no)))
theorem Js:FOk Tryz.prog 145 Bs:=fk [] trivial Tryz.func145 (.t (.two (.t (.loop [.s 5] .no)) .no))
theorem xj:FOk Tryz.prog 97 qo:=fk [(98,qP),(144,ya),(145,Bs)] ⟨wA,Gk,Js,trivial⟩ Tryz.func97 (.t (.t (.t (.two (.t (.loop [.slot 4 (.own 3 y3),.s 5] (.t (.two (.t (.two (.t (.at [.s 6] .no)) (.two (.t (.at [.s 6] .no)) .no))) .no)))) (.two (.t (.loop [.slot 4 (.own 3 y3),.s 7] (.t (.two (.t (.t (.two (.t (.loop [.slot 8 (.own 37 y37),.slot 9 (.own 3 y3),.s 10] (.t (.two (.at [.slot 8 (.own 37 y37),.slot 9 (.own 3 y3)] (.t (.t (.t (.two (.t (.loop [.s 12,.s 13] (.t (.two (.at [.s 12] .no) .no)))) (.two (.t (.at [.slot 8 (.own 37 y37),.s 12,.gone 11] .no)) .no)))))) .no)))) .no))) .no)))) .no)))))
theorem wB:FOk Tryz.prog 52 pn:=fk [(96,rR),(97,qo),(98,qP)] ⟨zC,xj,wA,trivial⟩ Tryz.func52 .no
theorem wC:FOk Tryz.prog 25 po:=fk [(50,mi),(51,qm),(52,pn)] ⟨rZ,xh,wB,trivial⟩ Tryz.func25 .no
theorem CR:FOk Tryz.prog 100 wc:=fk [(24,gM)] ⟨iE,trivial⟩ Tryz.func100 (.t (.t (.t (.two (.t (.loop [.s 4] (.t (.two (.t (.t (.loop [.s 5] .no))) .no)))) .no))))
theorem kN:FOk Tryz.prog 54 gT:=fk [(100,wc)] ⟨CR,trivial⟩ Tryz.func54 .no
theorem zD:FOk Tryz.prog 146 rS:=fk [] trivial Tryz.func146 .no
theorem CS:FOk Tryz.prog 147 we:=fk [] trivial Tryz.func147 (.t (.t (.two (.loop [.s 1,.slot 5 (.own 3 y3)] .no) .no)))
theorem CT:FOk Tryz.prog 148 wg:=fk [] trivial Tryz.func148 .no
theorem Gl:FOk Tryz.prog 149 yc:=fk [] trivial Tryz.func149 (.t (.two (.t (.loop [.s 5] .no)) .no))
theorem zF:FOk Tryz.prog 99 rT:=fk [(146,rS),(147,we),(148,wg),(149,yc)] ⟨zD,CS,CT,Gl,trivial⟩ Tryz.func99 (.t (.t (.two (.t (.loop [.slot 12 (.own 175 RR),.s 13] (.t (.two (.t (.t (.two (.two (.at [.slot 57 .boo] .no) .no) (.t (.loop [.slot 12 (.own 175 RR),.s 16] (.t (.join [.slot 12 (.own 175 RR)] .no .no))))))) .no)))) .no)))
theorem wD:FOk Tryz.prog 53 pq:=fk [(54,gT),(99,rT)] ⟨kN,zF,trivial⟩ Tryz.func53 .no
theorem qc:FOk Tryz.prog 26 kI:=fk [(53,pq),(54,gT)] ⟨wD,kN,trivial⟩ Tryz.func26 .no
theorem uv:FOk Tryz.prog 6 ox:=fk [(13,ou),(23,eN),(24,gM),(25,po),(26,kI)] ⟨uu,gl,iE,wC,qc,trivial⟩ Tryz.func6 .no
theorem CU:FOk Tryz.prog 55 wh:=fk [] trivial Tryz.func55 .no
end R
namespace R
open Go.RowKit
open D
theorem By:FOk Tryz.prog 27 tV:=fk [(55,wh)] ⟨CU,trivial⟩ Tryz.func27 (.t (.t (.two (.t (.loop [.row 3 94 y94,.s 4] .no)) .no)))
theorem Gn:FOk Tryz.prog 7 yd:=fk [(27,tV)] ⟨By,trivial⟩ Tryz.func7 .no
theorem dP:FOk Tryz.prog 29 dy:=fk [] trivial Tryz.func29 .no
theorem kq:FOk Tryz.prog 86 iO:=fk [(29,dy)] ⟨dP,trivial⟩ Tryz.func86 .no
theorem Gp:FOk Tryz.prog 45 ye:=fk [(86,iO)] ⟨kq,trivial⟩ Tryz.func45 (.t (.two (.t (.loop [.s 7] .no)) .no))
theorem Gq:FOk Tryz.prog 46 yf:=fk [(29,dy)] ⟨dP,trivial⟩ Tryz.func46 .no
theorem sd:FOk Tryz.prog 19 nT:=fk [(45,ye),(46,yf)] ⟨Gp,Gq,trivial⟩ Tryz.func19 (.t (.t (.t (.t (.two (.t (.loop [.slot 5 (.own 4 y4),.s 20,.box 4 [(.own 3 y3),(.own 81 y81)]] (.t (.t (.joinX [.slot 5 (.own 4 y4),.box 4 [(.own 3 y3),(.own 81 y81)]] (.t (.t (.t (.t (.join [.box 10 [(.num .i64),(.num .i64),(.num .i64),(.num .i64)]] .no .no))))) .no))))) .no)))))
theorem CV:FOk Tryz.prog 120 wi:=fk [(29,dy),(86,iO)] ⟨dP,kq,trivial⟩ Tryz.func120 (.t (.two (.t (.t (.t (.t (.t (.join [.slot 37 .boo] .no .no)))))) .no))
theorem kF:FOk Tryz.prog 121 ba:=Bp (f:=ba) (ej (f:=⟨ba.ps,ba.rs,ba.m,none⟩) (enters_of Tryz.func121 (by kernel_rfl) rfl) rfl (fun d=>rfl)) (El (V:=⟨tt,[],[(5,.raw)],8,[]⟩) QU trivial mixed Tryz.func121 rfl rfl (enters_of Tryz.func121 (by kernel_rfl) rfl) (bF rfl) .no (fun E bn xs=>by cases bn <;> kernel_rfl))
theorem nh:FOk Tryz.prog 68 lg:=fk [(120,wi),(121,ba)] ⟨CV,kF,trivial⟩ Tryz.func68 (.t (.t (.two (.t (.loop [.slot 3 (.own 104 U8),.s 13] (.t (.t (.two (.t (.t (.two (.t (.at [.s 6] (.two (.t (.at [.slot 19 .boo] .no)) (.t (.two (.t (.at [.slot 22 .boo] .no)) .no))))) .no))) .no))))) .no))) (tr:=[(157,104,y94)])
theorem Gr:FOk Tryz.prog 56 yg:=fk [(68,lg)] ⟨nh,trivial⟩ Tryz.func56 .no (tr:=[(157,104,y94)])
theorem gm:FOk Tryz.prog 28 eO:=fk [(56,yg)] ⟨Gr,trivial⟩ Tryz.func28 .no
theorem Gs:FOk Tryz.prog 133 yh:=fk [(29,dy)] ⟨dP,trivial⟩ Tryz.func133 .no
theorem kG:FOk Tryz.prog 87 iC:=fk [(29,dy),(133,yh)] ⟨dP,Gs,trivial⟩ Tryz.func87 (.t (.t (.two (.t (.loop [.s 14] .no)) (.two (.t (.loop [.s 25] .no)) .no))))
theorem gX:FOk Tryz.prog 134 et:=fk [] trivial Tryz.func134 (.t (.t (.t (.two (.t (.loop [.slot 3 (.own 84 y84),.s 4] .no)) .no))))
theorem Jt:FOk Tryz.prog 181 Bt:=fk [] trivial Tryz.func181 .no
theorem MX:FOk Tryz.prog 169 En:=fk [(181,Bt)] ⟨Jt,trivial⟩ Tryz.func169 (.t (.t (.two (.t (.loop [.s 13,.row 3 198 Vc] .no)) .no)))
end R
namespace R
open Go.RowKit
open D
theorem CW:FOk Tryz.prog 170 wj:=fk [(29,dy),(86,iO),(87,iC)] ⟨dP,kq,kG,trivial⟩ Tryz.func170 .no
theorem jw (a b:Int) (W:World):Calls Tryz.prog 195 #[.int .i64 a,.int .i64 b] W fun e w'=>e= .returned (.int .i64 (cmpI a b))/\w'=W:=by
 unfold cmpI
 by_cases h:a<b
 ·go_enter Tryz.func195,Tryz.ntmps195
  go_wp2
  go_ret
  simp[h]
 ·by_cases k:b<a
  ·go_enter Tryz.func195,Tryz.ntmps195
   go_wp2
   go_ret
   simp[h,k]
  ·go_enter Tryz.func195,Tryz.ntmps195
   go_wp2
   go_ret
   simp[h,k]
theorem jx (x y:Int×Int) (W:World):Calls Tryz.prog 183 #[.agg #[.int .i64 x.1,.int .i64 x.2],.agg #[.int .i64 y.1,.int .i64 y.2]] W fun e w'=>e= .returned (.int .i64 (F9 x y))/\ ∃q os',w'=Go.Sort.grow (W.drewN q) os':=by
 unfold F9
 have hcon:=jw
 generalize cmpI=cf at hcon⊢
 by_cases h:x.1=y.1
 ·rw[if_pos h]
  go_enter Tryz.func183,Tryz.ntmps183
  go_wp2_with (go_at_call 195;refine (hcon _ _ _).mono ?_;rintro e w' ⟨rfl,rfl⟩)
  go_ret
  exact ⟨rfl,0,_,by rw[Go.Sort.alloc_eq_grow,Go.Sort.alloc_eq_grow,Go.Sort.grow_grow];rfl⟩
 ·rw[if_neg h]
  go_enter Tryz.func183,Tryz.ntmps183
  go_wp2_with (go_at_call 195;refine (hcon _ _ _).mono ?_;rintro e w' ⟨rfl,rfl⟩)
  go_ret
  exact ⟨rfl,0,_,by rw[Go.Sort.alloc_eq_grow,Go.Sort.alloc_eq_grow,Go.Sort.grow_grow];rfl⟩
theorem jN:FOk Tryz.prog 182 eP:=Jo xd (by intro w;kernel_rfl) (by intro w;kernel_rfl) MT MU (enters_of Tryz.func183 (by kernel_rfl) rfl) (fun _ _ _ _ _ _ _ _ x y=>jx x y _) (enters_of Tryz.func182 (by kernel_rfl) rfl) 84
theorem wE:FOk Tryz.prog 195 pv:=fk [] trivial Tryz.func195 .no
theorem oD:FOk Tryz.prog 183 kD:=fk [(195,pv)] ⟨wE,trivial⟩ Tryz.func183 .no
theorem kt:FOk Tryz.prog 184 eW:=fk [] trivial Tryz.func184 (.t (.t (.two (.t (.loop [.s 3] (.t (.two (.t (.two (.t (.two (.t (.loop [.s 3,.s 5,.row 0 84 y84] (.t (.two (.at [.s 3,.row 0 84 y84] .no) .no)))) .no)) .no)) .no)))) .no))) (an:=[(28,.raw),(56,.raw),(59,.raw)])
theorem qR:FOk Tryz.prog 171 nU:=fk [(182,eP),(183,kD),(184,eW)] ⟨jN,oD,kt,trivial⟩ Tryz.func171 .no
theorem se:FOk Tryz.prog 135 mj:=fk [(86,iO),(87,iC),(169,En),(170,wj),(171,nU)] ⟨kq,kG,MX,CW,qR,trivial⟩ Tryz.func135 (.t (.t (.t (.two (.t (.loop [.slot 5 (.own 84 y84),.s 22] (.t (.t (.two (.at [.slot 5 (.own 84 y84)] (.t (.two (.t (.loop [.slot 5 (.own 84 y84),.s 29] (.t (.t (.two (.at [.slot 5 (.own 84 y84)] .no) .no))))) .no))) .no))))) .no))))
theorem gY:FOk Tryz.prog 136 eu:=fk [(171,nU)] ⟨qR,trivial⟩ Tryz.func136 (.t (.t (.two (.t (.loop [.slot 5 (.own 84 y84),.s 14] (.t (.t (.two (.t (.t (.loop [.slot 5 (.own 84 y84),.s 20] (.t (.t (.join [.slot 5 (.own 84 y84)] .no .no)))))) .no))))) .no)))
theorem mM:FOk Tryz.prog 137 j4:=fk [(171,nU)] ⟨qR,trivial⟩ Tryz.func137 .no
theorem ud:FOk Tryz.prog 172 pw:=fk [(29,dy),(183,kD)] ⟨dP,oD,trivial⟩ Tryz.func172 (.t (.two (.t (.loop [.s 7] .no)) .no))
theorem qS:FOk Tryz.prog 138 lO:=fk [(29,dy),(134,et),(136,eu),(137,j4),(172,pw)] ⟨dP,gX,gY,mM,ud,trivial⟩ Tryz.func138 (.t (.t (.t (.loop [.slot 5 (.own 84 y84)] .no))))
theorem tj:FOk Tryz.prog 139 na:=fk [(29,dy),(134,et),(136,eu),(137,j4),(172,pw)] ⟨dP,gX,gY,mM,ud,trivial⟩ Tryz.func139 (.t (.t (.t (.t (.two (.t (.loop [.slot 9 (.own 84 y84),.slot 10 (.own 84 y84),.s 11] (.t (.two (.join [.slot 9 (.own 84 y84)] .no .no) .no)))) .no)))))
theorem ni: ∀n,FOk Tryz.prog 88 (gN n)
 | 0=>ej (f:=gN 0) (enters_of Tryz.func88 (by kernel_rfl) rfl) rfl (fun d=>rfl)
 | n+1=>by
  have ih:=ni n
  exact fk [(88,(gN n)),(134,et),(135,mj),(136,eu),(137,j4),(138,lO),(139,na)] ⟨ih,gX,se,gY,mM,qS,tj,trivial⟩ Tryz.func88 .no (tr:=[(157,104,y94)])
theorem uw:FOk Tryz.prog 47 oy:=fk [(28,eO),(68,lg),(87,iC),(88,(gN cF))] ⟨gm,nh,kG,(ni cF),trivial⟩ Tryz.func47 .no (tr:=[(157,104,y94)])
theorem k8:FOk Tryz.prog 89 fL:=fk [] trivial Tryz.func89 (.t (.two (.t (.loop [.s 8] .no)) .no))
theorem jO:FOk Tryz.prog 48 eQ:=fk [(89,fL)] ⟨k8,trivial⟩ Tryz.func48 .no
theorem wF:FOk Tryz.prog 21 px:=fk [(19,nT),(47,oy),(48,eQ)] ⟨sd,uw,jO,trivial⟩ Tryz.func21 .no
end R
namespace R
open Go.RowKit
open D
theorem ue:FOk Tryz.prog 122 py:=fk [] trivial Tryz.func122 .no
theorem wG: ∀n,FOk Tryz.prog 69 (nV n)
 | 0=>ej (f:=nV 0) (enters_of Tryz.func69 (by kernel_rfl) rfl) rfl (fun d=>rfl)
 | n+1=>by
  have ih:=wG n
  exact fk [(69,(nV n)),(122,py)] ⟨ih,ue,trivial⟩ Tryz.func69 (.t (.t (.t (.two (.t (.loop [.slot 3 (.own 37 y37),.s 16] (.t (.t (.two (.t (.t (.loop [.slot 3 (.own 37 y37),.s 6] .no))) .no))))) .no))))
theorem zG:FOk Tryz.prog 166 uR:=fk [] trivial Tryz.func166 (.t (.t (.two (.t (.loop [.row 5 58 y58,.s 11] .no)) .no)))
theorem Gt:FOk Tryz.prog 167 yi:=fk [(166,uR)] ⟨zG,trivial⟩ Tryz.func167 (.t (.t (.two (.t (.loop [.s 14,.row 5 58 y58] (.t (.t (.two (.t (.t (.loop [.s 22,.row 5 58 y58] (.t (.t (.two (.at [.row 5 58 y58] (.t (.t (.t (.loop [.s 38,.row 5 58 y58] .no))))) .no)))))) .no))))) .no)))
theorem Gu:FOk Tryz.prog 168 yj:=fk [(166,uR)] ⟨zG,trivial⟩ Tryz.func168 (.t (.t (.two (.t (.loop [.row 5 58 y58,.s 13] (.t (.t (.two (.t (.t (.loop [.row 5 58 y58,.s 21] .no))) .no))))) .no)))
theorem qu: ∀n,FOk Tryz.prog 123 (j5 n)
 | 0=>ej (f:=j5 0) (enters_of Tryz.func123 (by kernel_rfl) rfl) rfl (fun d=>rfl)
 | n+1=>by
  have ih:=qu n
  exact fk [(123,(j5 n)),(166,uR),(167,yi),(168,yj)] ⟨ih,zG,Gt,Gu,trivial⟩ Tryz.func123 (.t (.t (.t (.two (.t (.at [.slot 6 (.own 58 y58)] (.t (.t (.t (.two (.t (.loop [.s 31,.row 6 58 y58] .no)) (.t (.t (.t (.t (.t (.two (.t (.t (.t (.loop [.slot 6 (.own 58 y58),.s 102] .no)))) (.t (.two (.t (.t (.t (.loop [.slot 6 (.own 58 y58),.slot 11 (.own 58 y58),.s 12] (.t (.two (.two (.t (.at [.slot 6 (.own 58 y58)] .no)) .no) .no)))))) .no)))))))))))))) .no)))) (tr:=[(157,104,y94)])
theorem uy:FOk Tryz.prog 70 oz:=fk [(123,(j5 cF))] ⟨(qu cF),trivial⟩ Tryz.func70 .no (tr:=[(157,104,y94)])
theorem zH:FOk Tryz.prog 36 rU:=fk [(28,eO),(29,dy),(68,lg),(69,(nV cF)),(70,oz)] ⟨gm,dP,nh,(wG cF),uy,trivial⟩ Tryz.func36 (.t (.t (.t (.t (.two (.t (.loop [.slot 5 (.own 37 (.bag y37)),.s 7] (.t (.two (.t (.loop [.slot 5 (.own 37 (.bag y37)),.s 29] (.t (.t (.two (.at [.slot 5 (.own 37 (.bag y37))] .no) .no))))) .no)))) .no))))) (an:=[(18,.bag y37),(38,.bag y37)]) (tr:=[(3,0,.bool),(37,0,.bool),(94,0,.bool),(104,0,.bool)])
theorem uz:FOk Tryz.prog 12 oA:=fk [(19,nT),(21,px),(28,eO),(36,rU)] ⟨sd,wF,gm,zH,trivial⟩ Tryz.func12 (.t (.t (.two (.t (.loop [.s 19] .no)) .no))) (tr:=[(3,0,.raw),(37,0,.raw),(81,0,.raw),(94,0,.raw)])
theorem qv: ∀n,FOk Tryz.prog 150 (j6 n)
 | 0=>ej (f:=j6 0) (enters_of Tryz.func150 (by kernel_rfl) rfl) rfl (fun d=>rfl)
 | n+1=>by
  have ih:=qv n
  exact fk [(150,(j6 n))] ⟨ih,trivial⟩ Tryz.func150 (.t (.t (.two (.t (.loop [.s 3,.s 11] (.t (.t (.two (.at [.s 3] .no) .no))))) .no))) (tr:=[(157,104,y94)])
theorem MY:FOk Tryz.prog 185 Eo:=fk [] trivial Tryz.func185 .no (tr:=[(157,104,y94)])
theorem uf: ∀n,FOk Tryz.prog 174 (mn n)
 | 0=>ej (f:=mn 0) (enters_of Tryz.func174 (by kernel_rfl) rfl) rfl (fun d=>rfl)
 | n+1=>by
  have ih:=uf n
  exact fk [(174,(mn n)),(185,Eo)] ⟨ih,MY,trivial⟩ Tryz.func174 .no (tr:=[(157,104,y94)])
theorem pC: ∀n,FOk Tryz.prog 151 (jo n)
 | 0=>ej (f:=jo 0) (enters_of Tryz.func151 (by kernel_rfl) rfl) rfl (fun d=>rfl)
 | n+1=>by
  have ih:=pC n
  exact fk [(151,(jo n)),(174,(mn cF))] ⟨ih,(uf cF),trivial⟩ Tryz.func151 (.t (.t (.t (.two (.t (.loop [.s 41,.box 3 [(.num .i64),(.num .i64),(.num .i64),(.num .i64),(.own 104 (.tree 157 104 y94))]] .no)) .no)))) (an:=[(52,t104)]) (tr:=[(157,104,y94)])
theorem oE: ∀n,FOk Tryz.prog 175 (iD n)
 | 0=>ej (f:=iD 0) (enters_of Tryz.func175 (by kernel_rfl) rfl) rfl (fun d=>rfl)
 | n+1=>by
  have ih:=oE n
  exact fk [(175,(iD n))] ⟨ih,trivial⟩ Tryz.func175 (.two (.t (.loop [.s 11,.box 1 [(.own 94 y94)]] .no)) .no) (tr:=[(157,104,y94)])
theorem zI:FOk Tryz.prog 152 rV:=fk [(175,(iD cF))] ⟨(oE cF),trivial⟩ Tryz.func152 .no (tr:=[(157,104,y94)])
theorem xk:FOk Tryz.prog 101 qp:=fk [(28,eO),(68,lg),(150,(j6 cF)),(151,(jo cF)),(152,rV)] ⟨gm,nh,(qv cF),(pC cF),zI,trivial⟩ Tryz.func101 .no (tr:=[(157,104,y94)])
theorem qd:FOk Tryz.prog 153 kJ:=fk [] trivial Tryz.func153 (.t (.loop [.s 12,.par 4 [3] 3 y3] (.t (.t (.two (.at [.par 4 [3] 3 y3] .no) .no)))))
end R
end Go.Proofs.YtfbgafccgaoepaaGreat
