/- FnContainment: for every input the law returns true and changes nothing that was there. Part 5 of 8. -/
import Derived.Test.YtfbgafccgaoepaaGreatKC3
set_option synthInstance.maxSize 20000
set_option synthInstance.maxHeartbeats 2000000
set_option linter.unusedVariables false
set_option linter.unusedSimpArgs false
set_option linter.unnecessarySimpa false
set_option linter.unusedSectionVars false
set_option maxRecDepth 1000000
namespace Go.Proofs.YtfbgafccgaoepaaGreat
open Go.IntKind (i64)
namespace R
open Go.RowKit
open D
def MP (i:Nat):(p:PM)->p.den->AV
 | .rd t,d=>KJ i t d
 | .ow t,d=>K5 (jV i [] t d)
 | .fn a b,d=>.one (.fn ⟨i,[]⟩ a b d)
 | .cap T t,d=>.one (.fz ⟨i,[]⟩ T t d 0)
 | .capf T a b,d=>.one (.fzf ⟨i,[]⟩ T a b d)
 | .ptr _ _,_=>.one (.ptr ⟨i,[]⟩ 0)
 | .eat t,d=>K5 (jV i [] t d)
 | .fk g,_=>.one (.val (.func (.func g) #[] #[]))
 | .crs _ _,_=>.one (.ptr ⟨i,[]⟩ 0)
 | .kb _ _ _,_=>.one (.own ⟨i,[]⟩)
 | .kc _,_=>.one (.own ⟨i,[]⟩)
def HJ (q i:Nat):(p:PM)->p.den->List (Hdr×Chk)
 | .ow t,d=>kA i [] t d
 | .ptr T t,d=>[(⟨i,[]⟩,.box T t d)]
 | .eat t,d=>kA i [] t d
 | .crs T E,d=>[(⟨i,[]⟩,.blk T [.rd ⟨q,[]⟩ (.sl E (.int .u8)) d.1,.val (.int .i64 d.2.1),.val (.int .i64 d.2.2)])]
 | .kb g T t,d=>[(⟨i,[]⟩,.clo g [] [.ptr ⟨q,[]⟩ 0]),(⟨q,[]⟩,.box T t d)]
 | .kc g,_=>[(⟨i,[]⟩,.clo g [] [.ptr ⟨q,[]⟩ 0])]
 | _,_=>[]
def HK:(i:Nat)->(ps:List PM)->denP ps->List (Nat×Nat×AV)
 | _,[],_=>[]
 | i,p::ps,d=>(i,i,MP i p d.1)::HK (i+1) ps d.2
def D3 (q:Nat):(i:Nat)->(ps:List PM)->denP ps->List Ent
 | _,[],_=>[]
 | i,p::ps,d=>(HJ q i p d.1).map (fun g=>(g.1,i,g.2))++D3 q (i+1) ps d.2
def yy (ps:List PM) (d:denP ps):Sg:=⟨HK 0 ps d,D3 ps.length 0 ps d,ps.length+1⟩
def Z1 (P:Program) (w0:World) (J:Hp) (θ:Th) (n i:Nat):(p:PM)->Value->p.den->Prop
 | .ow t,v,d=>(jV i [] t d).2.map (·.v θ)=jU t.isProd v/\ ∀x∈(jV i [] t d).2,x.ok P w0 J θ n
 | .ptr _ _,v,_=>hv θ ⟨i,[]⟩=v/\i<n
 | .crs _ _,v,_=>hv θ ⟨i,[]⟩=v/\i<n
 | _,_,_=>True
def StF (P:Program) (w0:World) (J:Hp) (θ:Th) (n:Nat):(i:Nat)->(ps:List PM)->List Value->denP ps->Prop
 | i,p::ps,v::vs,d=>Z1 P w0 J θ n i p v d.1/\StF P w0 J θ n (i+1) ps vs d.2
 | _,_,_,_=>True
section
variable {P:Program} {w0 w:World} {J:Hp} {θ:Th} {n:Nat} {C:List Ch}
theorem wF {id:Nat} {pre:List Nat} {t:Ty} {d:t.den} : ∀g∈kA id pre t d,Po g.2:=gW t d 0
theorem MQ {p:PM} {i:Nat} {v:Value} {d:p.den} {ps:List PM} {vs:List Value} {e:denP ps} {γ:Value} {q:Nat} (hi:i<n) (hq:q<n) (hγ:θ q=γ) (hθ:θ i=v) (h:Y0 P w0 J γ p v d) (hS:St J w0 w (owCh γ (p::ps) (v::vs) (d,e)++C)) :
  (∀chs,(MP i p d).ok P w0 J θ n chs)/\(MP i p d).v θ=v/\St J w0 w ((HJ q i p d).map (fun g=>toCh P θ (g.1,i,g.2))++(owCh γ ps vs e++C))/\(∀g∈HJ q i p d,∀chs,okE P w0 J θ n chs (g.1,i,g.2))/\Z1 P w0 J θ n i p v d:=by
 cases p with
 | rd t =>
  have ⟨cs,h1,h2⟩:=h
  have hav:=fun chs=>oC (P:=P) (w0:=w0) (J:=J) (chs:=chs) hi hθ t d cs h2 h1
  exact ⟨fun chs=>(hav chs).1,(hav []).2,hS,fun g hg=>(by cases hg),trivial⟩
 | fn a b =>
  have hh:hv θ ⟨i,[]⟩=v:=hθ
  exact ⟨fun chs=>⟨hi,by rw[hh];exact h⟩,hh,hS,fun g hg=>(by cases hg),trivial⟩
 | cap T t =>
  obtain ⟨b,rfl,cells,h1,h2⟩:=h
  have hh:hv θ ⟨i,[]⟩= .pointer (some ⟨b,0,none⟩):=hθ
  refine ⟨fun chs=>⟨hi,cells,by rw[hh];exact h1,h2⟩,?_,hS,fun g hg=>(by cases hg),trivial⟩
  show Value.pointer (some ⟨bk (hv θ ⟨i,[]⟩),0,none⟩)=_
  rw[hh];rfl
 | capf T x y =>
  obtain ⟨b,rfl,u,h1,h2⟩:=h
  have hh:hv θ ⟨i,[]⟩= .pointer (some ⟨b,0,none⟩):=hθ
  refine ⟨fun chs=>⟨hi,u,by rw[hh];exact h1,h2⟩,?_,hS,fun g hg=>(by cases hg),trivial⟩
  show Value.pointer (some ⟨bk (hv θ ⟨i,[]⟩),0,none⟩)=_
  rw[hh];rfl
 | ptr T t =>
  obtain ⟨b,rfl⟩:=h
  have hh:hv θ ⟨i,[]⟩= .pointer (some ⟨b,0,none⟩):=hθ
  refine ⟨fun chs=>hi,?_,?_,fun g hg chs=>by cases ak hg;exact qF trivial hi hi,hh,hi⟩
  ·show Value.pointer (some ⟨bk (hv θ ⟨i,[]⟩),0,none⟩)=_
   rw[hh];rfl
  ·show St J w0 w (Ch.box (bk (hv θ ⟨i,[]⟩)) T t.rep d::_)
   rw[hh];exact hS
 | ow t =>
  have ⟨k1,k2,k3,k4,k5⟩:=uf (P:=P) (m:=i) (pre:=[]) (id:=i) (n:=n) hi (show hv θ ⟨i,[]⟩=v from hθ) h hS
  have q:=fun chs=>BI (P:=P) (w0:=w0) (J:=J) (θ:=θ) (n:=n) (chs:=chs) (jV i [] t d) (fun e=>qC e) k1
  exact ⟨fun chs=>(q chs).1,(q []).2.trans k3,k5,fun g hg chs=>qF (wF g hg) (by rw[k4 g hg];exact hi) hi,k2,k1⟩
 | eat t =>
  have ⟨k1,k2,k3,k4,k5⟩:=uf (P:=P) (m:=i) (pre:=[]) (id:=i) (n:=n) hi (show hv θ ⟨i,[]⟩=v from hθ) h hS
  have q:=fun chs=>BI (P:=P) (w0:=w0) (J:=J) (θ:=θ) (n:=n) (chs:=chs) (jV i [] t d) (fun e=>qC e) k1
  exact ⟨fun chs=>(q chs).1,(q []).2.trans k3,k5,fun g hg chs=>qF (wF g hg) (by rw[k4 g hg];exact hi) hi,trivial⟩
 | fk g =>
  cases h
  exact ⟨fun chs=>rfl,rfl,hS,fun g hg=>(by cases hg),trivial⟩
 | crs T E =>
  obtain ⟨⟨b,rfl⟩,hrd⟩:=h
  have hh:hv θ ⟨i,[]⟩= .pointer (some ⟨b,0,none⟩):=hθ
  have hg0:hv θ ⟨q,[]⟩=γ:=hγ
  refine ⟨fun chs=>hi,?_,?_,fun g hg chs=>?_,hh,hi⟩
  ·show Value.pointer (some ⟨bk (hv θ ⟨i,[]⟩),0,none⟩)=_
   rw[hh];rfl
  ·show St J w0 w (Ch.blk (bk (hv θ ⟨i,[]⟩)) [hv θ ⟨q,[]⟩,.int .i64 d.2.1,.int .i64 d.2.2] T::_)
   rw[hh,hg0];exact hS
  ·cases ak hg
   refine ⟨hi,hi,fun z hz=>?_⟩
   rcases az hz with rfl | hz
   ·exact ⟨hq,by grind⟩
   ·rcases az hz with rfl | hz
    ·rfl
    ·cases ak hz
     rfl
 | kb g T t =>
  obtain ⟨rfl,b,hb⟩:=h
  have hh:hv θ ⟨i,[]⟩= .func (.func g) #[] #[γ]:=hθ
  have hg0:hv θ ⟨q,[]⟩=γ:=hγ
  have hp:Value.pointer (some ⟨bk (hv θ ⟨q,[]⟩),0,none⟩)=γ:=by rw[hg0,hb];rfl
  refine ⟨fun chs=>⟨hi,by rw[hh];rfl⟩,hh,?_,fun g' hg chs=>?_,trivial⟩
  ·show St J w0 w (Ch.emp::Ch.box (bk (hv θ ⟨q,[]⟩)) T t.rep d::_)
   rw[hg0]
   exact St.emp.2 hS
  ·rcases az hg with rfl | hg
   ·refine ⟨hi,hi,fun y hy=>(by cases hy),fun x hx=>?_,?_⟩
    ·cases ak hx
     exact hq
    ·show hv θ ⟨i,[]⟩= .func (.func g) #[] #[Value.pointer (some ⟨bk (hv θ ⟨q,[]⟩),0,none⟩)]
     grind
   ·cases ak hg
    exact qF trivial hq hi
 | kc g =>
  obtain ⟨rfl,b,hb⟩:=h
  have hh:hv θ ⟨i,[]⟩= .func (.func g) #[] #[γ]:=hθ
  have hg0:hv θ ⟨q,[]⟩=γ:=hγ
  have hp:Value.pointer (some ⟨bk (hv θ ⟨q,[]⟩),0,none⟩)=γ:=by rw[hg0,hb];rfl
  refine ⟨fun chs=>⟨hi,by rw[hh];rfl⟩,hh,?_,fun g' hg chs=>?_,trivial⟩
  ·exact St.emp.2 hS
  ·cases ak hg
   refine ⟨hi,hi,fun y hy=>(by cases hy),fun x hx=>?_,?_⟩
   ·cases ak hx
    exact hq
   ·show hv θ ⟨i,[]⟩= .func (.func g) #[] #[Value.pointer (some ⟨bk (hv θ ⟨q,[]⟩),0,none⟩)]
    grind
theorem HL {γ:Value} {q:Nat} (hq:q<n) (hγ:θ q=γ): ∀ {ps:List PM} {i:Nat} {vs:List Value} {d:denP ps} {C:List Ch},PArgs P w0 J γ ps vs d->(∀j v,vs[j]? =some v->θ (i+j)=v)->i+ps.length<=n->St J w0 w (owCh γ ps vs d++C)->
  (∀e∈HK i ps d,(∀chs,e.2.2.ok P w0 J θ n chs)/\i<=e.1/\e.2.1=e.1/\e.1<i+ps.length/\vs[e.1 - i]? =some (e.2.2.v θ))/\((HK i ps d).Pairwise fun a b=>a.2.1≠b.2.1)/\St J w0 w ((D3 q i ps d).map (toCh P θ)++C)/\(∀e∈D3 q i ps d,∀chs,okE P w0 J θ n chs e)/\StF P w0 J θ n i ps vs d
 | [],i,vs,d,C,h,_,_,hS=>by
  exact ⟨fun e he=>(by cases he),List.Pairwise.nil,hS,fun e he=>(by cases he),trivial⟩
 | p::ps,i,vs,d,C,h,hθ,hn,hS=>by
  obtain ⟨v,r,rfl,h1,h3⟩:=h
  rw[aB] at hn
  have ⟨a1,a2,a3,a4,a5⟩:=MQ (n:=n) (i:=i) (θ:=θ) (e:=d.2) (show i<n by omega) hq hγ (hθ 0 v rfl) h1 hS
  have ⟨k1,k2,k3,k4,k5⟩:=HL hq hγ (i:=i+1) h3 (fun j u hj=>by
   have:=hθ (j+1) u hj
   grind) (by omega) (a3.perm (List.perm_append_comm_assoc _ _ _))
  refine ⟨fun e he=>?_,List.pairwise_cons.2 ⟨fun e he hh=>?_,k2⟩,?_,fun e he chs=>?_,a5,k5⟩
  ·rcases az he with rfl | he
   ·grind
   grind
  ·grind
  ·show St J w0 w (((HJ q i p d.1).map _++D3 q (i+1) ps d.2).map (toCh P θ)++C)
   rw[aM,List.map_map]
   refine k3.perm ?_
   rw[aD]
   exact List.perm_append_comm_assoc _ _ _
  ·rcases aH he with he | he
   ·obtain ⟨g,hg,rfl⟩:=List.mem_map.1 he
    grind
   grind
theorem D4 {γ:Value} : ∀ {ps:List PM} {vs:List Value} {d:denP ps},PArgs P w0 J γ ps vs d->vs.length=ps.length
 | [],vs,d,h=>by
  have h:vs= []:=h
  grind
 | p::ps,vs,d,h=>by
  obtain ⟨v,r,rfl,h1,h3⟩:=h
  simpa using D4 h3
end
def UU (tt:TT) (s:Sg):ResultVar->Option AV
 | .tmp t=>look s.env t
 | .cell p T=>(ON (look s.env p)).bind fun h=>(td tt T).bind fun d=>(pj h s.chs).bind fun b=>bw (Nat.beq b.cells.length d.n) (YY d.agg b.cells)
theorem UV {v:Option AV} {h:Hdr} (k:ON v=some h):v=some (.one (.ptr h 0)):=by
 unfold ON at k
 grind[aq,ae]
section
variable {P:Program} {I:Hp} {w0 w:World} {F:Ch} {J:Hp} {θ:Th} {n:Nat} {s:Sg} {a:Act} {tt:TT}
theorem UW (ha:Agr n a (envL θ s)) {t g:Nat} {T E:TypeId} {v:Value} {cs:List Ch} (h:(envL θ s).lookup t=some (.pointer (some ⟨g,0,none⟩))) (hs:St J w0 w cs) (i:Nat) (hi:cs[i]? =some (Ch.blk g [v] E)) (hT:TI P T false 1):Fb P a w (.cell t T) v:=by
 refine ⟨_,ha.2.2 t _ h,?_⟩
 have hg:=hs.heap i hi
 have hc:w.cell? ⟨g,0,none⟩=some v:=by simp[World.cell?,hg]
 simp[loadVar,Sem.run_bind,hT.run_agg,load,Sem.run,hc,Result.andThen]
theorem QE (hT:TTok P tt) (hS:Sim P I w0 F n J θ s a w) {r:ResultVar} {v:AV} (h:UU tt s r=some v):Fb P a w r (v.v θ)/\v.ok P w0 J θ s.nxt s.chs:=by
 cases r with
 | tmp t=>exact ⟨Tk hS.agr (gl h),bu (x:=.tmp t) hS.fine h⟩
 | cell p T =>
  have ⟨hh,h1,h⟩:=bind_some (show (ON (look s.env p)).bind _=some v from h)
  have ⟨d,hd,h⟩:=bind_some h
  have ⟨b,hb,h⟩:=bind_some h
  have ⟨hl,h⟩:=aj h
  have hl:=aq hl
  have hp:=jq hb
  have hok:=hS.fine.chs _ (hp.mem_iff.2 (List.mem_cons_self ..))
  have ⟨k1,k2⟩:=KW (chs:=s.chs) h hok.2.2
  refine ⟨?_,k1⟩
  have hlk:(envL θ s).lookup p=some (.pointer (some ⟨bk (hv θ hh),0,none⟩)):=gl (UV h1)
  have hst:=hS.st.perm ((hp.map (toCh P θ)).append_right [F])
  have hti:=(hT.get hd).ti
  cases hagg:d.agg with
  | true =>
   rw[hagg] at k2 hti
   rw[<-k2]
   exact OT hS.agr hlk hst 0 rfl hti (by grind)
  | false =>
   rw[hagg] at k2 hti h
   have h1':d.n=1:=by
    have:=(hT.get hd).one
    rw[hagg] at this
    simpa using this
   have ⟨x,hx⟩:=List.length_eq_one_iff.1 (hl.trans h1')
   rw[h1'] at hti
   rw[hx] at k2
   rw[<-k2]
   have hst2:St J w0 w (Ch.blk (bk (hv θ hh)) [x.v θ] b.T::(b.rest.map (toCh P θ)++ [F])):=by
    have:(toCh P θ (b.ent hh))=Ch.blk (bk (hv θ hh)) (b.cells.map (·.v θ)) b.T:=rfl
    rw[hx] at this
    rw[<-show toCh P θ (b.ent hh)=Ch.blk (bk (hv θ hh)) [x.v θ] b.T from this]
    exact hst
   exact UW hS.agr hlk hst2 0 rfl hti
end
def FX:(ts:List Ty)->List AV->List Ent->Option (iV ts×List Ent×List Ent)
 | [],[],chs=>some ((),[],chs)
 | t::ts,v::vs,chs=>bw (mI v==t.isProd) ((kz v).bind fun cs=>(cy t cs chs).bind fun q=>bw q.cells.isEmpty ((FX ts vs q.rest).bind fun r=>some ((q.d,r.1),q.used++r.2.1,r.2.2)))
 | _,_,_=>none
def vK:(ts:List Ty)->List Value->iV ts->List Ch
 | t::ts,v::vs,d=>Ch.own t.rep (jU t.isProd v) d.1::vK ts vs d.2
 | _,_,_=>[]
theorem AB {P:Program} {w0:World} {J:Hp} {θ:Th} {n:Nat} {chs0:List Ent} : ∀ {ts:List Ty} {vs:List AV} {chs:List Ent} {r:iV ts×List Ent×List Ent},FX ts vs chs=some r->(∀v∈vs,v.ok P w0 J θ n chs0)->
  chs.Perm (r.2.1++r.2.2)/\vs.length=ts.length/\qy J (r.2.1.map (toCh P θ)) (vK ts (vs.map (·.v θ)) r.1)/\ ∀(i:Nat) t v,ts[i]? =some t->vs[i]? =some v->nC (v.v θ)=t.isProd
 | [],[],chs,r,h,_=>by
  cases ae (show some _=some r from h)
  exact ⟨List.Perm.refl _,rfl,tU,fun i t v ht=>by grind⟩
 | t::ts,v::vs,chs,r,h,hv'=>by
  have ⟨ha,h⟩:=aj (show bw (mI v==t.isProd) _=some r from h)
  have ha:mI v=t.isProd:=by simpa using ha
  have ⟨cs,hcs,h⟩:=bind_some h
  have ⟨q,hq,h⟩:=bind_some h
  have ⟨he,h⟩:=aj h
  have ⟨r',hr,h⟩:=bind_some h
  cases ae h
  have ⟨c1,c2⟩:=iy hcs (hv' v (by simp))
  have ⟨p,cc,e1,e2⟩:=gT (J:=J) (θ:=θ) hq c1
  rw[List.isEmpty_iff.1 he,List.append_nil] at e1
  subst e1
  have ⟨k1,k2,k3,k4⟩:=AB hr fun x hx=>hv' x (by grind)
  have hcell:jU t.isProd (v.v θ)=cs.map (·.v θ)/\nC (v.v θ)=t.isProd:=by
   rw[<-ha]
   cases v with
   | agg xs =>
    cases ae (show some xs=some cs from hcs)
    exact ⟨rfl,rfl⟩
   | one x =>
    cases ae (show some [x] =some cs from hcs)
    refine ⟨rfl,?_⟩
    have h1:=LV.one (show LV.ok P w0 J θ n x from hv' (.one x) (by simp))
    show nC (x.v θ)=false
    generalize x.v θ=u at h1
    cases u <;> first | rfl | cases h1
   | _=>cases hcs
  refine ⟨by rw[aD];exact p.trans (k1.append_left _),by grind,?_,fun i t' v' ht hv0=>?_⟩
  ·show qy J ((q.used++r'.2.1).map _) (Ch.own t.rep (jU t.isProd (v.v θ)) q.d::vK ts (vs.map _) r'.1)
   rw[aM,hcell.1]
   exact qz e2 k3
  grind
 | [],_::_,chs,r,h,_=>by cases h
 | _::_,[],chs,r,h,_=>by cases h
def YM:List Value->Value
 | [v] =>v
 | vs=>.tuple vs.toArray
def HM (P:Program) (a:Act) (w:World):List ResultVar->List Value->Prop
 | [],vs=>vs= []
 | r::rs,vs=> ∃v us,vs=v::us/\Fb P a w r v/\HM P a w rs us
theorem wG {P:Program} {a:Act} {w:World} {f:ResultVar->Sem Value} (hf: ∀r v,Fb P a w r v->(f r).run P w= .ok v w): ∀ {l:List ResultVar} {vs:List Value},HM P a w l vs->(l.mapM f).run P w= .ok vs w
 | [],vs,h=>by
  have h:vs= []:=h
  simp_all
 | r::l,vs,h=>by
  obtain ⟨v,us,rfl,h1,h2⟩:=h
  rw[List.mapM_cons,Sem.run_bind,hf r v h1]
  simp only[Result.andThen_ok,Sem.run_bind,wG hf h2]
  rfl
def YN (a:Act) (r:ResultVar):Sem Value:=match r with
 | .tmp t=>pure (a.tmps.getD t undef)
 | .cell p t=>do loadVar t (<-asAddr (a.tmps.getD p undef))
theorem UX {P:Program} {a:Act} {w:World} {r:ResultVar} {v:Value} (h:Fb P a w r v):(YN a r).run P w= .ok v w:=by
 cases r with
 | tmp t =>
  have h:a.tmps.getD t undef=v:=h
  show (pure (a.tmps.getD t undef):Sem Value).run P w=_
  simp_all
 | cell p T =>
  have ⟨A,h1,h2⟩:=h
  show ((asAddr (a.tmps.getD p undef)) >>=fun x=>loadVar T x).run P w=_
  rw[h1,Sem.run_bind]
  show Result.andThen (.ok A w) _=_
  simp_all
theorem Xb {P:Program} {n:Nat} {a:Act} {w:World} {L:List (Nat×Value)} {fn:Func} {R:Ending->World->Prop} {vs:List Value} (ha:Agr n a L) (h:HM P a w fn.results.toList vs) (hR:R (.returned (YM vs)) w):bodyPost P fn R .ret a w:=by
 refine ⟨ha.1,YM vs,?_,hR⟩
 have hr:((fn.results.mapM (YN a)):Sem (Array Value)).run P w= .ok vs.toArray w:=by
  rw[Array.mapM_eq_mapM_toList]
  have:=wG (f:=YN a) (fun r v=>UX) h
  simp[this,Sem.run_map]
 show ((fn.results.mapM (YN a)) >>=fun vs=>pure (if h:vs.size=1 then vs[0] else .tuple vs):Sem Value).run P w=_
 rw[Sem.run_bind,hr,Result.andThen_ok]
 match vs with
 | [] =>rfl
 | [v] =>rfl
 | _::_::_=>rfl
def dH (g0:Nat):(i:Nat)->(ps:List PM)->denP ps->List Ent->Option (iV (outs ps)×List Ent×List Ent)
 | _,[],_,chs=>some ((),[],chs)
 | i,.ow t::ps,d,chs=>(cy t (jV i [] t d.1).2 chs).bind fun q=>bw q.cells.isEmpty ((dH g0 (i+1) ps d.2 q.rest).bind fun r=>some ((q.d,r.1),q.used++r.2.1,r.2.2))
 | i,.ptr T t::ps,d,chs=>(qD ⟨i,[]⟩ T t chs).bind fun q=>(dH g0 (i+1) ps d.2 q.2.2).bind fun r=>some ((q.1,r.1),q.2.1++r.2.1,r.2.2)
 | i,.rd _::ps,d,chs=>dH g0 (i+1) ps d.2 chs
 | i,.fn _ _::ps,d,chs=>dH g0 (i+1) ps d.2 chs
 | i,.eat _::ps,d,chs=>dH g0 (i+1) ps d.2 chs
 | i,.cap _ _::ps,d,chs=>dH g0 (i+1) ps d.2 chs
 | i,.capf _ _ _::ps,d,chs=>dH g0 (i+1) ps d.2 chs
 | i,.fk _::ps,d,chs=>dH g0 (i+1) ps d.2 chs
 | i,.kc _::ps,d,chs=>dH g0 (i+1) ps d.2 chs
 | i,.kb _ T t::ps,d,chs=>(qD ⟨g0,[]⟩ T t chs).bind fun q=>(dH g0 (i+1) ps d.2 q.2.2).bind fun r=>some ((q.1,r.1),q.2.1++r.2.1,r.2.2)
 | i,.crs T E::ps,d,chs=>(te ⟨i,[]⟩ T E chs).bind fun q=>bw (Hdr.beq q.g ⟨g0,[]⟩) ((dH g0 (i+1) ps d.2 q.rest).bind fun r=>some ((q.d.2,r.1),q.ent::r.2.1,r.2.2))
theorem dM {P:Program} {w0:World} {J J':Hp} {θ θ':Th} {n n':Nat} {chs0:List Ent} (hJ:J.le J') (hs:Same n θ θ') {γ:Value} {g0:Nat} (hg0:g0<n) (hγ:θ g0=γ): ∀ {ps:List PM} {i:Nat} {d:denP ps} {chs:List Ent} {vs:List Value} {r:iV (outs ps)×List Ent×List Ent},dH g0 i ps d chs=some r->vs.length=ps.length->StF P w0 J θ n i ps vs d->(∀e∈chs,okE P w0 J' θ' n' chs0 e)->
  chs.Perm (r.2.1++r.2.2)/\qy J' (r.2.1.map (toCh P θ')) (outCh γ ps vs r.1)
 | [],i,d,chs,vs,r,h,_,_,_=>by
  cases ae (show some _=some r from h)
  exact ⟨List.Perm.refl _,tU⟩
 | p::ps,i,d,chs,[],r,h,hl,_,_=>by cases hl
 | .ow t::ps,i,d,chs,v::vs,r,h,hl,hF,hc=>by
  have ⟨q,hq,h⟩:=bind_some (show (cy t (jV i [] t d.1).2 chs).bind _=some r from h)
  have ⟨he,h⟩:=aj h
  have ⟨r',hr,h⟩:=bind_some h
  cases ae h
  have ⟨⟨k1,k2⟩,k3⟩:=hF
  have ⟨p,cc,e1,e2⟩:=gT (P:=P) (w0:=w0) (J:=J') (θ:=θ') (n:=n) hq fun x hx=>LV.ok_same hs (ay _) (k2 x hx) hJ
  rw[List.isEmpty_iff.1 he,List.append_nil] at e1
  subst e1
  rw[gB hs k2,k1] at e2
  have ⟨q1,q2⟩:=dM hJ hs hg0 hγ hr (by grind) k3 fun e he=>hc e (p.mem_iff.2 (by grind))
  refine ⟨by rw[aD];exact p.trans (q1.append_left _),?_⟩
  show qy J' ((q.used++r'.2.1).map _) (Ch.own t.rep (jU t.isProd v) q.d::outCh γ ps vs r'.1)
  rw[aM]
  exact qz e2 q2
 | .ptr T t::ps,i,d,chs,v::vs,r,h,hl,hF,hc=>by
  have ⟨q,hq,h⟩:=bind_some (show (qD ⟨i,[]⟩ T t chs).bind _=some r from h)
  have ⟨r',hr,h⟩:=bind_some h
  cases ae h
  have ⟨⟨k1,k2⟩,k3⟩:=hF
  have ⟨p,hb⟩:=rN (P:=P) (w0:=w0) (J:=J') (J':=J') (θ:=θ') hq Hp.le.rfl hc
  have ⟨q1,q2⟩:=dM hJ hs hg0 hγ hr (by grind) k3 fun e he=>hc e (p.mem_iff.2 (by grind))
  refine ⟨by rw[aD];exact p.trans (q1.append_left _),?_⟩
  rw[aM]
  have hh:=(aS hs (show (⟨i,[]⟩:Hdr).id<n from k2)).trans k1
  rw[hh] at hb
  intro w F hsp
  obtain ⟨G,K,rfl,h1,h2⟩:=hsp.split
  exact ⟨G,K,rfl,hb w G h1,q2 w K h2⟩
 | .rd t::ps,i,d,chs,v::vs,r,h,hl,hF,hc=>dM (ps:=ps) hJ hs hg0 hγ (show dH g0 (i+1) ps d.2 chs=some r from h) (by grind) hF.2 hc
 | .fn _ _::ps,i,d,chs,v::vs,r,h,hl,hF,hc=>dM (ps:=ps) hJ hs hg0 hγ (show dH g0 (i+1) ps d.2 chs=some r from h) (by grind) hF.2 hc
 | .eat _::ps,i,d,chs,v::vs,r,h,hl,hF,hc=>dM (ps:=ps) hJ hs hg0 hγ (show dH g0 (i+1) ps d.2 chs=some r from h) (by grind) hF.2 hc
 | .cap _ _::ps,i,d,chs,v::vs,r,h,hl,hF,hc=>dM (ps:=ps) hJ hs hg0 hγ (show dH g0 (i+1) ps d.2 chs=some r from h) (by grind) hF.2 hc
 | .capf _ _ _::ps,i,d,chs,v::vs,r,h,hl,hF,hc=>dM (ps:=ps) hJ hs hg0 hγ (show dH g0 (i+1) ps d.2 chs=some r from h) (by grind) hF.2 hc
 | .kc _::ps,i,d,chs,v::vs,r,h,hl,hF,hc=>dM (ps:=ps) hJ hs hg0 hγ (show dH g0 (i+1) ps d.2 chs=some r from h) (by grind) hF.2 hc
 | .kb _ T t::ps,i,d,chs,v::vs,r,h,hl,hF,hc=>by
  have ⟨q,hq,h⟩:=bind_some (show (qD ⟨g0,[]⟩ T t chs).bind _=some r from h)
  have ⟨r',hr,h⟩:=bind_some h
  cases ae h
  obtain ⟨-,k3⟩:=hF
  have ⟨p,hb⟩:=rN (P:=P) (w0:=w0) (J:=J') (J':=J') (θ:=θ') hq Hp.le.rfl hc
  have ⟨q1,q2⟩:=dM hJ hs hg0 hγ hr (by grind) k3 fun e he=>hc e (p.mem_iff.2 (by grind))
  refine ⟨by rw[aD];exact p.trans (q1.append_left _),?_⟩
  rw[aM]
  have hh:hv θ' ⟨g0,[]⟩=γ:=by
   show vg (θ' g0) [] =γ
   rw[hs g0 hg0,hγ];rfl
  rw[hh] at hb
  intro w F hsp
  obtain ⟨G,K,rfl,h1,h2⟩:=hsp.split
  exact ⟨G,K,rfl,hb w G h1,q2 w K h2⟩
 | .fk _::ps,i,d,chs,v::vs,r,h,hl,hF,hc=>dM (ps:=ps) hJ hs hg0 hγ (show dH g0 (i+1) ps d.2 chs=some r from h) (by grind) hF.2 hc
 | .crs T E::ps,i,d,chs,v::vs,r,h,hl,hF,hc=>by
  have ⟨q,hq,h⟩:=bind_some (show (te ⟨i,[]⟩ T E chs).bind _=some r from h)
  have ⟨hb,h⟩:=aj h
  have ⟨r',hr,h⟩:=bind_some h
  cases ae h
  have ⟨⟨k1,k2⟩,k3⟩:=hF
  have ⟨p,ver,he⟩:=mC hq
  have ⟨q1,q2⟩:=dM hJ hs hg0 hγ hr (by grind) k3 fun e he=>hc e (p.mem_iff.2 (by grind))
  refine ⟨p.trans (q1.cons _),?_⟩
  have hh:=(aS hs (show (⟨i,[]⟩:Hdr).id<n from k2)).trans k1
  have hg:hv θ' q.g=γ:=by
   rw[Hdr.beq_eq hb]
   show vg (θ' g0) [] =γ
   rw[hs g0 hg0,hγ];rfl
  rw[he]
  intro w F hsp
  obtain ⟨G,K,rfl,h1,h2⟩:=hsp
  have h1:(Ch.blk (bk (hv θ' ⟨i,[]⟩)) [hv θ' q.g,.int .i64 q.d.2.1,.int .i64 q.d.2.2] T).holds J' w G:=h1
  rw[hh,hg] at h1
  exact ⟨G,K,rfl,h1,q2 w K h2⟩
def ofH:(ts:List Ty)->iV ts->dens ts
 | [],_=>()
 | [_],d=>d.1
 | _::u::ts,d=>(d.1,ofH (u::ts) d.2)
theorem FY: ∀(ts:List Ty) (d:iV ts),toH ts (ofH ts d)=d
 | [],_=>rfl
 | [_],_=>rfl
 | _::u::ts,d=>congrArg (Prod.mk d.1) (FY (u::ts) d.2)
def CX:(ts us:List Ty)->iV ts->iV us->iV (ts++us)
 | [],_,_,e=>e
 | _::ts,us,d,e=>(d.1,CX ts us d.2 e)
theorem Cf: ∀(ts us:List Ty) (d:iV ts) (e:iV us),hFst ts us (CX ts us d e)=d
 | [],_,_,_=>rfl
 | _::ts,us,d,e=>congrArg (Prod.mk d.1) (Cf ts us d.2 e)
theorem HO: ∀(ts us:List Ty) (d:iV ts) (e:iV us),hSnd ts us (CX ts us d e)=e
 | [],_,_,_=>rfl
 | _::ts,us,d,e=>HO ts us d.2 e
def yz (tt:TT) (s:Sg):List ResultVar->Option (List AV)
 | [] =>some []
 | r::rs=>(UU tt s r).bind fun v=>(yz tt s rs).bind fun vs=>some (v::vs)
def FZ (s:Sg):List AV->List Hdr
 | [] =>[]
 | v::vs=>ym v++FZ s vs
def xo:List Ent->List Hdr
 | [] =>[]
 | e::l=>match e.2.2 with
  | .hole _ _ _ _ _ _ _ _ _ _=>e.1::xo l
  | _=>xo l
def Xc:List AV->List (Bool×Hdr)
 | [] =>[]
 | v::vs=>ZY true v++Xc vs
def D5 (tr:Trs) (vs:List AV) (s:Sg):Sg:=match tr with
 | [] =>s
 | _=>PH (Ms tr) (Xc vs) s
def QF (tr:Trs) (vs:List AV) (s0:Sg):Sg:=match D5 tr vs s0 with
 | s=>uq (FZ s0 vs++xo s.chs) s
def nlN:List AV->(ts:List Ty)->iV ts->Int
 | [.one (.own _)],[.sl _ t],d=>((List.length (α:=t.den) d.1:Nat):Int)
 | [.one (.val v)],[.sl _ _],_=>match isNil v with
  | true=>1
  | false=>0
 | _,_,_=>0
def Xd (an:List (Nat×Ty)) (vs:List AV) (ts:List Ty) (d:iV ts):Option Unit:=match Aw 1000000 an with
 | true=>chk (0<nlN vs ts d)
 | false=>some ()
theorem Xe {vs:List AV} {ts:List Ty} {d:iV ts} {θ:Th} (h:0<nlN vs ts d) {v:Value} (hv:vs.map (·.v θ)= [v]):wu ts d v:=by
 unfold nlN at h
 split at h
 ·intro h0
  omega
 ·split at h
  ·intro _
   grind[l8,AV.v,LV.v]
  ·omega
 ·omega
def MR (V:Env) (rvs:List ResultVar) (rs:List Ty) (ps:List PM) (d:denP ps) (s00:Sg):Option (dens (rs++outs ps)):=(yz V.tt s00 rvs).bind fun vs00=>PR vs00 s00 fun s0=>(yz V.tt s0 rvs).bind fun vs0=>match QF V.tr vs0 s0 with
 | s=>(yz V.tt s rvs).bind fun vs=>(FX rs vs s.chs).bind fun r=>(dH ps.length 0 ps d r.2.2).bind fun o=>(Xd V.an vs rs r.1).bind fun _=>some (ofH _ (CX rs (outs ps) r.1 o.1))
end R
namespace R
open Go.RowKit
open D
theorem AC {vs:List Value} : ∀ {ts:List Ty} {i:Nat} {us:List Value} {d:iV ts},us.length=ts.length->(∀j v,us[j]? =some v->vs[i+j]? =some v)->vo i ts d (.tuple vs.toArray)=vK ts us d
 | [],i,us,d,h,_=>by
  rfl
 | t::ts,i,[],d,h,_=>by cases h
 | t::ts,i,u::us,d,h,k=>by
  have h0:vg (.tuple vs.toArray) [i] =u:=by
   show vs.toArray.getD i undef=u
   have:=k 0 u rfl
   rw[Nat.add_zero] at this
   simp[Array.getD_eq_getD_getElem?,this]
  show Ch.own t.rep (jU t.isProd (vg (.tuple vs.toArray) [i])) d.1::vo (i+1) ts d.2 _=Ch.own t.rep (jU t.isProd u) d.1::vK ts us d.2
  rw[h0,AC (us:=us) (by grind) fun j v hj=>by
   have:=k (j+1) v (by grind)
   grind]
theorem Jw {ts:List Ty} {vs:List Value} {d:iV ts} (h:vs.length=ts.length):resGv ts d (YM vs)=vK ts vs d:=by
 match ts,vs,d,h with
 | [],[],d,_=>rfl
 | [t],[v],d,_=>rfl
 | t::u::ts,v::w::vs,d,h =>
  show vo 0 _ d (.tuple (v::w::vs).toArray)=_
  grind[AC]
theorem QG {ts:List Ty} {vs:List Value} (h:vs.length=ts.length) (k: ∀(i:Nat) t v,ts[i]? =some t->vs[i]? =some v->nC v=t.isProd):resFa ts (YM vs):=by
 match ts,vs,h with
 | [],[],_=>exact ⟨#[],rfl,rfl,fun i t ht=>by grind⟩
 | [t],[v],_=>exact k 0 t v rfl rfl
 | t::u::ts,v::w::vs,h =>
  refine ⟨(v::w::vs).toArray,rfl,by omega,fun i t' ht=>?_⟩
  have hlt:i<(v::w::vs).length:=by rw[h];exact (List.getElem?_eq_some_iff.1 ht).1
  have:=k i t' ((v::w::vs)[i]) ht (List.getElem?_eq_getElem hlt)
  rw[<-this,Array.getD_eq_getD_getElem?,List.getElem?_toArray,List.getElem?_eq_getElem hlt];rfl
theorem uy {P:Program} {I:Hp} {w0 w:World} {F:Ch} {J:Hp} {θ:Th} {n:Nat} {s:Sg} {a:Act} {tt:TT} (hT:TTok P tt) (hS:Sim P I w0 F n J θ s a w): ∀ {rs:List ResultVar} {vs:List AV},yz tt s rs=some vs->HM P a w rs (vs.map (·.v θ))/\ ∀v∈vs,v.ok P w0 J θ s.nxt s.chs
 | [],vs,h=>by
  cases ae (show some [] =some vs from h)
  exact ⟨rfl,fun v hv=>by cases hv⟩
 | r::rs,vs,h=>by
  have ⟨v,hv',h⟩:=bind_some (show (UU tt s r).bind _=some vs from h)
  have ⟨us,hus,h⟩:=bind_some h
  cases ae h
  have ⟨k1,k2⟩:=QE hT hS hv'
  have ⟨q1,q2⟩:=uy hT hS hus
  refine ⟨⟨_,_,rfl,k1,q1⟩,fun x hx=>?_⟩
  grind
theorem MS {J:Hp} {a b c d:List Ch} (h:qy J a b) (k:qy J c d):qy J (a++c) (b++d):=fun w F hs=>by
 obtain ⟨G,K,rfl,e1,e2⟩:=hs.split
 exact (h w G e1).append (k w K e2)
theorem St.sepTo {J:Hp} {w0 w:World} {a b C:List Ch} (h:St J w0 w (a++C)) (k:qy J a b):St J w0 w (b++C):=by
 have ⟨h1,h2,F,h3,h4,h5⟩:=h
 obtain ⟨G,K,rfl,e1,e2⟩:=h3.split
 exact ⟨h1,h2,G++K,(k w G e1).append e2,h4,h5⟩
theorem vL {P:Program} {n:Nat} {I:Hp} {w0:World} {k:FuncId} {fn:Func} {c:Code} {args:Array Value} {rn:List Ch} {fact:Value->Prop} {gv:Value->List Ch} (L:List (Nat×Value)) (hf:P.funcs[k]? =some fn) (hb:fn.body=some c) (hn:fn.ntmps=n) (hm:args.size<=n) (hL: ∀p∈L,args[p.1]? =some p.2)
  (h: ∀F w a,Agr n a L->St I w0 w (rn++ [F])->c.wp P (bodyPost P fn fun e w'=> ∃v,e= .returned v/\fact v/\ ∃J,I.le J/\St J w0 w' (gv v++ [F])) a w) (hd: ∀v,Ch.back (gv v)):Con P k args I w0 rn fact gv:=by
 intro w C hs
 have hs':St I w0 w (rn++ [Ch.fr I C]):=by
  have ⟨hb,hi,F,h1,h2,h3⟩:=hs
  obtain ⟨G,K,rfl,e1,e2⟩:=h1.split
  exact ⟨hb,hi,G++K,e1.append ⟨K,[],by simp,e2,rfl⟩,h2,h3⟩
 have:=h (Ch.fr I C) w { tmps:=args++Array.replicate (fn.ntmps - args.size) undef,defers:=[] } (Agr.start L (by omega) hL) hs'
 refine (calls_of_wp hf hb this).mono ?_
 rintro e w' ⟨v,rfl,hv,J,hJ,hs⟩
 exact ⟨v,rfl,hv,hs.back hJ (hd v)⟩
theorem QH {P:Program} {I:Hp} {w0 w:World} {F:Ch} {n:Nat} {J:Hp} {θ:Th} {s:Sg} {a:Act} {tr:Trs} {vs:List AV} (hS:Sim P I w0 F n J θ s a w): ∃J' θ',J.le J'/\Sim P I w0 F n J' θ' (QF tr vs s) a w/\Fr s θ (QF tr vs s) θ':=by
 have key: ∃J' θ',J.le J'/\Sim P I w0 F n J' θ' (D5 tr vs s) a w/\Fr s θ (D5 tr vs s) θ':=by
  unfold D5
  split
  ·grind[Hp.le.rfl,Fr.rfl]
  ·exact tg hS
 have ⟨J',θ',h1,h2,h3⟩:=key
 have ⟨S2,F2⟩:=rQ (V:=⟨[],[],[],n,[]⟩) (hs:=FZ s vs++xo (D5 tr vs s).chs) h2
 exact ⟨J',θ',h1,S2,h3.trans F2⟩
theorem Su {V:Env} {P:Program} {w0:World} {F:Ch} {J:Hp} {θ:Th} (hT:TTok P V.tt) {fn:Func} {rs:List Ty} {ps:List PM} {d:denP ps} {vs:List Value} {s0:Sg} (k0:vs.length=ps.length) (k5:StF P w0 J θ (ps.length+1) 0 ps vs d) (hn0:ps.length+1<=s0.nxt) {γ:Value} (hγ:θ ps.length=γ): ∀r J' θ' s' a' w',MR V fn.results.toList rs ps d s'=some r->Sim P J w0 F V.n J' θ' s' a' w'->J.le J'->Fr s0 θ s' θ'->
  bodyPost P fn (fun e w'=> ∃v,e= .returned v/\(resFa rs v/\(Aw 1000000 V.an=true->wu rs (hFst rs (outs ps) (toH _ r)) v))/\ ∃J2,J.le J2/\St J2 w0 w' ((resGv rs (hFst rs (outs ps) (toH _ r)) v++outCh γ ps vs (hSnd rs (outs ps) (toH _ r)))++ [F])) .ret a' w':=by
 intro r J' θ' s' a' w' hrt hS' hJ hFr
 have ⟨vs00,hv00,hrt⟩:=bind_some (show (yz V.tt s' fn.results.toList).bind _=some r from hrt)
 have ⟨s0',hrt,S0,N0⟩:=Ht hrt (uy hT hS' hv00).2 hS'
 have ⟨vs0,hv0,hrt⟩:=bind_some hrt
 have ⟨J1,θ1,hJ1,S1,F1⟩:=QH (tr:=V.tr) (vs:=vs0) S0
 generalize QF V.tr vs0 s0'=s1 at hrt S1 F1
 have hle:=hFr.1
 have hsame:Same (ps.length+1) θ θ1:=fun i hi=>(F1.same i (by omega)).trans (hFr.same i (by omega))
 replace hJ:=hJ.trans hJ1
 clear hJ1 F1 hS' S0 hFr
 revert J1 θ1
 intro J' θ' S1 hsame hJ
 have ⟨us,hus,hrt⟩:=bind_some hrt
 have ⟨q,hq,hrt⟩:=bind_some hrt
 have ⟨o,ho,hrt⟩:=bind_some hrt
 have ⟨u0,hnl,hrt⟩:=bind_some hrt
 cases ae hrt
 have ⟨r1,r2⟩:=uy hT S1 hus
 have ⟨t1,t2,t3,t4⟩:=AB (J:=J') (θ:=θ') hq r2
 have ⟨o1,o2⟩:=dM (P:=P) (J:=J) (J':=J') (θ:=θ) (θ':=θ') (vs:=vs) (n:=ps.length+1) (n':=s1.nxt) (chs0:=s1.chs) hJ hsame (au _) hγ ho k0 k5 fun e he=>S1.fine.chs e (t1.mem_iff.2 (by grind))
 have hl:(us.map (·.v θ')).length=rs.length:=by rw[List.length_map];exact t2
 refine Xb S1.agr r1 ⟨_,rfl,⟨QG hl fun i t v ht hv1=>?_,fun han=>?_⟩,J',hJ,?_⟩
 ·grind
 ·rw[FY,Cf]
  unfold Xd at hnl
  rw[han] at hnl
  have hnl:=bD hnl
  rcases us with _ | ⟨x,us⟩
  ·cases hnl
  ·cases us with
   | nil=>exact Xe (θ:=θ') hnl rfl
   | cons y us=>grind[nlN]
 ·rw[FY,Cf,HO,Jw hl]
  have hp:=t1.trans (o1.append_left _)
  have h1:=S1.st.perm ((hp.map (toCh P θ')).append_right [F])
  have h2:St J' w0 w' ((q.2.1.map (toCh P θ')++o.2.1.map (toCh P θ'))++(o.2.2.map (toCh P θ')++ [F])):=by
   simpa [aM,aD] using h1
  have h3:=St.sepTo h2 (MS t3 o2)
  refine St.left (ds:=o.2.2.map (toCh P θ')) (h3.perm ?_)
  grind[aD,List.Perm.append_left,List.perm_append_comm]
theorem UY {V:Env} {P:Program} (hT:TTok P V.tt) (hF:FTok P V.ft) (hmx:P.follows .mixedOrders=true) {k:FuncId} {fn:Func} {c:Code} {f:FS} (hf:P.funcs[k]? =some fn) (hb:fn.body=some c) (hn:fn.ntmps=V.n) (hen:Enters P k) (hm:f.ps.length<=V.n) (hdp:(Dv f.rs&&vz f.ps)=true) (ann:Ann)
  (hmod: ∀d,appP f.ps f.m d=km V (MR V fn.results.toList f.rs f.ps d) c ann (fun r=>some r) (fun _ _=>none) (MR V fn.results.toList f.rs f.ps d) (ql (yy f.ps d))): ∀w0 J γ vs (d:denP f.ps) r,Lay P J->PArgs P w0 J γ f.ps vs d->appP f.ps f.m d=some r->Con P k vs.toArray J w0 (owCh γ f.ps vs d) (fun v=>resFa f.rs v/\(Aw 1000000 V.an=true->wu f.rs (hFst f.rs (outs f.ps) (toH _ r)) v)) (fun v=>resGv f.rs (hFst f.rs (outs f.ps) (toH _ r)) v++outCh γ f.ps vs (hSnd f.rs (outs f.ps) (toH _ r))):=by
 rw[ah] at hdp
 intro w0 J γ vs d r hlay ha hr
 rw[hmod] at hr
 have k0:=D4 ha
 let θ:=fun i=>if i=vs.length then γ else vs.getD i undef
 have hθ: ∀j v,vs[j]? =some v->θ (0+j)=v:=fun j v hj=>by
  grind
 have hθg:θ f.ps.length=γ:=by
  grind
 have hzip: ∀p∈(vs.zipIdx.map fun q=>(q.2,q.1)),vs.toArray[p.1]? =some p.2:=fun p hp=>by
  grind
 refine vL (n:=V.n) (vs.zipIdx.map fun q=>(q.2,q.1)) hf hb hn (by grind) hzip (fun F w a hA hst=>?_) (fun v=>vB (dF _ _ _ hdp.2) _ _ hdp.1)
 ·have ⟨k1,k2,k3,k4,k5⟩:=HL (n:=f.ps.length+1) (q:=f.ps.length) (C:=[F]) (au _) hθg ha hθ (by omega) hst
  have hfine:Fine P w0 J θ (yy f.ps d):=⟨fun e he=>(k1 e he).1 _,fun e he=>by have:=k1 e he;show e.2.1<f.ps.length+1;omega,k2,fun e he=>k4 e he _,hlay⟩
  have hA':Agr V.n a (envL θ (yy f.ps d)):=hA.pick _ fun p hp=>by
   obtain ⟨e,he,rfl⟩:=List.mem_map.1 hp
   have h5:=(k1 e he).2.2.2.2
   have key: ∀(l:List Value) (k:Nat) (i:Nat) (v:Value),k<=i->l[i - k]? =some v->((l.zipIdx k).map fun q=>(q.2,q.1)).lookup i=some v:=by
    intro l
    induction l with
    | nil=>grind
    | cons x l ih =>
     intro k i v hk h
     simp[List.zipIdx_cons,List.map_cons,List.lookup_cons]
     by_cases e:i=k
     ·simp_all
     ·rw[show i - k=(i - (k+1))+1 from by omega] at h
      grind
   grind
  have hS:Sim P J w0 F V.n J θ (yy f.ps d) a w:=⟨Hp.le.rfl,hA',k3,hfine⟩
  have fin:=Su (rs:=f.rs) (fn:=fn) (F:=F) hT k0 k5 (ay (yy f.ps d).nxt) hθg
  have ⟨θ0,hS0,hFr0⟩:=xh hS
  exact (tm (I:=J) (w0:=w0) (F:=F) hT hF hmx c).1 ann hr hS0 (fun J' θ' s' a' w' hk S' hJ hFr=>fin r J' θ' s' a' w' hk S' hJ (hFr0.trans hFr)) (fun i J' θ' s' a' w' hk=>by cases hk) (fun r' J' θ' s' a' w' hrt hrr hS' hJ hFr=>by
   cases ae hrr
   exact fin _ J' θ' s' a' w' hrt hS' hJ (hFr0.trans hFr))
theorem fok {V:Env} {P:Program} (hT:TTok P V.tt) (hF:FTok P V.ft) (hmx:P.follows .mixedOrders=true) {k:FuncId} {fn:Func} {c:Code} {f:FS} (hf:P.funcs[k]? =some fn) (hb:fn.body=some c) (hn:fn.ntmps=V.n) (hen:Enters P k) (hcl:f.cl=none) (hm:f.ps.length<=V.n) (hdp:(Dv f.rs&&vz f.ps)=true) (ann:Ann)
  (hmod: ∀d,appP f.ps f.m d=km V (MR V fn.results.toList f.rs f.ps d) c ann (fun r=>some r) (fun _ _=>none) (MR V fn.results.toList f.rs f.ps d) (ql (yy f.ps d))):FOk P k f:=
 ⟨fun q hq=>by grind,fun _=>hen,fun _ w0 J γ vs d r hlay ha hr w C hs=>(UY hT hF hmx hf hb hn hen hm hdp ann hmod w0 J γ vs d r hlay ha hr w C hs).mono fun e w' ⟨v,h1,h2,h3⟩=>⟨v,h1,h2.1,h3⟩⟩
theorem HP {V:Env} {P:Program} (hT:TTok P V.tt) (hF:FTok P V.ft) (hmx:P.follows .mixedOrders=true) {k:FuncId} {fn:Func} {c:Code} {E b:Nat} (hf:P.funcs[k]? =some fn) (hb:fn.body=some c) (hn:fn.ntmps=V.n) (hen:Enters P k) (hm:1<=V.n) (ann:Ann)
  (hmod: ∀(E':TypeId) (bn:Bool) (xs:List Raw),(match bn with | true=>some ([] :List Raw) | false=>(cP b [] xs).bind fun zs=>some zs)=km V (MR V fn.results.toList [.sl E .raw] [] ()) c ann (fun r=>some r) (fun _ _=>none) (MR V fn.results.toList [.sl E .raw] [] ()) ⟨[(0,0,.one (.rdn ⟨0,[]⟩ bn (.sl E' .raw) xs))],[],1⟩):vu P k E b:=by
 refine ⟨hen,fun E' J w0 v xs zs hlay hrd CX=>?_⟩
 have ⟨bn,hbn⟩: ∃bn,Dc v=bn:=⟨_,rfl⟩
 have hr:km V (MR V fn.results.toList [.sl E .raw] [] ()) c ann (fun r=>some r) (fun _ _=>none) (MR V fn.results.toList [.sl E .raw] [] ()) ⟨[(0,0,.one (.rdn ⟨0,[]⟩ bn (.sl E' .raw) xs))],[],1⟩=some zs:=by
  rw[<-hmod E' bn xs]
  cases bn with
  | false =>
   rw[CX];rfl
  | true =>
   obtain ⟨h1,-⟩:=BW CX
   obtain ⟨ao,cap,e,-,hx⟩:=hrd
   obtain rfl:v= .slice ao xs.length cap:=by grind
   rcases hx with rfl | ⟨b,off,ccs,t,fr,rfl,-⟩
   ·rw[h1];rfl
   ·cases hbn
 let θ:Th:=fun _=>v
 have key:Con P k #[v] J w0 [] (fun v=>resFa [.sl E .raw] v/\(Aw 1000000 V.an=true->wu [.sl E .raw] (zs,()) v)) (fun v=>resGv [.sl E .raw] (zs,()) v++ []):=by
  refine vL (n:=V.n) [(0,v)] hf hb hn hm (fun p hp=>by grind) (fun F w a hA hst=>?_) (fun u=>vB (D:=[]) trivial [.sl E .raw] (zs,()) rfl)
  have hfine:Fine P w0 J θ ⟨[(0,0,.one (.rdn ⟨0,[]⟩ bn (.sl E' .raw) xs))],[],1⟩:=⟨fun e he=>by cases ak he;exact ⟨Nat.one_pos,hrd,hbn⟩,fun e he=>by grind,List.pairwise_singleton _ _,fun e he=>(by cases he),hlay⟩
  have hS:Sim P J w0 F V.n J θ ⟨[(0,0,.one (.rdn ⟨0,[]⟩ bn (.sl E' .raw) xs))],[],1⟩ a w:=⟨Hp.le.rfl,hA,hst,hfine⟩
  have fin:=Su (V:=V) (θ:=θ) (J:=J) (w0:=w0) (rs:=[.sl E .raw]) (ps:=[]) (d:=()) (vs:=[]) (s0:=⟨[(0,0,.one (.rdn ⟨0,[]⟩ bn (.sl E' .raw) xs))],[],1⟩) (fn:=fn) (F:=F) hT rfl trivial (ay _) (γ:=θ 0) rfl
  exact (tm (I:=J) (w0:=w0) (F:=F) hT hF hmx c).1 ann hr hS (fun J' θ' s' a' w' hk S' hJ hFr=>fin _ J' θ' s' a' w' hk S' hJ hFr) (fun i J' θ' s' a' w' hk=>by cases hk) (fun r' J' θ' s' a' w' hrt hrr hS' hJ hFr=>by
   cases ae hrr
   exact fin _ J' θ' s' a' w' hrt hS' hJ hFr)
 exact fun w C hs=>(key w C hs).mono fun e w' ⟨v,h1,h2,h3⟩=>⟨v,h1,trivial,h3⟩
theorem eX {P:Program} {k:FuncId} {f:FS} (h:Enters P k) (hc:f.cl=none) (hm: ∀d,appP f.ps f.m d=none):FOk P k f:=
 ⟨fun q hq=>by grind,fun _=>h,fun _ _ _ _ _ d r _ _ hr=>by grind⟩
theorem D6 {P:Program} {k:FuncId} {f:FS} {E b:Nat} (h:FOk P k ⟨f.ps,f.rs,f.m,none⟩) (hc:vu P k E b) (hb:Nat.beq b 0=false:=by rfl) (h7:Nat.beq b 7=false:=by rfl) (h8:Nat.ble 1000 b=false:=by rfl) (h9:Nat.beq b 9=false:=by rfl):FOk P k ⟨f.ps,f.rs,f.m,some (E,b)⟩:=
 ⟨fun q hq=>by cases ae hq;exact ⟨⟨fun e=>(by grind),fun _ _ _ _=>hc,fun e=>(by grind)⟩,fun e=>(by grind),fun e=>(by grind)⟩,fun _=>h.en rfl,fun _=>h.con rfl⟩
theorem UZ {P:Program} {k:FuncId} {f:FS} {E b:Nat} (h:FOk P k ⟨f.ps,f.rs,f.m,none⟩) (hc:Pg P k E (b - 1000)) (h8:Nat.ble 1000 b=true:=by rfl) (h0:Nat.beq b 0=false:=by rfl) (h7:Nat.beq b 7=false:=by rfl) (h9:Nat.beq b 9=false:=by rfl):FOk P k ⟨f.ps,f.rs,f.m,some (E,b)⟩:=
 ⟨fun q hq=>by cases ae hq;exact ⟨⟨fun e=>(by grind),fun _ _ e=>(by grind),fun _=>hc⟩,fun e=>(by grind),fun e=>(by grind)⟩,fun _=>h.en rfl,fun _=>h.con rfl⟩
theorem Xf {P:Program} {k:FuncId} {T f:Nat} (he:Enters P k) (h: ∀(c d:List Value) (w:World),Calls P k #[.agg c.toArray,.agg d.toArray] w fun e w'=>e= .returned (.func (.func f) #[] #[.pointer (some ⟨w.heap.size,0,none⟩),.pointer (some ⟨w.heap.size+1,0,none⟩)])/\w'=(w.alloc (.cells c.toArray T)).alloc (.cells d.toArray T)):Pg P k T f:=by
 refine ⟨he,fun I w0 c d w C hs=>(h c d w).mono ?_⟩
 rintro e w' ⟨rfl,rfl⟩
 refine ⟨_,rfl,⟨_,_,rfl⟩,?_⟩
 have h1:=(hs.alloc c T).alloc d T
 have hsz:(w.alloc (.cells c.toArray T)).heap.size=w.heap.size+1:=by simp
 rw[hsz] at h1
 exact St.emp.2 (h1.perm (List.Perm.swap _ _ _))
end R
namespace R
open Go.RowKit
open D
end R
namespace R
open Go.RowKit
open D
def rtN (V:Env) (rvs:List ResultVar) (T:TypeId) (s:Sg):Option (Int×Int):=(yz V.tt s rvs).bind fun vs=>match vs with
 | [.one (.ptr h off)] =>bw (Nat.beq off 0) ((pj h s.chs).bind fun b=>bw (Nat.beq b.T T) (match b.cells with
  | [.rd g _ _,.val (.int .i64 x),.val (.int .i64 y)] =>bw (Hdr.beq g ⟨0,[]⟩) (some (x,y))
  | _=>none))
 | _=>none
theorem Xg {V:Env} {P:Program} (hT:TTok P V.tt) (hF:FTok P V.ft) (hmx:P.follows .mixedOrders=true) {k:FuncId} {fn:Func} {c:Code} {E T:Nat} {t:Ty} {m:List t.den->Option (Int×Int)} (hf:P.funcs[k]? =some fn) (hb:fn.body=some c) (hn:fn.ntmps=V.n) (hen:Enters P k) (hm:1<=V.n) (ann:Ann)
  (hmod: ∀xs:List t.den,m xs=km V (rtN V fn.results.toList T) c ann (fun r=>some r) (fun _ _=>none) (rtN V fn.results.toList T) ⟨[(0,0,.one (.rd ⟨0,[]⟩ (.sl E t) xs))],[],1⟩):NewOk P k T ⟨[.rd (.sl E t)],[.int .i64,.int .i64],m,some (T,9)⟩:=by
 refine ⟨hen,fun w0 J γ vs d r ns hlay ha CX hns=>?_⟩
 obtain ⟨v,vs',rfl,hd,hnil⟩:=ha
 obtain rfl:vs'= []:=hnil
 obtain ⟨xs,u⟩:=d
 obtain ⟨cs,hcs,hrd⟩:=hd
 obtain rfl:cs= [v]:=hcs
 obtain ⟨x,y⟩:=r
 have hr:=hmod xs
 rw[show m xs=some (x,y) from CX] at hr
 obtain rfl: [x,y] =ns:=ae hns
 let θ:Th:=fun _=>v
 refine vL (n:=V.n) [(0,v)] hf hb hn hm (fun p hp=>by obtain rfl:=ak hp;rfl) (fun F w a hA hst=>?_) (fun u=>Ch.back_deeps ⟨RI,trivial⟩)
 have hfine:Fine P w0 J θ ⟨[(0,0,.one (.rd ⟨0,[]⟩ (.sl E t) xs))],[],1⟩:=⟨fun e he=>by obtain rfl:=ak he;exact ⟨Nat.one_pos,hrd⟩,fun e he=>by obtain rfl:=ak he;exact Nat.one_pos,List.pairwise_singleton _ _,fun e he=>(by cases he),hlay⟩
 have hS:Sim P J w0 F V.n J θ ⟨[(0,0,.one (.rd ⟨0,[]⟩ (.sl E t) xs))],[],1⟩ a w:=⟨Hp.le.rfl,hA,hst,hfine⟩
 have fin: ∀r J' θ' s' a' w',rtN V fn.results.toList T s'=some r->Sim P J w0 F V.n J' θ' s' a' w'->J.le J'->Fr ⟨[(0,0,.one (.rd ⟨0,[]⟩ (.sl E t) xs))],[],1⟩ θ s' θ'->
   bodyPost P fn (fun e w'=> ∃u,e= .returned u/\(∃b,u= .pointer (some ⟨b,0,none⟩))/\ ∃J2,J.le J2/\St J2 w0 w' ([Ch.blk (bk u) ([v] ++ [r.1,r.2].map (Value.int .i64)) T] ++ [F])) .ret a' w':=by
  intro r J' θ' s' a' w' hrt S' hJ hFr
  obtain ⟨us,hus,hrt⟩:=bind_some hrt
  obtain ⟨r1,r2⟩:=uy hT S' hus
  split at hrt
  ·rename_i h off
   obtain ⟨ho,hrt⟩:=aj hrt
   obtain rfl:off=0:=aq ho
   obtain ⟨b,hb',hrt⟩:=bind_some hrt
   obtain ⟨hT',hrt⟩:=aj hrt
   have hT':b.T=T:=aq hT'
   split at hrt
   ·rename_i g ty d p q hcells
    obtain ⟨hg,hrt⟩:=aj hrt
    obtain rfl:=Hdr.beq_eq hg
    obtain rfl:=ae hrt
    refine Xb S'.agr r1 ⟨_,rfl,⟨bk (hv θ' h),rfl⟩,J',hJ,?_⟩
    have h1:=S'.st.perm (((jq hb').map (toCh P θ')).append_right [F])
    have e0:hv θ' ⟨0,[]⟩=v:=by
     show vg (θ' 0) [] =v
     rw[hFr.same 0 Nat.one_pos];rfl
    have h2:St J' w0 w' (Ch.blk (bk (hv θ' h)) (b.cells.map (·.v θ')) b.T::(b.rest.map (toCh P θ')++ [F])):=h1
    rw[hcells,hT'] at h2
    have h3:St J' w0 w' ([Ch.blk (bk (hv θ' h)) [hv θ' ⟨0,[]⟩,.int .i64 p,.int .i64 q] T] ++ [F] ++b.rest.map (toCh P θ')):=h2.perm ((List.perm_append_comm).cons _)
    rw[e0] at h3
    exact h3.left
   ·cases hrt
  ·cases hrt
 exact (tm (I:=J) (w0:=w0) (F:=F) hT hF hmx c).1 ann hr.symm hS (fun J' θ' s' a' w' hk S' hJ hFr=>fin _ J' θ' s' a' w' hk S' hJ hFr) (fun i J' θ' s' a' w' hk=>by cases hk) (fun r' J' θ' s' a' w' hrt hrr hS' hJ hFr=>by
  obtain rfl:=ae hrr
  exact fin _ J' θ' s' a' w' hrt hS' hJ hFr)
theorem U0 {P:Program} {k:FuncId} {f:FS} {T:Nat} (hc:NewOk P k T f) (hcl:f.cl=some (T,9)):FOk P k f:=by
 have ho:f.ov=true:=by unfold FS.ov;rw[hcl];rfl
 refine ⟨fun q hq=>?_,fun e=>(by rw[ho] at e;cases e),fun e=>(by rw[ho] at e;cases e)⟩
 rw[hcl] at hq
 obtain rfl:=ae hq
 exact ⟨⟨fun e=>(by cases e),fun _ _ _ e=>(by cases e),fun e=>(by cases e)⟩,fun e=>(by cases e),fun _=>hc⟩
end R
namespace R
open Go.RowKit Go.Shelf Go.Sort
open D
abbrev PT:Ty:=.prod (.int .i64) (.int .i64)
def wV (x:Int×Int):List Value:=[.int .i64 x.1,.int .i64 x.2]
theorem HQ (x:Int×Int):(wV x).length=2:=rfl
theorem QI (x:Int×Int): ∀v∈wV x,v.oneCell'=true:=by
 intro v hv
 simp only[wV,List.mem_cons,List.not_mem_nil,or_false] at hv
 rcases hv with rfl | rfl <;> rfl
def Jx (cf:Int×Int->Int×Int->Int) (xs:List (Int×Int)):List (Int×Int):=xs.mergeSort fun x y=> !(ltOf cf) y x
def QJ (cf:Int×Int->Int×Int->Int) (xs:List (Int×Int)):Option (List (Int×Int)):=(chk (xs.length<4611686018427387904)).bind fun _=>some (Jx cf xs)
theorem D7 (cf:Int×Int->Int×Int->Int) (xs:List (Int×Int)):(Jx cf xs).length=xs.length:=List.length_mergeSort _
theorem St.grown {I:Hp} {w0 w:World} {cs:List Ch} (h:St I w0 w cs) (os:Array Obj):St I w0 (grow w os) cs:=by
 refine St.step (w:=w) (c:=[]) (c':=[]) h rfl rfl rfl (by simp[grow]) ?_
 rintro F rfl - -
 exact ⟨fun b hb _=>heap_grow_old w os hb,[],rfl,List.nodup_nil,by simp⟩
theorem MT (d:Array (Int×Int)) {i j:Nat} {z:Int×Int} (h:d.toList[i]? =some z) (hj:j<2):(flatK wV 2 d)[i*2+j]? =(wV z)[j]? :=by
 have hi:i<d.size:=by
  rcases Nat.lt_or_ge i d.size with c | c
  ·exact c
  ·rw[List.getElem?_eq_none (by simpa using c)] at h;cases h
 have hlt:i*2+j<d.size*2:=by omega
 have hb:=get_flatK wV 2 d (i*2+j) hlt
 have hs:i*2+j<(flatK wV 2 d).size:=by rw[size_flatK];exact hlt
 rw[getElem!_pos (flatK wV 2 d) _ hs] at hb
 rw[Array.getElem?_eq_getElem hs,hb,show (i*2+j) / 2=i from by omega,show (i*2+j) % 2=j from by omega]
 have hz:d[i]! =z:=by
  rw[getElem!_pos d _ hi]
  rw[List.getElem?_eq_getElem (by simpa using hi)] at h
  simpa using ae h
 rw[hz,getElem!_pos (wV z) _ (by rw[HQ];exact hj),List.getElem?_eq_getElem]
theorem U1 {I:Hp} {c:List Value} {x:Int×Int} (h:PT.rep.rd I c x):c=wV x:=by
 obtain ⟨c1,c2,rfl,h1,h2⟩:=h
 obtain rfl:c1= [_]:=h1
 obtain rfl:c2= [_]:=h2
 rfl
theorem U2 {I:Hp} (x:Int×Int):PT.rep.rd I (wV x) x:=⟨[_],[_],rfl,rfl,rfl⟩
theorem MU {P:Program} {ρ:Ren} (L:SlLaysF0.n6 P ρ) (aE: ∀w,(isAgg (ρ.t 24)).run P w= .ok true w) (zE: ∀w,(Go.sizeOf (ρ.t 24)).run P w= .ok 2 w) {cf:Int×Int->Int×Int->Int} (hO:SWO (ltOf cf)) (hT: ∀x y,(ltOf cf) x y=false->(ltOf cf) y x=false->x=y) {g:FuncId} (eg:Enters P g) (hcmp: ∀blk off size w,CmpLays P g #[] wV 2 cf blk off size w) (en:Enters P (ρ.f 6)) (E:TypeId) :
  FOk P (ρ.f 6) ⟨[.ow (.sl E PT),.fk g],[],fun xs _=>QJ cf xs,none⟩:=by
 refine ⟨fun q hq=>(by cases hq),fun _=>en,fun _ w0 J γ vs d r hlay ha CX=>?_⟩
 obtain ⟨v,vs1,rfl,hd,v2,vs2,rfl,rfl,hnil⟩:=ha
 obtain rfl:vs2= []:=hnil
 obtain ⟨xs0,u1,un⟩:=d
 let xs:List (Int×Int):=xs0
 let zs:List (Int×Int):=r
 have CX:QJ cf xs=some zs:=CX
 obtain ⟨u1,hc,hz⟩:=Option.bind_eq_some_iff.1 CX
 have hc:=bD hc
 have hz:=ae hz
 intro w C hst
 have hst:St J w0 w (Ch.own (aw E PT.rep) [v] xs::C):=hst
 clear CX
 rename_i happ0
 clear happ0 hd
 clear_value xs
 have hfin: ∀ {e:Ending} {w':World},(∃W,e= .returned (.tuple #[])/\w'=W/\St J w0 W (Ch.own (aw E PT.rep) [v] zs::C))-> ∃v':Value,e= .returned v'/\(∃vs:Array Value,v'= .tuple vs/\vs.size=0/\ ∀(i:Nat) (t:Ty),([] :List Ty)[i]? =some t->nC (vs.getD i undef)=t.isProd)/\St J w0 w' (Ch.own (aw E PT.rep) [v] zs::C):=by
  rintro e w' ⟨W,rfl,rfl,h⟩
  exact ⟨_,rfl,⟨#[],rfl,rfl,fun i t h=>(by simp at h)⟩,h⟩
 have hcase:(v= .slice none 0 0/\xs= [])\/ ∃g' ofs n cap,v= .slice (some ⟨g',ofs,none⟩) n cap:=by
  obtain ⟨hb,hi,F,⟨G,K,rfl,⟨hl,e2⟩,e3⟩,h4,h5⟩:=hst
  rcases e2 with ⟨hv,h1,_⟩ | ⟨g',ofs',cap',cur,K1,hv,_⟩
  ·exact .inl ⟨List.cons.inj hv |>.1,h1⟩
  ·exact .inr ⟨_,_,_,_,List.cons.inj hv |>.1⟩
 rcases hcase with ⟨rfl,hx⟩ | ⟨g',ofs,n,cap,rfl⟩
 ·refine (AnyF.slices_SortFunc_none L none 0 (.func (.func g) #[] #[]) w).mono fun e w' ⟨he,hw⟩=>hfin ⟨_,he,hw,?_⟩
  rw[<-hz,hx,show Jx cf [] = [] from List.mergeSort_nil ..]
  rw[hx] at hst
  exact hst
 ·obtain ⟨hn,h1,h2,cur,hg,hroom,hat⟩:=yd (R:=PT.rep) (k:=2) (Ty.sh_ok (t:=PT) rfl) rfl hst
  obtain rfl:=hn
  have hH:HoldsK wV 2 w g' ofs xs.toArray:=by
   intro j hj
   rw[size_flatK] at hj
   have hj:j<xs.length*2:=by simpa using hj
   have hi:j / 2<xs.length:=by omega
   obtain ⟨c,e1,e2,e3⟩:=hat (j / 2) _ (List.getElem?_eq_getElem hi)
   have hcj:=e2 (j % 2) (Nat.mod_lt _ (by omega))
   rw[show j / 2*2+j % 2=j from by omega,U1 e3] at hcj
   have hf:=MT xs.toArray (i:=j / 2) (j:=j % 2) (z:=xs[j / 2]) (by simpa using List.getElem?_eq_getElem hi) (Nat.mod_lt _ (by omega))
   rw[show j / 2*2+j % 2=j from by omega] at hf
   have hs:j<(flatK wV 2 xs.toArray).size:=by rw[size_flatK];simpa using hj
   refine ⟨?_,?_⟩
   ·unfold World.cell?
    simp only[hg]
    rw[List.getElem?_drop] at hcj
    rw[getElem!_pos (flatK wV 2 xs.toArray) _ hs,<-Array.getElem?_toList,hcj,<-hf,Array.getElem?_eq_getElem hs]
    rfl
   ·unfold World.frozen?
    simp only[hg]
    simp
  have hblk:g'<w.heap.size:=by
   rcases Nat.lt_or_ge g' w.heap.size with c | c
   ·exact c
   ·rw[Array.getElem?_eq_none c] at hg;cases hg
  have key:=AnyQ.slices_SortFunc_total L 2 aE zE wV HQ QI cf hO g #[] g' ofs cap xs.toArray w eg (hcmp _ _ _ _) hH hblk (by simpa using hc) hT
  rw[show xs.toArray.size=xs.length from List.size_toArray] at key
  refine key.mono ?_
  rintro e w' ⟨he,m,os,rfl⟩
  refine hfin ⟨_,he,rfl,?_⟩
  show St J w0 (grow (putRow id (Sort.ahead w m) g' ofs (flatK wV 2 (Jx cf xs).toArray)) os) _
  rw[hz]
  have hlen:zs.length=xs.length:=by rw[<-hz];exact D7 _ _
  have hfl:(flatK wV 2 zs.toArray).toList.length=(flatK wV 2 xs.toArray).size:=by rw[Array.length_toList,size_flatK,size_flatK];simp[hlen]
  have hq:=Go.Lib.putRow_eq_setCells id w g' ofs (flatK wV 2 xs.toArray) (flatK wV 2 zs.toArray).toList m hH hfl
  rw[Array.toArray_toList] at hq
  rw[hq,List.map_id]
  refine St.grown ?_ os
  have hst2:St J w0 (w.drewN m) (Ch.own (aw E PT.rep) [.slice (some ⟨g',ofs,none⟩) xs.length cap] xs::C):=hst.drawn rfl rfl rfl rfl
  have hcapz:zs.length<=cap:=by rw[hlen];exact h1
  have hlimz:zs.length<=lim:=by
   have:lim=2 ^ 63 - 1:=rfl
   have:maxLen=2 ^ 63 - 1:=rfl
   omega
  have hlt: ∀(i:Nat) (z:Int×Int),zs[i]? =some z->i<xs.length:=fun i z hi=>by
   rcases Nat.lt_or_ge i zs.length with c | c
   ·omega
   ·rw[List.getElem?_eq_none c] at hi;cases hi
  have hnw: ∀(i:Nat) (z:Int×Int),zs[i]? =some z-> ∀j,j<2->(flatK wV 2 zs.toArray).toList[(i - 0)*2+j]? =(wV z)[j]? :=fun i z hi j hj=>by
   rw[Nat.sub_zero,Array.getElem?_toList]
   exact MT zs.toArray (by simpa using hi) hj
  have h3:=BY (p:=0) (cnt:=xs.length) (zs:=zs) (news:=(flatK wV 2 zs.toArray).toList) (Ty.sh_ok (t:=PT) rfl) (Ty.cpy (t:=PT) rfl) (k:=2) rfl (by rw[hfl,size_flatK];simp) (by omega) hcapz hlimz (fun i z hi=>.inl ⟨Nat.zero_le _,(by have:=hlt i z hi;omega),wV z,rfl,hnw i z hi,U2 z⟩) hst2
  rw[Nat.zero_mul,Nat.add_zero,show @List.length PT.den zs=xs.length from hlen] at h3
  exact h3
def cmpI (a b:Int):Int:=if a<b then -1 else if b<a then 1 else 0
def Jy (x y:Int×Int):Int:=if x.1=y.1 then cmpI x.2 y.2 else cmpI x.1 y.1
theorem MV {a b:Int} :cmpI a b<0↔a<b:=by
 unfold cmpI
 split
 ·simp_all
 ·split <;> simp_all
theorem MW {x y:Int×Int} :ltOf Jy x y=true↔x.1<y.1\/x.1=y.1/\x.2<y.2:=by
 unfold ltOf Jy
 rw[decide_eq_true_iff]
 split
 ·rw[MV];omega
 ·rw[MV];omega
theorem xp {x y:Int×Int} :ltOf Jy x y=false↔ ¬(x.1<y.1\/x.1=y.1/\x.2<y.2):=by
 rw[<-MW,Bool.not_eq_true]
theorem QK:SWO (ltOf Jy) where
 irrefl x:=by rw[xp];omega
 trans x y z h k:=by rw[MW] at *;omega
 ntrans x y z h k:=by rw[xp] at *;omega
theorem QL (x y:Int×Int) (h:ltOf Jy x y=false) (k:ltOf Jy y x=false):x=y:=by
 rw[xp] at h k
 exact Prod.ext (by omega) (by omega)
end R
namespace R
open Go.Shelf
def uz:Go.Shelf.Ren:=⟨fun | 6=>182 | 15=>194 | 14=>193 | 28=>206 | 29=>207 | 20=>198 | 21=>199 | 22=>200 | 23=>201 | 24=>202 | 25=>203 | 26=>204 | 27=>205 | 46=>208 | 47=>209 | 48=>210 | 49=>211 | 50=>212 | 57=>213 | n=>n,fun | 22=>47 | 24=>84 | 25=>216 | 3=>3 | 39=>171 | 0=>0 | 53=>225 | 55=>228 | 4=>4 | 46=>233 | 45=>232 | 50=>186 | 5=>5 | 9=>9 | 66=>240 | 70=>244 | 76=>246 | 77=>247 | n=>n,fun | n=>n⟩
theorem zU:Go.Proofs.SlLaysF0.n6 Tryz.prog uz:= {
 mixed:=by kernel_rfl
 f6:=⟨Tryz.f182.name,by decide,Tryz.func182.trans (congrArg some (by kernel_rfl))⟩
 f14:=⟨Tryz.f193.name,by decide,Tryz.func193.trans (congrArg some (by kernel_rfl))⟩
 f15:=Tryz.func194.trans (congrArg some (by kernel_rfl))
 f20:=⟨Tryz.f198.name,by decide,Tryz.func198.trans (congrArg some (by kernel_rfl))⟩
 f21:=⟨Tryz.f199.name,by decide,Tryz.func199.trans (congrArg some (by kernel_rfl))⟩
 f22:=⟨Tryz.f200.name,by decide,Tryz.func200.trans (congrArg some (by kernel_rfl))⟩
 f23:=⟨Tryz.f201.name,by decide,Tryz.func201.trans (congrArg some (by kernel_rfl))⟩
 f24:=⟨Tryz.f202.name,by decide,Tryz.func202.trans (congrArg some (by kernel_rfl))⟩
 f25:=⟨Tryz.f203.name,by decide,Tryz.func203.trans (congrArg some (by kernel_rfl))⟩
 f26:=⟨Tryz.f204.name,by decide,Tryz.func204.trans (congrArg some (by kernel_rfl))⟩
 f27:=⟨Tryz.f205.name,by decide,Tryz.func205.trans (congrArg some (by kernel_rfl))⟩
 f28:=Tryz.func206.trans (congrArg some (by kernel_rfl))
 f29:=Tryz.func207.trans (congrArg some (by kernel_rfl))
 f46:=⟨Tryz.f208.name,by decide,Tryz.func208.trans (congrArg some (by kernel_rfl))⟩
 f47:=Tryz.func209.trans (congrArg some (by kernel_rfl))
 f48:=Tryz.func210.trans (congrArg some (by kernel_rfl))
 f49:=⟨Tryz.f211.name,by decide,Tryz.func211.trans (congrArg some (by kernel_rfl))⟩
 f50:=⟨Tryz.f212.name,by decide,Tryz.func212.trans (congrArg some (by kernel_rfl))⟩
 f57:=⟨Tryz.f213.name,by decide,Tryz.func213.trans (congrArg some (by kernel_rfl))⟩
 t0:=Tryz.underlying0
 a0:=Tryz.isAgg0
 z0:=Tryz.sizeOf0
 v0:=Tryz.zeroValue0
 t3:=Tryz.underlying3
 a3:=Tryz.isAgg3
 z3:=Tryz.sizeOf3
 v3:=Tryz.zeroValue3
 t4:=Tryz.underlying4
 a4:=Tryz.isAgg4
 z4:=Tryz.sizeOf4
 v4:=Tryz.zeroValue4
 t5:=Tryz.underlying5
 a5:=Tryz.isAgg5
 z5:=Tryz.sizeOf5
 v5:=Tryz.zeroValue5
 t9:=Tryz.underlying9
 a9:=Tryz.isAgg9
 z9:=Tryz.sizeOf9
 v9:=Tryz.zeroValue9
 t22:=Tryz.underlying47
 a22:=Tryz.isAgg47
 z22:=Tryz.sizeOf47
 v22:=Tryz.zeroValue47
 t25:=Tryz.underlying216
 a25:=Tryz.isAgg216
 z25:=Tryz.sizeOf216
 v25:=Tryz.zeroValue216
 t39:=Tryz.underlying171
 a39:=Tryz.isAgg171
 z39:=Tryz.sizeOf171
 v39:=Tryz.zeroValue171
 t45:=Tryz.underlying232
 a45:=Tryz.isAgg232
 z45:=Tryz.sizeOf232
 v45:=Tryz.zeroValue232
 t46:=Tryz.underlying233
 a46:=Tryz.isAgg233
 z46:=Tryz.sizeOf233
 v46:=Tryz.zeroValue233
 t50:=Tryz.underlying186
 a50:=Tryz.isAgg186
 z50:=Tryz.sizeOf186
 v50:=Tryz.zeroValue186
 t53:=Tryz.underlying225
 a53:=Tryz.isAgg225
 z53:=Tryz.sizeOf225
 v53:=Tryz.zeroValue225
 t55:=Tryz.underlying228
 a55:=Tryz.isAgg228
 z55:=Tryz.sizeOf228
 v55:=Tryz.zeroValue228
 t66:=Tryz.underlying240
 a66:=Tryz.isAgg240
 z66:=Tryz.sizeOf240
 v66:=Tryz.zeroValue240
 t70:=Tryz.underlying244
 a70:=Tryz.isAgg244
 z70:=Tryz.sizeOf244
 v70:=Tryz.zeroValue244
 t76:=Tryz.underlying246
 a76:=Tryz.isAgg246
 z76:=Tryz.sizeOf246
 v76:=Tryz.zeroValue246
 t77:=Tryz.underlying247
 a77:=Tryz.isAgg247
 z77:=Tryz.sizeOf247
 v77:=Tryz.zeroValue247 }
end R
namespace R
open Go.RowKit
open D
def FldAll (P:Program) (T:TypeId):Nat->List (Nat×Nat)->Prop
 | _,[] =>True
 | i,q::l=>TF P T i q.1 q.2/\FldAll P T (i+1) l
theorem FldAll.get {P:Program} {T:TypeId} : ∀ {l:List (Nat×Nat)} {i:Nat},FldAll P T i l-> ∀f q,l[f]? =some q->TF P T (i+f) q.1 q.2
 | [],_,_,f,q,h=>by simp at h
 | x::l,i,⟨h1,h2⟩,f,q,h=>by
  cases f with
  | zero=>simp at h;subst h;exact h1
  | succ f =>
   have:=FldAll.get h2 f q (by simpa using h)
   rwa [show i+1+f=i+(f+1) from by omega] at this
section
variable {P:Program} {T:TypeId}
theorem tn {n b:Nat} {ty:Ty} {z:Value} {boo:Bool} {ik:Option (Option IntKind)} (h1:TI P T false 1) (h2:ty.size=1) (h3:TZ P T z 1 b) (h4:z.cells=(zeroCells ty).toArray) (h5:1<=b) (h6:boo=true->P.underlying T=some .bool) (h7: ∀k,ik=some k->P.underlying T=some (ikD k)):TDok P T ⟨false,1,none,ty,[],some b,none,boo,none,none,ik,false,none⟩:=
 ⟨h1,rfl,h2,fun E h=>by simp at h,fun f q h=>by simp at h,fun b' h=>by obtain rfl:=ae h;exact ⟨z,h3,h4,h5⟩,fun pl h=>by simp at h,h6,(fun ks h=>by cases h),(fun m h=>by cases h),h7,(fun h=>by cases h),fun e h=>by cases h⟩
theorem tp {E:TypeId} {t:Ty} (h1:TI P T false 1) (h2:P.underlying T=some (.slice E)) (h3:TZ P T (.slice none 0 0) 1 24):TDok P T ⟨false,1,some E,.sl E t,[],some 24,none,false,none,none,none,false,none⟩:=
 ⟨h1,rfl,rfl,fun E' h=>by obtain rfl:=ae h;exact h2,fun f q h=>by simp at h,fun b' h=>by obtain rfl:=ae h;exact ⟨_,h3,rfl,by decide⟩,fun pl h=>by simp at h,(fun h=>by cases h),(fun ks h=>by cases h),(fun m h=>by cases h),(fun k h=>by cases h),(fun h=>by cases h),fun e h=>by cases h⟩
theorem ss {n b:Nat} {ty:Ty} {fs pl:List (Nat×Nat)} {z:Value} {eq:Option (List (Option IntKind))} (h1:TI P T true n) (h2:ty.size=n) (h3:FldAll P T 0 fs) (h4:TZ P T z n b) (h5:z.cells=(zeroCells ty).toArray) (h6:1<=b) (h7:TB P T pl) (h8: ∀ks,eq=some ks-> ∀w,Curq ks fun xs ys r=>EqT P T (.agg xs.toArray) (.agg ys.toArray) r w):TDok P T ⟨true,n,none,ty,fs,some b,some pl,false,eq,none,none,false,none⟩:=
 ⟨h1,rfl,h2,fun E h=>by simp at h,fun f q h=>by have:=h3.get f q h;rwa [Nat.zero_add] at this,fun b' h=>by obtain rfl:=ae h;exact ⟨z,h4,h5,h6⟩,fun pl' h=>by obtain rfl:=ae h;exact h7,(fun h=>by cases h),h8,(fun m h=>by cases h),(fun k h=>by cases h),(fun h=>by cases h),fun e h=>by cases h⟩
theorem F5 {ty:Ty} {b:Nat} (h1:TI P T false 1) (h2:ty.size=1) (h3:TZ P T .nilFunc 1 b):TDok P T ⟨false,1,none,ty,[],none,none,false,none,none,none,true,none⟩:=
 ⟨h1,rfl,h2,fun E h=>by simp at h,fun f q h=>by simp at h,(fun b' h=>by cases h),(fun pl h=>by cases h),(fun h=>by cases h),(fun ks h=>by cases h),(fun m' h=>by cases h),(fun k h=>by cases h),(fun _=>⟨b,h3⟩),fun e h=>by cases h⟩
theorem Xh {m:MD} {ty:Ty} (h1:TI P T false 1) (h2:ty.size=1) (h3:MDok P T m):TDok P T ⟨false,1,none,ty,[],none,none,false,none,some m,none,false,none⟩:=
 ⟨h1,rfl,h2,fun E h=>by simp at h,fun f q h=>by simp at h,(fun b' h=>by cases h),(fun pl h=>by cases h),(fun h=>by cases h),(fun ks h=>by cases h),(fun m' h=>by obtain rfl:=ae h;exact h3),(fun k h=>by cases h),(fun h=>by cases h),fun e h=>by cases h⟩
theorem Zl {e E:TypeId} {u:Ty} (h1:TI P T false 1) (h2:P.underlying T=some (.pointer e)) (h3:TZ P T (.pointer none) 1 8):TDok P T ⟨false,1,none,.fro (.tree e E u),[],some 8,none,false,none,none,none,false,some e⟩:=
 ⟨h1,rfl,rfl,fun E' h=>by simp at h,fun f q h=>by simp at h,fun b' h=>by obtain rfl:=ae h;exact ⟨_,h3,rfl,by decide⟩,fun pl h=>by simp at h,(fun h=>by cases h),(fun ks h=>by cases h),(fun m h=>by cases h),(fun k h=>by cases h),(fun h=>by cases h),fun e' h=>by obtain rfl:=ae h;exact h2⟩
end
end R
namespace D
open Go.RowKit
abbrev Yq1:Type:=(Int×Int×Int×Int)
abbrev Yq2:Type:=(List (Int×Int))
abbrev Yq3:Type:=(Int×(List Bool)×(List (List Int)))
abbrev Yq4:Type:=((List Int)×Int×Int×(List Int)×Bool)
abbrev Yq5:Type:=(Out (List (List Bool)) ((List (List Bool))×Int))
abbrev Yq6:Type:=(Out (List (List Bool)) (Int×List (List Bool)))
abbrev Yq7:Type:=(Out Yq2 (Yq2×Int))
abbrev Yq8:Type:=(Int×Int×Bool×Int×Int)
abbrev Yq9:Type:=(Out (List (List Int)) ((List (List Int))×Int))
abbrev QM:Type:=((Int×Bool)×Int×Int)
abbrev U3:Type:=(Out (List Int) ((List Int)×Int))
def cd (a:Int) (b:Int) (c:Int):Option Bool:=
 if decide (a≥b) then (some (decide (a<=c))) else (some false)
def jG (a:Int):Option Bool:=
 (cd a 0 8).bind fun b=>some b
def mM (a:Int×Int×Int×Int):Option Int:=
 Option.bind ((if a.1==1 then (some (a.1==1)) else (some (a.1==2)):Option Bool)) (fun b=>if b then (if a.2.1 !=0 then (some (-1)) else (if a.2.2.1 !=0 then (some (-1)) else (if a.2.2.2 !=0 then (some (-1)) else (some 0)))) else (if a.1==3 then ((jG a.2.1).bind fun c=>if c then (if a.2.2.1 !=0 then (some (-1)) else (if a.2.2.2 !=0 then (some (-1)) else (some 0))) else (some (-1))) else (Option.bind ((if a.1==4 then (some (a.1==4)) else (some (a.1==5)):Option Bool)) (fun d=>if d then (if a.2.1 !=0 then (some (-1)) else (if a.2.2.1 !=0 then (some (-1)) else (if a.2.2.2 !=0 then (some (-1)) else (some 2)))) else (if a.1==6 then (if a.2.1 !=0 then (some (-1)) else (if a.2.2.1 !=0 then (some (-1)) else (if a.2.2.2 !=0 then (some (-1)) else (some 1)))) else (if a.1==7 then (if a.2.1 !=0 then (some (-1)) else ((cd a.2.2.2 1 3).bind fun e=>if e then ((cd a.2.2.1 0 a.2.2.2).bind fun f=>if f then (some 1) else (some (-1))) else (some (-1)))) else (some (-1))))))))
def px (d:(List Yq1)) (a:Int×Int):Option (Out Bool (Int×Int)):=
 if decide (a.2<(d.length:Int)) then ((aK d a.2).bind fun b=>(mM (b.1,b.2.1,b.2.2.1,b.2.2.2)).bind fun c=>if decide (c<0) then (some (.ret false)) else (if decide (c>a.1) then (some (.ret false)) else (some (.nxt (i64.wrap ((i64.wrap (a.1 - c))+1),i64.wrap (a.2+1)))))) else (some (.brk (a.1,a.2)))
def oF (a:(List Yq1)):Option Bool:=
 aO (ax (px a) aR (0,0)) (fun r=>some r) (fun b=>some (b.1==1))
def bK (a:(List Yq1)):Option Bool:=
 if decide ((a.length:Int)<=24) then ((oF a).bind fun b=>some b) else (some false)
def lf (b:Int) (a:(List Int)×Int):Option U3:=
 if decide (a.2<30) then (Option.bind (((chk (0<=a.2)).bind fun _=>if (nw (nr b a.2) 1)==1 then ((cP 8 a.1 ([a.2])).bind fun c=>some c) else (some a.1):Option (List Int))) (fun d=>some (.nxt (d,i64.wrap (a.2+1))))) else (some (.brk (a.1,a.2)))
def uA (a:Int):Option (List Int):=
 aO (ax (lf a) aR (([] :List Int),0)) (fun r=>some r) (fun b=>some b.1)
def jY (b:(List Yq1)) (a:Int×Int):Option (Out (List Int) (Int×Int)):=
 if decide (a.2<(b.length:Int)) then ((oF b).bind fun d=>if d then (Option.bind (((aK b a.2).bind fun e=>if e.1==3 then ((aK b a.2).bind fun c=>(chk (0<=c.2.1)).bind fun _=>some (orI a.1 (wU 1 c.2.1))) else (some a.1):Option Int)) (fun f=>some (.nxt (f,i64.wrap (a.2+1))))) else (some (.brk (a.1,a.2)))) else (some (.brk (a.1,a.2)))
def lg (a:(List Yq1)):Option (List Int):=
 aO (ax (jY a) aR (0,0)) (fun r=>some r) (fun b=>(uA b.1).bind fun c=>some c)
def mb (b:Int) (d:Bool) (a:(List (List Bool))×Int):Option Yq5:=
 if decide (a.2<b) then ((mkI 1 b (false:Bool)).bind fun c=>(aK c a.2).bind fun f=>(cP 24 a.1 ([c.set a.2.toNat d])).bind fun e=>some (.nxt (e,i64.wrap (a.2+1)))) else (some (.brk (a.1,a.2)))
def eO (a:Int) (b:Bool):Option (List (List Bool)):=
 aO (ax (mb a b) aR (([] :List (List Bool)),0)) (fun r=>some r) (fun c=>some c.1)
def cz (d:List (List Bool)) (f:List (List Bool)) (b:Int×List (List Bool)) (e:Int×List (List Bool)) (a:Int×List (List Bool)):Option Yq6:=
 if decide (a.1<(d.length:Int)) then ((aK d b.1).bind fun g=>(aK g e.1).bind fun h=>if h then ((aK a.2 b.1).bind fun c=>(aK a.2 b.1).bind fun l=>(chk (b.1<((a.2.set b.1.toNat ([] :List Bool)).length:Int))).bind fun _=>(chk (b.1=b.1)).bind fun _=>(aK a.2 b.1).bind fun m=>(chk (b.1<((a.2.set b.1.toNat ([] :List Bool)).length:Int))).bind fun _=>(chk (b.1=b.1)).bind fun _=>(aK c a.1).bind fun i=>if i then ((aK c a.1).bind fun n=>some (.nxt (i64.wrap (a.1+1),a.2.set b.1.toNat (c.set a.1.toNat true)))) else ((aK f e.1).bind fun j=>(aK j a.1).bind fun k=>(aK c a.1).bind fun o=>some (.nxt (i64.wrap (a.1+1),a.2.set b.1.toNat (c.set a.1.toNat k))))) else (some (.brk (a.1,a.2)))) else (some (.brk (a.1,a.2)))
def gY (b:List (List Bool)) (c:List (List Bool)) (d:Int×List (List Bool)) (a:Int×List (List Bool)):Option Yq6:=
 if decide (a.1<(b.length:Int)) then (aO (ax (cz b c d a) aR (a.1,a.2)) (fun e=>some (.ret e)) (fun f=>some (.nxt (i64.wrap (a.1+1),f.2)))) else (some (.brk (a.1,a.2)))
def jZ (b:List (List Bool)) (c:List (List Bool)) (a:Int×List (List Bool)):Option Yq6:=
 if decide (a.1<(b.length:Int)) then (aO (ax (gY b c a) aR (a.1,a.2)) (fun d=>some (.ret d)) (fun e=>some (.nxt (i64.wrap (a.1+1),e.2)))) else (some (.brk (a.1,a.2)))
def jH (a:List (List Bool)) (b:List (List Bool)):Option (List (List Bool)):=
 (eO (a.length:Int) false).bind fun c=>aO (ax (jZ a b) aR (0,c)) (fun d=>some d) (fun e=>some e.2)
def j2 (d:List (List Bool)) (e:List (List Bool)) (b:(List (List Bool))×Int) (a:(List (List Bool))×Int):Option Yq5:=
 if decide (a.2<(d.length:Int)) then ((aK a.1 b.2).bind fun c=>(aK d b.2).bind fun f=>(aK f a.2).bind fun g=>if g then ((aK c a.2).bind fun j=>some (.nxt (a.1.set b.2.toNat (c.set a.2.toNat true),i64.wrap (a.2+1)))) else ((aK e b.2).bind fun h=>(aK h a.2).bind fun i=>(aK c a.2).bind fun k=>some (.nxt (a.1.set b.2.toNat (c.set a.2.toNat i),i64.wrap (a.2+1))))) else (some (.brk (a.1,a.2)))
def j3 (b:List (List Bool)) (c:List (List Bool)) (a:(List (List Bool))×Int):Option Yq5:=
 if decide (a.2<(b.length:Int)) then (aO (ax (j2 b c a) aR (a.1,a.2)) (fun r=>some (.ret r)) (fun d=>some (.nxt (d.1,i64.wrap (a.2+1))))) else (some (.brk (a.1,a.2)))
def jI (a:List (List Bool)) (b:List (List Bool)):Option (List (List Bool)):=
 (eO (a.length:Int) false).bind fun c=>aO (ax (j3 a b) aR (c,0)) (fun r=>some r) (fun d=>some d.1)
def iC (b:List (List Bool)) (c:Int) (d:Int) (a:(List (List Bool))×(List (List Bool))×Int):Option (Out (List (List Bool)) ((List (List Bool))×(List (List Bool))×Int)):=
 if decide (a.2.2<=d) then (Option.bind ((if decide (a.2.2≥c) then ((jI a.1 a.2.1).bind fun e=>some e) else (some a.1):Option (List (List Bool)))) (fun f=>(jH a.2.1 b).bind fun g=>some (.nxt (f,g,i64.wrap (a.2.2+1))))) else (some (.brk (a.1,a.2.1,a.2.2)))
def gC (a:List (List Bool)) (b:Int) (c:Int):Option (List (List Bool)):=
 (eO (a.length:Int) false).bind fun d=>(eO (a.length:Int) true).bind fun e=>aO (ax (iC a b c) aR (d,e,0)) (fun r=>some r) (fun f=>some f.1)
def jg (b:List Int) (d:Int×Int×Int×Int) (a:Int×List (List Bool)):Option (Out Bool (Int×List (List Bool))):=
 if decide (a.1<(b.length:Int)) then ((aK a.2 a.1).bind fun c=>(aK b a.1).bind fun e=>(aK c (i64.wrap (a.1+1))).bind fun f=>some (.nxt (i64.wrap (a.1+1),a.2.set a.1.toNat (c.set ((i64.wrap (a.1+1)).toNat) (e==d.2.1))))) else (some (.brk (a.1,a.2)))
def bz (d:List Yq1) (c:List Int) (a:(List (List (List Bool)))×Int):Option (Out Bool ((List (List (List Bool)))×Int)):=
 if decide (a.2<(d.length:Int)) then (Option.bind (((aK d a.2).bind fun b=>if b.1==2 then ((eO (i64.wrap ((c.length:Int)+1)) true).bind fun e=>(cP 24 a.1 ([e])).bind fun f=>some f) else (if b.1==3 then ((eO (i64.wrap ((c.length:Int)+1)) false).bind fun g=>aO (ax (jg c b) aR (0,g)) (fun y=>none) (fun h=>(cP 24 a.1 ([h.2])).bind fun i=>some i)) else (if b.1==4 then ((aK a.1 (i64.wrap ((a.1.length:Int) - 2))).bind fun j=>(aK a.1 (i64.wrap ((a.1.length:Int) - 1))).bind fun k=>(jH j k).bind fun l=>(chk (And (0<=(i64.wrap ((a.1.length:Int) - 2))) ((i64.wrap ((a.1.length:Int) - 2))<=(a.1.length:Int)))).bind fun _=>(cP 24 (a.1.take ((i64.wrap ((a.1.length:Int) - 2)).toNat)) ([l])).bind fun m=>some m) else (if b.1==5 then ((aK a.1 (i64.wrap ((a.1.length:Int) - 2))).bind fun n=>(aK a.1 (i64.wrap ((a.1.length:Int) - 1))).bind fun o=>(jI n o).bind fun p=>(chk (And (0<=(i64.wrap ((a.1.length:Int) - 2))) ((i64.wrap ((a.1.length:Int) - 2))<=(a.1.length:Int)))).bind fun _=>(cP 24 (a.1.take ((i64.wrap ((a.1.length:Int) - 2)).toNat)) ([p])).bind fun q=>some q) else (if b.1==6 then ((aK a.1 (i64.wrap ((a.1.length:Int) - 1))).bind fun r=>(gC r 0 (c.length:Int)).bind fun s=>(aK a.1 (i64.wrap ((a.1.length:Int) - 1))).bind fun z=>some (a.1.set ((i64.wrap ((a.1.length:Int) - 1)).toNat) s)) else (if b.1==7 then ((aK a.1 (i64.wrap ((a.1.length:Int) - 1))).bind fun t=>(gC t b.2.2.1 b.2.2.2).bind fun u=>(aK a.1 (i64.wrap ((a.1.length:Int) - 1))).bind fun A=>some (a.1.set ((i64.wrap ((a.1.length:Int) - 1)).toNat) u)) else ((eO (i64.wrap ((c.length:Int)+1)) false).bind fun v=>(cP 24 a.1 ([v])).bind fun w=>some w)))))):Option (List (List (List Bool))))) (fun x=>some (.nxt (x,i64.wrap (a.2+1))))) else (some (.brk (a.1,a.2)))
def mN (b:List Yq1) (a:List Int):Option Bool:=
 aO (ax (bz b a) aR (([] :List (List (List Bool))),0)) (fun c=>some c) (fun d=>(aK d.1 0).bind fun e=>(aK e 0).bind fun f=>(aK f (a.length:Int)).bind fun g=>some g)
def gp (b:List Int) (c:(List (List Int))×(List (List Int))×Int×List (List Int)) (d:(List (List Int))×List (List Int)) (a:(List (List Int))×Int):Option Yq9:=
 if decide (a.2<(b.length:Int)) then ((aK d.2 c.2.2.1).bind fun e=>(cP 8 ([] :List Int) e).bind fun f=>(aK b a.2).bind fun g=>(cP 8 f ([g])).bind fun h=>(cP 24 a.1 ([h])).bind fun i=>some (.nxt (i,i64.wrap (a.2+1)))) else (some (.brk (a.1,a.2)))
def gq (c:List Yq1) (d:List Int) (a:(List (List Int))×(List (List Int))×Int×List (List Int)):Option (Out (List (List Int)) ((List (List Int))×(List (List Int))×Int×List (List Int))):=
 if decide (a.2.2.1<(a.2.2.2.length:Int)) then ((aK a.2.2.2 a.2.2.1).bind fun e=>(mN c e).bind fun f=>Option.bind ((if f then ((aK a.2.2.2 a.2.2.1).bind fun g=>(cP 8 ([] :List Int) g).bind fun h=>(cP 24 a.1 ([h])).bind fun i=>some (i,a.2.2.2)) else (some (a.1,a.2.2.2)):Option ((List (List Int))×List (List Int)))) (fun b=>aO (ax (gp d a b) aR (a.2.1,0)) (fun j=>some (.ret j)) (fun k=>some (.nxt (b.1,k.1,i64.wrap (a.2.2.1+1),b.2))))) else (some (.brk (a.1,a.2.1,a.2.2.1,a.2.2.2)))
def gr (c:List Yq1) (d:Int) (e:List Int) (a:(List (List Int))×(List (List Int))×Int):Option (Out (List (List Int)) ((List (List Int))×(List (List Int))×Int)):=
 if decide (a.2.2<=d) then (aO (ax (gq c e) aR (a.1,([] :List (List Int)),0,a.2.1)) (fun f=>some (.ret f)) (fun b=>some (.nxt (b.1,b.2.1,i64.wrap (a.2.2+1))))) else (some (.brk (a.1,a.2.1,a.2.2)))
def dV (a:List Yq1) (b:Int):Option (List (List Int)):=
 (bK a).bind fun c=>if c then ((cd b 0 3).bind fun d=>if d then ((lg a).bind fun e=>aO (ax (gr a b e) aR (([] :List (List Int)),[([] :List Int)],0)) (fun f=>some f) (fun g=>some g.1)) else (some ([] :List (List Int)))) else (some ([] :List (List Int)))
def Cg (b:List Int) (a:Int):Option (Out Bool Int):=
 if decide (a<(b.length:Int)) then ((aK b a).bind fun c=>(jG c).bind fun d=>if d then (some (.nxt (i64.wrap (a+1)))) else (some (.ret false))) else (some (.brk a))
def AD (a:List Int):Option Bool:=
 aO (ax (Cg a) aR 0) (fun r=>some r) (fun b=>some (decide ((a.length:Int)<=8)))
def AE (a:Int):Option Bool:=
 (cd a 0 5).bind fun b=>some b
def wW (b:List Int) (a:Bool×Int×(List Int)×(List Yq1)):Option (Out (((List Int)×(List Yq1))×Bool) (Bool×Int×(List Int)×(List Yq1))):=
 if decide (a.2.1<(b.length:Int)) then (IN (S:=Bool×(List Int)×(List Yq1)) ((aK b a.2.1).bind fun f=>(AE f).bind fun g=>if g then (if (i64.wrap ((i64.wrap ((a.2.2.1.length:Int) - 1))+1))==5 then (some (.inl (.ret (([],[]),false)))) else ((aK b a.2.1).bind fun h=>Option.bind (((aK b a.2.1).bind fun i=>if (Int.tmod i 2)==1 then ((aK b a.2.1).bind fun j=>some (i64.wrap ((i64.wrap ((a.2.2.1.length:Int) - 1))+1),i64.wrap ((i64.wrap ((a.2.2.1.length:Int) - 1))+1),i64.wrap ((a.2.2.1.length:Int) - 1),RH j 2)) else (some (i64.wrap ((i64.wrap ((a.2.2.1.length:Int) - 1))+1),i64.wrap ((a.2.2.1.length:Int) - 1),i64.wrap ((i64.wrap ((a.2.2.1.length:Int) - 1))+1),RH h 2)):Option Yq1)) (fun c=>(cP 8 a.2.2.1 ([0])).bind fun k=>(cP 32 a.2.2.2 ([(c.1,c.2.1,c.2.2.1,c.2.2.2)])).bind fun l=>some (.inr (false,k,l))))) else ((aK b a.2.1).bind fun d=>if a.1 then ((aK a.2.2.1 (i64.wrap ((a.2.2.1.length:Int) - 1))).bind fun m=>if m !=(i64.wrap (d - 6)) then (some (.inl (.ret (([],[]),false)))) else ((aK a.2.2.1 (i64.wrap ((a.2.2.1.length:Int) - 1))).bind fun n=>some (.inr (true,a.2.2.1.set (i64.wrap ((a.2.2.1.length:Int) - 1)).toNat (i64.wrap (d - 6)),a.2.2.2)))) else ((aK a.2.2.1 (i64.wrap ((a.2.2.1.length:Int) - 1))).bind fun o=>some (.inr (true,a.2.2.1.set (i64.wrap ((a.2.2.1.length:Int) - 1)).toNat (i64.wrap (d - 6)),a.2.2.2))))) (fun e=>some (.nxt (e.1,i64.wrap (a.2.1+1),e.2.1,e.2.2)))) else (some (.brk (a.1,a.2.1,a.2.2.1,a.2.2.2)))
def dm (a:List Int):Option (((List Int)×(List Yq1))×Bool):=
 (AD a).bind fun c=>if c then (aO (ax (wW a) aR (false,0,[0],[])) (fun r=>some r) (fun b=>some ((b.2.2.1,b.2.2.2),true))) else (some (([],[]),false))
def cA (b:Int) (a:Yq2×Int):Option Yq7:=
 if decide (a.2<b) then (if decide (b<=5) then ((cP 16 a.1 ([(a.2,a.2)])).bind fun c=>some (.nxt (c,i64.wrap (a.2+1)))) else (some (.brk (a.1,a.2)))) else (some (.brk (a.1,a.2)))
def cQ (a:Int):Option Yq2:=
 aO (ax (cA a) aR (([] :List (Int×Int)),0)) (fun r=>some r) (fun b=>some b.1)
def AF (b:(List Int)×(List Yq1)) (a:Int×Int×Int×Int):Option Bool:=
 (cd a.1 1 99).bind fun c=>if c then ((cd a.2.1 0 (i64.wrap ((b.1.length:Int) - 1))).bind fun d=>if d then ((cd a.2.2.1 0 (i64.wrap ((b.1.length:Int) - 1))).bind fun e=>if e then ((cd a.2.2.2 0 2).bind fun f=>some f) else (some false)) else (some false)) else (some false)
def mO (b:(List Int)×(List Yq1)) (a:Int):Option (Out Bool Int):=
 if decide (a<(b.1.length:Int)) then ((aK b.1 a).bind fun c=>(cd c 0 2).bind fun d=>if d then (some (.nxt (i64.wrap (a+1)))) else (some (.ret false))) else (some (.brk a))
def jz (b:(List Int)×(List Yq1)) (a:Int):Option (Out Bool Int):=
 if decide (a<(b.2.length:Int)) then ((aK b.2 a).bind fun c=>(AF (b.1,b.2) (c.1,c.2.1,c.2.2.1,c.2.2.2)).bind fun d=>if d then (if decide (a>0) then ((aK b.2 (i64.wrap (a - 1))).bind fun e=>(aK b.2 a).bind fun f=>if decide (e.1≥f.1) then (some (.ret false)) else (some (.nxt (i64.wrap (a+1))))) else (some (.nxt (i64.wrap (a+1))))) else (some (.ret false))) else (some (.brk a))
def bj (a:(List Int)×(List Yq1)):Option Bool:=
 aO (ax (mO a) aR 0) (fun r=>some r) (fun c=>aO (ax (jz a) aR 0) (fun r=>some r) (fun d=>(cd (a.1.length:Int) 1 5).bind fun b=>if b then (some (decide ((a.2.length:Int)<=12))) else (some false)))
def kC (a:Int×Int) (b:Int×Int):Option Bool:=
 if decide (a.1<b.1) then (some true) else (if a.1==b.1 then (some (decide (a.2<b.2))) else (some false))
def mc (b:List (Int×Int)) (c:Int×Int) (a:Int):Option (Out Yq2 Int):=
 if decide (a<(b.length:Int)) then ((aK b a).bind fun d=>(kC (d.1,d.2) (c.1,c.2)).bind fun e=>if e then (some (.nxt (i64.wrap (a+1)))) else (some (.brk a))) else (some (.brk a))
def gD (a:List (Int×Int)) (c:Int×Int):Option Yq2:=
 aO (ax (mc a c) aR 0) (fun e=>some e) (fun b=>if decide (b<(a.length:Int)) then ((aK a b).bind fun d=>if Bool.and.match_1 (fun (l:Bool)=>Bool) (d.1==c.1) (fun (m:Unit)=>false) (fun (n:Unit)=>Bool.and.match_1 (fun (o:Bool)=>Bool) (d.2==c.2) (fun (p:Unit)=>false) (fun (q:Unit)=>true)) then (some a) else ((chk (And (0<=b) (b<=(a.length:Int)))).bind fun _=>(cP 16 ([] :List (Int×Int)) ((a.take b.toNat).drop 0)).bind fun f=>(cP 16 f ([(c.1,c.2)])).bind fun g=>(chk (And (0<=b) (b<=(a.length:Int)))).bind fun _=>(cP 16 g ((a.take a.length).drop b.toNat)).bind fun h=>some h)) else ((chk (And (0<=b) (b<=(a.length:Int)))).bind fun _=>(cP 16 ([] :List (Int×Int)) ((a.take b.toNat).drop 0)).bind fun i=>(cP 16 i ([(c.1,c.2)])).bind fun j=>(chk (And (0<=b) (b<=(a.length:Int)))).bind fun _=>(cP 16 j ((a.take a.length).drop b.toNat)).bind fun k=>some k))
def py (a:(List Int)×(List Yq1)) (b:Int) (c:Int):Option Bool:=
 (bj (a.1,a.2)).bind fun d=>if d then ((cd b 0 (i64.wrap ((a.1.length:Int) - 1))).bind fun e=>if e then ((cd c 6 8).bind fun f=>if f then ((aK a.1 b).bind fun g=>some (g==(i64.wrap (c - 6)))) else (some false)) else (some false)) else (some false)
def dt (b:(List Int)×(List Yq1)) (c:Int) (a:Yq2×Int):Option Yq7:=
 if decide (a.2<(b.1.length:Int)) then (Option.bind (((py (b.1,b.2) a.2 c).bind fun d=>if d then ((gD a.1 (a.2,a.2)).bind fun e=>some e) else (some a.1):Option Yq2)) (fun f=>some (.nxt (f,i64.wrap (a.2+1))))) else (some (.brk (a.1,a.2)))
def du (c:(List Int)×(List Yq1)) (d:Int) (a:Yq2×Int):Option Yq7:=
 if decide (a.2<(c.2.length:Int)) then (Option.bind (((aK c.2 a.2).bind fun b=>Option.bind ((if (i64.wrap (2*b.2.2.2))==d then ((gD a.1 (b.2.1,b.2.2.1)).bind fun f=>some f) else (some a.1):Option Yq2)) (fun e=>if (i64.wrap ((i64.wrap (2*b.2.2.2))+1))==d then ((gD e (b.2.2.1,b.2.1)).bind fun g=>some g) else (some e)):Option Yq2)) (fun h=>some (.nxt (h,i64.wrap (a.2+1))))) else (some (.brk (a.1,a.2)))
def gM (a:(List Int)×(List Yq1)) (b:Int):Option Yq2:=
 (bj (a.1,a.2)).bind fun c=>if c then (aO (ax (dt a b) aR (([] :List (Int×Int)),0)) (fun r=>some r) (fun d=>aO (ax (du a b) aR (d.1,0)) (fun r=>some r) (fun e=>some e.1))) else (some ([] :List (Int×Int)))
def kN (c:List Yq1) (a:Int×Int):Option (Out Int (Int×Int)):=
 if decide (a.1>0) then ((aK c (i64.wrap (a.2 - 1))).bind fun b=>(mM (b.1,b.2.1,b.2.2.1,b.2.2.2)).bind fun d=>some (.nxt (i64.wrap ((i64.wrap (a.1 - 1))+d),i64.wrap (a.2 - 1)))) else (some (.brk (a.1,a.2)))
def fl (a:List Yq1):Option Int:=
 aO (ax (kN a) aR (1,(a.length:Int))) (fun r=>some r) (fun b=>some b.2)
def cB (c:List (Int×Int)) (b:List (Int×Int)) (d:Yq2×Int) (a:Yq2×Int):Option Yq7:=
 if decide (a.2<(b.length:Int)) then (Option.bind (((aK c d.2).bind fun e=>(aK b a.2).bind fun f=>if e.2==f.1 then ((aK c d.2).bind fun g=>(aK b a.2).bind fun h=>(gD a.1 (g.1,h.2)).bind fun i=>some i) else (some a.1):Option Yq2)) (fun j=>some (.nxt (j,i64.wrap (a.2+1))))) else (some (.brk (a.1,a.2)))
def cC (b:List (Int×Int)) (c:List (Int×Int)) (a:Yq2×Int):Option Yq7:=
 if decide (a.2<(b.length:Int)) then (aO (ax (cB b c a) aR (a.1,0)) (fun r=>some (.ret r)) (fun d=>some (.nxt (d.1,i64.wrap (a.2+1))))) else (some (.brk (a.1,a.2)))
def cR (a:List (Int×Int)) (b:List (Int×Int)):Option Yq2:=
 aO (ax (cC a b) aR (([] :List (Int×Int)),0)) (fun r=>some r) (fun c=>some c.1)
def iD (b:List (Int×Int)) (a:Yq2×Int):Option Yq7:=
 if decide (a.2<(b.length:Int)) then ((aK b a.2).bind fun c=>(gD a.1 (c.1,c.2)).bind fun d=>some (.nxt (d,i64.wrap (a.2+1)))) else (some (.brk (a.1,a.2)))
def iE (b:List (Int×Int)) (a:Yq2×Int):Option Yq7:=
 if decide (a.2<(b.length:Int)) then ((aK b a.2).bind fun c=>(gD a.1 (c.1,c.2)).bind fun d=>some (.nxt (d,i64.wrap (a.2+1)))) else (some (.brk (a.1,a.2)))
def gE (a:List (Int×Int)) (b:List (Int×Int)):Option Yq2:=
 aO (ax (iD a) aR (([] :List (Int×Int)),0)) (fun r=>some r) (fun c=>aO (ax (iE b) aR (c.1,0)) (fun r=>some r) (fun d=>some d.1))
def mP (b:List (Int×Int)) (a:Int):Option (Out Bool Int):=
 if decide (a<(b.length:Int)) then ((aK b a).bind fun e=>(cd e.1 0 4).bind fun f=>if f then ((aK b a).bind fun g=>(cd g.2 0 4).bind fun h=>if h then (if decide (a>0) then ((aK b (i64.wrap (a - 1))).bind fun c=>(aK b a).bind fun d=>(kC (c.1,c.2) (d.1,d.2)).bind fun i=>if i then (some (.nxt (i64.wrap (a+1)))) else (some (.ret false))) else (some (.nxt (i64.wrap (a+1))))) else (some (.ret false))) else (some (.ret false))) else (some (.brk a))
def fX (a:List (Int×Int)):Option Bool:=
 aO (ax (mP a) aR 0) (fun r=>some r) (fun b=>some true)
def c7 (b:List (Int×Int)) (a:Yq2×Int):Option Yq7:=
 if decide (a.2<5) then ((cR a.1 b).bind fun c=>(gE a.1 c).bind fun d=>some (.nxt (d,i64.wrap (a.2+1)))) else (some (.brk (a.1,a.2)))
def db (a:Int) (b:List (Int×Int)):Option Yq2:=
 (cd a 1 5).bind fun c=>if c then ((fX b).bind fun d=>if d then ((cQ a).bind fun e=>aO (ax (c7 b) aR (e,0)) (fun r=>some r) (fun f=>some f.1)) else (some ([] :List (Int×Int)))) else (some ([] :List (Int×Int)))
def bg (b:List (Int×Int)) (c:Int) (d:Int) (a:Yq2×Yq2×Int):Option (Out Yq2 (Yq2×Yq2×Int)):=
 if decide (a.2.2<=d) then (Option.bind ((if decide (a.2.2≥c) then ((gE a.1 a.2.1).bind fun e=>some e) else (some a.1):Option Yq2)) (fun f=>(cR a.2.1 b).bind fun g=>some (.nxt (f,g,i64.wrap (a.2.2+1))))) else (some (.brk (a.1,a.2.1,a.2.2)))
def eh (a:Int) (b:List (Int×Int)) (c:Int) (d:Int):Option Yq2:=
 (cd a 1 5).bind fun e=>if e then ((fX b).bind fun f=>if f then ((cd d 0 3).bind fun g=>if g then (if decide (c<0) then (some ([] :List (Int×Int))) else ((cQ a).bind fun h=>aO (ax (bg b c d) aR (([] :List (Int×Int)),h,0)) (fun r=>some r) (fun i=>some i.1))) else (some ([] :List (Int×Int)))) else (some ([] :List (Int×Int)))) else (some ([] :List (Int×Int)))
def bh:Nat->((List Int)×List Yq1)->(List Yq1)->Option Yq2 
 | 0,_,_=>none
 | n+1,p0,p1 =>
  (aK p1 (i64.wrap ((p1.length:Int) - 1))).bind fun a=>if a.1==2 then ((cQ (p0.1.length:Int)).bind fun d=>some d) else (if a.1==3 then ((gM (p0.1,p0.2) a.2.1).bind fun e=>some e) else (if a.1==4 then ((chk (And (0<=(i64.wrap ((p1.length:Int) - 1))) ((i64.wrap ((p1.length:Int) - 1))<=(p1.length:Int)))).bind fun _=>(fl (p1.take ((i64.wrap ((p1.length:Int) - 1)).toNat))).bind fun b=>(chk (And (0<=b) (b<=(p1.length:Int)))).bind fun _=>((bh n) (p0.1,p0.2) (p1.take b.toNat)).bind fun f=>(chk (And (0<=b) (And (b<=(i64.wrap ((p1.length:Int) - 1))) ((i64.wrap ((p1.length:Int) - 1))<=(p1.length:Int))))).bind fun _=>((bh n) (p0.1,p0.2) ((p1.take ((i64.wrap ((p1.length:Int) - 1)).toNat)).drop b.toNat)).bind fun g=>(cR f g).bind fun h=>some h) else (if a.1==5 then ((chk (And (0<=(i64.wrap ((p1.length:Int) - 1))) ((i64.wrap ((p1.length:Int) - 1))<=(p1.length:Int)))).bind fun _=>(fl (p1.take ((i64.wrap ((p1.length:Int) - 1)).toNat))).bind fun c=>(chk (And (0<=c) (c<=(p1.length:Int)))).bind fun _=>((bh n) (p0.1,p0.2) (p1.take c.toNat)).bind fun i=>(chk (And (0<=c) (And (c<=(i64.wrap ((p1.length:Int) - 1))) ((i64.wrap ((p1.length:Int) - 1))<=(p1.length:Int))))).bind fun _=>((bh n) (p0.1,p0.2) ((p1.take ((i64.wrap ((p1.length:Int) - 1)).toNat)).drop c.toNat)).bind fun j=>(gE i j).bind fun k=>some k) else (if a.1==6 then ((chk (And (0<=(i64.wrap ((p1.length:Int) - 1))) ((i64.wrap ((p1.length:Int) - 1))<=(p1.length:Int)))).bind fun _=>((bh n) (p0.1,p0.2) (p1.take ((i64.wrap ((p1.length:Int) - 1)).toNat))).bind fun l=>(db (p0.1.length:Int) l).bind fun m=>some m) else (if a.1==7 then ((chk (And (0<=(i64.wrap ((p1.length:Int) - 1))) ((i64.wrap ((p1.length:Int) - 1))<=(p1.length:Int)))).bind fun _=>((bh n) (p0.1,p0.2) (p1.take ((i64.wrap ((p1.length:Int) - 1)).toNat))).bind fun o=>(eh (p0.1.length:Int) o a.2.2.1 a.2.2.2).bind fun p=>some p) else (some ([] :List (Int×Int))))))))
def me (b:List (Int×Int)) (c:Int×Int) (a:Int):Option (Out Bool Int):=
 if decide (a<(b.length:Int)) then ((aK b a).bind fun d=>if ((d.1==c.1)&&((d.2==c.2)&&true)) then (some (.ret true)) else (some (.nxt (i64.wrap (a+1))))) else (some (.brk a))
def oG (a:List (Int×Int)) (b:Int×Int):Option Bool:=
 aO (ax (me a b) aR 0) (fun r=>some r) (fun c=>some false)
def fF (b:(List Yq1)) (c:List Int):Option Bool:=
 (dm c).bind fun a=>if a.2 then ((bK b).bind fun d=>if d then ((bh bP (a.1.1,a.1.2) b).bind fun e=>(oG e (0,i64.wrap ((a.1.1.length:Int) - 1))).bind fun f=>some f) else (some false)) else (some false)
def bA (c:List Yq1) (b:List (List Int)) (a:Int):Option (Out ((List Int)×Bool) Int):=
 if decide (a<(b.length:Int)) then ((bK c).bind fun d=>if d then ((aK b a).bind fun e=>(dm e).bind fun f=>if f.2 then ((aK b a).bind fun g=>(fF c g).bind fun h=>if h then (some (.nxt (i64.wrap (a+1)))) else ((aK b a).bind fun i=>some (.ret (i,true)))) else (some (.nxt (i64.wrap (a+1))))) else (some (.brk a))) else (some (.brk a))
def bU (a:List Yq1) (b:List Yq1) (c:Int):Option ((List Int)×Bool):=
 (dV a c).bind fun d=>aO (ax (bA b d) aR 0) (fun e=>some e) (fun f=>some (([] :List Int),false))
def eu:Nat->(List Yq1)->Option Int
 | 0,_=>none
 | n+1,p0l =>
  (aK p0l (i64.wrap ((p0l.length:Int) - 1))).bind fun a=>Option.bind ((if a.1==4 then (some (a.1==4)) else (some (a.1==5)):Option Bool)) (fun c=>if c then ((chk (And (0<=(i64.wrap ((p0l.length:Int) - 1))) ((i64.wrap ((p0l.length:Int) - 1))<=(p0l.length:Int)))).bind fun _=>(fl (p0l.take ((i64.wrap ((p0l.length:Int) - 1)).toNat))).bind fun b=>(chk (And (0<=b) (b<=(p0l.length:Int)))).bind fun _=>((eu n) (p0l.take b.toNat)).bind fun d=>(chk (And (0<=b) (And (b<=(i64.wrap ((p0l.length:Int) - 1))) ((i64.wrap ((p0l.length:Int) - 1))<=(p0l.length:Int))))).bind fun _=>((eu n) ((p0l.take ((i64.wrap ((p0l.length:Int) - 1)).toNat)).drop b.toNat)).bind fun e=>some (Min.min 100000 (i64.wrap ((i64.wrap (d+e))+1)))) else (if a.1==6 then ((chk (And (0<=(i64.wrap ((p0l.length:Int) - 1))) ((i64.wrap ((p0l.length:Int) - 1))<=(p0l.length:Int)))).bind fun _=>((eu n) (p0l.take ((i64.wrap ((p0l.length:Int) - 1)).toNat))).bind fun f=>some (Min.min 100000 (i64.wrap (f+1)))) else (if a.1==7 then ((chk (And (0<=(i64.wrap ((p0l.length:Int) - 1))) ((i64.wrap ((p0l.length:Int) - 1))<=(p0l.length:Int)))).bind fun _=>((eu n) (p0l.take ((i64.wrap ((p0l.length:Int) - 1)).toNat))).bind fun g=>some (Min.min 100000 (i64.wrap ((i64.wrap ((i64.wrap (g+3))*a.2.2.2))+1)))) else (some 1))))
def gF (a:List Yq1):Option (List Yq1):=
 (cP 32 ([] :List Yq1) a).bind fun b=>some b
def dI (b:(List Yq1)) (c:(List Yq1)) (a:Int×Int×Int×Int):Option (List Yq1):=
 (gF b).bind fun d=>(cP 32 d c).bind fun e=>(cP 32 e ([(a.1,a.2.1,a.2.2.1,a.2.2.2)])).bind fun f=>some f
def oH (a:Int):Option (List Yq1):=
 some ([(a,0,0,0)])
def lh:Nat->(List Yq1)->Int->Int->Option (List Yq1)
 | 0,_,_,_=>none
 | n+1,p0e,p1low,p2high =>
  if p2high==0 then ((oH 2).bind fun b=>some b) else (((lh n) p0e (Max.max 0 (i64.wrap (p1low - 1))) (i64.wrap (p2high - 1))).bind fun c=>(dI p0e c (4,0,0,0)).bind fun a=>if decide (p1low>0) then (some a) else ((oH 2).bind fun d=>(dI a d (5,0,0,0)).bind fun e=>some e))
def cD:Nat->(List Yq1)->Option (List Yq1)
 | 0,_=>none
 | n+1,p0l =>
  (aK p0l (i64.wrap ((p0l.length:Int) - 1))).bind fun a=>Option.bind ((if a.1==4 then (some (a.1==4)) else (some (a.1==5)):Option Bool)) (fun c=>if c then ((chk (And (0<=(i64.wrap ((p0l.length:Int) - 1))) ((i64.wrap ((p0l.length:Int) - 1))<=(p0l.length:Int)))).bind fun _=>(fl (p0l.take ((i64.wrap ((p0l.length:Int) - 1)).toNat))).bind fun b=>(chk (And (0<=b) (b<=(p0l.length:Int)))).bind fun _=>((cD n) (p0l.take b.toNat)).bind fun d=>(chk (And (0<=b) (And (b<=(i64.wrap ((p0l.length:Int) - 1))) ((i64.wrap ((p0l.length:Int) - 1))<=(p0l.length:Int))))).bind fun _=>((cD n) ((p0l.take ((i64.wrap ((p0l.length:Int) - 1)).toNat)).drop b.toNat)).bind fun e=>(dI d e (a.1,a.2.1,a.2.2.1,a.2.2.2)).bind fun f=>some f) else (if a.1==6 then ((chk (And (0<=(i64.wrap ((p0l.length:Int) - 1))) ((i64.wrap ((p0l.length:Int) - 1))<=(p0l.length:Int)))).bind fun _=>((cD n) (p0l.take ((i64.wrap ((p0l.length:Int) - 1)).toNat))).bind fun g=>(dI g ([] :List Yq1) (a.1,a.2.1,a.2.2.1,a.2.2.2)).bind fun h=>some h) else (if a.1==7 then ((chk (And (0<=(i64.wrap ((p0l.length:Int) - 1))) ((i64.wrap ((p0l.length:Int) - 1))<=(p0l.length:Int)))).bind fun _=>((cD n) (p0l.take ((i64.wrap ((p0l.length:Int) - 1)).toNat))).bind fun i=>(lh bP i a.2.2.1 a.2.2.2).bind fun j=>some j) else (some ([(a.1,a.2.1,a.2.2.1,a.2.2.2)])))))
def kO (a:(List Yq1)):Option (((List Yq1))×Bool):=
 (bK a).bind fun c=>if c then ((eu bP a).bind fun d=>if decide (d>5000) then (some ([],false)) else ((cD bP a).bind fun b=>if decide ((b.length:Int)>400) then (some ([],false)) else (some (b,true)))) else (some ([],false))
def jh (b:Int) (c:Int) (a:Int×List Int):Option (Out Yq4 (Int×List Int)):=
 if decide (a.1<(a.2.length:Int)) then (Option.bind (((chk (0<=a.1)).bind fun _=>if (nw (nr b a.1) 1)==1 then ((aK a.2 a.1).bind fun d=>(aK a.2 a.1).bind fun f=>some (a.2.set a.1.toNat (orI d c))) else (some a.2):Option (List Int))) (fun e=>some (.nxt (i64.wrap (a.1+1),e)))) else (some (.brk (a.1,a.2)))
def mQ (a:(List Int)×Int×Int×(List Int)×Bool) (b:Int) (c:Int):Option Yq4:=
 aO (ax (jh b c) aR (0,a.2.2.2.1)) (fun d=>some d) (fun e=>some (a.1,a.2.1,a.2.2.1,e.2,a.2.2.2.2))
def bR:Nat->Yq4->(List Yq1)->Option ((Bool×Int×Int)×(List Int)×Int×Int×(List Int)×Bool)
 | 0,_,_=>none
 | n+1,p0,p1 =>
  (aK p1 (i64.wrap ((p1.length:Int) - 1))).bind fun g=>if g.1==2 then (some ((true,0,0),p0.1,p0.2.1,p0.2.2.1,p0.2.2.2.1,p0.2.2.2.2)) else (if g.1==3 then ((cP 8 p0.1 ([g.2.1])).bind fun p=>(cP 8 p0.2.2.2.1 ([0])).bind fun q=>some ((false,wU 1 (p0.1.length:Int),wU 1 (p0.1.length:Int)),p,p0.2.1,p0.2.2.1,q,p0.2.2.2.2)) else (if g.1==4 then ((chk (And (0<=(i64.wrap ((p1.length:Int) - 1))) ((i64.wrap ((p1.length:Int) - 1))<=(p1.length:Int)))).bind fun _=>(fl (p1.take ((i64.wrap ((p1.length:Int) - 1)).toNat))).bind fun h=>(chk (And (0<=h) (h<=(p1.length:Int)))).bind fun _=>((bR n) (p0.1,p0.2.1,p0.2.2.1,p0.2.2.2.1,p0.2.2.2.2) (p1.take h.toNat)).bind fun b=>(chk (And (0<=h) (And (h<=(i64.wrap ((p1.length:Int) - 1))) ((i64.wrap ((p1.length:Int) - 1))<=(p1.length:Int))))).bind fun _=>((bR n) (b.2.1,b.2.2.1,b.2.2.2.1,b.2.2.2.2.1,b.2.2.2.2.2) ((p1.take ((i64.wrap ((p1.length:Int) - 1)).toNat)).drop h.toNat)).bind fun a=>(mQ (a.2.1,a.2.2.1,a.2.2.2.1,a.2.2.2.2.1,a.2.2.2.2.2) b.1.2.2 a.1.2.1).bind fun d=>if b.1.1 then (Option.bind ((if b.1.1 then (some (a.1.1,orI b.1.2.1 a.1.2.1,a.1.2.2)) else (some (a.1.1,b.1.2.1,a.1.2.2)):Option (Bool×Int×Int))) (fun j=>Option.bind ((if a.1.1 then (some (j.1,j.2.1,orI b.1.2.2 a.1.2.2)) else (some (j.1,j.2.1,j.2.2)):Option (Bool×Int×Int))) (fun m=>some ((m.1,m.2.1,m.2.2),d.1,d.2.1,d.2.2.1,d.2.2.2.1,d.2.2.2.2)))) else (Option.bind ((if b.1.1 then (some (false,orI b.1.2.1 a.1.2.1,a.1.2.2)) else (some (false,b.1.2.1,a.1.2.2)):Option (Bool×Int×Int))) (fun k=>Option.bind ((if a.1.1 then (some (k.1,k.2.1,orI b.1.2.2 a.1.2.2)) else (some (k.1,k.2.1,k.2.2)):Option (Bool×Int×Int))) (fun o=>some ((o.1,o.2.1,o.2.2),d.1,d.2.1,d.2.2.1,d.2.2.2.1,d.2.2.2.2))))) else (if g.1==5 then ((chk (And (0<=(i64.wrap ((p1.length:Int) - 1))) ((i64.wrap ((p1.length:Int) - 1))<=(p1.length:Int)))).bind fun _=>(fl (p1.take ((i64.wrap ((p1.length:Int) - 1)).toNat))).bind fun i=>(chk (And (0<=i) (i<=(p1.length:Int)))).bind fun _=>((bR n) (p0.1,p0.2.1,p0.2.2.1,p0.2.2.2.1,p0.2.2.2.2) (p1.take i.toNat)).bind fun e=>(chk (And (0<=i) (And (i<=(i64.wrap ((p1.length:Int) - 1))) ((i64.wrap ((p1.length:Int) - 1))<=(p1.length:Int))))).bind fun _=>((bR n) (e.2.1,e.2.2.1,e.2.2.2.1,e.2.2.2.2.1,e.2.2.2.2.2) ((p1.take ((i64.wrap ((p1.length:Int) - 1)).toNat)).drop i.toNat)).bind fun c=>if e.1.1 then (some ((true,orI e.1.2.1 c.1.2.1,orI e.1.2.2 c.1.2.2),c.2.1,c.2.2.1,c.2.2.2.1,c.2.2.2.2.1,c.2.2.2.2.2)) else (some ((c.1.1,orI e.1.2.1 c.1.2.1,orI e.1.2.2 c.1.2.2),c.2.1,c.2.2.1,c.2.2.2.1,c.2.2.2.2.1,c.2.2.2.2.2))) else (if g.1==6 then ((chk (And (0<=(i64.wrap ((p1.length:Int) - 1))) ((i64.wrap ((p1.length:Int) - 1))<=(p1.length:Int)))).bind fun _=>((bR n) (p0.1,p0.2.1,p0.2.2.1,p0.2.2.2.1,p0.2.2.2.2) (p1.take ((i64.wrap ((p1.length:Int) - 1)).toNat))).bind fun f=>(mQ (f.2.1,f.2.2.1,f.2.2.2.1,f.2.2.2.2.1,f.2.2.2.2.2) f.1.2.2 f.1.2.1).bind fun l=>some ((true,f.1.2.1,f.1.2.2),l.1,l.2.1,l.2.2.1,l.2.2.2.1,l.2.2.2.2)) else (some ((false,0,0),p0.1,p0.2.1,p0.2.2.1,p0.2.2.2.1,p0.2.2.2.2))))))
def dw (b:(List Yq1)×Bool) (a:Int×Int):Option (Out (Yq4×Bool) (Int×Int)):=
 if decide (a.2<(b.1.length:Int)) then (Option.bind (((aK b.1 a.2).bind fun c=>if c.1==3 then (some (i64.wrap (a.1+1))) else (some a.1):Option Int)) (fun d=>some (.nxt (d,i64.wrap (a.2+1))))) else (some (.brk (a.1,a.2)))
def dJ (c:List Yq1):Option (Yq4×Bool):=
 (kO c).bind fun b=>if b.2 then (aO (ax (dw b) aR (0,0)) (fun d=>some d) (fun e=>if decide (e.1>20) then (some ((([] :List Int),0,0,([] :List Int),false),false)) else ((bR bP (([] :List Int),0,0,([] :List Int),false) b.1).bind fun a=>some ((a.2.1,a.1.2.1,a.1.2.2,a.2.2.2.2.1,a.1.1),true)))) else (some ((([] :List Int),0,0,([] :List Int),false),false))
def gZ (b:(List Int)×Int×Int×(List Int)×Bool) (c:Int) (a:Int×Int):Option (Out Int (Int×Int)):=
 if decide (a.2<(b.1.length:Int)) then (Option.bind (((chk (0<=i64.wrap (a.2+1))).bind fun _=>if (nw (nr c (i64.wrap (a.2+1))) 1)==1 then ((aK b.2.2.2.1 a.2).bind fun d=>some (orI a.1 d)) else (some a.1):Option Int)) (fun e=>some (.nxt (e,i64.wrap (a.2+1))))) else (some (.brk (a.1,a.2)))
def hY (b:(List Int)×Int×Int×(List Int)×Bool) (c:Int) (d:Int×Int) (a:Int×Int):Option (Out Int (Int×Int)):=
 if decide (a.2<(b.1.length:Int)) then (Option.bind (((chk (0<=a.2)).bind fun _=>if (nw (nr d.1 a.2) 1)==1 then ((aK b.1 a.2).bind fun e=>if e==c then ((chk (0<=i64.wrap (a.2+1))).bind fun _=>some (orI a.1 (wU 1 (i64.wrap (a.2+1))))) else (some a.1)) else (some a.1):Option Int)) (fun f=>some (.nxt (f,i64.wrap (a.2+1))))) else (some (.brk (a.1,a.2)))
def nG (a:(List Int)×Int×Int×(List Int)×Bool) (b:Int) (c:Int):Option Int:=
 Option.bind ((if (nw b 1)==1 then (some a.2.1) else (some 0):Option Int)) (fun d=>aO (ax (gZ a b) aR (d,0)) (fun r=>some r) (fun e=>aO (ax (hY a c e) aR (0,0)) (fun r=>some r) (fun f=>some f.1)))
def oo (b:List Int) (c:Int) (a:Int):Option (Out Int Int):=
 if decide (a<(b.length:Int)) then ((aK b a).bind fun d=>if d==c then (some (.ret a)) else (some (.nxt (i64.wrap (a+1))))) else (some (.brk a))
def mR (a:List Int) (b:Int):Option Int:=
 aO (ax (oo a b) aR 0) (fun r=>some r) (fun c=>some (-1))
def kP (a:(List Int)×Int×Int×(List Int)×Bool) (b:Int):Option Bool:=
 if (nw b 1)==1 then (if a.2.2.2.2 then (some true) else (some ((nw (nr b 1) a.2.2.1) !=0))) else (some ((nw (nr b 1) a.2.2.1) !=0))
def iF (b:(List Int)×Int×Int×(List Int)×Bool) (f:(List Int)×Int×Int×(List Bool)×(List (List Int))) (a:(List Int)×(List Int)×Int):Option (Out (Yq3×Bool) ((List Int)×(List Int)×Int)):=
 if decide (a.2.2<9) then ((aK a.1 f.2.1).bind fun g=>(nG (b.1,b.2.1,b.2.2.1,b.2.2.2.1,b.2.2.2.2) g a.2.2).bind fun c=>Option.bind ((if c !=0 then ((mR a.1 c).bind fun d=>if decide (d<0) then ((cP 8 a.1 ([c])).bind fun h=>some (h,(a.1.length:Int))) else (some (a.1,d))) else (some (a.1,-1)):Option ((List Int)×Int))) (fun e=>(cP 8 a.2.1 ([e.2])).bind fun i=>some (.nxt (e.1,i,i64.wrap (a.2.2+1))))) else (some (.brk (a.1,a.2.1,a.2.2)))
def fG (b:(List Int)×Int×Int×(List Int)×Bool) (d:Int) (a:(List Int)×Int×Int×(List Bool)×(List (List Int))):Option (Out (Yq3×Bool) ((List Int)×Int×Int×(List Bool)×(List (List Int)))):=
 if decide (a.2.1<(a.1.length:Int)) then (aO (ax (iF b a) aR (a.1,([] :List Int),0)) (fun r=>some (.ret r)) (fun c=>if decide ((c.1.length:Int)>d) then (some (.ret ((0,[],[]),false))) else ((aK c.1 a.2.1).bind fun e=>(kP (b.1,b.2.1,b.2.2.1,b.2.2.2.1,b.2.2.2.2) e).bind fun f=>(cP 1 a.2.2.2.1 ([f])).bind fun g=>(cP 24 a.2.2.2.2 ([c.2.1])).bind fun h=>some (.nxt (c.1,i64.wrap (a.2.1+1),a.2.2.1,g,h))))) else (some (.brk (a.1,a.2.1,a.2.2.1,a.2.2.2.1,a.2.2.2.2)))
def gG (b:(List Int)×Int×Int×(List Int)×Bool) (c:Int):Option (Yq3×Bool):=
 aO (ax (fG b c) aR ([1],0,0,[],[])) (fun r=>some r) (fun a=>some ((a.2.2.1,a.2.2.2.1,a.2.2.2.2),true))
def vM (a:(List Int)×Int):Option (Out Yq3 ((List Int)×Int)):=
 if decide (a.2<9) then ((cP 8 a.1 ([-1])).bind fun b=>some (.nxt (b,i64.wrap (a.2+1)))) else (some (.brk (a.1,a.2)))
def oq:Option Yq3:=
 aO (ax (vM) aR (([] :List Int),0)) (fun r=>some r) (fun a=>some (0,[false],[a.1]))
def gu (f:Int×(List Bool)×(List (List Int))) (d:List Int) (g:List Bool) (h:(List Int)×(List Int)×Int×Int×(List Bool)×(List (List Int))) (a:(List Int)×(List Int)×(List Int)×Int):Option (Out Yq3 ((List Int)×(List Int)×(List Int)×Int)):=
 if decide (a.2.2.2<9) then ((aK a.2.1 h.2.2.1).bind fun i=>(aK f.2.2 i).bind fun j=>(aK j a.2.2.2).bind fun b=>Option.bind ((if decide (b≥0) then ((aK g b).bind fun k=>if k then ((aK d b).bind fun l=>(mR a.1 l).bind fun e=>if decide (e<0) then ((aK d b).bind fun m=>(cP 8 a.1 ([m])).bind fun n=>(cP 8 a.2.1 ([b])).bind fun o=>some (n,o,(a.1.length:Int))) else (some (a.1,a.2.1,e))) else (some (a.1,a.2.1,-1))) else (some (a.1,a.2.1,-1)):Option ((List Int)×(List Int)×Int))) (fun c=>(cP 8 a.2.2.1 ([c.2.2])).bind fun p=>some (.nxt (c.1,c.2.1,p,i64.wrap (a.2.2.2+1))))) else (some (.brk (a.1,a.2.1,a.2.2.1,a.2.2.2)))
def jt (c:Int×(List Bool)×(List (List Int))) (d:List Int) (e:List Bool) (a:(List Int)×(List Int)×Int×Int×(List Bool)×(List (List Int))):Option (Out Yq3 ((List Int)×(List Int)×Int×Int×(List Bool)×(List (List Int)))):=
 if decide (a.2.2.1<(a.1.length:Int)) then (aO (ax (gu c d e a) aR (a.1,a.2.1,([] :List Int),0)) (fun r=>some (.ret r)) (fun b=>(aK b.2.1 a.2.2.1).bind fun f=>(aK c.2.1 f).bind fun g=>(cP 1 a.2.2.2.2.1 ([g])).bind fun h=>(cP 24 a.2.2.2.2.2 ([b.2.2.1])).bind fun i=>some (.nxt (b.1,b.2.1,i64.wrap (a.2.2.1+1),a.2.2.2.1,h,i)))) else (some (.brk (a.1,a.2.1,a.2.2.1,a.2.2.2.1,a.2.2.2.2.1,a.2.2.2.2.2)))
def iG (a:Int×(List Bool)×(List (List Int))) (d:List Int) (e:List Bool):Option Yq3:=
 (aK e a.1).bind fun f=>if f then ((aK d a.1).bind fun g=>aO (ax (jt a d e) aR ([g],[a.1],0,0,[],[])) (fun r=>some r) (fun b=>some (b.2.2.2.1,b.2.2.2.2.1,b.2.2.2.2.2))) else ((oq).bind fun c=>some (c.1,c.2.1,c.2.2))
def kQ (c:Int×(List Bool)×(List (List Int))) (b:(List Bool)×Int) (a:(List Bool)×Int):Option (Out (List Bool) ((List Bool)×Int)):=
 if decide (a.2<9) then (Option.bind (((aK c.2.2 b.2).bind fun d=>(aK d a.2).bind fun e=>if decide (e≥0) then ((aK c.2.2 b.2).bind fun f=>(aK f a.2).bind fun g=>(aK a.1 g).bind fun h=>if h then ((aK a.1 b.2).bind fun j=>some (a.1.set b.2.toNat true)) else (some a.1)) else (some a.1):Option (List Bool))) (fun i=>some (.nxt (i,i64.wrap (a.2+1))))) else (some (.brk (a.1,a.2)))
def ji (b:Int×(List Bool)×(List (List Int))) (a:(List Bool)×Int):Option (Out (List Bool) ((List Bool)×Int)):=
 if decide (a.2<(b.2.1.length:Int)) then (aO (ax (kQ b a) aR (a.1,0)) (fun r=>some (.ret r)) (fun c=>some (.nxt (c.1,i64.wrap (a.2+1))))) else (some (.brk (a.1,a.2)))
def kR (b:Int×(List Bool)×(List (List Int))) (a:(List Bool)×Int):Option (Out (List Bool) ((List Bool)×Int)):=
 if decide (a.2<(b.2.1.length:Int)) then (aO (ax (ji b) aR (a.1,0)) (fun r=>some (.ret r)) (fun c=>some (.nxt (c.1,i64.wrap (a.2+1))))) else (some (.brk (a.1,a.2)))
def kD (a:Int×(List Bool)×(List (List Int))):Option (List Bool):=
 (cP 1 ([] :List Bool) a.2.1).bind fun b=>aO (ax (kR a) aR (b,0)) (fun r=>some r) (fun c=>some c.1)
def mf (c:Int×(List Bool)×(List (List Int))) (d:List Int) (e:Int) (a:(List Int)×Int):Option U3:=
 if decide (a.2<9) then (Option.bind (((aK c.2.2 e).bind fun f=>(aK f a.2).bind fun b=>if decide (b<0) then ((cP 8 a.1 ([-1])).bind fun g=>some g) else ((aK d b).bind fun h=>(cP 8 a.1 ([h])).bind fun i=>some i):Option (List Int))) (fun j=>some (.nxt (j,i64.wrap (a.2+1))))) else (some (.brk (a.1,a.2)))
def oJ (c:Int×(List Bool)×(List (List Int))) (a:List Int) (b:Int):Option (List Int):=
 (aK a b).bind fun d=>aO (ax (mf c a b) aR ([d],0)) (fun r=>some r) (fun e=>some e.1)
def nH (b:List Int) (c:List Int) (a:Int):Option (Out Int Int):=
 if decide (a<(b.length:Int)) then (if decide (a<(c.length:Int)) then ((aK b a).bind fun d=>(aK c a).bind fun e=>if decide (d<e) then (some (.ret (-1))) else ((aK b a).bind fun f=>(aK c a).bind fun g=>if decide (f>g) then (some (.ret 1)) else (some (.nxt (i64.wrap (a+1)))))) else (some (.brk a))) else (some (.brk a))
def qN (a:List Int) (b:List Int):Option Int:=
 aO (ax (nH a b) aR 0) (fun r=>some r) (fun c=>if decide ((a.length:Int)<(b.length:Int)) then (some (-1)) else (if decide ((a.length:Int)>(b.length:Int)) then (some 1) else (some 0)))
def fH (b:Int×(List Bool)×List (List Int)) (c:List Bool) (a:(List Int)×Int):Option U3:=
 if decide (a.2<(b.2.1.length:Int)) then ((aK b.2.1 a.2).bind fun d=>Option.bind ((if d then (some 1) else (some 0):Option Int)) (fun e=>(aK c a.2).bind fun f=>Option.bind ((if f then (some e) else (some (-1)):Option Int)) (fun g=>(cP 8 a.1 ([g])).bind fun h=>some (.nxt (h,i64.wrap (a.2+1)))))) else (some (.brk (a.1,a.2)))
def fI (b:(List (List Int))×(List Int)×Int) (c:List Int) (a:Int×Int):Option (Out (List Int) (Int×Int)):=
 if decide (a.2<(b.1.length:Int)) then (Option.bind (((aK b.1 a.2).bind fun d=>(qN d c).bind fun e=>if e==0 then (some a.2) else (some a.1):Option Int)) (fun f=>some (.nxt (f,i64.wrap (a.2+1))))) else (some (.brk (a.1,a.2)))
def fJ (b:Int×(List Bool)×List (List Int)) (c:(List Int)×Int) (a:(List (List Int))×(List Int)×Int):Option (Out (List Int) ((List (List Int))×(List Int)×Int)):=
 if decide (a.2.2<(b.2.1.length:Int)) then (Option.bind (((aK c.1 a.2.2).bind fun h=>if decide (h<0) then ((cP 8 a.2.1 ([(-1)])).bind fun i=>some (a.1,i)) else ((oJ (b.1,b.2.1,b.2.2) c.1 a.2.2).bind fun d=>aO (ax (fI a d) aR ((-1),0)) (fun l=>none) (fun e=>Option.bind ((if decide (e.1<0) then ((cP 24 a.1 ([d])).bind fun j=>some (j,(a.1.length:Int))) else (some (a.1,e.1)):Option ((List (List Int))×Int))) (fun f=>(cP 8 a.2.1 ([f.2])).bind fun k=>some (f.1,k)))):Option ((List (List Int))×List Int))) (fun g=>some (.nxt (g.1,g.2,i64.wrap (a.2.2+1))))) else (some (.brk (a.1,a.2.1,a.2.2)))
def kE (b:Int×(List Bool)×List (List Int)) (a:(List Int)×Int):Option U3:=
 if decide (a.2<=(b.2.1.length:Int)) then (aO (ax (fJ b a) aR (([] :List (List Int)),([] :List Int),0)) (fun d=>some (.ret d)) (fun c=>(qN c.2.1 a.1).bind fun e=>if e==0 then (some (.ret a.1)) else (some (.nxt (c.2.1,i64.wrap (a.2+1)))))) else (some (.brk (a.1,a.2)))
def jj (a:Int×(List Bool)×List (List Int)):Option (List Int):=
 (kD (a.1,a.2.1,a.2.2)).bind fun b=>aO (ax (fH a b) aR (([] :List Int),0)) (fun c=>some c) (fun d=>aO (ax (kE a) aR (d.1,0)) (fun e=>some e) (fun f=>some f.1))
def fK (a:Int×(List Bool)×(List (List Int))):Option Yq3:=
 (jj (a.1,a.2.1,a.2.2)).bind fun c=>(kD (a.1,a.2.1,a.2.2)).bind fun d=>(iG (a.1,a.2.1,a.2.2) c d).bind fun b=>some (b.1,b.2.1,b.2.2)
def eA (d:(List Yq1)):Option (Yq3×Bool):=
 (dJ d).bind fun a=>if a.2 then ((gG (a.1.1,a.1.2.1,a.1.2.2.1,a.1.2.2.2.1,a.1.2.2.2.2) 200).bind fun b=>if b.2 then ((fK (b.1.1,b.1.2.1,b.1.2.2)).bind fun c=>if decide ((c.2.1.length:Int)>12) then (some ((0,[],[]),false)) else (some ((c.1,c.2.1,c.2.2),true))) else (some ((0,[],[]),false))) else (some ((0,[],[]),false))
def gH (b:Int×(List Bool)×(List (List Int))) (c:Int) (a:Int):Option (Out Bool Int):=
 if decide (a<9) then ((aK b.2.2 c).bind fun d=>(aK d a).bind fun e=>(cd e (-1) (i64.wrap ((b.2.1.length:Int) - 1))).bind fun f=>if f then (some (.nxt (i64.wrap (a+1)))) else (some (.ret false))) else (some (.brk a))
def kS (b:Int×(List Bool)×(List (List Int))) (a:Int):Option (Out Bool Int):=
 if decide (a<(b.2.1.length:Int)) then ((aK b.2.2 a).bind fun c=>if (c.length:Int) !=9 then (some (.ret false)) else (aO (ax (gH b a) aR 0) (fun r=>some (.ret r)) (fun d=>some (.nxt (i64.wrap (a+1)))))) else (some (.brk a))
def mS (a:Int×(List Bool)×(List (List Int))):Option Bool:=
 (cd a.1 0 (i64.wrap ((a.2.1.length:Int) - 1))).bind fun b=>if b then (if (a.2.2.length:Int) !=(a.2.1.length:Int) then (some false) else (aO (ax (kS a) aR 0) (fun r=>some r) (fun c=>some true))) else (some false)
def bE (a:Int×(List Bool)×(List (List Int))):Option Bool:=
 if decide ((a.2.1.length:Int)<=12) then ((mS (a.1,a.2.1,a.2.2)).bind fun b=>some b) else (some false)
def j4 (b:Int×(List Bool)×(List (List Int))) (a:Int):Option Bool:=
 if decide (a≥0) then ((aK b.2.1 a).bind fun c=>some c) else (some false)
def ot (b:List Yq8) (a:Int×(List Int)):Option (Out (List Int) (Int×(List Int))):=
 if decide (a.1>0) then ((aK b a.1).bind fun c=>(cP 8 ([c.2.2.2.2]) a.2).bind fun d=>(aK b a.1).bind fun e=>some (.nxt (e.2.2.2.1,d))) else (some (.brk (a.1,a.2)))
def pz (a:List Yq8) (b:Int):Option (List Int):=
 aO (ax (ot a) aR (b,([] :List Int))) (fun r=>some r) (fun c=>some c.2)
def mT (b:Int×(List Bool)×(List (List Int))) (a:Int) (c:Int):Option Int:=
 if decide (a<0) then (some (-1)) else ((aK b.2.2 a).bind fun d=>(aK d c).bind fun e=>some e)
def mg (b:List Yq8) (c:Int×Int×Bool×Int×Int) (a:Int):Option (Out Bool Int):=
 if decide (a<(b.length:Int)) then ((aK b a).bind fun d=>if d.1==c.1 then ((aK b a).bind fun e=>if e.2.1==c.2.1 then ((aK b a).bind fun f=>if f.2.2.1==c.2.2.1 then (some (.ret true)) else (some (.nxt (i64.wrap (a+1))))) else (some (.nxt (i64.wrap (a+1))))) else (some (.nxt (i64.wrap (a+1))))) else (some (.brk a))
def rV (a:List Yq8) (b:Int×Int×Bool×Int×Int):Option Bool:=
 aO (ax (mg a b) aR 0) (fun r=>some r) (fun c=>some false)
def gx (c:Int×(List Bool)×(List (List Int))) (d:Int×(List Bool)×(List (List Int))) (b:(List Yq8)×Int) (a:(List Yq8)×Int):Option (Out ((List Int)×Bool) ((List Yq8)×Int)):=
 if decide (a.2<9) then (Option.bind (((aK a.1 b.2).bind fun g=>(mT (c.1,c.2.1,c.2.2) g.1 a.2).bind fun e=>(aK a.1 b.2).bind fun h=>(mT (d.1,d.2.1,d.2.2) h.2.1 a.2).bind fun f=>(rV a.1 (e,f,false,b.2,a.2)).bind fun i=>if i then (some a.1) else ((cP 40 a.1 ([(e,f,false,b.2,a.2)])).bind fun j=>some j):Option (List Yq8))) (fun k=>some (.nxt (k,i64.wrap (a.2+1))))) else (some (.brk (a.1,a.2)))
def lH (b:Int×(List Bool)×(List (List Int))) (c:Int×(List Bool)×(List (List Int))) (f:Bool) (a:(List Yq8)×Int):Option (Out ((List Int)×Bool) ((List Yq8)×Int)):=
 if decide (a.2<(a.1.length:Int)) then ((aK a.1 a.2).bind fun g=>(j4 (b.1,b.2.1,b.2.2) g.1).bind fun d=>(aK a.1 a.2).bind fun h=>(j4 (c.1,c.2.1,c.2.2) h.2.1).bind fun e=>Option.bind (if e then (if d then (if d then (if e then some false else some (!f)) else some false) else some true) else (if d then (if e then some false else some (!f)) else some false):Option Bool) (fun b57=>if b57 then ((pz a.1 a.2).bind fun i=>some (.ret (i,true))) else (aO (ax (gx b c a) aR (a.1,0)) (fun r=>some (.ret r)) (fun j=>some (.nxt (j.1,i64.wrap (a.2+1))))))) else (some (.brk (a.1,a.2)))
def ga (a:Int×(List Bool)×(List (List Int))) (b:Int) (c:Int×(List Bool)×(List (List Int))) (d:Int) (e:Bool):Option ((List Int)×Bool):=
 aO (ax (lH a c e) aR ([(b,d,false,0,0)],0)) (fun r=>some r) (fun f=>some (([] :List Int),false))
def ic (a:Int×(List Bool)×(List (List Int))) (b:Int×(List Bool)×(List (List Int))):Option ((List Int)×Bool):=
 (bE (a.1,a.2.1,a.2.2)).bind fun d=>if d then ((bE (b.1,b.2.1,b.2.2)).bind fun e=>if e then ((ga (a.1,a.2.1,a.2.2) a.1 (b.1,b.2.1,b.2.2) b.1 true).bind fun c=>some (c.1,c.2)) else (some (([] :List Int),false))) else (some (([] :List Int),false))
def bF (a:Int×(List Bool)×(List (List Int))) (b:Int×(List Bool)×(List (List Int))):Option Bool:=
 (ic (a.1,a.2.1,a.2.2) (b.1,b.2.1,b.2.2)).bind fun c=>(bE (a.1,a.2.1,a.2.2)).bind fun d=>if d then ((bE (b.1,b.2.1,b.2.2)).bind fun e=>if e then (some (!c.2)) else (some false)) else (some false)
def eP (a:(List Yq1)) (b:(List Yq1)) (c:Int):Option Int:=
 (bK a).bind fun f=>if f then ((bK b).bind fun g=>if g then ((cd c 0 3).bind fun h=>if h then ((eA a).bind fun d=>(eA b).bind fun e=>if d.2 then (if e.2 then ((bF (e.1.1,e.1.2.1,e.1.2.2) (d.1.1,d.1.2.1,d.1.2.2)).bind fun i=>if i then (some 1) else ((bU a b c).bind fun j=>if j.2 then (some 2) else (some 3))) else ((bU a b c).bind fun k=>if k.2 then (some 2) else (some 3))) else ((bU a b c).bind fun l=>if l.2 then (some 2) else (some 3))) else (some 0)) else (some 0)) else (some 0)
def bc (a:Int) (b:Int) (c:Int):Option Bool:=
 if decide (a≥b) then (some (decide (a<=c))) else (some false)
def eY (a:Int):Option Bool:=
 (bc a 0 8).bind fun b=>some b
def Ci (b:List Int) (a:Int):Option (Out Bool Int):=
 if decide (a<(b.length:Int)) then ((aK b a).bind fun c=>(eY c).bind fun d=>if d then (some (.nxt (i64.wrap (a+1)))) else (some (.ret false))) else (some (.brk a))
def AG (a:List Int):Option Bool:=
 aO (ax (Ci a) aR 0) (fun r=>some r) (fun b=>some (decide ((a.length:Int)<=8)))
def AH (a:Int):Option Bool:=
 (bc a 0 5).bind fun b=>some b
def wX (e:List Int) (a:(List Bool)×Int×(List Int)×(List Yq1)):Option (Out (((List Int)×(List Yq1))×Bool) ((List Bool)×Int×(List Int)×(List Yq1))):=
 if decide (a.2.1<(e.length:Int)) then (IN (S:=(List Bool)×(List Int)×(List Yq1)) ((aK e a.2.1).bind fun b=>(AH b).bind fun f=>if f then (Option.bind ((if (Int.tmod b 2)==1 then (some (i64.wrap ((i64.wrap ((a.2.2.1.length:Int) - 1))+1),i64.wrap ((i64.wrap ((a.2.2.1.length:Int) - 1))+1),i64.wrap ((a.2.2.1.length:Int) - 1),RH b 2)) else (some (i64.wrap ((i64.wrap ((a.2.2.1.length:Int) - 1))+1),i64.wrap ((a.2.2.1.length:Int) - 1),i64.wrap ((i64.wrap ((a.2.2.1.length:Int) - 1))+1),RH b 2)):Option Yq1)) (fun c=>(cP 32 a.2.2.2 ([(c.1,c.2.1,c.2.2.1,c.2.2.2)])).bind fun g=>(cP 8 a.2.2.1 ([0])).bind fun h=>(cP 1 a.1 ([false])).bind fun i=>some (.inr (i,h,g)))) else ((aK a.1 (i64.wrap ((a.2.2.1.length:Int) - 1))).bind fun j=>if j then ((aK a.2.2.1 (i64.wrap ((a.2.2.1.length:Int) - 1))).bind fun k=>if k !=(i64.wrap (b - 6)) then (some (.inl (.ret (([],[]),false)))) else ((aK a.2.2.1 (i64.wrap ((a.2.2.1.length:Int) - 1))).bind fun l=>(aK a.1 (i64.wrap ((a.2.2.1.length:Int) - 1))).bind fun m=>some (.inr (a.1.set (i64.wrap ((a.2.2.1.length:Int) - 1)).toNat true,a.2.2.1.set (i64.wrap ((a.2.2.1.length:Int) - 1)).toNat (i64.wrap (b - 6)),a.2.2.2)))) else ((aK a.2.2.1 (i64.wrap ((a.2.2.1.length:Int) - 1))).bind fun n=>(aK a.1 (i64.wrap ((a.2.2.1.length:Int) - 1))).bind fun o=>some (.inr (a.1.set (i64.wrap ((a.2.2.1.length:Int) - 1)).toNat true,a.2.2.1.set (i64.wrap ((a.2.2.1.length:Int) - 1)).toNat (i64.wrap (b - 6)),a.2.2.2))))) (fun d=>some (.nxt (d.1,i64.wrap (a.2.1+1),d.2.1,d.2.2)))) else (some (.brk (a.1,a.2.1,a.2.2.1,a.2.2.2)))
def cE (b:List Int):Option (((List Int)×(List Yq1))×Bool):=
 (AG b).bind fun c=>if c then (aO (ax (wX b) aR ([false],0,[0],[])) (fun r=>some r) (fun a=>if decide ((a.2.2.1.length:Int)>5) then (some (([],[]),false)) else (some ((a.2.2.1,a.2.2.2),true)))) else (some (([],[]),false))
def pA (a:Int×Int×Int×Int):Option Bool:=
 if a.1==3 then ((eY a.2.1).bind fun b=>if b then (if a.2.2.1==0 then (some (a.2.2.2==0)) else (some false)) else (some false)) else (if a.1==7 then (if a.2.1==0 then ((bc a.2.2.1 0 a.2.2.2).bind fun c=>if c then ((bc a.2.2.2 1 3).bind fun d=>some d) else (some false)) else (some false)) else (Option.bind ((if a.1==1 then (some (a.1==1)) else (if a.1==2 then (some (a.1==2)) else (if a.1==4 then (some (a.1==4)) else (if a.1==5 then (some (a.1==5)) else (some (a.1==6))))):Option Bool)) (fun e=>if e then (some ((a.1==a.1)&&((a.2.1==0)&&((a.2.2.1==0)&&((a.2.2.2==0)&&true))))) else (some false))))
def pB (d:List Yq1) (a:(List (Tr Yq1))×Int):Option (Out (Tr Yq1) ((List (Tr Yq1))×Int)):=
 if decide (a.2<(d.length:Int)) then ((aK d a.2).bind fun b=>Option.bind ((Option.bind ((if b.1==4 then (some (b.1==4)) else (some (b.1==5)):Option Bool)) (fun e=>if e then (some 2) else (Option.bind ((if b.1==6 then (some (b.1==6)) else (some (b.1==7)):Option Bool)) (fun f=>if f then (some 1) else (some 0)))):Option Int)) (fun c=>(pA (b.1,b.2.1,b.2.2.1,b.2.2.2)).bind fun g=>if g then (if decide ((i64.wrap ((a.1.length:Int) - c))<0) then (some (.ret Tr.nil)) else ((chk (And (0<=(i64.wrap ((a.1.length:Int) - c))) ((i64.wrap ((a.1.length:Int) - c))<=(a.1.length:Int)))).bind fun _=>(cP 8 ([] :List (Tr Yq1)) (a.1.drop ((i64.wrap ((a.1.length:Int) - c)).toNat))).bind fun h=>(chk (And (0<=(i64.wrap ((a.1.length:Int) - c))) ((i64.wrap ((a.1.length:Int) - c))<=(a.1.length:Int)))).bind fun _=>(cP 8 (a.1.take ((i64.wrap ((a.1.length:Int) - c)).toNat)) ([Tr.node (b.1,b.2.1,b.2.2.1,b.2.2.2) h])).bind fun i=>some (.nxt (i,i64.wrap (a.2+1))))) else (some (.ret Tr.nil)))) else (some (.brk (a.1,a.2)))
def jJ (b:List Yq1):Option (Tr Yq1):=
 aO (ax (pB b) aR (([] :List (Tr Yq1)),0)) (fun c=>some c) (fun a=>if (a.1.length:Int) !=1 then (some Tr.nil) else ((aK a.1 0).bind fun d=>some d))
def rW (a:List Yq1):Option Bool:=
 (jJ a).bind fun b=>some (cond.match_1 (fun (c:Bool)=>Bool) (Tr.isNil b) (fun (d:Unit)=>false) (fun (e:Unit)=>true))
def b8 (a:(List Yq1)):Option Bool:=
 if decide ((a.length:Int)<=24) then ((rW a).bind fun b=>some b) else (some false)
def oK (a:Int×Int×Int×Int) (b:Int):Option Bool:=
 (bc a.1 1 99).bind fun c=>if c then ((bc a.2.1 0 (i64.wrap (b - 1))).bind fun d=>if d then ((bc a.2.2.1 0 (i64.wrap (b - 1))).bind fun e=>if e then ((bc a.2.2.2 0 2).bind fun f=>some f) else (some false)) else (some false)) else (some false)
def eB (b:(List Int)×(List Yq1)) (a:Int):Option (Out Bool Int):=
 if decide (a<(b.1.length:Int)) then ((aK b.1 a).bind fun c=>(bc c 0 2).bind fun d=>if d then (some (.nxt (i64.wrap (a+1)))) else (some (.ret false))) else (some (.brk a))
def de (c:(List Int)×(List Yq1)) (a:Int):Option (Out Bool Int):=
 if decide (a<(c.2.length:Int)) then ((aK c.2 a).bind fun b=>(oK (b.1,b.2.1,b.2.2.1,b.2.2.2) (c.1.length:Int)).bind fun d=>if d then (if decide (a>0) then ((aK c.2 (i64.wrap (a - 1))).bind fun e=>if decide (e.1≥b.1) then (some (.ret false)) else (some (.nxt (i64.wrap (a+1))))) else (some (.nxt (i64.wrap (a+1))))) else (some (.ret false))) else (some (.brk a))
def aQ (a:(List Int)×(List Yq1)):Option Bool:=
 aO (ax (eB a) aR 0) (fun r=>some r) (fun c=>aO (ax (de a) aR 0) (fun r=>some r) (fun d=>(bc (a.1.length:Int) 1 5).bind fun b=>if b then (some (decide ((a.2.length:Int)<=12))) else (some false)))
def cF (b:Int) (a:Yq2×Int):Option Yq7:=
 if decide (a.2<b) then ((cP 16 a.1 ([(a.2,a.2)])).bind fun c=>some (.nxt (c,i64.wrap (a.2+1)))) else (some (.brk (a.1,a.2)))
def cS (a:Int):Option Yq2:=
 if decide (a>5) then (some ([])) else (aO (ax (cF a) aR (([] :List (Int×Int)),0)) (fun r=>some r) (fun b=>some b.1))
def qO (a:Int×Int×Int×Int) (b:Bool):Option Int:=
 if b then (some (i64.wrap ((i64.wrap (2*a.2.2.2))+1))) else (some (i64.wrap (2*a.2.2.2)))
def mU (d:(List Int)×List Yq1) (b:Int×List (List QM)):Option (Out (List (List QM)) (Int×List (List QM))):=
 if decide (b.1<(d.2.length:Int)) then ((aK d.2 b.1).bind fun a=>(aK b.2 a.2.1).bind fun e=>(qO (a.1,a.2.1,a.2.2.1,a.2.2.2) false).bind fun f=>(cP 32 e ([((a.1,false),f,a.2.2.1)])).bind fun c=>(aK b.2 a.2.1).bind fun j=>(chk (a.2.1<((b.2.set a.2.1.toNat ([] :List QM)).length:Int))).bind fun _=>(chk (a.2.1=a.2.1)).bind fun _=>(aK (b.2.set a.2.1.toNat c) a.2.2.1).bind fun g=>(qO (a.1,a.2.1,a.2.2.1,a.2.2.2) true).bind fun h=>(cP 32 g ([((a.1,true),h,a.2.1)])).bind fun i=>(aK (b.2.set a.2.1.toNat c) a.2.2.1).bind fun k=>(chk (a.2.2.1<(((b.2.set a.2.1.toNat c).set a.2.2.1.toNat ([] :List QM)).length:Int))).bind fun _=>(chk (a.2.2.1=a.2.2.1)).bind fun _=>some (.nxt (i64.wrap (b.1+1),(b.2.set a.2.1.toNat c).set a.2.2.1.toNat i))) else (some (.brk (b.1,b.2)))
def xq (a:(List Int)×List Yq1):Option (List (List QM)):=
 (mkI 24 (a.1.length:Int) ([] :List QM)).bind fun b=>aO (ax (mU a) aR (0,b)) (fun c=>some c) (fun d=>some d.2)
def pC (a:(List Int)×(List Yq1)) (b:Int) (c:Int):Option Bool:=
 (aQ (a.1,a.2)).bind fun d=>if d then ((bc b 0 (i64.wrap ((a.1.length:Int) - 1))).bind fun e=>if e then ((eY c).bind fun f=>if f then ((aK a.1 b).bind fun g=>some (c==(i64.wrap (6+g)))) else (some false)) else (some false)) else (some false)
def df (a:List (Int×Int)) (b:Unit):Option Yq2:=R.QJ R.Jy a
def j5 (a:Int) (b:Int):Option Int:=
 if decide (a<b) then (some (-1)) else (if decide (a>b) then (some 1) else (some 0))
def gy (a:Int×Int) (b:Int×Int):Option Int:=
 if a.1 !=b.1 then ((j5 a.1 b.1).bind fun c=>some c) else ((j5 a.2 b.2).bind fun d=>some d)
def bQ (c:List (Int×Int)) (b:Int) (a:Int×Int×List (Int×Int)):Option (Out Yq2 (Int×Int×List (Int×Int))):=
 if decide (a.2.1<((0+((c.length:Int) - 0)) - (0+b))) then (Option.bind (((chk (And (0<=a.2.1) (a.2.1<((0+((c.length:Int) - 0)) - (0+b))))).bind fun _=>(aK a.2.2 ((0+b)+a.2.1)).bind fun d=>(chk (And (0<=(i64.wrap (a.2.1 - 1))) ((i64.wrap (a.2.1 - 1))<((0+((c.length:Int) - 0)) - (0+b))))).bind fun _=>(aK a.2.2 ((0+b)+(i64.wrap (a.2.1 - 1)))).bind fun e=>if Bool.and.match_1 (fun (h:Bool)=>Bool) (d.1==e.1) (fun (i:Unit)=>false) (fun (j:Unit)=>Bool.and.match_1 (fun (k:Bool)=>Bool) (d.2==e.2) (fun (l:Unit)=>false) (fun (m:Unit)=>true)) then (some (a.1,a.2.2)) else ((chk (And (0<=a.2.1) (a.2.1<((0+((c.length:Int) - 0)) - (0+b))))).bind fun _=>(aK a.2.2 ((0+b)+a.2.1)).bind fun f=>(aK a.2.2 a.1).bind fun n=>some (i64.wrap (a.1+1),a.2.2.set a.1.toNat (f.1,f.2))):Option (Int×List (Int×Int)))) (fun g=>some (.nxt (g.1,i64.wrap (a.2.1+1),g.2)))) else (some (.brk (a.1,a.2.1,a.2.2)))
def bq (c:List (Int×Int)) (b:Int):Option (Out Yq2 Int):=
 if decide (b<(c.length:Int)) then ((aK c b).bind fun d=>(aK c (i64.wrap (b - 1))).bind fun e=>if Bool.and.match_1 (fun (g:Bool)=>Bool) (d.1==e.1) (fun (h:Unit)=>false) (fun (i:Unit)=>Bool.and.match_1 (fun (j:Bool)=>Bool) (d.2==e.2) (fun (k:Unit)=>false) (fun (l:Unit)=>true)) then ((chk (And (0<=b) (And (b<=((c.length:Int) - 0)) ((0+((c.length:Int) - 0))<=(c.length:Int))))).bind fun _=>aO (ax (bQ c b) aR (b,1,c)) (fun f=>some (.ret f)) (fun a=>(chk (And (0<=a.1) (And (a.1<=((a.2.2.length:Int) - 0)) ((0+((a.2.2.length:Int) - 0))<=(a.2.2.length:Int))))).bind fun _=>(chk (And ((0+a.1)<=(0+((a.2.2.length:Int) - 0))) ((0+((a.2.2.length:Int) - 0))<=(a.2.2.length:Int)))).bind fun _=>(chk (And ((0:Int)<=0) (And (0<=a.1) ((0+a.1)<=((th a.2.2 ((0+a.1).toNat) ((0+((a.2.2.length:Int) - 0)).toNat) (0,0)).length:Int))))).bind fun _=>some (.ret (((th a.2.2 ((0+a.1).toNat) ((0+((a.2.2.length:Int) - 0)).toNat) (0,0)).take ((0+a.1).toNat)).drop 0)))) else (some (.nxt (i64.wrap (b+1))))) else (some (.brk b))
def bZ (a:List (Int×Int)):Option Yq2:=
 if decide ((a.length:Int)<2) then (some a) else (aO (ax (bq a) aR 1) (fun b=>some b) (fun c=>some a))
def jA (a:List (Int×Int)):Option Yq2:=
 (cP 16 ([] :List (Int×Int)) a).bind fun b=>(df b ()).bind fun c=>(bZ c).bind fun d=>some d
def dx (d:Int) (e:Yq2×Int) (b:List QM) (a:Yq2×Int):Option Yq7:=
 if decide (a.2<(b.length:Int)) then (Option.bind (((aK b a.2).bind fun c=>if c.2.1==d then ((cP 16 a.1 ([(e.2,c.2.2)])).bind fun f=>some f) else (some a.1):Option Yq2)) (fun g=>some (.nxt (g,i64.wrap (a.2+1))))) else (some (.brk (a.1,a.2)))
def dy (b:(List Int)×List Yq1) (c:Int) (d:List (List QM)) (a:Yq2×Int):Option Yq7:=
 if decide (a.2<(d.length:Int)) then (Option.bind (((aK d a.2).bind fun f=>aO (ax (dx c a f) aR (a.1,0)) (fun j=>none) (fun e=>(pC (b.1,b.2) a.2 c).bind fun g=>if g then ((cP 16 e.1 ([(a.2,a.2)])).bind fun h=>some h) else (some e.1)):Option Yq2)) (fun i=>some (.nxt (i,i64.wrap (a.2+1))))) else (some (.brk (a.1,a.2)))
def gN (a:(List Int)×List Yq1) (b:Int):Option Yq2:=
 (aQ (a.1,a.2)).bind fun c=>if c then ((eY b).bind fun d=>if d then ((xq (a.1,a.2)).bind fun e=>aO (ax (dy a b e) aR (([] :List (Int×Int)),0)) (fun f=>some f) (fun g=>(jA g.1).bind fun h=>some h)) else (some ([] :List (Int×Int)))) else (some ([] :List (Int×Int)))
def cG (b:List (Int×Int)) (c:Int×Int) (a:Yq2×Int):Option Yq7:=
 if decide (a.2<(b.length:Int)) then (Option.bind (((aK b a.2).bind fun d=>if c.2==d.1 then ((cP 16 a.1 ([(c.1,d.2)])).bind fun e=>some e) else (some a.1):Option Yq2)) (fun f=>some (.nxt (f,i64.wrap (a.2+1))))) else (some (.brk (a.1,a.2)))
def cH (c:List (Int×Int)) (b:List (Int×Int)) (a:Yq2×Int):Option Yq7:=
 if decide (a.2<(b.length:Int)) then ((aK b a.2).bind fun d=>aO (ax (cG c d) aR (a.1,0)) (fun r=>some (.ret r)) (fun e=>some (.nxt (e.1,i64.wrap (a.2+1))))) else (some (.brk (a.1,a.2)))
def cT (a:List (Int×Int)) (b:List (Int×Int)):Option Yq2:=
 (jA a).bind fun c=>aO (ax (cH b c) aR (([] :List (Int×Int)),0)) (fun r=>some r) (fun d=>(jA d.1).bind fun e=>some e)
def gI (a:List (Int×Int)) (b:List (Int×Int)):Option Yq2:=
 (cP 16 ([] :List (Int×Int)) a).bind fun c=>(cP 16 c b).bind fun d=>(jA d).bind fun e=>some e
def cJ (c:List (Int×Int)) (a:Int):Option (Out Bool Int):=
 if decide (a<(c.length:Int)) then ((aK c a).bind fun b=>(bc b.1 0 4).bind fun e=>if e then ((bc b.2 0 4).bind fun f=>if f then (if decide (a>0) then ((aK c (i64.wrap (a - 1))).bind fun d=>(gy (d.1,d.2) (b.1,b.2)).bind fun g=>if decide (g≥0) then (some (.ret false)) else (some (.nxt (i64.wrap (a+1))))) else (some (.nxt (i64.wrap (a+1))))) else (some (.ret false))) else (some (.ret false))) else (some (.brk a))
def fc (a:List (Int×Int)):Option Bool:=
 aO (ax (cJ a) aR 0) (fun r=>some r) (fun b=>some true)
def eG (c:List (Int×Int)) (a:Yq2):Option (Out Yq2 Yq2):=
 (cT a c).bind fun d=>(gI a d).bind fun b=>if (b.length:Int)==(a.length:Int) then (some (.ret a)) else (some (.nxt b))
def gb (a:Int) (b:List (Int×Int)):Option Yq2:=
 (bc a 1 5).bind fun c=>if c then ((fc b).bind fun d=>if d then ((cS a).bind fun e=>aO (ax (eG b) aR e) (fun r=>some r) (fun f=>none)) else (some ([]))) else (some ([]))
def cU (b:List (Int×Int)) (c:Int) (d:Int) (a:Yq2×Yq2×Int):Option (Out Yq2 (Yq2×Yq2×Int)):=
 if decide (a.2.2<=d) then (Option.bind ((if decide (a.2.2≥c) then ((gI a.1 a.2.1).bind fun e=>some e) else (some a.1):Option Yq2)) (fun f=>(cT a.2.1 b).bind fun g=>some (.nxt (f,g,i64.wrap (a.2.2+1))))) else (some (.brk (a.1,a.2.1,a.2.2)))
def iH (a:Int) (b:List (Int×Int)) (c:Int) (d:Int):Option Yq2:=
 (bc a 1 5).bind fun e=>if e then ((fc b).bind fun f=>if f then (if decide (c<0) then (some ([])) else ((bc d 0 3).bind fun g=>if g then ((cS a).bind fun h=>aO (ax (cU b c d) aR (([] :List (Int×Int)),h,0)) (fun r=>some r) (fun i=>some i.1)) else (some ([])))) else (some ([]))) else (some ([]))
def aW:Nat->(Tr Yq1)->((List Int)×List Yq1)->Option Yq2 
 | 0,_,_=>none
 | n+1,p0,p1 =>
  (Tr.get p0).bind fun D=>(Tr.get p0).bind fun a=>if a.1.1==2 then ((cS (p1.1.length:Int)).bind fun b=>some b) else (if a.1.1==3 then ((Tr.get p0).bind fun E=>(Tr.get p0).bind fun c=>(gN (p1.1,p1.2) c.1.2.1).bind fun d=>some d) else (if a.1.1==4 then ((Tr.get p0).bind fun F=>(Tr.get p0).bind fun e=>(aK e.2 0).bind fun f=>((aW n) f (p1.1,p1.2)).bind fun g=>(Tr.get p0).bind fun G=>(Tr.get p0).bind fun h=>(aK h.2 1).bind fun i=>((aW n) i (p1.1,p1.2)).bind fun j=>(cT g j).bind fun k=>some k) else (if a.1.1==5 then ((Tr.get p0).bind fun H=>(Tr.get p0).bind fun l=>(aK l.2 0).bind fun m=>((aW n) m (p1.1,p1.2)).bind fun o=>(Tr.get p0).bind fun I=>(Tr.get p0).bind fun p=>(aK p.2 1).bind fun q=>((aW n) q (p1.1,p1.2)).bind fun r=>(gI o r).bind fun s=>some s) else (if a.1.1==6 then ((Tr.get p0).bind fun J=>(Tr.get p0).bind fun t=>(aK t.2 0).bind fun u=>((aW n) u (p1.1,p1.2)).bind fun v=>(gb (p1.1.length:Int) v).bind fun w=>some w) else (if a.1.1==7 then ((Tr.get p0).bind fun K=>(Tr.get p0).bind fun x=>(aK x.2 0).bind fun y=>((aW n) y (p1.1,p1.2)).bind fun z=>(Tr.get p0).bind fun L=>(Tr.get p0).bind fun A=>(Tr.get p0).bind fun M=>(Tr.get p0).bind fun B=>(iH (p1.1.length:Int) z A.1.2.2.1 B.1.2.2.2).bind fun C=>some C) else (some ([] :List (Int×Int))))))))
def bm (a:(List Int)×List Yq1) (b:List Yq1):Option (Yq2×Bool):=
 (aQ (a.1,a.2)).bind fun c=>if c then ((b8 b).bind fun d=>if d then ((jJ b).bind fun e=>(aW bP e (a.1,a.2)).bind fun f=>some (f,true)) else (some (([] :List (Int×Int)),false))) else (some (([] :List (Int×Int)),false))
def bW (b:List (Int×Int)) (c:Int×Int) (a:Int):Option (Out Int Int):=
 if decide (a<(b.length:Int)) then ((aK b a).bind fun d=>if ((c.1==d.1)&&((c.2==d.2)&&true)) then (some (.ret a)) else (some (.nxt (i64.wrap (a+1))))) else (some (.brk a))
def cw (a:List (Int×Int)) (b:Int×Int):Option Int:=
 aO (ax (bW a b) aR 0) (fun r=>some r) (fun c=>some (-1))
def bd (b:List (Int×Int)) (a:Int×Int):Option Bool:=
 (cw b (a.1,a.2)).bind fun c=>some (decide (c≥0))
def aV (c:(List Yq1)) (d:List Int):Option Bool:=
 (cE d).bind fun a=>if a.2 then ((bm (a.1.1,a.1.2) c).bind fun b=>if b.2 then ((bd b.1 (0,i64.wrap ((a.1.1.length:Int) - 1))).bind fun e=>some e) else (some false)) else (some false)
def fY (a:List Int):Option (List Int):=
 (cP 8 ([] :List Int) a).bind fun b=>some b
def jk (mrec:Int->Option (List (List Int))) (b:List Int) (a:(List (List Int))×Int):Option Yq9:=
 if decide (a.2<9) then ((fY b).bind fun c=>(cP 8 c ([a.2])).bind fun d=>(cP 24 a.1 ([d])).bind fun e=>some (.nxt (e,i64.wrap (a.2+1)))) else (some (.brk (a.1,a.2)))
def jl (mrec:Int->Option (List (List Int))) (b:List (List Int)) (a:(List (List Int))×Int):Option Yq9:=
 if decide (a.2<(b.length:Int)) then ((aK b a.2).bind fun c=>aO (ax (jk mrec c) aR (a.1,0)) (fun d=>some (.ret d)) (fun e=>some (.nxt (e.1,i64.wrap (a.2+1))))) else (some (.brk (a.1,a.2)))
def gf:Nat->Int->Option (List (List Int))
 | 0,_=>none
 | n+1,p0length =>
  if p0length==0 then (some ([([] :List Int)])) else (((gf n) (i64.wrap (p0length - 1))).bind fun a=>aO (ax (jl (gf n) a) aR (([] :List (List Int)),0)) (fun b=>some b) (fun c=>some c.1))
def pD (d:Int) (e:Bool) (f:List (List Bool)) (a:(List (List Bool))×Int):Option Yq5:=
 if decide (a.2<(f.length:Int)) then ((mkI 1 d (false:Bool)).bind fun b=>(aK a.1 a.2).bind fun g=>(aK (a.1.set a.2.toNat b) a.2).bind fun c=>(aK c a.2).bind fun h=>some (.nxt ((a.1.set a.2.toNat b).set a.2.toNat (c.set a.2.toNat e),i64.wrap (a.2+1)))) else (some (.brk (a.1,a.2)))
def j6 (a:Int) (c:Bool):Option (List (List Bool)):=
 (mkI 24 a ([] :List Bool)).bind fun b=>aO (ax (pD a c b) aR (b,0)) (fun r=>some r) (fun d=>some d.1)
def iI (d:List (List Bool)) (b:Int×List (List Bool)) (e:Int×List (List Bool)) (f:List Bool) (a:Int×List (List Bool)):Option Yq6:=
 if decide (a.1<(f.length:Int)) then ((aK a.2 b.1).bind fun c=>(aK a.2 b.1).bind fun j=>(chk (b.1<((a.2.set b.1.toNat ([] :List Bool)).length:Int))).bind fun _=>(chk (b.1=b.1)).bind fun _=>(aK a.2 b.1).bind fun k=>(chk (b.1<((a.2.set b.1.toNat ([] :List Bool)).length:Int))).bind fun _=>(chk (b.1=b.1)).bind fun _=>(aK c a.1).bind fun g=>if g then ((aK c a.1).bind fun l=>some (.nxt (i64.wrap (a.1+1),a.2.set b.1.toNat (c.set a.1.toNat true)))) else ((aK d e.1).bind fun h=>(aK h a.1).bind fun i=>(aK c a.1).bind fun m=>some (.nxt (i64.wrap (a.1+1),a.2.set b.1.toNat (c.set a.1.toNat i))))) else (some (.brk (a.1,a.2)))
def mi (d:List (List Bool)) (b:List (List Bool)) (c:Int×List (List Bool)) (e:List Bool) (a:Int×List (List Bool)):Option Yq6:=
 if decide (a.1<(e.length:Int)) then (Option.bind (((aK d c.1).bind fun f=>(aK f a.1).bind fun g=>if g then ((aK b a.1).bind fun h=>aO (ax (iI b c a h) aR (0,a.2)) (fun k=>none) (fun i=>some i.2)) else (some a.2):Option (List (List Bool)))) (fun j=>some (.nxt (i64.wrap (a.1+1),j)))) else (some (.brk (a.1,a.2)))
def mj (b:List (List Bool)) (c:List (List Bool)) (a:Int×List (List Bool)):Option Yq6:=
 if decide (a.1<(b.length:Int)) then ((aK b a.1).bind fun d=>aO (ax (mi b c a d) aR (0,a.2)) (fun e=>some (.ret e)) (fun f=>some (.nxt (i64.wrap (a.1+1),f.2)))) else (some (.brk (a.1,a.2)))
def kF (a:List (List Bool)) (b:List (List Bool)):Option (List (List Bool)):=
 (j6 (a.length:Int) false).bind fun c=>aO (ax (mj a b) aR (0,c)) (fun d=>some d) (fun e=>some e.2)
def mn (d:List (List Bool)) (e:List (List Bool)) (b:(List (List Bool))×Int) (f:List Bool) (a:(List (List Bool))×Int):Option Yq5:=
 if decide (a.2<(f.length:Int)) then ((aK a.1 b.2).bind fun c=>(aK d b.2).bind fun g=>(aK g a.2).bind fun h=>if h then ((aK c a.2).bind fun k=>some (.nxt (a.1.set b.2.toNat (c.set a.2.toNat true),i64.wrap (a.2+1)))) else ((aK e b.2).bind fun i=>(aK i a.2).bind fun j=>(aK c a.2).bind fun l=>some (.nxt (a.1.set b.2.toNat (c.set a.2.toNat j),i64.wrap (a.2+1))))) else (some (.brk (a.1,a.2)))
def mo (b:List (List Bool)) (c:List (List Bool)) (a:(List (List Bool))×Int):Option Yq5:=
 if decide (a.2<(b.length:Int)) then ((aK b a.2).bind fun d=>aO (ax (mn b c a d) aR (a.1,0)) (fun r=>some (.ret r)) (fun e=>some (.nxt (e.1,i64.wrap (a.2+1))))) else (some (.brk (a.1,a.2)))
def kG (a:List (List Bool)) (b:List (List Bool)):Option (List (List Bool)):=
 (j6 (a.length:Int) false).bind fun c=>aO (ax (mo a b) aR (c,0)) (fun r=>some r) (fun d=>some d.1)
def fL (mrec:(Tr Yq1)->List Int->Option (List (List Bool))) (b:Tr Yq1) (c:List Int) (a:Int×List (List Bool)):Option Yq6:=
 if decide (a.1<(c.length:Int)) then ((aK c a.1).bind fun e=>(aK a.2 a.1).bind fun d=>(Tr.get b).bind fun g=>(Tr.get b).bind fun f=>(aK d (i64.wrap (a.1+1))).bind fun h=>some (.nxt (i64.wrap (a.1+1),a.2.set a.1.toNat (d.set ((i64.wrap (a.1+1)).toNat) (e==f.1.2.1))))) else (some (.brk (a.1,a.2)))
def fM (mrec:(Tr Yq1)->List Int->Option (List (List Bool))) (b:List Int) (c:List (List Bool)) (a:(List (List Bool))×Int):Option Yq5:=
 if decide (a.2<(i64.wrap ((b.length:Int)+1))) then ((kF a.1 c).bind fun d=>(kG a.1 d).bind fun e=>some (.nxt (e,i64.wrap (a.2+1)))) else (some (.brk (a.1,a.2)))
def fN (mrec:(Tr Yq1)->List Int->Option (List (List Bool))) (b:Tr Yq1) (c:List (List Bool)) (a:(List (List Bool))×(List (List Bool))×Int):Option (Out (List (List Bool)) ((List (List Bool))×(List (List Bool))×Int)):=
 (Tr.get b).bind fun i=>(Tr.get b).bind fun d=>if decide (a.2.2<=d.1.2.2.2) then ((Tr.get b).bind fun j=>(Tr.get b).bind fun e=>Option.bind ((if decide (a.2.2≥e.1.2.2.1) then ((kG a.1 a.2.1).bind fun f=>some f) else (some a.1):Option (List (List Bool)))) (fun g=>(kF a.2.1 c).bind fun h=>some (.nxt (g,h,i64.wrap (a.2.2+1))))) else (some (.brk (a.1,a.2.1,a.2.2)))
def aY:Nat->(Tr Yq1)->List Int->Option (List (List Bool))
 | 0,_,_=>none
 | n+1,p0,p1 =>
  (j6 (i64.wrap ((p1.length:Int)+1)) false).bind fun b=>(Tr.get p0).bind fun E=>(Tr.get p0).bind fun a=>Option.bind ((if a.1.1==2 then ((j6 (i64.wrap ((p1.length:Int)+1)) true).bind fun c=>some c) else (if a.1.1==3 then (aO (ax (fL (aY n) p0 p1) aR (0,b)) (fun F=>none) (fun d=>some d.2)) else (if a.1.1==4 then ((Tr.get p0).bind fun G=>(Tr.get p0).bind fun e=>(aK e.2 0).bind fun f=>((aY n) f p1).bind fun g=>(Tr.get p0).bind fun H=>(Tr.get p0).bind fun h=>(aK h.2 1).bind fun i=>((aY n) i p1).bind fun j=>(kF g j).bind fun k=>some k) else (if a.1.1==5 then ((Tr.get p0).bind fun I=>(Tr.get p0).bind fun l=>(aK l.2 0).bind fun m=>((aY n) m p1).bind fun o=>(Tr.get p0).bind fun J=>(Tr.get p0).bind fun p=>(aK p.2 1).bind fun q=>((aY n) q p1).bind fun r=>(kG o r).bind fun s=>some s) else (if a.1.1==6 then ((j6 (i64.wrap ((p1.length:Int)+1)) true).bind fun t=>(Tr.get p0).bind fun K=>(Tr.get p0).bind fun u=>(aK u.2 0).bind fun v=>((aY n) v p1).bind fun w=>aO (ax (fM (aY n) p1 w) aR (t,0)) (fun L=>none) (fun x=>some x.1)) else (if a.1.1==7 then ((Tr.get p0).bind fun M=>(Tr.get p0).bind fun y=>(aK y.2 0).bind fun z=>((aY n) z p1).bind fun A=>(j6 (i64.wrap ((p1.length:Int)+1)) true).bind fun B=>aO (ax (fN (aY n) p0 A) aR (b,B,0)) (fun N=>none) (fun C=>some C.1)) else (some b)))))):Option (List (List Bool)))) (fun D=>some D)
def eQ (b:Tr Yq1) (a:List Int):Option Bool:=
 (aY bP b a).bind fun c=>(aK c 0).bind fun d=>(aK d (a.length:Int)).bind fun e=>some e
def gz (d:Tr Yq1) (b:List (List Int)) (a:(List (List Int))×Int):Option Yq9:=
 if decide (a.2<(b.length:Int)) then (Option.bind (((aK b a.2).bind fun c=>(eQ d c).bind fun e=>if e then ((cP 24 a.1 ([c])).bind fun f=>some f) else (some a.1):Option (List (List Int)))) (fun g=>some (.nxt (g,i64.wrap (a.2+1))))) else (some (.brk (a.1,a.2)))
def gA (b:Int) (c:Tr Yq1) (a:(List (List Int))×Int):Option Yq9:=
 if decide (a.2<=b) then ((gf bP a.2).bind fun d=>aO (ax (gz c d) aR (a.1,0)) (fun e=>some (.ret e)) (fun f=>some (.nxt (f.1,i64.wrap (a.2+1))))) else (some (.brk (a.1,a.2)))
def fe (a:List Yq1) (b:Int):Option (List (List Int)):=
 (b8 a).bind fun c=>if c then ((bc b 0 3).bind fun d=>if d then ((jJ a).bind fun e=>aO (ax (gA b e) aR (([] :List (List Int)),0)) (fun f=>some f) (fun g=>some g.1)) else (some ([] :List (List Int)))) else (some ([] :List (List Int)))
def bJ (d:List Yq1) (c:List (List Int)) (a:Int):Option (Out ((List Int)×Bool) Int):=
 if decide (a<(c.length:Int)) then ((aK c a).bind fun b=>(cE b).bind fun e=>if e.2 then ((aV d b).bind fun f=>if f then (some (.nxt (i64.wrap (a+1)))) else (some (.ret (b,true)))) else (some (.nxt (i64.wrap (a+1))))) else (some (.brk a))
def bV (b:List Yq1) (a:List Yq1) (c:Int):Option ((List Int)×Bool):=
 (b8 a).bind fun d=>if d then ((fe b c).bind fun e=>aO (ax (bJ a e) aR 0) (fun f=>some f) (fun g=>some (([] :List Int),false))) else (some (([] :List Int),false))
def dg (mrec:(Tr Yq1)->Option Int) (b:Tr Yq1) (c:Yq1×List (Tr Yq1)) (a:Int×Int):Option (Out Int (Int×Int)):=
 if decide (a.2<(c.2.length:Int)) then (Option.bind (((aK c.2 a.2).bind fun d=>(Tr.get b).bind fun j=>(Tr.get b).bind fun e=>if e.1.1==7 then ((mrec d).bind fun f=>(Tr.get b).bind fun k=>(Tr.get b).bind fun g=>some (i64.wrap (a.1+(i64.wrap ((i64.wrap (f+3))*g.1.2.2.2))))) else ((mrec d).bind fun h=>some (i64.wrap (a.1+h))):Option Int)) (fun i=>some (.nxt (i,i64.wrap (a.2+1))))) else (some (.brk (a.1,a.2)))
def b9:Nat->(Tr Yq1)->Option Int
 | 0,_=>none
 | n+1,p0x =>
  (Tr.get p0x).bind fun d=>(Tr.get p0x).bind fun a=>aO (ax (dg (b9 n) p0x a) aR (1,0)) (fun b=>some b) (fun c=>some (Min.min c.1 100000))
def Cj (a:Int):Option (Tr Yq1):=
 some (Tr.node (a,0,0,0) ([] :List (Tr Yq1)))
def lj:Nat->(Tr Yq1)->Int->Int->Option (Tr Yq1)
 | 0,_,_,_=>none
 | n+1,p0x,p1low,p2high =>
  if p2high==0 then ((Cj 2).bind fun b=>some b) else (((lj n) p0x (Max.max 0 (i64.wrap (p1low - 1))) (i64.wrap (p2high - 1))).bind fun a=>if decide (p1low>0) then (some (Tr.node (4,0,0,0) ([p0x,a]))) else ((Cj 2).bind fun c=>some (Tr.node (5,0,0,0) ([Tr.node (4,0,0,0) ([p0x,a]),c]))))
def dK (mrec:(Tr Yq1)->Option (Tr Yq1)) (b:Yq1×List (Tr Yq1)) (a:Int×Int×Int×Int×Int×List (Tr Yq1)):Option (Out (Tr Yq1) (Int×Int×Int×Int×Int×List (Tr Yq1))):=
 if decide (a.1<(b.2.length:Int)) then ((aK b.2 a.1).bind fun c=>(mrec c).bind fun d=>(cP 8 a.2.2.2.2.2 ([d])).bind fun e=>some (.nxt (i64.wrap (a.1+1),a.2.1,a.2.2.1,a.2.2.2.1,a.2.2.2.2.1,e))) else (some (.brk (a.1,a.2.1,a.2.2.1,a.2.2.2.1,a.2.2.2.2.1,a.2.2.2.2.2)))
def bS:Nat->(Tr Yq1)->Option (Tr Yq1)
 | 0,_=>none
 | n+1,p0x =>
  (Tr.get p0x).bind fun l=>(Tr.get p0x).bind fun c=>if c.1.1==7 then ((Tr.get p0x).bind fun m=>(Tr.get p0x).bind fun d=>(aK d.2 0).bind fun e=>((bS n) e).bind fun f=>(Tr.get p0x).bind fun o=>(Tr.get p0x).bind fun g=>(Tr.get p0x).bind fun p=>(Tr.get p0x).bind fun h=>(lj bP f g.1.2.2.1 h.1.2.2.2).bind fun i=>some i) else ((Tr.get p0x).bind fun q=>(Tr.get p0x).bind fun b=>(Tr.get p0x).bind fun r=>(Tr.get p0x).bind fun j=>aO (ax (dK (bS n) j) aR (0,b.1.1,b.1.2.1,b.1.2.2.1,b.1.2.2.2,([] :List (Tr Yq1)))) (fun k=>some k) (fun a=>some (Tr.node (a.2.1,a.2.2.1,a.2.2.2.1,a.2.2.2.2.1) a.2.2.2.2.2)))
def cm (mrec:(Tr Yq1)->(List Yq1)->Option (List Yq1)) (b:Yq1×List (Tr Yq1)) (a:Int×List Yq1):Option (Out (List Yq1) (Int×List Yq1)):=
 if decide (a.1<(b.2.length:Int)) then ((aK b.2 a.1).bind fun c=>(mrec c a.2).bind fun d=>some (.nxt (i64.wrap (a.1+1),d))) else (some (.brk (a.1,a.2)))
def bL:Nat->(Tr Yq1)->(List Yq1)->Option (List Yq1)
 | 0,_,_=>none
 | n+1,p0x,p1out =>
  (Tr.get p0x).bind fun f=>(Tr.get p0x).bind fun b=>aO (ax (cm (bL n) b) aR (0,p1out)) (fun c=>some c) (fun d=>(Tr.get p0x).bind fun g=>(Tr.get p0x).bind fun a=>(cP 32 d.2 ([(a.1.1,a.1.2.1,a.1.2.2.1,a.1.2.2.2)])).bind fun e=>some e)
def pE (a:Tr Yq1):Option (List Yq1):=
 (bL bP a ([] :List Yq1)).bind fun b=>some b
def kT (a:List Yq1):Option ((List Yq1)×Bool):=
 (b8 a).bind fun d=>if d then ((jJ a).bind fun b=>(b9 bP b).bind fun e=>if decide (e>5000) then (some (([] :List Yq1),false)) else ((bS bP b).bind fun f=>(pE f).bind fun c=>if decide ((c.length:Int)>400) then (some (([] :List Yq1),false)) else (some (c,true)))) else (some (([] :List Yq1),false))
def cK (b:(List Int)×Int×Int×(List Int)×Bool) (c:Int) (d:Int) (a:Int×List Int):Option (Out Yq4 (Int×List Int)):=
 if decide (a.1<(b.2.2.2.1.length:Int)) then (Option.bind (((chk (0<=a.1)).bind fun _=>if (nw (nr c a.1) 1)==1 then ((aK a.2 a.1).bind fun e=>(aK a.2 a.1).bind fun g=>some (a.2.set a.1.toNat (orI e d))) else (some a.2):Option (List Int))) (fun f=>some (.nxt (i64.wrap (a.1+1),f)))) else (some (.brk (a.1,a.2)))
def dP (a:(List Int)×Int×Int×(List Int)×Bool) (b:Int) (c:Int):Option Yq4:=
 aO (ax (cK a b c) aR (0,a.2.2.2.1)) (fun d=>some d) (fun e=>some (a.1,a.2.1,a.2.2.1,e.2,a.2.2.2.2))
def be:Nat->Yq4->(Tr Yq1)->Option ((Int×Int×Bool)×(List Int)×Int×Int×(List Int)×Bool)
 | 0,_,_=>none
 | n+1,p0,p1 =>
  (Tr.get p1).bind fun A=>(Tr.get p1).bind fun i=>if i.1.1==2 then (some ((0,0,true),p0.1,p0.2.1,p0.2.2.1,p0.2.2.2.1,p0.2.2.2.2)) else (if i.1.1==3 then ((Tr.get p1).bind fun B=>(Tr.get p1).bind fun m=>(cP 8 p0.1 ([m.1.2.1])).bind fun o=>(cP 8 p0.2.2.2.1 ([0])).bind fun p=>some ((wU 1 (p0.1.length:Int),wU 1 (p0.1.length:Int),false),o,p0.2.1,p0.2.2.1,p,p0.2.2.2.2)) else (if i.1.1==5 then ((Tr.get p1).bind fun C=>(Tr.get p1).bind fun q=>(aK q.2 0).bind fun r=>((be n) (p0.1,p0.2.1,p0.2.2.1,p0.2.2.2.1,p0.2.2.2.2) r).bind fun f=>(Tr.get p1).bind fun D=>(Tr.get p1).bind fun s=>(aK s.2 1).bind fun t=>((be n) f.2 t).bind fun b=>if f.1.2.2 then (some ((orI f.1.1 b.1.1,orI f.1.2.1 b.1.2.1,true),b.2.1,b.2.2.1,b.2.2.2.1,b.2.2.2.2.1,b.2.2.2.2.2)) else (some ((orI f.1.1 b.1.1,orI f.1.2.1 b.1.2.1,b.1.2.2),b.2.1,b.2.2.1,b.2.2.2.1,b.2.2.2.2.1,b.2.2.2.2.2))) else (if i.1.1==4 then ((Tr.get p1).bind fun E=>(Tr.get p1).bind fun u=>(aK u.2 0).bind fun v=>((be n) (p0.1,p0.2.1,p0.2.2.1,p0.2.2.2.1,p0.2.2.2.2) v).bind fun c=>(Tr.get p1).bind fun F=>(Tr.get p1).bind fun w=>(aK w.2 1).bind fun x=>((be n) c.2 x).bind fun a=>(dP (a.2.1,a.2.2.1,a.2.2.2.1,a.2.2.2.2.1,a.2.2.2.2.2) c.1.2.1 a.1.1).bind fun d=>if c.1.2.2 then (Option.bind ((if c.1.2.2 then (some (orI c.1.1 a.1.1,a.1.2.1,a.1.2.2)) else (some (c.1.1,a.1.2.1,a.1.2.2)):Option (Int×Int×Bool))) (fun g=>Option.bind ((if a.1.2.2 then (some (g.1,orI g.2.1 c.1.2.1,g.2.2)) else (some (g.1,g.2.1,g.2.2)):Option (Int×Int×Bool))) (fun k=>some ((k.1,k.2.1,k.2.2),d.1,d.2.1,d.2.2.1,d.2.2.2.1,d.2.2.2.2)))) else (Option.bind ((if c.1.2.2 then (some (orI c.1.1 a.1.1,a.1.2.1,false)) else (some (c.1.1,a.1.2.1,false)):Option (Int×Int×Bool))) (fun h=>Option.bind ((if a.1.2.2 then (some (h.1,orI h.2.1 c.1.2.1,h.2.2)) else (some (h.1,h.2.1,h.2.2)):Option (Int×Int×Bool))) (fun l=>some ((l.1,l.2.1,l.2.2),d.1,d.2.1,d.2.2.1,d.2.2.2.1,d.2.2.2.2))))) else (if i.1.1==6 then ((Tr.get p1).bind fun G=>(Tr.get p1).bind fun y=>(aK y.2 0).bind fun z=>((be n) (p0.1,p0.2.1,p0.2.2.1,p0.2.2.2.1,p0.2.2.2.2) z).bind fun e=>(dP (e.2.1,e.2.2.1,e.2.2.2.1,e.2.2.2.2.1,e.2.2.2.2.2) e.1.2.1 e.1.1).bind fun j=>some ((e.1.1,e.1.2.1,true),j.1,j.2.1,j.2.2.1,j.2.2.2.1,j.2.2.2.2)) else (some ((0,0,false),p0.1,p0.2.1,p0.2.2.1,p0.2.2.2.1,p0.2.2.2.2))))))
def dz (b:(List Yq1)×Bool) (a:Int×Int):Option (Out (Yq4×Bool) (Int×Int)):=
 if decide (a.2<(b.1.length:Int)) then (Option.bind (((aK b.1 a.2).bind fun c=>if c.1==3 then (some (i64.wrap (a.1+1))) else (some a.1):Option Int)) (fun d=>some (.nxt (d,i64.wrap (a.2+1))))) else (some (.brk (a.1,a.2)))
def gO (c:List Yq1):Option (Yq4×Bool):=
 (kT c).bind fun b=>if b.2 then (aO (ax (dz b) aR (0,0)) (fun d=>some d) (fun e=>if decide (e.1>20) then (some ((([] :List Int),0,0,([] :List Int),false),false)) else ((jJ b.1).bind fun f=>(be bP (([] :List Int),0,0,([] :List Int),false) f).bind fun a=>some ((a.2.1,a.1.1,a.1.2.1,a.2.2.2.2.1,a.1.2.2),true)))) else (some ((([] :List Int),0,0,([] :List Int),false),false))
def eC (e:Int->Int->Option (Int×Bool)) (f:(List Int)×Yq2×Int×Int×(List Bool)×(List (List Int))) (a:(List Int)×Yq2×(List Int)×Int):Option (Out (Yq3×Bool) ((List Int)×Yq2×(List Int)×Int)):=
 if decide (a.2.2.2<9) then (Option.bind (((aK a.1 f.2.2.1).bind fun g=>(e g a.2.2.2).bind fun b=>if b.2 then ((chk (iOk b.1=true)).bind fun _=>Option.bind ((if (lkM a.2.1 b.1).isSome then (some (a.1,a.2.1,(lkM a.2.1 b.1).getD 0)) else ((E3 a.2.1 iOk iOk b.1 (a.1.length:Int)).bind fun m37=>(cP 8 a.1 ([b.1])).bind fun h=>some (h,m37,(a.1.length:Int))):Option ((List Int)×Yq2×Int))) (fun c=>(cP 8 a.2.2.1 ([c.2.2])).bind fun i=>some (c.1,c.2.1,i))) else ((cP 8 a.2.2.1 ([-1])).bind fun j=>some (a.1,a.2.1,j)):Option ((List Int)×Yq2×(List Int)))) (fun d=>some (.nxt (d.1,d.2.1,d.2.2,i64.wrap (a.2.2.2+1))))) else (some (.brk (a.1,a.2.1,a.2.2.1,a.2.2.2)))
def bT (c:Int) (d:Int->Option Bool) (e:Int->Int->Option (Int×Bool)) (a:(List Int)×Yq2×Int×Int×(List Bool)×(List (List Int))):Option (Out (Yq3×Bool) ((List Int)×Yq2×Int×Int×(List Bool)×(List (List Int)))):=
 if decide (a.2.2.1<(a.1.length:Int)) then (aO (ax (eC e a) aR (a.1,a.2.1,([] :List Int),0)) (fun r=>some (.ret r)) (fun b=>if decide ((b.1.length:Int)>c) then (some (.ret ((0,[],[]),false))) else ((aK b.1 a.2.2.1).bind fun f=>(d f).bind fun g=>(cP 1 a.2.2.2.2.1 ([g])).bind fun h=>(cP 24 a.2.2.2.2.2 ([b.2.2.1])).bind fun i=>some (.nxt (b.1,b.2.1,i64.wrap (a.2.2.1+1),a.2.2.2.1,h,i))))) else (some (.brk (a.1,a.2.1,a.2.2.1,a.2.2.2.1,a.2.2.2.2.1,a.2.2.2.2.2)))
def eR (b:Int) (c:Int) (d:Int->Option Bool) (e:Int->Int->Option (Int×Bool)):Option (Yq3×Bool):=
 (E3 ([] :List (Int×Int)) iOk iOk b 0).bind fun m1=>aO (ax (bT c d e) aR ([b],m1,0,0,[],[])) (fun r=>some r) (fun a=>some ((a.2.2.2.1,a.2.2.2.2.1,a.2.2.2.2.2),true))
def dA (a:(List Int)×Int×Int×(List Int)×Bool) (b:Int):Option Bool:=
 if (nw b 1)==1 then (if a.2.2.2.2 then (some true) else (some ((nw (nr b 1) a.2.2.1) !=0))) else (some ((nw (nr b 1) a.2.2.1) !=0))
def c9 (b:(List Int)×Int×Int×(List Int)×Bool) (c:Int) (a:Int×Int):Option (Out Int (Int×Int)):=
 if decide (a.2<(b.2.2.2.1.length:Int)) then (Option.bind (((aK b.2.2.2.1 a.2).bind fun d=>(chk (0<=i64.wrap (a.2+1))).bind fun _=>if (nw (nr c (i64.wrap (a.2+1))) 1)==1 then (some (orI a.1 d)) else (some a.1):Option Int)) (fun e=>some (.nxt (e,i64.wrap (a.2+1))))) else (some (.brk (a.1,a.2)))
def da (b:(List Int)×Int×Int×(List Int)×Bool) (c:Int) (d:Int×Int) (a:Int×Int):Option (Out Int (Int×Int)):=
 if decide (a.2<(b.1.length:Int)) then (Option.bind (((aK b.1 a.2).bind fun e=>if e==c then ((chk (0<=a.2)).bind fun _=>if (nw (nr d.1 a.2) 1)==1 then ((chk (0<=i64.wrap (a.2+1))).bind fun _=>some (orI a.1 (wU 1 (i64.wrap (a.2+1))))) else (some a.1)) else (some a.1):Option Int)) (fun f=>some (.nxt (f,i64.wrap (a.2+1))))) else (some (.brk (a.1,a.2)))
def gg (a:(List Int)×Int×Int×(List Int)×Bool) (b:Int) (c:Int):Option Int:=
 Option.bind ((if (nw b 1)==1 then (some a.2.1) else (some 0):Option Int)) (fun d=>aO (ax (c9 a b) aR (d,0)) (fun r=>some r) (fun e=>aO (ax (da a c e) aR (0,0)) (fun r=>some r) (fun f=>some f.1)))
def dh (b:Int) (c:Int) (q0:(List Int)×Int×Int×(List Int)×Bool):Option (Int×Bool):=
 (gg (q0.1,q0.2.1,q0.2.2.1,q0.2.2.2.1,q0.2.2.2.2) b c).bind fun a=>some (a,a !=0)
def ig (a:(List Int)×Int×Int×(List Int)×Bool) (c:Int):Option (Yq3×Bool):=
 (eR 1 c (fun a0=>dA (a.1,a.2.1,a.2.2.1,a.2.2.2.1,a.2.2.2.2) a0) (fun a0 a1=>dh a0 a1 (a.1,a.2.1,a.2.2.1,a.2.2.2.1,a.2.2.2.2))).bind fun b=>some ((b.1.1,b.1.2.1,b.1.2.2),b.2)
def dB (b:Bool×Int×List Bool) (c:List Int) (a:Bool×Int×List Bool):Option (Out (List Bool) (Bool×Int×List Bool)):=
 if decide (a.2.1<(c.length:Int)) then (Option.bind (((aK c a.2.1).bind fun d=>if decide (d≥0) then ((aK a.2.2 d).bind fun f=>if f then ((aK a.2.2 b.2.1).bind fun g=>if g then (some (a.1,a.2.2)) else ((aK a.2.2 b.2.1).bind fun h=>some (true,a.2.2.set b.2.1.toNat true))) else (some (a.1,a.2.2))) else (some (a.1,a.2.2)):Option (Bool×List Bool))) (fun e=>some (.nxt (e.1,i64.wrap (a.2.1+1),e.2)))) else (some (.brk (a.1,a.2.1,a.2.2)))
def dC (b:Int×(List Bool)×List (List Int)) (a:Bool×Int×List Bool):Option (Out (List Bool) (Bool×Int×List Bool)):=
 if decide (a.2.1<(b.2.2.length:Int)) then ((aK b.2.2 a.2.1).bind fun d=>aO (ax (dB a d) aR (a.1,0,a.2.2)) (fun e=>some (.ret e)) (fun c=>some (.nxt (c.1,i64.wrap (a.2.1+1),c.2.2)))) else (some (.brk (a.1,a.2.1,a.2.2)))
def ij (c:Int×(List Bool)×List (List Int)) (a:Bool×List Bool):Option (Out (List Bool) (Bool×List Bool)):=
 if a.1 then (aO (ax (dC c) aR (false,0,a.2)) (fun d=>some (.ret d)) (fun b=>some (.nxt (b.1,b.2.2)))) else (some (.brk (a.1,a.2)))
def ff (a:Int×(List Bool)×List (List Int)):Option (List Bool):=
 (cP 1 ([] :List Bool) a.2.1).bind fun b=>aO (ax (ij a) aR (true,b)) (fun c=>some c) (fun d=>some d.2)
def bY (b:List (List Int)) (c:(List Int)->Option Bool) (a:Int):Option (Out Int Int):=
 if decide (a<(b.length:Int)) then ((aK b a).bind fun d=>(c d).bind fun e=>if e then (some (.ret a)) else (some (.nxt (i64.wrap (a+1))))) else (some (.brk a))
def bN (a:List (List Int)) (b:(List Int)->Option Bool):Option Int:=
 aO (ax (bY a b) aR 0) (fun r=>some r) (fun c=>some (-1))
def cg (b:List Int) (c:List Int) (a:Int):Option (Out Bool Int):=
 if decide (a<(b.length:Int)) then ((aK b a).bind fun d=>(aK c a).bind fun e=>if d !=e then (some (.ret false)) else (some (.nxt (i64.wrap (a+1))))) else (some (.brk a))
def eJ (a:List Int) (b:List Int):Option Bool:=
 if (a.length:Int) !=(b.length:Int) then (some false) else (aO (ax (cg a b) aR 0) (fun r=>some r) (fun c=>some true))
def gK (a:List Int) (q0:List Int):Option Bool:=
 (eJ a q0).bind fun b=>some b
def cL (d:List Int) (c:List Int) (a:Int×(List Int)):Option (Out ((List Int)×Int) (Int×(List Int))):=
 if decide (a.1<(c.length:Int)) then ((aK c a.1).bind fun b=>Option.bind ((if decide (b≥0) then ((aK d b).bind fun e=>some e) else (some b):Option Int)) (fun f=>(cP 8 a.2 ([f])).bind fun g=>some (.nxt (i64.wrap (a.1+1),g)))) else (some (.brk (a.1,a.2)))
def dW (h:Int×(List Bool)×(List (List Int))) (b:List Int) (a:(List (List Int))×(List Int)×Int):Option (Out ((List Int)×Int) ((List (List Int))×(List Int)×Int)):=
 if decide (a.2.2<(b.length:Int)) then (Option.bind (((aK b a.2.2).bind fun c=>if decide (c<0) then ((cP 8 a.2.1 ([-1])).bind fun i=>some (a.1,i)) else ((aK h.2.2 a.2.2).bind fun j=>aO (ax (cL b j) aR (0,[c])) (fun _=>none) (fun d=>(bN a.1 (fun a0=>gK a0 d.2)).bind fun e=>Option.bind ((if decide (e<0) then ((cP 24 a.1 ([d.2])).bind fun k=>some (k,(a.1.length:Int))) else (some (a.1,e)):Option ((List (List Int))×Int))) (fun f=>(cP 8 a.2.1 ([f.2])).bind fun l=>some (f.1,l)))):Option ((List (List Int))×(List Int)))) (fun g=>some (.nxt (g.1,g.2,i64.wrap (a.2.2+1))))) else (some (.brk (a.1,a.2.1,a.2.2)))
def dQ (b:Int×(List Bool)×(List (List Int))) (c:List Int):Option ((List Int)×Int):=
 aO (ax (dW b c) aR (([] :List (List Int)),([] :List Int),0)) (fun r=>some r) (fun a=>some (a.2.1,(a.1.length:Int)))
def cq (c:Int×(List Bool)×(List (List Int))) (b:List Bool) (a:(List Int)×Int):Option U3:=
 if decide (a.2<(b.length:Int)) then (Option.bind (((aK b a.2).bind fun d=>if d then ((aK c.2.1 a.2).bind fun e=>if e then ((cP 8 a.1 ([1])).bind fun f=>some f) else ((cP 8 a.1 ([0])).bind fun g=>some g)) else ((cP 8 a.1 ([-1])).bind fun h=>some h):Option (List Int))) (fun i=>some (.nxt (i,i64.wrap (a.2+1))))) else (some (.brk (a.1,a.2)))
def fO (b:Int×(List Bool)×(List (List Int))) (c:(List Int)×Int):Option U3:=
 (dQ (b.1,b.2.1,b.2.2) c.1).bind fun a=>if a.2==c.2 then (some (.ret a.1)) else (some (.nxt (a.1,a.2)))
def dD (a:Int×(List Bool)×(List (List Int))):Option (List Int):=
 (ff (a.1,a.2.1,a.2.2)).bind fun b=>aO (ax (cq a b) aR (([] :List Int),0)) (fun r=>some r) (fun c=>aO (ax (fO a) aR (c.1,-1)) (fun r=>some r) (fun d=>none))
def tu (a:Int) (b:Int):Option (Int×Int):=
 some (IntKind.u32.wrap (nr (IntKind.u64.wrap ((IntKind.u64.wrap a)*(IntKind.u64.wrap b))) 32),IntKind.u32.wrap (IntKind.u64.wrap ((IntKind.u64.wrap a)*(IntKind.u64.wrap b))))
def mV (a:Int) (b:Int):Option (Int×Int):=
 some (IntKind.u64.wrap ((IntKind.u64.wrap ((IntKind.u64.wrap ((nr a 32)*(nr b 32)))+(nr (IntKind.u64.wrap ((IntKind.u64.wrap ((nr a 32)*(OJ b 4294967295)))+(nr (IntKind.u64.wrap ((OJ a 4294967295)*(OJ b 4294967295))) 32))) 32)))+(nr (IntKind.u64.wrap ((OJ (IntKind.u64.wrap ((IntKind.u64.wrap ((nr a 32)*(OJ b 4294967295)))+(nr (IntKind.u64.wrap ((OJ a 4294967295)*(OJ b 4294967295))) 32))) 4294967295)+(IntKind.u64.wrap ((OJ a 4294967295)*(nr b 32))))) 32)),IntKind.u64.wrap (a*b))
def oL (b:Int) (c:Int):Option (Int×Int):=
 (mV b c).bind fun a=>some (a.1,a.2)
def ln (a:Int×List Int):Option (Out (List Int) (Int×List Int)):=
 if decide (a.1<(a.2.length:Int)) then ((chk (And (0<=a.1) (a.1<=(a.2.length:Int)))).bind fun _=>(chk (And (0<=a.1) (a.1<=(a.2.length:Int)))).bind fun _=>(chk (And (0<=a.1) (a.1<=(a.2.length:Int)))).bind fun _=>(chk (And (0<=a.1) (a.1<=(a.2.length:Int)))).bind fun _=>some (.nxt (i64.wrap (a.1+((Min.min ((a.2.take a.1.toNat).length) (a.2.length - a.1.toNat):Nat):Int)),CW a.2 a.1.toNat (a.2.take a.1.toNat)))) else (some (.brk (a.1,a.2)))
def il (a:List Int) (c:Int):Option (List Int):=
 if decide (c<0) then (none) else ((oL (IntKind.u64.wrap (a.length:Int)) (IntKind.u64.wrap c)).bind fun b=>if decide (b.1>0) then (none) else (if decide (b.2>9223372036854775807) then (none) else ((mkI 8 (i64.wrap b.2) 0).bind fun d=>aO (ax (ln) aR (((Min.min a.length (d.length - 0):Nat):Int),CW d 0 a)) (fun e=>some e) (fun f=>some f.2))))
def tv:Option Yq3:=
 (il ([-1]) 9).bind fun a=>some (0,[false],[a])
def dN (b:List Int) (c:Int) (a:Int):Option (Out Int Int):=
 if decide (a<(b.length:Int)) then ((aK b a).bind fun d=>if c==d then (some (.ret a)) else (some (.nxt (i64.wrap (a+1))))) else (some (.brk a))
def eK (a:List Int) (b:Int):Option Int:=
 aO (ax (dN a b) aR 0) (fun r=>some r) (fun c=>some (-1))
def aU (a:Int) (q0:List Int):Option Int:=
 (eK q0 a).bind fun b=>some b
def cr (a:Int) (q0:Int×(List Bool)×(List (List Int))) (q1:Int->Option Int):Option Bool:=
 (q1 a).bind fun b=>(aK q0.2.1 b).bind fun c=>some c
def bG (c:Int×(List Bool)×(List (List Int))) (a:Int) (b:Int):Option Int:=
 if decide (a<0) then (some (-1)) else ((eY b).bind fun d=>if d then ((aK c.2.2 a).bind fun e=>(aK e b).bind fun f=>some f) else (some (-1)))
def ct (b:Int) (c:Int) (q0:Int×(List Bool)×(List (List Int))) (q1:Int->Option Int) (q2:List Int):Option (Int×Bool):=
 (q1 b).bind fun d=>(bG (q0.1,q0.2.1,q0.2.2) d c).bind fun a=>if decide (a<0) then (some (0,false)) else ((aK q2 a).bind fun e=>if decide (e<0) then (some (0,false)) else ((aK q2 a).bind fun f=>some (f,true)))
def b7 (a:Int×(List Bool)×(List (List Int))):Option Yq3:=
 (dD (a.1,a.2.1,a.2.2)).bind fun b=>(aK b a.1).bind fun e=>if decide (e<0) then ((tv).bind fun c=>some (c.1,c.2.1,c.2.2)) else ((aK b a.1).bind fun f=>(eR f (b.length:Int) (fun a0=>cr a0 (a.1,a.2.1,a.2.2) (fun a0=>aU a0 b)) (fun a0 a1=>ct a0 a1 (a.1,a.2.1,a.2.2) (fun a0=>aU a0 b) b)).bind fun d=>some (d.1.1,d.1.2.1,d.1.2.2))
def yA (b:Int×(List Bool)×(List (List Int))):Option (Yq3×Bool):=
 (b7 (b.1,b.2.1,b.2.2)).bind fun a=>if decide ((a.2.1.length:Int)>12) then (some ((0,[],[]),false)) else (some ((a.1,a.2.1,a.2.2),true))
def im (d:(List Yq1)):Option (Yq3×Bool):=
 (gO d).bind fun a=>if a.2 then ((ig (a.1.1,a.1.2.1,a.1.2.2.1,a.1.2.2.2.1,a.1.2.2.2.2) 200).bind fun b=>if b.2 then ((yA (b.1.1,b.1.2.1,b.1.2.2)).bind fun c=>some ((c.1.1,c.1.2.1,c.1.2.2),c.2)) else (some ((0,[],[]),false))) else (some ((0,[],[]),false))
def bX (c:Int×(List Bool)×(List (List Int))) (b:List Int) (a:Int):Option (Out Bool Int):=
 if decide (a<(b.length:Int)) then ((aK b a).bind fun d=>(bc d (-1) (i64.wrap ((c.2.1.length:Int) - 1))).bind fun e=>if e then (some (.nxt (i64.wrap (a+1)))) else (some (.ret false))) else (some (.brk a))
def dX (b:Int×(List Bool)×(List (List Int))) (a:Int):Option (Out Bool Int):=
 if decide (a<(b.2.2.length:Int)) then ((aK b.2.2 a).bind fun c=>aO (ax (bX b c) aR 0) (fun r=>some (.ret r)) (fun d=>if (c.length:Int) !=9 then (some (.ret false)) else (some (.nxt (i64.wrap (a+1)))))) else (some (.brk a))
def bO (a:Int×(List Bool)×(List (List Int))):Option Bool:=
 (bc (a.2.1.length:Int) 1 12).bind fun b=>if b then ((bc a.1 0 (i64.wrap ((a.2.1.length:Int) - 1))).bind fun c=>if c then (if (a.2.2.length:Int) !=(a.2.1.length:Int) then (some false) else (aO (ax (dX a) aR 0) (fun r=>some r) (fun d=>some true))) else (some false)) else (some false)
def cM (e:(Int×Int)->Int->Option (Int×Int)) (c:(Int×Int)×List Int) (a:(List ((Int×Int)×List Int))×Int×List ((Int×Int)×Bool)):Option (Out ((List Int)×Bool) ((List ((Int×Int)×List Int))×Int×List ((Int×Int)×Bool))):=
 if decide (a.2.1<9) then (Option.bind (((e (c.1.1,c.1.2) a.2.1).bind fun b=>(chk ((Ff (b.1,b.2))=true)).bind fun _=>if Option.getD (lkM a.2.2 (b.1,b.2)) false then (some (a.1,a.2.2)) else ((E3 a.2.2 Ff bOk (b.1,b.2) true).bind fun f=>(fY c.2).bind fun g=>(cP 8 g ([a.2.1])).bind fun h=>(cP 40 a.1 ([((b.1,b.2),h)])).bind fun i=>some (i,f)):Option ((List ((Int×Int)×List Int))×List ((Int×Int)×Bool)))) (fun d=>some (.nxt (d.1,i64.wrap (a.2.1+1),d.2)))) else (some (.brk (a.1,a.2.1,a.2.2)))
def gi (d:(Int×Int)->Int->Option (Int×Int)) (e:(Int×Int)->Option Bool) (a:(List ((Int×Int)×List Int))×List ((Int×Int)×Bool)):Option (Out ((List Int)×Bool) ((List ((Int×Int)×List Int))×List ((Int×Int)×Bool))):=
 if decide ((a.1.length:Int)>0) then ((aK a.1 0).bind fun b=>(e (b.1.1,b.1.2)).bind fun f=>if f then ((fY b.2).bind fun g=>some (.ret (g,true))) else (aO (ax (cM d b) aR (a.1,0,a.2)) (fun h=>some (.ret h)) (fun c=>(chk (And ((0:Int)<=1) (1<=(c.1.length:Int)))).bind fun _=>some (.nxt (c.1.drop 1,c.2.2))))) else (some (.brk (a.1,a.2)))
def cV (a:Int×Int) (b:(Int×Int)->Int->Option (Int×Int)) (c:(Int×Int)->Option Bool):Option ((List Int)×Bool):=
 (E3 ([] :List ((Int×Int)×Bool)) Ff bOk (a.1,a.2) true).bind fun d=>aO (ax (gi b c) aR ([((a.1,a.2),([] :List Int))],d)) (fun e=>some e) (fun f=>some (([] :List Int),false))
def jm (a:Int×Int) (b:Int) (q0:Int×(List Bool)×(List (List Int))) (q1:Int×(List Bool)×(List (List Int))):Option (Int×Int):=
 (bG (q0.1,q0.2.1,q0.2.2) a.1 b).bind fun c=>(bG (q1.1,q1.2.1,q1.2.2) a.2 b).bind fun d=>some (c,d)
def bH (b:Int×(List Bool)×(List (List Int))) (a:Int):Option Bool:=
 if decide (a≥0) then ((aK b.2.1 a).bind fun c=>some c) else (some false)
def iJ (a:Int×Int) (q0:Int×(List Bool)×(List (List Int))) (q1:Int×(List Bool)×(List (List Int))):Option Bool:=
 (bH (q0.1,q0.2.1,q0.2.2) a.2).bind fun b=>if b then ((bH (q1.1,q1.2.1,q1.2.2) a.1).bind fun c=>some (!c)) else (some false)
def mW (a:Int×(List Bool)×List (List Int)) (b:Int×(List Bool)×List (List Int)):Option ((List Int)×Bool):=
 (bO (a.1,a.2.1,a.2.2)).bind fun d=>if d then ((bO (b.1,b.2.1,b.2.2)).bind fun e=>if e then ((cV (a.1,b.1) (fun (f:Int×Int) (g:Int)=>jm f g (a.1,a.2.1,a.2.2) (b.1,b.2.1,b.2.2)) (fun (h:Int×Int)=>iJ h (b.1,b.2.1,b.2.2) (a.1,a.2.1,a.2.2))).bind fun c=>some (c.1,c.2)) else (some (([] :List Int),false))) else (some (([] :List Int),false))
def dR (a:Int×(List Bool)×(List (List Int))) (b:Int×(List Bool)×(List (List Int))):Option Bool:=
 (mW (a.1,a.2.1,a.2.2) (b.1,b.2.1,b.2.2)).bind fun c=>(bO (a.1,a.2.1,a.2.2)).bind fun d=>if d then ((bO (b.1,b.2.1,b.2.2)).bind fun e=>if e then (some (!c.2)) else (some false)) else (some false)
def eU (a:(List Yq1)) (b:(List Yq1)) (c:Int):Option Int:=
 (b8 a).bind fun f=>if f then ((b8 b).bind fun g=>if g then ((bc c 0 3).bind fun h=>if h then ((im a).bind fun d=>(im b).bind fun e=>if d.2 then (if e.2 then ((dR (e.1.1,e.1.2.1,e.1.2.2) (d.1.1,d.1.2.1,d.1.2.2)).bind fun i=>if i then (some 1) else ((bV a b c).bind fun j=>if j.2 then (some 2) else (some 3))) else ((bV a b c).bind fun k=>if k.2 then (some 2) else (some 3))) else ((bV a b c).bind fun l=>if l.2 then (some 2) else (some 3))) else (some 0)) else (some 0)) else (some 0)
def F6 (a:List Int):Option Bool:=
 some (decide ((a.length:Int)>1048576))
def nI (b:List Int) (a:Int×Int):Option (Out (Int×Int) (Int×Int)):=
 if decide (a.2<(b.length:Int)) then (if decide (a.2<4000) then ((aK b a.2).bind fun c=>some (.nxt (nw (i64.wrap ((i64.wrap ((i64.wrap (a.1*131))+(i64.wrap c)))+7)) 1073741823,i64.wrap (a.2+1)))) else (some (.brk (a.1,a.2)))) else (some (.brk (a.1,a.2)))
def qP (a:List Int):Option (Int×Int):=
 aO (ax (nI a) aR (i64.wrap (10101+(a.length:Int)),0)) (fun b=>some b) (fun c=>some (0,c.1))
def jK (a:(List Int)×Int×Int):Option (Int×Int×Int):=
 Option.bind ((if decide (a.2.1<(a.1.length:Int)) then ((aK a.1 a.2.1).bind fun c=>some (nw (i64.wrap ((nw (Yt (nr (i64.wrap ((i64.wrap (a.2.2*6364136223846793005))+1442695040888963407)) 33) (nr (i64.wrap ((i64.wrap (a.2.2*6364136223846793005))+1442695040888963407)) 45)) 255)+(i64.wrap c))) 255,i64.wrap (a.2.1+1),i64.wrap ((i64.wrap (a.2.2*6364136223846793005))+1442695040888963407))) else (some (nw (Yt (nr (i64.wrap ((i64.wrap (a.2.2*6364136223846793005))+1442695040888963407)) 33) (nr (i64.wrap ((i64.wrap (a.2.2*6364136223846793005))+1442695040888963407)) 45)) 255,a.2.1,i64.wrap ((i64.wrap (a.2.2*6364136223846793005))+1442695040888963407))):Option (Int×Int×Int))) (fun b=>some (b.1,b.2.1,b.2.2))
def a8 (a:(List Int)×Int×Int) (b:Int):Option (Int×Int×Int):=
 if decide (b<=0) then (some (0,a.2.1,a.2.2)) else (if decide (b<=256) then ((jK (a.1,a.2.1,a.2.2)).bind fun c=>(chk (b≠0)).bind fun _=>some (Int.tmod c.1 b,c.2.1,c.2.2)) else ((jK (a.1,a.2.1,a.2.2)).bind fun d=>(jK (a.1,d.2.1,d.2.2)).bind fun e=>(jK (a.1,e.2.1,e.2.2)).bind fun f=>(jK (a.1,f.2.1,f.2.2)).bind fun g=>(chk (b≠0)).bind fun _=>some (Int.tmod (i64.wrap ((i64.wrap ((i64.wrap ((i64.wrap (d.1*16777216))+(i64.wrap (e.1*65536))))+(i64.wrap (f.1*256))))+g.1)) b,g.2.1,g.2.2)))
def jL (a:(List Int)×Int×Int) (c:Int):Option (Bool×Int×Int):=
 (a8 (a.1,a.2.1,a.2.2) c).bind fun b=>some (b.1==0,b.2.1,b.2.2)
def D8 (b:ByteArray) (d:Int) (a:(List ByteArray)×Int×Int):Option (Out (List ByteArray) ((List ByteArray)×Int×Int)):=
 if decide (a.2.2<((b.size:Nat):Int)) then (Option.bind (((FH b a.2.2).bind fun e=>if e==d then ((Ut b a.2.1 a.2.2).bind fun f=>(cP 16 a.1 ([f])).bind fun g=>some (g,i64.wrap (a.2.2+1))) else (some (a.1,a.2.1)):Option ((List ByteArray)×Int))) (fun c=>some (.nxt (c.1,c.2,i64.wrap (a.2.2+1))))) else (some (.brk (a.1,a.2.1,a.2.2)))
def D9 (a:ByteArray) (c:Int):Option (List ByteArray):=
 aO (ax (D8 a c) aR (([] :List ByteArray),0,0)) (fun d=>some d) (fun b=>(Ut a b.2.1 ((a.size:Nat):Int)).bind fun e=>(cP 16 b.1 ([e])).bind fun f=>some f)
def lI (a:Int):Option ByteArray:=
 (jG a).bind fun b=>if b then ((aK ([(⟨#[97]⟩:ByteArray),(⟨#[97,45]⟩:ByteArray),(⟨#[98]⟩:ByteArray),(⟨#[98,45]⟩:ByteArray),(⟨#[99]⟩:ByteArray),(⟨#[99,45]⟩:ByteArray),(⟨#[48]⟩:ByteArray),(⟨#[49]⟩:ByteArray),(⟨#[50]⟩:ByteArray)]) a).bind fun c=>some c) else (some (⟨#[]⟩:ByteArray))
def wY (a:Int×ByteArray):Option (Out ByteArray (Int×ByteArray)):=
 if a.1 !=0 then (Option.bind ((if decide ((Int.tmod a.1 10)<0) then (some (i64.wrap (-(Int.tmod a.1 10)))) else (some (Int.tmod a.1 10)):Option Int)) (fun b=>(Us (yj ([IntKind.u8.wrap (i64.wrap (48+b))])) a.2).bind fun c=>some (.nxt (RH a.1 10,c)))) else (some (.brk (a.1,a.2)))
def pF (a:Int):Option ByteArray:=
 if a==0 then (some (⟨#[48]⟩)) else (aO (ax (wY) aR (a,(⟨#[]⟩:ByteArray))) (fun c=>some c) (fun b=>if decide (a<0) then ((Us (⟨#[45]⟩) b.2).bind fun d=>some d) else (some b.2)))
def yB (a:Int×Int×Int×Int):Option ByteArray:=
 if a.1==1 then (some (⟨#[33]⟩)) else (if a.1==2 then (some (⟨#[40,41]⟩)) else (if a.1==3 then ((lI a.2.1).bind fun b=>some b) else (if a.1==4 then (some (⟨#[46]⟩)) else (if a.1==5 then (some (⟨#[124]⟩)) else (if a.1==6 then (some (⟨#[42]⟩)) else ((pF a.2.2.1).bind fun c=>(Us (⟨#[123]⟩) c).bind fun d=>(Us d (⟨#[44]⟩)).bind fun e=>(pF a.2.2.2).bind fun f=>(Us e f).bind fun g=>(Us g (⟨#[125]⟩)).bind fun h=>some h))))))
def uB (b:ByteArray) (a:Int):Option (Out (Int×Bool) Int):=
 if decide (a<9) then ((lI a).bind fun c=>if c==b then (some (.ret (a,true))) else (some (.nxt (i64.wrap (a+1))))) else (some (.brk a))
def qQ (a:ByteArray):Option (Int×Bool):=
 aO (ax (uB a) aR 0) (fun r=>some r) (fun b=>some (0,false))
def Ck (b:ByteArray) (a:Int):Option (Out Yq1 Int):=
 if decide (a<=6) then (if a !=3 then ((yB (a,0,0,0)).bind fun c=>if c==b then (some (.ret (a,0,0,0))) else (some (.nxt (i64.wrap (a+1))))) else (some (.nxt (i64.wrap (a+1))))) else (some (.brk a))
def AI (a:ByteArray):Option Yq1:=
 aO (ax (Ck a) aR 1) (fun c=>some c) (fun i=>(qQ a).bind fun b=>if b.2 then (some (3,b.1,0,0)) else (if ((a.size:Nat):Int)==5 then ((FH a 0).bind fun d=>if d==123 then ((FH a 2).bind fun e=>if e==44 then ((FH a 4).bind fun f=>if f==125 then ((FH a 1).bind fun g=>(FH a 3).bind fun h=>some (7,0,i64.wrap ((i64.wrap g) - 48),i64.wrap ((i64.wrap h) - 48))) else (some (0,0,0,0))) else (some (0,0,0,0))) else (some (0,0,0,0))) else (some (0,0,0,0))))
def wZ (c:List ByteArray) (a:Int×(List Yq1)):Option (Out (((List Yq1))×Bool) (Int×(List Yq1))):=
 if decide (a.1<(c.length:Int)) then (if decide (a.1<=24) then ((aK c a.1).bind fun d=>(AI d).bind fun b=>(cP 32 a.2 ([(b.1,b.2.1,b.2.2.1,b.2.2.2)])).bind fun e=>some (.nxt (i64.wrap (a.1+1),e))) else (some (.brk (a.1,a.2)))) else (some (.brk (a.1,a.2)))
def iK (b:ByteArray):Option (((List Yq1))×Bool):=
 (D9 b 32).bind fun c=>aO (ax (wZ c) aR (0,[])) (fun r=>some r) (fun a=>(bK a.2).bind fun d=>if d then (some (a.2,true)) else (some ([],false)))
def rX (a:(List Int)×Int×Int) (c:List ByteArray):Option (ByteArray×Int×Int):=
 (a8 (a.1,a.2.1,a.2.2) (c.length:Int)).bind fun b=>(aK c b.1).bind fun d=>some (d,b.2.1,b.2.2)
def kH (a:(List Int)×Int×Int):Option ((List Yq1)×Int×Int):=
 (rX (a.1,a.2.1,a.2.2) ([⟨#[97]⟩,⟨#[97,32,98,32,46]⟩,⟨#[97,32,42]⟩,⟨#[97,32,98,32,124,32,42]⟩,⟨#[97,32,97,45,32,46]⟩,⟨#[97,32,42,32,98,32,46]⟩,⟨#[97,32,98,32,42,32,46,32,99,32,46]⟩,⟨#[97,32,97,32,124,32,42]⟩,⟨#[97,32,98,32,46,32,42]⟩,⟨#[48,32,97,32,46,32,42]⟩,⟨#[97,32,49,32,46,32,98,32,46]⟩,⟨#[97,32,123,48,44,50,125]⟩,⟨#[97,32,98,32,124,32,123,49,44,51,125]⟩,⟨#[40,41]⟩,⟨#[33]⟩,⟨#[97,45,32,42,32,97,32,46]⟩,⟨#[97,32,98,45,32,46,32,42,32,99,32,124]⟩,⟨#[97,32,42,32,97,32,42,32,46]⟩,⟨#[97,32,48,32,124,32,42,32,98,32,46]⟩,⟨#[97,32,97,32,46,32,42]⟩,⟨#[97,32,98,32,46,32,98,32,97,32,46,32,124,32,42]⟩])).bind fun b=>(iK b.1).bind fun c=>some (c.1,b.2.1,b.2.2)
def cN (a:(List Int)×Int×Int) (c:List Int):Option (Int×Int×Int):=
 (a8 (a.1,a.2.1,a.2.2) (c.length:Int)).bind fun b=>(aK c b.1).bind fun d=>some (d,b.2.1,b.2.2)
def sG (a:Int):Option (List Yq1):=
 some ([(3,a,0,0)])
def dL:Nat->((List Int)×Int×Int)->Int->Option ((List Yq1)×Int×Int)
 | 0,_,_=>none
 | n+1,p0,p1 =>
  if p1==0 then ((jL (p0.1,p0.2.1,p0.2.2) 12).bind fun b=>if b.1 then ((cN (p0.1,b.2.1,b.2.2) ([1,2])).bind fun d=>(oH d.1).bind fun m=>some (m,d.2.1,d.2.2)) else ((cN (p0.1,b.2.1,b.2.2) ([0,0,2,2,1,4,3,6,7])).bind fun e=>(sG e.1).bind fun o=>some (o,e.2.1,e.2.2))) else ((a8 (p0.1,p0.2.1,p0.2.2) 6).bind fun a=>Option.bind ((if a.1==0 then (some (a.1==0)) else (some (a.1==1)):Option Bool)) (fun p=>if p then (((dL n) (p0.1,a.2.1,a.2.2) (i64.wrap (p1 - 1))).bind fun f=>((dL n) (p0.1,f.2.1,f.2.2) (i64.wrap (p1 - 1))).bind fun g=>(dI f.1 g.1 (4,0,0,0)).bind fun q=>some (q,g.2.1,g.2.2)) else (Option.bind ((if a.1==2 then (some (a.1==2)) else (some (a.1==3)):Option Bool)) (fun r=>if r then (((dL n) (p0.1,a.2.1,a.2.2) (i64.wrap (p1 - 1))).bind fun h=>((dL n) (p0.1,h.2.1,h.2.2) (i64.wrap (p1 - 1))).bind fun i=>(dI h.1 i.1 (5,0,0,0)).bind fun s=>some (s,i.2.1,i.2.2)) else (if a.1==4 then (((dL n) (p0.1,a.2.1,a.2.2) (i64.wrap (p1 - 1))).bind fun j=>(dI j.1 ([] :List Yq1) (6,0,0,0)).bind fun t=>some (t,j.2.1,j.2.2)) else ((a8 (p0.1,a.2.1,a.2.2) 3).bind fun c=>((dL n) (p0.1,c.2.1,c.2.2) (i64.wrap (p1 - 1))).bind fun k=>(a8 (p0.1,k.2.1,k.2.2) (i64.wrap ((i64.wrap (1+c.1))+1))).bind fun l=>(dI k.1 ([] :List Yq1) (7,0,l.1,i64.wrap (1+c.1))).bind fun u=>some (u,l.2.1,l.2.2)))))))
def oM (a:(List Int)×Int×Int):Option ((List Yq1)×Int×Int):=
 (jL (a.1,a.2.1,a.2.2) 2).bind fun b=>if b.1 then ((kH (a.1,b.2.1,b.2.2)).bind fun c=>some (c.1,c.2.1,c.2.2)) else ((a8 (a.1,b.2.1,b.2.2) 3).bind fun d=>(dL bP (a.1,d.2.1,d.2.2) (i64.wrap (1+d.1))).bind fun e=>some (e.1,e.2.1,e.2.2))
def nJ (a:List Yq1):Option (Out ((List Yq1)×Int×Int) (List Yq1)):=
 if decide ((a.length:Int)>0) then (if decide ((a.length:Int)<24) then ((cP 32 a ([(6,0,0,0)])).bind fun b=>some (.nxt b)) else (some (.brk a))) else (some (.brk a))
def mX (b:(List Int)×Int×Int):Option ((List Yq1)×Int×Int):=
 (oM (b.1,b.2.1,b.2.2)).bind fun c=>(a8 (b.1,c.2.1,c.2.2) 14).bind fun a=>Option.bind ((if a.1==0 then ((chk (And ((0:Int)<=1) (1<=(c.1.length:Int)))).bind fun _=>some (a.2.1,a.2.2,c.1.drop 1)) else (if a.1==1 then ((a8 (b.1,a.2.1,a.2.2) 9).bind fun e=>(a8 (b.1,e.2.1,e.2.2) 10).bind fun f=>(a8 (b.1,f.2.1,f.2.2) 3).bind fun g=>(a8 (b.1,g.2.1,g.2.2) 5).bind fun h=>(aK c.1 0).bind fun l=>some (h.2.1,h.2.2,c.1.set 0 (e.1,f.1,g.1,h.1))) else (if a.1==2 then (aO (ax (nJ) aR c.1) (fun m=>none) (fun j=>(jL (b.1,a.2.1,a.2.2) 2).bind fun d=>if d.1 then ((cP 32 j ([(6,0,0,0)])).bind fun k=>some (d.2.1,d.2.2,k)) else (some (d.2.1,d.2.2,j)))) else (some (a.2.1,a.2.2,c.1)))):Option (Int×Int×List Yq1))) (fun i=>some (i.2.2,i.1,i.2.1))
def uC (a:(List Yq1)) (b:Int):Option Bool:=
 if (a.length:Int)==1 then ((aK a 0).bind fun c=>some (c.1==b)) else (some false)
def iL (d:(List Yq1)) (e:(List Yq1)) (a:Int):Option (Out Bool Int):=
 if decide (a<(d.length:Int)) then ((aK d a).bind fun b=>(aK e a).bind fun c=>if (b.1==c.1)&&((b.2.1==c.2.1)&&((b.2.2.1==c.2.2.1)&&((b.2.2.2==c.2.2.2)&&true))) then (some (.nxt (i64.wrap (a+1)))) else (some (.ret false))) else (some (.brk a))
def ou (a:(List Yq1)) (b:(List Yq1)):Option Bool:=
 if (a.length:Int) !=(b.length:Int) then (some false) else (aO (ax (iL a b) aR 0) (fun r=>some r) (fun c=>some true))
def mq (b:(List Yq1)) (a:(List Yq1)):Option (List Yq1):=
 (uC b 1).bind fun c=>if c then ((gF a).bind fun d=>some d) else ((ou b a).bind fun e=>if e then ((gF a).bind fun f=>some f) else ((uC a 1).bind fun g=>if g then ((gF b).bind fun h=>some h) else ((dI b a (5,0,0,0)).bind fun i=>some i)))
def vN (a:(List Int)×Int×Int):Option ((List Yq1)×(List Yq1)×Int×Int):=
 (oM (a.1,a.2.1,a.2.2)).bind fun b=>(jL (a.1,b.2.1,b.2.2) 4).bind fun c=>if c.1 then ((kH (a.1,c.2.1,c.2.2)).bind fun e=>(mq b.1 e.1).bind fun i=>some (b.1,i,e.2.1,e.2.2)) else ((jL (a.1,c.2.1,c.2.2) 14).bind fun d=>Option.bind ((if d.1 then ((mX (a.1,d.2.1,d.2.2)).bind fun f=>some (f.2.1,f.2.2,f.1)) else (some (d.2.1,d.2.2,b.1)):Option (Int×Int×List Yq1))) (fun g=>(kH (a.1,g.1,g.2.1)).bind fun h=>some (g.2.2,h.1,h.2.1,h.2.2)))
def fv (b:List Int):Option ((List Yq1)×(List Yq1)×Int):=
 (qP b).bind fun c=>(vN (b,c.1,c.2)).bind fun a=>(cN (b,a.2.2.1,a.2.2.2) ([0,1,2,2,3,4,(-1)])).bind fun d=>some (a.1,a.2.1,d.1)
def iq (b:List Int) (c:List Int) (a:Int):Option (Out Bool Int):=
 if decide (a<(b.length:Int)) then ((aK b a).bind fun d=>(aK c a).bind fun e=>if d !=e then (some (.ret false)) else (some (.nxt (i64.wrap (a+1))))) else (some (.brk a))
def nK (a:List Int) (b:List Int):Option Bool:=
 if (a.length:Int) !=(b.length:Int) then (some false) else (aO (ax (iq a b) aR 0) (fun r=>some r) (fun c=>some true))
def jn (c:(List Int)×Int×Int) (a:Int×Int×Int×(List Int)×List Yq1):Option (Out (((List Int)×List Yq1)×Int×Int) (Int×Int×Int×(List Int)×List Yq1)):=
 if decide (a.1>0) then ((a8 (c.1,a.2.1,a.2.2.1) 3).bind fun b=>(cP 8 a.2.2.2.1 ([b.1])).bind fun d=>some (.nxt (i64.wrap (a.1 - 1),b.2.1,b.2.2,d,a.2.2.2.2))) else (some (.brk (a.1,a.2.1,a.2.2.1,a.2.2.2.1,a.2.2.2.2)))
def kU (b:(List Int)×Int×Int) (a:Int×Int×Int×Int×(List Int)×List Yq1):Option (Out (((List Int)×List Yq1)×Int×Int) (Int×Int×Int×Int×(List Int)×List Yq1)):=
 if decide (a.2.1>0) then ((a8 (b.1,a.2.2.1,a.2.2.2.1) 3).bind fun c=>(a8 (b.1,c.2.1,c.2.2) (a.2.2.2.2.1.length:Int)).bind fun d=>(a8 (b.1,d.2.1,d.2.2) (a.2.2.2.2.1.length:Int)).bind fun e=>(cN (b.1,e.2.1,e.2.2) ([0,0,1,2])).bind fun f=>(cP 32 a.2.2.2.2.2 ([(i64.wrap ((i64.wrap (a.1+1))+c.1),d.1,e.1,f.1)])).bind fun g=>some (.nxt (i64.wrap ((i64.wrap (a.1+1))+c.1),i64.wrap (a.2.1 - 1),f.2.1,f.2.2,a.2.2.2.2.1,g))) else (some (.brk (a.1,a.2.1,a.2.2.1,a.2.2.2.1,a.2.2.2.2.1,a.2.2.2.2.2)))
def pG (a:(List Int)×Int×Int):Option (((List Int)×List Yq1)×Int×Int):=
 (cN (a.1,a.2.1,a.2.2) ([2,3,4,4,5])).bind fun d=>aO (ax (jn a) aR (d.1,d.2.1,d.2.2,([] :List Int),([] :List Yq1))) (fun g=>some g) (fun b=>(cN (a.1,b.2.1,b.2.2.1) ([4,8,11])).bind fun e=>(a8 (a.1,e.2.1,e.2.2) e.1).bind fun f=>aO (ax (kU a) aR (0,f.1,f.2.1,f.2.2,b.2.2.2.1,b.2.2.2.2)) (fun h=>some h) (fun c=>some ((c.2.2.2.2.1,c.2.2.2.2.2),c.2.2.1,c.2.2.2.1)))
def uD (c:(List Int)×Int×Int):Option (((List Int)×List Yq1)×Int×Int):=
 (pG (c.1,c.2.1,c.2.2)).bind fun b=>(a8 (c.1,b.2.1,b.2.2) 14).bind fun a=>Option.bind ((if a.1==0 then ((cN (c.1,a.2.1,a.2.2) ([(-1),3,2])).bind fun e=>(aK b.1.1 0).bind fun k=>some (e.2.1,e.2.2,b.1.1.set 0 e.1,b.1.2)) else (if a.1==1 then ((cN (c.1,a.2.1,a.2.2) ([0,1,99,100])).bind fun f=>(a8 (c.1,f.2.1,f.2.2) 6).bind fun g=>(a8 (c.1,g.2.1,g.2.2) 6).bind fun h=>(a8 (c.1,h.2.1,h.2.2) 4).bind fun i=>(cP 32 b.1.2 ([(f.1,g.1,h.1,i.1)])).bind fun j=>some (i.2.1,i.2.2,b.1.1,j)) else (if a.1==2 then (some (a.2.1,a.2.2,([] :List Int),b.1.2)) else (some (a.2.1,a.2.2,b.1.1,b.1.2)))):Option (Int×Int×(List Int)×List Yq1))) (fun d=>some ((d.2.2.1,d.2.2.2),d.1,d.2.1))
def fw (b:List Int):Option (((List Int)×List Yq1)×List Yq1):=
 (qP b).bind fun c=>(uD (b,c.1,c.2)).bind fun a=>(mX (b,a.2.1,a.2.2)).bind fun d=>some ((a.1.1,a.1.2),d.1)
def qR (b:List Int) (c:Int) (a:(List Int)×Int):Option U3:=
 if decide (a.2<(b.length:Int)) then (if decide (a.2<600) then ((aK b a.2).bind fun d=>(cP 1 a.1 ([IntKind.u8.wrap (i64.wrap ((i64.wrap ((i64.wrap d)*3))+(i64.wrap (c*(i64.wrap ((Int.tmod a.2 7)+1))))))])).bind fun e=>some (.nxt (e,i64.wrap (a.2+1)))) else (some (.brk (a.1,a.2)))) else (some (.brk (a.1,a.2)))
def uE (b:List Int) (a:Int):Option (List Int):=
 aO (ax (qR b a) aR ([IntKind.u8.wrap a],0)) (fun r=>some r) (fun c=>some c.1)
def cX (a:(List Int)×(List Yq1)) (b:(List Yq1)):Option (Yq2×Bool):=
 (bj (a.1,a.2)).bind fun c=>if c then ((bK b).bind fun d=>if d then ((bh bP (a.1,a.2) b).bind fun e=>some (e,true)) else (some (([] :List (Int×Int)),false))) else (some (([] :List (Int×Int)),false))
def fx (b:List (Int×Int)) (e:List (Int×Int)) (a:Yq2×Int):Option Yq7:=
 if decide (a.2<(b.length:Int)) then (Option.bind (((aK b a.2).bind fun c=>(oG e (c.1,c.2)).bind fun f=>if f then (some a.1) else ((aK b a.2).bind fun d=>(gD a.1 (d.1,d.2)).bind fun g=>some g):Option Yq2)) (fun h=>some (.nxt (h,i64.wrap (a.2+1))))) else (some (.brk (a.1,a.2)))
def iM (a:List (Int×Int)) (b:List (Int×Int)):Option Yq2:=
 aO (ax (fx a b) aR (([] :List (Int×Int)),0)) (fun r=>some r) (fun c=>some c.1)
def xr (a:List (Int×Int)) (b:List (Int×Int)):Option Bool:=
 (iM a b).bind fun c=>some ((c.length:Int)==0)
def cY (a:(List Int)×(List Yq1)) (f:(List Yq1)) (g:(List Yq1)) (b:Int) (c:Int):Option Bool:=
 (bm (a.1,a.2) f).bind fun d=>(bm (a.1,a.2) g).bind fun e=>if d.2 then (if e.2 then ((bd d.1 (b,c)).bind fun h=>if h then ((bd e.1 (b,c)).bind fun i=>some (!i)) else (some false)) else (some false)) else (some false)
def iN (i:List Int):Option Bool:=
 (F6 i).bind fun m=>if m then (some true) else ((fv i).bind fun a=>(eU a.1 a.2.1 a.2.2).bind fun c=>(bV a.1 a.2.1 a.2.2).bind fun b=>(bU a.1 a.2.1 a.2.2).bind fun j=>(eP a.1 a.2.1 a.2.2).bind fun n=>if c !=n then (some false) else (if b.2 !=j.2 then (some false) else ((nK b.1 j.1).bind fun o=>if o then ((uE i 5).bind fun p=>(fw p).bind fun d=>(cX (d.1.1,d.1.2) a.1).bind fun k=>(cX (d.1.1,d.1.2) a.2.1).bind fun l=>if c==1 then (if k.2 then (if l.2 then ((xr k.1 l.1).bind fun q=>if q then (if c !=2 then (if b.2 then (some (c==0)) else (some true)) else ((cE b.1).bind fun e=>if b.2 then (if e.2 then ((cY (e.1.1,e.1.2) a.1 a.2.1 0 (i64.wrap ((e.1.1.length:Int) - 1))).bind fun r=>if r then ((aV a.1 b.1).bind fun s=>if s then ((aV a.2.1 b.1).bind fun t=>some (cond.match_1 (fun (E:Bool)=>Bool) t (fun (F:Unit)=>false) (fun (G:Unit)=>true))) else (some false)) else (some false)) else (some false)) else (some false))) else (some false)) else (if c !=2 then (if b.2 then (some (c==0)) else (some true)) else ((cE b.1).bind fun f=>if b.2 then (if f.2 then ((cY (f.1.1,f.1.2) a.1 a.2.1 0 (i64.wrap ((f.1.1.length:Int) - 1))).bind fun u=>if u then ((aV a.1 b.1).bind fun v=>if v then ((aV a.2.1 b.1).bind fun w=>some (cond.match_1 (fun (H:Bool)=>Bool) w (fun (I:Unit)=>false) (fun (J:Unit)=>true))) else (some false)) else (some false)) else (some false)) else (some false)))) else (if c !=2 then (if b.2 then (some (c==0)) else (some true)) else ((cE b.1).bind fun g=>if b.2 then (if g.2 then ((cY (g.1.1,g.1.2) a.1 a.2.1 0 (i64.wrap ((g.1.1.length:Int) - 1))).bind fun x=>if x then ((aV a.1 b.1).bind fun y=>if y then ((aV a.2.1 b.1).bind fun z=>some (cond.match_1 (fun (K:Bool)=>Bool) z (fun (L:Unit)=>false) (fun (M:Unit)=>true))) else (some false)) else (some false)) else (some false)) else (some false)))) else (if c !=2 then (if b.2 then (some (c==0)) else (some true)) else ((cE b.1).bind fun h=>if b.2 then (if h.2 then ((cY (h.1.1,h.1.2) a.1 a.2.1 0 (i64.wrap ((h.1.1.length:Int) - 1))).bind fun A=>if A then ((aV a.1 b.1).bind fun B=>if B then ((aV a.2.1 b.1).bind fun C=>some (cond.match_1 (fun (N:Bool)=>Bool) C (fun (O:Unit)=>false) (fun (P:Unit)=>true))) else (some false)) else (some false)) else (some false)) else (some false)))) else (some false))))
end D
namespace R
open Go.RowKit
open D
abbrev y3:Ty:=.int .i64
abbrev y94:Ty:=.prod y3 (.prod y3 (.prod y3 y3))
abbrev t104:Ty:=.tree 157 104 y94
abbrev y5:Ty:=.int .u8
abbrev y33:Ty:=.sl 5 y5
abbrev aap:Ty:=.prod y33 (.prod y3 y3)
abbrev Zm:Ty:=.fro t104
abbrev y4:Ty:=.bool
abbrev Z2:Ty:=.prod y4 (.prod y3 y3)
abbrev Z3:Ty:=.prod y3 (.prod y3 y4)
abbrev QN:Ty:=.prod y3 y3
abbrev y9:Ty:=.str
abbrev Zn:Ty:=.sl 9 y9
abbrev YO:Ty:=.sl 104 Zm
abbrev aaq:Ty:=.prod y94 YO
abbrev y58:Ty:=.sl 4 y4
abbrev vO:Ty:=.sl 58 y58
abbrev aar:Ty:=.sl 159 vO
abbrev Xi:Ty:=.int .u64
abbrev Wa:Ty:=.prod y3 (.prod y3 (.prod y4 (.prod y3 y3)))
abbrev Zo:Ty:=.sl 175 Wa
abbrev y37:Ty:=.sl 3 y3
abbrev U4:Ty:=.prod QN y37
abbrev aas:Ty:=.sl 191 U4
abbrev Z4:Ty:=.prod y3 y4
abbrev Z5:Ty:=.prod Z4 (.prod y3 y3)
abbrev Zp:Ty:=.sl 202 Z5
abbrev Z6:Ty:=.sl 198 Zp
abbrev Xj:Ty:=.int .u32
abbrev Xk:Ty:=.int .u64
abbrev y27:Ty:=.sl 94 y94
abbrev y29:Ty:=.wr y27
abbrev y81:Ty:=.prod y3 (.prod y3 (.prod y3 y3))
abbrev y41:Ty:=.sl 81 y81
abbrev y43:Ty:=.prod y37 y41
abbrev y84:Ty:=.prod y3 y3
abbrev y47:Ty:=.sl 84 y84
abbrev y59:Ty:=.sl 37 y37
abbrev y61:Ty:=.prod y3 (.prod y58 y59)
abbrev y86:Ty:=.prod y37 (.prod y3 (.prod y3 (.prod y37 y4)))
theorem ti3:TI Tryz.prog 3 false 1:=⟨⟨_,Tryz.underlying3,rfl⟩,by kernel_rfl⟩
theorem Zq (a0:Int) (a1:Int) (b0:Int) (b1:Int) (w:World):EqT Tryz.prog 84 (.agg #[.int .i64 a0,.int .i64 a1]) (.agg #[.int .i64 b0,.int .i64 b1]) ((a0==b0)&&((a1==b1)&&true)) w:=RL w Tryz.underlying84 (by kernel_rfl) (by kernel_rfl) (rK rfl (pT ti3 rfl) (pT ti3 rfl) (run_equalIn_int w 9998 3 _ _ _ _ Tryz.underlying3) (rK rfl (pT ti3 rfl) (pT ti3 rfl) (run_equalIn_int w 9998 3 _ _ _ _ Tryz.underlying3) (Kv w)))
theorem Zr (a0:Int) (a1:Int) (a2:Int) (a3:Int) (b0:Int) (b1:Int) (b2:Int) (b3:Int) (w:World):EqT Tryz.prog 94 (.agg #[.int .i64 a0,.int .i64 a1,.int .i64 a2,.int .i64 a3]) (.agg #[.int .i64 b0,.int .i64 b1,.int .i64 b2,.int .i64 b3]) ((a0==b0)&&((a1==b1)&&((a2==b2)&&((a3==b3)&&true)))) w:=RL w Tryz.underlying94 (by kernel_rfl) (by kernel_rfl) (rK rfl (pT ti3 rfl) (pT ti3 rfl) (run_equalIn_int w 9998 3 _ _ _ _ Tryz.underlying3) (rK rfl (pT ti3 rfl) (pT ti3 rfl) (run_equalIn_int w 9998 3 _ _ _ _ Tryz.underlying3) (rK rfl (pT ti3 rfl) (pT ti3 rfl) (run_equalIn_int w 9998 3 _ _ _ _ Tryz.underlying3) (rK rfl (pT ti3 rfl) (pT ti3 rfl) (run_equalIn_int w 9998 3 _ _ _ _ Tryz.underlying3) (Kv w)))))
theorem laidOut:laidOutB Tryz.prog=true:=by kernel_rfl
theorem Xl:KII Tryz.prog 141:=⟨_,_,Tryz.underlying141,by decide,rfl,rfl,Tryz.underlying3,Tryz.underlying3,by kernel_rfl,by kernel_rfl,by kernel_rfl,by kernel_rfl,Tryz.prog.types.size - 1,by kernel_rfl⟩
theorem mz3 (w:World):(zeroValue 3).run Tryz.prog w= .ok (.int .i64 0) w:=by kernel_rfl
theorem mz4 (w:World):(zeroValue 4).run Tryz.prog w= .ok (.bool false) w:=by kernel_rfl
theorem Zs:KeyOk Tryz.prog 141 (fun x:Int×Int=>Value.agg #[.int .i64 x.1,.int .i64 x.2]) Tz Ff:=YS Xl (Go.deep_law_laid laidOut (m:=2) (by omega) (of_decide_eq_true (by kernel_rfl)) (by kernel_rfl) (by rw[Tryz.underlying141]))
theorem kk3:KeyOk Tryz.prog 3 (fun n:Int=>Value.int .i64 n) Tw iOk:=Wr Tryz.underlying3
theorem ek3:EltOk Tryz.prog 3 (fun n:Int=>Value.int .i64 n) Tw iOk 0:=Ws Tryz.underlying3 mz3
theorem ek4:EltOk Tryz.prog 4 (fun n:Bool=>Value.bool n) Yu bOk false:=Tx Tryz.underlying4 mz4
def tt:TT:=[(3,⟨false,1,none,y3,[],some 8,none,false,none,none,some (some .i64),false,none⟩),
 (4,⟨false,1,none,y4,[],some 1,none,true,none,none,none,false,none⟩),
 (5,⟨false,1,none,y5,[],some 1,none,false,none,none,some (some .u8),false,none⟩),
 (9,⟨false,1,none,y9,[],some 16,none,false,none,none,some none,false,none⟩),
 (27,⟨false,1,some 94,y27,[],some 24,none,false,none,none,none,false,none⟩),
 (29,⟨true,1,none,y29,[(0,0)],some 24,some [(0,1)],false,none,none,none,false,none⟩),
 (33,⟨false,1,some 5,y33,[],some 24,none,false,none,none,none,false,none⟩),
 (37,⟨false,1,some 3,y37,[],some 24,none,false,none,none,none,false,none⟩),
 (41,⟨false,1,some 81,y41,[],some 24,none,false,none,none,none,false,none⟩),
 (43,⟨true,2,none,y43,[(0,0),(1,0)],some 48,some [(0,1),(1,1)],false,none,none,none,false,none⟩),
 (47,⟨false,1,some 84,y47,[],some 24,none,false,none,none,none,false,none⟩),
 (58,⟨false,1,some 4,y58,[],some 24,none,false,none,none,none,false,none⟩),
 (59,⟨false,1,some 37,y59,[],some 24,none,false,none,none,none,false,none⟩),
 (61,⟨true,3,none,y61,[(0,0),(1,0),(2,0)],some 56,some [(0,1),(1,1),(2,1)],false,none,none,none,false,none⟩),
 (78,⟨false,1,none,.bool,[],none,none,false,none,none,none,true,none⟩),
 (79,⟨false,1,none,.bool,[],none,none,false,none,none,none,true,none⟩),
 (81,⟨true,4,none,y81,[(0,0),(1,0),(2,0),(3,0)],some 32,some [(0,1),(1,1),(2,1),(3,1)],false,none,none,none,false,none⟩),
 (84,⟨true,2,none,y84,[(0,0),(1,0)],some 16,some [(0,1),(1,1)],false,some [some .i64,some .i64],none,none,false,none⟩),
 (86,⟨true,5,none,y86,[(0,0),(1,0),(2,0),(3,0),(4,0)],some 72,some [(0,1),(1,1),(2,1),(3,1),(4,1)],false,none,none,none,false,none⟩),
 (94,⟨true,4,none,y94,[(0,0),(1,0),(2,0),(3,0)],some 32,some [(0,1),(1,1),(2,1),(3,1)],false,some [some .i64,some .i64,some .i64,some .i64],none,none,false,none⟩),
 (100,⟨true,3,none,aap,[(0,0),(1,0),(2,0)],some 40,some [(0,1),(1,1),(2,1)],false,none,none,none,false,none⟩),
 (104,⟨false,1,none,Zm,[],some 8,none,false,none,none,none,false,some 157⟩),
 (122,⟨true,3,none,Z2,[(0,0),(1,0),(2,0)],some 24,some [(0,1),(1,1),(2,1)],false,none,none,none,false,none⟩),
 (133,⟨true,3,none,Z3,[(0,0),(1,0),(2,0)],some 24,some [(0,1),(1,1),(2,1)],false,none,none,none,false,none⟩),
 (137,⟨false,1,none,.bool,[],none,none,false,none,none,none,true,none⟩),
 (141,⟨true,2,none,QN,[(0,0),(1,0)],some 16,some [(0,1),(1,1)],false,none,none,none,false,none⟩),
 (142,⟨false,1,none,.bool,[],none,none,false,none,none,none,true,none⟩),
 (144,⟨false,1,none,.bool,[],none,none,false,none,none,none,true,none⟩),
 (151,⟨false,1,some 9,Zn,[],some 24,none,false,none,none,none,false,none⟩),
 (153,⟨false,1,some 104,YO,[],some 24,none,false,none,none,none,false,none⟩),
 (157,⟨true,5,none,aaq,[(0,3),(4,0)],some 56,some [(0,4),(4,1)],false,none,none,none,false,none⟩),
 (159,⟨false,1,some 58,vO,[],some 24,none,false,none,none,none,false,none⟩),
 (162,⟨false,1,some 159,aar,[],some 24,none,false,none,none,none,false,none⟩),
 (171,⟨false,1,none,Xi,[],some 8,none,false,none,none,some (some .u64),false,none⟩),
 (175,⟨true,5,none,Wa,[(0,0),(1,0),(2,0),(3,0),(4,0)],some 40,some [(0,1),(1,1),(2,1),(3,1),(4,1)],false,none,none,none,false,none⟩),
 (176,⟨false,1,some 175,Zo,[],some 24,none,false,none,none,none,false,none⟩),
 (185,⟨false,1,none,.bool,[],none,none,false,none,some ⟨3,3,.int,.int⟩,none,false,none⟩),
 (188,⟨false,1,none,.bool,[],none,none,false,none,none,none,true,none⟩),
 (189,⟨false,1,none,.bool,[],none,none,false,none,some ⟨141,4,.ii,.bool⟩,none,false,none⟩),
 (191,⟨true,3,none,U4,[(0,1),(2,0)],some 40,some [(0,2),(2,1)],false,none,none,none,false,none⟩),
 (192,⟨false,1,some 191,aas,[],some 24,none,false,none,none,none,false,none⟩),
 (196,⟨false,1,some 198,Z6,[],some 24,none,false,none,none,none,false,none⟩),
 (198,⟨false,1,some 202,Zp,[],some 24,none,false,none,none,none,false,none⟩),
 (200,⟨true,2,none,Z4,[(0,0),(1,0)],some 16,some [(0,1),(1,1)],false,none,none,none,false,none⟩),
 (202,⟨true,4,none,Z5,[(0,1),(2,0),(3,0)],some 32,some [(0,2),(2,1),(3,1)],false,none,none,none,false,none⟩),
 (216,⟨false,1,none,.bool,[],none,none,false,none,none,none,true,none⟩),
 (225,⟨false,1,none,Xj,[],some 4,none,false,none,none,some (some .u32),false,none⟩),
 (228,⟨false,1,none,Xk,[],some 8,none,false,none,none,some (some .u64),false,none⟩)]
theorem QO:TTok Tryz.prog tt:=⟨tn (n:=1) (z:=.int .i64 0) ⟨⟨_,Tryz.underlying3,rfl⟩,by kernel_rfl⟩ rfl (by unfold TZ;kernel_rfl) rfl (bI rfl) (fun h=>by cases h) (fun k h=>by obtain rfl:=ae h;exact Tryz.underlying3),
 tn (n:=1) (z:=.bool false) ⟨⟨_,Tryz.underlying4,rfl⟩,by kernel_rfl⟩ rfl (by unfold TZ;kernel_rfl) rfl (bI rfl) (fun h=>Tryz.underlying4) (fun k h=>by cases h),
 tn (n:=1) (z:=.int .u8 0) ⟨⟨_,Tryz.underlying5,rfl⟩,by kernel_rfl⟩ rfl (by unfold TZ;kernel_rfl) rfl (bI rfl) (fun h=>by cases h) (fun k h=>by obtain rfl:=ae h;exact Tryz.underlying5),
 tn (n:=1) (z:=.string ⟨#[]⟩) ⟨⟨_,Tryz.underlying9,rfl⟩,by kernel_rfl⟩ rfl (by unfold TZ;kernel_rfl) rfl (bI rfl) (fun h=>by cases h) (fun k h=>by obtain rfl:=ae h;exact Tryz.underlying9),
 tp ⟨⟨_,Tryz.underlying27,rfl⟩,by kernel_rfl⟩ Tryz.underlying27 (by unfold TZ;kernel_rfl),
 ss (z:=.agg #[.slice none 0 0]) ⟨⟨_,Tryz.underlying29,rfl⟩,by kernel_rfl⟩ rfl ⟨⟨_,_,Tryz.underlying29,rfl,rfl,by kernel_rfl⟩,trivial⟩ (by unfold TZ;kernel_rfl) rfl (bI rfl) ⟨_,Tryz.underlying29,by kernel_rfl⟩ (fun ks h=>by cases h),
 tp ⟨⟨_,Tryz.underlying33,rfl⟩,by kernel_rfl⟩ Tryz.underlying33 (by unfold TZ;kernel_rfl),
 tp ⟨⟨_,Tryz.underlying37,rfl⟩,by kernel_rfl⟩ Tryz.underlying37 (by unfold TZ;kernel_rfl),
 tp ⟨⟨_,Tryz.underlying41,rfl⟩,by kernel_rfl⟩ Tryz.underlying41 (by unfold TZ;kernel_rfl),
 ss (z:=.agg #[.slice none 0 0,.slice none 0 0]) ⟨⟨_,Tryz.underlying43,rfl⟩,by kernel_rfl⟩ rfl ⟨⟨_,_,Tryz.underlying43,rfl,rfl,by kernel_rfl⟩,⟨_,_,Tryz.underlying43,rfl,rfl,by kernel_rfl⟩,trivial⟩ (by unfold TZ;kernel_rfl) rfl (bI rfl) ⟨_,Tryz.underlying43,by kernel_rfl⟩ (fun ks h=>by cases h),
 tp ⟨⟨_,Tryz.underlying47,rfl⟩,by kernel_rfl⟩ Tryz.underlying47 (by unfold TZ;kernel_rfl),
 tp ⟨⟨_,Tryz.underlying58,rfl⟩,by kernel_rfl⟩ Tryz.underlying58 (by unfold TZ;kernel_rfl),
 tp ⟨⟨_,Tryz.underlying59,rfl⟩,by kernel_rfl⟩ Tryz.underlying59 (by unfold TZ;kernel_rfl),
 ss (z:=.agg #[.int .i64 0,.slice none 0 0,.slice none 0 0]) ⟨⟨_,Tryz.underlying61,rfl⟩,by kernel_rfl⟩ rfl ⟨⟨_,_,Tryz.underlying61,rfl,rfl,by kernel_rfl⟩,⟨_,_,Tryz.underlying61,rfl,rfl,by kernel_rfl⟩,⟨_,_,Tryz.underlying61,rfl,rfl,by kernel_rfl⟩,trivial⟩ (by unfold TZ;kernel_rfl) rfl (bI rfl) ⟨_,Tryz.underlying61,by kernel_rfl⟩ (fun ks h=>by cases h),
 F5 (ty:=.bool) (b:=8) ⟨⟨_,Tryz.underlying78,rfl⟩,by kernel_rfl⟩ rfl (by unfold TZ;kernel_rfl),
 F5 (ty:=.bool) (b:=8) ⟨⟨_,Tryz.underlying79,rfl⟩,by kernel_rfl⟩ rfl (by unfold TZ;kernel_rfl),
 ss (z:=.agg #[.int .i64 0,.int .i64 0,.int .i64 0,.int .i64 0]) ⟨⟨_,Tryz.underlying81,rfl⟩,by kernel_rfl⟩ rfl ⟨⟨_,_,Tryz.underlying81,rfl,rfl,by kernel_rfl⟩,⟨_,_,Tryz.underlying81,rfl,rfl,by kernel_rfl⟩,⟨_,_,Tryz.underlying81,rfl,rfl,by kernel_rfl⟩,⟨_,_,Tryz.underlying81,rfl,rfl,by kernel_rfl⟩,trivial⟩ (by unfold TZ;kernel_rfl) rfl (bI rfl) ⟨_,Tryz.underlying81,by kernel_rfl⟩ (fun ks h=>by cases h),
 ss (z:=.agg #[.int .i64 0,.int .i64 0]) ⟨⟨_,Tryz.underlying84,rfl⟩,by kernel_rfl⟩ rfl ⟨⟨_,_,Tryz.underlying84,rfl,rfl,by kernel_rfl⟩,⟨_,_,Tryz.underlying84,rfl,rfl,by kernel_rfl⟩,trivial⟩ (by unfold TZ;kernel_rfl) rfl (bI rfl) ⟨_,Tryz.underlying84,by kernel_rfl⟩ (fun ks h=>by obtain rfl:=ae h;exact fun w a0 b0 a1 b1=>Zq a0 a1 b0 b1 w),
 ss (z:=.agg #[.slice none 0 0,.int .i64 0,.int .i64 0,.slice none 0 0,.bool false]) ⟨⟨_,Tryz.underlying86,rfl⟩,by kernel_rfl⟩ rfl ⟨⟨_,_,Tryz.underlying86,rfl,rfl,by kernel_rfl⟩,⟨_,_,Tryz.underlying86,rfl,rfl,by kernel_rfl⟩,⟨_,_,Tryz.underlying86,rfl,rfl,by kernel_rfl⟩,⟨_,_,Tryz.underlying86,rfl,rfl,by kernel_rfl⟩,⟨_,_,Tryz.underlying86,rfl,rfl,by kernel_rfl⟩,trivial⟩ (by unfold TZ;kernel_rfl) rfl (bI rfl) ⟨_,Tryz.underlying86,by kernel_rfl⟩ (fun ks h=>by cases h),
 ss (z:=.agg #[.int .i64 0,.int .i64 0,.int .i64 0,.int .i64 0]) ⟨⟨_,Tryz.underlying94,rfl⟩,by kernel_rfl⟩ rfl ⟨⟨_,_,Tryz.underlying94,rfl,rfl,by kernel_rfl⟩,⟨_,_,Tryz.underlying94,rfl,rfl,by kernel_rfl⟩,⟨_,_,Tryz.underlying94,rfl,rfl,by kernel_rfl⟩,⟨_,_,Tryz.underlying94,rfl,rfl,by kernel_rfl⟩,trivial⟩ (by unfold TZ;kernel_rfl) rfl (bI rfl) ⟨_,Tryz.underlying94,by kernel_rfl⟩ (fun ks h=>by obtain rfl:=ae h;exact fun w a0 b0 a1 b1 a2 b2 a3 b3=>Zr a0 a1 a2 a3 b0 b1 b2 b3 w),
 ss (z:=.agg #[.slice none 0 0,.int .i64 0,.int .i64 0]) ⟨⟨_,Tryz.underlying100,rfl⟩,by kernel_rfl⟩ rfl ⟨⟨_,_,Tryz.underlying100,rfl,rfl,by kernel_rfl⟩,⟨_,_,Tryz.underlying100,rfl,rfl,by kernel_rfl⟩,⟨_,_,Tryz.underlying100,rfl,rfl,by kernel_rfl⟩,trivial⟩ (by unfold TZ;kernel_rfl) rfl (bI rfl) ⟨_,Tryz.underlying100,by kernel_rfl⟩ (fun ks h=>by cases h),
 Zl (e:=157) (E:=104) (u:=y94) ⟨⟨_,Tryz.underlying104,rfl⟩,by kernel_rfl⟩ Tryz.underlying104 (by unfold TZ;kernel_rfl),
 ss (z:=.agg #[.bool false,.int .i64 0,.int .i64 0]) ⟨⟨_,Tryz.underlying122,rfl⟩,by kernel_rfl⟩ rfl ⟨⟨_,_,Tryz.underlying122,rfl,rfl,by kernel_rfl⟩,⟨_,_,Tryz.underlying122,rfl,rfl,by kernel_rfl⟩,⟨_,_,Tryz.underlying122,rfl,rfl,by kernel_rfl⟩,trivial⟩ (by unfold TZ;kernel_rfl) rfl (bI rfl) ⟨_,Tryz.underlying122,by kernel_rfl⟩ (fun ks h=>by cases h),
 ss (z:=.agg #[.int .i64 0,.int .i64 0,.bool false]) ⟨⟨_,Tryz.underlying133,rfl⟩,by kernel_rfl⟩ rfl ⟨⟨_,_,Tryz.underlying133,rfl,rfl,by kernel_rfl⟩,⟨_,_,Tryz.underlying133,rfl,rfl,by kernel_rfl⟩,⟨_,_,Tryz.underlying133,rfl,rfl,by kernel_rfl⟩,trivial⟩ (by unfold TZ;kernel_rfl) rfl (bI rfl) ⟨_,Tryz.underlying133,by kernel_rfl⟩ (fun ks h=>by cases h),
 F5 (ty:=.bool) (b:=8) ⟨⟨_,Tryz.underlying137,rfl⟩,by kernel_rfl⟩ rfl (by unfold TZ;kernel_rfl),
 ss (z:=.agg #[.int .i64 0,.int .i64 0]) ⟨⟨_,Tryz.underlying141,rfl⟩,by kernel_rfl⟩ rfl ⟨⟨_,_,Tryz.underlying141,rfl,rfl,by kernel_rfl⟩,⟨_,_,Tryz.underlying141,rfl,rfl,by kernel_rfl⟩,trivial⟩ (by unfold TZ;kernel_rfl) rfl (bI rfl) ⟨_,Tryz.underlying141,by kernel_rfl⟩ (fun ks h=>by cases h),
 F5 (ty:=.bool) (b:=8) ⟨⟨_,Tryz.underlying142,rfl⟩,by kernel_rfl⟩ rfl (by unfold TZ;kernel_rfl),
 F5 (ty:=.bool) (b:=8) ⟨⟨_,Tryz.underlying144,rfl⟩,by kernel_rfl⟩ rfl (by unfold TZ;kernel_rfl),
 tp ⟨⟨_,Tryz.underlying151,rfl⟩,by kernel_rfl⟩ Tryz.underlying151 (by unfold TZ;kernel_rfl),
 tp ⟨⟨_,Tryz.underlying153,rfl⟩,by kernel_rfl⟩ Tryz.underlying153 (by unfold TZ;kernel_rfl),
 ss (z:=.agg #[.int .i64 0,.int .i64 0,.int .i64 0,.int .i64 0,.slice none 0 0]) ⟨⟨_,Tryz.underlying157,rfl⟩,by kernel_rfl⟩ rfl ⟨⟨_,_,Tryz.underlying157,rfl,rfl,by kernel_rfl⟩,⟨_,_,Tryz.underlying157,rfl,rfl,by kernel_rfl⟩,trivial⟩ (by unfold TZ;kernel_rfl) rfl (bI rfl) ⟨_,Tryz.underlying157,by kernel_rfl⟩ (fun ks h=>by cases h),
 tp ⟨⟨_,Tryz.underlying159,rfl⟩,by kernel_rfl⟩ Tryz.underlying159 (by unfold TZ;kernel_rfl),
 tp ⟨⟨_,Tryz.underlying162,rfl⟩,by kernel_rfl⟩ Tryz.underlying162 (by unfold TZ;kernel_rfl),
 tn (n:=1) (z:=.int .u64 0) ⟨⟨_,Tryz.underlying171,rfl⟩,by kernel_rfl⟩ rfl (by unfold TZ;kernel_rfl) rfl (bI rfl) (fun h=>by cases h) (fun k h=>by obtain rfl:=ae h;exact Tryz.underlying171),
 ss (z:=.agg #[.int .i64 0,.int .i64 0,.bool false,.int .i64 0,.int .i64 0]) ⟨⟨_,Tryz.underlying175,rfl⟩,by kernel_rfl⟩ rfl ⟨⟨_,_,Tryz.underlying175,rfl,rfl,by kernel_rfl⟩,⟨_,_,Tryz.underlying175,rfl,rfl,by kernel_rfl⟩,⟨_,_,Tryz.underlying175,rfl,rfl,by kernel_rfl⟩,⟨_,_,Tryz.underlying175,rfl,rfl,by kernel_rfl⟩,⟨_,_,Tryz.underlying175,rfl,rfl,by kernel_rfl⟩,trivial⟩ (by unfold TZ;kernel_rfl) rfl (bI rfl) ⟨_,Tryz.underlying175,by kernel_rfl⟩ (fun ks h=>by cases h),
 tp ⟨⟨_,Tryz.underlying176,rfl⟩,by kernel_rfl⟩ Tryz.underlying176 (by unfold TZ;kernel_rfl),
 Xh (m:=⟨3,3,.int,.int⟩) (ty:=.bool) ⟨⟨_,Tryz.underlying185,rfl⟩,by kernel_rfl⟩ rfl ⟨Tryz.underlying185,kk3,ek3⟩,
 F5 (ty:=.bool) (b:=8) ⟨⟨_,Tryz.underlying188,rfl⟩,by kernel_rfl⟩ rfl (by unfold TZ;kernel_rfl),
 Xh (m:=⟨141,4,.ii,.bool⟩) (ty:=.bool) ⟨⟨_,Tryz.underlying189,rfl⟩,by kernel_rfl⟩ rfl ⟨Tryz.underlying189,Zs,ek4⟩,
 ss (z:=.agg #[.int .i64 0,.int .i64 0,.slice none 0 0]) ⟨⟨_,Tryz.underlying191,rfl⟩,by kernel_rfl⟩ rfl ⟨⟨_,_,Tryz.underlying191,rfl,rfl,by kernel_rfl⟩,⟨_,_,Tryz.underlying191,rfl,rfl,by kernel_rfl⟩,trivial⟩ (by unfold TZ;kernel_rfl) rfl (bI rfl) ⟨_,Tryz.underlying191,by kernel_rfl⟩ (fun ks h=>by cases h),
 tp ⟨⟨_,Tryz.underlying192,rfl⟩,by kernel_rfl⟩ Tryz.underlying192 (by unfold TZ;kernel_rfl),
 tp ⟨⟨_,Tryz.underlying196,rfl⟩,by kernel_rfl⟩ Tryz.underlying196 (by unfold TZ;kernel_rfl),
 tp ⟨⟨_,Tryz.underlying198,rfl⟩,by kernel_rfl⟩ Tryz.underlying198 (by unfold TZ;kernel_rfl),
 ss (z:=.agg #[.int .i64 0,.bool false]) ⟨⟨_,Tryz.underlying200,rfl⟩,by kernel_rfl⟩ rfl ⟨⟨_,_,Tryz.underlying200,rfl,rfl,by kernel_rfl⟩,⟨_,_,Tryz.underlying200,rfl,rfl,by kernel_rfl⟩,trivial⟩ (by unfold TZ;kernel_rfl) rfl (bI rfl) ⟨_,Tryz.underlying200,by kernel_rfl⟩ (fun ks h=>by cases h),
 ss (z:=.agg #[.int .i64 0,.bool false,.int .i64 0,.int .i64 0]) ⟨⟨_,Tryz.underlying202,rfl⟩,by kernel_rfl⟩ rfl ⟨⟨_,_,Tryz.underlying202,rfl,rfl,by kernel_rfl⟩,⟨_,_,Tryz.underlying202,rfl,rfl,by kernel_rfl⟩,⟨_,_,Tryz.underlying202,rfl,rfl,by kernel_rfl⟩,trivial⟩ (by unfold TZ;kernel_rfl) rfl (bI rfl) ⟨_,Tryz.underlying202,by kernel_rfl⟩ (fun ks h=>by cases h),
 F5 (ty:=.bool) (b:=8) ⟨⟨_,Tryz.underlying216,rfl⟩,by kernel_rfl⟩ rfl (by unfold TZ;kernel_rfl),
 tn (n:=1) (z:=.int .u32 0) ⟨⟨_,Tryz.underlying225,rfl⟩,by kernel_rfl⟩ rfl (by unfold TZ;kernel_rfl) rfl (bI rfl) (fun h=>by cases h) (fun k h=>by obtain rfl:=ae h;exact Tryz.underlying225),
 tn (n:=1) (z:=.int .u64 0) ⟨⟨_,Tryz.underlying228,rfl⟩,by kernel_rfl⟩ rfl (by unfold TZ;kernel_rfl) rfl (bI rfl) (fun h=>by cases h) (fun k h=>by obtain rfl:=ae h;exact Tryz.underlying228),trivial⟩
theorem mixed:Tryz.prog.follows .mixedOrders=true:=by kernel_rfl
def Sv (fn:Func):Code:=match fn.body with
 | some c=>c
 | none=>.skip
theorem fk {k:FuncId} {fn:Func} {f:FS} (ft:FT) (hF:FTok Tryz.prog ft) (hf:Tryz.prog.funcs[k]? =some fn) (ann:Ann) (an:List (Nat×Ty):=[]) (tr:Trs:=[]) (hb:fn.body=some (Sv fn):=by rfl) (he:(fn.name == "runtime.NumGoroutine")=false:=by kernel_rfl) (hcl:f.cl=none:=by rfl) (hm:Nat.ble f.ps.length fn.ntmps=true:=by rfl) (hdp:(Dv f.rs&&vz f.ps)=true:=by rfl)
  (hmod: ∀d,appP f.ps f.m d=km ⟨tt,ft,an,fn.ntmps,tr⟩ (MR ⟨tt,ft,an,fn.ntmps,tr⟩ fn.results.toList f.rs f.ps d) (Sv fn) ann (fun r=>some r) (fun _ _=>none) (MR ⟨tt,ft,an,fn.ntmps,tr⟩ fn.results.toList f.rs f.ps d) (ql (yy f.ps d)):=by intro d;kernel_rfl):FOk Tryz.prog k f:=
 fok (V:=⟨tt,ft,an,fn.ntmps,tr⟩) QO hF mixed hf hb rfl (enters_of hf he hb) hcl (bI hm) hdp ann hmod
def iO:FS:=⟨[.rd y3,.rd y3,.rd y3],[y4],cd,none⟩
def nL:FS:=⟨[.rd y3],[y4],jG,none⟩
def tw:FS:=⟨[.rd y94],[y3],mM,none⟩
def vP:FS:=⟨[.rd y29],[y4],oF,none⟩
def dE:FS:=⟨[.rd y29],[y4],bK,none⟩
def Ea:FS:=⟨[.rd y3],[y37],uA,none⟩
def wH:FS:=⟨[.rd y29],[y37],lg,none⟩
def oN:FS:=⟨[.rd y3,.rd y4],[vO],eO,none⟩
def qS:FS:=⟨[.rd vO,.rd vO],[vO],jH,none⟩
def qT:FS:=⟨[.rd vO,.rd vO],[vO],jI,none⟩
def sH:FS:=⟨[.rd vO,.rd y3,.rd y3],[vO],gC,none⟩
def yC:FS:=⟨[.rd y27,.rd y37],[y4],mN,none⟩
def uF:FS:=⟨[.rd y29,.rd y3],[y59],dV,none⟩
def AJ:FS:=⟨[.rd y37],[y4],AD,none⟩
def AK:FS:=⟨[.rd y3],[y4],AE,none⟩
def pH:FS:=⟨[.rd y37],[y43,y4],dm,none⟩
def fy:FS:=⟨[.rd y3],[y47],cQ,none⟩
def AL:FS:=⟨[.rd y43,.rd y81],[y4],AF,none⟩
def ju:FS:=⟨[.rd y43],[y4],bj,none⟩
def tx:FS:=⟨[.rd y84,.rd y84],[y4],kC,none⟩
def oO:FS:=⟨[.eat (.sl 84 y84),.rd y84],[y47],gD,none⟩
def yD:FS:=⟨[.rd y43,.rd y3,.rd y3],[y4],py,none⟩
def nM:FS:=⟨[.rd y43,.rd y3],[y47],gM,none⟩
def mY:FS:=⟨[.rd y27],[y3],fl,none⟩
def fA:FS:=⟨[.rd y47,.rd y47],[y47],cR,none⟩
def kV:FS:=⟨[.rd y47,.rd y47],[y47],gE,none⟩
def qU:FS:=⟨[.rd y47],[y4],fX,none⟩
def mZ:FS:=⟨[.rd y3,.rd y47],[y47],db,none⟩
def oP:FS:=⟨[.rd y3,.rd y47,.rd y3,.rd y3],[y47],eh,none⟩
def na (n:Nat):FS:=⟨[.rd y43,.rd y27],[y47],bh n,none⟩
def vQ:FS:=⟨[.rd y47,.rd y84],[y4],oG,none⟩
def qV:FS:=⟨[.rd y29,.rd y37],[y4],fF,none⟩
def lJ:FS:=⟨[.rd y29,.rd y29,.rd y3],[.bag (y37),y4],bU,none⟩
def pI (n:Nat):FS:=⟨[.rd y27],[y3],eu n,none⟩
def vR:FS:=⟨[.rd y27],[y29],gF,none⟩
def oQ:FS:=⟨[.rd y29,.rd y29,.rd y94],[y29],dI,none⟩
def vS:FS:=⟨[.rd y3],[y29],oH,none⟩
def nN (n:Nat):FS:=⟨[.rd y29,.rd y3,.rd y3],[y29],lh n,none⟩
def mr (n:Nat):FS:=⟨[.rd y27],[y29],cD n,none⟩
def sI:FS:=⟨[.rd y29],[y29,y4],kO,none⟩
def yE:FS:=⟨[.ptr 86 y86,.rd y3,.rd y3],[],mQ,none⟩
def nO (n:Nat):FS:=⟨[.ptr 86 y86,.rd y27],[Z2],bR n,none⟩
def nQ:FS:=⟨[.rd y29],[y86,y4],dJ,none⟩
def wI:FS:=⟨[.rd y86,.rd y3,.rd y3],[y3],nG,none⟩
def tz:FS:=⟨[.rd y37,.rd y3],[y3],mR,none⟩
def sJ:FS:=⟨[.rd y86,.rd y3],[y4],kP,none⟩
def sK:FS:=⟨[.rd y86,.rd y3],[y61,y4],gG,none⟩
def sL:FS:=⟨[],[y61],oq,none⟩
def uG:FS:=⟨[.rd y61,.rd y37,.rd y58],[y61],iG,none⟩
def tC:FS:=⟨[.rd y61],[y58],kD,none⟩
def AM:FS:=⟨[.rd y61,.rd y37,.rd y3],[y37],oJ,none⟩
def Eb:FS:=⟨[.rd y37,.rd y37],[y3],qN,none⟩
def sM:FS:=⟨[.rd y61],[y37],jj,none⟩
def qW:FS:=⟨[.rd y61],[y61],fK,none⟩
def qX:FS:=⟨[.rd y29],[y61,y4],eA,none⟩
def yF:FS:=⟨[.rd y61],[y4],mS,none⟩
def iY:FS:=⟨[.rd y61],[y4],bE,none⟩
def uH:FS:=⟨[.rd y61,.rd y3],[y4],j4,none⟩
def yG:FS:=⟨[.rd Zo,.rd y3],[y37],pz,none⟩
def yH:FS:=⟨[.rd y61,.rd y3,.rd y3],[y3],mT,none⟩
def AN:FS:=⟨[.rd Zo,.rd Wa],[y4],rV,none⟩
def uI:FS:=⟨[.rd y61,.rd y3,.rd y61,.rd y3,.rd y4],[y37,y4],ga,none⟩
def qY:FS:=⟨[.rd y61,.rd y61],[y37,y4],ic,none⟩
def lS:FS:=⟨[.rd y61,.rd y61],[y4],bF,none⟩
def pZ:FS:=⟨[.rd y29,.rd y29,.rd y3],[y3],eP,none⟩
def ej:FS:=⟨[.rd y3,.rd y3,.rd y3],[y4],bc,none⟩
def jM:FS:=⟨[.rd y3],[y4],eY,none⟩
def AO:FS:=⟨[.rd y37],[y4],AG,none⟩
def AP:FS:=⟨[.rd y3],[y4],AH,none⟩
def mu:FS:=⟨[.rd y37],[y43,y4],cE,none⟩
def yI:FS:=⟨[.rd y94],[y4],pA,none⟩
def bp:FS:=⟨[.rd YO],[YO],fun _=>none,some (104,8)⟩
def mD:FS:=⟨[.rd y29],[t104],jJ,none⟩
def AQ:FS:=⟨[.rd y29],[y4],rW,none⟩
def fP:FS:=⟨[.rd y29],[y4],b8,none⟩
def AR:FS:=⟨[.rd y81,.rd y3],[y4],oK,none⟩
def jv:FS:=⟨[.rd y43],[y4],aQ,none⟩
def fB:FS:=⟨[.rd y3],[y47],cS,none⟩
def Ec:FS:=⟨[.rd y81,.rd y4],[y3],qO,none⟩
def HS:FS:=⟨[.rd y43],[Z6],xq,none⟩
def yJ:FS:=⟨[.rd y43,.rd y3,.rd y3],[y4],pC,none⟩
def fQ:FS:=⟨[.ow (.sl 84 y84),.fk 183],[],df,none⟩
def qZ:FS:=⟨[.rd y3,.rd y3],[y3],j5,none⟩
def lK:FS:=⟨[.rd y84,.rd y84],[y3],gy,none⟩
def fZ:FS:=⟨[.eat (.sl 84 y84)],[.sl 84 y84],bZ,none⟩
def pJ:FS:=⟨[.rd y47],[y47],jA,none⟩
def nR:FS:=⟨[.rd y43,.rd y3],[y47],gN,none⟩
def fC:FS:=⟨[.rd y47,.rd y47],[y47],cT,none⟩
def kW:FS:=⟨[.rd y47,.rd y47],[y47],gI,none⟩
def q7:FS:=⟨[.rd y47],[y4],fc,none⟩
def nc:FS:=⟨[.rd y3,.rd y47],[y47],gb,none⟩
def oR:FS:=⟨[.rd y3,.rd y47,.rd y3,.rd y3],[y47],iH,none⟩
def iP (n:Nat):FS:=⟨[.rd t104,.rd y43],[y47],aW n,none⟩
def lL:FS:=⟨[.rd y43,.rd y29],[y47,y4],bm,none⟩
def gP:FS:=⟨[.rd y47,.rd y84],[y3],cw,none⟩
def di:FS:=⟨[.rd y47,.rd y84],[y4],bd,none⟩
def nf:FS:=⟨[.rd y29,.rd y37],[y4],aV,none⟩
def q8:FS:=⟨[.rd y37],[y37],fY,none⟩
def pK (n:Nat):FS:=⟨[.rd y3],[y59],gf n,none⟩
def xt:FS:=⟨[.rd y3,.rd y4],[vO],j6,none⟩
def AS:FS:=⟨[.rd vO,.rd vO],[vO],kF,none⟩
def AT:FS:=⟨[.rd vO,.rd vO],[vO],kG,none⟩
def kX (n:Nat):FS:=⟨[.rd t104,.rd y37],[vO],aY n,none⟩
def p7:FS:=⟨[.rd t104,.rd y37],[y4],eQ,none⟩
def uJ:FS:=⟨[.rd y29,.rd y3],[.bag (.sl 37 (.bag y37))],fe,none⟩
def lM:FS:=⟨[.rd y29,.rd y29,.rd y3],[.bag (y37),y4],bV,none⟩
def kY (n:Nat):FS:=⟨[.rd t104],[y3],b9 n,none⟩
def HT:FS:=⟨[.rd y3],[t104],Cj,none⟩
def nS (n:Nat):FS:=⟨[.eat t104,.rd y3,.rd y3],[t104],lj n,none⟩
def j7 (n:Nat):FS:=⟨[.rd t104],[t104],bS n,none⟩
def jw (n:Nat):FS:=⟨[.rd t104,.ptr 29 y29],[],bL n,none⟩
def uK:FS:=⟨[.rd t104],[y29],pE,none⟩
def sN:FS:=⟨[.rd y29],[y29,y4],kT,none⟩
def lT:FS:=⟨[.ptr 86 y86,.rd y3,.rd y3],[],dP,none⟩
def gj (n:Nat):FS:=⟨[.ptr 86 y86,.rd t104],[Z3],be n,none⟩
def nT:FS:=⟨[.rd y29],[y86,y4],gO,none⟩
def lN:FS:=⟨[.rd y3,.rd y3,.fn [y3] [y4],.fn [y3,y3] [y3,y4]],[y61,y4],eR,none⟩
def lp:FS:=⟨[.rd y86,.rd y3],[y4],dA,none⟩
def ng:FS:=⟨[.rd y86,.rd y3,.rd y3],[y3],gg,none⟩
def oS:FS:=⟨[.rd y3,.rd y3,.cap 86 y86],[y3,y4],dh,none⟩
def q9:FS:=⟨[.rd y86,.rd y3],[y61,y4],ig,none⟩
def bB:FS:=⟨[.rd y58],[y58],fun _=>none,some (4,1)⟩
def nU:FS:=⟨[.rd y61],[y58],ff,none⟩
def eI:FS:=⟨[.rd y59,.fn [y37] [y4]],[y3],bN,none⟩
def iW:FS:=⟨[.rd y37,.rd y37],[y4],eJ,none⟩
def ko:FS:=⟨[.rd y37,.cap 37 y37],[y4],gK,none⟩
def lU:FS:=⟨[.rd y61,.rd y37],[y37,y3],dQ,none⟩
def lq:FS:=⟨[.rd y61],[y37],dD,none⟩
def nh:FS:=⟨[.rd Xj,.rd Xj],[Xj,Xj],tu,none⟩
def ni:FS:=⟨[.rd Xk,.rd Xk],[Xk,Xk],mV,none⟩
def oT:FS:=⟨[.rd Xi,.rd Xi],[Xi,Xi],oL,none⟩
def ir:FS:=⟨[.rd y37,.rd y3],[y37],il,none⟩
def yK:FS:=⟨[],[y61],tv,none⟩
def iX:FS:=⟨[.rd y37,.rd y3],[y3],eK,none⟩
def jN:FS:=⟨[.rd y3,.cap 37 y37],[y3],aU,none⟩
def jO:FS:=⟨[.rd y3,.cap 61 y61,.capf 188 [y3] [y3]],[y4],cr,none⟩
def j8:FS:=⟨[.rd y61,.rd y3,.rd y3],[y3],bG,none⟩
def jP:FS:=⟨[.rd y3,.rd y3,.cap 61 y61,.capf 188 [y3] [y3],.cap 37 y37],[y3,y4],ct,none⟩
def kp:FS:=⟨[.rd y61],[y61],b7,none⟩
def Ed:FS:=⟨[.rd y61],[y61,y4],yA,none⟩
def re:FS:=⟨[.rd y29],[y61,y4],im,none⟩
def iZ:FS:=⟨[.rd y61],[y4],bO,none⟩
def lV:FS:=⟨[.rd QN,.fn [QN,y3] [QN],.fn [QN] [y4]],[y37,y4],cV,none⟩
def sO:FS:=⟨[.rd QN,.rd y3,.cap 61 y61,.cap 61 y61],[QN],jm,none⟩
def jQ:FS:=⟨[.rd y61,.rd y61],[],fun _ _=>none,some (61,1161)⟩
def lu:FS:=⟨[.rd y61,.rd y3],[y4],bH,none⟩
def oU:FS:=⟨[.rd QN,.cap 61 y61,.cap 61 y61],[y4],iJ,none⟩
def rf:FS:=⟨[.rd y61,.rd y61],[y37,y4],mW,none⟩
def lW:FS:=⟨[.rd y61,.rd y61],[y4],dR,none⟩
def p8:FS:=⟨[.rd y29,.rd y29,.rd y3],[y3],eU,none⟩
def MX:FS:=⟨[.rd y33],[y4],F6,none⟩
def yL:FS:=⟨[.rd y33],[.int .i64,.int .i64],qP,some (100,9)⟩
def AU:FS:=⟨[.crs 100 5],[y3],jK,none⟩
def gk:FS:=⟨[.crs 100 5,.rd y3],[y3],a8,none⟩
def oV:FS:=⟨[.crs 100 5,.rd y3],[y4],jL,none⟩
def Ee:FS:=⟨[.rd y9,.rd y5],[Zn],D9,none⟩
def lO:FS:=⟨[.rd y3],[y9],lI,none⟩
def uL:FS:=⟨[.rd y3],[y9],pF,none⟩
def yM:FS:=⟨[.rd y94],[y9],yB,none⟩
def rh:FS:=⟨[.rd y9],[y3,y4],qQ,none⟩
def AW:FS:=⟨[.rd y9],[y94],AI,none⟩
def uM:FS:=⟨[.rd y9],[y29,y4],iK,none⟩
def AX:FS:=⟨[.crs 100 5,.rd Zn],[y9],rX,none⟩
def tD:FS:=⟨[.crs 100 5],[y29],kH,none⟩
def j9:FS:=⟨[.crs 100 5,.rd y37],[y3],cN,none⟩
def sP:FS:=⟨[.rd y3],[y29],sG,none⟩
def rY (n:Nat):FS:=⟨[.crs 100 5,.rd y3],[y29],dL n,none⟩
def vT:FS:=⟨[.crs 100 5],[y29],oM,none⟩
def yN:FS:=⟨[.crs 100 5],[y29],mX,none⟩
def HU:FS:=⟨[.rd y29,.rd y3],[y4],uC,none⟩
def sQ:FS:=⟨[.rd y29,.rd y29],[y4],ou,none⟩
def uN:FS:=⟨[.rd y29,.rd y29],[y29],mq,none⟩
def AY:FS:=⟨[.crs 100 5],[y29,y29],vN,none⟩
def lX:FS:=⟨[.rd y33],[y29,y29,y3],fv,none⟩
def wJ:FS:=⟨[.rd y37,.rd y37],[y4],nK,none⟩
def yO:FS:=⟨[.crs 100 5],[y43],pG,none⟩
def Ef:FS:=⟨[.crs 100 5],[y43],uD,none⟩
def lY:FS:=⟨[.rd y33],[y43,y29],fw,none⟩
def Eg:FS:=⟨[.rd y33,.rd y3],[y33],uE,none⟩
def p9:FS:=⟨[.rd y43,.rd y29],[y47,y4],cX,none⟩
def oW:FS:=⟨[.rd y47,.rd y47],[y47],iM,none⟩
def HV:FS:=⟨[.rd y47,.rd y47],[y4],xr,none⟩
def qa:FS:=⟨[.rd y43,.rd y29,.rd y29,.rd y3,.rd y3],[y4],cY,none⟩
def vU:FS:=⟨[.rd y33],[y4],iN,none⟩
end R
namespace R
open Go.RowKit
open D
theorem jx:FOk Tryz.prog 24 iO:=fk [] trivial Tryz.func24 .no
theorem ri:FOk Tryz.prog 129 nL:=fk [(24,iO)] ⟨jx,trivial⟩ Tryz.func129 .no
theorem yP:FOk Tryz.prog 90 tw:=fk [(24,iO),(129,nL)] ⟨jx,ri,trivial⟩ Tryz.func90 (.t (.two (.t (.join [.slot 5 .boo] .no (.t (.t (.t (.join [.slot 37 .boo] .no .no)))))) .no))
theorem AZ:FOk Tryz.prog 49 vP:=fk [(90,tw)] ⟨yP,trivial⟩ Tryz.func49 (.t (.t (.two (.t (.loop [.s 3,.s 4] .no)) .no)))
theorem eD:FOk Tryz.prog 23 dE:=fk [(49,vP)] ⟨AZ,trivial⟩ Tryz.func23 .no
theorem MY:FOk Tryz.prog 124 Ea:=fk [] trivial Tryz.func124 (.t (.t (.two (.t (.loop [.slot 3 (.own 3 y3),.s 4] (.t (.join [.slot 3 (.own 3 y3)] .no .no)))) .no)))
theorem Eh:FOk Tryz.prog 71 wH:=fk [(49,vP),(124,Ea)] ⟨AZ,MY,trivial⟩ Tryz.func71 (.t (.t (.two (.t (.loop [.s 3,.s 4] (.t (.join [.s 3] .no .no)))) .no)))
theorem rZ:FOk Tryz.prog 125 oN:=fk [] trivial Tryz.func125 (.t (.t (.two (.t (.loop [.slot 5 (.own 58 y58),.s 6] .no)) .no)))
theorem wK:FOk Tryz.prog 126 qS:=fk [(125,oN)] ⟨rZ,trivial⟩ Tryz.func126 (.t (.t (.two (.t (.loop [.s 6,.row 5 58 y58] (.t (.two (.t (.loop [.s 7,.row 5 58 y58] (.t (.two (.t (.loop [.s 8,.row 5 58 y58] .no)) .no)))) .no)))) .no)))
theorem wL:FOk Tryz.prog 127 qT:=fk [(125,oN)] ⟨rZ,trivial⟩ Tryz.func127 (.t (.t (.two (.t (.loop [.row 5 58 y58,.s 6] (.t (.two (.t (.loop [.row 5 58 y58,.s 7] .no)) .no)))) .no)))
theorem zV:FOk Tryz.prog 128 sH:=fk [(125,oN),(126,qS),(127,qT)] ⟨rZ,wK,wL,trivial⟩ Tryz.func128 (.t (.t (.t (.two (.t (.loop [.slot 7 (.own 58 y58),.slot 8 (.own 58 y58),.s 9] (.t (.two (.join [.slot 7 (.own 58 y58)] .no .no) .no)))) .no))))
theorem F7:FOk Tryz.prog 72 yC:=fk [(125,oN),(126,qS),(127,qT),(128,sH)] ⟨rZ,wK,wL,zV,trivial⟩ Tryz.func72 (.t (.t (.t (.two (.t (.loop [.slot 6 (.own 159 (.bag vO)),.s 7] (.t (.two (.at [.slot 6 (.own 159 (.bag vO))] (.t (.t (.t (.t (.t (.t (.two (.t (.two (.t (.loop [.s 11,.row 10 58 y58] .no)) .no)) .no)))))))) .no)))) .no)))) (an:=[(17,.bag vO),(35,.bag vO),(42,.bag vO),(70,.bag vO),(90,.bag vO),(110,.bag vO)])
theorem Cl:FOk Tryz.prog 37 uF:=fk [(23,dE),(24,iO),(71,wH),(72,yC)] ⟨eD,jx,Eh,F7,trivial⟩ Tryz.func37 (.t (.t (.t (.t (.t (.two (.t (.loop [.slot 5 (.own 37 y37),.slot 7 (.own 37 y37),.s 8] (.t (.two (.t (.two (.t (.loop [.slot 5 (.own 37 y37),.slot 9 (.own 37 y37),.s 10,.row 7 37 y37] (.t (.two (.two (.t (.at [.slot 5 (.own 37 y37),.gone 43,.row 7 37 y37] .no)) (.t (.loop [.slot 9 (.own 37 y37),.s 11] .no))) .no)))) .no)) .no)))) .no))))))
theorem Jz:FOk Tryz.prog 73 AJ:=fk [(129,nL)] ⟨ri,trivial⟩ Tryz.func73 (.t (.two (.t (.loop [.s 3] .no)) .no))
theorem JA:FOk Tryz.prog 74 AK:=fk [(24,iO)] ⟨jx,trivial⟩ Tryz.func74 .no
theorem uO:FOk Tryz.prog 38 pH:=fk [(73,AJ),(74,AK)] ⟨Jz,JA,trivial⟩ Tryz.func38 (.t (.t (.t (.t (.two (.t (.loop [.slot 5 .boo,.s 6,.box 4 [(.own 3 y3),(.own 81 y81)]] (.t (.joinX [.slot 5 .boo,.box 4 [(.own 3 y3),(.own 81 y81)]] (.t (.t (.t (.t (.join [.box 9 [(.num .i64),(.num .i64),(.num .i64),(.num .i64)]] .no .no))))) .no)))) .no)))))
theorem ja:FOk Tryz.prog 78 fy:=fk [] trivial Tryz.func78 (.t (.t (.two (.t (.loop [.slot 3 (.own 84 y84),.s 4] .no)) .no)))
end R
end Go.Proofs.YtfbgafccgaoepaaGreat
