/- FnExactRecoverEngine: for every input the law returns true and changes nothing that was there. Part 6 of 9. -/
import Derived.Test.YtodbpnpbhpeepaaGreatDoorEC4
set_option linter.unusedVariables false
set_option linter.unusedSimpArgs false
set_option linter.unnecessarySimpa false
set_option linter.unusedSectionVars false
set_option maxRecDepth 1000000
namespace Go.Proofs.YtodbpnpbhpeepaaGreatDoor
open Go.IntKind (i64)
namespace R
open Go.RowKit
open D
def PP (i:Nat):(p:PM)->p.den->AV
 | .rd t,d=>N4 i t d
 | .ow t,d=>Oo (kS i [] t d)
 | .fn a b,d=>.one (.fn ⟨i,[]⟩ a b d)
 | .cap T t,d=>.one (.fz ⟨i,[]⟩ T t d 0)
 | .capf T a b,d=>.one (.fzf ⟨i,[]⟩ T a b d)
 | .ptr _ _,_=>.one (.ptr ⟨i,[]⟩ 0)
 | .eat t,d=>Oo (kS i [] t d)
 | .fk g,_=>.one (.val (.func (.func g) #[] #[]))
 | .crs _ _,_=>.one (.ptr ⟨i,[]⟩ 0)
 | .kb _ _ _,_=>.one (.own ⟨i,[]⟩)
 | .kc _,_=>.one (.own ⟨i,[]⟩)
def Lj (q i:Nat):(p:PM)->p.den->List (Hdr×Chk)
 | .ow t,d=>lT i [] t d
 | .ptr T t,d=>[(⟨i,[]⟩,.box T t d)]
 | .eat t,d=>lT i [] t d
 | .crs T E,d=>[(⟨i,[]⟩,.blk T [.rd ⟨q,[]⟩ (.sl E (.int .u8)) d.1,.val (.int .i64 d.2.1),.val (.int .i64 d.2.2)])]
 | .kb g T t,d=>[(⟨i,[]⟩,.clo g [] [.ptr ⟨q,[]⟩ 0]),(⟨q,[]⟩,.box T t d)]
 | .kc g,_=>[(⟨i,[]⟩,.clo g [] [.ptr ⟨q,[]⟩ 0])]
 | _,_=>[]
def Lk:(i:Nat)->(ps:List PM)->denP ps->List (Nat×Nat×AV)
 | _,[],_=>[]
 | i,p::ps,d=>(i,i,PP i p d.1)::Lk (i+1) ps d.2
def HJ (q:Nat):(i:Nat)->(ps:List PM)->denP ps->List Ent
 | _,[],_=>[]
 | i,p::ps,d=>(Lj q i p d.1).map (fun g=>(g.1,i,g.2))++HJ q (i+1) ps d.2
def Bv (ps:List PM) (d:denP ps):Sg:=⟨Lk 0 ps d,HJ ps.length 0 ps d,ps.length+1⟩
def abv (P:Program) (w0:World) (J:Hp) (θ:Th) (n i:Nat):(p:PM)->Value->p.den->Prop
 | .ow t,v,d=>(kS i [] t d).2.map (·.v θ)=jz t.isProd v/\ ∀x∈(kS i [] t d).2,x.ok P w0 J θ n
 | .ptr _ _,v,_=>hv θ ⟨i,[]⟩=v/\i<n
 | .crs _ _,v,_=>hv θ ⟨i,[]⟩=v/\i<n
 | _,_,_=>True
def StF (P:Program) (w0:World) (J:Hp) (θ:Th) (n:Nat):(i:Nat)->(ps:List PM)->List Value->denP ps->Prop
 | i,p::ps,v::vs,d=>abv P w0 J θ n i p v d.1/\StF P w0 J θ n (i+1) ps vs d.2
 | _,_,_,_=>True
section
variable {P:Program} {w0 w:World} {J:Hp} {θ:Th} {n:Nat} {C:List Ch}
theorem ze {id:Nat} {pre:List Nat} {t:Ty} {d:t.den} : ∀g∈lT id pre t d,RX g.2:=iE t d 0
theorem PQ {p:PM} {i:Nat} {v:Value} {d:p.den} {ps:List PM} {vs:List Value} {e:denP ps} {γ:Value} {q:Nat} (hi:i<n) (hq:q<n) (hγ:θ q=γ) (hθ:θ i=v) (h:aam P w0 J γ p v d) (hS:St J w0 w (owCh γ (p::ps) (v::vs) (d,e)++C)) :
  (∀chs,(PP i p d).ok P w0 J θ n chs)/\(PP i p d).v θ=v/\St J w0 w ((Lj q i p d).map (fun g=>toCh P θ (g.1,i,g.2))++(owCh γ ps vs e++C))/\(∀g∈Lj q i p d,∀chs,okE P w0 J θ n chs (g.1,i,g.2))/\abv P w0 J θ n i p v d:=by
 cases p with
 | rd t =>
  obtain ⟨cs,h1,h2⟩:=h
  have hav:=fun chs=>qd (P:=P) (w0:=w0) (J:=J) (chs:=chs) hi hθ t d cs h2 h1
  exact ⟨fun chs=>(hav chs).1,(hav []).2,hS,fun g hg=>(by cases hg),trivial⟩
 | fn a b =>
  have hh:hv θ ⟨i,[]⟩=v:=hθ
  exact ⟨fun chs=>⟨hi,by rw[hh];exact h⟩,hh,hS,fun g hg=>(by cases hg),trivial⟩
 | cap T t =>
  obtain ⟨b,rfl,cells,h1,h2⟩:=h
  have hh:hv θ ⟨i,[]⟩= .pointer (some ⟨b,0,none⟩):=hθ
  refine ⟨fun chs=>⟨hi,cells,by rw[hh];exact h1,h2⟩,?_,hS,fun g hg=>(by cases hg),trivial⟩
  show Value.pointer (some ⟨bk (hv θ ⟨i,[]⟩),0,none⟩)=_
  rw[hh];rfl
 | capf T x y =>
  obtain ⟨b,rfl,u,h1,h2⟩:=h
  have hh:hv θ ⟨i,[]⟩= .pointer (some ⟨b,0,none⟩):=hθ
  refine ⟨fun chs=>⟨hi,u,by rw[hh];exact h1,h2⟩,?_,hS,fun g hg=>(by cases hg),trivial⟩
  show Value.pointer (some ⟨bk (hv θ ⟨i,[]⟩),0,none⟩)=_
  rw[hh];rfl
 | ptr T t =>
  obtain ⟨b,rfl⟩:=h
  have hh:hv θ ⟨i,[]⟩= .pointer (some ⟨b,0,none⟩):=hθ
  refine ⟨fun chs=>hi,?_,?_,fun g hg chs=>by obtain rfl:=aq hg;exact sI trivial hi hi,hh,hi⟩
  ·show Value.pointer (some ⟨bk (hv θ ⟨i,[]⟩),0,none⟩)=_
   rw[hh];rfl
  ·show St J w0 w (Ch.box (bk (hv θ ⟨i,[]⟩)) T t.rep d::_)
   rw[hh];exact hS
 | ow t =>
  have hS:St J w0 w (Ch.own t.rep (jz t.isProd v) d::(owCh γ ps vs e++C)):=hS
  obtain ⟨k1,k2,k3,k4,k5⟩:=wP (P:=P) (m:=i) (pre:=[]) (id:=i) (n:=n) hi (show hv θ ⟨i,[]⟩=v from hθ) h hS
  have q:=fun chs=>EN (P:=P) (w0:=w0) (J:=J) (θ:=θ) (n:=n) (chs:=chs) (kS i [] t d) (fun e=>sG e) k1
  exact ⟨fun chs=>(q chs).1,(q []).2.trans k3,k5,fun g hg chs=>sI (ze g hg) (by rw[k4 g hg];exact hi) hi,k2,k1⟩
 | eat t =>
  have hS:St J w0 w (Ch.own t.rep (jz t.isProd v) d::(owCh γ ps vs e++C)):=hS
  obtain ⟨k1,k2,k3,k4,k5⟩:=wP (P:=P) (m:=i) (pre:=[]) (id:=i) (n:=n) hi (show hv θ ⟨i,[]⟩=v from hθ) h hS
  have q:=fun chs=>EN (P:=P) (w0:=w0) (J:=J) (θ:=θ) (n:=n) (chs:=chs) (kS i [] t d) (fun e=>sG e) k1
  exact ⟨fun chs=>(q chs).1,(q []).2.trans k3,k5,fun g hg chs=>sI (ze g hg) (by rw[k4 g hg];exact hi) hi,trivial⟩
 | fk g =>
  obtain rfl:=h
  exact ⟨fun chs=>rfl,rfl,hS,fun g hg=>(by cases hg),trivial⟩
 | crs T E =>
  obtain ⟨⟨b,rfl⟩,hrd⟩:=h
  have hh:hv θ ⟨i,[]⟩= .pointer (some ⟨b,0,none⟩):=hθ
  have hg0:hv θ ⟨q,[]⟩=γ:=hγ
  refine ⟨fun chs=>hi,?_,?_,fun g hg chs=>?_,hh,hi⟩
  ·show Value.pointer (some ⟨bk (hv θ ⟨i,[]⟩),0,none⟩)=_
   rw[hh];rfl
  ·show St J w0 w (Ch.blk (bk (hv θ ⟨i,[]⟩)) [hv θ ⟨q,[]⟩,.int .i64 d.2.1,.int .i64 d.2.2] T::_)
   rw[hh,hg0];exact hS
  ·obtain rfl:=aq hg
   refine ⟨hi,hi,fun z hz=>?_⟩
   rcases aB hz with rfl | hz
   ·exact ⟨hq,by rw[hg0];exact hrd⟩
   ·rcases aB hz with rfl | hz
    ·exact Eq.refl true
    ·obtain rfl:=aq hz
     exact Eq.refl true
 | kb g T t =>
  obtain ⟨rfl,b,hb⟩:=h
  have hh:hv θ ⟨i,[]⟩= .func (.func g) #[] #[γ]:=hθ
  have hg0:hv θ ⟨q,[]⟩=γ:=hγ
  have hp:Value.pointer (some ⟨bk (hv θ ⟨q,[]⟩),0,none⟩)=γ:=by rw[hg0,hb];rfl
  refine ⟨fun chs=>⟨hi,by rw[hh];rfl⟩,hh,?_,fun g' hg chs=>?_,trivial⟩
  ·show St J w0 w (Ch.emp::Ch.box (bk (hv θ ⟨q,[]⟩)) T t.rep d::_)
   rw[hg0]
   exact St.emp.2 hS
  ·rcases aB hg with rfl | hg
   ·refine ⟨hi,hi,fun y hy=>(by cases hy),fun x hx=>?_,?_⟩
    ·obtain rfl:=aq hx
     exact hq
    ·show hv θ ⟨i,[]⟩= .func (.func g) #[] #[Value.pointer (some ⟨bk (hv θ ⟨q,[]⟩),0,none⟩)]
     rw[hh,hp]
   ·obtain rfl:=aq hg
    exact sI trivial hq hi
 | kc g =>
  obtain ⟨rfl,b,hb⟩:=h
  have hh:hv θ ⟨i,[]⟩= .func (.func g) #[] #[γ]:=hθ
  have hg0:hv θ ⟨q,[]⟩=γ:=hγ
  have hp:Value.pointer (some ⟨bk (hv θ ⟨q,[]⟩),0,none⟩)=γ:=by rw[hg0,hb];rfl
  refine ⟨fun chs=>⟨hi,by rw[hh];rfl⟩,hh,?_,fun g' hg chs=>?_,trivial⟩
  ·show St J w0 w (Ch.emp::_)
   exact St.emp.2 hS
  ·obtain rfl:=aq hg
   refine ⟨hi,hi,fun y hy=>(by cases hy),fun x hx=>?_,?_⟩
   ·obtain rfl:=aq hx
    exact hq
   ·show hv θ ⟨i,[]⟩= .func (.func g) #[] #[Value.pointer (some ⟨bk (hv θ ⟨q,[]⟩),0,none⟩)]
    rw[hh,hp]
theorem Ll {γ:Value} {q:Nat} (hq:q<n) (hγ:θ q=γ): ∀ {ps:List PM} {i:Nat} {vs:List Value} {d:denP ps} {C:List Ch},PArgs P w0 J γ ps vs d->(∀j v,vs[j]? =some v->θ (i+j)=v)->i+ps.length<=n->St J w0 w (owCh γ ps vs d++C)->
  (∀e∈Lk i ps d,(∀chs,e.2.2.ok P w0 J θ n chs)/\i<=e.1/\e.2.1=e.1/\e.1<i+ps.length/\vs[e.1 - i]? =some (e.2.2.v θ))/\((Lk i ps d).Pairwise fun a b=>a.2.1≠b.2.1)/\St J w0 w ((HJ q i ps d).map (toCh P θ)++C)/\(∀e∈HJ q i ps d,∀chs,okE P w0 J θ n chs e)/\StF P w0 J θ n i ps vs d
 | [],i,vs,d,C,h,_,_,hS=>by
  have h:vs= []:=h
  subst h
  exact ⟨fun e he=>(by cases he),List.Pairwise.nil,hS,fun e he=>(by cases he),trivial⟩
 | p::ps,i,vs,d,C,h,hθ,hn,hS=>by
  obtain ⟨v,r,rfl,h1,h3⟩:=h
  rw[al] at hn
  obtain ⟨a1,a2,a3,a4,a5⟩:=PQ (n:=n) (i:=i) (θ:=θ) (e:=d.2) (show i<n by omega) hq hγ (hθ 0 v rfl) h1 hS
  obtain ⟨k1,k2,k3,k4,k5⟩:=Ll hq hγ (i:=i+1) h3 (fun j u hj=>by
   have:=hθ (j+1) u hj
   rwa [show i+(j+1)=i+1+j from by omega] at this) (by omega) (a3.perm (List.perm_append_comm_assoc _ _ _))
  refine ⟨fun e he=>?_,List.pairwise_cons.2 ⟨fun e he hh=>?_,k2⟩,?_,fun e he chs=>?_,a5,k5⟩
  ·rcases aB he with rfl | he
   ·exact ⟨a1,aD _,rfl,by rw[al];show i<_;omega,by show (v::r)[i - i]? =_;rw[Nat.sub_self,a2];rfl⟩
   ·obtain ⟨q1,q2,q3,q4,q5⟩:=k1 e he
    refine ⟨q1,by omega,q3,by rw[al];omega,?_⟩
    rw[show e.1 - i=(e.1 - (i+1))+1 from by omega];exact q5
  ·have:=k1 e he
   have hh:i=e.2.1:=hh
   omega
  ·show St J w0 w (((Lj q i p d.1).map _++HJ q (i+1) ps d.2).map (toCh P θ)++C)
   rw[aN,List.map_map]
   refine k3.perm ?_
   rw[ai]
   exact List.perm_append_comm_assoc _ _ _
  ·rcases aF he with he | he
   ·obtain ⟨g,hg,rfl⟩:=List.mem_map.1 he
    exact a4 g hg chs
   ·exact k4 e he chs
theorem HK {γ:Value} : ∀ {ps:List PM} {vs:List Value} {d:denP ps},PArgs P w0 J γ ps vs d->vs.length=ps.length
 | [],vs,d,h=>by
  have h:vs= []:=h
  subst h;rfl
 | p::ps,vs,d,h=>by
  obtain ⟨v,r,rfl,h1,h3⟩:=h
  simpa using HK h3
end
def Xi (tt:TT) (s:Sg):ResultVar->Option AV
 | .tmp t=>look s.env t
 | .cell p T=>(Rm (look s.env p)).bind fun h=>(td tt T).bind fun d=>(sn h s.chs).bind fun b=>bV (Nat.beq b.cells.length d.n) (aak d.agg b.cells)
theorem Xj {v:Option AV} {h:Hdr} (k:Rm v=some h):v=some (.one (.ptr h 0)):=by
 unfold Rm at k
 split at k
 ·rename_i h' off
  split at k
  ·rename_i ho
   rw[au ho,ae k]
  ·cases k
 ·cases k
section
variable {P:Program} {I:Hp} {w0 w:World} {F:Ch} {J:Hp} {θ:Th} {n:Nat} {s:Sg} {a:Act} {tt:TT}
theorem Xk (ha:Agr n a (envL θ s)) {t g:Nat} {T E:TypeId} {v:Value} {cs:List Ch} (h:(envL θ s).lookup t=some (.pointer (some ⟨g,0,none⟩))) (hs:St J w0 w cs) (i:Nat) (hi:cs[i]? =some (Ch.blk g [v] E)) (hT:TI P T false 1):IF P a w (.cell t T) v:=by
 refine ⟨_,ha.2.2 t _ h,?_⟩
 have hg:=hs.heap i hi
 have hc:w.cell? ⟨g,0,none⟩=some v:=by simp[World.cell?,hg]
 simp[loadVar,Sem.run_bind,hT.run_agg,load,Sem.run,hc,Result.andThen]
theorem Tc (hT:TTok P tt) (hS:Sim P I w0 F n J θ s a w) {r:ResultVar} {v:AV} (h:Xi tt s r=some v):IF P a w r (v.v θ)/\v.ok P w0 J θ s.nxt s.chs:=by
 cases r with
 | tmp t=>exact ⟨VS hS.agr (gS h),bR (x:=.tmp t) hS.fine h⟩
 | cell p T =>
  obtain ⟨hh,h1,h⟩:=bind_some (show (Rm (look s.env p)).bind _=some v from h)
  obtain ⟨d,hd,h⟩:=bind_some h
  obtain ⟨b,hb,h⟩:=bind_some h
  obtain ⟨hl,h⟩:=aj h
  have hl:=au hl
  have hp:=kP hb
  have hok:=hS.fine.chs _ (hp.mem_iff.2 (List.mem_cons_self ..))
  obtain ⟨k1,k2⟩:=Oi (chs:=s.chs) h hok.2.2
  refine ⟨?_,k1⟩
  have hlk:(envL θ s).lookup p=some (.pointer (some ⟨bk (hv θ hh),0,none⟩)):=gS (Xj h1)
  have hst:=hS.st.perm ((hp.map (toCh P θ)).append_right [F])
  have hti:=(hT.get hd).ti
  cases hagg:d.agg with
  | true =>
   rw[hagg] at k2 hti
   rw[<-k2]
   exact Rv hS.agr hlk hst 0 rfl hti (by rw[List.length_map];exact hl)
  | false =>
   rw[hagg] at k2 hti h
   have h1':d.n=1:=by
    have:=(hT.get hd).one
    rw[hagg] at this
    simpa using this
   obtain ⟨x,hx⟩:=List.length_eq_one_iff.1 (hl.trans h1')
   rw[h1'] at hti
   rw[hx] at k2
   rw[<-k2]
   have hst2:St J w0 w (Ch.blk (bk (hv θ hh)) [x.v θ] b.T::(b.rest.map (toCh P θ)++ [F])):=by
    have:(toCh P θ (b.ent hh))=Ch.blk (bk (hv θ hh)) (b.cells.map (·.v θ)) b.T:=rfl
    rw[hx] at this
    rw[<-show toCh P θ (b.ent hh)=Ch.blk (bk (hv θ hh)) [x.v θ] b.T from this]
    exact hst
   exact Xk hS.agr hlk hst2 0 rfl hti
end
def Jq:(ts:List Ty)->List AV->List Ent->Option (jy ts×List Ent×List Ent)
 | [],[],chs=>some ((),[],chs)
 | t::ts,v::vs,chs=>bV (ox v==t.isProd) ((kQ v).bind fun cs=>(dD t cs chs).bind fun q=>bV q.cells.isEmpty ((Jq ts vs q.rest).bind fun r=>some ((q.d,r.1),q.used++r.2.1,r.2.2)))
 | _,_,_=>none
def yh:(ts:List Ty)->List Value->jy ts->List Ch
 | t::ts,v::vs,d=>Ch.own t.rep (jz t.isProd v) d.1::yh ts vs d.2
 | _,_,_=>[]
theorem DY {P:Program} {w0:World} {J:Hp} {θ:Th} {n:Nat} {chs0:List Ent} : ∀ {ts:List Ty} {vs:List AV} {chs:List Ent} {r:jy ts×List Ent×List Ent},Jq ts vs chs=some r->(∀v∈vs,v.ok P w0 J θ n chs0)->
  chs.Perm (r.2.1++r.2.2)/\vs.length=ts.length/\oh J (r.2.1.map (toCh P θ)) (yh ts (vs.map (·.v θ)) r.1)/\ ∀(i:Nat) t v,ts[i]? =some t->vs[i]? =some v->qc (v.v θ)=t.isProd
 | [],[],chs,r,h,_=>by
  obtain rfl:=ae (show some _=some r from h)
  exact ⟨List.Perm.refl _,rfl,wI,fun i t v ht=>by simp at ht⟩
 | t::ts,v::vs,chs,r,h,hv'=>by
  obtain ⟨ha,h⟩:=aj (show bV (ox v==t.isProd) _=some r from h)
  have ha:ox v=t.isProd:=by simpa using ha
  obtain ⟨cs,hcs,h⟩:=bind_some h
  obtain ⟨q,hq,h⟩:=bind_some h
  obtain ⟨he,h⟩:=aj h
  obtain ⟨r',hr,h⟩:=bind_some h
  obtain rfl:=ae h
  obtain ⟨c1,c2⟩:=jc hcs (hv' v (by simp))
  obtain ⟨p,cc,e1,e2⟩:=ko (J:=J) (θ:=θ) hq c1
  rw[List.isEmpty_iff.1 he,List.append_nil] at e1
  subst e1
  obtain ⟨k1,k2,k3,k4⟩:=DY hr fun x hx=>hv' x (by simp[hx])
  have hcell:jz t.isProd (v.v θ)=cs.map (·.v θ)/\qc (v.v θ)=t.isProd:=by
   rw[<-ha]
   cases v with
   | agg xs =>
    obtain rfl:=ae (show some xs=some cs from hcs)
    exact ⟨rfl,rfl⟩
   | one x =>
    obtain rfl:=ae (show some [x] =some cs from hcs)
    refine ⟨rfl,?_⟩
    have h1:(x.v θ).oneCell'=true:=LV.one (show LV.ok P w0 J θ n x from hv' (.one x) (by simp))
    show qc (x.v θ)=false
    generalize x.v θ=u at h1
    cases u <;> first | rfl | cases h1
   | _=>cases hcs
  refine ⟨by rw[ai];exact p.trans (k1.append_left _),by rw[al,al,k2],?_,fun i t' v' ht hv0=>?_⟩
  ·show oh J ((q.used++r'.2.1).map _) (Ch.own t.rep (jz t.isProd (v.v θ)) q.d::yh ts (vs.map _) r'.1)
   rw[aN,hcell.1]
   exact sE e2 k3
  ·cases i with
   | zero =>
    obtain rfl:t=t':=by simpa using ht
    obtain rfl:v=v':=by simpa using hv0
    exact hcell.2
   | succ i=>exact k4 i t' v' (by simpa using ht) (by simpa using hv0)
 | [],_::_,chs,r,h,_=>by cases h
 | _::_,[],chs,r,h,_=>by cases h
def ZZ:List Value->Value
 | [v] =>v
 | vs=>.tuple vs.toArray
def Lm (P:Program) (a:Act) (w:World):List ResultVar->List Value->Prop
 | [],vs=>vs= []
 | r::rs,vs=> ∃v us,vs=v::us/\IF P a w r v/\Lm P a w rs us
theorem zf {P:Program} {a:Act} {w:World} {f:ResultVar->Sem Value} (hf: ∀r v,IF P a w r v->(f r).run P w= .ok v w): ∀ {l:List ResultVar} {vs:List Value},Lm P a w l vs->(l.mapM f).run P w= .ok vs w
 | [],vs,h=>by
  have h:vs= []:=h
  subst h
  rw[List.mapM_nil];rfl
 | r::l,vs,h=>by
  obtain ⟨v,us,rfl,h1,h2⟩:=h
  rw[List.mapM_cons,Sem.run_bind,hf r v h1]
  simp only[Result.andThen_ok,Sem.run_bind,zf hf h2]
  rfl
def Z0 (a:Act) (r:ResultVar):Sem Value:=match r with
 | .tmp t=>pure (a.tmps.getD t undef)
 | .cell p t=>do loadVar t (<-asAddr (a.tmps.getD p undef))
theorem Xl {P:Program} {a:Act} {w:World} {r:ResultVar} {v:Value} (h:IF P a w r v):(Z0 a r).run P w= .ok v w:=by
 cases r with
 | tmp t =>
  have h:a.tmps.getD t undef=v:=h
  show (pure (a.tmps.getD t undef):Sem Value).run P w=_
  rw[h];rfl
 | cell p T =>
  obtain ⟨A,h1,h2⟩:=h
  show ((asAddr (a.tmps.getD p undef)) >>=fun x=>loadVar T x).run P w=_
  rw[h1,Sem.run_bind]
  show Result.andThen (.ok A w) _=_
  rw[Result.andThen_ok];exact h2
theorem aaE {P:Program} {n:Nat} {a:Act} {w:World} {L:List (Nat×Value)} {fn:Func} {R:Ending->World->Prop} {vs:List Value} (ha:Agr n a L) (h:Lm P a w fn.results.toList vs) (hR:R (.returned (ZZ vs)) w):bodyPost P fn R .ret a w:=by
 refine ⟨ha.1,ZZ vs,?_,hR⟩
 have hr:((fn.results.mapM (Z0 a)):Sem (Array Value)).run P w= .ok vs.toArray w:=by
  rw[Array.mapM_eq_mapM_toList]
  have:=zf (f:=Z0 a) (fun r v=>Xl) h
  simp[this,Sem.run_map]
 show ((fn.results.mapM (Z0 a)) >>=fun vs=>pure (if h:vs.size=1 then vs[0] else .tuple vs):Sem Value).run P w=_
 rw[Sem.run_bind,hr,Result.andThen_ok]
 match vs with
 | [] =>rfl
 | [v] =>rfl
 | _::_::_=>rfl
def dF (g0:Nat):(i:Nat)->(ps:List PM)->denP ps->List Ent->Option (jy (outs ps)×List Ent×List Ent)
 | _,[],_,chs=>some ((),[],chs)
 | i,.ow t::ps,d,chs=>(dD t (kS i [] t d.1).2 chs).bind fun q=>bV q.cells.isEmpty ((dF g0 (i+1) ps d.2 q.rest).bind fun r=>some ((q.d,r.1),q.used++r.2.1,r.2.2))
 | i,.ptr T t::ps,d,chs=>(sH ⟨i,[]⟩ T t chs).bind fun q=>(dF g0 (i+1) ps d.2 q.2.2).bind fun r=>some ((q.1,r.1),q.2.1++r.2.1,r.2.2)
 | i,.rd _::ps,d,chs=>dF g0 (i+1) ps d.2 chs
 | i,.fn _ _::ps,d,chs=>dF g0 (i+1) ps d.2 chs
 | i,.eat _::ps,d,chs=>dF g0 (i+1) ps d.2 chs
 | i,.cap _ _::ps,d,chs=>dF g0 (i+1) ps d.2 chs
 | i,.capf _ _ _::ps,d,chs=>dF g0 (i+1) ps d.2 chs
 | i,.fk _::ps,d,chs=>dF g0 (i+1) ps d.2 chs
 | i,.kc _::ps,d,chs=>dF g0 (i+1) ps d.2 chs
 | i,.kb _ T t::ps,d,chs=>(sH ⟨g0,[]⟩ T t chs).bind fun q=>(dF g0 (i+1) ps d.2 q.2.2).bind fun r=>some ((q.1,r.1),q.2.1++r.2.1,r.2.2)
 | i,.crs T E::ps,d,chs=>(vE ⟨i,[]⟩ T E chs).bind fun q=>bV (Hdr.beq q.g ⟨g0,[]⟩) ((dF g0 (i+1) ps d.2 q.rest).bind fun r=>some ((q.d.2,r.1),q.ent::r.2.1,r.2.2))
theorem dI {P:Program} {w0:World} {J J':Hp} {θ θ':Th} {n n':Nat} {chs0:List Ent} (hJ:J.le J') (hs:Same n θ θ') {γ:Value} {g0:Nat} (hg0:g0<n) (hγ:θ g0=γ): ∀ {ps:List PM} {i:Nat} {d:denP ps} {chs:List Ent} {vs:List Value} {r:jy (outs ps)×List Ent×List Ent},dF g0 i ps d chs=some r->vs.length=ps.length->StF P w0 J θ n i ps vs d->(∀e∈chs,okE P w0 J' θ' n' chs0 e)->
  chs.Perm (r.2.1++r.2.2)/\oh J' (r.2.1.map (toCh P θ')) (outCh γ ps vs r.1)
 | [],i,d,chs,vs,r,h,_,_,_=>by
  obtain rfl:=ae (show some _=some r from h)
  exact ⟨List.Perm.refl _,wI⟩
 | p::ps,i,d,chs,[],r,h,hl,_,_=>by cases hl
 | .ow t::ps,i,d,chs,v::vs,r,h,hl,hF,hc=>by
  obtain ⟨q,hq,h⟩:=bind_some (show (dD t (kS i [] t d.1).2 chs).bind _=some r from h)
  obtain ⟨he,h⟩:=aj h
  obtain ⟨r',hr,h⟩:=bind_some h
  obtain rfl:=ae h
  obtain ⟨⟨k1,k2⟩,k3⟩:=hF
  obtain ⟨p,cc,e1,e2⟩:=ko (P:=P) (w0:=w0) (J:=J') (θ:=θ') (n:=n) hq fun x hx=>LV.ok_same hs (aD _) (k2 x hx) hJ
  rw[List.isEmpty_iff.1 he,List.append_nil] at e1
  subst e1
  rw[hO hs k2,k1] at e2
  obtain ⟨q1,q2⟩:=dI hJ hs hg0 hγ hr (by simpa using hl) k3 fun e he=>hc e (p.mem_iff.2 (by simp[he]))
  refine ⟨by rw[ai];exact p.trans (q1.append_left _),?_⟩
  show oh J' ((q.used++r'.2.1).map _) (Ch.own t.rep (jz t.isProd v) q.d::outCh γ ps vs r'.1)
  rw[aN]
  exact sE e2 q2
 | .ptr T t::ps,i,d,chs,v::vs,r,h,hl,hF,hc=>by
  obtain ⟨q,hq,h⟩:=bind_some (show (sH ⟨i,[]⟩ T t chs).bind _=some r from h)
  obtain ⟨r',hr,h⟩:=bind_some h
  obtain rfl:=ae h
  obtain ⟨⟨k1,k2⟩,k3⟩:=hF
  obtain ⟨p,hb⟩:=ua (P:=P) (w0:=w0) (J:=J') (J':=J') (θ:=θ') hq Hp.le.rfl hc
  obtain ⟨q1,q2⟩:=dI hJ hs hg0 hγ hr (by simpa using hl) k3 fun e he=>hc e (p.mem_iff.2 (by simp[he]))
  refine ⟨by rw[ai];exact p.trans (q1.append_left _),?_⟩
  show oh J' ((q.2.1++r'.2.1).map _) (Ch.box (bk v) T t.rep q.1::outCh γ ps vs r'.1)
  rw[aN]
  have hh:hv θ' ⟨i,[]⟩=v:=(aZ hs (show (⟨i,[]⟩:Hdr).id<n from k2)).trans k1
  rw[hh] at hb
  intro w F hsp
  obtain ⟨G,K,rfl,h1,h2⟩:=hsp.split
  exact ⟨G,K,rfl,hb w G h1,q2 w K h2⟩
 | .rd t::ps,i,d,chs,v::vs,r,h,hl,hF,hc=>dI (ps:=ps) hJ hs hg0 hγ (show dF g0 (i+1) ps d.2 chs=some r from h) (by simpa using hl) hF.2 hc
 | .fn _ _::ps,i,d,chs,v::vs,r,h,hl,hF,hc=>dI (ps:=ps) hJ hs hg0 hγ (show dF g0 (i+1) ps d.2 chs=some r from h) (by simpa using hl) hF.2 hc
 | .eat _::ps,i,d,chs,v::vs,r,h,hl,hF,hc=>dI (ps:=ps) hJ hs hg0 hγ (show dF g0 (i+1) ps d.2 chs=some r from h) (by simpa using hl) hF.2 hc
 | .cap _ _::ps,i,d,chs,v::vs,r,h,hl,hF,hc=>dI (ps:=ps) hJ hs hg0 hγ (show dF g0 (i+1) ps d.2 chs=some r from h) (by simpa using hl) hF.2 hc
 | .capf _ _ _::ps,i,d,chs,v::vs,r,h,hl,hF,hc=>dI (ps:=ps) hJ hs hg0 hγ (show dF g0 (i+1) ps d.2 chs=some r from h) (by simpa using hl) hF.2 hc
 | .kc _::ps,i,d,chs,v::vs,r,h,hl,hF,hc=>dI (ps:=ps) hJ hs hg0 hγ (show dF g0 (i+1) ps d.2 chs=some r from h) (by simpa using hl) hF.2 hc
 | .kb _ T t::ps,i,d,chs,v::vs,r,h,hl,hF,hc=>by
  obtain ⟨q,hq,h⟩:=bind_some (show (sH ⟨g0,[]⟩ T t chs).bind _=some r from h)
  obtain ⟨r',hr,h⟩:=bind_some h
  obtain rfl:=ae h
  obtain ⟨-,k3⟩:=hF
  obtain ⟨p,hb⟩:=ua (P:=P) (w0:=w0) (J:=J') (J':=J') (θ:=θ') hq Hp.le.rfl hc
  obtain ⟨q1,q2⟩:=dI hJ hs hg0 hγ hr (by simpa using hl) k3 fun e he=>hc e (p.mem_iff.2 (by simp[he]))
  refine ⟨by rw[ai];exact p.trans (q1.append_left _),?_⟩
  show oh J' ((q.2.1++r'.2.1).map _) (Ch.box (bk γ) T t.rep q.1::outCh γ ps vs r'.1)
  rw[aN]
  have hh:hv θ' ⟨g0,[]⟩=γ:=by
   show vg (θ' g0) [] =γ
   rw[hs g0 hg0,hγ];rfl
  rw[hh] at hb
  intro w F hsp
  obtain ⟨G,K,rfl,h1,h2⟩:=hsp.split
  exact ⟨G,K,rfl,hb w G h1,q2 w K h2⟩
 | .fk _::ps,i,d,chs,v::vs,r,h,hl,hF,hc=>dI (ps:=ps) hJ hs hg0 hγ (show dF g0 (i+1) ps d.2 chs=some r from h) (by simpa using hl) hF.2 hc
 | .crs T E::ps,i,d,chs,v::vs,r,h,hl,hF,hc=>by
  obtain ⟨q,hq,h⟩:=bind_some (show (vE ⟨i,[]⟩ T E chs).bind _=some r from h)
  obtain ⟨hb,h⟩:=aj h
  obtain ⟨r',hr,h⟩:=bind_some h
  obtain rfl:=ae h
  obtain ⟨⟨k1,k2⟩,k3⟩:=hF
  obtain ⟨p,ver,he⟩:=oc hq
  obtain ⟨q1,q2⟩:=dI hJ hs hg0 hγ hr (by simpa using hl) k3 fun e he=>hc e (p.mem_iff.2 (by simp[he]))
  refine ⟨p.trans (q1.cons _),?_⟩
  have hh:hv θ' ⟨i,[]⟩=v:=(aZ hs (show (⟨i,[]⟩:Hdr).id<n from k2)).trans k1
  have hg:hv θ' q.g=γ:=by
   rw[Hdr.beq_eq hb]
   show vg (θ' g0) [] =γ
   rw[hs g0 hg0,hγ];rfl
  show oh J' (toCh P θ' q.ent::r'.2.1.map _) (Ch.blk (bk v) [γ,.int .i64 q.d.2.1,.int .i64 q.d.2.2] T::outCh γ ps vs r'.1)
  rw[he]
  intro w F hsp
  obtain ⟨G,K,rfl,h1,h2⟩:=hsp
  have h1:(Ch.blk (bk (hv θ' ⟨i,[]⟩)) [hv θ' q.g,.int .i64 q.d.2.1,.int .i64 q.d.2.2] T).holds J' w G:=h1
  rw[hh,hg] at h1
  exact ⟨G,K,rfl,h1,q2 w K h2⟩
def ofH:(ts:List Ty)->jy ts->dens ts
 | [],_=>()
 | [_],d=>d.1
 | _::u::ts,d=>(d.1,ofH (u::ts) d.2)
theorem Jr: ∀(ts:List Ty) (d:jy ts),toH ts (ofH ts d)=d
 | [],_=>rfl
 | [_],_=>rfl
 | _::u::ts,d=>congrArg (Prod.mk d.1) (Jr (u::ts) d.2)
def uM:(ts us:List Ty)->jy ts->jy us->jy (ts++us)
 | [],_,_,e=>e
 | _::ts,us,d,e=>(d.1,uM ts us d.2 e)
theorem Fi: ∀(ts us:List Ty) (d:jy ts) (e:jy us),hFst ts us (uM ts us d e)=d
 | [],_,_,_=>rfl
 | _::ts,us,d,e=>congrArg (Prod.mk d.1) (Fi ts us d.2 e)
theorem Ln: ∀(ts us:List Ty) (d:jy ts) (e:jy us),hSnd ts us (uM ts us d e)=e
 | [],_,_,_=>rfl
 | _::ts,us,d,e=>Ln ts us d.2 e
def DZ (tt:TT) (s:Sg):List ResultVar->Option (List AV)
 | [] =>some []
 | r::rs=>(Xi tt s r).bind fun v=>(DZ tt s rs).bind fun vs=>some (v::vs)
def Js (s:Sg):List AV->List Hdr
 | [] =>[]
 | v::vs=>Bk v++Js s vs
def AA:List Ent->List Hdr
 | [] =>[]
 | e::l=>match e.2.2 with
  | .hole _ _ _ _ _ _ _ _ _ _=>e.1::AA l
  | _=>AA l
def Y1:List AV->List (Bool×Hdr)
 | [] =>[]
 | v::vs=>abq true v++Y1 vs
def HL (tr:Trs) (vs:List AV) (s:Sg):Sg:=match tr with
 | [] =>s
 | _=>Se (Py tr) (Y1 vs) s
def Td (tr:Trs) (vs:List AV) (s0:Sg):Sg:=match HL tr vs s0 with
 | s=>wY (Js s0 vs++AA s.chs) s
def nlN:List AV->(ts:List Ty)->jy ts->Int
 | [.one (.own _)],[.sl _ t],d=>((List.length (α:=t.den) d.1:Nat):Int)
 | [.one (.val v)],[.sl _ _],_=>match isNil v with
  | true=>1
  | false=>0
 | _,_,_=>0
def Y2 (an:List (Nat×Ty)) (vs:List AV) (ts:List Ty) (d:jy ts):Option Unit:=match DT 1000000 an with
 | true=>chk (0<nlN vs ts d)
 | false=>some ()
theorem Y3 {vs:List AV} {ts:List Ty} {d:jy ts} {θ:Th} (h:0<nlN vs ts d) {v:Value} (hv:vs.map (·.v θ)= [v]):yY ts d v:=by
 unfold nlN at h
 split at h
 ·intro h0
  omega
 ·split at h
  ·rename_i h1
   intro _
   have:=nH h1
   subst this
   simpa [AV.v,LV.v] using hv.symm
  ·omega
 ·omega
def PR (V:Env) (rvs:List ResultVar) (rs:List Ty) (ps:List PM) (d:denP ps) (s00:Sg):Option (dens (rs++outs ps)):=(DZ V.tt s00 rvs).bind fun vs00=>Sp vs00 s00 fun s0=>(DZ V.tt s0 rvs).bind fun vs0=>match Td V.tr vs0 s0 with
 | s=>(DZ V.tt s rvs).bind fun vs=>(Jq rs vs s.chs).bind fun r=>(dF ps.length 0 ps d r.2.2).bind fun o=>(Y2 V.an vs rs r.1).bind fun _=>some (ofH _ (uM rs (outs ps) r.1 o.1))
end R
namespace R
open Go.RowKit
open D
theorem D0 {vs:List Value} : ∀ {ts:List Ty} {i:Nat} {us:List Value} {d:jy ts},us.length=ts.length->(∀j v,us[j]? =some v->vs[i+j]? =some v)->wK i ts d (.tuple vs.toArray)=yh ts us d
 | [],i,us,d,h,_=>by
  cases us with
  | nil=>rfl
  | cons _ _=>cases h
 | t::ts,i,[],d,h,_=>by cases h
 | t::ts,i,u::us,d,h,k=>by
  have h0:vg (.tuple vs.toArray) [i] =u:=by
   show vs.toArray.getD i undef=u
   have:=k 0 u rfl
   rw[Nat.add_zero] at this
   simp[Array.getD_eq_getD_getElem?,this]
  show Ch.own t.rep (jz t.isProd (vg (.tuple vs.toArray) [i])) d.1::wK (i+1) ts d.2 _=Ch.own t.rep (jz t.isProd u) d.1::yh ts us d.2
  rw[h0,D0 (us:=us) (by simpa using h) fun j v hj=>by
   have:=k (j+1) v (by simpa using hj)
   rwa [show i+(j+1)=i+1+j from by omega] at this]
theorem MJ {ts:List Ty} {vs:List Value} {d:jy ts} (h:vs.length=ts.length):resGv ts d (ZZ vs)=yh ts vs d:=by
 match ts,vs,d,h with
 | [],[],d,_=>rfl
 | [t],[v],d,_=>rfl
 | t::u::ts,v::w::vs,d,h =>
  show wK 0 _ d (.tuple (v::w::vs).toArray)=_
  exact D0 h fun j x hj=>by rw[Nat.zero_add];exact hj
theorem Te {ts:List Ty} {vs:List Value} (h:vs.length=ts.length) (k: ∀(i:Nat) t v,ts[i]? =some t->vs[i]? =some v->qc v=t.isProd):resFa ts (ZZ vs):=by
 match ts,vs,h with
 | [],[],_=>exact ⟨#[],rfl,rfl,fun i t ht=>by simp at ht⟩
 | [t],[v],_=>exact k 0 t v rfl rfl
 | t::u::ts,v::w::vs,h =>
  refine ⟨(v::w::vs).toArray,rfl,by simpa using h,fun i t' ht=>?_⟩
  have hlt:i<(v::w::vs).length:=by rw[h];exact (List.getElem?_eq_some_iff.1 ht).1
  have:=k i t' ((v::w::vs)[i]) ht (List.getElem?_eq_getElem hlt)
  rw[<-this,Array.getD_eq_getD_getElem?,List.getElem?_toArray,List.getElem?_eq_getElem hlt];rfl
theorem Bw {P:Program} {I:Hp} {w0 w:World} {F:Ch} {J:Hp} {θ:Th} {n:Nat} {s:Sg} {a:Act} {tt:TT} (hT:TTok P tt) (hS:Sim P I w0 F n J θ s a w): ∀ {rs:List ResultVar} {vs:List AV},DZ tt s rs=some vs->Lm P a w rs (vs.map (·.v θ))/\ ∀v∈vs,v.ok P w0 J θ s.nxt s.chs
 | [],vs,h=>by
  obtain rfl:=ae (show some [] =some vs from h)
  exact ⟨rfl,fun v hv=>by cases hv⟩
 | r::rs,vs,h=>by
  obtain ⟨v,hv',h⟩:=bind_some (show (Xi tt s r).bind _=some vs from h)
  obtain ⟨us,hus,h⟩:=bind_some h
  obtain rfl:=ae h
  obtain ⟨k1,k2⟩:=Tc hT hS hv'
  obtain ⟨q1,q2⟩:=Bw hT hS hus
  refine ⟨⟨_,_,rfl,k1,q1⟩,fun x hx=>?_⟩
  rcases aB hx with rfl | hx
  ·exact k2
  ·exact q2 x hx
theorem PS {J:Hp} {a b c d:List Ch} (h:oh J a b) (k:oh J c d):oh J (a++c) (b++d):=fun w F hs=>by
 obtain ⟨G,K,rfl,e1,e2⟩:=hs.split
 exact (h w G e1).append (k w K e2)
theorem St.sepTo {J:Hp} {w0 w:World} {a b C:List Ch} (h:St J w0 w (a++C)) (k:oh J a b):St J w0 w (b++C):=by
 obtain ⟨h1,h2,F,h3,h4,h5⟩:=h
 obtain ⟨G,K,rfl,e1,e2⟩:=h3.split
 exact ⟨h1,h2,G++K,(k w G e1).append e2,h4,h5⟩
theorem D1 {P:Program} {n:Nat} {I:Hp} {w0:World} {k:FuncId} {fn:Func} {c:Code} {args:Array Value} {rn:List Ch} {fact:Value->Prop} {gv:Value->List Ch} (L:List (Nat×Value)) (hf:P.funcs[k]? =some fn) (hb:fn.body=some c) (hn:fn.ntmps=n) (hm:args.size<=n) (hL: ∀p∈L,args[p.1]? =some p.2)
  (h: ∀F w a,Agr n a L->St I w0 w (rn++ [F])->c.wp P (bodyPost P fn fun e w'=> ∃v,e= .returned v/\fact v/\ ∃J,I.le J/\St J w0 w' (gv v++ [F])) a w) (hd: ∀v,Ch.back (gv v)):Con P k args I w0 rn fact gv:=by
 intro w C hs
 have hs':St I w0 w (rn++ [Ch.fr I C]):=by
  obtain ⟨hb,hi,F,h1,h2,h3⟩:=hs
  obtain ⟨G,K,rfl,e1,e2⟩:=h1.split
  exact ⟨hb,hi,G++K,e1.append ⟨K,[],by simp,e2,rfl⟩,h2,h3⟩
 have:=h (Ch.fr I C) w { tmps:=args++Array.replicate (fn.ntmps - args.size) undef,defers:=[] } (Agr.start L (by omega) hL) hs'
 refine (calls_of_wp hf hb this).mono ?_
 rintro e w' ⟨v,rfl,hv,J,hJ,hs⟩
 exact ⟨v,rfl,hv,hs.back hJ (hd v)⟩
theorem Tf {P:Program} {I:Hp} {w0 w:World} {F:Ch} {n:Nat} {J:Hp} {θ:Th} {s:Sg} {a:Act} {tr:Trs} {vs:List AV} (hS:Sim P I w0 F n J θ s a w): ∃J' θ',J.le J'/\Sim P I w0 F n J' θ' (Td tr vs s) a w/\Fr s θ (Td tr vs s) θ':=by
 have key: ∃J' θ',J.le J'/\Sim P I w0 F n J' θ' (HL tr vs s) a w/\Fr s θ (HL tr vs s) θ':=by
  unfold HL
  split
  ·exact ⟨J,θ,Hp.le.rfl,hS,Fr.rfl⟩
  ·exact vG hS
 obtain ⟨J',θ',h1,h2,h3⟩:=key
 obtain ⟨S2,F2⟩:=ud (V:=⟨[],[],[],n,[]⟩) (hs:=Js s vs++AA (HL tr vs s).chs) h2
 exact ⟨J',θ',h1,S2,h3.trans F2⟩
theorem U4 {V:Env} {P:Program} {w0:World} {F:Ch} {J:Hp} {θ:Th} (hT:TTok P V.tt) {fn:Func} {rs:List Ty} {ps:List PM} {d:denP ps} {vs:List Value} {s0:Sg} (k0:vs.length=ps.length) (k5:StF P w0 J θ (ps.length+1) 0 ps vs d) (hn0:ps.length+1<=s0.nxt) {γ:Value} (hγ:θ ps.length=γ): ∀r J' θ' s' a' w',PR V fn.results.toList rs ps d s'=some r->Sim P J w0 F V.n J' θ' s' a' w'->J.le J'->Fr s0 θ s' θ'->
  bodyPost P fn (fun e w'=> ∃v,e= .returned v/\(resFa rs v/\(DT 1000000 V.an=true->yY rs (hFst rs (outs ps) (toH _ r)) v))/\ ∃J2,J.le J2/\St J2 w0 w' ((resGv rs (hFst rs (outs ps) (toH _ r)) v++outCh γ ps vs (hSnd rs (outs ps) (toH _ r)))++ [F])) .ret a' w':=by
 intro r J' θ' s' a' w' hrt hS' hJ hFr
 obtain ⟨vs00,hv00,hrt⟩:=bind_some (show (DZ V.tt s' fn.results.toList).bind _=some r from hrt)
 obtain ⟨s0',hrt,S0,N0⟩:=K0 hrt (Bw hT hS' hv00).2 hS'
 obtain ⟨vs0,hv0,hrt⟩:=bind_some hrt
 obtain ⟨J1,θ1,hJ1,S1,F1⟩:=Tf (tr:=V.tr) (vs:=vs0) S0
 generalize Td V.tr vs0 s0'=s1 at hrt S1 F1
 have hle:s0.nxt<=s'.nxt:=hFr.1
 have hsame:Same (ps.length+1) θ θ1:=fun i hi=>(F1.same i (by omega)).trans (hFr.same i (by omega))
 replace hJ:=hJ.trans hJ1
 clear hJ1 F1 hS' S0 hFr
 revert J1 θ1
 clear J' θ'
 intro J' θ' S1 hsame hJ
 obtain ⟨us,hus,hrt⟩:=bind_some hrt
 obtain ⟨q,hq,hrt⟩:=bind_some hrt
 obtain ⟨o,ho,hrt⟩:=bind_some hrt
 obtain ⟨u0,hnl,hrt⟩:=bind_some hrt
 obtain rfl:=ae hrt
 obtain ⟨r1,r2⟩:=Bw hT S1 hus
 obtain ⟨t1,t2,t3,t4⟩:=DY (J:=J') (θ:=θ') hq r2
 obtain ⟨o1,o2⟩:=dI (P:=P) (J:=J) (J':=J') (θ:=θ) (θ':=θ') (vs:=vs) (n:=ps.length+1) (n':=s1.nxt) (chs0:=s1.chs) hJ hsame (az _) hγ ho k0 k5 fun e he=>S1.fine.chs e (t1.mem_iff.2 (by simp[he]))
 have hl:(us.map (·.v θ')).length=rs.length:=by rw[List.length_map];exact t2
 refine aaE S1.agr r1 ⟨_,rfl,⟨Te hl fun i t v ht hv1=>?_,fun han=>?_⟩,J',hJ,?_⟩
 ·rw[List.getElem?_map] at hv1
  obtain ⟨x,hx,rfl⟩:=Option.map_eq_some_iff.1 hv1
  exact t4 i t x ht hx
 ·rw[Jr,Fi]
  unfold Y2 at hnl
  rw[han] at hnl
  have hnl:0<nlN us rs q.1:=bC hnl
  rcases us with _ | ⟨x,us⟩
  ·cases hnl
  ·cases us with
   | nil=>exact Y3 (θ:=θ') hnl rfl
   | cons y us=>unfold nlN at hnl;split at hnl <;> first | omega | simp_all
 ·rw[Jr,Fi,Ln,MJ hl]
  have hp:=t1.trans (o1.append_left _)
  have h1:=S1.st.perm ((hp.map (toCh P θ')).append_right [F])
  have h2:St J' w0 w' ((q.2.1.map (toCh P θ')++o.2.1.map (toCh P θ'))++(o.2.2.map (toCh P θ')++ [F])):=by
   simpa [aN,ai] using h1
  have h3:=St.sepTo h2 (PS t3 o2)
  refine St.left (ds:=o.2.2.map (toCh P θ')) (h3.perm ?_)
  simp only[ai]
  exact List.Perm.append_left _ (List.Perm.append_left _ List.perm_append_comm)
theorem Xm {V:Env} {P:Program} (hT:TTok P V.tt) (hF:FTok P V.ft) (hmx:P.follows .mixedOrders=true) {k:FuncId} {fn:Func} {c:Code} {f:FS} (hf:P.funcs[k]? =some fn) (hb:fn.body=some c) (hn:fn.ntmps=V.n) (hen:Enters P k) (hm:f.ps.length<=V.n) (hdp:(Hb f.rs&&xV f.ps)=true) (ann:Ann)
  (hmod: ∀d,appP f.ps f.m d=kW V (PR V fn.results.toList f.rs f.ps d) c ann (fun r=>some r) (fun _ _=>none) (PR V fn.results.toList f.rs f.ps d) (so (Bv f.ps d))): ∀w0 J γ vs (d:denP f.ps) r,Lay P J->PArgs P w0 J γ f.ps vs d->appP f.ps f.m d=some r->Con P k vs.toArray J w0 (owCh γ f.ps vs d) (fun v=>resFa f.rs v/\(DT 1000000 V.an=true->yY f.rs (hFst f.rs (outs f.ps) (toH _ r)) v)) (fun v=>resGv f.rs (hFst f.rs (outs f.ps) (toH _ r)) v++outCh γ f.ps vs (hSnd f.rs (outs f.ps) (toH _ r))):=by
 rw[ak] at hdp
 intro w0 J γ vs d r hlay ha hr
 rw[hmod] at hr
 have k0:=HK ha
 let θ:Th:=fun i=>if i=vs.length then γ else vs.getD i undef
 have hθ: ∀j v,vs[j]? =some v->θ (0+j)=v:=fun j v hj=>by
  show (if 0+j=vs.length then γ else vs.getD (0+j) undef)=v
  rw[Nat.zero_add,if_neg (Nat.ne_of_lt (List.getElem?_eq_some_iff.1 hj).1),List.getD_eq_getElem?_getD,hj];rfl
 have hθg:θ f.ps.length=γ:=by
  show (if f.ps.length=vs.length then γ else _)=γ
  rw[if_pos k0.symm]
 have hzip: ∀p∈(vs.zipIdx.map fun q=>(q.2,q.1)),vs.toArray[p.1]? =some p.2:=fun p hp=>by
  obtain ⟨q,hq,rfl⟩:=List.mem_map.1 hp
  obtain ⟨v,j⟩:=q
  have:=(List.mk_mem_zipIdx_iff_getElem? (x:=v) (i:=j)).1 hq
  simpa using this
 refine D1 (n:=V.n) (vs.zipIdx.map fun q=>(q.2,q.1)) hf hb hn (by rw[List.size_toArray,k0];exact hm) hzip (fun F w a hA hst=>?_) (fun v=>xX (dE _ _ _ hdp.2) _ _ hdp.1)
 ·obtain ⟨k1,k2,k3,k4,k5⟩:=Ll (n:=f.ps.length+1) (q:=f.ps.length) (C:=[F]) (az _) hθg ha hθ (by omega) hst
  have hfine:Fine P w0 J θ (Bv f.ps d):=⟨fun e he=>(k1 e he).1 _,fun e he=>by have:=k1 e he;show e.2.1<f.ps.length+1;omega,k2,fun e he=>k4 e he _,hlay⟩
  have hA':Agr V.n a (envL θ (Bv f.ps d)):=hA.pick _ fun p hp=>by
   obtain ⟨e,he,rfl⟩:=List.mem_map.1 hp
   have h5:=(k1 e he).2.2.2.2
   rw[Nat.sub_zero] at h5
   have key: ∀(l:List Value) (k:Nat) (i:Nat) (v:Value),k<=i->l[i - k]? =some v->((l.zipIdx k).map fun q=>(q.2,q.1)).lookup i=some v:=by
    intro l
    induction l with
    | nil=>intro k i v _ h;simp at h
    | cons x l ih =>
     intro k i v hk h
     simp only[List.zipIdx_cons,List.map_cons,List.lookup_cons]
     by_cases e:i=k
     ·subst e
      simp at h
      simp[h]
     ·have:(i==k)=false:=by simpa using e
      rw[this]
      refine ih (k+1) i v (by omega) ?_
      rw[show i - k=(i - (k+1))+1 from by omega] at h
      simpa using h
   exact key vs 0 e.1 _ (Nat.zero_le _) h5
  have hS:Sim P J w0 F V.n J θ (Bv f.ps d) a w:=⟨Hp.le.rfl,hA',k3,hfine⟩
  have fin:=U4 (rs:=f.rs) (fn:=fn) (F:=F) hT k0 k5 (aD (Bv f.ps d).nxt) hθg
  obtain ⟨θ0,hS0,hFr0⟩:=At hS
  exact (Bu (I:=J) (w0:=w0) (F:=F) hT hF hmx c).1 ann hr hS0 (fun J' θ' s' a' w' hk S' hJ hFr=>fin r J' θ' s' a' w' hk S' hJ (hFr0.trans hFr)) (fun i J' θ' s' a' w' hk=>by cases hk) (fun r' J' θ' s' a' w' hrt hrr hS' hJ hFr=>by
   obtain rfl:=ae hrr
   exact fin _ J' θ' s' a' w' hrt hS' hJ (hFr0.trans hFr))
theorem fok {V:Env} {P:Program} (hT:TTok P V.tt) (hF:FTok P V.ft) (hmx:P.follows .mixedOrders=true) {k:FuncId} {fn:Func} {c:Code} {f:FS} (hf:P.funcs[k]? =some fn) (hb:fn.body=some c) (hn:fn.ntmps=V.n) (hen:Enters P k) (hcl:f.cl=none) (hm:f.ps.length<=V.n) (hdp:(Hb f.rs&&xV f.ps)=true) (ann:Ann)
  (hmod: ∀d,appP f.ps f.m d=kW V (PR V fn.results.toList f.rs f.ps d) c ann (fun r=>some r) (fun _ _=>none) (PR V fn.results.toList f.rs f.ps d) (so (Bv f.ps d))):FOk P k f:=
 ⟨fun q hq=>by (rw[hcl] at hq;cases hq),fun _=>hen,fun _ w0 J γ vs d r hlay ha hr w C hs=>(Xm hT hF hmx hf hb hn hen hm hdp ann hmod w0 J γ vs d r hlay ha hr w C hs).mono fun e w' ⟨v,h1,h2,h3⟩=>⟨v,h1,h2.1,h3⟩⟩
theorem Lo {V:Env} {P:Program} (hT:TTok P V.tt) (hF:FTok P V.ft) (hmx:P.follows .mixedOrders=true) {k:FuncId} {fn:Func} {c:Code} {E b:Nat} (hf:P.funcs[k]? =some fn) (hb:fn.body=some c) (hn:fn.ntmps=V.n) (hen:Enters P k) (hm:1<=V.n) (ann:Ann)
  (hmod: ∀(E':TypeId) (bn:Bool) (xs:List Raw),(match bn with | true=>some ([] :List Raw) | false=>(cn b [] xs).bind fun zs=>some zs)=kW V (PR V fn.results.toList [.sl E .raw] [] ()) c ann (fun r=>some r) (fun _ _=>none) (PR V fn.results.toList [.sl E .raw] [] ()) ⟨[(0,0,.one (.rdn ⟨0,[]⟩ bn (.sl E' .raw) xs))],[],1⟩):xT P k E b:=by
 refine ⟨hen,fun E' J w0 v xs zs hlay hrd uM=>?_⟩
 obtain ⟨bn,hbn⟩: ∃bn,DE v=bn:=⟨_,rfl⟩
 have hr:kW V (PR V fn.results.toList [.sl E .raw] [] ()) c ann (fun r=>some r) (fun _ _=>none) (PR V fn.results.toList [.sl E .raw] [] ()) ⟨[(0,0,.one (.rdn ⟨0,[]⟩ bn (.sl E' .raw) xs))],[],1⟩=some zs:=by
  rw[<-hmod E' bn xs]
  cases bn with
  | false =>
   show (cn b [] xs).bind _=_
   rw[uM];rfl
  | true =>
   obtain ⟨h1,-⟩:=EY uM
   obtain ⟨ao,cap,e,-,hx⟩:=hrd
   obtain rfl:v= .slice ao xs.length cap:=by simpa using e
   rcases hx with rfl | ⟨b,off,ccs,t,fr,rfl,-⟩
   ·rw[h1];rfl
   ·cases hbn
 let θ:Th:=fun _=>v
 have key:Con P k #[v] J w0 [] (fun v=>resFa [.sl E .raw] v/\(DT 1000000 V.an=true->yY [.sl E .raw] (zs,()) v)) (fun v=>resGv [.sl E .raw] (zs,()) v++ []):=by
  refine D1 (n:=V.n) [(0,v)] hf hb hn hm (fun p hp=>by obtain rfl:=aq hp;rfl) (fun F w a hA hst=>?_) (fun u=>xX (D:=[]) trivial [.sl E .raw] (zs,()) rfl)
  have hfine:Fine P w0 J θ ⟨[(0,0,.one (.rdn ⟨0,[]⟩ bn (.sl E' .raw) xs))],[],1⟩:=⟨fun e he=>by obtain rfl:=aq he;exact ⟨Nat.one_pos,hrd,hbn⟩,fun e he=>by obtain rfl:=aq he;exact Nat.one_pos,List.pairwise_singleton _ _,fun e he=>(by cases he),hlay⟩
  have hS:Sim P J w0 F V.n J θ ⟨[(0,0,.one (.rdn ⟨0,[]⟩ bn (.sl E' .raw) xs))],[],1⟩ a w:=⟨Hp.le.rfl,hA,hst,hfine⟩
  have fin:=U4 (V:=V) (θ:=θ) (J:=J) (w0:=w0) (rs:=[.sl E .raw]) (ps:=[]) (d:=()) (vs:=[]) (s0:=⟨[(0,0,.one (.rdn ⟨0,[]⟩ bn (.sl E' .raw) xs))],[],1⟩) (fn:=fn) (F:=F) hT rfl trivial (aD _) (γ:=θ 0) rfl
  exact (Bu (I:=J) (w0:=w0) (F:=F) hT hF hmx c).1 ann hr hS (fun J' θ' s' a' w' hk S' hJ hFr=>fin _ J' θ' s' a' w' hk S' hJ hFr) (fun i J' θ' s' a' w' hk=>by cases hk) (fun r' J' θ' s' a' w' hrt hrr hS' hJ hFr=>by
   obtain rfl:=ae hrr
   exact fin _ J' θ' s' a' w' hrt hS' hJ hFr)
 exact fun w C hs=>(key w C hs).mono fun e w' ⟨v,h1,h2,h3⟩=>⟨v,h1,trivial,h3⟩
def kN:Nat->Ty
 | 0=>.raw
 | n+1=>.prod .raw (kN n)
def rL:(n:Nat)->(kN n).den->List Value
 | 0,p=>[p.1]
 | n+1,p=>p.1.1::rL n p.2
theorem sP: ∀n,(kN n).rep.size=n+1
 | 0=>rfl
 | n+1=>by
  show 1+(kN n).rep.size=_
  rw[sP n];omega
theorem Lp {I:Hp} {w:World} : ∀(n:Nat) {cs:List Value} {p:(kN n).den} {F:List Nat},(kN n).rep.own I w cs p F->F= [] /\cs=rL n p
 | 0,cs,p,F,h=>by
  obtain ⟨h1,h2⟩:=h
  exact ⟨h1,h2⟩
 | n+1,cs,p,F,⟨c,d,G,K,h1,h2,h3,h4⟩=>by
  obtain ⟨rfl,h5⟩:=h3
  obtain ⟨rfl,h6⟩:=Lp n h4
  have h5:c= [p.1.1]:=h5
  subst h1;subst h2;subst h5
  exact ⟨rfl,by rw[h6];rfl⟩
theorem PT: ∀(n:Nat) (cs:List Value),cs.length=n+1->(∀u∈cs,u.oneCell'=true)-> ∃p:(kN n).den,rL n p=cs
 | 0,cs,hl,h1=>by
  obtain ⟨u,rfl⟩:=List.length_eq_one_iff.1 hl
  exact ⟨⟨u,h1 u (by simp)⟩,rfl⟩
 | n+1,u::cs,hl,h1=>by
  obtain ⟨p,hp⟩:=PT n cs (by simpa using hl) (fun v hv=>h1 v (by simp[hv]))
  exact ⟨(⟨u,h1 u (by simp)⟩,p),by show u::rL n p=_;rw[hp]⟩
theorem kX {P:Program} {k:FuncId} {f:FS} (h:Enters P k) (hc:f.cl=none) (hm: ∀d,appP f.ps f.m d=none):FOk P k f:=
 ⟨fun q hq=>by (rw[hc] at hq;cases hq),fun _=>h,fun _ _ _ _ _ d r _ _ hr=>by rw[hm d] at hr;cases hr⟩
theorem HM {P:Program} {k:FuncId} {f:FS} {E b:Nat} (h:FOk P k ⟨f.ps,f.rs,f.m,none⟩) (hc:xT P k E b) (hb:Nat.beq b 0=false:=by rfl) (h7:Nat.beq b 7=false:=by rfl) (h8:Nat.ble 1000 b=false:=by rfl) (h9:Nat.beq b 9=false:=by rfl):FOk P k ⟨f.ps,f.rs,f.m,some (E,b)⟩:=
 ⟨fun q hq=>by obtain rfl:=ae hq;exact ⟨⟨fun e=>(by rw[hb] at e;cases e),fun _ _ _ _=>hc,fun e=>(by rw[h8] at e;cases e)⟩,fun e=>(by rw[h7] at e;cases e),fun e=>(by rw[h9] at e;cases e)⟩,fun _=>h.en rfl,fun _=>h.con rfl⟩
end R
namespace R
open Go.RowKit
open D
theorem Lq {n:Nat} {α:Type} {R:Rep α} (hR:R.Sh) (h1:R.size=n+1) {I:Hp} {w:World} : ∀ {xs:List α} {cur:List Value} {K:List Nat},OwnEls R I w cur xs K-> ∃ps:List (kN n).den,K= [] /\OwnEls (kN n).rep I w cur ps [] /\All2 (fun p x=>R.rd I (rL n p) x) ps xs
 | [],cur,K,h=>⟨[],h,rfl,.nil⟩
 | x::xs,cur,K,⟨c,rest,G,K1,e1,e2,e3,e4,e5⟩=>by
  obtain ⟨rfl,hrd⟩:=hR e4
  obtain ⟨p,rfl⟩:=PT n c (e2.trans h1) (R.rd_one hrd)
  obtain ⟨ps,rfl,k2,k3⟩:=Lq hR h1 e5
  have hraw: ∀(m:Nat) (q:(kN m).den),(kN m).rep.own I w (rL m q) q []:=by
   intro m
   induction m with
   | zero=>intro q;exact ⟨rfl,rfl⟩
   | succ m ih=>intro q;exact ⟨[q.1.1],rL m q.2,[],[],rfl,rfl,⟨rfl,rfl⟩,ih q.2⟩
  exact ⟨p::ps,e3,⟨rL n p,rest,[],[],e1,by rw[e2,h1,sP],rfl,hraw n p,k2⟩,.cons hrd k3⟩
theorem Fj {n:Nat} {α:Type} {E:TypeId} {R:Rep α} (hR:R.Sh) (h1:R.size=n+1) {I:Hp} {w0 w:World} {C:List Ch} {v:Value} {xs:List α} (h:St I w0 w (Ch.own (ah E R) [v] xs::C)): ∃ps:List (kN n).den,All2 (fun p x=>R.rd I (rL n p) x) ps xs/\St I w0 w (Ch.own (ah E (kN n).rep) [v] ps::C):=by
 obtain ⟨a1,a2,F,⟨G,K,rfl,⟨hl,k⟩,e⟩,a4,a5⟩:=h
 rcases k with ⟨hv',rfl,rfl⟩ | ⟨g,ofs,cap,cur,K1,hv',k1,k2,k3,k4,rfl,k5⟩
 ·exact ⟨[],.nil,a1,a2,[] ++K,⟨[],K,rfl,⟨Nat.zero_le _,.inl ⟨hv',rfl,rfl⟩⟩,e⟩,a4,a5⟩
 ·obtain ⟨ps,rfl,q1,q2⟩:=Lq hR h1 k5
  have hlen:=q2.length_eq
  exact ⟨ps,q2,a1,a2,[g] ++K,⟨[g],K,rfl,⟨by rw[hlen];exact hl,.inr ⟨g,ofs,cap,cur,[],by rw[hlen];exact hv',k1,by rw[hlen];exact k2,k3,by rw[h1] at k4;rw[sP];exact k4,rfl,q1⟩⟩,e⟩,a4,a5⟩
theorem HO {n:Nat} {α:Type} {R:Rep α} (hC:Cpy R R) (h1:R.size=n+1) {I:Hp} {w:World} : ∀ {ps:List (kN n).den} {xs:List α} {cur:List Value} {F:List Nat},OwnEls (kN n).rep I w cur ps F->All2 (fun p x=>R.rd I (rL n p) x) ps xs->OwnEls R I w cur xs F
 | [],[],_,_,h,_=>h
 | p::ps,x::xs,cur,F,⟨c,rest,G,K,e1,e2,e3,e4,e5⟩,hh=>by
  cases hh with
  | cons hp hps =>
   obtain ⟨rfl,rfl⟩:=Lp n e4
   exact ⟨rL n p,rest,[],K,e1,by rw[e2,sP];exact h1.symm,e3,hC hp,HO hC h1 e5 hps⟩
 | [],_::_,_,_,_,hh=>by cases hh
 | _::_,[],_,_,_,hh=>by cases hh
theorem Bx {n:Nat} {α:Type} {E:TypeId} {R:Rep α} (hC:Cpy R R) (h1:R.size=n+1) {I:Hp} {w0 w:World} {C:List Ch} {v:Value} {xs:List α} {ps:List (kN n).den} (hp:All2 (fun p x=>R.rd I (rL n p) x) ps xs) (h:St I w0 w (Ch.own (ah E (kN n).rep) [v] ps::C)):St I w0 w (Ch.own (ah E R) [v] xs::C):=by
 obtain ⟨a1,a2,F,⟨G,K,rfl,⟨hl,k⟩,e⟩,a4,a5⟩:=h
 have hlen:=hp.length_eq
 rcases k with ⟨hv',rfl,rfl⟩ | ⟨g,ofs,cap,cur,K1,hv',k1,k2,k3,k4,rfl,k5⟩
 ·cases hp
  exact ⟨a1,a2,[] ++K,⟨[],K,rfl,⟨Nat.zero_le _,.inl ⟨hv',rfl,rfl⟩⟩,e⟩,a4,a5⟩
 ·exact ⟨a1,a2,(g::K1)++K,⟨g::K1,K,rfl,⟨by rw[<-hlen];exact hl,.inr ⟨g,ofs,cap,cur,K1,by rw[<-hlen];exact hv',k1,by rw[<-hlen];exact k2,k3,by rw[sP] at k4;rw[h1];exact k4,rfl,HO hC h1 k5 hp⟩⟩,e⟩,a4,a5⟩
theorem By {α β:Type} {p:α->β->Prop} : ∀ {xs:List α} {ys:List β} (n:Nat),All2 p xs ys->All2 p (xs.take n) (ys.take n)
 | _,_,0,_=>.nil
 | _,_,n+1,.nil=>.nil
 | _,_,n+1,.cons h k=>.cons h (By n k)
theorem AB {α β:Type} {p:α->β->Prop} : ∀ {xs:List α} {ys:List β} {xs':List α} {ys':List β},All2 p xs ys->All2 p xs' ys'->All2 p (xs++xs') (ys++ys')
 | _,_,_,_,.nil,h=>h
 | _,_,_,_,.cons h k,h'=>.cons h (AB k h')
def Z1 {α:Type} (xs:List α) (i j:Int):Option (List α):=(chk (0<=i/\i<=j/\j<=(xs.length:Int))).bind fun _=>some (xs.take i.toNat++xs.drop j.toNat)
def Z2 {α:Type} (z:α) (p0s:List α) (p1i p2j:Int):Option (List α):=
 (chk (And (0<=p1i) (And (p1i<=p2j) (And (p2j<=(p0s.length:Int)) ((0+(p0s.length:Int))<=(p0s.length:Int)))))).bind fun _=>if p1i==p2j then (some p0s) else ((chk (And ((0:Int)<=0) (And (0<=p1i) ((0+p1i)<=(p0s.length:Int))))).bind fun _=>(chk (And (0<=p2j) (And (p2j<=((p0s.length:Int) - 0)) ((0+((p0s.length:Int) - 0))<=(p0s.length:Int))))).bind fun _=>(chk (And ((0+0:Int)=0) (And ((0+p1i)<=(0+p2j)) (And ((0+p2j)<=(0+((p0s.length:Int) - 0))) ((0+((p0s.length:Int) - 0))<=(p0s.length:Int)))))).bind fun _=>(chk (And (0<=(((0+p1i)+((0+((p0s.length:Int) - 0)) - (0+p2j))) - 0)) (And ((((0+p1i)+((0+((p0s.length:Int) - 0)) - (0+p2j))) - 0)<=(p0s.length:Int)) ((0+(p0s.length:Int))<=((py p0s ((0+p1i).toNat) ((0+p2j).toNat) ((0+((p0s.length:Int) - 0)).toNat)).length:Int))))).bind fun _=>(chk (And ((0+(((0+p1i)+((0+((p0s.length:Int) - 0)) - (0+p2j))) - 0))<=(0+(p0s.length:Int))) ((0+(p0s.length:Int))<=((py p0s ((0+p1i).toNat) ((0+p2j).toNat) ((0+((p0s.length:Int) - 0)).toNat)).length:Int)))).bind fun _=>some (((xZ (py p0s ((0+p1i).toNat) ((0+p2j).toNat) ((0+((p0s.length:Int) - 0)).toNat)) ((0+(((0+p1i)+((0+((p0s.length:Int) - 0)) - (0+p2j))) - 0)).toNat) ((0+(p0s.length:Int)).toNat) z).take (((0+p1i)+((0+((p0s.length:Int) - 0)) - (0+p2j))).toNat)).drop ((0:Int).toNat)))
theorem chk_of {α:Type} {p:Prop} [Decidable p] {k:Unit->Option α} (h:p):(chk p).bind k=k ():=by
 unfold chk
 rw[if_pos h];rfl
theorem Xn {α:Type} {z:α} {xs:List α} {i j:Int} (h1:0<=i) (h2:i<=j) (h3:j<=(xs.length:Int)):Z2 z xs i j=some (xs.take i.toNat++xs.drop j.toNat):=by
 have hsl:(py xs ((0+i).toNat) ((0+j).toNat) ((0+((xs.length:Int) - 0)).toNat)).length=xs.length:=wU (by omega) (by omega) (by omega)
 unfold Z2
 rw[chk_of (by omega)]
 by_cases hij:i=j
 ·subst hij
  rw[if_pos (by simp),List.take_append_drop]
 ·rw[if_neg (by simpa using hij),chk_of (by omega),chk_of (by omega),chk_of (by omega),chk_of (by rw[hsl];omega),chk_of (by rw[hsl];omega)]
  have hzl:(xZ (py xs ((0+i).toNat) ((0+j).toNat) ((0+((xs.length:Int) - 0)).toNat)) ((0+(((0+i)+((0+((xs.length:Int) - 0)) - (0+j))) - 0)).toNat) ((0+(xs.length:Int)).toNat) z).length=xs.length:=by
   rw[y7 (by omega) (by rw[hsl];omega),hsl]
  congr 1
  rw[show ((0:Int).toNat)=0 from rfl,List.drop_zero]
  apply List.ext_getElem?
  intro q
  have hi:(xs.take i.toNat).length=i.toNat:=by rw[aA];omega
  rw[List.getElem?_take]
  by_cases c:q<((0+i)+((0+((xs.length:Int) - 0)) - (0+j))).toNat
  ·rw[if_pos c,Hi (by omega) (by rw[hsl];omega),if_neg (by omega),DP (by omega) (by omega) (by omega)]
   by_cases c1:q<i.toNat
   ·rw[if_neg (by omega),List.getElem?_append_left (by omega),List.getElem?_take,if_pos c1]
   ·rw[if_pos (by omega),List.getElem?_append_right (by omega),hi,List.getElem?_drop]
    congr 1;omega
  ·rw[if_neg c,List.getElem?_append_right (by omega),List.getElem?_drop,List.getElem?_eq_none (by omega)]
theorem Xo {P:Program} {k:FuncId} {E n:Nat} {u:Ty} {z:(kN n).den} (hu:u.sh=true) (hs:u.size=n+1) (h:FOk P k ⟨[.eat (.sl E (kN n)),.rd (.int .i64),.rd (.int .i64)],[.sl E (kN n)],Z2 z,none⟩):FOk P k ⟨[.eat (.sl E u),.rd (.int .i64),.rd (.int .i64)],[.sl E u],Z1,none⟩:=by
 refine ⟨fun q hq=>(by cases hq),fun _=>h.en rfl,fun _ w0 J γ vs d r hlay ha uM=>?_⟩
 obtain ⟨v,vs1,rfl,hd,v2,vs2,rfl,hd2,v3,vs3,rfl,hd3,hnil⟩:=ha
 obtain rfl:vs3= []:=hnil
 obtain ⟨xs0,i0,j0,un⟩:=d
 let xs:List u.den:=xs0
 let i:Int:=i0
 let j:Int:=j0
 let zs:List u.den:=r
 have uM:Z1 xs i j=some zs:=uM
 obtain ⟨u1,hc,hz⟩:=Option.bind_eq_some_iff.1 uM
 obtain ⟨c1,c2,c3⟩:=bC hc
 have hz:=ae hz
 have hsz:u.rep.size=n+1:=(Ty.rep_size u).trans hs
 intro w C hst
 have hst:St J w0 w (Ch.own (ah E u.rep) [v] xs::C):=hst
 obtain ⟨ps,hp,hst2⟩:=Fj (Ty.sh_ok hu) hsz hst
 have hlen:=hp.length_eq
 have hm:Z2 z ps i j=some (ps.take i.toNat++ps.drop j.toNat):=Xn c1 c2 (by rw[hlen];exact c3)
 have key:=h.con rfl w0 J undef [v,v2,v3] (ps,i,j,()) (show dens ([Ty.sl E (kN n)] ++ []) from ps.take i.toNat++ps.drop j.toNat) hlay ⟨v,_,rfl,hd,v2,_,rfl,hd2,v3,_,rfl,hd3,rfl⟩ hm
 refine (key w C hst2).mono fun e w' ⟨r,a1,a2,a3⟩=>⟨r,a1,a2,?_⟩
 have a3:St J w0 w' (Ch.own (ah E (kN n).rep) [r] (ps.take i.toNat++ps.drop j.toNat)::C):=a3
 show St J w0 w' (Ch.own (ah E u.rep) [r] zs::C)
 rw[<-hz]
 exact Bx (Ty.cpy hu) hsz (AB (By _ hp) (px _ hp)) a3
def abw {α:Type} (b:Nat) (z:α) (xs:List α) (i:Int) (v:List α) (c:Nat):Option (List α×List α):=
 (chk ((0:Int)<=0/\0<=i/\0+i<=(xs.length:Int))).bind fun _ =>
 (chk ((0+0:Int)=0/\0+i<=(xs.length:Int)/\0<i64.wrap (i64.wrap ((xs.length:Int)+(v.length:Int)) - i)/\(c:Int)<(0+i)+i64.wrap (i64.wrap ((xs.length:Int)+(v.length:Int)) - i)/\((0+i)+i64.wrap (i64.wrap ((xs.length:Int)+(v.length:Int)) - i))*(b:Int)<=140737488355328)).bind fun _ =>
 (fun s2:List α=>(chk (0<=i/\i<=(s2.length:Int) - 0/\0+((s2.length:Int) - 0)<=(s2.length:Int))).bind fun _ =>
  (chk ((0:Int)<=0/\0<=min ((v.length:Int) - 0) ((0+((s2.length:Int) - 0)) - (0+i))/\0+min ((v.length:Int) - 0) ((0+((s2.length:Int) - 0)) - (0+i))<=(v.length:Int)/\0<=0+i/\0+i<=(s2.length:Int)/\0+((s2.length:Int) - 0)<=(s2.length:Int))).bind fun _ =>
  (fun s3:List α=>(chk (0<=i64.wrap (i+(v.length:Int))/\i64.wrap (i+(v.length:Int))<=(s3.length:Int) - 0/\0+((s3.length:Int) - 0)<=(s3.length:Int))).bind fun _ =>
   (chk (0<=i/\i<=(xs.length:Int) - 0/\0+((xs.length:Int) - 0)<=(xs.length:Int))).bind fun _ =>
   (chk (0<=0+i/\0<=min ((0+((xs.length:Int) - 0)) - (0+i)) ((0+((s3.length:Int) - 0)) - (0+i64.wrap (i+(v.length:Int))))/\(0+i)+min ((0+((xs.length:Int) - 0)) - (0+i)) ((0+((s3.length:Int) - 0)) - (0+i64.wrap (i+(v.length:Int))))<=(xs.length:Int)/\0<=0+i64.wrap (i+(v.length:Int))/\0+i64.wrap (i+(v.length:Int))<=(s3.length:Int)/\0+((s3.length:Int) - 0)<=(s3.length:Int))).bind fun _ =>
   some (xM s3 (0+i64.wrap (i+(v.length:Int))).toNat (zR xs (0+i) (min ((0+((xs.length:Int) - 0)) - (0+i)) ((0+((s3.length:Int) - 0)) - (0+i64.wrap (i+(v.length:Int)))))),v))
  (xM s2 (0+i).toNat (zR v 0 (min ((v.length:Int) - 0) ((0+((s2.length:Int) - 0)) - (0+i))))))
 (xs.take (0+i).toNat++List.replicate (i64.wrap (i64.wrap ((xs.length:Int)+(v.length:Int)) - i)).toNat z)
def abx {α:Type} (xs:List α) (i:Int) (v:List α) (c:Nat):Option (List α×List α):=
 (fun w0 w:Int=>(chk ((xs.length:Int)<=w0/\w0<=(c:Int))).bind fun _ =>
  (chk (0<=w/\w<=w0 - 0/\w0 - 0<=w0 - 0)).bind fun _ =>
  (chk (0<v.length/\0+w<0+(w0 - 0))).bind fun _ =>
  (chk (0<=w/\w<=w0 - 0/\w0 - 0<=w0 - 0)).bind fun _ =>
  (chk (0<=i/\i<=w0 - 0/\w0 - 0<=w0 - 0)).bind fun _ =>
  (chk (0<=0+i/\0<=min ((0+(w0 - 0)) - (0+i)) ((0+(w0 - 0)) - (0+w))/\(0+i)+min ((0+(w0 - 0)) - (0+i)) ((0+(w0 - 0)) - (0+w))<=(xs.length:Int)/\0<=0+w/\0+w<=(xs.length:Int))).bind fun _ =>
  (chk ((0+w)+min ((0+(w0 - 0)) - (0+i)) ((0+(w0 - 0)) - (0+w))=w0/\(xs.length:Int)<=w0)).bind fun _ =>
  (fun s2:List α=>(chk (0<=i/\i<=(s2.length:Int) - 0/\0+((s2.length:Int) - 0)<=(s2.length:Int))).bind fun _ =>
   (chk ((0:Int)<=0/\0<=min ((v.length:Int) - 0) ((0+((s2.length:Int) - 0)) - (0+i))/\0+min ((v.length:Int) - 0) ((0+((s2.length:Int) - 0)) - (0+i))<=(v.length:Int)/\0<=0+i/\0+i<=(s2.length:Int)/\0+((s2.length:Int) - 0)<=(s2.length:Int))).bind fun _ =>
   some (xM s2 (0+i).toNat (zR v 0 (min ((v.length:Int) - 0) ((0+((s2.length:Int) - 0)) - (0+i)))),v))
  (xM xs (0+w).toNat (zR xs (0+i) (min ((0+(w0 - 0)) - (0+i)) ((0+(w0 - 0)) - (0+w))))))
 (i64.wrap ((xs.length:Int)+(v.length:Int))) (i64.wrap (i+(v.length:Int)))
noncomputable def aaF {α:Type} (b:Nat) (z:α) (xs:List α) (i:Int) (v:List α):Option (List α×List α):=
 (chk (0<=i/\i<=(xs.length:Int) - 0/\0+((xs.length:Int) - 0)<=(xs.length:Int))).bind fun _ =>
 if (v.length:Int)==0 then some (xs,v) else if i==(xs.length:Int) then (cn b xs v).bind fun zs=>some (zs,v) else
 K4 xs.length fun c=>if ZI .gtr (i64.wrap ((xs.length:Int)+(v.length:Int))) (c:Int) then abw b z xs i v c else abx xs i v c
def Xp {α:Type} (b:Nat) (xs:List α) (i:Int) (v:List α):Option (List α×List α):=
 (chk (0<=i/\i<=(xs.length:Int)/\v.length=1/\1<=b/\(xs.length+1)*b<=140737488355328)).bind fun _=>some (xs.take i.toNat++(v++xs.drop i.toNat),v)
theorem PU {α:Type} {xs v:List α} {i q:Nat} (hi:i<=xs.length) (hv:v.length=1):(xs.take i++(v++xs.drop i))[q]? =if q<i then xs[q]? else if q=i then v[0]? else xs[q - 1]? :=by
 have hl:(xs.take i).length=i:=by rw[aA];omega
 by_cases c1:q<i
 ·rw[if_pos c1,List.getElem?_append_left (by omega),List.getElem?_take,if_pos c1]
 ·rw[if_neg c1,List.getElem?_append_right (by omega),hl]
  by_cases c2:q=i
  ·rw[if_pos c2,List.getElem?_append_left (by omega),c2,Nat.sub_self]
  ·rw[if_neg c2,List.getElem?_append_right (by omega),hv,List.getElem?_drop];congr 1;omega
set_option maxHeartbeats 1000000 in
theorem Xq {α:Type} {b:Nat} {z:α} {xs v:List α} {i:Int} {r:List α×List α} (h:Xp b xs i v=some r):aaF b z xs i v=some r:=by
 obtain ⟨u,hc,h⟩:=Option.bind_eq_some_iff.1 h
 obtain ⟨h1,h2,hv,hb,hbig⟩:=bC hc
 obtain rfl:=ae h
 have hn:xs.length+1<=140737488355328:=by
  have:(xs.length+1)*1<=(xs.length+1)*b:=Nat.mul_le_mul_left _ hb
  omega
 obtain ⟨k,rfl⟩: ∃k:Nat,i=(k:Int):=⟨i.toNat,by omega⟩
 have hk:k<=xs.length:=by omega
 have w1:i64.wrap ((xs.length:Int)+(v.length:Int))=((xs.length+1:Nat):Int):=by rw[hv,IntKind.wrap_i64];omega
 have w2:i64.wrap ((k:Int)+(v.length:Int))=((k+1:Nat):Int):=by rw[hv,IntKind.wrap_i64];omega
 have w3:i64.wrap (((xs.length+1:Nat):Int) - (k:Int))=((xs.length+1 - k:Nat):Int):=by rw[IntKind.wrap_i64];omega
 unfold aaF
 rw[chk_of (by omega)]
 rw[if_neg (by rw[hv];decide)]
 by_cases hkn:k=xs.length
 ·subst hkn
  rw[if_pos (by simp)]
  have:cn b xs v=some (xs++v):=by unfold cn;rw[if_pos (by rw[hv];exact hbig)]
  rw[this]
  simp
 ·rw[if_neg (by simp;omega)]
  have tk:((k:Int)).toNat=k:=rfl
  have t0:(0+(k:Int)).toNat=k:=by omega
  have t1:(0+((k+1:Nat):Int)).toNat=k+1:=by omega
  have sv:zR v 0 1=v:=by
   unfold zR
   rw[show ((0:Int)+1).toNat=1 from rfl,show ((0:Int)).toNat=0 from rfl,List.drop_zero,List.take_of_length_le (by omega)]
  have sx:zR xs (0+(k:Int)) ((xs.length:Int) - (k:Int))=xs.drop k:=by
   unfold zR
   rw[t0,show (0+(k:Int)+((xs.length:Int) - (k:Int))).toNat=xs.length from by omega,List.take_length]
  have hdl:(xs.drop k).length=xs.length - k:=aS
  refine Pe (by unfold maxLen;omega) fun c c1 c2=>?_
  have hcmp:ZI .gtr (i64.wrap ((xs.length:Int)+(v.length:Int))) (c:Int)=decide (((xs.length+1:Nat):Int)>(c:Int)):=by rw[w1];rfl
  rw[hcmp]
  by_cases hg:xs.length+1>c
  ·rw[if_pos (by simp;omega)]
   unfold abw
   rw[w1,w2,w3]
   generalize hs2:xs.take (0+(k:Int)).toNat++List.replicate (((xs.length+1 - k:Nat):Int)).toNat z=s2
   have l2:s2.length=xs.length+1:=by rw[<-hs2,t0,aw,aA,List.length_replicate];omega
   have m1:min ((v.length:Int) - 0) ((0+((s2.length:Int) - 0)) - (0+(k:Int)))=1:=by rw[hv,l2];omega
   simp only[m1,sv,t0]
   have lc:(xM s2 k v).length=xs.length+1:=by rw[oz (by omega),l2,hv];omega
   have m2:min ((0+((xs.length:Int) - 0)) - (0+(k:Int))) ((0+(((xM s2 k v).length:Int) - 0)) - (0+((k+1:Nat):Int)))=(xs.length:Int) - (k:Int):=by rw[lc];omega
   simp only[m2,sx,t1]
   have hbi:((xs.length+1:Nat):Int)*(b:Int)<=140737488355328:=by rw[<-Int.natCast_mul];omega
   rw[chk_of (by omega),chk_of (by
    refine ⟨by omega,by omega,by omega,by omega,?_⟩
    rw[show (0+(k:Int))+((xs.length+1 - k:Nat):Int)=((xs.length+1:Nat):Int) from by omega]
    exact hbi),chk_of (by rw[l2];omega),chk_of (by rw[l2,hv];omega),chk_of (by rw[lc];omega),chk_of (by omega),chk_of (by rw[lc];omega)]
   congr 2
   apply List.ext_getElem?
   intro q
   rw[wX (by rw[lc];omega),hdl,tk,PU hk hv]
   by_cases q1:k+1<=q/\q<k+1+(xs.length - k)
   ·rw[if_pos q1,if_neg (by omega),if_neg (by omega),List.getElem?_drop];congr 1;omega
   ·rw[if_neg q1,wX (by omega),hv]
    by_cases q2:q<k
    ·rw[if_neg (by omega),if_pos q2,<-hs2,t0,List.getElem?_append_left (by rw[aA];omega),List.getElem?_take,if_pos q2]
    ·by_cases q3:q=k
     ·rw[if_pos (by omega),if_neg q2,if_pos q3,q3,Nat.sub_self]
     ·rw[if_neg (by omega),if_neg q2,if_neg q3,List.getElem?_eq_none (by omega),List.getElem?_eq_none (by omega)]
  ·rw[if_neg (by simp;omega)]
   unfold abx
   simp only
   rw[w1,w2]
   have m3:min ((0+((((xs.length+1:Nat):Int)) - 0)) - (0+(k:Int))) ((0+((((xs.length+1:Nat):Int)) - 0)) - (0+((k+1:Nat):Int)))=(xs.length:Int) - (k:Int):=by omega
   simp only[m3,sx,t0,t1]
   have lc:(xM xs (k+1) (xs.drop k)).length=xs.length+1:=by rw[oz (by omega),hdl];omega
   have m4:min ((v.length:Int) - 0) ((0+(((xM xs (k+1) (xs.drop k)).length:Int) - 0)) - (0+(k:Int)))=1:=by rw[lc,hv];omega
   simp only[m4,sv]
   rw[chk_of (by omega),chk_of (by omega),chk_of (by rw[hv];omega),chk_of (by omega),chk_of (by omega),chk_of (by omega),chk_of (by omega),chk_of (by rw[lc];omega),chk_of (by rw[lc,hv];omega)]
   congr 2
   apply List.ext_getElem?
   intro q
   rw[wX (by rw[lc];omega),hv,tk,PU hk hv]
   by_cases q3:q=k
   ·rw[if_pos (by omega),if_neg (by omega),if_pos q3,q3,Nat.sub_self]
   ·rw[if_neg (by omega),wX (by omega),hdl]
    by_cases q2:q<k
    ·rw[if_neg (by omega),if_pos q2]
    ·rw[if_neg q2,if_neg q3]
     by_cases q4:q<k+1+(xs.length - k)
     ·rw[if_pos (by omega),List.getElem?_drop];congr 1;omega
     ·rw[if_neg (by omega),List.getElem?_eq_none (by omega),List.getElem?_eq_none (by omega)]
theorem Y4 {P:Program} {k:FuncId} {E:TypeId} (h:ZM P k):FOk P k ⟨[],[],none,some (E,0)⟩:=
 ⟨fun q hq=>(by obtain rfl:=ae hq;exact ⟨⟨fun _=>h,fun e=>(by cases e),fun e=>(by cases e)⟩,fun e=>(by cases e),fun e=>(by cases e)⟩),fun e=>(by cases e),fun e=>(by cases e)⟩
theorem Xr {P:Program} {k:FuncId} {E n b:Nat} {u:Ty} {z:(kN n).den} (hu:u.sh=true) (hs:u.size=n+1) (h:FOk P k ⟨[.eat (.sl E (kN n)),.rd (.int .i64),.ow (.sl E (kN n))],[.sl E (kN n)],aaF b z,none⟩):FOk P k ⟨[.eat (.sl E u),.rd (.int .i64),.ow (.sl E u)],[.sl E u],Xp b,none⟩:=by
 refine ⟨fun q hq=>(by cases hq),fun _=>h.en rfl,fun _ w0 J γ vs d r hlay ha uM=>?_⟩
 obtain ⟨v,vs1,rfl,hd,v2,vs2,rfl,hd2,v3,vs3,rfl,hd3,hnil⟩:=ha
 obtain rfl:vs3= []:=hnil
 obtain ⟨xs0,i0,y0,un⟩:=d
 let xs:List u.den:=xs0
 let i:Int:=i0
 let ys:List u.den:=y0
 let zs:List u.den×List u.den:=r
 have uM:Xp b xs i ys=some zs:=uM
 obtain ⟨u1,hc,hz⟩:=Option.bind_eq_some_iff.1 uM
 have hc:=bC hc
 have hz:=ae hz
 have hsz:u.rep.size=n+1:=(Ty.rep_size u).trans hs
 intro w C hst
 have hst:St J w0 w (Ch.own (ah E u.rep) [v] xs::Ch.own (ah E u.rep) [v3] ys::C):=hst
 obtain ⟨ps,hp,hst2⟩:=Fj (Ty.sh_ok hu) hsz hst
 obtain ⟨qs,hq,hst3⟩:=Fj (Ty.sh_ok hu) hsz (hst2.perm (List.Perm.swap _ _ _))
 have hst4:=hst3.perm (List.Perm.swap _ _ _)
 have hlen:=hp.length_eq
 have hlen2:=hq.length_eq
 have hi:Xp b ps i qs=some (ps.take i.toNat++(qs++ps.drop i.toNat),qs):=by
  unfold Xp
  rw[chk_of (by rw[hlen,hlen2];exact hc)]
 have hm:=Xq (z:=z) hi
 have key:=h.con rfl w0 J undef [v,v2,v3] (ps,i,qs,()) (show dens ([Ty.sl E (kN n)] ++ [Ty.sl E (kN n)]) from (ps.take i.toNat++(qs++ps.drop i.toNat),qs)) hlay ⟨v,_,rfl,hd,v2,_,rfl,hd2,v3,_,rfl,hd3,rfl⟩ hm
 refine (key w C hst4).mono fun e w' ⟨r,a1,a2,a3⟩=>⟨r,a1,a2,?_⟩
 have a3:St J w0 w' (Ch.own (ah E (kN n).rep) [r] (ps.take i.toNat++(qs++ps.drop i.toNat))::Ch.own (ah E (kN n).rep) [v3] qs::C):=a3
 have b1:=Bx (Ty.cpy hu) hsz (AB (By _ hp) (AB hq (px _ hp))) a3
 have b2:=Bx (Ty.cpy hu) hsz hq (b1.perm (List.Perm.swap _ _ _))
 show St J w0 w' (Ch.own (ah E u.rep) [r] zs.1::Ch.own (ah E u.rep) [v3] zs.2::C)
 rw[<-hz]
 exact b2.perm (List.Perm.swap _ _ _)
end R
namespace R
open Go.RowKit Go.Shelf Go.Sort
open D
def Tg (xs:List ByteArray) (sep:ByteArray):Option ByteArray:=(chk (xs.length<=140737488355328/\(Lib.join (xs.map (·.data.toList)) sep.data.toList).length<=140737488355328)).bind fun _=>some ⟨(Lib.join (xs.map (·.data.toList)) sep.data.toList).toArray⟩
def Ti (n:Int):Option ByteArray:=(chk (-9223372036854775808<=n/\n<=9223372036854775807)).bind fun _=>some ⟨(Lib.itoa n).toArray⟩
section
variable {P:Program} {ρ:Ren}
theorem St.grownS {I:Hp} {w0 w:World} {cs:List Ch} (h:St I w0 w cs) (os:Array Obj):St I w0 (grow w os) cs:=by
 refine St.step (w:=w) (c:=[]) (c':=[]) h rfl rfl rfl (by simp[grow]) ?_
 rintro F rfl - -
 exact ⟨fun b hb _=>heap_grow_old w os hb,[],rfl,List.nodup_nil,by simp⟩
theorem St.belowS {I:Hp} {w0 w w':World} {cs:List Ch} (h:St I w0 w cs) (hb:Below w.heap.size w w'):St I w0 w' cs:=by
 refine St.step (w:=w) (c:=[]) (c':=[]) h hb.os hb.tape hb.output hb.size ?_
 rintro F rfl - -
 exact ⟨fun b hb' _=>hb.block b hb',[],rfl,List.nodup_nil,by simp⟩
theorem Tj (L:LaysM.n171 P ρ) (en:Enters P (ρ.f 171)):FOk P (ρ.f 171) ⟨[.rd (.int .i64)],[.str],fun n=>Ti n,none⟩:=by
 refine ⟨fun q hq=>(by cases hq),fun _=>en,fun _ w0 J γ vs d r hlay ha uM=>?_⟩
 obtain ⟨v,vs1,rfl,⟨c1,l1,r1⟩,hnil⟩:=ha
 obtain rfl:vs1= []:=hnil
 obtain ⟨n0,un⟩:=d
 let n:Int:=n0
 obtain rfl:c1= [v]:=l1
 obtain rfl:v= .int .i64 n:=(List.cons.inj r1).1
 obtain ⟨u1,hc,hz⟩:=Option.bind_eq_some_iff.1 (show Ti n=some r from uM)
 have hc:=bC hc
 obtain rfl:=ae hz
 intro w C hst
 have hst:St J w0 w C:=hst
 refine (Any.strconv_Itoa L n hc.1 hc.2 w (hlay w hst.2.1).tab).mono ?_
 rintro e w' ⟨rfl,k,os,rfl⟩
 have hw:St J w0 (w.drewN k) C:=hst.drawn rfl rfl rfl rfl
 exact ⟨_,rfl,rfl,D.St.free (R:=Et) (c:=[.string _]) (St.grownS hw os) ⟨rfl,rfl⟩⟩
theorem Tk (L:Lays.n156 P ρ) (X:Builder.Extra P ρ) (E:TypeId) (en:Enters P (ρ.f 156)):FOk P (ρ.f 156) ⟨[.rd (.sl E .str),.rd .str],[.str],fun xs s=>Tg xs s,none⟩:=by
 refine ⟨fun q hq=>(by cases hq),fun _=>en,fun _ w0 J γ vs d r hlay ha uM=>?_⟩
 obtain ⟨v,vs1,rfl,⟨c1,l1,r1⟩,v2,vs2,rfl,⟨c2,l2,r2⟩,hnil⟩:=ha
 obtain rfl:vs2= []:=hnil
 obtain ⟨xs0,sep,un⟩:=d
 let xs:List ByteArray:=xs0
 obtain rfl:c1= [v]:=l1
 obtain rfl:c2= [v2]:=l2
 obtain rfl:v2= .string sep:=(List.cons.inj r2).1
 obtain ⟨u1,hc,hz⟩:=Option.bind_eq_some_iff.1 (show Tg xs sep=some r from uM)
 have hc:=bC hc
 obtain rfl:=ae hz
 obtain ⟨ao,cap,hv,⟨hl,hcap⟩,hx⟩:((ah E Et).rd J [v] xs):=r1
 obtain rfl:=(List.cons.inj hv).1
 intro w C hst
 have hst:St J w0 w C:=hst
 rcases hx with hx | ⟨b,off,ccs,t,fr,rfl,h2,h4⟩
 ·have hx:xs= []:=hx
  rw[hx] at hc⊢
  refine (Any.strings_Join_none L X ao cap sep w).mono ?_
  rintro e w' ⟨rfl,rfl⟩
  refine ⟨_,rfl,rfl,?_⟩
  exact D.St.free (R:=Et) (c:=[.string _]) hst ⟨rfl,rfl⟩
 ·have hg:=hst.2.1 _ _ h2
  have hblk:b<w.heap.size:=(Array.getElem?_eq_some_iff.1 hg).1
  refine (Any.strings_Join L X b off cap xs sep w (fun j x hj=>?_) hblk hc.1 hcap hc.2).mono ?_
  ·obtain ⟨c,e1,e2,e3⟩:=h4 j x hj
   obtain rfl:c= [.string x]:=e3
   have:=e2 0 Nat.one_pos
   have e:off+j*Et.size+0=off+j:=by show off+j*1+0=_;omega
   rw[e] at this
   unfold World.cell?
   have hg:w.heap[b]? =some (.cells ccs t fr):=hg
   simp only[hg]
   rw[<-Array.getElem?_toList,this]
   rfl
  ·rintro e w' ⟨rfl,hb⟩
   exact ⟨_,rfl,rfl,D.St.free (R:=Et) (c:=[.string _]) (St.belowS hst hb) ⟨rfl,rfl⟩⟩
end
end R
namespace D
open Go.RowKit Go.Shelf
theorem Xs {I:Hp} {w0 w:World} {cs:List Ch} {α:Type} {E:TypeId} {enc:α->Value} {h1: ∀a,(enc a).oneCell'=true} {b:Nat} {xs:List α} (hl:xs.length<=lim) (h:St I w0 w (Ch.blk b (xs.map enc) E::cs)):St I w0 w (Ch.own (ah E (lO α enc h1)) [.slice (some ⟨b,0,none⟩) xs.length xs.length] xs::cs):=by
 obtain ⟨hb,hi,F,⟨G,K,rfl,⟨rfl,hg⟩,e⟩,h4,h5⟩:=h
 refine ⟨hb,hi,[b] ++K,⟨[b],K,rfl,⟨hl,.inr ⟨b,0,xs.length,_,[],rfl,hg,aD _,hl,?_,rfl,?_⟩⟩,e⟩,h4,h5⟩
 ·show 0+xs.length*1<=_
  simp
 ·refine km.2 ⟨rfl,[],?_⟩
  simp
end D
namespace R
open Go.RowKit Go.Shelf Go.Sort
open D
def Lr (s sep:ByteArray):Option (List ByteArray):=(chk (s.size<4294967281/\1<=sep.size)).bind fun _=>some (Lib.splitB sep 0 (Lib.countB s sep) s)
def Y5 (s sep:ByteArray):Option (ByteArray×ByteArray×Bool):=(chk (s.size<4294967281)).bind fun _=>some (⟨(Lib.cut s.data.toList sep.data.toList).1.toArray⟩,⟨(Lib.cut s.data.toList sep.data.toList).2.1.toArray⟩,(Lib.cut s.data.toList sep.data.toList).2.2)
def yi (s:ByteArray) (c:Int):Option Int:=some (Lib.indexByte s.data.toList c.toNat.toUInt8)
def sQ (s:ByteArray):Option (Int×Bool):=
 if 10<s.size then some (0,false) else
 match Lib.atoi s.data.toList with
 | none=>some (0,false)
 | some n=>if (⟨(Lib.itoa n).toArray⟩:ByteArray)=s/\ -999999999<=n/\n<=999999999 then some (n,true) else some (0,false)
section
variable {P:Program} {ρ:Ren}
theorem PV (L:Lays.n146 P ρ) (hi9:(P.info? (ρ.t 9)).map (fun i=>(i.zero,i.size,i.bytes))=some (some (.string ByteArray.empty),1,16)) (m1:P.globalNamed "internal/bytealg.MaxLen" =some (ρ.g 1)) (en:Enters P (ρ.f 146)):FOk P (ρ.f 146) ⟨[.rd .str,.rd .str],[.sl (ρ.t 9) .str],fun s sep=>Lr s sep,none⟩:=by
 refine ⟨fun q hq=>(by cases hq),fun _=>en,fun _ w0 J γ vs d r hlay ha uM=>?_⟩
 obtain ⟨v,vs1,rfl,⟨c1,l1,r1⟩,v2,vs2,rfl,⟨c2,l2,r2⟩,hnil⟩:=ha
 obtain rfl:vs2= []:=hnil
 obtain ⟨s0,sep0,un⟩:=d
 let s:ByteArray:=s0
 let sep:ByteArray:=sep0
 obtain rfl:c1= [v]:=l1
 obtain rfl:c2= [v2]:=l2
 obtain rfl:v= .string s:=(List.cons.inj r1).1
 obtain rfl:v2= .string sep:=(List.cons.inj r2).1
 obtain ⟨u1,hc,hz⟩:=Option.bind_eq_some_iff.1 (show Lr s sep=some r from uM)
 have hc:=bC hc
 obtain rfl:=ae hz
 intro w C hst
 have hst:St J w0 w C:=hst
 obtain ⟨g,m,hg,hm⟩:=(hlay w hst.2.1).len
 obtain rfl:=ae (m1.symm.trans hg)
 refine (Any.strings_Split L hi9 s sep m w hc.1 hm hc.2).mono ?_
 rintro e w' ⟨rfl,rfl⟩
 refine ⟨_,rfl,rfl,?_⟩
 have hlen:(Lib.splitB sep 0 (Lib.countB s sep) s).length=Lib.countB s sep+1:=Lib.splitB_all sep hc.2 0 _ s rfl
 have hle:=Lib.countB_le sep hc.2 s.size s (aD _)
 have h3:=D.Xs (E:=ρ.t 9) (enc:=Value.string) (h1:=fun _=>rfl) (b:=w.heap.size) (xs:=Lib.splitB sep 0 (Lib.countB s sep) s) (by rw[hlen];have:lim=9223372036854775807:=rfl;omega) (hst.alloc _ _)
 rw[hlen] at h3
 exact h3
theorem Xt (L:Lays.n145 P ρ) (m1:P.globalNamed "internal/bytealg.MaxLen" =some (ρ.g 1)) (en:Enters P (ρ.f 145)):FOk P (ρ.f 145) ⟨[.rd .str,.rd .str],[.str,.str,.bool],fun s sep=>Y5 s sep,none⟩:=by
 refine ⟨fun q hq=>(by cases hq),fun _=>en,fun _ w0 J γ vs d r hlay ha uM=>?_⟩
 obtain ⟨v,vs1,rfl,⟨c1,l1,r1⟩,v2,vs2,rfl,⟨c2,l2,r2⟩,hnil⟩:=ha
 obtain rfl:vs2= []:=hnil
 obtain ⟨s0,sep0,un⟩:=d
 let s:ByteArray:=s0
 let sep:ByteArray:=sep0
 obtain rfl:c1= [v]:=l1
 obtain rfl:c2= [v2]:=l2
 obtain rfl:v= .string s:=(List.cons.inj r1).1
 obtain rfl:v2= .string sep:=(List.cons.inj r2).1
 obtain ⟨u1,hc,hz⟩:=Option.bind_eq_some_iff.1 (show Y5 s sep=some r from uM)
 have hc:=bC hc
 obtain rfl:=ae hz
 intro w C hst
 have hst:St J w0 w C:=hst
 obtain ⟨g,m,hg,hm⟩:=(hlay w hst.2.1).len
 obtain rfl:=ae (m1.symm.trans hg)
 refine (Any.strings_Cut L s sep m w hc hm).mono ?_
 rintro e w' ⟨rfl,n,rfl⟩
 refine ⟨_,rfl,⟨_,rfl,rfl,fun i t ht=>?_⟩,?_⟩
 ·rcases i with _ | _ | _ | i
  all_goals first | (obtain rfl:=ae ht;rfl) | cases ht
 ·have hw:St J w0 (w.drewN n) C:=hst.drawn rfl rfl rfl rfl
  exact D.St.free (R:=Et) (c:=[.string _]) (D.St.free (R:=Et) (c:=[.string _]) (D.St.free (R:=ph) (c:=[.bool _]) hw ⟨rfl,rfl⟩) ⟨rfl,rfl⟩) ⟨rfl,rfl⟩
theorem Fk (L:Lays.n137 P ρ) (en:Enters P (ρ.f 137)):FOk P (ρ.f 137) ⟨[.rd .str,.rd (.int .u8)],[.int .i64],fun s c=>yi s c,none⟩:=by
 refine ⟨fun q hq=>(by cases hq),fun _=>en,fun _ w0 J γ vs d r hlay ha uM=>?_⟩
 obtain ⟨v,vs1,rfl,⟨c1,l1,r1⟩,v2,vs2,rfl,⟨c2,l2,r2⟩,hnil⟩:=ha
 obtain rfl:vs2= []:=hnil
 obtain ⟨s0,c0,un⟩:=d
 let s:ByteArray:=s0
 let c:Int:=c0
 obtain rfl:c1= [v]:=l1
 obtain rfl:c2= [v2]:=l2
 obtain rfl:v= .string s:=(List.cons.inj r1).1
 obtain rfl:v2= .int .u8 c:=(List.cons.inj r2).1
 obtain rfl:=ae (show yi s c=some r from uM)
 intro w C hst
 have hst:St J w0 w C:=hst
 refine (Any.strings_IndexByte L s c w).mono ?_
 rintro e w' ⟨rfl,rfl⟩
 exact ⟨_,rfl,rfl,D.St.free (R:=bd) (c:=[.int .i64 _]) hst ⟨rfl,rfl⟩⟩
theorem Xu {α:Type} {E:TypeId} {R:Rep α} {I:Hp} {w0 w:World} {v:List Value} {xs:List α} {C:List Ch} (h:St I w0 w (Ch.own (ah E R) v xs::C)):St I w0 w (Ch.own (ah E (Nx R)) v xs::C):=by
 obtain ⟨hb,hi,F,⟨G,K,rfl,⟨hl,e2⟩,e3⟩,h4,h5⟩:=h
 rcases e2 with ⟨rfl,rfl,rfl⟩ | ⟨g,ofs,cap,cur,K1,hv,k1,k2,k3,k4,k6,k5⟩
 ·exact ⟨hb,hi,_,⟨_,K,rfl,⟨hl,.inl ⟨rfl,rfl,rfl⟩⟩,e3⟩,h4,h5⟩
 ·exact ⟨hb,hi,_,⟨_,K,rfl,⟨hl,.inr ⟨g,ofs,cap,cur,K1,hv,k1,k2,k3,k4,k6,OwnEls.turn (R:=R) (S:=Nx R) rfl (fun c x G hx=>NT hx) k5⟩⟩,e3⟩,h4,h5⟩
theorem Ls {P:Program} {k:FuncId} {ps:List PM} {A B t:Ty} {E:TypeId} {m:curP ps (Option (dens ([A,.sl E t,B] ++outs ps)))} (h:FOk P k ⟨ps,[A,.sl E t,B],m,none⟩):FOk P k ⟨ps,[A,.sl E (.bag t),B],m,none⟩:=by
 refine ⟨fun q hq=>(by cases hq),fun hq=>h.en hq,fun _ w0 J γ vs d r hlay ha uM=>?_⟩
 refine (h.con rfl w0 J γ vs d r hlay ha uM).imp (fun v hv=>?_) (fun v _ w C hs=>?_)
 ·obtain ⟨us,rfl,h1,h2⟩:=hv
  refine ⟨us,rfl,h1,fun i u hu=>?_⟩
  rcases i with _ | _ | _ | i
  ·obtain rfl:=ae hu;exact h2 0 _ rfl
  ·obtain rfl:=ae hu;exact h2 1 (.sl E t) rfl
  ·obtain rfl:=ae hu;exact h2 2 _ rfl
  ·cases hu
 ·exact ((Xu (hs.perm (List.Perm.swap ..))).perm (List.Perm.swap ..))
theorem PW {k:FuncId} {m:ByteArray->Option (Int×Bool)} (en:Enters P k) (h: ∀s r w,m s=some r->LayW P w->Calls P k #[.string s] w fun e w'=>e= .returned (.tuple #[.int .i64 r.1,.bool r.2])/\Below w.heap.size w w'):FOk P k ⟨[.rd .str],[.int .i64,.bool],fun s=>m s,none⟩:=by
 refine ⟨fun q hq=>(by cases hq),fun _=>en,fun _ w0 J γ vs d r hlay ha uM=>?_⟩
 obtain ⟨v,vs1,rfl,⟨c1,l1,r1⟩,hnil⟩:=ha
 obtain rfl:vs1= []:=hnil
 obtain ⟨s0,un⟩:=d
 let s:ByteArray:=s0
 obtain rfl:c1= [v]:=l1
 obtain rfl:v= .string s:=(List.cons.inj r1).1
 intro w C hst
 have hst:St J w0 w C:=hst
 refine (h s r w uM (hlay w hst.2.1)).mono ?_
 rintro e w' ⟨rfl,hb⟩
 refine ⟨_,rfl,⟨_,rfl,rfl,fun i t ht=>?_⟩,?_⟩
 ·rcases i with _ | _ | i
  all_goals first | (obtain rfl:=ae ht;rfl) | cases ht
 ·exact D.St.free (R:=bd) (c:=[.int .i64 _]) (D.St.free (R:=ph) (c:=[.bool _]) (St.belowS hst hb) ⟨rfl,rfl⟩) ⟨rfl,rfl⟩
end
end R
namespace R
open Go.Shelf
def zg:Go.Shelf.Ren:=⟨fun | 156=>233 | 165=>277 | 166=>278 | 169=>279 | 240=>320 | 241=>321 | 276=>361 | 277=>362 | n=>n,fun | 31=>199 | 9=>9 | 3=>3 | 4=>4 | 0=>0 | 20=>20 | 72=>286 | 76=>265 | 70=>284 | 37=>22 | 75=>264 | 127=>328 | 164=>359 | 5=>5 | 80=>288 | n=>n,fun | n=>n⟩
theorem Tl:Go.Proofs.Lays.n156 Tryz.prog zg:= {
 mixed:=by kernel_rfl
 f156:=Tryz.func233.trans (congrArg some (by kernel_rfl))
 f165:=Tryz.func277.trans (congrArg some (by kernel_rfl))
 f166:=Tryz.func278.trans (congrArg some (by kernel_rfl))
 f169:=Tryz.func279.trans (congrArg some (by kernel_rfl))
 f240:=Tryz.func320.trans (congrArg some (by kernel_rfl))
 f241:=Tryz.func321.trans (congrArg some (by kernel_rfl))
 f276:=Tryz.func361.trans (congrArg some (by kernel_rfl))
 f277:=Tryz.func362.trans (congrArg some (by kernel_rfl))
 t0:=Tryz.underlying0
 a0:=Tryz.isAgg0
 z0:=Tryz.sizeOf0
 v0:=Tryz.zeroValue0
 t3:=Tryz.underlying3
 a3:=Tryz.isAgg3
 z3:=Tryz.sizeOf3
 v3:=Tryz.zeroValue3
 t4:=Tryz.underlying4
 a4:=Tryz.isAgg4
 z4:=Tryz.sizeOf4
 v4:=Tryz.zeroValue4
 t9:=Tryz.underlying9
 a9:=Tryz.isAgg9
 z9:=Tryz.sizeOf9
 v9:=Tryz.zeroValue9
 t20:=Tryz.underlying20
 a20:=Tryz.isAgg20
 z20:=Tryz.sizeOf20
 v20:=Tryz.zeroValue20
 t31:=Tryz.underlying199
 a31:=Tryz.isAgg199
 z31:=Tryz.sizeOf199
 v31:=Tryz.zeroValue199
 t37:=Tryz.underlying22
 a37:=Tryz.isAgg22
 z37:=Tryz.sizeOf22
 v37:=Tryz.zeroValue22
 t70:=Tryz.underlying284
 a70:=Tryz.isAgg284
 z70:=Tryz.sizeOf284
 v70:=Tryz.zeroValue284
 t72:=Tryz.underlying286
 a72:=Tryz.isAgg286
 z72:=Tryz.sizeOf286
 v72:=Tryz.zeroValue286
 t75:=Tryz.underlying264
 a75:=Tryz.isAgg264
 z75:=Tryz.sizeOf264
 v75:=Tryz.zeroValue264
 t76:=Tryz.underlying265
 a76:=Tryz.isAgg265
 z76:=Tryz.sizeOf265
 v76:=Tryz.zeroValue265
 t127:=Tryz.underlying328
 a127:=Tryz.isAgg328
 z127:=Tryz.sizeOf328
 v127:=Tryz.zeroValue328
 t164:=Tryz.underlying359
 a164:=Tryz.isAgg359
 z164:=Tryz.sizeOf359
 v164:=Tryz.zeroValue359 }
def HP:Go.Shelf.Ren:=⟨fun | 171=>234 | 243=>280 | 246=>322 | 283=>363 | 284=>364 | 285=>365 | 286=>366 | 129=>388 | 317=>387 | 318=>389 | 319=>390 | 320=>391 | 337=>405 | 338=>406 | n=>n,fun | 3=>3 | 9=>9 | 2=>2 | 4=>4 | 171=>362 | 0=>0 | 53=>363 | 37=>22 | 5=>5 | 173=>366 | 212=>390 | 51=>391 | 20=>20 | 213=>392 | 46=>232 | 232=>423 | 233=>424 | n=>n,fun | 17=>3 | 18=>6 | 19=>7 | n=>n⟩
theorem Lt:Go.Proofs.LaysM.n171 Tryz.prog HP:= {
 mixed:=by kernel_rfl
 f129:=Tryz.func388.trans (congrArg some (by kernel_rfl))
 f171:=Tryz.func234.trans (congrArg some (by kernel_rfl))
 f243:=Tryz.func280.trans (congrArg some (by kernel_rfl))
 f246:=Tryz.func322.trans (congrArg some (by kernel_rfl))
 f283:=Tryz.func363.trans (congrArg some (by kernel_rfl))
 f284:=Tryz.func364.trans (congrArg some (by kernel_rfl))
 f285:=Tryz.func365.trans (congrArg some (by kernel_rfl))
 f286:=Tryz.func366.trans (congrArg some (by kernel_rfl))
 f317:=Tryz.func387.trans (congrArg some (by kernel_rfl))
 f318:=Tryz.func389.trans (congrArg some (by kernel_rfl))
 f319:=Tryz.func390.trans (congrArg some (by kernel_rfl))
 f320:=Tryz.func391.trans (congrArg some (by kernel_rfl))
 f337:=Tryz.func405.trans (congrArg some (by kernel_rfl))
 f338:=Tryz.func406.trans (congrArg some (by kernel_rfl))
 t0:=Tryz.underlying0
 a0:=Tryz.isAgg0
 z0:=Tryz.sizeOf0
 v0:=Tryz.zeroValue0
 t2:=Tryz.underlying2
 a2:=Tryz.isAgg2
 z2:=Tryz.sizeOf2
 v2:=Tryz.zeroValue2
 t3:=Tryz.underlying3
 a3:=Tryz.isAgg3
 z3:=Tryz.sizeOf3
 v3:=Tryz.zeroValue3
 t4:=Tryz.underlying4
 a4:=Tryz.isAgg4
 z4:=Tryz.sizeOf4
 v4:=Tryz.zeroValue4
 t5:=Tryz.underlying5
 a5:=Tryz.isAgg5
 z5:=Tryz.sizeOf5
 v5:=Tryz.zeroValue5
 t9:=Tryz.underlying9
 a9:=Tryz.isAgg9
 z9:=Tryz.sizeOf9
 v9:=Tryz.zeroValue9
 t20:=Tryz.underlying20
 a20:=Tryz.isAgg20
 z20:=Tryz.sizeOf20
 v20:=Tryz.zeroValue20
 t37:=Tryz.underlying22
 a37:=Tryz.isAgg22
 z37:=Tryz.sizeOf22
 v37:=Tryz.zeroValue22
 t46:=Tryz.underlying232
 a46:=Tryz.isAgg232
 z46:=Tryz.sizeOf232
 v46:=Tryz.zeroValue232
 t51:=Tryz.underlying391
 a51:=Tryz.isAgg391
 z51:=Tryz.sizeOf391
 v51:=Tryz.zeroValue391
 t53:=Tryz.underlying363
 a53:=Tryz.isAgg363
 z53:=Tryz.sizeOf363
 v53:=Tryz.zeroValue363
 t171:=Tryz.underlying362
 a171:=Tryz.isAgg362
 z171:=Tryz.sizeOf362
 v171:=Tryz.zeroValue362
 t173:=Tryz.underlying366
 a173:=Tryz.isAgg366
 z173:=Tryz.sizeOf366
 v173:=Tryz.zeroValue366
 t212:=Tryz.underlying390
 a212:=Tryz.isAgg390
 z212:=Tryz.sizeOf390
 v212:=Tryz.zeroValue390
 t213:=Tryz.underlying392
 a213:=Tryz.isAgg392
 z213:=Tryz.sizeOf392
 t232:=Tryz.underlying423
 a232:=Tryz.isAgg423
 z232:=Tryz.sizeOf423
 v232:=Tryz.zeroValue423
 t233:=Tryz.underlying424
 a233:=Tryz.isAgg424
 z233:=Tryz.sizeOf424
 v233:=Tryz.zeroValue424
 g17:=by kernel_rfl
 g18:=by kernel_rfl
 g19:=by kernel_rfl
 i0:=by kernel_rfl
 i2:=by kernel_rfl
 i3:=by kernel_rfl
 i4:=by kernel_rfl
 i5:=by kernel_rfl
 i9:=by kernel_rfl
 i20:=by kernel_rfl
 i37:=by kernel_rfl
 i46:=by kernel_rfl
 i51:=by kernel_rfl
 i53:=by kernel_rfl
 i171:=by kernel_rfl
 i173:=by kernel_rfl
 i212:=by kernel_rfl
 i232:=by kernel_rfl
 i233:=by kernel_rfl
 m17:=by kernel_rfl
 m18:=by kernel_rfl
 m19:=by kernel_rfl }
def Fl:Go.Shelf.Ren:=⟨fun | 146=>191 | 221=>245 | 268=>299 | 138=>300 | 143=>301 | 195=>344 | 197=>345 | 218=>346 | 219=>347 | 260=>375 | 217=>190 | 225=>376 | 224=>377 | 267=>378 | 266=>244 | 314=>397 | n=>n,fun | 9=>9 | 31=>199 | 3=>3 | 4=>4 | 0=>0 | 105=>344 | 21=>21 | 5=>5 | 46=>232 | 119=>399 | 139=>402 | 138=>401 | 146=>403 | 51=>391 | n=>n,fun | 1=>0 | 3=>4 | 4=>5 | n=>n⟩
theorem PX:Go.Proofs.Lays.n146 Tryz.prog Fl:= {
 mixed:=by kernel_rfl
 f138:=Tryz.func300.trans (congrArg some (by kernel_rfl))
 f143:=Tryz.func301.trans (congrArg some (by kernel_rfl))
 f146:=Tryz.func191.trans (congrArg some (by kernel_rfl))
 f195:=Tryz.func344.trans (congrArg some (by kernel_rfl))
 f197:=Tryz.func345.trans (congrArg some (by kernel_rfl))
 f217:=Tryz.func190.trans (congrArg some (by kernel_rfl))
 f218:=Tryz.func346.trans (congrArg some (by kernel_rfl))
 f219:=Tryz.func347.trans (congrArg some (by kernel_rfl))
 f221:=Tryz.func245.trans (congrArg some (by kernel_rfl))
 f224:=Tryz.func377.trans (congrArg some (by kernel_rfl))
 f225:=Tryz.func376.trans (congrArg some (by kernel_rfl))
 f260:=Tryz.func375.trans (congrArg some (by kernel_rfl))
 f266:=Tryz.func244.trans (congrArg some (by kernel_rfl))
 f267:=Tryz.func378.trans (congrArg some (by kernel_rfl))
 f268:=Tryz.func299.trans (congrArg some (by kernel_rfl))
 f314:=Tryz.func397.trans (congrArg some (by kernel_rfl))
 t0:=Tryz.underlying0
 a0:=Tryz.isAgg0
 z0:=Tryz.sizeOf0
 v0:=Tryz.zeroValue0
 t3:=Tryz.underlying3
 a3:=Tryz.isAgg3
 z3:=Tryz.sizeOf3
 v3:=Tryz.zeroValue3
 t4:=Tryz.underlying4
 a4:=Tryz.isAgg4
 z4:=Tryz.sizeOf4
 v4:=Tryz.zeroValue4
 t5:=Tryz.underlying5
 a5:=Tryz.isAgg5
 z5:=Tryz.sizeOf5
 v5:=Tryz.zeroValue5
 t9:=Tryz.underlying9
 a9:=Tryz.isAgg9
 z9:=Tryz.sizeOf9
 v9:=Tryz.zeroValue9
 t21:=Tryz.underlying21
 a21:=Tryz.isAgg21
 z21:=Tryz.sizeOf21
 v21:=Tryz.zeroValue21
 t31:=Tryz.underlying199
 a31:=Tryz.isAgg199
 z31:=Tryz.sizeOf199
 v31:=Tryz.zeroValue199
 t46:=Tryz.underlying232
 a46:=Tryz.isAgg232
 z46:=Tryz.sizeOf232
 v46:=Tryz.zeroValue232
 t51:=Tryz.underlying391
 a51:=Tryz.isAgg391
 z51:=Tryz.sizeOf391
 v51:=Tryz.zeroValue391
 t105:=Tryz.underlying344
 a105:=Tryz.isAgg344
 z105:=Tryz.sizeOf344
 v105:=Tryz.zeroValue344
 t119:=Tryz.underlying399
 a119:=Tryz.isAgg399
 z119:=Tryz.sizeOf399
 t138:=Tryz.underlying401
 a138:=Tryz.isAgg401
 z138:=Tryz.sizeOf401
 v138:=Tryz.zeroValue401
 t139:=Tryz.underlying402
 a139:=Tryz.isAgg402
 z139:=Tryz.sizeOf402
 v139:=Tryz.zeroValue402
 t146:=Tryz.underlying403
 a146:=Tryz.isAgg403
 z146:=Tryz.sizeOf403
 v146:=Tryz.zeroValue403
 g1:=by kernel_rfl
 g3:=by kernel_rfl
 g4:=by kernel_rfl }
def Jt:Go.Shelf.Ren:=⟨fun | 145=>304 | 220=>353 | 219=>347 | 217=>190 | 225=>376 | 224=>377 | 267=>378 | 266=>244 | 314=>397 | n=>n,fun | 9=>9 | 4=>4 | 59=>312 | 3=>3 | 5=>5 | 46=>232 | 146=>403 | 51=>391 | n=>n,fun | 1=>0 | n=>n⟩
theorem Xv:Go.Proofs.Lays.n145 Tryz.prog Jt:= {
 mixed:=by kernel_rfl
 f145:=Tryz.func304.trans (congrArg some (by kernel_rfl))
 f217:=Tryz.func190.trans (congrArg some (by kernel_rfl))
 f219:=Tryz.func347.trans (congrArg some (by kernel_rfl))
 f220:=Tryz.func353.trans (congrArg some (by kernel_rfl))
 f224:=Tryz.func377.trans (congrArg some (by kernel_rfl))
 f225:=Tryz.func376.trans (congrArg some (by kernel_rfl))
 f266:=Tryz.func244.trans (congrArg some (by kernel_rfl))
 f267:=Tryz.func378.trans (congrArg some (by kernel_rfl))
 f314:=Tryz.func397.trans (congrArg some (by kernel_rfl))
 t3:=Tryz.underlying3
 a3:=Tryz.isAgg3
 z3:=Tryz.sizeOf3
 v3:=Tryz.zeroValue3
 t4:=Tryz.underlying4
 a4:=Tryz.isAgg4
 z4:=Tryz.sizeOf4
 v4:=Tryz.zeroValue4
 t5:=Tryz.underlying5
 a5:=Tryz.isAgg5
 z5:=Tryz.sizeOf5
 v5:=Tryz.zeroValue5
 t9:=Tryz.underlying9
 a9:=Tryz.isAgg9
 z9:=Tryz.sizeOf9
 v9:=Tryz.zeroValue9
 t46:=Tryz.underlying232
 a46:=Tryz.isAgg232
 z46:=Tryz.sizeOf232
 v46:=Tryz.zeroValue232
 t51:=Tryz.underlying391
 a51:=Tryz.isAgg391
 z51:=Tryz.sizeOf391
 v51:=Tryz.zeroValue391
 t59:=Tryz.underlying312
 a59:=Tryz.isAgg312
 z59:=Tryz.sizeOf312
 v59:=Tryz.zeroValue312
 t146:=Tryz.underlying403
 a146:=Tryz.isAgg403
 z146:=Tryz.sizeOf403
 v146:=Tryz.zeroValue403
 g1:=by kernel_rfl }
def yj:Go.Shelf.Ren:=⟨fun | 137=>123 | 217=>190 | 266=>244 | n=>n,fun | 9=>9 | 5=>5 | 3=>3 | n=>n,fun | n=>n⟩
theorem Fm:Go.Proofs.Lays.n137 Tryz.prog yj:= {
 mixed:=by kernel_rfl
 f137:=Tryz.func123.trans (congrArg some (by kernel_rfl))
 f217:=Tryz.func190.trans (congrArg some (by kernel_rfl))
 f266:=Tryz.func244.trans (congrArg some (by kernel_rfl))
 t3:=Tryz.underlying3
 a3:=Tryz.isAgg3
 z3:=Tryz.sizeOf3
 v3:=Tryz.zeroValue3
 t5:=Tryz.underlying5
 a5:=Tryz.isAgg5
 z5:=Tryz.sizeOf5
 v5:=Tryz.zeroValue5
 t9:=Tryz.underlying9
 a9:=Tryz.isAgg9
 z9:=Tryz.sizeOf9
 v9:=Tryz.zeroValue9 }
def HQ:Go.Shelf.Ren:=⟨fun | 172=>246 | 244=>302 | 245=>303 | 247=>348 | 279=>349 | 280=>350 | 281=>351 | 282=>352 | 287=>379 | 316=>380 | 171=>234 | 205=>381 | 321=>398 | 322=>399 | 243=>280 | 246=>322 | 283=>363 | 284=>364 | 285=>365 | 286=>366 | 129=>388 | 317=>387 | 318=>389 | 319=>390 | 320=>391 | 337=>405 | 338=>406 | n=>n,fun | 9=>9 | 3=>3 | 75=>264 | 76=>265 | 4=>4 | 5=>5 | 167=>346 | 37=>22 | 0=>0 | 85=>347 | 2=>2 | 168=>349 | 53=>363 | 175=>376 | 46=>232 | 210=>380 | 127=>328 | 145=>409 | 143=>407 | 21=>21 | 171=>362 | 173=>366 | 212=>390 | 51=>391 | 20=>20 | 213=>392 | 232=>423 | 233=>424 | 80=>288 | n=>n,fun | 15=>1 | 16=>2 | 17=>3 | 18=>6 | 19=>7 | n=>n⟩
theorem Lu:Go.Proofs.LaysC.n172 Tryz.prog HQ:= {
 mixed:=by kernel_rfl
 f129:=Tryz.func388.trans (congrArg some (by kernel_rfl))
 f171:=Tryz.func234.trans (congrArg some (by kernel_rfl))
 f172:=Tryz.func246.trans (congrArg some (by kernel_rfl))
 f205:=Tryz.func381.trans (congrArg some (by kernel_rfl))
 f243:=Tryz.func280.trans (congrArg some (by kernel_rfl))
 f244:=Tryz.func302.trans (congrArg some (by kernel_rfl))
 f245:=Tryz.func303.trans (congrArg some (by kernel_rfl))
 f246:=Tryz.func322.trans (congrArg some (by kernel_rfl))
 f247:=Tryz.func348.trans (congrArg some (by kernel_rfl))
 f279:=Tryz.func349.trans (congrArg some (by kernel_rfl))
 f280:=Tryz.func350.trans (congrArg some (by kernel_rfl))
 f281:=Tryz.func351.trans (congrArg some (by kernel_rfl))
 f282:=Tryz.func352.trans (congrArg some (by kernel_rfl))
 f283:=Tryz.func363.trans (congrArg some (by kernel_rfl))
 f284:=Tryz.func364.trans (congrArg some (by kernel_rfl))
 f285:=Tryz.func365.trans (congrArg some (by kernel_rfl))
 f286:=Tryz.func366.trans (congrArg some (by kernel_rfl))
 f287:=Tryz.func379.trans (congrArg some (by kernel_rfl))
 f316:=Tryz.func380.trans (congrArg some (by kernel_rfl))
 f317:=Tryz.func387.trans (congrArg some (by kernel_rfl))
 f318:=Tryz.func389.trans (congrArg some (by kernel_rfl))
 f319:=Tryz.func390.trans (congrArg some (by kernel_rfl))
 f320:=Tryz.func391.trans (congrArg some (by kernel_rfl))
 f321:=Tryz.func398.trans (congrArg some (by kernel_rfl))
 f322:=Tryz.func399.trans (congrArg some (by kernel_rfl))
 f337:=Tryz.func405.trans (congrArg some (by kernel_rfl))
 f338:=Tryz.func406.trans (congrArg some (by kernel_rfl))
 t0:=Tryz.underlying0
 a0:=Tryz.isAgg0
 z0:=Tryz.sizeOf0
 v0:=Tryz.zeroValue0
 t2:=Tryz.underlying2
 a2:=Tryz.isAgg2
 z2:=Tryz.sizeOf2
 v2:=Tryz.zeroValue2
 t3:=Tryz.underlying3
 a3:=Tryz.isAgg3
 z3:=Tryz.sizeOf3
 v3:=Tryz.zeroValue3
 t4:=Tryz.underlying4
 a4:=Tryz.isAgg4
 z4:=Tryz.sizeOf4
 v4:=Tryz.zeroValue4
 t5:=Tryz.underlying5
 a5:=Tryz.isAgg5
 z5:=Tryz.sizeOf5
 v5:=Tryz.zeroValue5
 t9:=Tryz.underlying9
 a9:=Tryz.isAgg9
 z9:=Tryz.sizeOf9
 v9:=Tryz.zeroValue9
 t20:=Tryz.underlying20
 a20:=Tryz.isAgg20
 z20:=Tryz.sizeOf20
 v20:=Tryz.zeroValue20
 t21:=Tryz.underlying21
 a21:=Tryz.isAgg21
 z21:=Tryz.sizeOf21
 v21:=Tryz.zeroValue21
 t37:=Tryz.underlying22
 a37:=Tryz.isAgg22
 z37:=Tryz.sizeOf22
 v37:=Tryz.zeroValue22
 t46:=Tryz.underlying232
 a46:=Tryz.isAgg232
 z46:=Tryz.sizeOf232
 v46:=Tryz.zeroValue232
 t51:=Tryz.underlying391
 a51:=Tryz.isAgg391
 z51:=Tryz.sizeOf391
 v51:=Tryz.zeroValue391
 t53:=Tryz.underlying363
 a53:=Tryz.isAgg363
 z53:=Tryz.sizeOf363
 v53:=Tryz.zeroValue363
 t75:=Tryz.underlying264
 a75:=Tryz.isAgg264
 z75:=Tryz.sizeOf264
 v75:=Tryz.zeroValue264
 t76:=Tryz.underlying265
 a76:=Tryz.isAgg265
 z76:=Tryz.sizeOf265
 v76:=Tryz.zeroValue265
 t85:=Tryz.underlying347
 a85:=Tryz.isAgg347
 z85:=Tryz.sizeOf347
 v85:=Tryz.zeroValue347
 t127:=Tryz.underlying328
 a127:=Tryz.isAgg328
 z127:=Tryz.sizeOf328
 v127:=Tryz.zeroValue328
 t143:=Tryz.underlying407
 a143:=Tryz.isAgg407
 z143:=Tryz.sizeOf407
 v143:=Tryz.zeroValue407
 t145:=Tryz.underlying409
 a145:=Tryz.isAgg409
 z145:=Tryz.sizeOf409
 v145:=Tryz.zeroValue409
 t167:=Tryz.underlying346
 a167:=Tryz.isAgg346
 z167:=Tryz.sizeOf346
 v167:=Tryz.zeroValue346
 t168:=Tryz.underlying349
 a168:=Tryz.isAgg349
 z168:=Tryz.sizeOf349
 v168:=Tryz.zeroValue349
 t171:=Tryz.underlying362
 a171:=Tryz.isAgg362
 z171:=Tryz.sizeOf362
 v171:=Tryz.zeroValue362
 t173:=Tryz.underlying366
 a173:=Tryz.isAgg366
 z173:=Tryz.sizeOf366
 v173:=Tryz.zeroValue366
 t175:=Tryz.underlying376
 a175:=Tryz.isAgg376
 z175:=Tryz.sizeOf376
 v175:=Tryz.zeroValue376
 t210:=Tryz.underlying380
 a210:=Tryz.isAgg380
 z210:=Tryz.sizeOf380
 v210:=Tryz.zeroValue380
 t212:=Tryz.underlying390
 a212:=Tryz.isAgg390
 z212:=Tryz.sizeOf390
 v212:=Tryz.zeroValue390
 t213:=Tryz.underlying392
 a213:=Tryz.isAgg392
 z213:=Tryz.sizeOf392
 t232:=Tryz.underlying423
 a232:=Tryz.isAgg423
 z232:=Tryz.sizeOf423
 v232:=Tryz.zeroValue423
 t233:=Tryz.underlying424
 a233:=Tryz.isAgg424
 z233:=Tryz.sizeOf424
 v233:=Tryz.zeroValue424
 g15:=by kernel_rfl
 g16:=by kernel_rfl
 g17:=by kernel_rfl
 g18:=by kernel_rfl
 g19:=by kernel_rfl
 t80:=Tryz.underlying288
 a80:=Tryz.isAgg288
 z80:=Tryz.sizeOf288
 v80:=Tryz.zeroValue288
 i0:=by kernel_rfl
 i2:=by kernel_rfl
 i3:=by kernel_rfl
 i4:=by kernel_rfl
 i5:=by kernel_rfl
 i9:=by kernel_rfl
 i20:=by kernel_rfl
 i21:=by kernel_rfl
 i37:=by kernel_rfl
 i46:=by kernel_rfl
 i51:=by kernel_rfl
 i53:=by kernel_rfl
 i75:=by kernel_rfl
 i76:=by kernel_rfl
 i80:=by kernel_rfl
 i85:=by kernel_rfl
 i127:=by kernel_rfl
 i143:=by kernel_rfl
 i145:=by kernel_rfl
 i167:=by kernel_rfl
 i168:=by kernel_rfl
 i171:=by kernel_rfl
 i173:=by kernel_rfl
 i175:=by kernel_rfl
 i210:=by kernel_rfl
 i212:=by kernel_rfl
 i232:=by kernel_rfl
 i233:=by kernel_rfl
 m15:=by kernel_rfl
 m16:=by kernel_rfl
 m17:=by kernel_rfl
 m18:=by kernel_rfl
 m19:=by kernel_rfl
 c0:=by kernel_rfl
 c2:=by kernel_rfl
 c3:=by kernel_rfl
 c4:=by kernel_rfl
 c5:=by kernel_rfl
 c9:=by kernel_rfl
 c20:=by kernel_rfl
 c21:=by kernel_rfl
 c37:=by kernel_rfl
 c46:=by kernel_rfl
 c51:=by kernel_rfl
 c53:=by kernel_rfl
 c75:=by kernel_rfl
 c76:=by kernel_rfl
 c80:=by kernel_rfl
 c85:=by kernel_rfl
 c127:=by kernel_rfl
 c143:=by kernel_rfl
 c145:=by kernel_rfl
 c167:=by kernel_rfl
 c168:=by kernel_rfl
 c171:=by kernel_rfl
 c173:=by kernel_rfl
 c175:=by kernel_rfl
 c210:=by kernel_rfl
 c212:=by kernel_rfl
 c213:=by kernel_rfl
 c232:=by kernel_rfl
 c233:=by kernel_rfl }
theorem PY:Go.Proofs.Builder.Extra Tryz.prog zg where
 sizeBuilder:=by kernel_rfl
 liesBuilder:=by kernel_rfl
 t5:=Tryz.underlying5
 a5:=Tryz.isAgg5
 z5:=Tryz.sizeOf5
 v5:=Tryz.zeroValue5
 infoByte:=by kernel_rfl
 cellsByte:=by kernel_rfl
 sizeByte:=by kernel_rfl
 neB5:=by decide
end R
namespace R
open Go.RowKit
open D
def FldAll (P:Program) (T:TypeId):Nat->List (Nat×Nat)->Prop
 | _,[] =>True
 | i,q::l=>TF P T i q.1 q.2/\FldAll P T (i+1) l
theorem FldAll.get {P:Program} {T:TypeId} : ∀ {l:List (Nat×Nat)} {i:Nat},FldAll P T i l-> ∀f q,l[f]? =some q->TF P T (i+f) q.1 q.2
 | [],_,_,f,q,h=>by simp at h
 | x::l,i,⟨h1,h2⟩,f,q,h=>by
  cases f with
  | zero=>simp at h;subst h;exact h1
  | succ f =>
   have:=FldAll.get h2 f q (by simpa using h)
   rwa [show i+1+f=i+(f+1) from by omega] at this
section
variable {P:Program} {T:TypeId}
theorem vI {n b:Nat} {ty:Ty} {z:Value} {boo:Bool} {ik:Option (Option IntKind)} (h1:TI P T false 1) (h2:ty.size=1) (h3:TZ P T z 1 b) (h4:z.cells=(zeroCells ty).toArray) (h5:1<=b) (h6:boo=true->P.underlying T=some .bool) (h7: ∀k,ik=some k->P.underlying T=some (ikD k)):TDok P T ⟨false,1,none,ty,[],some b,none,boo,none,none,ik,false,none⟩:=
 ⟨h1,rfl,h2,fun E h=>by simp at h,fun f q h=>by simp at h,fun b' h=>by obtain rfl:=ae h;exact ⟨z,h3,h4,h5⟩,fun pl h=>by simp at h,h6,(fun ks h=>by cases h),(fun m h=>by cases h),h7,(fun h=>by cases h),fun e h=>by cases h⟩
theorem qg {E:TypeId} {t:Ty} (h1:TI P T false 1) (h2:P.underlying T=some (.slice E)) (h3:TZ P T (.slice none 0 0) 1 24):TDok P T ⟨false,1,some E,.sl E t,[],some 24,none,false,none,none,none,false,none⟩:=
 ⟨h1,rfl,rfl,fun E' h=>by obtain rfl:=ae h;exact h2,fun f q h=>by simp at h,fun b' h=>by obtain rfl:=ae h;exact ⟨_,h3,rfl,by decide⟩,fun pl h=>by simp at h,(fun h=>by cases h),(fun ks h=>by cases h),(fun m h=>by cases h),(fun k h=>by cases h),(fun h=>by cases h),fun e h=>by cases h⟩
theorem mT {n b:Nat} {ty:Ty} {fs pl:List (Nat×Nat)} {z:Value} {eq:Option (List (Option IntKind))} (h1:TI P T true n) (h2:ty.size=n) (h3:FldAll P T 0 fs) (h4:TZ P T z n b) (h5:z.cells=(zeroCells ty).toArray) (h6:1<=b) (h7:TB P T pl) (h8: ∀ks,eq=some ks-> ∀w,Curq ks fun xs ys r=>EqT P T (.agg xs.toArray) (.agg ys.toArray) r w):TDok P T ⟨true,n,none,ty,fs,some b,some pl,false,eq,none,none,false,none⟩:=
 ⟨h1,rfl,h2,fun E h=>by simp at h,fun f q h=>by have:=h3.get f q h;rwa [Nat.zero_add] at this,fun b' h=>by obtain rfl:=ae h;exact ⟨z,h4,h5,h6⟩,fun pl' h=>by obtain rfl:=ae h;exact h7,(fun h=>by cases h),h8,(fun m h=>by cases h),(fun k h=>by cases h),(fun h=>by cases h),fun e h=>by cases h⟩
theorem zS {ty:Ty} {b:Nat} (h1:TI P T false 1) (h2:ty.size=1) (h3:TZ P T .nilFunc 1 b):TDok P T ⟨false,1,none,ty,[],none,none,false,none,none,none,true,none⟩:=
 ⟨h1,rfl,h2,fun E h=>by simp at h,fun f q h=>by simp at h,(fun b' h=>by cases h),(fun pl h=>by cases h),(fun h=>by cases h),(fun ks h=>by cases h),(fun m' h=>by cases h),(fun k h=>by cases h),(fun _=>⟨b,h3⟩),fun e h=>by cases h⟩
theorem aaG {m:MD} {ty:Ty} (h1:TI P T false 1) (h2:ty.size=1) (h3:MDok P T m):TDok P T ⟨false,1,none,ty,[],none,none,false,none,some m,none,false,none⟩:=
 ⟨h1,rfl,h2,fun E h=>by simp at h,fun f q h=>by simp at h,(fun b' h=>by cases h),(fun pl h=>by cases h),(fun h=>by cases h),(fun ks h=>by cases h),(fun m' h=>by obtain rfl:=ae h;exact h3),(fun k h=>by cases h),(fun h=>by cases h),fun e h=>by cases h⟩
theorem aaH {e E:TypeId} {u:Ty} (h1:TI P T false 1) (h2:P.underlying T=some (.pointer e)) (h3:TZ P T (.pointer none) 1 8):TDok P T ⟨false,1,none,.fro (.tree e E u),[],some 8,none,false,none,none,none,false,some e⟩:=
 ⟨h1,rfl,rfl,fun E' h=>by simp at h,fun f q h=>by simp at h,fun b' h=>by obtain rfl:=ae h;exact ⟨_,h3,rfl,by decide⟩,fun pl h=>by simp at h,(fun h=>by cases h),(fun ks h=>by cases h),(fun m h=>by cases h),(fun k h=>by cases h),(fun h=>by cases h),fun e' h=>by obtain rfl:=ae h;exact h2⟩
end
end R
end Go.Proofs.YtodbpnpbhpeepaaGreatDoor
