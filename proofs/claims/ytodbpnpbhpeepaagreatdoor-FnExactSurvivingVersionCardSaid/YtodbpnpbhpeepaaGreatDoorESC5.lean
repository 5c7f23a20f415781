/- FnExactSurvivingVersion: for every input the law returns true and changes nothing that was there. Part 6 of 9. -/
import Derived.Test.YtodbpnpbhpeepaaGreatDoorESC4
set_option linter.unusedVariables false
set_option linter.unusedSimpArgs false
set_option linter.unnecessarySimpa false
set_option linter.unusedSectionVars false
set_option maxRecDepth 1000000
namespace Go.Proofs.YtodbpnpbhpeepaaGreatDoor
open Go.IntKind (i64)
namespace R
open Go.RowKit
open D
def Nt (i:Nat):(p:PM)->p.den->AV
 | .rd t,d=>LC i t d
 | .ow t,d=>LZ (jZ i [] t d)
 | .fn a b,d=>.one (.fn ⟨i,[]⟩ a b d)
 | .cap T t,d=>.one (.fz ⟨i,[]⟩ T t d 0)
 | .capf T a b,d=>.one (.fzf ⟨i,[]⟩ T a b d)
 | .ptr _ _,_=>.one (.ptr ⟨i,[]⟩ 0)
 | .eat t,d=>LZ (jZ i [] t d)
 | .fk g,_=>.one (.val (.func (.func g) #[] #[]))
 | .crs _ _,_=>.one (.ptr ⟨i,[]⟩ 0)
 | .kb _ _ _,_=>.one (.own ⟨i,[]⟩)
 | .kc _,_=>.one (.own ⟨i,[]⟩)
def I1 (q i:Nat):(p:PM)->p.den->List (Hdr×Chk)
 | .ow t,d=>kN i [] t d
 | .ptr T t,d=>[(⟨i,[]⟩,.box T t d)]
 | .eat t,d=>kN i [] t d
 | .crs T E,d=>[(⟨i,[]⟩,.blk T [.rd ⟨q,[]⟩ (.sl E (.int .u8)) d.1,.val (.int .i64 d.2.1),.val (.int .i64 d.2.2)])]
 | .kb g T t,d=>[(⟨i,[]⟩,.clo g [] [.ptr ⟨q,[]⟩ 0]),(⟨q,[]⟩,.box T t d)]
 | .kc g,_=>[(⟨i,[]⟩,.clo g [] [.ptr ⟨q,[]⟩ 0])]
 | _,_=>[]
def I2:(i:Nat)->(ps:List PM)->denP ps->List (Nat×Nat×AV)
 | _,[],_=>[]
 | i,p::ps,d=>(i,i,Nt i p d.1)::I2 (i+1) ps d.2
def Fi (q:Nat):(i:Nat)->(ps:List PM)->denP ps->List Ent
 | _,[],_=>[]
 | i,p::ps,d=>(I1 q i p d.1).map (fun g=>(g.1,i,g.2))++Fi q (i+1) ps d.2
def zL (ps:List PM) (d:denP ps):Sg:=⟨I2 0 ps d,Fi ps.length 0 ps d,ps.length+1⟩
def YW (P:Program) (w0:World) (J:Hp) (θ:Th) (n i:Nat):(p:PM)->Value->p.den->Prop
 | .ow t,v,d=>(jZ i [] t d).2.map (·.v θ)=iT t.isProd v/\ ∀x∈(jZ i [] t d).2,x.ok P w0 J θ n
 | .ptr _ _,v,_=>hv θ ⟨i,[]⟩=v/\i<n
 | .crs _ _,v,_=>hv θ ⟨i,[]⟩=v/\i<n
 | _,_,_=>True
def StF (P:Program) (w0:World) (J:Hp) (θ:Th) (n:Nat):(i:Nat)->(ps:List PM)->List Value->denP ps->Prop
 | i,p::ps,v::vs,d=>YW P w0 J θ n i p v d.1/\StF P w0 J θ n (i+1) ps vs d.2
 | _,_,_,_=>True
section
variable {P:Program} {w0 w:World} {J:Hp} {θ:Th} {n:Nat} {C:List Ch}
theorem xm {id:Nat} {pre:List Nat} {t:Ty} {d:t.den} : ∀g∈kN id pre t d,Pz g.2:=gU t d 0
theorem Nu {p:PM} {i:Nat} {v:Value} {d:p.den} {ps:List PM} {vs:List Value} {e:denP ps} {γ:Value} {q:Nat} (hi:i<n) (hq:q<n) (hγ:θ q=γ) (hθ:θ i=v) (h:XO P w0 J γ p v d) (hS:St J w0 w (owCh γ (p::ps) (v::vs) (d,e)++C)) :
  (∀chs,(Nt i p d).ok P w0 J θ n chs)/\(Nt i p d).v θ=v/\St J w0 w ((I1 q i p d).map (fun g=>toCh P θ (g.1,i,g.2))++(owCh γ ps vs e++C))/\(∀g∈I1 q i p d,∀chs,okE P w0 J θ n chs (g.1,i,g.2))/\YW P w0 J θ n i p v d:=by
 cases p with
 | rd t =>
  obtain ⟨cs,h1,h2⟩:=h
  have hav:=fun chs=>oX (P:=P) (w0:=w0) (J:=J) (chs:=chs) hi hθ t d cs h2 h1
  exact ⟨fun chs=>(hav chs).1,(hav []).2,hS,fun g hg=>(by cases hg),trivial⟩
 | fn a b =>
  have hh:hv θ ⟨i,[]⟩=v:=hθ
  exact ⟨fun chs=>⟨hi,by rw[hh];exact h⟩,hh,hS,fun g hg=>(by cases hg),trivial⟩
 | cap T t =>
  obtain ⟨b,rfl,cells,h1,h2⟩:=h
  have hh:hv θ ⟨i,[]⟩= .pointer (some ⟨b,0,none⟩):=hθ
  refine ⟨fun chs=>⟨hi,cells,by rw[hh];exact h1,h2⟩,?_,hS,fun g hg=>(by cases hg),trivial⟩
  show Value.pointer (some ⟨bk (hv θ ⟨i,[]⟩),0,none⟩)=_
  rw[hh];rfl
 | capf T x y =>
  obtain ⟨b,rfl,u,h1,h2⟩:=h
  have hh:hv θ ⟨i,[]⟩= .pointer (some ⟨b,0,none⟩):=hθ
  refine ⟨fun chs=>⟨hi,u,by rw[hh];exact h1,h2⟩,?_,hS,fun g hg=>(by cases hg),trivial⟩
  show Value.pointer (some ⟨bk (hv θ ⟨i,[]⟩),0,none⟩)=_
  rw[hh];rfl
 | ptr T t =>
  obtain ⟨b,rfl⟩:=h
  have hh:hv θ ⟨i,[]⟩= .pointer (some ⟨b,0,none⟩):=hθ
  refine ⟨fun chs=>hi,?_,?_,fun g hg chs=>by obtain rfl:=aq hg;exact rh trivial hi hi,hh,hi⟩
  ·show Value.pointer (some ⟨bk (hv θ ⟨i,[]⟩),0,none⟩)=_
   rw[hh];rfl
  ·show St J w0 w (Ch.box (bk (hv θ ⟨i,[]⟩)) T t.rep d::_)
   rw[hh];exact hS
 | ow t =>
  have hS:St J w0 w (Ch.own t.rep (iT t.isProd v) d::(owCh γ ps vs e++C)):=hS
  obtain ⟨k1,k2,k3,k4,k5⟩:=vd (P:=P) (m:=i) (pre:=[]) (id:=i) (n:=n) hi (show hv θ ⟨i,[]⟩=v from hθ) h hS
  have q:=fun chs=>CV (P:=P) (w0:=w0) (J:=J) (θ:=θ) (n:=n) (chs:=chs) (jZ i [] t d) (fun e=>re e) k1
  exact ⟨fun chs=>(q chs).1,(q []).2.trans k3,k5,fun g hg chs=>rh (xm g hg) (by rw[k4 g hg];exact hi) hi,k2,k1⟩
 | eat t =>
  have hS:St J w0 w (Ch.own t.rep (iT t.isProd v) d::(owCh γ ps vs e++C)):=hS
  obtain ⟨k1,k2,k3,k4,k5⟩:=vd (P:=P) (m:=i) (pre:=[]) (id:=i) (n:=n) hi (show hv θ ⟨i,[]⟩=v from hθ) h hS
  have q:=fun chs=>CV (P:=P) (w0:=w0) (J:=J) (θ:=θ) (n:=n) (chs:=chs) (jZ i [] t d) (fun e=>re e) k1
  exact ⟨fun chs=>(q chs).1,(q []).2.trans k3,k5,fun g hg chs=>rh (xm g hg) (by rw[k4 g hg];exact hi) hi,trivial⟩
 | fk g =>
  obtain rfl:=h
  exact ⟨fun chs=>rfl,rfl,hS,fun g hg=>(by cases hg),trivial⟩
 | crs T E =>
  obtain ⟨⟨b,rfl⟩,hrd⟩:=h
  have hh:hv θ ⟨i,[]⟩= .pointer (some ⟨b,0,none⟩):=hθ
  have hg0:hv θ ⟨q,[]⟩=γ:=hγ
  refine ⟨fun chs=>hi,?_,?_,fun g hg chs=>?_,hh,hi⟩
  ·show Value.pointer (some ⟨bk (hv θ ⟨i,[]⟩),0,none⟩)=_
   rw[hh];rfl
  ·show St J w0 w (Ch.blk (bk (hv θ ⟨i,[]⟩)) [hv θ ⟨q,[]⟩,.int .i64 d.2.1,.int .i64 d.2.2] T::_)
   rw[hh,hg0];exact hS
  ·obtain rfl:=aq hg
   refine ⟨hi,hi,fun z hz=>?_⟩
   rcases az hz with rfl | hz
   ·exact ⟨hq,by rw[hg0];exact hrd⟩
   ·rcases az hz with rfl | hz
    ·exact Eq.refl true
    ·obtain rfl:=aq hz
     exact Eq.refl true
 | kb g T t =>
  obtain ⟨rfl,b,hb⟩:=h
  have hh:hv θ ⟨i,[]⟩= .func (.func g) #[] #[γ]:=hθ
  have hg0:hv θ ⟨q,[]⟩=γ:=hγ
  have hp:Value.pointer (some ⟨bk (hv θ ⟨q,[]⟩),0,none⟩)=γ:=by rw[hg0,hb];rfl
  refine ⟨fun chs=>⟨hi,by rw[hh];rfl⟩,hh,?_,fun g' hg chs=>?_,trivial⟩
  ·show St J w0 w (Ch.emp::Ch.box (bk (hv θ ⟨q,[]⟩)) T t.rep d::_)
   rw[hg0]
   exact St.emp.2 hS
  ·rcases az hg with rfl | hg
   ·refine ⟨hi,hi,fun y hy=>(by cases hy),fun x hx=>?_,?_⟩
    ·obtain rfl:=aq hx
     exact hq
    ·show hv θ ⟨i,[]⟩= .func (.func g) #[] #[Value.pointer (some ⟨bk (hv θ ⟨q,[]⟩),0,none⟩)]
     rw[hh,hp]
   ·obtain rfl:=aq hg
    exact rh trivial hq hi
 | kc g =>
  obtain ⟨rfl,b,hb⟩:=h
  have hh:hv θ ⟨i,[]⟩= .func (.func g) #[] #[γ]:=hθ
  have hg0:hv θ ⟨q,[]⟩=γ:=hγ
  have hp:Value.pointer (some ⟨bk (hv θ ⟨q,[]⟩),0,none⟩)=γ:=by rw[hg0,hb];rfl
  refine ⟨fun chs=>⟨hi,by rw[hh];rfl⟩,hh,?_,fun g' hg chs=>?_,trivial⟩
  ·show St J w0 w (Ch.emp::_)
   exact St.emp.2 hS
  ·obtain rfl:=aq hg
   refine ⟨hi,hi,fun y hy=>(by cases hy),fun x hx=>?_,?_⟩
   ·obtain rfl:=aq hx
    exact hq
   ·show hv θ ⟨i,[]⟩= .func (.func g) #[] #[Value.pointer (some ⟨bk (hv θ ⟨q,[]⟩),0,none⟩)]
    rw[hh,hp]
theorem I3 {γ:Value} {q:Nat} (hq:q<n) (hγ:θ q=γ): ∀ {ps:List PM} {i:Nat} {vs:List Value} {d:denP ps} {C:List Ch},PArgs P w0 J γ ps vs d->(∀j v,vs[j]? =some v->θ (i+j)=v)->i+ps.length<=n->St J w0 w (owCh γ ps vs d++C)->
  (∀e∈I2 i ps d,(∀chs,e.2.2.ok P w0 J θ n chs)/\i<=e.1/\e.2.1=e.1/\e.1<i+ps.length/\vs[e.1 - i]? =some (e.2.2.v θ))/\((I2 i ps d).Pairwise fun a b=>a.2.1≠b.2.1)/\St J w0 w ((Fi q i ps d).map (toCh P θ)++C)/\(∀e∈Fi q i ps d,∀chs,okE P w0 J θ n chs e)/\StF P w0 J θ n i ps vs d
 | [],i,vs,d,C,h,_,_,hS=>by
  have h:vs= []:=h
  subst h
  exact ⟨fun e he=>(by cases he),List.Pairwise.nil,hS,fun e he=>(by cases he),trivial⟩
 | p::ps,i,vs,d,C,h,hθ,hn,hS=>by
  obtain ⟨v,r,rfl,h1,h3⟩:=h
  rw[al] at hn
  obtain ⟨a1,a2,a3,a4,a5⟩:=Nu (n:=n) (i:=i) (θ:=θ) (e:=d.2) (show i<n by omega) hq hγ (hθ 0 v rfl) h1 hS
  obtain ⟨k1,k2,k3,k4,k5⟩:=I3 hq hγ (i:=i+1) h3 (fun j u hj=>by
   have:=hθ (j+1) u hj
   rwa [show i+(j+1)=i+1+j from by omega] at this) (by omega) (a3.perm (List.perm_append_comm_assoc _ _ _))
  refine ⟨fun e he=>?_,List.pairwise_cons.2 ⟨fun e he hh=>?_,k2⟩,?_,fun e he chs=>?_,a5,k5⟩
  ·rcases az he with rfl | he
   ·exact ⟨a1,aE _,rfl,by rw[al];show i<_;omega,by show (v::r)[i - i]? =_;rw[Nat.sub_self,a2];rfl⟩
   ·obtain ⟨q1,q2,q3,q4,q5⟩:=k1 e he
    refine ⟨q1,by omega,q3,by rw[al];omega,?_⟩
    rw[show e.1 - i=(e.1 - (i+1))+1 from by omega];exact q5
  ·have:=k1 e he
   have hh:i=e.2.1:=hh
   omega
  ·show St J w0 w (((I1 q i p d.1).map _++Fi q (i+1) ps d.2).map (toCh P θ)++C)
   rw[aM,List.map_map]
   refine k3.perm ?_
   rw[ai]
   exact List.perm_append_comm_assoc _ _ _
  ·rcases aD he with he | he
   ·obtain ⟨g,hg,rfl⟩:=List.mem_map.1 he
    exact a4 g hg chs
   ·exact k4 e he chs
theorem Fj {γ:Value} : ∀ {ps:List PM} {vs:List Value} {d:denP ps},PArgs P w0 J γ ps vs d->vs.length=ps.length
 | [],vs,d,h=>by
  have h:vs= []:=h
  subst h;rfl
 | p::ps,vs,d,h=>by
  obtain ⟨v,r,rfl,h1,h3⟩:=h
  simpa using Fj h3
end
def UG (tt:TT) (s:Sg):ResultVar->Option AV
 | .tmp t=>look s.env t
 | .cell p T=>(OV (look s.env p)).bind fun h=>(td tt T).bind fun d=>(qR h s.chs).bind fun b=>bR (Nat.beq b.cells.length d.n) (XM d.agg b.cells)
theorem UH {v:Option AV} {h:Hdr} (k:OV v=some h):v=some (.one (.ptr h 0)):=by
 unfold OV at k
 split at k
 ·rename_i h' off
  split at k
  ·rename_i ho
   rw[au ho,ae k]
  ·cases k
 ·cases k
section
variable {P:Program} {I:Hp} {w0 w:World} {F:Ch} {J:Hp} {θ:Th} {n:Nat} {s:Sg} {a:Act} {tt:TT}
theorem UI (ha:Agr n a (envL θ s)) {t g:Nat} {T E:TypeId} {v:Value} {cs:List Ch} (h:(envL θ s).lookup t=some (.pointer (some ⟨g,0,none⟩))) (hs:St J w0 w cs) (i:Nat) (hi:cs[i]? =some (Ch.blk g [v] E)) (hT:TI P T false 1):Gi P a w (.cell t T) v:=by
 refine ⟨_,ha.2.2 t _ h,?_⟩
 have hg:=hs.heap i hi
 have hc:w.cell? ⟨g,0,none⟩=some v:=by simp[World.cell?,hg]
 simp[loadVar,Sem.run_bind,hT.run_agg,load,Sem.run,hc,Result.andThen]
theorem QG (hT:TTok P tt) (hS:Sim P I w0 F n J θ s a w) {r:ResultVar} {v:AV} (h:UG tt s r=some v):Gi P a w r (v.v θ)/\v.ok P w0 J θ s.nxt s.chs:=by
 cases r with
 | tmp t=>exact ⟨S9 hS.agr (gu h),bO (x:=.tmp t) hS.fine h⟩
 | cell p T =>
  obtain ⟨hh,h1,h⟩:=bind_some (show (OV (look s.env p)).bind _=some v from h)
  obtain ⟨d,hd,h⟩:=bind_some h
  obtain ⟨b,hb,h⟩:=bind_some h
  obtain ⟨hl,h⟩:=aj h
  have hl:=au hl
  have hp:=jW hb
  have hok:=hS.fine.chs _ (hp.mem_iff.2 (List.mem_cons_self ..))
  obtain ⟨k1,k2⟩:=LR (chs:=s.chs) h hok.2.2
  refine ⟨?_,k1⟩
  have hlk:(envL θ s).lookup p=some (.pointer (some ⟨bk (hv θ hh),0,none⟩)):=gu (UH h1)
  have hst:=hS.st.perm ((hp.map (toCh P θ)).append_right [F])
  have hti:=(hT.get hd).ti
  cases hagg:d.agg with
  | true =>
   rw[hagg] at k2 hti
   rw[<-k2]
   exact O4 hS.agr hlk hst 0 rfl hti (by rw[List.length_map];exact hl)
  | false =>
   rw[hagg] at k2 hti h
   have h1':d.n=1:=by
    have:=(hT.get hd).one
    rw[hagg] at this
    simpa using this
   obtain ⟨x,hx⟩:=List.length_eq_one_iff.1 (hl.trans h1')
   rw[h1'] at hti
   rw[hx] at k2
   rw[<-k2]
   have hst2:St J w0 w (Ch.blk (bk (hv θ hh)) [x.v θ] b.T::(b.rest.map (toCh P θ)++ [F])):=by
    have:(toCh P θ (b.ent hh))=Ch.blk (bk (hv θ hh)) (b.cells.map (·.v θ)) b.T:=rfl
    rw[hx] at this
    rw[<-show toCh P θ (b.ent hh)=Ch.blk (bk (hv θ hh)) [x.v θ] b.T from this]
    exact hst
   exact UI hS.agr hlk hst2 0 rfl hti
end
def Ha:(ts:List Ty)->List AV->List Ent->Option (iS ts×List Ent×List Ent)
 | [],[],chs=>some ((),[],chs)
 | t::ts,v::vs,chs=>bR (na v==t.isProd) ((jX v).bind fun cs=>(dx t cs chs).bind fun q=>bR q.cells.isEmpty ((Ha ts vs q.rest).bind fun r=>some ((q.d,r.1),q.used++r.2.1,r.2.2)))
 | _,_,_=>none
def wB:(ts:List Ty)->List Value->iS ts->List Ch
 | t::ts,v::vs,d=>Ch.own t.rep (iT t.isProd v) d.1::wB ts vs d.2
 | _,_,_=>[]
theorem B7 {P:Program} {w0:World} {J:Hp} {θ:Th} {n:Nat} {chs0:List Ent} : ∀ {ts:List Ty} {vs:List AV} {chs:List Ent} {r:iS ts×List Ent×List Ent},Ha ts vs chs=some r->(∀v∈vs,v.ok P w0 J θ n chs0)->
  chs.Perm (r.2.1++r.2.2)/\vs.length=ts.length/\mS J (r.2.1.map (toCh P θ)) (wB ts (vs.map (·.v θ)) r.1)/\ ∀(i:Nat) t v,ts[i]? =some t->vs[i]? =some v->oW (v.v θ)=t.isProd
 | [],[],chs,r,h,_=>by
  obtain rfl:=ae (show some _=some r from h)
  exact ⟨List.Perm.refl _,rfl,uW,fun i t v ht=>by simp at ht⟩
 | t::ts,v::vs,chs,r,h,hv'=>by
  obtain ⟨ha,h⟩:=aj (show bR (na v==t.isProd) _=some r from h)
  have ha:na v=t.isProd:=by simpa using ha
  obtain ⟨cs,hcs,h⟩:=bind_some h
  obtain ⟨q,hq,h⟩:=bind_some h
  obtain ⟨he,h⟩:=aj h
  obtain ⟨r',hr,h⟩:=bind_some h
  obtain rfl:=ae h
  obtain ⟨c1,c2⟩:=iC hcs (hv' v (by simp))
  obtain ⟨p,cc,e1,e2⟩:=jA (J:=J) (θ:=θ) hq c1
  rw[List.isEmpty_iff.1 he,List.append_nil] at e1
  subst e1
  obtain ⟨k1,k2,k3,k4⟩:=B7 hr fun x hx=>hv' x (by simp[hx])
  have hcell:iT t.isProd (v.v θ)=cs.map (·.v θ)/\oW (v.v θ)=t.isProd:=by
   rw[<-ha]
   cases v with
   | agg xs =>
    obtain rfl:=ae (show some xs=some cs from hcs)
    exact ⟨rfl,rfl⟩
   | one x =>
    obtain rfl:=ae (show some [x] =some cs from hcs)
    refine ⟨rfl,?_⟩
    have h1:(x.v θ).oneCell'=true:=LV.one (show LV.ok P w0 J θ n x from hv' (.one x) (by simp))
    show oW (x.v θ)=false
    generalize x.v θ=u at h1
    cases u <;> first | rfl | cases h1
   | _=>cases hcs
  refine ⟨by rw[ai];exact p.trans (k1.append_left _),by rw[al,al,k2],?_,fun i t' v' ht hv0=>?_⟩
  ·show mS J ((q.used++r'.2.1).map _) (Ch.own t.rep (iT t.isProd (v.v θ)) q.d::wB ts (vs.map _) r'.1)
   rw[aM,hcell.1]
   exact ra e2 k3
  ·cases i with
   | zero =>
    obtain rfl:t=t':=by simpa using ht
    obtain rfl:v=v':=by simpa using hv0
    exact hcell.2
   | succ i=>exact k4 i t' v' (by simpa using ht) (by simpa using hv0)
 | [],_::_,chs,r,h,_=>by cases h
 | _::_,[],chs,r,h,_=>by cases h
def Xr:List Value->Value
 | [v] =>v
 | vs=>.tuple vs.toArray
def I4 (P:Program) (a:Act) (w:World):List ResultVar->List Value->Prop
 | [],vs=>vs= []
 | r::rs,vs=> ∃v us,vs=v::us/\Gi P a w r v/\I4 P a w rs us
theorem xn {P:Program} {a:Act} {w:World} {f:ResultVar->Sem Value} (hf: ∀r v,Gi P a w r v->(f r).run P w= .ok v w): ∀ {l:List ResultVar} {vs:List Value},I4 P a w l vs->(l.mapM f).run P w= .ok vs w
 | [],vs,h=>by
  have h:vs= []:=h
  subst h
  rw[List.mapM_nil];rfl
 | r::l,vs,h=>by
  obtain ⟨v,us,rfl,h1,h2⟩:=h
  rw[List.mapM_cons,Sem.run_bind,hf r v h1]
  simp only[Result.andThen_ok,Sem.run_bind,xn hf h2]
  rfl
def Xs (a:Act) (r:ResultVar):Sem Value:=match r with
 | .tmp t=>pure (a.tmps.getD t undef)
 | .cell p t=>do loadVar t (<-asAddr (a.tmps.getD p undef))
theorem UJ {P:Program} {a:Act} {w:World} {r:ResultVar} {v:Value} (h:Gi P a w r v):(Xs a r).run P w= .ok v w:=by
 cases r with
 | tmp t =>
  have h:a.tmps.getD t undef=v:=h
  show (pure (a.tmps.getD t undef):Sem Value).run P w=_
  rw[h];rfl
 | cell p T =>
  obtain ⟨A,h1,h2⟩:=h
  show ((asAddr (a.tmps.getD p undef)) >>=fun x=>loadVar T x).run P w=_
  rw[h1,Sem.run_bind]
  show Result.andThen (.ok A w) _=_
  rw[Result.andThen_ok];exact h2
theorem X6 {P:Program} {n:Nat} {a:Act} {w:World} {L:List (Nat×Value)} {fn:Func} {R:Ending->World->Prop} {vs:List Value} (ha:Agr n a L) (h:I4 P a w fn.results.toList vs) (hR:R (.returned (Xr vs)) w):bodyPost P fn R .ret a w:=by
 refine ⟨ha.1,Xr vs,?_,hR⟩
 have hr:((fn.results.mapM (Xs a)):Sem (Array Value)).run P w= .ok vs.toArray w:=by
  rw[Array.mapM_eq_mapM_toList]
  have:=xn (f:=Xs a) (fun r v=>UJ) h
  simp[this,Sem.run_map]
 show ((fn.results.mapM (Xs a)) >>=fun vs=>pure (if h:vs.size=1 then vs[0] else .tuple vs):Sem Value).run P w=_
 rw[Sem.run_bind,hr,Result.andThen_ok]
 match vs with
 | [] =>rfl
 | [v] =>rfl
 | _::_::_=>rfl
def dz (g0:Nat):(i:Nat)->(ps:List PM)->denP ps->List Ent->Option (iS (outs ps)×List Ent×List Ent)
 | _,[],_,chs=>some ((),[],chs)
 | i,.ow t::ps,d,chs=>(dx t (jZ i [] t d.1).2 chs).bind fun q=>bR q.cells.isEmpty ((dz g0 (i+1) ps d.2 q.rest).bind fun r=>some ((q.d,r.1),q.used++r.2.1,r.2.2))
 | i,.ptr T t::ps,d,chs=>(rf ⟨i,[]⟩ T t chs).bind fun q=>(dz g0 (i+1) ps d.2 q.2.2).bind fun r=>some ((q.1,r.1),q.2.1++r.2.1,r.2.2)
 | i,.rd _::ps,d,chs=>dz g0 (i+1) ps d.2 chs
 | i,.fn _ _::ps,d,chs=>dz g0 (i+1) ps d.2 chs
 | i,.eat _::ps,d,chs=>dz g0 (i+1) ps d.2 chs
 | i,.cap _ _::ps,d,chs=>dz g0 (i+1) ps d.2 chs
 | i,.capf _ _ _::ps,d,chs=>dz g0 (i+1) ps d.2 chs
 | i,.fk _::ps,d,chs=>dz g0 (i+1) ps d.2 chs
 | i,.kc _::ps,d,chs=>dz g0 (i+1) ps d.2 chs
 | i,.kb _ T t::ps,d,chs=>(rf ⟨g0,[]⟩ T t chs).bind fun q=>(dz g0 (i+1) ps d.2 q.2.2).bind fun r=>some ((q.1,r.1),q.2.1++r.2.1,r.2.2)
 | i,.crs T E::ps,d,chs=>(tX ⟨i,[]⟩ T E chs).bind fun q=>bR (Hdr.beq q.g ⟨g0,[]⟩) ((dz g0 (i+1) ps d.2 q.rest).bind fun r=>some ((q.d.2,r.1),q.ent::r.2.1,r.2.2))
theorem dB {P:Program} {w0:World} {J J':Hp} {θ θ':Th} {n n':Nat} {chs0:List Ent} (hJ:J.le J') (hs:Same n θ θ') {γ:Value} {g0:Nat} (hg0:g0<n) (hγ:θ g0=γ): ∀ {ps:List PM} {i:Nat} {d:denP ps} {chs:List Ent} {vs:List Value} {r:iS (outs ps)×List Ent×List Ent},dz g0 i ps d chs=some r->vs.length=ps.length->StF P w0 J θ n i ps vs d->(∀e∈chs,okE P w0 J' θ' n' chs0 e)->
  chs.Perm (r.2.1++r.2.2)/\mS J' (r.2.1.map (toCh P θ')) (outCh γ ps vs r.1)
 | [],i,d,chs,vs,r,h,_,_,_=>by
  obtain rfl:=ae (show some _=some r from h)
  exact ⟨List.Perm.refl _,uW⟩
 | p::ps,i,d,chs,[],r,h,hl,_,_=>by cases hl
 | .ow t::ps,i,d,chs,v::vs,r,h,hl,hF,hc=>by
  obtain ⟨q,hq,h⟩:=bind_some (show (dx t (jZ i [] t d.1).2 chs).bind _=some r from h)
  obtain ⟨he,h⟩:=aj h
  obtain ⟨r',hr,h⟩:=bind_some h
  obtain rfl:=ae h
  obtain ⟨⟨k1,k2⟩,k3⟩:=hF
  obtain ⟨p,cc,e1,e2⟩:=jA (P:=P) (w0:=w0) (J:=J') (θ:=θ') (n:=n) hq fun x hx=>LV.ok_same hs (aE _) (k2 x hx) hJ
  rw[List.isEmpty_iff.1 he,List.append_nil] at e1
  subst e1
  rw[gF hs k2,k1] at e2
  obtain ⟨q1,q2⟩:=dB hJ hs hg0 hγ hr (by simpa using hl) k3 fun e he=>hc e (p.mem_iff.2 (by simp[he]))
  refine ⟨by rw[ai];exact p.trans (q1.append_left _),?_⟩
  show mS J' ((q.used++r'.2.1).map _) (Ch.own t.rep (iT t.isProd v) q.d::outCh γ ps vs r'.1)
  rw[aM]
  exact ra e2 q2
 | .ptr T t::ps,i,d,chs,v::vs,r,h,hl,hF,hc=>by
  obtain ⟨q,hq,h⟩:=bind_some (show (rf ⟨i,[]⟩ T t chs).bind _=some r from h)
  obtain ⟨r',hr,h⟩:=bind_some h
  obtain rfl:=ae h
  obtain ⟨⟨k1,k2⟩,k3⟩:=hF
  obtain ⟨p,hb⟩:=sq (P:=P) (w0:=w0) (J:=J') (J':=J') (θ:=θ') hq Hp.le.rfl hc
  obtain ⟨q1,q2⟩:=dB hJ hs hg0 hγ hr (by simpa using hl) k3 fun e he=>hc e (p.mem_iff.2 (by simp[he]))
  refine ⟨by rw[ai];exact p.trans (q1.append_left _),?_⟩
  show mS J' ((q.2.1++r'.2.1).map _) (Ch.box (bk v) T t.rep q.1::outCh γ ps vs r'.1)
  rw[aM]
  have hh:hv θ' ⟨i,[]⟩=v:=(aZ hs (show (⟨i,[]⟩:Hdr).id<n from k2)).trans k1
  rw[hh] at hb
  intro w F hsp
  obtain ⟨G,K,rfl,h1,h2⟩:=hsp.split
  exact ⟨G,K,rfl,hb w G h1,q2 w K h2⟩
 | .rd t::ps,i,d,chs,v::vs,r,h,hl,hF,hc=>dB (ps:=ps) hJ hs hg0 hγ (show dz g0 (i+1) ps d.2 chs=some r from h) (by simpa using hl) hF.2 hc
 | .fn _ _::ps,i,d,chs,v::vs,r,h,hl,hF,hc=>dB (ps:=ps) hJ hs hg0 hγ (show dz g0 (i+1) ps d.2 chs=some r from h) (by simpa using hl) hF.2 hc
 | .eat _::ps,i,d,chs,v::vs,r,h,hl,hF,hc=>dB (ps:=ps) hJ hs hg0 hγ (show dz g0 (i+1) ps d.2 chs=some r from h) (by simpa using hl) hF.2 hc
 | .cap _ _::ps,i,d,chs,v::vs,r,h,hl,hF,hc=>dB (ps:=ps) hJ hs hg0 hγ (show dz g0 (i+1) ps d.2 chs=some r from h) (by simpa using hl) hF.2 hc
 | .capf _ _ _::ps,i,d,chs,v::vs,r,h,hl,hF,hc=>dB (ps:=ps) hJ hs hg0 hγ (show dz g0 (i+1) ps d.2 chs=some r from h) (by simpa using hl) hF.2 hc
 | .kc _::ps,i,d,chs,v::vs,r,h,hl,hF,hc=>dB (ps:=ps) hJ hs hg0 hγ (show dz g0 (i+1) ps d.2 chs=some r from h) (by simpa using hl) hF.2 hc
 | .kb _ T t::ps,i,d,chs,v::vs,r,h,hl,hF,hc=>by
  obtain ⟨q,hq,h⟩:=bind_some (show (rf ⟨g0,[]⟩ T t chs).bind _=some r from h)
  obtain ⟨r',hr,h⟩:=bind_some h
  obtain rfl:=ae h
  obtain ⟨-,k3⟩:=hF
  obtain ⟨p,hb⟩:=sq (P:=P) (w0:=w0) (J:=J') (J':=J') (θ:=θ') hq Hp.le.rfl hc
  obtain ⟨q1,q2⟩:=dB hJ hs hg0 hγ hr (by simpa using hl) k3 fun e he=>hc e (p.mem_iff.2 (by simp[he]))
  refine ⟨by rw[ai];exact p.trans (q1.append_left _),?_⟩
  show mS J' ((q.2.1++r'.2.1).map _) (Ch.box (bk γ) T t.rep q.1::outCh γ ps vs r'.1)
  rw[aM]
  have hh:hv θ' ⟨g0,[]⟩=γ:=by
   show vg (θ' g0) [] =γ
   rw[hs g0 hg0,hγ];rfl
  rw[hh] at hb
  intro w F hsp
  obtain ⟨G,K,rfl,h1,h2⟩:=hsp.split
  exact ⟨G,K,rfl,hb w G h1,q2 w K h2⟩
 | .fk _::ps,i,d,chs,v::vs,r,h,hl,hF,hc=>dB (ps:=ps) hJ hs hg0 hγ (show dz g0 (i+1) ps d.2 chs=some r from h) (by simpa using hl) hF.2 hc
 | .crs T E::ps,i,d,chs,v::vs,r,h,hl,hF,hc=>by
  obtain ⟨q,hq,h⟩:=bind_some (show (tX ⟨i,[]⟩ T E chs).bind _=some r from h)
  obtain ⟨hb,h⟩:=aj h
  obtain ⟨r',hr,h⟩:=bind_some h
  obtain rfl:=ae h
  obtain ⟨⟨k1,k2⟩,k3⟩:=hF
  obtain ⟨p,ver,he⟩:=mP hq
  obtain ⟨q1,q2⟩:=dB hJ hs hg0 hγ hr (by simpa using hl) k3 fun e he=>hc e (p.mem_iff.2 (by simp[he]))
  refine ⟨p.trans (q1.cons _),?_⟩
  have hh:hv θ' ⟨i,[]⟩=v:=(aZ hs (show (⟨i,[]⟩:Hdr).id<n from k2)).trans k1
  have hg:hv θ' q.g=γ:=by
   rw[Hdr.beq_eq hb]
   show vg (θ' g0) [] =γ
   rw[hs g0 hg0,hγ];rfl
  show mS J' (toCh P θ' q.ent::r'.2.1.map _) (Ch.blk (bk v) [γ,.int .i64 q.d.2.1,.int .i64 q.d.2.2] T::outCh γ ps vs r'.1)
  rw[he]
  intro w F hsp
  obtain ⟨G,K,rfl,h1,h2⟩:=hsp
  have h1:(Ch.blk (bk (hv θ' ⟨i,[]⟩)) [hv θ' q.g,.int .i64 q.d.2.1,.int .i64 q.d.2.2] T).holds J' w G:=h1
  rw[hh,hg] at h1
  exact ⟨G,K,rfl,h1,q2 w K h2⟩
def ofH:(ts:List Ty)->iS ts->dens ts
 | [],_=>()
 | [_],d=>d.1
 | _::u::ts,d=>(d.1,ofH (u::ts) d.2)
theorem Hb: ∀(ts:List Ty) (d:iS ts),toH ts (ofH ts d)=d
 | [],_=>rfl
 | [_],_=>rfl
 | _::u::ts,d=>congrArg (Prod.mk d.1) (Hb (u::ts) d.2)
def sY:(ts us:List Ty)->iS ts->iS us->iS (ts++us)
 | [],_,_,e=>e
 | _::ts,us,d,e=>(d.1,sY ts us d.2 e)
theorem Dm: ∀(ts us:List Ty) (d:iS ts) (e:iS us),hFst ts us (sY ts us d e)=d
 | [],_,_,_=>rfl
 | _::ts,us,d,e=>congrArg (Prod.mk d.1) (Dm ts us d.2 e)
theorem I5: ∀(ts us:List Ty) (d:iS ts) (e:iS us),hSnd ts us (sY ts us d e)=e
 | [],_,_,_=>rfl
 | _::ts,us,d,e=>I5 ts us d.2 e
def B8 (tt:TT) (s:Sg):List ResultVar->Option (List AV)
 | [] =>some []
 | r::rs=>(UG tt s r).bind fun v=>(B8 tt s rs).bind fun vs=>some (v::vs)
def Hc (s:Sg):List AV->List Hdr
 | [] =>[]
 | v::vs=>zA v++Hc s vs
def yE:List Ent->List Hdr
 | [] =>[]
 | e::l=>match e.2.2 with
  | .hole _ _ _ _ _ _ _ _ _ _=>e.1::yE l
  | _=>yE l
def Wr:List AV->List (Bool×Hdr)
 | [] =>[]
 | v::vs=>YS true v++Wr vs
def Fk (tr:Trs) (vs:List AV) (s:Sg):Sg:=match tr with
 | [] =>s
 | _=>PR (Nc tr) (Wr vs) s
def QH (tr:Trs) (vs:List AV) (s0:Sg):Sg:=match Fk tr vs s0 with
 | s=>vn (Hc s0 vs++yE s.chs) s
def nlN:List AV->(ts:List Ty)->iS ts->Int
 | [.one (.own _)],[.sl _ t],d=>((List.length (α:=t.den) d.1:Nat):Int)
 | [.one (.val v)],[.sl _ _],_=>match isNil v with
  | true=>1
  | false=>0
 | _,_,_=>0
def Ws (an:List (Nat×Ty)) (vs:List AV) (ts:List Ty) (d:iS ts):Option Unit:=match B2 1000000 an with
 | true=>chk (0<nlN vs ts d)
 | false=>some ()
theorem Wt {vs:List AV} {ts:List Ty} {d:iS ts} {θ:Th} (h:0<nlN vs ts d) {v:Value} (hv:vs.map (·.v θ)= [v]):xf ts d v:=by
 unfold nlN at h
 split at h
 ·intro h0
  omega
 ·split at h
  ·rename_i h1
   intro _
   have:=mz h1
   subst this
   simpa [AV.v,LV.v] using hv.symm
  ·omega
 ·omega
def Nv (V:Env) (rvs:List ResultVar) (rs:List Ty) (ps:List PM) (d:denP ps) (s00:Sg):Option (dens (rs++outs ps)):=(B8 V.tt s00 rvs).bind fun vs00=>PZ vs00 s00 fun s0=>(B8 V.tt s0 rvs).bind fun vs0=>match QH V.tr vs0 s0 with
 | s=>(B8 V.tt s rvs).bind fun vs=>(Ha rs vs s.chs).bind fun r=>(dz ps.length 0 ps d r.2.2).bind fun o=>(Ws V.an vs rs r.1).bind fun _=>some (ofH _ (sY rs (outs ps) r.1 o.1))
end R
namespace R
open Go.RowKit
open D
theorem B9 {vs:List Value} : ∀ {ts:List Ty} {i:Nat} {us:List Value} {d:iS ts},us.length=ts.length->(∀j v,us[j]? =some v->vs[i+j]? =some v)->uY i ts d (.tuple vs.toArray)=wB ts us d
 | [],i,us,d,h,_=>by
  cases us with
  | nil=>rfl
  | cons _ _=>cases h
 | t::ts,i,[],d,h,_=>by cases h
 | t::ts,i,u::us,d,h,k=>by
  have h0:vg (.tuple vs.toArray) [i] =u:=by
   show vs.toArray.getD i undef=u
   have:=k 0 u rfl
   rw[Nat.add_zero] at this
   simp[Array.getD_eq_getD_getElem?,this]
  show Ch.own t.rep (iT t.isProd (vg (.tuple vs.toArray) [i])) d.1::uY (i+1) ts d.2 _=Ch.own t.rep (iT t.isProd u) d.1::wB ts us d.2
  rw[h0,B9 (us:=us) (by simpa using h) fun j v hj=>by
   have:=k (j+1) v (by simpa using hj)
   rwa [show i+(j+1)=i+1+j from by omega] at this]
theorem Kl {ts:List Ty} {vs:List Value} {d:iS ts} (h:vs.length=ts.length):resGv ts d (Xr vs)=wB ts vs d:=by
 match ts,vs,d,h with
 | [],[],d,_=>rfl
 | [t],[v],d,_=>rfl
 | t::u::ts,v::w::vs,d,h =>
  show uY 0 _ d (.tuple (v::w::vs).toArray)=_
  exact B9 h fun j x hj=>by rw[Nat.zero_add];exact hj
theorem QI {ts:List Ty} {vs:List Value} (h:vs.length=ts.length) (k: ∀(i:Nat) t v,ts[i]? =some t->vs[i]? =some v->oW v=t.isProd):resFa ts (Xr vs):=by
 match ts,vs,h with
 | [],[],_=>exact ⟨#[],rfl,rfl,fun i t ht=>by simp at ht⟩
 | [t],[v],_=>exact k 0 t v rfl rfl
 | t::u::ts,v::w::vs,h =>
  refine ⟨(v::w::vs).toArray,rfl,by simpa using h,fun i t' ht=>?_⟩
  have hlt:i<(v::w::vs).length:=by rw[h];exact (List.getElem?_eq_some_iff.1 ht).1
  have:=k i t' ((v::w::vs)[i]) ht (List.getElem?_eq_getElem hlt)
  rw[<-this,Array.getD_eq_getD_getElem?,List.getElem?_toArray,List.getElem?_eq_getElem hlt];rfl
theorem zM {P:Program} {I:Hp} {w0 w:World} {F:Ch} {J:Hp} {θ:Th} {n:Nat} {s:Sg} {a:Act} {tt:TT} (hT:TTok P tt) (hS:Sim P I w0 F n J θ s a w): ∀ {rs:List ResultVar} {vs:List AV},B8 tt s rs=some vs->I4 P a w rs (vs.map (·.v θ))/\ ∀v∈vs,v.ok P w0 J θ s.nxt s.chs
 | [],vs,h=>by
  obtain rfl:=ae (show some [] =some vs from h)
  exact ⟨rfl,fun v hv=>by cases hv⟩
 | r::rs,vs,h=>by
  obtain ⟨v,hv',h⟩:=bind_some (show (UG tt s r).bind _=some vs from h)
  obtain ⟨us,hus,h⟩:=bind_some h
  obtain rfl:=ae h
  obtain ⟨k1,k2⟩:=QG hT hS hv'
  obtain ⟨q1,q2⟩:=zM hT hS hus
  refine ⟨⟨_,_,rfl,k1,q1⟩,fun x hx=>?_⟩
  rcases az hx with rfl | hx
  ·exact k2
  ·exact q2 x hx
theorem Nw {J:Hp} {a b c d:List Ch} (h:mS J a b) (k:mS J c d):mS J (a++c) (b++d):=fun w F hs=>by
 obtain ⟨G,K,rfl,e1,e2⟩:=hs.split
 exact (h w G e1).append (k w K e2)
theorem St.sepTo {J:Hp} {w0 w:World} {a b C:List Ch} (h:St J w0 w (a++C)) (k:mS J a b):St J w0 w (b++C):=by
 obtain ⟨h1,h2,F,h3,h4,h5⟩:=h
 obtain ⟨G,K,rfl,e1,e2⟩:=h3.split
 exact ⟨h1,h2,G++K,(k w G e1).append e2,h4,h5⟩
theorem Ca {P:Program} {n:Nat} {I:Hp} {w0:World} {k:FuncId} {fn:Func} {c:Code} {args:Array Value} {rn:List Ch} {fact:Value->Prop} {gv:Value->List Ch} (L:List (Nat×Value)) (hf:P.funcs[k]? =some fn) (hb:fn.body=some c) (hn:fn.ntmps=n) (hm:args.size<=n) (hL: ∀p∈L,args[p.1]? =some p.2)
  (h: ∀F w a,Agr n a L->St I w0 w (rn++ [F])->c.wp P (bodyPost P fn fun e w'=> ∃v,e= .returned v/\fact v/\ ∃J,I.le J/\St J w0 w' (gv v++ [F])) a w) (hd: ∀v,Ch.back (gv v)):Con P k args I w0 rn fact gv:=by
 intro w C hs
 have hs':St I w0 w (rn++ [Ch.fr I C]):=by
  obtain ⟨hb,hi,F,h1,h2,h3⟩:=hs
  obtain ⟨G,K,rfl,e1,e2⟩:=h1.split
  exact ⟨hb,hi,G++K,e1.append ⟨K,[],by simp,e2,rfl⟩,h2,h3⟩
 have:=h (Ch.fr I C) w { tmps:=args++Array.replicate (fn.ntmps - args.size) undef,defers:=[] } (Agr.start L (by omega) hL) hs'
 refine (calls_of_wp hf hb this).mono ?_
 rintro e w' ⟨v,rfl,hv,J,hJ,hs⟩
 exact ⟨v,rfl,hv,hs.back hJ (hd v)⟩
theorem QJ {P:Program} {I:Hp} {w0 w:World} {F:Ch} {n:Nat} {J:Hp} {θ:Th} {s:Sg} {a:Act} {tr:Trs} {vs:List AV} (hS:Sim P I w0 F n J θ s a w): ∃J' θ',J.le J'/\Sim P I w0 F n J' θ' (QH tr vs s) a w/\Fr s θ (QH tr vs s) θ':=by
 have key: ∃J' θ',J.le J'/\Sim P I w0 F n J' θ' (Fk tr vs s) a w/\Fr s θ (Fk tr vs s) θ':=by
  unfold Fk
  split
  ·exact ⟨J,θ,Hp.le.rfl,hS,Fr.rfl⟩
  ·exact tZ hS
 obtain ⟨J',θ',h1,h2,h3⟩:=key
 obtain ⟨S2,F2⟩:=sy (V:=⟨[],[],[],n,[]⟩) (hs:=Hc s vs++yE (Fk tr vs s).chs) h2
 exact ⟨J',θ',h1,S2,h3.trans F2⟩
theorem Sf {V:Env} {P:Program} {w0:World} {F:Ch} {J:Hp} {θ:Th} (hT:TTok P V.tt) {fn:Func} {rs:List Ty} {ps:List PM} {d:denP ps} {vs:List Value} {s0:Sg} (k0:vs.length=ps.length) (k5:StF P w0 J θ (ps.length+1) 0 ps vs d) (hn0:ps.length+1<=s0.nxt) {γ:Value} (hγ:θ ps.length=γ): ∀r J' θ' s' a' w',Nv V fn.results.toList rs ps d s'=some r->Sim P J w0 F V.n J' θ' s' a' w'->J.le J'->Fr s0 θ s' θ'->
  bodyPost P fn (fun e w'=> ∃v,e= .returned v/\(resFa rs v/\(B2 1000000 V.an=true->xf rs (hFst rs (outs ps) (toH _ r)) v))/\ ∃J2,J.le J2/\St J2 w0 w' ((resGv rs (hFst rs (outs ps) (toH _ r)) v++outCh γ ps vs (hSnd rs (outs ps) (toH _ r)))++ [F])) .ret a' w':=by
 intro r J' θ' s' a' w' hrt hS' hJ hFr
 obtain ⟨vs00,hv00,hrt⟩:=bind_some (show (B8 V.tt s' fn.results.toList).bind _=some r from hrt)
 obtain ⟨s0',hrt,S0,N0⟩:=IK hrt (zM hT hS' hv00).2 hS'
 obtain ⟨vs0,hv0,hrt⟩:=bind_some hrt
 obtain ⟨J1,θ1,hJ1,S1,F1⟩:=QJ (tr:=V.tr) (vs:=vs0) S0
 generalize QH V.tr vs0 s0'=s1 at hrt S1 F1
 have hle:s0.nxt<=s'.nxt:=hFr.1
 have hsame:Same (ps.length+1) θ θ1:=fun i hi=>(F1.same i (by omega)).trans (hFr.same i (by omega))
 replace hJ:=hJ.trans hJ1
 clear hJ1 F1 hS' S0 hFr
 revert J1 θ1
 clear J' θ'
 intro J' θ' S1 hsame hJ
 obtain ⟨us,hus,hrt⟩:=bind_some hrt
 obtain ⟨q,hq,hrt⟩:=bind_some hrt
 obtain ⟨o,ho,hrt⟩:=bind_some hrt
 obtain ⟨u0,hnl,hrt⟩:=bind_some hrt
 obtain rfl:=ae hrt
 obtain ⟨r1,r2⟩:=zM hT S1 hus
 obtain ⟨t1,t2,t3,t4⟩:=B7 (J:=J') (θ:=θ') hq r2
 obtain ⟨o1,o2⟩:=dB (P:=P) (J:=J) (J':=J') (θ:=θ) (θ':=θ') (vs:=vs) (n:=ps.length+1) (n':=s1.nxt) (chs0:=s1.chs) hJ hsame (ax _) hγ ho k0 k5 fun e he=>S1.fine.chs e (t1.mem_iff.2 (by simp[he]))
 have hl:(us.map (·.v θ')).length=rs.length:=by rw[List.length_map];exact t2
 refine X6 S1.agr r1 ⟨_,rfl,⟨QI hl fun i t v ht hv1=>?_,fun han=>?_⟩,J',hJ,?_⟩
 ·rw[List.getElem?_map] at hv1
  obtain ⟨x,hx,rfl⟩:=Option.map_eq_some_iff.1 hv1
  exact t4 i t x ht hx
 ·rw[Hb,Dm]
  unfold Ws at hnl
  rw[han] at hnl
  have hnl:0<nlN us rs q.1:=bw hnl
  rcases us with _ | ⟨x,us⟩
  ·cases hnl
  ·cases us with
   | nil=>exact Wt (θ:=θ') hnl rfl
   | cons y us=>unfold nlN at hnl;split at hnl <;> first | omega | simp_all
 ·rw[Hb,Dm,I5,Kl hl]
  have hp:=t1.trans (o1.append_left _)
  have h1:=S1.st.perm ((hp.map (toCh P θ')).append_right [F])
  have h2:St J' w0 w' ((q.2.1.map (toCh P θ')++o.2.1.map (toCh P θ'))++(o.2.2.map (toCh P θ')++ [F])):=by
   simpa [aM,ai] using h1
  have h3:=St.sepTo h2 (Nw t3 o2)
  refine St.left (ds:=o.2.2.map (toCh P θ')) (h3.perm ?_)
  simp only[ai]
  exact List.Perm.append_left _ (List.Perm.append_left _ List.perm_append_comm)
theorem UK {V:Env} {P:Program} (hT:TTok P V.tt) (hF:FTok P V.ft) (hmx:P.follows .mixedOrders=true) {k:FuncId} {fn:Func} {c:Code} {f:FS} (hf:P.funcs[k]? =some fn) (hb:fn.body=some c) (hn:fn.ntmps=V.n) (hen:Enters P k) (hm:f.ps.length<=V.n) (hdp:(EH f.rs&&wj f.ps)=true) (ann:Ann)
  (hmod: ∀d,appP f.ps f.m d=j7 V (Nv V fn.results.toList f.rs f.ps d) c ann (fun r=>some r) (fun _ _=>none) (Nv V fn.results.toList f.rs f.ps d) (qS (zL f.ps d))): ∀w0 J γ vs (d:denP f.ps) r,Lay P J->PArgs P w0 J γ f.ps vs d->appP f.ps f.m d=some r->Con P k vs.toArray J w0 (owCh γ f.ps vs d) (fun v=>resFa f.rs v/\(B2 1000000 V.an=true->xf f.rs (hFst f.rs (outs f.ps) (toH _ r)) v)) (fun v=>resGv f.rs (hFst f.rs (outs f.ps) (toH _ r)) v++outCh γ f.ps vs (hSnd f.rs (outs f.ps) (toH _ r))):=by
 rw[ak] at hdp
 intro w0 J γ vs d r hlay ha hr
 rw[hmod] at hr
 have k0:=Fj ha
 let θ:Th:=fun i=>if i=vs.length then γ else vs.getD i undef
 have hθ: ∀j v,vs[j]? =some v->θ (0+j)=v:=fun j v hj=>by
  show (if 0+j=vs.length then γ else vs.getD (0+j) undef)=v
  rw[Nat.zero_add,if_neg (Nat.ne_of_lt (List.getElem?_eq_some_iff.1 hj).1),List.getD_eq_getElem?_getD,hj];rfl
 have hθg:θ f.ps.length=γ:=by
  show (if f.ps.length=vs.length then γ else _)=γ
  rw[if_pos k0.symm]
 have hzip: ∀p∈(vs.zipIdx.map fun q=>(q.2,q.1)),vs.toArray[p.1]? =some p.2:=fun p hp=>by
  obtain ⟨q,hq,rfl⟩:=List.mem_map.1 hp
  obtain ⟨v,j⟩:=q
  have:=(List.mk_mem_zipIdx_iff_getElem? (x:=v) (i:=j)).1 hq
  simpa using this
 refine Ca (n:=V.n) (vs.zipIdx.map fun q=>(q.2,q.1)) hf hb hn (by rw[List.size_toArray,k0];exact hm) hzip (fun F w a hA hst=>?_) (fun v=>wm (dy _ _ _ hdp.2) _ _ hdp.1)
 ·obtain ⟨k1,k2,k3,k4,k5⟩:=I3 (n:=f.ps.length+1) (q:=f.ps.length) (C:=[F]) (ax _) hθg ha hθ (by omega) hst
  have hfine:Fine P w0 J θ (zL f.ps d):=⟨fun e he=>(k1 e he).1 _,fun e he=>by have:=k1 e he;show e.2.1<f.ps.length+1;omega,k2,fun e he=>k4 e he _,hlay⟩
  have hA':Agr V.n a (envL θ (zL f.ps d)):=hA.pick _ fun p hp=>by
   obtain ⟨e,he,rfl⟩:=List.mem_map.1 hp
   have h5:=(k1 e he).2.2.2.2
   rw[Nat.sub_zero] at h5
   have key: ∀(l:List Value) (k:Nat) (i:Nat) (v:Value),k<=i->l[i - k]? =some v->((l.zipIdx k).map fun q=>(q.2,q.1)).lookup i=some v:=by
    intro l
    induction l with
    | nil=>intro k i v _ h;simp at h
    | cons x l ih =>
     intro k i v hk h
     simp only[List.zipIdx_cons,List.map_cons,List.lookup_cons]
     by_cases e:i=k
     ·subst e
      simp at h
      simp[h]
     ·have:(i==k)=false:=by simpa using e
      rw[this]
      refine ih (k+1) i v (by omega) ?_
      rw[show i - k=(i - (k+1))+1 from by omega] at h
      simpa using h
   exact key vs 0 e.1 _ (Nat.zero_le _) h5
  have hS:Sim P J w0 F V.n J θ (zL f.ps d) a w:=⟨Hp.le.rfl,hA',k3,hfine⟩
  have fin:=Sf (rs:=f.rs) (fn:=fn) (F:=F) hT k0 k5 (aE (zL f.ps d).nxt) hθg
  obtain ⟨θ0,hS0,hFr0⟩:=yx hS
  exact (zK (I:=J) (w0:=w0) (F:=F) hT hF hmx c).1 ann hr hS0 (fun J' θ' s' a' w' hk S' hJ hFr=>fin r J' θ' s' a' w' hk S' hJ (hFr0.trans hFr)) (fun i J' θ' s' a' w' hk=>by cases hk) (fun r' J' θ' s' a' w' hrt hrr hS' hJ hFr=>by
   obtain rfl:=ae hrr
   exact fin _ J' θ' s' a' w' hrt hS' hJ (hFr0.trans hFr))
theorem fok {V:Env} {P:Program} (hT:TTok P V.tt) (hF:FTok P V.ft) (hmx:P.follows .mixedOrders=true) {k:FuncId} {fn:Func} {c:Code} {f:FS} (hf:P.funcs[k]? =some fn) (hb:fn.body=some c) (hn:fn.ntmps=V.n) (hen:Enters P k) (hcl:f.cl=none) (hm:f.ps.length<=V.n) (hdp:(EH f.rs&&wj f.ps)=true) (ann:Ann)
  (hmod: ∀d,appP f.ps f.m d=j7 V (Nv V fn.results.toList f.rs f.ps d) c ann (fun r=>some r) (fun _ _=>none) (Nv V fn.results.toList f.rs f.ps d) (qS (zL f.ps d))):FOk P k f:=
 ⟨fun q hq=>by (rw[hcl] at hq;cases hq),fun _=>hen,fun _ w0 J γ vs d r hlay ha hr w C hs=>(UK hT hF hmx hf hb hn hen hm hdp ann hmod w0 J γ vs d r hlay ha hr w C hs).mono fun e w' ⟨v,h1,h2,h3⟩=>⟨v,h1,h2.1,h3⟩⟩
theorem I6 {V:Env} {P:Program} (hT:TTok P V.tt) (hF:FTok P V.ft) (hmx:P.follows .mixedOrders=true) {k:FuncId} {fn:Func} {c:Code} {E b:Nat} (hf:P.funcs[k]? =some fn) (hb:fn.body=some c) (hn:fn.ntmps=V.n) (hen:Enters P k) (hm:1<=V.n) (ann:Ann)
  (hmod: ∀(E':TypeId) (bn:Bool) (xs:List Raw),(match bn with | true=>some ([] :List Raw) | false=>(cd b [] xs).bind fun zs=>some zs)=j7 V (Nv V fn.results.toList [.sl E .raw] [] ()) c ann (fun r=>some r) (fun _ _=>none) (Nv V fn.results.toList [.sl E .raw] [] ()) ⟨[(0,0,.one (.rdn ⟨0,[]⟩ bn (.sl E' .raw) xs))],[],1⟩):wh P k E b:=by
 refine ⟨hen,fun E' J w0 v xs zs hlay hrd sY=>?_⟩
 obtain ⟨bn,hbn⟩: ∃bn,BN v=bn:=⟨_,rfl⟩
 have hr:j7 V (Nv V fn.results.toList [.sl E .raw] [] ()) c ann (fun r=>some r) (fun _ _=>none) (Nv V fn.results.toList [.sl E .raw] [] ()) ⟨[(0,0,.one (.rdn ⟨0,[]⟩ bn (.sl E' .raw) xs))],[],1⟩=some zs:=by
  rw[<-hmod E' bn xs]
  cases bn with
  | false =>
   show (cd b [] xs).bind _=_
   rw[sY];rfl
  | true =>
   obtain ⟨h1,-⟩:=C6 sY
   obtain ⟨ao,cap,e,-,hx⟩:=hrd
   obtain rfl:v= .slice ao xs.length cap:=by simpa using e
   rcases hx with rfl | ⟨b,off,ccs,t,fr,rfl,-⟩
   ·rw[h1];rfl
   ·cases hbn
 let θ:Th:=fun _=>v
 have key:Con P k #[v] J w0 [] (fun v=>resFa [.sl E .raw] v/\(B2 1000000 V.an=true->xf [.sl E .raw] (zs,()) v)) (fun v=>resGv [.sl E .raw] (zs,()) v++ []):=by
  refine Ca (n:=V.n) [(0,v)] hf hb hn hm (fun p hp=>by obtain rfl:=aq hp;rfl) (fun F w a hA hst=>?_) (fun u=>wm (D:=[]) trivial [.sl E .raw] (zs,()) rfl)
  have hfine:Fine P w0 J θ ⟨[(0,0,.one (.rdn ⟨0,[]⟩ bn (.sl E' .raw) xs))],[],1⟩:=⟨fun e he=>by obtain rfl:=aq he;exact ⟨Nat.one_pos,hrd,hbn⟩,fun e he=>by obtain rfl:=aq he;exact Nat.one_pos,List.pairwise_singleton _ _,fun e he=>(by cases he),hlay⟩
  have hS:Sim P J w0 F V.n J θ ⟨[(0,0,.one (.rdn ⟨0,[]⟩ bn (.sl E' .raw) xs))],[],1⟩ a w:=⟨Hp.le.rfl,hA,hst,hfine⟩
  have fin:=Sf (V:=V) (θ:=θ) (J:=J) (w0:=w0) (rs:=[.sl E .raw]) (ps:=[]) (d:=()) (vs:=[]) (s0:=⟨[(0,0,.one (.rdn ⟨0,[]⟩ bn (.sl E' .raw) xs))],[],1⟩) (fn:=fn) (F:=F) hT rfl trivial (aE _) (γ:=θ 0) rfl
  exact (zK (I:=J) (w0:=w0) (F:=F) hT hF hmx c).1 ann hr hS (fun J' θ' s' a' w' hk S' hJ hFr=>fin _ J' θ' s' a' w' hk S' hJ hFr) (fun i J' θ' s' a' w' hk=>by cases hk) (fun r' J' θ' s' a' w' hrt hrr hS' hJ hFr=>by
   obtain rfl:=ae hrr
   exact fin _ J' θ' s' a' w' hrt hS' hJ hFr)
 exact fun w C hs=>(key w C hs).mono fun e w' ⟨v,h1,h2,h3⟩=>⟨v,h1,trivial,h3⟩
def jU:Nat->Ty
 | 0=>.raw
 | n+1=>.prod .raw (jU n)
def qv:(n:Nat)->(jU n).den->List Value
 | 0,p=>[p.1]
 | n+1,p=>p.1.1::qv n p.2
theorem rq: ∀n,(jU n).rep.size=n+1
 | 0=>rfl
 | n+1=>by
  show 1+(jU n).rep.size=_
  rw[rq n];omega
theorem I7 {I:Hp} {w:World} : ∀(n:Nat) {cs:List Value} {p:(jU n).den} {F:List Nat},(jU n).rep.own I w cs p F->F= [] /\cs=qv n p
 | 0,cs,p,F,h=>by
  obtain ⟨h1,h2⟩:=h
  exact ⟨h1,h2⟩
 | n+1,cs,p,F,⟨c,d,G,K,h1,h2,h3,h4⟩=>by
  obtain ⟨rfl,h5⟩:=h3
  obtain ⟨rfl,h6⟩:=I7 n h4
  have h5:c= [p.1.1]:=h5
  subst h1;subst h2;subst h5
  exact ⟨rfl,by rw[h6];rfl⟩
theorem Nx: ∀(n:Nat) (cs:List Value),cs.length=n+1->(∀u∈cs,u.oneCell'=true)-> ∃p:(jU n).den,qv n p=cs
 | 0,cs,hl,h1=>by
  obtain ⟨u,rfl⟩:=List.length_eq_one_iff.1 hl
  exact ⟨⟨u,h1 u (by simp)⟩,rfl⟩
 | n+1,u::cs,hl,h1=>by
  obtain ⟨p,hp⟩:=Nx n cs (by simpa using hl) (fun v hv=>h1 v (by simp[hv]))
  exact ⟨(⟨u,h1 u (by simp)⟩,p),by show u::qv n p=_;rw[hp]⟩
theorem j8 {P:Program} {k:FuncId} {f:FS} (h:Enters P k) (hc:f.cl=none) (hm: ∀d,appP f.ps f.m d=none):FOk P k f:=
 ⟨fun q hq=>by (rw[hc] at hq;cases hq),fun _=>h,fun _ _ _ _ _ d r _ _ hr=>by rw[hm d] at hr;cases hr⟩
theorem Fl {P:Program} {k:FuncId} {f:FS} {E b:Nat} (h:FOk P k ⟨f.ps,f.rs,f.m,none⟩) (hc:wh P k E b) (hb:Nat.beq b 0=false:=by rfl) (h7:Nat.beq b 7=false:=by rfl) (h8:Nat.ble 1000 b=false:=by rfl) (h9:Nat.beq b 9=false:=by rfl):FOk P k ⟨f.ps,f.rs,f.m,some (E,b)⟩:=
 ⟨fun q hq=>by obtain rfl:=ae hq;exact ⟨⟨fun e=>(by rw[hb] at e;cases e),fun _ _ _ _=>hc,fun e=>(by rw[h8] at e;cases e)⟩,fun e=>(by rw[h7] at e;cases e),fun e=>(by rw[h9] at e;cases e)⟩,fun _=>h.en rfl,fun _=>h.con rfl⟩
end R
namespace R
open Go.RowKit
open D
theorem I8 {n:Nat} {α:Type} {R:Rep α} (hR:R.Sh) (h1:R.size=n+1) {I:Hp} {w:World} : ∀ {xs:List α} {cur:List Value} {K:List Nat},OwnEls R I w cur xs K-> ∃ps:List (jU n).den,K= [] /\OwnEls (jU n).rep I w cur ps [] /\All2 (fun p x=>R.rd I (qv n p) x) ps xs
 | [],cur,K,h=>⟨[],h,rfl,.nil⟩
 | x::xs,cur,K,⟨c,rest,G,K1,e1,e2,e3,e4,e5⟩=>by
  obtain ⟨rfl,hrd⟩:=hR e4
  obtain ⟨p,rfl⟩:=Nx n c (e2.trans h1) (R.rd_one hrd)
  obtain ⟨ps,rfl,k2,k3⟩:=I8 hR h1 e5
  have hraw: ∀(m:Nat) (q:(jU m).den),(jU m).rep.own I w (qv m q) q []:=by
   intro m
   induction m with
   | zero=>intro q;exact ⟨rfl,rfl⟩
   | succ m ih=>intro q;exact ⟨[q.1.1],qv m q.2,[],[],rfl,rfl,⟨rfl,rfl⟩,ih q.2⟩
  exact ⟨p::ps,e3,⟨qv n p,rest,[],[],e1,by rw[e2,h1,rq],rfl,hraw n p,k2⟩,.cons hrd k3⟩
theorem Dn {n:Nat} {α:Type} {E:TypeId} {R:Rep α} (hR:R.Sh) (h1:R.size=n+1) {I:Hp} {w0 w:World} {C:List Ch} {v:Value} {xs:List α} (h:St I w0 w (Ch.own (af E R) [v] xs::C)): ∃ps:List (jU n).den,All2 (fun p x=>R.rd I (qv n p) x) ps xs/\St I w0 w (Ch.own (af E (jU n).rep) [v] ps::C):=by
 obtain ⟨a1,a2,F,⟨G,K,rfl,⟨hl,k⟩,e⟩,a4,a5⟩:=h
 rcases k with ⟨hv',rfl,rfl⟩ | ⟨g,ofs,cap,cur,K1,hv',k1,k2,k3,k4,rfl,k5⟩
 ·exact ⟨[],.nil,a1,a2,[] ++K,⟨[],K,rfl,⟨Nat.zero_le _,.inl ⟨hv',rfl,rfl⟩⟩,e⟩,a4,a5⟩
 ·obtain ⟨ps,rfl,q1,q2⟩:=I8 hR h1 k5
  have hlen:=q2.length_eq
  exact ⟨ps,q2,a1,a2,[g] ++K,⟨[g],K,rfl,⟨by rw[hlen];exact hl,.inr ⟨g,ofs,cap,cur,[],by rw[hlen];exact hv',k1,by rw[hlen];exact k2,k3,by rw[h1] at k4;rw[rq];exact k4,rfl,q1⟩⟩,e⟩,a4,a5⟩
theorem Fm {n:Nat} {α:Type} {R:Rep α} (hC:Cpy R R) (h1:R.size=n+1) {I:Hp} {w:World} : ∀ {ps:List (jU n).den} {xs:List α} {cur:List Value} {F:List Nat},OwnEls (jU n).rep I w cur ps F->All2 (fun p x=>R.rd I (qv n p) x) ps xs->OwnEls R I w cur xs F
 | [],[],_,_,h,_=>h
 | p::ps,x::xs,cur,F,⟨c,rest,G,K,e1,e2,e3,e4,e5⟩,hh=>by
  cases hh with
  | cons hp hps =>
   obtain ⟨rfl,rfl⟩:=I7 n e4
   exact ⟨qv n p,rest,[],K,e1,by rw[e2,rq];exact h1.symm,e3,hC hp,Fm hC h1 e5 hps⟩
 | [],_::_,_,_,_,hh=>by cases hh
 | _::_,[],_,_,_,hh=>by cases hh
theorem zN {n:Nat} {α:Type} {E:TypeId} {R:Rep α} (hC:Cpy R R) (h1:R.size=n+1) {I:Hp} {w0 w:World} {C:List Ch} {v:Value} {xs:List α} {ps:List (jU n).den} (hp:All2 (fun p x=>R.rd I (qv n p) x) ps xs) (h:St I w0 w (Ch.own (af E (jU n).rep) [v] ps::C)):St I w0 w (Ch.own (af E R) [v] xs::C):=by
 obtain ⟨a1,a2,F,⟨G,K,rfl,⟨hl,k⟩,e⟩,a4,a5⟩:=h
 have hlen:=hp.length_eq
 rcases k with ⟨hv',rfl,rfl⟩ | ⟨g,ofs,cap,cur,K1,hv',k1,k2,k3,k4,rfl,k5⟩
 ·cases hp
  exact ⟨a1,a2,[] ++K,⟨[],K,rfl,⟨Nat.zero_le _,.inl ⟨hv',rfl,rfl⟩⟩,e⟩,a4,a5⟩
 ·exact ⟨a1,a2,(g::K1)++K,⟨g::K1,K,rfl,⟨by rw[<-hlen];exact hl,.inr ⟨g,ofs,cap,cur,K1,by rw[<-hlen];exact hv',k1,by rw[<-hlen];exact k2,k3,by rw[rq] at k4;rw[h1];exact k4,rfl,Fm hC h1 k5 hp⟩⟩,e⟩,a4,a5⟩
theorem zO {α β:Type} {p:α->β->Prop} : ∀ {xs:List α} {ys:List β} (n:Nat),All2 p xs ys->All2 p (xs.take n) (ys.take n)
 | _,_,0,_=>.nil
 | _,_,n+1,.nil=>.nil
 | _,_,n+1,.cons h k=>.cons h (zO n k)
theorem yF {α β:Type} {p:α->β->Prop} : ∀ {xs:List α} {ys:List β} {xs':List α} {ys':List β},All2 p xs ys->All2 p xs' ys'->All2 p (xs++xs') (ys++ys')
 | _,_,_,_,.nil,h=>h
 | _,_,_,_,.cons h k,h'=>.cons h (yF k h')
def Xt {α:Type} (xs:List α) (i j:Int):Option (List α):=(chk (0<=i/\i<=j/\j<=(xs.length:Int))).bind fun _=>some (xs.take i.toNat++xs.drop j.toNat)
def Xu {α:Type} (z:α) (p0s:List α) (p1i p2j:Int):Option (List α):=
 (chk (And (0<=p1i) (And (p1i<=p2j) (And (p2j<=(p0s.length:Int)) ((0+(p0s.length:Int))<=(p0s.length:Int)))))).bind fun _=>if p1i==p2j then (some p0s) else ((chk (And ((0:Int)<=0) (And (0<=p1i) ((0+p1i)<=(p0s.length:Int))))).bind fun _=>(chk (And (0<=p2j) (And (p2j<=((p0s.length:Int) - 0)) ((0+((p0s.length:Int) - 0))<=(p0s.length:Int))))).bind fun _=>(chk (And ((0+0:Int)=0) (And ((0+p1i)<=(0+p2j)) (And ((0+p2j)<=(0+((p0s.length:Int) - 0))) ((0+((p0s.length:Int) - 0))<=(p0s.length:Int)))))).bind fun _=>(chk (And (0<=(((0+p1i)+((0+((p0s.length:Int) - 0)) - (0+p2j))) - 0)) (And ((((0+p1i)+((0+((p0s.length:Int) - 0)) - (0+p2j))) - 0)<=(p0s.length:Int)) ((0+(p0s.length:Int))<=((oh p0s ((0+p1i).toNat) ((0+p2j).toNat) ((0+((p0s.length:Int) - 0)).toNat)).length:Int))))).bind fun _=>(chk (And ((0+(((0+p1i)+((0+((p0s.length:Int) - 0)) - (0+p2j))) - 0))<=(0+(p0s.length:Int))) ((0+(p0s.length:Int))<=((oh p0s ((0+p1i).toNat) ((0+p2j).toNat) ((0+((p0s.length:Int) - 0)).toNat)).length:Int)))).bind fun _=>some (((wq (oh p0s ((0+p1i).toNat) ((0+p2j).toNat) ((0+((p0s.length:Int) - 0)).toNat)) ((0+(((0+p1i)+((0+((p0s.length:Int) - 0)) - (0+p2j))) - 0)).toNat) ((0+(p0s.length:Int)).toNat) z).take (((0+p1i)+((0+((p0s.length:Int) - 0)) - (0+p2j))).toNat)).drop ((0:Int).toNat)))
theorem chk_of {α:Type} {p:Prop} [Decidable p] {k:Unit->Option α} (h:p):(chk p).bind k=k ():=by
 unfold chk
 rw[if_pos h];rfl
theorem UL {α:Type} {z:α} {xs:List α} {i j:Int} (h1:0<=i) (h2:i<=j) (h3:j<=(xs.length:Int)):Xu z xs i j=some (xs.take i.toNat++xs.drop j.toNat):=by
 have hsl:(oh xs ((0+i).toNat) ((0+j).toNat) ((0+((xs.length:Int) - 0)).toNat)).length=xs.length:=vj (by omega) (by omega) (by omega)
 unfold Xu
 rw[chk_of (by omega)]
 by_cases hij:i=j
 ·subst hij
  rw[if_pos (by simp),List.take_append_drop]
 ·rw[if_neg (by simpa using hij),chk_of (by omega),chk_of (by omega),chk_of (by omega),chk_of (by rw[hsl];omega),chk_of (by rw[hsl];omega)]
  have hzl:(wq (oh xs ((0+i).toNat) ((0+j).toNat) ((0+((xs.length:Int) - 0)).toNat)) ((0+(((0+i)+((0+((xs.length:Int) - 0)) - (0+j))) - 0)).toNat) ((0+(xs.length:Int)).toNat) z).length=xs.length:=by
   rw[xi (by omega) (by rw[hsl];omega),hsl]
  congr 1
  rw[show ((0:Int).toNat)=0 from rfl,List.drop_zero]
  apply List.ext_getElem?
  intro q
  have hi:(xs.take i.toNat).length=i.toNat:=by rw[aA];omega
  rw[List.getElem?_take]
  by_cases c:q<((0+i)+((0+((xs.length:Int) - 0)) - (0+j))).toNat
  ·rw[if_pos c,EN (by omega) (by rw[hsl];omega),if_neg (by omega),BY (by omega) (by omega) (by omega)]
   by_cases c1:q<i.toNat
   ·rw[if_neg (by omega),List.getElem?_append_left (by omega),List.getElem?_take,if_pos c1]
   ·rw[if_pos (by omega),List.getElem?_append_right (by omega),hi,List.getElem?_drop]
    congr 1;omega
  ·rw[if_neg c,List.getElem?_append_right (by omega),List.getElem?_drop,List.getElem?_eq_none (by omega)]
theorem UM {P:Program} {k:FuncId} {E n:Nat} {u:Ty} {z:(jU n).den} (hu:u.sh=true) (hs:u.size=n+1) (h:FOk P k ⟨[.eat (.sl E (jU n)),.rd (.int .i64),.rd (.int .i64)],[.sl E (jU n)],Xu z,none⟩):FOk P k ⟨[.eat (.sl E u),.rd (.int .i64),.rd (.int .i64)],[.sl E u],Xt,none⟩:=by
 refine ⟨fun q hq=>(by cases hq),fun _=>h.en rfl,fun _ w0 J γ vs d r hlay ha sY=>?_⟩
 obtain ⟨v,vs1,rfl,hd,v2,vs2,rfl,hd2,v3,vs3,rfl,hd3,hnil⟩:=ha
 obtain rfl:vs3= []:=hnil
 obtain ⟨xs0,i0,j0,un⟩:=d
 let xs:List u.den:=xs0
 let i:Int:=i0
 let j:Int:=j0
 let zs:List u.den:=r
 have sY:Xt xs i j=some zs:=sY
 obtain ⟨u1,hc,hz⟩:=Option.bind_eq_some_iff.1 sY
 obtain ⟨c1,c2,c3⟩:=bw hc
 have hz:=ae hz
 have hsz:u.rep.size=n+1:=(Ty.rep_size u).trans hs
 intro w C hst
 have hst:St J w0 w (Ch.own (af E u.rep) [v] xs::C):=hst
 obtain ⟨ps,hp,hst2⟩:=Dn (Ty.sh_ok hu) hsz hst
 have hlen:=hp.length_eq
 have hm:Xu z ps i j=some (ps.take i.toNat++ps.drop j.toNat):=UL c1 c2 (by rw[hlen];exact c3)
 have key:=h.con rfl w0 J undef [v,v2,v3] (ps,i,j,()) (show dens ([Ty.sl E (jU n)] ++ []) from ps.take i.toNat++ps.drop j.toNat) hlay ⟨v,_,rfl,hd,v2,_,rfl,hd2,v3,_,rfl,hd3,rfl⟩ hm
 refine (key w C hst2).mono fun e w' ⟨r,a1,a2,a3⟩=>⟨r,a1,a2,?_⟩
 have a3:St J w0 w' (Ch.own (af E (jU n).rep) [r] (ps.take i.toNat++ps.drop j.toNat)::C):=a3
 show St J w0 w' (Ch.own (af E u.rep) [r] zs::C)
 rw[<-hz]
 exact zN (Ty.cpy hu) hsz (yF (zO _ hp) (oe _ hp)) a3
def YX {α:Type} (b:Nat) (z:α) (xs:List α) (i:Int) (v:List α) (c:Nat):Option (List α×List α):=
 (chk ((0:Int)<=0/\0<=i/\0+i<=(xs.length:Int))).bind fun _ =>
 (chk ((0+0:Int)=0/\0+i<=(xs.length:Int)/\0<i64.wrap (i64.wrap ((xs.length:Int)+(v.length:Int)) - i)/\(c:Int)<(0+i)+i64.wrap (i64.wrap ((xs.length:Int)+(v.length:Int)) - i)/\((0+i)+i64.wrap (i64.wrap ((xs.length:Int)+(v.length:Int)) - i))*(b:Int)<=140737488355328)).bind fun _ =>
 (fun s2:List α=>(chk (0<=i/\i<=(s2.length:Int) - 0/\0+((s2.length:Int) - 0)<=(s2.length:Int))).bind fun _ =>
  (chk ((0:Int)<=0/\0<=min ((v.length:Int) - 0) ((0+((s2.length:Int) - 0)) - (0+i))/\0+min ((v.length:Int) - 0) ((0+((s2.length:Int) - 0)) - (0+i))<=(v.length:Int)/\0<=0+i/\0+i<=(s2.length:Int)/\0+((s2.length:Int) - 0)<=(s2.length:Int))).bind fun _ =>
  (fun s3:List α=>(chk (0<=i64.wrap (i+(v.length:Int))/\i64.wrap (i+(v.length:Int))<=(s3.length:Int) - 0/\0+((s3.length:Int) - 0)<=(s3.length:Int))).bind fun _ =>
   (chk (0<=i/\i<=(xs.length:Int) - 0/\0+((xs.length:Int) - 0)<=(xs.length:Int))).bind fun _ =>
   (chk (0<=0+i/\0<=min ((0+((xs.length:Int) - 0)) - (0+i)) ((0+((s3.length:Int) - 0)) - (0+i64.wrap (i+(v.length:Int))))/\(0+i)+min ((0+((xs.length:Int) - 0)) - (0+i)) ((0+((s3.length:Int) - 0)) - (0+i64.wrap (i+(v.length:Int))))<=(xs.length:Int)/\0<=0+i64.wrap (i+(v.length:Int))/\0+i64.wrap (i+(v.length:Int))<=(s3.length:Int)/\0+((s3.length:Int) - 0)<=(s3.length:Int))).bind fun _ =>
   some (vY s3 (0+i64.wrap (i+(v.length:Int))).toNat (xV xs (0+i) (min ((0+((xs.length:Int) - 0)) - (0+i)) ((0+((s3.length:Int) - 0)) - (0+i64.wrap (i+(v.length:Int)))))),v))
  (vY s2 (0+i).toNat (xV v 0 (min ((v.length:Int) - 0) ((0+((s2.length:Int) - 0)) - (0+i))))))
 (xs.take (0+i).toNat++List.replicate (i64.wrap (i64.wrap ((xs.length:Int)+(v.length:Int)) - i)).toNat z)
def YY {α:Type} (xs:List α) (i:Int) (v:List α) (c:Nat):Option (List α×List α):=
 (fun w0 w:Int=>(chk ((xs.length:Int)<=w0/\w0<=(c:Int))).bind fun _ =>
  (chk (0<=w/\w<=w0 - 0/\w0 - 0<=w0 - 0)).bind fun _ =>
  (chk (0<v.length/\0+w<0+(w0 - 0))).bind fun _ =>
  (chk (0<=w/\w<=w0 - 0/\w0 - 0<=w0 - 0)).bind fun _ =>
  (chk (0<=i/\i<=w0 - 0/\w0 - 0<=w0 - 0)).bind fun _ =>
  (chk (0<=0+i/\0<=min ((0+(w0 - 0)) - (0+i)) ((0+(w0 - 0)) - (0+w))/\(0+i)+min ((0+(w0 - 0)) - (0+i)) ((0+(w0 - 0)) - (0+w))<=(xs.length:Int)/\0<=0+w/\0+w<=(xs.length:Int))).bind fun _ =>
  (chk ((0+w)+min ((0+(w0 - 0)) - (0+i)) ((0+(w0 - 0)) - (0+w))=w0/\(xs.length:Int)<=w0)).bind fun _ =>
  (fun s2:List α=>(chk (0<=i/\i<=(s2.length:Int) - 0/\0+((s2.length:Int) - 0)<=(s2.length:Int))).bind fun _ =>
   (chk ((0:Int)<=0/\0<=min ((v.length:Int) - 0) ((0+((s2.length:Int) - 0)) - (0+i))/\0+min ((v.length:Int) - 0) ((0+((s2.length:Int) - 0)) - (0+i))<=(v.length:Int)/\0<=0+i/\0+i<=(s2.length:Int)/\0+((s2.length:Int) - 0)<=(s2.length:Int))).bind fun _ =>
   some (vY s2 (0+i).toNat (xV v 0 (min ((v.length:Int) - 0) ((0+((s2.length:Int) - 0)) - (0+i)))),v))
  (vY xs (0+w).toNat (xV xs (0+i) (min ((0+(w0 - 0)) - (0+i)) ((0+(w0 - 0)) - (0+w))))))
 (i64.wrap ((xs.length:Int)+(v.length:Int))) (i64.wrap (i+(v.length:Int)))
noncomputable def X7 {α:Type} (b:Nat) (z:α) (xs:List α) (i:Int) (v:List α):Option (List α×List α):=
 (chk (0<=i/\i<=(xs.length:Int) - 0/\0+((xs.length:Int) - 0)<=(xs.length:Int))).bind fun _ =>
 if (v.length:Int)==0 then some (xs,v) else if i==(xs.length:Int) then (cd b xs v).bind fun zs=>some (zs,v) else
 IL xs.length fun c=>if Xa .gtr (i64.wrap ((xs.length:Int)+(v.length:Int))) (c:Int) then YX b z xs i v c else YY xs i v c
def UN {α:Type} (b:Nat) (xs:List α) (i:Int) (v:List α):Option (List α×List α):=
 (chk (0<=i/\i<=(xs.length:Int)/\v.length=1/\1<=b/\(xs.length+1)*b<=140737488355328)).bind fun _=>some (xs.take i.toNat++(v++xs.drop i.toNat),v)
theorem Ny {α:Type} {xs v:List α} {i q:Nat} (hi:i<=xs.length) (hv:v.length=1):(xs.take i++(v++xs.drop i))[q]? =if q<i then xs[q]? else if q=i then v[0]? else xs[q - 1]? :=by
 have hl:(xs.take i).length=i:=by rw[aA];omega
 by_cases c1:q<i
 ·rw[if_pos c1,List.getElem?_append_left (by omega),List.getElem?_take,if_pos c1]
 ·rw[if_neg c1,List.getElem?_append_right (by omega),hl]
  by_cases c2:q=i
  ·rw[if_pos c2,List.getElem?_append_left (by omega),c2,Nat.sub_self]
  ·rw[if_neg c2,List.getElem?_append_right (by omega),hv,List.getElem?_drop];congr 1;omega
set_option maxHeartbeats 1000000 in
theorem UO {α:Type} {b:Nat} {z:α} {xs v:List α} {i:Int} {r:List α×List α} (h:UN b xs i v=some r):X7 b z xs i v=some r:=by
 obtain ⟨u,hc,h⟩:=Option.bind_eq_some_iff.1 h
 obtain ⟨h1,h2,hv,hb,hbig⟩:=bw hc
 obtain rfl:=ae h
 have hn:xs.length+1<=140737488355328:=by
  have:(xs.length+1)*1<=(xs.length+1)*b:=Nat.mul_le_mul_left _ hb
  omega
 obtain ⟨k,rfl⟩: ∃k:Nat,i=(k:Int):=⟨i.toNat,by omega⟩
 have hk:k<=xs.length:=by omega
 have w1:i64.wrap ((xs.length:Int)+(v.length:Int))=((xs.length+1:Nat):Int):=by rw[hv,IntKind.wrap_i64];omega
 have w2:i64.wrap ((k:Int)+(v.length:Int))=((k+1:Nat):Int):=by rw[hv,IntKind.wrap_i64];omega
 have w3:i64.wrap (((xs.length+1:Nat):Int) - (k:Int))=((xs.length+1 - k:Nat):Int):=by rw[IntKind.wrap_i64];omega
 unfold X7
 rw[chk_of (by omega)]
 rw[if_neg (by rw[hv];decide)]
 by_cases hkn:k=xs.length
 ·subst hkn
  rw[if_pos (by simp)]
  have:cd b xs v=some (xs++v):=by unfold cd;rw[if_pos (by rw[hv];exact hbig)]
  rw[this]
  simp
 ·rw[if_neg (by simp;omega)]
  have tk:((k:Int)).toNat=k:=rfl
  have t0:(0+(k:Int)).toNat=k:=by omega
  have t1:(0+((k+1:Nat):Int)).toNat=k+1:=by omega
  have sv:xV v 0 1=v:=by
   unfold xV
   rw[show ((0:Int)+1).toNat=1 from rfl,show ((0:Int)).toNat=0 from rfl,List.drop_zero,List.take_of_length_le (by omega)]
  have sx:xV xs (0+(k:Int)) ((xs.length:Int) - (k:Int))=xs.drop k:=by
   unfold xV
   rw[t0,show (0+(k:Int)+((xs.length:Int) - (k:Int))).toNat=xs.length from by omega,List.take_length]
  have hdl:(xs.drop k).length=xs.length - k:=aR
  refine MU (by unfold maxLen;omega) fun c c1 c2=>?_
  have hcmp:Xa .gtr (i64.wrap ((xs.length:Int)+(v.length:Int))) (c:Int)=decide (((xs.length+1:Nat):Int)>(c:Int)):=by rw[w1];rfl
  rw[hcmp]
  by_cases hg:xs.length+1>c
  ·rw[if_pos (by simp;omega)]
   unfold YX
   rw[w1,w2,w3]
   generalize hs2:xs.take (0+(k:Int)).toNat++List.replicate (((xs.length+1 - k:Nat):Int)).toNat z=s2
   have l2:s2.length=xs.length+1:=by rw[<-hs2,t0,aw,aA,List.length_replicate];omega
   have m1:min ((v.length:Int) - 0) ((0+((s2.length:Int) - 0)) - (0+(k:Int)))=1:=by rw[hv,l2];omega
   simp only[m1,sv,t0]
   have lc:(vY s2 k v).length=xs.length+1:=by rw[nf (by omega),l2,hv];omega
   have m2:min ((0+((xs.length:Int) - 0)) - (0+(k:Int))) ((0+(((vY s2 k v).length:Int) - 0)) - (0+((k+1:Nat):Int)))=(xs.length:Int) - (k:Int):=by rw[lc];omega
   simp only[m2,sx,t1]
   have hbi:((xs.length+1:Nat):Int)*(b:Int)<=140737488355328:=by rw[<-Int.natCast_mul];omega
   rw[chk_of (by omega),chk_of (by
    refine ⟨by omega,by omega,by omega,by omega,?_⟩
    rw[show (0+(k:Int))+((xs.length+1 - k:Nat):Int)=((xs.length+1:Nat):Int) from by omega]
    exact hbi),chk_of (by rw[l2];omega),chk_of (by rw[l2,hv];omega),chk_of (by rw[lc];omega),chk_of (by omega),chk_of (by rw[lc];omega)]
   congr 2
   apply List.ext_getElem?
   intro q
   rw[vm (by rw[lc];omega),hdl,tk,Ny hk hv]
   by_cases q1:k+1<=q/\q<k+1+(xs.length - k)
   ·rw[if_pos q1,if_neg (by omega),if_neg (by omega),List.getElem?_drop];congr 1;omega
   ·rw[if_neg q1,vm (by omega),hv]
    by_cases q2:q<k
    ·rw[if_neg (by omega),if_pos q2,<-hs2,t0,List.getElem?_append_left (by rw[aA];omega),List.getElem?_take,if_pos q2]
    ·by_cases q3:q=k
     ·rw[if_pos (by omega),if_neg q2,if_pos q3,q3,Nat.sub_self]
     ·rw[if_neg (by omega),if_neg q2,if_neg q3,List.getElem?_eq_none (by omega),List.getElem?_eq_none (by omega)]
  ·rw[if_neg (by simp;omega)]
   unfold YY
   simp only
   rw[w1,w2]
   have m3:min ((0+((((xs.length+1:Nat):Int)) - 0)) - (0+(k:Int))) ((0+((((xs.length+1:Nat):Int)) - 0)) - (0+((k+1:Nat):Int)))=(xs.length:Int) - (k:Int):=by omega
   simp only[m3,sx,t0,t1]
   have lc:(vY xs (k+1) (xs.drop k)).length=xs.length+1:=by rw[nf (by omega),hdl];omega
   have m4:min ((v.length:Int) - 0) ((0+(((vY xs (k+1) (xs.drop k)).length:Int) - 0)) - (0+(k:Int)))=1:=by rw[lc,hv];omega
   simp only[m4,sv]
   rw[chk_of (by omega),chk_of (by omega),chk_of (by rw[hv];omega),chk_of (by omega),chk_of (by omega),chk_of (by omega),chk_of (by omega),chk_of (by rw[lc];omega),chk_of (by rw[lc,hv];omega)]
   congr 2
   apply List.ext_getElem?
   intro q
   rw[vm (by rw[lc];omega),hv,tk,Ny hk hv]
   by_cases q3:q=k
   ·rw[if_pos (by omega),if_neg (by omega),if_pos q3,q3,Nat.sub_self]
   ·rw[if_neg (by omega),vm (by omega),hdl]
    by_cases q2:q<k
    ·rw[if_neg (by omega),if_pos q2]
    ·rw[if_neg q2,if_neg q3]
     by_cases q4:q<k+1+(xs.length - k)
     ·rw[if_pos (by omega),List.getElem?_drop];congr 1;omega
     ·rw[if_neg (by omega),List.getElem?_eq_none (by omega),List.getElem?_eq_none (by omega)]
theorem Wu {P:Program} {k:FuncId} {E:TypeId} (h:Xe P k):FOk P k ⟨[],[],none,some (E,0)⟩:=
 ⟨fun q hq=>(by obtain rfl:=ae hq;exact ⟨⟨fun _=>h,fun e=>(by cases e),fun e=>(by cases e)⟩,fun e=>(by cases e),fun e=>(by cases e)⟩),fun e=>(by cases e),fun e=>(by cases e)⟩
theorem UP {P:Program} {k:FuncId} {E n b:Nat} {u:Ty} {z:(jU n).den} (hu:u.sh=true) (hs:u.size=n+1) (h:FOk P k ⟨[.eat (.sl E (jU n)),.rd (.int .i64),.ow (.sl E (jU n))],[.sl E (jU n)],X7 b z,none⟩):FOk P k ⟨[.eat (.sl E u),.rd (.int .i64),.ow (.sl E u)],[.sl E u],UN b,none⟩:=by
 refine ⟨fun q hq=>(by cases hq),fun _=>h.en rfl,fun _ w0 J γ vs d r hlay ha sY=>?_⟩
 obtain ⟨v,vs1,rfl,hd,v2,vs2,rfl,hd2,v3,vs3,rfl,hd3,hnil⟩:=ha
 obtain rfl:vs3= []:=hnil
 obtain ⟨xs0,i0,y0,un⟩:=d
 let xs:List u.den:=xs0
 let i:Int:=i0
 let ys:List u.den:=y0
 let zs:List u.den×List u.den:=r
 have sY:UN b xs i ys=some zs:=sY
 obtain ⟨u1,hc,hz⟩:=Option.bind_eq_some_iff.1 sY
 have hc:=bw hc
 have hz:=ae hz
 have hsz:u.rep.size=n+1:=(Ty.rep_size u).trans hs
 intro w C hst
 have hst:St J w0 w (Ch.own (af E u.rep) [v] xs::Ch.own (af E u.rep) [v3] ys::C):=hst
 obtain ⟨ps,hp,hst2⟩:=Dn (Ty.sh_ok hu) hsz hst
 obtain ⟨qs,hq,hst3⟩:=Dn (Ty.sh_ok hu) hsz (hst2.perm (List.Perm.swap _ _ _))
 have hst4:=hst3.perm (List.Perm.swap _ _ _)
 have hlen:=hp.length_eq
 have hlen2:=hq.length_eq
 have hi:UN b ps i qs=some (ps.take i.toNat++(qs++ps.drop i.toNat),qs):=by
  unfold UN
  rw[chk_of (by rw[hlen,hlen2];exact hc)]
 have hm:=UO (z:=z) hi
 have key:=h.con rfl w0 J undef [v,v2,v3] (ps,i,qs,()) (show dens ([Ty.sl E (jU n)] ++ [Ty.sl E (jU n)]) from (ps.take i.toNat++(qs++ps.drop i.toNat),qs)) hlay ⟨v,_,rfl,hd,v2,_,rfl,hd2,v3,_,rfl,hd3,rfl⟩ hm
 refine (key w C hst4).mono fun e w' ⟨r,a1,a2,a3⟩=>⟨r,a1,a2,?_⟩
 have a3:St J w0 w' (Ch.own (af E (jU n).rep) [r] (ps.take i.toNat++(qs++ps.drop i.toNat))::Ch.own (af E (jU n).rep) [v3] qs::C):=a3
 have b1:=zN (Ty.cpy hu) hsz (yF (zO _ hp) (yF hq (oe _ hp))) a3
 have b2:=zN (Ty.cpy hu) hsz hq (b1.perm (List.Perm.swap _ _ _))
 show St J w0 w' (Ch.own (af E u.rep) [r] zs.1::Ch.own (af E u.rep) [v3] zs.2::C)
 rw[<-hz]
 exact b2.perm (List.Perm.swap _ _ _)
end R
namespace R
open Go.RowKit Go.Shelf Go.Sort
open D
def QK (xs:List ByteArray) (sep:ByteArray):Option ByteArray:=(chk (xs.length<=140737488355328/\(Lib.join (xs.map (·.data.toList)) sep.data.toList).length<=140737488355328)).bind fun _=>some ⟨(Lib.join (xs.map (·.data.toList)) sep.data.toList).toArray⟩
def QL (n:Int):Option ByteArray:=(chk (-9223372036854775808<=n/\n<=9223372036854775807)).bind fun _=>some ⟨(Lib.itoa n).toArray⟩
section
variable {P:Program} {ρ:Ren}
theorem St.grownS {I:Hp} {w0 w:World} {cs:List Ch} (h:St I w0 w cs) (os:Array Obj):St I w0 (grow w os) cs:=by
 refine St.step (w:=w) (c:=[]) (c':=[]) h rfl rfl rfl (by simp[grow]) ?_
 rintro F rfl - -
 exact ⟨fun b hb _=>heap_grow_old w os hb,[],rfl,List.nodup_nil,by simp⟩
theorem St.belowS {I:Hp} {w0 w w':World} {cs:List Ch} (h:St I w0 w cs) (hb:Below w.heap.size w w'):St I w0 w' cs:=by
 refine St.step (w:=w) (c:=[]) (c':=[]) h hb.os hb.tape hb.output hb.size ?_
 rintro F rfl - -
 exact ⟨fun b hb' _=>hb.block b hb',[],rfl,List.nodup_nil,by simp⟩
theorem QM (L:LaysM.n171 P ρ) (en:Enters P (ρ.f 171)):FOk P (ρ.f 171) ⟨[.rd (.int .i64)],[.str],fun n=>QL n,none⟩:=by
 refine ⟨fun q hq=>(by cases hq),fun _=>en,fun _ w0 J γ vs d r hlay ha sY=>?_⟩
 obtain ⟨v,vs1,rfl,⟨c1,l1,r1⟩,hnil⟩:=ha
 obtain rfl:vs1= []:=hnil
 obtain ⟨n0,un⟩:=d
 let n:Int:=n0
 obtain rfl:c1= [v]:=l1
 obtain rfl:v= .int .i64 n:=(List.cons.inj r1).1
 obtain ⟨u1,hc,hz⟩:=Option.bind_eq_some_iff.1 (show QL n=some r from sY)
 have hc:=bw hc
 obtain rfl:=ae hz
 intro w C hst
 have hst:St J w0 w C:=hst
 refine (Any.strconv_Itoa L n hc.1 hc.2 w (hlay w hst.2.1).tab).mono ?_
 rintro e w' ⟨rfl,k,os,rfl⟩
 have hw:St J w0 (w.drewN k) C:=hst.drawn rfl rfl rfl rfl
 exact ⟨_,rfl,rfl,D.St.free (R:=CB) (c:=[.string _]) (St.grownS hw os) ⟨rfl,rfl⟩⟩
theorem QN (L:Lays.n156 P ρ) (X:Builder.Extra P ρ) (E:TypeId) (en:Enters P (ρ.f 156)):FOk P (ρ.f 156) ⟨[.rd (.sl E .str),.rd .str],[.str],fun xs s=>QK xs s,none⟩:=by
 refine ⟨fun q hq=>(by cases hq),fun _=>en,fun _ w0 J γ vs d r hlay ha sY=>?_⟩
 obtain ⟨v,vs1,rfl,⟨c1,l1,r1⟩,v2,vs2,rfl,⟨c2,l2,r2⟩,hnil⟩:=ha
 obtain rfl:vs2= []:=hnil
 obtain ⟨xs0,sep,un⟩:=d
 let xs:List ByteArray:=xs0
 obtain rfl:c1= [v]:=l1
 obtain rfl:c2= [v2]:=l2
 obtain rfl:v2= .string sep:=(List.cons.inj r2).1
 obtain ⟨u1,hc,hz⟩:=Option.bind_eq_some_iff.1 (show QK xs sep=some r from sY)
 have hc:=bw hc
 obtain rfl:=ae hz
 obtain ⟨ao,cap,hv,⟨hl,hcap⟩,hx⟩:((af E CB).rd J [v] xs):=r1
 obtain rfl:=(List.cons.inj hv).1
 intro w C hst
 have hst:St J w0 w C:=hst
 rcases hx with hx | ⟨b,off,ccs,t,fr,rfl,h2,h4⟩
 ·have hx:xs= []:=hx
  rw[hx] at hc⊢
  refine (Any.strings_Join_none L X ao cap sep w).mono ?_
  rintro e w' ⟨rfl,rfl⟩
  refine ⟨_,rfl,rfl,?_⟩
  exact D.St.free (R:=CB) (c:=[.string _]) hst ⟨rfl,rfl⟩
 ·have hg:=hst.2.1 _ _ h2
  have hblk:b<w.heap.size:=(Array.getElem?_eq_some_iff.1 hg).1
  refine (Any.strings_Join L X b off cap xs sep w (fun j x hj=>?_) hblk hc.1 hcap hc.2).mono ?_
  ·obtain ⟨c,e1,e2,e3⟩:=h4 j x hj
   obtain rfl:c= [.string x]:=e3
   have:=e2 0 Nat.one_pos
   have e:off+j*CB.size+0=off+j:=by show off+j*1+0=_;omega
   rw[e] at this
   unfold World.cell?
   have hg:w.heap[b]? =some (.cells ccs t fr):=hg
   simp only[hg]
   rw[<-Array.getElem?_toList,this]
   rfl
  ·rintro e w' ⟨rfl,hb⟩
   exact ⟨_,rfl,rfl,D.St.free (R:=CB) (c:=[.string _]) (St.belowS hst hb) ⟨rfl,rfl⟩⟩
end
end R
namespace D
open Go.RowKit Go.Shelf
theorem UQ {I:Hp} {w0 w:World} {cs:List Ch} {α:Type} {E:TypeId} {enc:α->Value} {h1: ∀a,(enc a).oneCell'=true} {b:Nat} {xs:List α} (hl:xs.length<=lim) (h:St I w0 w (Ch.blk b (xs.map enc) E::cs)):St I w0 w (Ch.own (af E (kI α enc h1)) [.slice (some ⟨b,0,none⟩) xs.length xs.length] xs::cs):=by
 obtain ⟨hb,hi,F,⟨G,K,rfl,⟨rfl,hg⟩,e⟩,h4,h5⟩:=h
 refine ⟨hb,hi,[b] ++K,⟨[b],K,rfl,⟨hl,.inr ⟨b,0,xs.length,_,[],rfl,hg,aE _,hl,?_,rfl,?_⟩⟩,e⟩,h4,h5⟩
 ·show 0+xs.length*1<=_
  simp
 ·refine jz.2 ⟨rfl,[],?_⟩
  simp
end D
namespace R
open Go.RowKit Go.Shelf Go.Sort
open D
def I9 (s sep:ByteArray):Option (List ByteArray):=(chk (s.size<4294967281/\1<=sep.size)).bind fun _=>some (Lib.splitB sep 0 (Lib.countB s sep) s)
def Wv (s sep:ByteArray):Option (ByteArray×ByteArray×Bool):=(chk (s.size<4294967281)).bind fun _=>some (⟨(Lib.cut s.data.toList sep.data.toList).1.toArray⟩,⟨(Lib.cut s.data.toList sep.data.toList).2.1.toArray⟩,(Lib.cut s.data.toList sep.data.toList).2.2)
def wC (s:ByteArray) (c:Int):Option Int:=some (Lib.indexByte s.data.toList c.toNat.toUInt8)
def rr (s:ByteArray):Option (Int×Bool):=
 if 10<s.size then some (0,false) else
 match Lib.atoi s.data.toList with
 | none=>some (0,false)
 | some n=>if (⟨(Lib.itoa n).toArray⟩:ByteArray)=s/\ -999999999<=n/\n<=999999999 then some (n,true) else some (0,false)
section
variable {P:Program} {ρ:Ren}
theorem Nz (L:Lays.n146 P ρ) (hi9:(P.info? (ρ.t 9)).map (fun i=>(i.zero,i.size,i.bytes))=some (some (.string ByteArray.empty),1,16)) (m1:P.globalNamed "internal/bytealg.MaxLen" =some (ρ.g 1)) (en:Enters P (ρ.f 146)):FOk P (ρ.f 146) ⟨[.rd .str,.rd .str],[.sl (ρ.t 9) .str],fun s sep=>I9 s sep,none⟩:=by
 refine ⟨fun q hq=>(by cases hq),fun _=>en,fun _ w0 J γ vs d r hlay ha sY=>?_⟩
 obtain ⟨v,vs1,rfl,⟨c1,l1,r1⟩,v2,vs2,rfl,⟨c2,l2,r2⟩,hnil⟩:=ha
 obtain rfl:vs2= []:=hnil
 obtain ⟨s0,sep0,un⟩:=d
 let s:ByteArray:=s0
 let sep:ByteArray:=sep0
 obtain rfl:c1= [v]:=l1
 obtain rfl:c2= [v2]:=l2
 obtain rfl:v= .string s:=(List.cons.inj r1).1
 obtain rfl:v2= .string sep:=(List.cons.inj r2).1
 obtain ⟨u1,hc,hz⟩:=Option.bind_eq_some_iff.1 (show I9 s sep=some r from sY)
 have hc:=bw hc
 obtain rfl:=ae hz
 intro w C hst
 have hst:St J w0 w C:=hst
 obtain ⟨g,m,hg,hm⟩:=(hlay w hst.2.1).len
 obtain rfl:=ae (m1.symm.trans hg)
 refine (Any.strings_Split L hi9 s sep m w hc.1 hm hc.2).mono ?_
 rintro e w' ⟨rfl,rfl⟩
 refine ⟨_,rfl,rfl,?_⟩
 have hlen:(Lib.splitB sep 0 (Lib.countB s sep) s).length=Lib.countB s sep+1:=Lib.splitB_all sep hc.2 0 _ s rfl
 have hle:=Lib.countB_le sep hc.2 s.size s (aE _)
 have h3:=D.UQ (E:=ρ.t 9) (enc:=Value.string) (h1:=fun _=>rfl) (b:=w.heap.size) (xs:=Lib.splitB sep 0 (Lib.countB s sep) s) (by rw[hlen];have:lim=9223372036854775807:=rfl;omega) (hst.alloc _ _)
 rw[hlen] at h3
 exact h3
theorem UR (L:Lays.n145 P ρ) (m1:P.globalNamed "internal/bytealg.MaxLen" =some (ρ.g 1)) (en:Enters P (ρ.f 145)):FOk P (ρ.f 145) ⟨[.rd .str,.rd .str],[.str,.str,.bool],fun s sep=>Wv s sep,none⟩:=by
 refine ⟨fun q hq=>(by cases hq),fun _=>en,fun _ w0 J γ vs d r hlay ha sY=>?_⟩
 obtain ⟨v,vs1,rfl,⟨c1,l1,r1⟩,v2,vs2,rfl,⟨c2,l2,r2⟩,hnil⟩:=ha
 obtain rfl:vs2= []:=hnil
 obtain ⟨s0,sep0,un⟩:=d
 let s:ByteArray:=s0
 let sep:ByteArray:=sep0
 obtain rfl:c1= [v]:=l1
 obtain rfl:c2= [v2]:=l2
 obtain rfl:v= .string s:=(List.cons.inj r1).1
 obtain rfl:v2= .string sep:=(List.cons.inj r2).1
 obtain ⟨u1,hc,hz⟩:=Option.bind_eq_some_iff.1 (show Wv s sep=some r from sY)
 have hc:=bw hc
 obtain rfl:=ae hz
 intro w C hst
 have hst:St J w0 w C:=hst
 obtain ⟨g,m,hg,hm⟩:=(hlay w hst.2.1).len
 obtain rfl:=ae (m1.symm.trans hg)
 refine (Any.strings_Cut L s sep m w hc hm).mono ?_
 rintro e w' ⟨rfl,n,rfl⟩
 refine ⟨_,rfl,⟨_,rfl,rfl,fun i t ht=>?_⟩,?_⟩
 ·rcases i with _ | _ | _ | i
  all_goals first | (obtain rfl:=ae ht;rfl) | cases ht
 ·have hw:St J w0 (w.drewN n) C:=hst.drawn rfl rfl rfl rfl
  exact D.St.free (R:=CB) (c:=[.string _]) (D.St.free (R:=CB) (c:=[.string _]) (D.St.free (R:=nY) (c:=[.bool _]) hw ⟨rfl,rfl⟩) ⟨rfl,rfl⟩) ⟨rfl,rfl⟩
theorem Do (L:Lays.n137 P ρ) (en:Enters P (ρ.f 137)):FOk P (ρ.f 137) ⟨[.rd .str,.rd (.int .u8)],[.int .i64],fun s c=>wC s c,none⟩:=by
 refine ⟨fun q hq=>(by cases hq),fun _=>en,fun _ w0 J γ vs d r hlay ha sY=>?_⟩
 obtain ⟨v,vs1,rfl,⟨c1,l1,r1⟩,v2,vs2,rfl,⟨c2,l2,r2⟩,hnil⟩:=ha
 obtain rfl:vs2= []:=hnil
 obtain ⟨s0,c0,un⟩:=d
 let s:ByteArray:=s0
 let c:Int:=c0
 obtain rfl:c1= [v]:=l1
 obtain rfl:c2= [v2]:=l2
 obtain rfl:v= .string s:=(List.cons.inj r1).1
 obtain rfl:v2= .int .u8 c:=(List.cons.inj r2).1
 obtain rfl:=ae (show wC s c=some r from sY)
 intro w C hst
 have hst:St J w0 w C:=hst
 refine (Any.strings_IndexByte L s c w).mono ?_
 rintro e w' ⟨rfl,rfl⟩
 exact ⟨_,rfl,rfl,D.St.free (R:=be) (c:=[.int .i64 _]) hst ⟨rfl,rfl⟩⟩
theorem US {α:Type} {E:TypeId} {R:Rep α} {I:Hp} {w0 w:World} {v:List Value} {xs:List α} {C:List Ch} (h:St I w0 w (Ch.own (af E R) v xs::C)):St I w0 w (Ch.own (af E (K7 R)) v xs::C):=by
 obtain ⟨hb,hi,F,⟨G,K,rfl,⟨hl,e2⟩,e3⟩,h4,h5⟩:=h
 rcases e2 with ⟨rfl,rfl,rfl⟩ | ⟨g,ofs,cap,cur,K1,hv,k1,k2,k3,k4,k6,k5⟩
 ·exact ⟨hb,hi,_,⟨_,K,rfl,⟨hl,.inl ⟨rfl,rfl,rfl⟩⟩,e3⟩,h4,h5⟩
 ·exact ⟨hb,hi,_,⟨_,K,rfl,⟨hl,.inr ⟨g,ofs,cap,cur,K1,hv,k1,k2,k3,k4,k6,OwnEls.turn (R:=R) (S:=K7 R) rfl (fun c x G hx=>Ls hx) k5⟩⟩,e3⟩,h4,h5⟩
theorem Ja {P:Program} {k:FuncId} {ps:List PM} {A B t:Ty} {E:TypeId} {m:curP ps (Option (dens ([A,.sl E t,B] ++outs ps)))} (h:FOk P k ⟨ps,[A,.sl E t,B],m,none⟩):FOk P k ⟨ps,[A,.sl E (.bag t),B],m,none⟩:=by
 refine ⟨fun q hq=>(by cases hq),fun hq=>h.en hq,fun _ w0 J γ vs d r hlay ha sY=>?_⟩
 refine (h.con rfl w0 J γ vs d r hlay ha sY).imp (fun v hv=>?_) (fun v _ w C hs=>?_)
 ·obtain ⟨us,rfl,h1,h2⟩:=hv
  refine ⟨us,rfl,h1,fun i u hu=>?_⟩
  rcases i with _ | _ | _ | i
  ·obtain rfl:=ae hu;exact h2 0 _ rfl
  ·obtain rfl:=ae hu;exact h2 1 (.sl E t) rfl
  ·obtain rfl:=ae hu;exact h2 2 _ rfl
  ·cases hu
 ·exact ((US (hs.perm (List.Perm.swap ..))).perm (List.Perm.swap ..))
theorem NA {k:FuncId} {m:ByteArray->Option (Int×Bool)} (en:Enters P k) (h: ∀s r w,m s=some r->LayW P w->Calls P k #[.string s] w fun e w'=>e= .returned (.tuple #[.int .i64 r.1,.bool r.2])/\Below w.heap.size w w'):FOk P k ⟨[.rd .str],[.int .i64,.bool],fun s=>m s,none⟩:=by
 refine ⟨fun q hq=>(by cases hq),fun _=>en,fun _ w0 J γ vs d r hlay ha sY=>?_⟩
 obtain ⟨v,vs1,rfl,⟨c1,l1,r1⟩,hnil⟩:=ha
 obtain rfl:vs1= []:=hnil
 obtain ⟨s0,un⟩:=d
 let s:ByteArray:=s0
 obtain rfl:c1= [v]:=l1
 obtain rfl:v= .string s:=(List.cons.inj r1).1
 intro w C hst
 have hst:St J w0 w C:=hst
 refine (h s r w sY (hlay w hst.2.1)).mono ?_
 rintro e w' ⟨rfl,hb⟩
 refine ⟨_,rfl,⟨_,rfl,rfl,fun i t ht=>?_⟩,?_⟩
 ·rcases i with _ | _ | i
  all_goals first | (obtain rfl:=ae ht;rfl) | cases ht
 ·exact D.St.free (R:=be) (c:=[.int .i64 _]) (D.St.free (R:=nY) (c:=[.bool _]) (St.belowS hst hb) ⟨rfl,rfl⟩) ⟨rfl,rfl⟩
end
end R
namespace R
open Go.Shelf
def xo:Go.Shelf.Ren:=⟨fun | 156=>233 | 165=>277 | 166=>278 | 169=>279 | 240=>320 | 241=>321 | 276=>361 | 277=>362 | n=>n,fun | 31=>199 | 9=>9 | 3=>3 | 4=>4 | 0=>0 | 20=>20 | 72=>286 | 76=>265 | 70=>284 | 37=>22 | 75=>264 | 127=>328 | 164=>359 | 5=>5 | 80=>288 | n=>n,fun | n=>n⟩
theorem QO:Go.Proofs.Lays.n156 Tryz.prog xo:= {
 mixed:=by kernel_rfl
 f156:=Tryz.func233.trans (congrArg some (by kernel_rfl))
 f165:=Tryz.func277.trans (congrArg some (by kernel_rfl))
 f166:=Tryz.func278.trans (congrArg some (by kernel_rfl))
 f169:=Tryz.func279.trans (congrArg some (by kernel_rfl))
 f240:=Tryz.func320.trans (congrArg some (by kernel_rfl))
 f241:=Tryz.func321.trans (congrArg some (by kernel_rfl))
 f276:=Tryz.func361.trans (congrArg some (by kernel_rfl))
 f277:=Tryz.func362.trans (congrArg some (by kernel_rfl))
 t0:=Tryz.underlying0
 a0:=Tryz.isAgg0
 z0:=Tryz.sizeOf0
 v0:=Tryz.zeroValue0
 t3:=Tryz.underlying3
 a3:=Tryz.isAgg3
 z3:=Tryz.sizeOf3
 v3:=Tryz.zeroValue3
 t4:=Tryz.underlying4
 a4:=Tryz.isAgg4
 z4:=Tryz.sizeOf4
 v4:=Tryz.zeroValue4
 t9:=Tryz.underlying9
 a9:=Tryz.isAgg9
 z9:=Tryz.sizeOf9
 v9:=Tryz.zeroValue9
 t20:=Tryz.underlying20
 a20:=Tryz.isAgg20
 z20:=Tryz.sizeOf20
 v20:=Tryz.zeroValue20
 t31:=Tryz.underlying199
 a31:=Tryz.isAgg199
 z31:=Tryz.sizeOf199
 v31:=Tryz.zeroValue199
 t37:=Tryz.underlying22
 a37:=Tryz.isAgg22
 z37:=Tryz.sizeOf22
 v37:=Tryz.zeroValue22
 t70:=Tryz.underlying284
 a70:=Tryz.isAgg284
 z70:=Tryz.sizeOf284
 v70:=Tryz.zeroValue284
 t72:=Tryz.underlying286
 a72:=Tryz.isAgg286
 z72:=Tryz.sizeOf286
 v72:=Tryz.zeroValue286
 t75:=Tryz.underlying264
 a75:=Tryz.isAgg264
 z75:=Tryz.sizeOf264
 v75:=Tryz.zeroValue264
 t76:=Tryz.underlying265
 a76:=Tryz.isAgg265
 z76:=Tryz.sizeOf265
 v76:=Tryz.zeroValue265
 t127:=Tryz.underlying328
 a127:=Tryz.isAgg328
 z127:=Tryz.sizeOf328
 v127:=Tryz.zeroValue328
 t164:=Tryz.underlying359
 a164:=Tryz.isAgg359
 z164:=Tryz.sizeOf359
 v164:=Tryz.zeroValue359 }
def Fo:Go.Shelf.Ren:=⟨fun | 171=>234 | 243=>280 | 246=>322 | 283=>363 | 284=>364 | 285=>365 | 286=>366 | 129=>388 | 317=>387 | 318=>389 | 319=>390 | 320=>391 | 337=>405 | 338=>406 | n=>n,fun | 3=>3 | 9=>9 | 2=>2 | 4=>4 | 171=>362 | 0=>0 | 53=>363 | 37=>22 | 5=>5 | 173=>366 | 212=>390 | 51=>391 | 20=>20 | 213=>392 | 46=>232 | 232=>423 | 233=>424 | n=>n,fun | 17=>3 | 18=>6 | 19=>7 | n=>n⟩
theorem Jb:Go.Proofs.LaysM.n171 Tryz.prog Fo:= {
 mixed:=by kernel_rfl
 f129:=Tryz.func388.trans (congrArg some (by kernel_rfl))
 f171:=Tryz.func234.trans (congrArg some (by kernel_rfl))
 f243:=Tryz.func280.trans (congrArg some (by kernel_rfl))
 f246:=Tryz.func322.trans (congrArg some (by kernel_rfl))
 f283:=Tryz.func363.trans (congrArg some (by kernel_rfl))
 f284:=Tryz.func364.trans (congrArg some (by kernel_rfl))
 f285:=Tryz.func365.trans (congrArg some (by kernel_rfl))
 f286:=Tryz.func366.trans (congrArg some (by kernel_rfl))
 f317:=Tryz.func387.trans (congrArg some (by kernel_rfl))
 f318:=Tryz.func389.trans (congrArg some (by kernel_rfl))
 f319:=Tryz.func390.trans (congrArg some (by kernel_rfl))
 f320:=Tryz.func391.trans (congrArg some (by kernel_rfl))
 f337:=Tryz.func405.trans (congrArg some (by kernel_rfl))
 f338:=Tryz.func406.trans (congrArg some (by kernel_rfl))
 t0:=Tryz.underlying0
 a0:=Tryz.isAgg0
 z0:=Tryz.sizeOf0
 v0:=Tryz.zeroValue0
 t2:=Tryz.underlying2
 a2:=Tryz.isAgg2
 z2:=Tryz.sizeOf2
 v2:=Tryz.zeroValue2
 t3:=Tryz.underlying3
 a3:=Tryz.isAgg3
 z3:=Tryz.sizeOf3
 v3:=Tryz.zeroValue3
 t4:=Tryz.underlying4
 a4:=Tryz.isAgg4
 z4:=Tryz.sizeOf4
 v4:=Tryz.zeroValue4
 t5:=Tryz.underlying5
 a5:=Tryz.isAgg5
 z5:=Tryz.sizeOf5
 v5:=Tryz.zeroValue5
 t9:=Tryz.underlying9
 a9:=Tryz.isAgg9
 z9:=Tryz.sizeOf9
 v9:=Tryz.zeroValue9
 t20:=Tryz.underlying20
 a20:=Tryz.isAgg20
 z20:=Tryz.sizeOf20
 v20:=Tryz.zeroValue20
 t37:=Tryz.underlying22
 a37:=Tryz.isAgg22
 z37:=Tryz.sizeOf22
 v37:=Tryz.zeroValue22
 t46:=Tryz.underlying232
 a46:=Tryz.isAgg232
 z46:=Tryz.sizeOf232
 v46:=Tryz.zeroValue232
 t51:=Tryz.underlying391
 a51:=Tryz.isAgg391
 z51:=Tryz.sizeOf391
 v51:=Tryz.zeroValue391
 t53:=Tryz.underlying363
 a53:=Tryz.isAgg363
 z53:=Tryz.sizeOf363
 v53:=Tryz.zeroValue363
 t171:=Tryz.underlying362
 a171:=Tryz.isAgg362
 z171:=Tryz.sizeOf362
 v171:=Tryz.zeroValue362
 t173:=Tryz.underlying366
 a173:=Tryz.isAgg366
 z173:=Tryz.sizeOf366
 v173:=Tryz.zeroValue366
 t212:=Tryz.underlying390
 a212:=Tryz.isAgg390
 z212:=Tryz.sizeOf390
 v212:=Tryz.zeroValue390
 t213:=Tryz.underlying392
 a213:=Tryz.isAgg392
 z213:=Tryz.sizeOf392
 t232:=Tryz.underlying423
 a232:=Tryz.isAgg423
 z232:=Tryz.sizeOf423
 v232:=Tryz.zeroValue423
 t233:=Tryz.underlying424
 a233:=Tryz.isAgg424
 z233:=Tryz.sizeOf424
 v233:=Tryz.zeroValue424
 g17:=by kernel_rfl
 g18:=by kernel_rfl
 g19:=by kernel_rfl
 i0:=by kernel_rfl
 i2:=by kernel_rfl
 i3:=by kernel_rfl
 i4:=by kernel_rfl
 i5:=by kernel_rfl
 i9:=by kernel_rfl
 i20:=by kernel_rfl
 i37:=by kernel_rfl
 i46:=by kernel_rfl
 i51:=by kernel_rfl
 i53:=by kernel_rfl
 i171:=by kernel_rfl
 i173:=by kernel_rfl
 i212:=by kernel_rfl
 i232:=by kernel_rfl
 i233:=by kernel_rfl
 m17:=by kernel_rfl
 m18:=by kernel_rfl
 m19:=by kernel_rfl }
def Dq:Go.Shelf.Ren:=⟨fun | 146=>191 | 221=>245 | 268=>299 | 138=>300 | 143=>301 | 195=>344 | 197=>345 | 218=>346 | 219=>347 | 260=>375 | 217=>190 | 225=>376 | 224=>377 | 267=>378 | 266=>244 | 314=>397 | n=>n,fun | 9=>9 | 31=>199 | 3=>3 | 4=>4 | 0=>0 | 105=>344 | 21=>21 | 5=>5 | 46=>232 | 119=>399 | 139=>402 | 138=>401 | 146=>403 | 51=>391 | n=>n,fun | 1=>0 | 3=>4 | 4=>5 | n=>n⟩
theorem NB:Go.Proofs.Lays.n146 Tryz.prog Dq:= {
 mixed:=by kernel_rfl
 f138:=Tryz.func300.trans (congrArg some (by kernel_rfl))
 f143:=Tryz.func301.trans (congrArg some (by kernel_rfl))
 f146:=Tryz.func191.trans (congrArg some (by kernel_rfl))
 f195:=Tryz.func344.trans (congrArg some (by kernel_rfl))
 f197:=Tryz.func345.trans (congrArg some (by kernel_rfl))
 f217:=Tryz.func190.trans (congrArg some (by kernel_rfl))
 f218:=Tryz.func346.trans (congrArg some (by kernel_rfl))
 f219:=Tryz.func347.trans (congrArg some (by kernel_rfl))
 f221:=Tryz.func245.trans (congrArg some (by kernel_rfl))
 f224:=Tryz.func377.trans (congrArg some (by kernel_rfl))
 f225:=Tryz.func376.trans (congrArg some (by kernel_rfl))
 f260:=Tryz.func375.trans (congrArg some (by kernel_rfl))
 f266:=Tryz.func244.trans (congrArg some (by kernel_rfl))
 f267:=Tryz.func378.trans (congrArg some (by kernel_rfl))
 f268:=Tryz.func299.trans (congrArg some (by kernel_rfl))
 f314:=Tryz.func397.trans (congrArg some (by kernel_rfl))
 t0:=Tryz.underlying0
 a0:=Tryz.isAgg0
 z0:=Tryz.sizeOf0
 v0:=Tryz.zeroValue0
 t3:=Tryz.underlying3
 a3:=Tryz.isAgg3
 z3:=Tryz.sizeOf3
 v3:=Tryz.zeroValue3
 t4:=Tryz.underlying4
 a4:=Tryz.isAgg4
 z4:=Tryz.sizeOf4
 v4:=Tryz.zeroValue4
 t5:=Tryz.underlying5
 a5:=Tryz.isAgg5
 z5:=Tryz.sizeOf5
 v5:=Tryz.zeroValue5
 t9:=Tryz.underlying9
 a9:=Tryz.isAgg9
 z9:=Tryz.sizeOf9
 v9:=Tryz.zeroValue9
 t21:=Tryz.underlying21
 a21:=Tryz.isAgg21
 z21:=Tryz.sizeOf21
 v21:=Tryz.zeroValue21
 t31:=Tryz.underlying199
 a31:=Tryz.isAgg199
 z31:=Tryz.sizeOf199
 v31:=Tryz.zeroValue199
 t46:=Tryz.underlying232
 a46:=Tryz.isAgg232
 z46:=Tryz.sizeOf232
 v46:=Tryz.zeroValue232
 t51:=Tryz.underlying391
 a51:=Tryz.isAgg391
 z51:=Tryz.sizeOf391
 v51:=Tryz.zeroValue391
 t105:=Tryz.underlying344
 a105:=Tryz.isAgg344
 z105:=Tryz.sizeOf344
 v105:=Tryz.zeroValue344
 t119:=Tryz.underlying399
 a119:=Tryz.isAgg399
 z119:=Tryz.sizeOf399
 t138:=Tryz.underlying401
 a138:=Tryz.isAgg401
 z138:=Tryz.sizeOf401
 v138:=Tryz.zeroValue401
 t139:=Tryz.underlying402
 a139:=Tryz.isAgg402
 z139:=Tryz.sizeOf402
 v139:=Tryz.zeroValue402
 t146:=Tryz.underlying403
 a146:=Tryz.isAgg403
 z146:=Tryz.sizeOf403
 v146:=Tryz.zeroValue403
 g1:=by kernel_rfl
 g3:=by kernel_rfl
 g4:=by kernel_rfl }
def He:Go.Shelf.Ren:=⟨fun | 145=>304 | 220=>353 | 219=>347 | 217=>190 | 225=>376 | 224=>377 | 267=>378 | 266=>244 | 314=>397 | n=>n,fun | 9=>9 | 4=>4 | 59=>312 | 3=>3 | 5=>5 | 46=>232 | 146=>403 | 51=>391 | n=>n,fun | 1=>0 | n=>n⟩
theorem UT:Go.Proofs.Lays.n145 Tryz.prog He:= {
 mixed:=by kernel_rfl
 f145:=Tryz.func304.trans (congrArg some (by kernel_rfl))
 f217:=Tryz.func190.trans (congrArg some (by kernel_rfl))
 f219:=Tryz.func347.trans (congrArg some (by kernel_rfl))
 f220:=Tryz.func353.trans (congrArg some (by kernel_rfl))
 f224:=Tryz.func377.trans (congrArg some (by kernel_rfl))
 f225:=Tryz.func376.trans (congrArg some (by kernel_rfl))
 f266:=Tryz.func244.trans (congrArg some (by kernel_rfl))
 f267:=Tryz.func378.trans (congrArg some (by kernel_rfl))
 f314:=Tryz.func397.trans (congrArg some (by kernel_rfl))
 t3:=Tryz.underlying3
 a3:=Tryz.isAgg3
 z3:=Tryz.sizeOf3
 v3:=Tryz.zeroValue3
 t4:=Tryz.underlying4
 a4:=Tryz.isAgg4
 z4:=Tryz.sizeOf4
 v4:=Tryz.zeroValue4
 t5:=Tryz.underlying5
 a5:=Tryz.isAgg5
 z5:=Tryz.sizeOf5
 v5:=Tryz.zeroValue5
 t9:=Tryz.underlying9
 a9:=Tryz.isAgg9
 z9:=Tryz.sizeOf9
 v9:=Tryz.zeroValue9
 t46:=Tryz.underlying232
 a46:=Tryz.isAgg232
 z46:=Tryz.sizeOf232
 v46:=Tryz.zeroValue232
 t51:=Tryz.underlying391
 a51:=Tryz.isAgg391
 z51:=Tryz.sizeOf391
 v51:=Tryz.zeroValue391
 t59:=Tryz.underlying312
 a59:=Tryz.isAgg312
 z59:=Tryz.sizeOf312
 v59:=Tryz.zeroValue312
 t146:=Tryz.underlying403
 a146:=Tryz.isAgg403
 z146:=Tryz.sizeOf403
 v146:=Tryz.zeroValue403
 g1:=by kernel_rfl }
def wD:Go.Shelf.Ren:=⟨fun | 137=>123 | 217=>190 | 266=>244 | n=>n,fun | 9=>9 | 5=>5 | 3=>3 | n=>n,fun | n=>n⟩
theorem Dr:Go.Proofs.Lays.n137 Tryz.prog wD:= {
 mixed:=by kernel_rfl
 f137:=Tryz.func123.trans (congrArg some (by kernel_rfl))
 f217:=Tryz.func190.trans (congrArg some (by kernel_rfl))
 f266:=Tryz.func244.trans (congrArg some (by kernel_rfl))
 t3:=Tryz.underlying3
 a3:=Tryz.isAgg3
 z3:=Tryz.sizeOf3
 v3:=Tryz.zeroValue3
 t5:=Tryz.underlying5
 a5:=Tryz.isAgg5
 z5:=Tryz.sizeOf5
 v5:=Tryz.zeroValue5
 t9:=Tryz.underlying9
 a9:=Tryz.isAgg9
 z9:=Tryz.sizeOf9
 v9:=Tryz.zeroValue9 }
def Fp:Go.Shelf.Ren:=⟨fun | 172=>246 | 244=>302 | 245=>303 | 247=>348 | 279=>349 | 280=>350 | 281=>351 | 282=>352 | 287=>379 | 316=>380 | 171=>234 | 205=>381 | 321=>398 | 322=>399 | 243=>280 | 246=>322 | 283=>363 | 284=>364 | 285=>365 | 286=>366 | 129=>388 | 317=>387 | 318=>389 | 319=>390 | 320=>391 | 337=>405 | 338=>406 | n=>n,fun | 9=>9 | 3=>3 | 75=>264 | 76=>265 | 4=>4 | 5=>5 | 167=>346 | 37=>22 | 0=>0 | 85=>347 | 2=>2 | 168=>349 | 53=>363 | 175=>376 | 46=>232 | 210=>380 | 127=>328 | 145=>409 | 143=>407 | 21=>21 | 171=>362 | 173=>366 | 212=>390 | 51=>391 | 20=>20 | 213=>392 | 232=>423 | 233=>424 | 80=>288 | n=>n,fun | 15=>1 | 16=>2 | 17=>3 | 18=>6 | 19=>7 | n=>n⟩
theorem Jc:Go.Proofs.LaysC.n172 Tryz.prog Fp:= {
 mixed:=by kernel_rfl
 f129:=Tryz.func388.trans (congrArg some (by kernel_rfl))
 f171:=Tryz.func234.trans (congrArg some (by kernel_rfl))
 f172:=Tryz.func246.trans (congrArg some (by kernel_rfl))
 f205:=Tryz.func381.trans (congrArg some (by kernel_rfl))
 f243:=Tryz.func280.trans (congrArg some (by kernel_rfl))
 f244:=Tryz.func302.trans (congrArg some (by kernel_rfl))
 f245:=Tryz.func303.trans (congrArg some (by kernel_rfl))
 f246:=Tryz.func322.trans (congrArg some (by kernel_rfl))
 f247:=Tryz.func348.trans (congrArg some (by kernel_rfl))
 f279:=Tryz.func349.trans (congrArg some (by kernel_rfl))
 f280:=Tryz.func350.trans (congrArg some (by kernel_rfl))
 f281:=Tryz.func351.trans (congrArg some (by kernel_rfl))
 f282:=Tryz.func352.trans (congrArg some (by kernel_rfl))
 f283:=Tryz.func363.trans (congrArg some (by kernel_rfl))
 f284:=Tryz.func364.trans (congrArg some (by kernel_rfl))
 f285:=Tryz.func365.trans (congrArg some (by kernel_rfl))
 f286:=Tryz.func366.trans (congrArg some (by kernel_rfl))
 f287:=Tryz.func379.trans (congrArg some (by kernel_rfl))
 f316:=Tryz.func380.trans (congrArg some (by kernel_rfl))
 f317:=Tryz.func387.trans (congrArg some (by kernel_rfl))
 f318:=Tryz.func389.trans (congrArg some (by kernel_rfl))
 f319:=Tryz.func390.trans (congrArg some (by kernel_rfl))
 f320:=Tryz.func391.trans (congrArg some (by kernel_rfl))
 f321:=Tryz.func398.trans (congrArg some (by kernel_rfl))
 f322:=Tryz.func399.trans (congrArg some (by kernel_rfl))
 f337:=Tryz.func405.trans (congrArg some (by kernel_rfl))
 f338:=Tryz.func406.trans (congrArg some (by kernel_rfl))
 t0:=Tryz.underlying0
 a0:=Tryz.isAgg0
 z0:=Tryz.sizeOf0
 v0:=Tryz.zeroValue0
 t2:=Tryz.underlying2
 a2:=Tryz.isAgg2
 z2:=Tryz.sizeOf2
 v2:=Tryz.zeroValue2
 t3:=Tryz.underlying3
 a3:=Tryz.isAgg3
 z3:=Tryz.sizeOf3
 v3:=Tryz.zeroValue3
 t4:=Tryz.underlying4
 a4:=Tryz.isAgg4
 z4:=Tryz.sizeOf4
 v4:=Tryz.zeroValue4
 t5:=Tryz.underlying5
 a5:=Tryz.isAgg5
 z5:=Tryz.sizeOf5
 v5:=Tryz.zeroValue5
 t9:=Tryz.underlying9
 a9:=Tryz.isAgg9
 z9:=Tryz.sizeOf9
 v9:=Tryz.zeroValue9
 t20:=Tryz.underlying20
 a20:=Tryz.isAgg20
 z20:=Tryz.sizeOf20
 v20:=Tryz.zeroValue20
 t21:=Tryz.underlying21
 a21:=Tryz.isAgg21
 z21:=Tryz.sizeOf21
 v21:=Tryz.zeroValue21
 t37:=Tryz.underlying22
 a37:=Tryz.isAgg22
 z37:=Tryz.sizeOf22
 v37:=Tryz.zeroValue22
 t46:=Tryz.underlying232
 a46:=Tryz.isAgg232
 z46:=Tryz.sizeOf232
 v46:=Tryz.zeroValue232
 t51:=Tryz.underlying391
 a51:=Tryz.isAgg391
 z51:=Tryz.sizeOf391
 v51:=Tryz.zeroValue391
 t53:=Tryz.underlying363
 a53:=Tryz.isAgg363
 z53:=Tryz.sizeOf363
 v53:=Tryz.zeroValue363
 t75:=Tryz.underlying264
 a75:=Tryz.isAgg264
 z75:=Tryz.sizeOf264
 v75:=Tryz.zeroValue264
 t76:=Tryz.underlying265
 a76:=Tryz.isAgg265
 z76:=Tryz.sizeOf265
 v76:=Tryz.zeroValue265
 t85:=Tryz.underlying347
 a85:=Tryz.isAgg347
 z85:=Tryz.sizeOf347
 v85:=Tryz.zeroValue347
 t127:=Tryz.underlying328
 a127:=Tryz.isAgg328
 z127:=Tryz.sizeOf328
 v127:=Tryz.zeroValue328
 t143:=Tryz.underlying407
 a143:=Tryz.isAgg407
 z143:=Tryz.sizeOf407
 v143:=Tryz.zeroValue407
 t145:=Tryz.underlying409
 a145:=Tryz.isAgg409
 z145:=Tryz.sizeOf409
 v145:=Tryz.zeroValue409
 t167:=Tryz.underlying346
 a167:=Tryz.isAgg346
 z167:=Tryz.sizeOf346
 v167:=Tryz.zeroValue346
 t168:=Tryz.underlying349
 a168:=Tryz.isAgg349
 z168:=Tryz.sizeOf349
 v168:=Tryz.zeroValue349
 t171:=Tryz.underlying362
 a171:=Tryz.isAgg362
 z171:=Tryz.sizeOf362
 v171:=Tryz.zeroValue362
 t173:=Tryz.underlying366
 a173:=Tryz.isAgg366
 z173:=Tryz.sizeOf366
 v173:=Tryz.zeroValue366
 t175:=Tryz.underlying376
 a175:=Tryz.isAgg376
 z175:=Tryz.sizeOf376
 v175:=Tryz.zeroValue376
 t210:=Tryz.underlying380
 a210:=Tryz.isAgg380
 z210:=Tryz.sizeOf380
 v210:=Tryz.zeroValue380
 t212:=Tryz.underlying390
 a212:=Tryz.isAgg390
 z212:=Tryz.sizeOf390
 v212:=Tryz.zeroValue390
 t213:=Tryz.underlying392
 a213:=Tryz.isAgg392
 z213:=Tryz.sizeOf392
 t232:=Tryz.underlying423
 a232:=Tryz.isAgg423
 z232:=Tryz.sizeOf423
 v232:=Tryz.zeroValue423
 t233:=Tryz.underlying424
 a233:=Tryz.isAgg424
 z233:=Tryz.sizeOf424
 v233:=Tryz.zeroValue424
 g15:=by kernel_rfl
 g16:=by kernel_rfl
 g17:=by kernel_rfl
 g18:=by kernel_rfl
 g19:=by kernel_rfl
 t80:=Tryz.underlying288
 a80:=Tryz.isAgg288
 z80:=Tryz.sizeOf288
 v80:=Tryz.zeroValue288
 i0:=by kernel_rfl
 i2:=by kernel_rfl
 i3:=by kernel_rfl
 i4:=by kernel_rfl
 i5:=by kernel_rfl
 i9:=by kernel_rfl
 i20:=by kernel_rfl
 i21:=by kernel_rfl
 i37:=by kernel_rfl
 i46:=by kernel_rfl
 i51:=by kernel_rfl
 i53:=by kernel_rfl
 i75:=by kernel_rfl
 i76:=by kernel_rfl
 i80:=by kernel_rfl
 i85:=by kernel_rfl
 i127:=by kernel_rfl
 i143:=by kernel_rfl
 i145:=by kernel_rfl
 i167:=by kernel_rfl
 i168:=by kernel_rfl
 i171:=by kernel_rfl
 i173:=by kernel_rfl
 i175:=by kernel_rfl
 i210:=by kernel_rfl
 i212:=by kernel_rfl
 i232:=by kernel_rfl
 i233:=by kernel_rfl
 m15:=by kernel_rfl
 m16:=by kernel_rfl
 m17:=by kernel_rfl
 m18:=by kernel_rfl
 m19:=by kernel_rfl
 c0:=by kernel_rfl
 c2:=by kernel_rfl
 c3:=by kernel_rfl
 c4:=by kernel_rfl
 c5:=by kernel_rfl
 c9:=by kernel_rfl
 c20:=by kernel_rfl
 c21:=by kernel_rfl
 c37:=by kernel_rfl
 c46:=by kernel_rfl
 c51:=by kernel_rfl
 c53:=by kernel_rfl
 c75:=by kernel_rfl
 c76:=by kernel_rfl
 c80:=by kernel_rfl
 c85:=by kernel_rfl
 c127:=by kernel_rfl
 c143:=by kernel_rfl
 c145:=by kernel_rfl
 c167:=by kernel_rfl
 c168:=by kernel_rfl
 c171:=by kernel_rfl
 c173:=by kernel_rfl
 c175:=by kernel_rfl
 c210:=by kernel_rfl
 c212:=by kernel_rfl
 c213:=by kernel_rfl
 c232:=by kernel_rfl
 c233:=by kernel_rfl }
theorem NC:Go.Proofs.Builder.Extra Tryz.prog xo where
 sizeBuilder:=by kernel_rfl
 liesBuilder:=by kernel_rfl
 t5:=Tryz.underlying5
 a5:=Tryz.isAgg5
 z5:=Tryz.sizeOf5
 v5:=Tryz.zeroValue5
 infoByte:=by kernel_rfl
 cellsByte:=by kernel_rfl
 sizeByte:=by kernel_rfl
 neB5:=by decide
end R
namespace R
open Go.RowKit
open D
def FldAll (P:Program) (T:TypeId):Nat->List (Nat×Nat)->Prop
 | _,[] =>True
 | i,q::l=>TF P T i q.1 q.2/\FldAll P T (i+1) l
theorem FldAll.get {P:Program} {T:TypeId} : ∀ {l:List (Nat×Nat)} {i:Nat},FldAll P T i l-> ∀f q,l[f]? =some q->TF P T (i+f) q.1 q.2
 | [],_,_,f,q,h=>by simp at h
 | x::l,i,⟨h1,h2⟩,f,q,h=>by
  cases f with
  | zero=>simp at h;subst h;exact h1
  | succ f =>
   have:=FldAll.get h2 f q (by simpa using h)
   rwa [show i+1+f=i+(f+1) from by omega] at this
section
variable {P:Program} {T:TypeId}
theorem ub {n b:Nat} {ty:Ty} {z:Value} {boo:Bool} {ik:Option (Option IntKind)} (h1:TI P T false 1) (h2:ty.size=1) (h3:TZ P T z 1 b) (h4:z.cells=(zeroCells ty).toArray) (h5:1<=b) (h6:boo=true->P.underlying T=some .bool) (h7: ∀k,ik=some k->P.underlying T=some (ikD k)):TDok P T ⟨false,1,none,ty,[],some b,none,boo,none,none,ik,false,none⟩:=
 ⟨h1,rfl,h2,fun E h=>by simp at h,fun f q h=>by simp at h,fun b' h=>by obtain rfl:=ae h;exact ⟨z,h3,h4,h5⟩,fun pl h=>by simp at h,h6,(fun ks h=>by cases h),(fun m h=>by cases h),h7,(fun h=>by cases h),fun e h=>by cases h⟩
theorem o0 {E:TypeId} {t:Ty} (h1:TI P T false 1) (h2:P.underlying T=some (.slice E)) (h3:TZ P T (.slice none 0 0) 1 24):TDok P T ⟨false,1,some E,.sl E t,[],some 24,none,false,none,none,none,false,none⟩:=
 ⟨h1,rfl,rfl,fun E' h=>by obtain rfl:=ae h;exact h2,fun f q h=>by simp at h,fun b' h=>by obtain rfl:=ae h;exact ⟨_,h3,rfl,by decide⟩,fun pl h=>by simp at h,(fun h=>by cases h),(fun ks h=>by cases h),(fun m h=>by cases h),(fun k h=>by cases h),(fun h=>by cases h),fun e h=>by cases h⟩
theorem lR {n b:Nat} {ty:Ty} {fs pl:List (Nat×Nat)} {z:Value} {eq:Option (List (Option IntKind))} (h1:TI P T true n) (h2:ty.size=n) (h3:FldAll P T 0 fs) (h4:TZ P T z n b) (h5:z.cells=(zeroCells ty).toArray) (h6:1<=b) (h7:TB P T pl) (h8: ∀ks,eq=some ks-> ∀w,Curq ks fun xs ys r=>EqT P T (.agg xs.toArray) (.agg ys.toArray) r w):TDok P T ⟨true,n,none,ty,fs,some b,some pl,false,eq,none,none,false,none⟩:=
 ⟨h1,rfl,h2,fun E h=>by simp at h,fun f q h=>by have:=h3.get f q h;rwa [Nat.zero_add] at this,fun b' h=>by obtain rfl:=ae h;exact ⟨z,h4,h5,h6⟩,fun pl' h=>by obtain rfl:=ae h;exact h7,(fun h=>by cases h),h8,(fun m h=>by cases h),(fun k h=>by cases h),(fun h=>by cases h),fun e h=>by cases h⟩
theorem xW {ty:Ty} {b:Nat} (h1:TI P T false 1) (h2:ty.size=1) (h3:TZ P T .nilFunc 1 b):TDok P T ⟨false,1,none,ty,[],none,none,false,none,none,none,true,none⟩:=
 ⟨h1,rfl,h2,fun E h=>by simp at h,fun f q h=>by simp at h,(fun b' h=>by cases h),(fun pl h=>by cases h),(fun h=>by cases h),(fun ks h=>by cases h),(fun m' h=>by cases h),(fun k h=>by cases h),(fun _=>⟨b,h3⟩),fun e h=>by cases h⟩
theorem X8 {m:MD} {ty:Ty} (h1:TI P T false 1) (h2:ty.size=1) (h3:MDok P T m):TDok P T ⟨false,1,none,ty,[],none,none,false,none,some m,none,false,none⟩:=
 ⟨h1,rfl,h2,fun E h=>by simp at h,fun f q h=>by simp at h,(fun b' h=>by cases h),(fun pl h=>by cases h),(fun h=>by cases h),(fun ks h=>by cases h),(fun m' h=>by obtain rfl:=ae h;exact h3),(fun k h=>by cases h),(fun h=>by cases h),fun e h=>by cases h⟩
theorem X9 {e E:TypeId} {u:Ty} (h1:TI P T false 1) (h2:P.underlying T=some (.pointer e)) (h3:TZ P T (.pointer none) 1 8):TDok P T ⟨false,1,none,.fro (.tree e E u),[],some 8,none,false,none,none,none,false,some e⟩:=
 ⟨h1,rfl,rfl,fun E' h=>by simp at h,fun f q h=>by simp at h,fun b' h=>by obtain rfl:=ae h;exact ⟨_,h3,rfl,by decide⟩,fun pl h=>by simp at h,(fun h=>by cases h),(fun ks h=>by cases h),(fun m h=>by cases h),(fun k h=>by cases h),(fun h=>by cases h),fun e' h=>by obtain rfl:=ae h;exact h2⟩
end
end R
namespace D
open Go.RowKit
abbrev Yq1:Type:=(Int×Int×Int×Int)
abbrev Yq2:Type:=(Int×(List Bool)×(List (List Int)))
abbrev Yq3:Type:=(Int×((List Yq1))×Int)
abbrev Yq4:Type:=(Bool×Int×Int×Int×Int)
abbrev Yq5:Type:=((List Int)×(List Yq1))
abbrev Yq6:Type:=((List (Int×(List Bool)×List (List Int)))×List (Int×(List Yq1)×Int))
abbrev Yq7:Type:=(List (Int×Int×Int))
abbrev Yq8:Type:=((List Yq2)×(List Yq3))
abbrev Yq9:Type:=(Int×List ((List Int)×List Yq1))
abbrev OW:Type:=((List Int)×Int×Int×(List Int)×Bool)
abbrev yG:Type:=(Int×(List Yq5))
abbrev YZ:Type:=(Int×Int×(List (List Yq4))×Int×(List ((List Int)×List Yq1))×(List (Int×(List Bool)×List (List Int)))×(List (Int×(List Yq1)×Int))×Yq7×ByteArray)
abbrev OX:Type:=(Int×(List Yq2)×(List Yq3))
abbrev Jd:Type:=(Out Int (Int×Int))
def bY (a:Int) (b:Int) (c:Int):Option Bool:=
 if decide (a≥b) then (some (decide (a<=c))) else (some false)
def fB (a:Int×Int×Int×Int) (b:Int):Option Bool:=
 (bY a.1 1 99).bind fun c=>if c then ((bY a.2.1 0 (i64.wrap (b - 1))).bind fun d=>if d then ((bY a.2.2.1 0 (i64.wrap (b - 1))).bind fun e=>if e then ((bY a.2.2.2 0 2).bind fun f=>some f) else (some false)) else (some false)) else (some false)
def dZ (b:(List Int)×(List Yq1)) (a:Int):Option (Out Bool Int):=
 if decide (a<(b.1.length:Int)) then ((aT b.1 a).bind fun c=>(bY c 0 2).bind fun d=>if d then (some (.nxt (i64.wrap (a+1)))) else (some (.ret false))) else (some (.brk a))
def c8 (c:(List Int)×(List Yq1)) (a:Int):Option (Out Bool Int):=
 if decide (a<(c.2.length:Int)) then ((aT c.2 a).bind fun b=>(fB (b.1,b.2.1,b.2.2.1,b.2.2.2) (c.1.length:Int)).bind fun d=>if d then (if decide (a>0) then ((aT c.2 (i64.wrap (a - 1))).bind fun e=>if decide (e.1≥b.1) then (some (.ret false)) else (some (.nxt (i64.wrap (a+1))))) else (some (.nxt (i64.wrap (a+1))))) else (some (.ret false))) else (some (.brk a))
def bG (a:(List Int)×(List Yq1)):Option Bool:=
 aP (ay (dZ a) aW 0) (fun r=>some r) (fun c=>aP (ay (c8 a) aW 0) (fun r=>some r) (fun d=>(bY (a.1.length:Int) 1 5).bind fun b=>if b then (some (decide ((a.2.length:Int)<=12))) else (some false)))
def cz (b:List Int) (c:List Int) (a:Int):Option (Out Bool Int):=
 if decide (a<(b.length:Int)) then ((aT b a).bind fun d=>(aT c a).bind fun e=>if d !=e then (some (.ret false)) else (some (.nxt (i64.wrap (a+1))))) else (some (.brk a))
def cf (a:List Int) (b:List Int):Option Bool:=
 if (a.length:Int) !=(b.length:Int) then (some false) else (aP (ay (cz a b) aW 0) (fun r=>some r) (fun c=>some true))
def eQ (b:Int×(List Yq5)) (a:Int):Option (Out Bool Int):=
 if decide (a<(b.2.length:Int)) then ((aT b.2 a).bind fun c=>(bG (c.1,c.2)).bind fun d=>if d then ((aT b.2 0).bind fun e=>(cf c.1 e.1).bind fun f=>if f then (some (.nxt (i64.wrap (a+1)))) else (some (.ret false))) else (some (.ret false))) else (some (.brk a))
def m_i_IsValidHistory (a:Int×(List Yq5)):Option Bool:=
 (bY (a.2.length:Int) 1 8).bind fun b=>if b then ((bY a.1 1 (i64.wrap ((i64.wrap (999 - (a.2.length:Int)))+1))).bind fun c=>if c then (aP (ay (eQ a) aW 0) (fun r=>some r) (fun d=>some true)) else (some false)) else (some false)
def bH (a:Int×(List Yq5)):Option Int:=
 (m_i_IsValidHistory (a.1,a.2)).bind fun b=>if b then (some (i64.wrap ((i64.wrap (a.1+(a.2.length:Int))) - 1))) else (some 0)
def aO (d:List Yq2) (e:List Yq2) (f:Yq2->Yq2->Option Bool) (a:Int):Option (Out Bool Int):=
 if decide (a<(d.length:Int)) then ((aT d a).bind fun b=>(aT e a).bind fun c=>(f (b.1,b.2.1,b.2.2) (c.1,c.2.1,c.2.2)).bind fun g=>if g then (some (.nxt (i64.wrap (a+1)))) else (some (.ret false))) else (some (.brk a))
def aY (a:List Yq2) (b:List Yq2) (c:Yq2->Yq2->Option Bool):Option Bool:=
 if (a.length:Int) !=(b.length:Int) then (some false) else (aP (ay (aO a b c) aW 0) (fun r=>some r) (fun d=>some true))
def bZ (b:List Bool) (c:List Bool) (a:Int):Option (Out Bool Int):=
 if decide (a<(b.length:Int)) then ((aT b a).bind fun d=>(aT c a).bind fun e=>if d !=e then (some (.ret false)) else (some (.nxt (i64.wrap (a+1))))) else (some (.brk a))
def dJ (a:List Bool) (b:List Bool):Option Bool:=
 if (a.length:Int) !=(b.length:Int) then (some false) else (aP (ay (bZ a b) aW 0) (fun r=>some r) (fun c=>some true))
def a7 (b:List (List Int)) (c:List (List Int)) (d:(List Int)->(List Int)->Option Bool) (a:Int):Option (Out Bool Int):=
 if decide (a<(b.length:Int)) then ((aT b a).bind fun e=>(aT c a).bind fun f=>(d e f).bind fun g=>if g then (some (.nxt (i64.wrap (a+1)))) else (some (.ret false))) else (some (.brk a))
def bL (a:List (List Int)) (b:List (List Int)) (c:(List Int)->(List Int)->Option Bool):Option Bool:=
 if (a.length:Int) !=(b.length:Int) then (some false) else (aP (ay (a7 a b c) aW 0) (fun r=>some r) (fun d=>some true))
def fX (a:List Int) (b:List Int):Option Bool:=
 (cf a b).bind fun c=>some c
def dS (a:Int×(List Bool)×(List (List Int))) (b:Int×(List Bool)×(List (List Int))):Option Bool:=
 if a.1==b.1 then ((dJ a.2.1 b.2.1).bind fun c=>if c then ((bL a.2.2 b.2.2 (fun a0 a1=>fX a0 a1)).bind fun d=>some d) else (some false)) else (some false)
def aL (d:List Yq3) (e:List Yq3) (f:Yq3->Yq3->Option Bool) (a:Int):Option (Out Bool Int):=
 if decide (a<(d.length:Int)) then ((aT d a).bind fun b=>(aT e a).bind fun c=>(f (b.1,b.2.1,b.2.2) (c.1,c.2.1,c.2.2)).bind fun g=>if g then (some (.nxt (i64.wrap (a+1)))) else (some (.ret false))) else (some (.brk a))
def aS (a:List Yq3) (b:List Yq3) (c:Yq3->Yq3->Option Bool):Option Bool:=
 if (a.length:Int) !=(b.length:Int) then (some false) else (aP (ay (aL a b c) aW 0) (fun r=>some r) (fun d=>some true))
def bW (d:List Yq1) (e:List Yq1) (a:Int):Option (Out Bool Int):=
 if decide (a<(d.length:Int)) then ((aT d a).bind fun b=>(aT e a).bind fun c=>if (b.1==c.1)&&((b.2.1==c.2.1)&&((b.2.2.1==c.2.2.1)&&((b.2.2.2==c.2.2.2)&&true))) then (some (.nxt (i64.wrap (a+1)))) else (some (.ret false))) else (some (.brk a))
def cn (a:List Yq1) (b:List Yq1):Option Bool:=
 if (a.length:Int) !=(b.length:Int) then (some false) else (aP (ay (bW a b) aW 0) (fun r=>some r) (fun c=>some true))
def lj (a:(List Yq1)) (b:(List Yq1)):Option Bool:=
 (cn a b).bind fun c=>some c
def gx (a:Int×((List Yq1))×Int) (b:Int×((List Yq1))×Int):Option Bool:=
 if a.1==b.1 then ((lj a.2.1 b.2.1).bind fun c=>if c then (some (a.2.2==b.2.2)) else (some false)) else (some false)
def fY (a:(List Yq2)×(List Yq3)) (b:(List Yq2)×(List Yq3)):Option Bool:=
 (aY a.1 b.1 (fun a0 a1=>dS a0 a1)).bind fun c=>if c then ((aS a.2 b.2 (fun a0 a1=>gx a0 a1)).bind fun d=>some d) else (some false)
def fQ (a:(List Yq1)):Option (List Yq1):=
 (cd 32 ([] :List Yq1) a).bind fun b=>some b
def jH (a:Int):Option Bool:=
 (bY a 0 8).bind fun b=>some b
def pR (a:Int×Int×Int×Int):Option Bool:=
 if a.1==3 then ((jH a.2.1).bind fun b=>if b then (if a.2.2.1==0 then (some (a.2.2.2==0)) else (some false)) else (some false)) else (if a.1==7 then (if a.2.1==0 then ((bY a.2.2.1 0 a.2.2.2).bind fun c=>if c then ((bY a.2.2.2 1 3).bind fun d=>some d) else (some false)) else (some false)) else (Option.bind ((if a.1==1 then (some (a.1==1)) else (if a.1==2 then (some (a.1==2)) else (if a.1==4 then (some (a.1==4)) else (if a.1==5 then (some (a.1==5)) else (some (a.1==6))))):Option Bool)) (fun e=>if e then (some ((a.1==a.1)&&((a.2.1==0)&&((a.2.2.1==0)&&((a.2.2.2==0)&&true))))) else (some false))))
def pS (d:List Yq1) (a:(List (Tr Yq1))×Int):Option (Out (Tr Yq1) ((List (Tr Yq1))×Int)):=
 if decide (a.2<(d.length:Int)) then ((aT d a.2).bind fun b=>Option.bind ((Option.bind ((if b.1==4 then (some (b.1==4)) else (some (b.1==5)):Option Bool)) (fun e=>if e then (some 2) else (Option.bind ((if b.1==6 then (some (b.1==6)) else (some (b.1==7)):Option Bool)) (fun f=>if f then (some 1) else (some 0)))):Option Int)) (fun c=>(pR (b.1,b.2.1,b.2.2.1,b.2.2.2)).bind fun g=>if g then (if decide ((i64.wrap ((a.1.length:Int) - c))<0) then (some (.ret Tr.nil)) else ((chk (And (0<=(i64.wrap ((a.1.length:Int) - c))) ((i64.wrap ((a.1.length:Int) - c))<=(a.1.length:Int)))).bind fun _=>(cd 8 ([] :List (Tr Yq1)) (a.1.drop ((i64.wrap ((a.1.length:Int) - c)).toNat))).bind fun h=>(chk (And (0<=(i64.wrap ((a.1.length:Int) - c))) ((i64.wrap ((a.1.length:Int) - c))<=(a.1.length:Int)))).bind fun _=>(cd 8 (a.1.take ((i64.wrap ((a.1.length:Int) - c)).toNat)) ([Tr.node (b.1,b.2.1,b.2.2.1,b.2.2.2) h])).bind fun i=>some (.nxt (i,i64.wrap (a.2+1))))) else (some (.ret Tr.nil)))) else (some (.brk (a.1,a.2)))
def mQ (b:List Yq1):Option (Tr Yq1):=
 aP (ay (pS b) aW (([] :List (Tr Yq1)),0)) (fun c=>some c) (fun a=>if (a.1.length:Int) !=1 then (some Tr.nil) else ((aT a.1 0).bind fun d=>some d))
def sF (a:List Yq1):Option Bool:=
 (mQ a).bind fun b=>some (cond.match_1 (fun (c:Bool)=>Bool) (Tr.isNil b) (fun (d:Unit)=>false) (fun (e:Unit)=>true))
def j9 (a:(List Yq1)):Option Bool:=
 if decide ((a.length:Int)<=24) then ((sF a).bind fun b=>some b) else (some false)
def bI (mrec:(Tr Yq1)->Option Int) (b:Tr Yq1) (c:Yq1×List (Tr Yq1)) (a:Int×Int):Option Jd:=
 if decide (a.2<(c.2.length:Int)) then (Option.bind (((aT c.2 a.2).bind fun d=>(Tr.get b).bind fun j=>(Tr.get b).bind fun e=>if e.1.1==7 then ((mrec d).bind fun f=>(Tr.get b).bind fun k=>(Tr.get b).bind fun g=>some (i64.wrap (a.1+(i64.wrap ((i64.wrap (f+3))*g.1.2.2.2))))) else ((mrec d).bind fun h=>some (i64.wrap (a.1+h))):Option Int)) (fun i=>some (.nxt (i,i64.wrap (a.2+1))))) else (some (.brk (a.1,a.2)))
def bS:Nat->(Tr Yq1)->Option Int
 | 0,_=>none
 | n+1,p0x =>
  (Tr.get p0x).bind fun d=>(Tr.get p0x).bind fun a=>aP (ay (bI (bS n) p0x a) aW (1,0)) (fun b=>some b) (fun c=>some (Min.min c.1 100000))
def Ds (a:Int):Option (Tr Yq1):=
 some (Tr.node (a,0,0,0) ([] :List (Tr Yq1)))
def jI:Nat->(Tr Yq1)->Int->Int->Option (Tr Yq1)
 | 0,_,_,_=>none
 | n+1,p0x,p1low,p2high =>
  if p2high==0 then ((Ds 2).bind fun b=>some b) else (((jI n) p0x (Max.max 0 (i64.wrap (p1low - 1))) (i64.wrap (p2high - 1))).bind fun a=>if decide (p1low>0) then (some (Tr.node (4,0,0,0) ([p0x,a]))) else ((Ds 2).bind fun c=>some (Tr.node (5,0,0,0) ([Tr.node (4,0,0,0) ([p0x,a]),c]))))
def bq (mrec:(Tr Yq1)->Option (Tr Yq1)) (b:Yq1×List (Tr Yq1)) (a:Int×Int×Int×Int×Int×List (Tr Yq1)):Option (Out (Tr Yq1) (Int×Int×Int×Int×Int×List (Tr Yq1))):=
 if decide (a.1<(b.2.length:Int)) then ((aT b.2 a.1).bind fun c=>(mrec c).bind fun d=>(cd 8 a.2.2.2.2.2 ([d])).bind fun e=>some (.nxt (i64.wrap (a.1+1),a.2.1,a.2.2.1,a.2.2.2.1,a.2.2.2.2.1,e))) else (some (.brk (a.1,a.2.1,a.2.2.1,a.2.2.2.1,a.2.2.2.2.1,a.2.2.2.2.2)))
def bC:Nat->(Tr Yq1)->Option (Tr Yq1)
 | 0,_=>none
 | n+1,p0x =>
  (Tr.get p0x).bind fun l=>(Tr.get p0x).bind fun c=>if c.1.1==7 then ((Tr.get p0x).bind fun m=>(Tr.get p0x).bind fun d=>(aT d.2 0).bind fun e=>((bC n) e).bind fun f=>(Tr.get p0x).bind fun o=>(Tr.get p0x).bind fun g=>(Tr.get p0x).bind fun p=>(Tr.get p0x).bind fun h=>(jI gr f g.1.2.2.1 h.1.2.2.2).bind fun i=>some i) else ((Tr.get p0x).bind fun q=>(Tr.get p0x).bind fun b=>(Tr.get p0x).bind fun r=>(Tr.get p0x).bind fun j=>aP (ay (bq (bC n) j) aW (0,b.1.1,b.1.2.1,b.1.2.2.1,b.1.2.2.2,([] :List (Tr Yq1)))) (fun k=>some k) (fun a=>some (Tr.node (a.2.1,a.2.2.1,a.2.2.2.1,a.2.2.2.2.1) a.2.2.2.2.2)))
def bf (mrec:(Tr Yq1)->(List Yq1)->Option (List Yq1)) (b:Yq1×List (Tr Yq1)) (a:Int×List Yq1):Option (Out (List Yq1) (Int×List Yq1)):=
 if decide (a.1<(b.2.length:Int)) then ((aT b.2 a.1).bind fun c=>(mrec c a.2).bind fun d=>some (.nxt (i64.wrap (a.1+1),d))) else (some (.brk (a.1,a.2)))
def bz:Nat->(Tr Yq1)->(List Yq1)->Option (List Yq1)
 | 0,_,_=>none
 | n+1,p0x,p1out =>
  (Tr.get p0x).bind fun f=>(Tr.get p0x).bind fun b=>aP (ay (bf (bz n) b) aW (0,p1out)) (fun c=>some c) (fun d=>(Tr.get p0x).bind fun g=>(Tr.get p0x).bind fun a=>(cd 32 d.2 ([(a.1.1,a.1.2.1,a.1.2.2.1,a.1.2.2.2)])).bind fun e=>some e)
def pT (a:Tr Yq1):Option (List Yq1):=
 (bz gr a ([] :List Yq1)).bind fun b=>some b
def ln (a:List Yq1):Option ((List Yq1)×Bool):=
 (j9 a).bind fun d=>if d then ((mQ a).bind fun b=>(bS gr b).bind fun e=>if decide (e>5000) then (some (([] :List Yq1),false)) else ((bC gr b).bind fun f=>(pT f).bind fun c=>if decide ((c.length:Int)>400) then (some (([] :List Yq1),false)) else (some (c,true)))) else (some (([] :List Yq1),false))
def cO (b:(List Int)×Int×Int×(List Int)×Bool) (c:Int) (d:Int) (a:Int×List Int):Option (Out OW (Int×List Int)):=
 if decide (a.1<(b.2.2.2.1.length:Int)) then (Option.bind (((chk (0<=a.1)).bind fun _=>if (yS (th c a.1) 1)==1 then ((aT a.2 a.1).bind fun e=>(aT a.2 a.1).bind fun g=>some (a.2.set a.1.toNat (orI e d))) else (some a.2):Option (List Int))) (fun f=>some (.nxt (i64.wrap (a.1+1),f)))) else (some (.brk (a.1,a.2)))
def dG (a:(List Int)×Int×Int×(List Int)×Bool) (b:Int) (c:Int):Option OW:=
 aP (ay (cO a b c) aW (0,a.2.2.2.1)) (fun d=>some d) (fun e=>some (a.1,a.2.1,a.2.2.1,e.2,a.2.2.2.2))
def bD:Nat->OW->(Tr Yq1)->Option ((Int×Int×Bool)×(List Int)×Int×Int×(List Int)×Bool)
 | 0,_,_=>none
 | n+1,p0,p1 =>
  (Tr.get p1).bind fun A=>(Tr.get p1).bind fun i=>if i.1.1==2 then (some ((0,0,true),p0.1,p0.2.1,p0.2.2.1,p0.2.2.2.1,p0.2.2.2.2)) else (if i.1.1==3 then ((Tr.get p1).bind fun B=>(Tr.get p1).bind fun m=>(cd 8 p0.1 ([m.1.2.1])).bind fun o=>(cd 8 p0.2.2.2.1 ([0])).bind fun p=>some ((H6 1 (p0.1.length:Int),H6 1 (p0.1.length:Int),false),o,p0.2.1,p0.2.2.1,p,p0.2.2.2.2)) else (if i.1.1==5 then ((Tr.get p1).bind fun C=>(Tr.get p1).bind fun q=>(aT q.2 0).bind fun r=>((bD n) (p0.1,p0.2.1,p0.2.2.1,p0.2.2.2.1,p0.2.2.2.2) r).bind fun f=>(Tr.get p1).bind fun D=>(Tr.get p1).bind fun s=>(aT s.2 1).bind fun t=>((bD n) f.2 t).bind fun b=>if f.1.2.2 then (some ((orI f.1.1 b.1.1,orI f.1.2.1 b.1.2.1,true),b.2.1,b.2.2.1,b.2.2.2.1,b.2.2.2.2.1,b.2.2.2.2.2)) else (some ((orI f.1.1 b.1.1,orI f.1.2.1 b.1.2.1,b.1.2.2),b.2.1,b.2.2.1,b.2.2.2.1,b.2.2.2.2.1,b.2.2.2.2.2))) else (if i.1.1==4 then ((Tr.get p1).bind fun E=>(Tr.get p1).bind fun u=>(aT u.2 0).bind fun v=>((bD n) (p0.1,p0.2.1,p0.2.2.1,p0.2.2.2.1,p0.2.2.2.2) v).bind fun c=>(Tr.get p1).bind fun F=>(Tr.get p1).bind fun w=>(aT w.2 1).bind fun x=>((bD n) c.2 x).bind fun a=>(dG (a.2.1,a.2.2.1,a.2.2.2.1,a.2.2.2.2.1,a.2.2.2.2.2) c.1.2.1 a.1.1).bind fun d=>if c.1.2.2 then (Option.bind ((if c.1.2.2 then (some (orI c.1.1 a.1.1,a.1.2.1,a.1.2.2)) else (some (c.1.1,a.1.2.1,a.1.2.2)):Option (Int×Int×Bool))) (fun g=>Option.bind ((if a.1.2.2 then (some (g.1,orI g.2.1 c.1.2.1,g.2.2)) else (some (g.1,g.2.1,g.2.2)):Option (Int×Int×Bool))) (fun k=>some ((k.1,k.2.1,k.2.2),d.1,d.2.1,d.2.2.1,d.2.2.2.1,d.2.2.2.2)))) else (Option.bind ((if c.1.2.2 then (some (orI c.1.1 a.1.1,a.1.2.1,false)) else (some (c.1.1,a.1.2.1,false)):Option (Int×Int×Bool))) (fun h=>Option.bind ((if a.1.2.2 then (some (h.1,orI h.2.1 c.1.2.1,h.2.2)) else (some (h.1,h.2.1,h.2.2)):Option (Int×Int×Bool))) (fun l=>some ((l.1,l.2.1,l.2.2),d.1,d.2.1,d.2.2.1,d.2.2.2.1,d.2.2.2.2))))) else (if i.1.1==6 then ((Tr.get p1).bind fun G=>(Tr.get p1).bind fun y=>(aT y.2 0).bind fun z=>((bD n) (p0.1,p0.2.1,p0.2.2.1,p0.2.2.2.1,p0.2.2.2.2) z).bind fun e=>(dG (e.2.1,e.2.2.1,e.2.2.2.1,e.2.2.2.2.1,e.2.2.2.2.2) e.1.2.1 e.1.1).bind fun j=>some ((e.1.1,e.1.2.1,true),j.1,j.2.1,j.2.2.1,j.2.2.2.1,j.2.2.2.2)) else (some ((0,0,false),p0.1,p0.2.1,p0.2.2.1,p0.2.2.2.1,p0.2.2.2.2))))))
def dj (b:(List Yq1)×Bool) (a:Int×Int):Option (Out (OW×Bool) (Int×Int)):=
 if decide (a.2<(b.1.length:Int)) then (Option.bind (((aT b.1 a.2).bind fun c=>if c.1==3 then (some (i64.wrap (a.1+1))) else (some a.1):Option Int)) (fun d=>some (.nxt (d,i64.wrap (a.2+1))))) else (some (.brk (a.1,a.2)))
def gK (c:List Yq1):Option (OW×Bool):=
 (ln c).bind fun b=>if b.2 then (aP (ay (dj b) aW (0,0)) (fun d=>some d) (fun e=>if decide (e.1>20) then (some ((([] :List Int),0,0,([] :List Int),false),false)) else ((mQ b.1).bind fun f=>(bD gr (([] :List Int),0,0,([] :List Int),false) f).bind fun a=>some ((a.2.1,a.1.1,a.1.2.1,a.2.2.2.2.1,a.1.2.2),true)))) else (some ((([] :List Int),0,0,([] :List Int),false),false))
def ep (e:Int->Int->Option (Int×Bool)) (f:(List Int)×(List (Int×Int))×Int×Int×(List Bool)×(List (List Int))) (a:(List Int)×(List (Int×Int))×(List Int)×Int):Option (Out (Yq2×Bool) ((List Int)×(List (Int×Int))×(List Int)×Int)):=
 if decide (a.2.2.2<9) then (Option.bind (((aT a.1 f.2.2.1).bind fun g=>(e g a.2.2.2).bind fun b=>if b.2 then ((chk (iOk b.1=true)).bind fun _=>Option.bind ((if (lkM a.2.1 b.1).isSome then (some (a.1,a.2.1,(lkM a.2.1 b.1).getD 0)) else ((Lr a.2.1 iOk iOk b.1 (a.1.length:Int)).bind fun m37=>(cd 8 a.1 ([b.1])).bind fun h=>some (h,m37,(a.1.length:Int))):Option ((List Int)×(List (Int×Int))×Int))) (fun c=>(cd 8 a.2.2.1 ([c.2.2])).bind fun i=>some (c.1,c.2.1,i))) else ((cd 8 a.2.2.1 ([-1])).bind fun j=>some (a.1,a.2.1,j)):Option ((List Int)×(List (Int×Int))×(List Int)))) (fun d=>some (.nxt (d.1,d.2.1,d.2.2,i64.wrap (a.2.2.2+1))))) else (some (.brk (a.1,a.2.1,a.2.2.1,a.2.2.2)))
def bX (c:Int) (d:Int->Option Bool) (e:Int->Int->Option (Int×Bool)) (a:(List Int)×(List (Int×Int))×Int×Int×(List Bool)×(List (List Int))):Option (Out (Yq2×Bool) ((List Int)×(List (Int×Int))×Int×Int×(List Bool)×(List (List Int)))):=
 if decide (a.2.2.1<(a.1.length:Int)) then (aP (ay (ep e a) aW (a.1,a.2.1,([] :List Int),0)) (fun r=>some (.ret r)) (fun b=>if decide ((b.1.length:Int)>c) then (some (.ret ((0,[],[]),false))) else ((aT b.1 a.2.2.1).bind fun f=>(d f).bind fun g=>(cd 1 a.2.2.2.2.1 ([g])).bind fun h=>(cd 24 a.2.2.2.2.2 ([b.2.2.1])).bind fun i=>some (.nxt (b.1,b.2.1,i64.wrap (a.2.2.1+1),a.2.2.2.1,h,i))))) else (some (.brk (a.1,a.2.1,a.2.2.1,a.2.2.2.1,a.2.2.2.2.1,a.2.2.2.2.2)))
def eL (b:Int) (c:Int) (d:Int->Option Bool) (e:Int->Int->Option (Int×Bool)):Option (Yq2×Bool):=
 (Lr ([] :List (Int×Int)) iOk iOk b 0).bind fun m1=>aP (ay (bX c d e) aW ([b],m1,0,0,[],[])) (fun r=>some r) (fun a=>some ((a.2.2.2.1,a.2.2.2.2.1,a.2.2.2.2.2),true))
def dk (a:(List Int)×Int×Int×(List Int)×Bool) (b:Int):Option Bool:=
 if (yS b 1)==1 then (if a.2.2.2.2 then (some true) else (some ((yS (th b 1) a.2.2.1) !=0))) else (some ((yS (th b 1) a.2.2.1) !=0))
def cZ (b:(List Int)×Int×Int×(List Int)×Bool) (c:Int) (a:Int×Int):Option Jd:=
 if decide (a.2<(b.2.2.2.1.length:Int)) then (Option.bind (((aT b.2.2.2.1 a.2).bind fun d=>(chk (0<=i64.wrap (a.2+1))).bind fun _=>if (yS (th c (i64.wrap (a.2+1))) 1)==1 then (some (orI a.1 d)) else (some a.1):Option Int)) (fun e=>some (.nxt (e,i64.wrap (a.2+1))))) else (some (.brk (a.1,a.2)))
def c7 (b:(List Int)×Int×Int×(List Int)×Bool) (c:Int) (d:Int×Int) (a:Int×Int):Option Jd:=
 if decide (a.2<(b.1.length:Int)) then (Option.bind (((aT b.1 a.2).bind fun e=>if e==c then ((chk (0<=a.2)).bind fun _=>if (yS (th d.1 a.2) 1)==1 then ((chk (0<=i64.wrap (a.2+1))).bind fun _=>some (orI a.1 (H6 1 (i64.wrap (a.2+1))))) else (some a.1)) else (some a.1):Option Int)) (fun f=>some (.nxt (f,i64.wrap (a.2+1))))) else (some (.brk (a.1,a.2)))
def fZ (a:(List Int)×Int×Int×(List Int)×Bool) (b:Int) (c:Int):Option Int:=
 Option.bind ((if (yS b 1)==1 then (some a.2.1) else (some 0):Option Int)) (fun d=>aP (ay (cZ a b) aW (d,0)) (fun r=>some r) (fun e=>aP (ay (c7 a c e) aW (0,0)) (fun r=>some r) (fun f=>some f.1)))
def da (b:Int) (c:Int) (q0:(List Int)×Int×Int×(List Int)×Bool):Option (Int×Bool):=
 (fZ (q0.1,q0.2.1,q0.2.2.1,q0.2.2.2.1,q0.2.2.2.2) b c).bind fun a=>some (a,a !=0)
def gW (a:(List Int)×Int×Int×(List Int)×Bool) (c:Int):Option (Yq2×Bool):=
 (eL 1 c (fun a0=>dk (a.1,a.2.1,a.2.2.1,a.2.2.2.1,a.2.2.2.2) a0) (fun a0 a1=>da a0 a1 (a.1,a.2.1,a.2.2.1,a.2.2.2.1,a.2.2.2.2))).bind fun b=>some ((b.1.1,b.1.2.1,b.1.2.2),b.2)
def dm (b:Bool×Int×List Bool) (c:List Int) (a:Bool×Int×List Bool):Option (Out (List Bool) (Bool×Int×List Bool)):=
 if decide (a.2.1<(c.length:Int)) then (Option.bind (((aT c a.2.1).bind fun d=>if decide (d≥0) then ((aT a.2.2 d).bind fun f=>if f then ((aT a.2.2 b.2.1).bind fun g=>if g then (some (a.1,a.2.2)) else ((aT a.2.2 b.2.1).bind fun h=>some (true,a.2.2.set b.2.1.toNat true))) else (some (a.1,a.2.2))) else (some (a.1,a.2.2)):Option (Bool×List Bool))) (fun e=>some (.nxt (e.1,i64.wrap (a.2.1+1),e.2)))) else (some (.brk (a.1,a.2.1,a.2.2)))
def dn (b:Int×(List Bool)×List (List Int)) (a:Bool×Int×List Bool):Option (Out (List Bool) (Bool×Int×List Bool)):=
 if decide (a.2.1<(b.2.2.length:Int)) then ((aT b.2.2 a.2.1).bind fun d=>aP (ay (dm a d) aW (a.1,0,a.2.2)) (fun e=>some (.ret e)) (fun c=>some (.nxt (c.1,i64.wrap (a.2.1+1),c.2.2)))) else (some (.brk (a.1,a.2.1,a.2.2)))
def gX (c:Int×(List Bool)×List (List Int)) (a:Bool×List Bool):Option (Out (List Bool) (Bool×List Bool)):=
 if a.1 then (aP (ay (dn c) aW (false,0,a.2)) (fun d=>some (.ret d)) (fun b=>some (.nxt (b.1,b.2.2)))) else (some (.brk (a.1,a.2)))
def eR (a:Int×(List Bool)×List (List Int)):Option (List Bool):=
 (cd 1 ([] :List Bool) a.2.1).bind fun b=>aP (ay (gX a) aW (true,b)) (fun c=>some c) (fun d=>some d.2)
def cj (b:List (List Int)) (c:(List Int)->Option Bool) (a:Int):Option (Out Int Int):=
 if decide (a<(b.length:Int)) then ((aT b a).bind fun d=>(c d).bind fun e=>if e then (some (.ret a)) else (some (.nxt (i64.wrap (a+1))))) else (some (.brk a))
def bU (a:List (List Int)) (b:(List Int)->Option Bool):Option Int:=
 aP (ay (cj a b) aW 0) (fun r=>some r) (fun c=>some (-1))
def gI (a:List Int) (q0:List Int):Option Bool:=
 (cf a q0).bind fun b=>some b
def cP (d:List Int) (c:List Int) (a:Int×(List Int)):Option (Out ((List Int)×Int) (Int×(List Int))):=
 if decide (a.1<(c.length:Int)) then ((aT c a.1).bind fun b=>Option.bind ((if decide (b≥0) then ((aT d b).bind fun e=>some e) else (some b):Option Int)) (fun f=>(cd 8 a.2 ([f])).bind fun g=>some (.nxt (i64.wrap (a.1+1),g)))) else (some (.brk (a.1,a.2)))
def dK (h:Int×(List Bool)×(List (List Int))) (b:List Int) (a:(List (List Int))×(List Int)×Int):Option (Out ((List Int)×Int) ((List (List Int))×(List Int)×Int)):=
 if decide (a.2.2<(b.length:Int)) then (Option.bind (((aT b a.2.2).bind fun c=>if decide (c<0) then ((cd 8 a.2.1 ([-1])).bind fun i=>some (a.1,i)) else ((aT h.2.2 a.2.2).bind fun j=>aP (ay (cP b j) aW (0,[c])) (fun _=>none) (fun d=>(bU a.1 (fun a0=>gI a0 d.2)).bind fun e=>Option.bind ((if decide (e<0) then ((cd 24 a.1 ([d.2])).bind fun k=>some (k,(a.1.length:Int))) else (some (a.1,e)):Option ((List (List Int))×Int))) (fun f=>(cd 8 a.2.1 ([f.2])).bind fun l=>some (f.1,l)))):Option ((List (List Int))×(List Int)))) (fun g=>some (.nxt (g.1,g.2,i64.wrap (a.2.2+1))))) else (some (.brk (a.1,a.2.1,a.2.2)))
def dH (b:Int×(List Bool)×(List (List Int))) (c:List Int):Option ((List Int)×Int):=
 aP (ay (dK b c) aW (([] :List (List Int)),([] :List Int),0)) (fun r=>some r) (fun a=>some (a.2.1,(a.1.length:Int)))
def cD (c:Int×(List Bool)×(List (List Int))) (b:List Bool) (a:(List Int)×Int):Option (Out (List Int) ((List Int)×Int)):=
 if decide (a.2<(b.length:Int)) then (Option.bind (((aT b a.2).bind fun d=>if d then ((aT c.2.1 a.2).bind fun e=>if e then ((cd 8 a.1 ([1])).bind fun f=>some f) else ((cd 8 a.1 ([0])).bind fun g=>some g)) else ((cd 8 a.1 ([-1])).bind fun h=>some h):Option (List Int))) (fun i=>some (.nxt (i,i64.wrap (a.2+1))))) else (some (.brk (a.1,a.2)))
def fC (b:Int×(List Bool)×(List (List Int))) (c:(List Int)×Int):Option (Out (List Int) ((List Int)×Int)):=
 (dH (b.1,b.2.1,b.2.2) c.1).bind fun a=>if a.2==c.2 then (some (.ret a.1)) else (some (.nxt (a.1,a.2)))
def dq (a:Int×(List Bool)×(List (List Int))):Option (List Int):=
 (eR (a.1,a.2.1,a.2.2)).bind fun b=>aP (ay (cD a b) aW (([] :List Int),0)) (fun r=>some r) (fun c=>aP (ay (fC a) aW (c.1,-1)) (fun r=>some r) (fun d=>none))
def uc (a:Int) (b:Int):Option (Int×Int):=
 some (IntKind.u32.wrap (th (IntKind.u64.wrap ((IntKind.u64.wrap a)*(IntKind.u64.wrap b))) 32),IntKind.u32.wrap (IntKind.u64.wrap ((IntKind.u64.wrap a)*(IntKind.u64.wrap b))))
def ni (a:Int) (b:Int):Option (Int×Int):=
 some (IntKind.u64.wrap ((IntKind.u64.wrap ((IntKind.u64.wrap ((th a 32)*(th b 32)))+(th (IntKind.u64.wrap ((IntKind.u64.wrap ((th a 32)*(OS b 4294967295)))+(th (IntKind.u64.wrap ((OS a 4294967295)*(OS b 4294967295))) 32))) 32)))+(th (IntKind.u64.wrap ((OS (IntKind.u64.wrap ((IntKind.u64.wrap ((th a 32)*(OS b 4294967295)))+(th (IntKind.u64.wrap ((OS a 4294967295)*(OS b 4294967295))) 32))) 4294967295)+(IntKind.u64.wrap ((OS a 4294967295)*(th b 32))))) 32)),IntKind.u64.wrap (a*b))
def o6 (b:Int) (c:Int):Option (Int×Int):=
 (ni b c).bind fun a=>some (a.1,a.2)
def lS (a:Int×List Int):Option (Out (List Int) (Int×List Int)):=
 if decide (a.1<(a.2.length:Int)) then ((chk (And (0<=a.1) (a.1<=(a.2.length:Int)))).bind fun _=>(chk (And (0<=a.1) (a.1<=(a.2.length:Int)))).bind fun _=>(chk (And (0<=a.1) (a.1<=(a.2.length:Int)))).bind fun _=>(chk (And (0<=a.1) (a.1<=(a.2.length:Int)))).bind fun _=>some (.nxt (i64.wrap (a.1+((Min.min ((a.2.take a.1.toNat).length) (a.2.length - a.1.toNat):Nat):Int)),Eb a.2 a.1.toNat (a.2.take a.1.toNat)))) else (some (.brk (a.1,a.2)))
def gY (a:List Int) (c:Int):Option (List Int):=
 if decide (c<0) then (none) else ((o6 (IntKind.u64.wrap (a.length:Int)) (IntKind.u64.wrap c)).bind fun b=>if decide (b.1>0) then (none) else (if decide (b.2>9223372036854775807) then (none) else ((mkI 8 (i64.wrap b.2) 0).bind fun d=>aP (ay (lS) aW (((Min.min a.length (d.length - 0):Nat):Int),Eb d 0 a)) (fun e=>some e) (fun f=>some f.2))))
def ud:Option Yq2:=
 (gY ([-1]) 9).bind fun a=>some (0,[false],[a])
def dC (b:List Int) (c:Int) (a:Int):Option (Out Int Int):=
 if decide (a<(b.length:Int)) then ((aT b a).bind fun d=>if c==d then (some (.ret a)) else (some (.nxt (i64.wrap (a+1))))) else (some (.brk a))
def eJ (a:List Int) (b:Int):Option Int:=
 aP (ay (dC a b) aW 0) (fun r=>some r) (fun c=>some (-1))
def bd (a:Int) (q0:List Int):Option Int:=
 (eJ q0 a).bind fun b=>some b
def cE (a:Int) (q0:Int×(List Bool)×(List (List Int))) (q1:Int->Option Int):Option Bool:=
 (q1 a).bind fun b=>(aT q0.2.1 b).bind fun c=>some c
def eS (c:Int×(List Bool)×(List (List Int))) (a:Int) (b:Int):Option Int:=
 if decide (a<0) then (some (-1)) else ((jH b).bind fun d=>if d then ((aT c.2.2 a).bind fun e=>(aT e b).bind fun f=>some f) else (some (-1)))
def cF (b:Int) (c:Int) (q0:Int×(List Bool)×(List (List Int))) (q1:Int->Option Int) (q2:List Int):Option (Int×Bool):=
 (q1 b).bind fun d=>(eS (q0.1,q0.2.1,q0.2.2) d c).bind fun a=>if decide (a<0) then (some (0,false)) else ((aT q2 a).bind fun e=>if decide (e<0) then (some (0,false)) else ((aT q2 a).bind fun f=>some (f,true)))
def cr (a:Int×(List Bool)×(List (List Int))):Option Yq2:=
 (dq (a.1,a.2.1,a.2.2)).bind fun b=>(aT b a.1).bind fun e=>if decide (e<0) then ((ud).bind fun c=>some (c.1,c.2.1,c.2.2)) else ((aT b a.1).bind fun f=>(eL f (b.length:Int) (fun a0=>cE a0 (a.1,a.2.1,a.2.2) (fun a0=>bd a0 b)) (fun a0 a1=>cF a0 a1 (a.1,a.2.1,a.2.2) (fun a0=>bd a0 b) b)).bind fun d=>some (d.1.1,d.1.2.1,d.1.2.2))
def zP (b:Int×(List Bool)×(List (List Int))):Option (Yq2×Bool):=
 (cr (b.1,b.2.1,b.2.2)).bind fun a=>if decide ((a.2.1.length:Int)>12) then (some ((0,[],[]),false)) else (some ((a.1,a.2.1,a.2.2),true))
def gZ (d:(List Yq1)):Option (Yq2×Bool):=
 (gK d).bind fun a=>if a.2 then ((gW (a.1.1,a.1.2.1,a.1.2.2.1,a.1.2.2.2.1,a.1.2.2.2.2) 200).bind fun b=>if b.2 then ((zP (b.1.1,b.1.2.1,b.1.2.2)).bind fun c=>some ((c.1.1,c.1.2.1,c.1.2.2),c.2)) else (some ((0,[],[]),false))) else (some ((0,[],[]),false))
def bP (c:List Yq2) (d:Yq2->Option Bool) (a:Int):Option (Out Int Int):=
 if decide (a<(c.length:Int)) then ((aT c a).bind fun b=>(d (b.1,b.2.1,b.2.2)).bind fun e=>if e then (some (.ret a)) else (some (.nxt (i64.wrap (a+1))))) else (some (.brk a))
def bc (a:List Yq2) (b:Yq2->Option Bool):Option Int:=
 aP (ay (bP a b) aW 0) (fun r=>some r) (fun c=>some (-1))
def lT (a:Int×(List Bool)×(List (List Int))) (q0:Int×(List Bool)×(List (List Int))):Option Bool:=
 (dS (q0.1,q0.2.1,q0.2.2) (a.1,a.2.1,a.2.2)).bind fun b=>some b
def ka (d:List Yq3) (a:Int×(List Yq2)×(List Yq3)):Option (Out (Yq8×Bool) OX):=
 if decide (a.1<(d.length:Int)) then ((aT d a.1).bind fun c=>(gZ c.2.1).bind fun b=>if b.2 then ((bY c.1 1 99).bind fun i=>if i then (if decide (a.1>0) then ((aT d (i64.wrap (a.1 - 1))).bind fun j=>if decide (j.1≥c.1) then (some (.ret (([],[]),false))) else ((bc a.2.1 (fun a0=>lT a0 (b.1.1,b.1.2.1,b.1.2.2))).bind fun g=>Option.bind ((if decide (g<0) then ((cd 56 a.2.1 ([(b.1.1,b.1.2.1,b.1.2.2)])).bind fun k=>some ((a.2.1.length:Int),k,a.2.2)) else (some (g,a.2.1,a.2.2)):Option OX)) (fun e=>(fQ c.2.1).bind fun l=>(cd 40 e.2.2 ([(c.1,l,e.1)])).bind fun m=>some (.nxt (i64.wrap (a.1+1),e.2.1,m))))) else ((bc a.2.1 (fun a0=>lT a0 (b.1.1,b.1.2.1,b.1.2.2))).bind fun h=>Option.bind ((if decide (h<0) then ((cd 56 a.2.1 ([(b.1.1,b.1.2.1,b.1.2.2)])).bind fun n=>some ((a.2.1.length:Int),n,a.2.2)) else (some (h,a.2.1,a.2.2)):Option OX)) (fun f=>(fQ c.2.1).bind fun o=>(cd 40 f.2.2 ([(c.1,o,f.1)])).bind fun p=>some (.nxt (i64.wrap (a.1+1),f.2.1,p))))) else (some (.ret (([],[]),false)))) else (some (.ret (([],[]),false)))) else (some (.brk (a.1,a.2.1,a.2.2)))
def sG (a:List Yq3):Option (Yq8×Bool):=
 aP (ay (ka a) aW (0,[],[])) (fun r=>some r) (fun b=>some ((b.2.1,b.2.2),decide ((a.length:Int)<=4)))
def ga (a:(List Yq2)×(List Yq3)):Option Bool:=
 (sG a.2).bind fun b=>if b.2 then ((fY (b.1.1,b.1.2) (a.1,a.2)).bind fun c=>some c) else (some false)
def bj (c:List Yq3) (d:Yq3->Option Bool) (a:Int):Option (Out Int Int):=
 if decide (a<(c.length:Int)) then ((aT c a).bind fun b=>(d (b.1,b.2.1,b.2.2)).bind fun e=>if e then (some (.ret a)) else (some (.nxt (i64.wrap (a+1))))) else (some (.brk a))
def bT (a:List Yq3) (b:Yq3->Option Bool):Option Int:=
 aP (ay (bj a b) aW 0) (fun r=>some r) (fun c=>some (-1))
def kd (a:Int×((List Yq1))×Int) (q0:Int):Option Bool:=
 some (a.1==q0)
def ke (a:(List Yq2)×(List Yq3)) (b:Int):Option Int:=
 (bT a.2 (fun a0=>kd a0 b)).bind fun c=>some c
def eT (a:ByteArray) (b:Int):Option Int:=R.wC a b
def l9 (a:Int):Option (ByteArray):=R.QL a
def df (a:Int):Option ByteArray:=
 (l9 a).bind fun b=>some b
def iW (a:Int×Int×Int×Int):Option ByteArray:=
 (fB (a.1,a.2.1,a.2.2.1,a.2.2.2) 5).bind fun b=>if b then ((df a.1).bind fun c=>(lh c (⟨#[58]⟩)).bind fun d=>(df a.2.1).bind fun e=>(lh d e).bind fun f=>(qT (⟨#[97,98,99]⟩) a.2.2.2 (i64.wrap (a.2.2.2+1))).bind fun g=>(lh f g).bind fun h=>(df a.2.2.1).bind fun i=>(lh h i).bind fun j=>some j) else (some ((⟨#[]⟩:ByteArray)))
def jj (a:List ByteArray) (b:ByteArray):Option (ByteArray):=R.QK a b
def eU (d:List Yq4) (a:(List ByteArray)×Int):Option (Out ByteArray ((List ByteArray)×Int)):=
 if decide (a.2<(d.length:Int)) then (l7 (S:=List ByteArray) ((aT d a.2).bind fun b=>(iW (b.2.1,b.2.2.1,b.2.2.2.1,b.2.2.2.2)).bind fun c=>if c==((⟨#[]⟩:ByteArray)) then (some (.inl (.ret ((⟨#[]⟩:ByteArray))))) else (if b.1 then ((lh (⟨#[43]⟩) c).bind fun e=>(cd 16 a.1 ([e])).bind fun f=>some (.inr f)) else ((lh (⟨#[45]⟩) c).bind fun g=>(cd 16 a.1 ([g])).bind fun h=>some (.inr h)))) (fun i=>some (.nxt (i,i64.wrap (a.2+1))))) else (some (.brk (a.1,a.2)))
def eu (a:List Yq4):Option ByteArray:=
 if decide ((a.length:Int)>6) then (some ((⟨#[]⟩:ByteArray))) else (aP (ay (eU a) aW (([] :List ByteArray),0)) (fun b=>some b) (fun c=>(jj c.1 (⟨#[32]⟩)).bind fun d=>some d))
def nj (b:ByteArray) (a:Int×Int):Option Jd:=
 if decide (a.2<((b.size:Nat):Int)) then ((jB b a.2).bind fun c=>some (.nxt (Int.tmod (i64.wrap ((i64.wrap ((i64.wrap (257*a.1))+(i64.wrap c)))+1)) 9973,i64.wrap (a.2+1)))) else (some (.brk (a.1,a.2)))
def jJ (a:ByteArray):Option Int:=
 aP (ay (nj a) aW (1,0)) (fun b=>some b) (fun c=>some c.1)
def eM (a:Int) (c:List Yq4):Option ByteArray:=
 (eu c).bind fun b=>(bY a 1 999).bind fun f=>if f then (if b==((⟨#[]⟩:ByteArray)) then (if decide ((c.length:Int)>0) then (some ((⟨#[]⟩:ByteArray))) else ((df a).bind fun g=>(lh g (⟨#[59]⟩)).bind fun h=>(lh h b).bind fun i=>(lh i (⟨#[59]⟩)).bind fun d=>(jJ d).bind fun j=>(df j).bind fun k=>(lh d k).bind fun l=>(lh l (⟨#[10]⟩)).bind fun m=>some m)) else ((df a).bind fun n=>(lh n (⟨#[59]⟩)).bind fun o=>(lh o b).bind fun p=>(lh p (⟨#[59]⟩)).bind fun e=>(jJ e).bind fun q=>(df q).bind fun r=>(lh e r).bind fun s=>(lh s (⟨#[10]⟩)).bind fun t=>some t)) else (some ((⟨#[]⟩:ByteArray)))
def cG (p0 p1:ByteArray):Option (List ByteArray):=R.I9 p0 p1
def fR (a:ByteArray):Option (Int×Bool):=R.rr a
def cQ (p0 p1:ByteArray):Option (ByteArray×ByteArray×Bool):=R.Wv p0 p1
def gb (b:ByteArray):Option (Yq1×Bool):=
 (cQ b (⟨#[58]⟩)).bind fun a=>if ((a.2.1.size:Nat):Int) !=3 then (some ((0,0,0,0),false)) else ((jB a.2.1 0).bind fun c=>(jB a.2.1 1).bind fun d=>(jB a.2.1 2).bind fun e=>(fR a.1).bind fun f=>(iW (f.1,i64.wrap ((i64.wrap c) - 48),i64.wrap ((i64.wrap e) - 48),i64.wrap ((i64.wrap d) - 97))).bind fun g=>if g !=b then (some ((0,0,0,0),false)) else (some ((f.1,i64.wrap ((i64.wrap c) - 48),i64.wrap ((i64.wrap e) - 48),i64.wrap ((i64.wrap d) - 97)),true)))
def cH (d:List ByteArray) (a:Int×List Yq4):Option (Out ((List Yq4)×Bool) (Int×List Yq4)):=
 if decide (a.1<(d.length:Int)) then ((aT d a.1).bind fun c=>if c==((⟨#[]⟩:ByteArray)) then (some (.ret (([] :List Yq4),false))) else ((qT c 1 ((c.size:Nat):Int)).bind fun e=>(gb e).bind fun b=>if b.2 then ((jB c 0).bind fun f=>(cd 40 a.2 ([(f==43,b.1.1,b.1.2.1,b.1.2.2.1,b.1.2.2.2)])).bind fun g=>some (.nxt (i64.wrap (a.1+1),g))) else (some (.ret (([] :List Yq4),false))))) else (some (.brk (a.1,a.2)))
def dN (a:ByteArray):Option ((List Yq4)×Bool):=
 if a==((⟨#[]⟩:ByteArray)) then (some (([] :List Yq4),true)) else ((cG a (⟨#[32]⟩)).bind fun c=>aP (ay (cH c) aW (0,([] :List Yq4))) (fun d=>some d) (fun b=>(eu b.2).bind fun e=>if e !=a then (some (([] :List Yq4),false)) else (some (b.2,true))))
def jk (d:ByteArray):Option (Int×(List Yq4)×Bool):=
 (cG d (⟨#[59]⟩)).bind fun a=>if (a.length:Int) !=3 then (some (0,([] :List Yq4),false)) else ((aT a 0).bind fun e=>(fR e).bind fun b=>(aT a 1).bind fun f=>(dN f).bind fun c=>if b.2 then (if c.2 then ((eM b.1 c.1).bind fun g=>if g !=d then (some (0,([] :List Yq4),false)) else (some (b.1,c.1,true))) else (some (0,([] :List Yq4),false))) else (some (0,([] :List Yq4),false)))
def cx (c:ByteArray) (a:(List Int)×(List (List Yq4))×Int):Option (Out ((List Int)×(List (List Yq4))×Int) ((List Int)×(List (List Yq4))×Int)):=
 if decide (((c.size:Nat):Int)<=4000) then ((qT c a.2.2 ((c.size:Nat):Int)).bind fun e=>(eT e 10).bind fun d=>if decide (d<0) then (some (.brk (a.1,a.2.1,a.2.2))) else ((qT c a.2.2 (i64.wrap ((i64.wrap (a.2.2+d))+1))).bind fun f=>(jk f).bind fun b=>if b.2.2 then (if decide ((a.1.length:Int)>0) then ((aT a.1 (i64.wrap ((a.1.length:Int) - 1))).bind fun g=>if b.1 !=(i64.wrap (g+1)) then (some (.brk (a.1,a.2.1,a.2.2))) else ((cd 8 a.1 ([b.1])).bind fun h=>(cd 24 a.2.1 ([b.2.1])).bind fun i=>some (.nxt (h,i,i64.wrap (a.2.2+(i64.wrap (d+1))))))) else ((cd 8 a.1 ([b.1])).bind fun j=>(cd 24 a.2.1 ([b.2.1])).bind fun k=>some (.nxt (j,k,i64.wrap (a.2.2+(i64.wrap (d+1))))))) else (some (.brk (a.1,a.2.1,a.2.2))))) else (some (.brk (a.1,a.2.1,a.2.2)))
def m_i_ScanLog (b:ByteArray):Option ((List Int)×(List (List Yq4))×Int):=
 aP (ay (cx b) aW (([] :List Int),([] :List (List Yq4)),0)) (fun c=>some c) (fun a=>some (a.1,a.2.1,a.2.2))
def cm (a:yG×Yq8×Yq7×ByteArray) (d:Int) (b:Int):Option (Out Bool Int):=
 if decide (b<(a.2.2.1.length:Int)) then ((aT a.2.2.1 b).bind fun c=>(bY c.1 1 99).bind fun e=>if e then (if decide (b>0) then ((aT a.2.2.1 (i64.wrap (b - 1))).bind fun f=>if decide (f.1≥c.1) then (some (.ret false)) else ((ke (a.2.1.1,a.2.1.2) c.2.1).bind fun g=>if decide (g<0) then (some (.ret false)) else ((bY c.2.2 0 d).bind fun h=>if h then (some (.nxt (i64.wrap (b+1)))) else (some (.ret false))))) else ((ke (a.2.1.1,a.2.1.2) c.2.1).bind fun i=>if decide (i<0) then (some (.ret false)) else ((bY c.2.2 0 d).bind fun j=>if j then (some (.nxt (i64.wrap (b+1)))) else (some (.ret false))))) else (some (.ret false))) else (some (.brk b))
def dU (a:yG×Yq8×Yq7×ByteArray):Option Bool:=
 (m_i_IsValidHistory (a.1.1,a.1.2)).bind fun d=>if d then ((ga (a.2.1.1,a.2.1.2)).bind fun e=>if e then (if decide ((a.2.2.1.length:Int)>4) then (some false) else (if decide ((a.2.2.2.size:Int)>4000) then (some false) else ((bH (a.1.1,a.1.2)).bind fun c=>aP (ay (cm a c) aW 0) (fun r=>some r) (fun g=>(m_i_ScanLog a.2.2.2).bind fun b=>if b.2.2==(a.2.2.2.size:Int) then (if (b.1.length:Int)==0 then (some true) else ((aT b.1 (i64.wrap ((b.1.length:Int) - 1))).bind fun f=>some (f==c))) else (some false))))) else (some false)) else (some false)
def lU (a:List Int):Option (List Int):=
 (cd 8 ([] :List Int) a).bind fun b=>some b
def dL (a:(List Int)×(List Yq1)):Option Yq5:=
 (lU a.1).bind fun b=>(cd 32 ([] :List Yq1) a.2).bind fun c=>some (b,c)
def eV (b:Int×(List Yq5)) (a:Int×Int×(List Yq5)):Option (Out yG (Int×Int×(List Yq5))):=
 if decide (a.1<(b.2.length:Int)) then ((aT b.2 a.1).bind fun c=>(dL (c.1,c.2)).bind fun d=>(cd 48 a.2.2 ([(d.1,d.2)])).bind fun e=>some (.nxt (i64.wrap (a.1+1),a.2.1,e))) else (some (.brk (a.1,a.2.1,a.2.2)))
def hH (a:Int×(List Yq5)):Option yG:=
 aP (ay (eV a) aW (0,a.1,[])) (fun r=>some r) (fun b=>some (b.2.1,b.2.2))
def dI (b:Int×(List Bool)×(List (List Int))) (a:Int×Int×(List Bool)×(List (List Int))):Option (Out Yq2 (Int×Int×(List Bool)×(List (List Int)))):=
 if decide (a.1<(b.2.2.length:Int)) then ((aT b.2.2 a.1).bind fun c=>(lU c).bind fun d=>(cd 24 a.2.2.2 ([d])).bind fun e=>some (.nxt (i64.wrap (a.1+1),a.2.1,a.2.2.1,e))) else (some (.brk (a.1,a.2.1,a.2.2.1,a.2.2.2)))
def iF (a:Int×(List Bool)×(List (List Int))):Option Yq2:=
 (cd 1 ([] :List Bool) a.2.1).bind fun c=>aP (ay (dI a) aW (0,a.1,c,[])) (fun r=>some r) (fun b=>some (b.2.1,b.2.2.1,b.2.2.2))
def ez (d:(List Yq2)×(List Yq3)) (a:Int×(List Yq2)×(List Yq3)):Option (Out Yq8 OX):=
 if decide (a.1<(d.1.length:Int)) then ((aT d.1 a.1).bind fun b=>(iF (b.1,b.2.1,b.2.2)).bind fun c=>(cd 56 a.2.1 ([(c.1,c.2.1,c.2.2)])).bind fun e=>some (.nxt (i64.wrap (a.1+1),e,a.2.2))) else (some (.brk (a.1,a.2.1,a.2.2)))
def eA (c:(List Yq2)×(List Yq3)) (a:Int×(List Yq2)×(List Yq3)):Option (Out Yq8 OX):=
 if decide (a.1<(c.2.length:Int)) then ((aT c.2 a.1).bind fun b=>(fQ b.2.1).bind fun d=>(cd 40 a.2.2 ([(b.1,d,b.2.2)])).bind fun e=>some (.nxt (i64.wrap (a.1+1),a.2.1,e))) else (some (.brk (a.1,a.2.1,a.2.2)))
def jl (a:(List Yq2)×(List Yq3)):Option Yq8:=
 aP (ay (ez a) aW (0,[],[])) (fun r=>some r) (fun b=>aP (ay (eA a) aW (0,b.2.1,b.2.2)) (fun r=>some r) (fun c=>some (c.2.1,c.2.2)))
def iX (a:yG×Yq8×Yq7×ByteArray):Option (yG×Yq8×Yq7×ByteArray):=
 (hH (a.1.1,a.1.2)).bind fun b=>(jl (a.2.1.1,a.2.1.2)).bind fun c=>(cd 24 ([] :List (Int×Int×Int)) a.2.2.1).bind fun d=>some ((b.1,b.2),(c.1,c.2),d,a.2.2.2)
def eB (a:Yq9×Yq6×Yq7×ByteArray):Option (Int×Yq9×Yq6×Yq7×ByteArray):=
 (bH (a.1.1,a.1.2)).bind fun b=>some (b,(a.1.1,a.1.2),(a.2.1.1,a.2.1.2),a.2.2.1,a.2.2.2)
def eC (c:List Yq1) (d:Yq1->Option Bool) (a:Int):Option (Out Int Int):=
 if decide (a<(c.length:Int)) then ((aT c a).bind fun b=>(d (b.1,b.2.1,b.2.2.1,b.2.2.2)).bind fun e=>if e then (some (.ret a)) else (some (.nxt (i64.wrap (a+1))))) else (some (.brk a))
def cX (a:List Yq1) (b:Yq1->Option Bool):Option Int:=
 aP (ay (eC a b) aW 0) (fun r=>some r) (fun c=>some (-1))
def nk (a:Int×Int×Int×Int) (q0:Int):Option Bool:=
 some (a.1==q0)
def kg (a:(List Int)×(List Yq1)) (b:Int):Option Int:=
 (cX a.2 (fun a0=>nk a0 b)).bind fun c=>some c
def cA (a:List Yq1) (b:Int) (c:List Yq1):Option ((List Yq1)×(List Yq1)):=R.UN 32 a b c
def o7 (c:Int×Int×Int×Int) (b:(List Int)×List Yq1) (a:Int):Option (Out (((List Int)×List Yq1)×Bool) Int):=
 if decide (a<(b.2.length:Int)) then ((aT b.2 a).bind fun d=>if decide (d.1<c.1) then (some (.nxt (i64.wrap (a+1)))) else (some (.brk a))) else (some (.brk a))
def lq (c:(List Int)×List Yq1) (b:Int×Int×Int×Int):Option (((List Int)×List Yq1)×Bool):=
 (dL (c.1,c.2)).bind fun a=>(bG (c.1,c.2)).bind fun d=>if d then ((fB (b.1,b.2.1,b.2.2.1,b.2.2.2) (c.1.length:Int)).bind fun e=>if e then ((kg (c.1,c.2) b.1).bind fun f=>if decide (f≥0) then (some ((a.1,a.2),false)) else (if (c.2.length:Int)==12 then (some ((a.1,a.2),false)) else (aP (ay (o7 b a) aW 0) (fun g=>some g) (fun h=>(cA a.2 h ([(b.1,b.2.1,b.2.2.1,b.2.2.2)])).bind fun i=>some ((a.1,i.1),true))))) else (some ((a.1,a.2),false))) else (some ((a.1,a.2),false))
def bu (d:List Yq1) (b:Int×Int×Int×Int) (a:Int):Option (Out Int Int):=
 if decide (a<(d.length:Int)) then ((aT d a).bind fun c=>if ((b.1==c.1)&&((b.2.1==c.2.1)&&((b.2.2.1==c.2.2.1)&&((b.2.2.2==c.2.2.2)&&true)))) then (some (.ret a)) else (some (.nxt (i64.wrap (a+1))))) else (some (.brk a))
def dM (a:List Yq1) (b:Int×Int×Int×Int):Option Int:=
 aP (ay (bu a b) aW 0) (fun r=>some r) (fun c=>some (-1))
def b7 (b:List Yq1) (a:Int×Int×Int×Int):Option Bool:=
 (dM b (a.1,a.2.1,a.2.2.1,a.2.2.2)).bind fun c=>some (decide (c≥0))
def cB (a:List Yq1) (p1 p2:Int):Option (List Yq1):=R.Xt a p1 p2
def lr (a:(List Int)×List Yq1) (d:Int):Option (((List Int)×List Yq1)×Bool):=
 (dL (a.1,a.2)).bind fun b=>(kg (a.1,a.2) d).bind fun c=>if decide (c<0) then (some ((b.1,b.2),false)) else ((bG (a.1,a.2)).bind fun e=>if e then ((cB b.2 c (i64.wrap (c+1))).bind fun f=>some ((b.1,f),true)) else (some ((b.1,b.2),false)))
def bV (f:(List Int)×(List Yq1)) (g:(List (Bool×Yq1))) (a:Int×(List Int)×(List Yq1)):Option (Out (Yq5×Bool) (Int×(List Int)×(List Yq1))):=
 if decide (a.1<(g.length:Int)) then ((aT g a.1).bind fun b=>Option.bind ((if b.1 then ((lq (a.2.1,a.2.2) (b.2.1,b.2.2.1,b.2.2.2.1,b.2.2.2.2)).bind fun c=>some (c.2,c.1.1,c.1.2)) else ((b7 a.2.2 (b.2.1,b.2.2.1,b.2.2.2.1,b.2.2.2.2)).bind fun i=>if i then ((lr (a.2.1,a.2.2) b.2.1).bind fun d=>some (d.2,d.1.1,d.1.2)) else (some (false,a.2.1,a.2.2))):Option (Bool×(List Int)×(List Yq1)))) (fun e=>if e.1 then (some (.nxt (i64.wrap (a.1+1),e.2.1,e.2.2))) else ((dL (f.1,f.2)).bind fun h=>some (.ret ((h.1,h.2),false))))) else (some (.brk (a.1,a.2.1,a.2.2)))
def iY (b:(List Int)×(List Yq1)) (c:(List (Bool×Yq1))):Option (Yq5×Bool):=
 (dL (b.1,b.2)).bind fun a=>(bG (b.1,b.2)).bind fun e=>if e then (if decide ((c.length:Int)>6) then (some ((a.1,a.2),false)) else (aP (ay (bV b c) aW (0,a.1,a.2)) (fun r=>some r) (fun d=>some ((d.2.1,d.2.2),true)))) else (some ((a.1,a.2),false))
def hO (b:Int×List ((List Int)×List Yq1)) (h:List Yq4):Option (Yq9×Bool):=
 (hH (b.1,b.2)).bind fun a=>(bH (b.1,b.2)).bind fun e=>if e==0 then (some ((a.1,a.2),false)) else (if e==999 then (some ((a.1,a.2),false)) else ((aT b.2 (i64.wrap ((b.2.length:Int) - 1))).bind fun f=>(iY (f.1,f.2) h).bind fun d=>if d.2 then ((cd 48 a.2 ([(d.1.1,d.1.2)])).bind fun c=>Option.bind ((if decide ((c.length:Int)>8) then ((chk (And ((0:Int)<=1) (1<=(c.length:Int)))).bind fun _=>some (i64.wrap (a.1+1),c.drop 1)) else (some (a.1,c)):Option Yq9)) (fun g=>some ((g.1,g.2),true))) else (some ((a.1,a.2),false))))
def hY (b:Yq9×Yq6×Yq7×ByteArray) (d:List Yq4):Option ((Yq9×Yq6×Yq7×ByteArray)×Bool):=
 (iX ((b.1.1,b.1.2),(b.2.1.1,b.2.1.2),b.2.2.1,b.2.2.2)).bind fun a=>(dU ((b.1.1,b.1.2),(b.2.1.1,b.2.1.2),b.2.2.1,b.2.2.2)).bind fun f=>if f then ((hO (b.1.1,b.1.2) d).bind fun c=>if c.2 then ((bH (c.1.1,c.1.2)).bind fun g=>(eM g d).bind fun h=>(lh b.2.2.2 h).bind fun e=>if decide (((e.size:Nat):Int)>4000) then (some (((a.1.1,a.1.2),(a.2.1.1,a.2.1.2),a.2.2.1,a.2.2.2),false)) else (some (((c.1.1,c.1.2),(a.2.1.1,a.2.1.2),a.2.2.1,e),true))) else (some (((a.1.1,a.1.2),(a.2.1.1,a.2.1.2),a.2.2.1,a.2.2.2),false))) else (some (((a.1.1,a.1.2),(a.2.1.1,a.2.1.2),a.2.2.1,a.2.2.2),false))
def gf (c:List Yq4) (b:Yq9×Yq6×Yq7×ByteArray):Option (Bool×Yq9×Yq6×Yq7×ByteArray):=
 (hY ((b.1.1,b.1.2),(b.2.1.1,b.2.1.2),b.2.2.1,b.2.2.2) c).bind fun a=>some (a.2,(a.1.1.1,a.1.1.2),(a.1.2.1.1,a.1.2.1.2),a.1.2.2.1,a.1.2.2.2)
def b8 (f:(List Int)×(List (List Yq4))×Int) (a:Int×Int×(List (List Yq4))×Int×(List ((List Int)×List Yq1))×(List (Int×(List Bool)×List (List Int)))×(List (Int×(List Yq1)×Int))×Yq7×ByteArray):Option (Out (Int×Yq9×Yq6×Yq7×ByteArray) YZ):=
 if decide (a.2.1<(f.1.length:Int)) then (l7 (S:=Int×(List (List Yq4))×Int×(List ((List Int)×List Yq1))×(List (Int×(List Bool)×List (List Int)))×(List (Int×(List Yq1)×Int))×Yq7×ByteArray) ((aT f.1 a.2.1).bind fun g=>(eB ((a.2.2.2.1,a.2.2.2.2.1),(a.2.2.2.2.2.1,a.2.2.2.2.2.2.1),a.2.2.2.2.2.2.2.1,a.2.2.2.2.2.2.2.2)).bind fun b=>if decide (g<=b.1) then (some (.inr (a.1,a.2.2.1,b.2.1.1,b.2.1.2,b.2.2.1.1,b.2.2.1.2,b.2.2.2.1,b.2.2.2.2))) else ((eB ((b.2.1.1,b.2.1.2),(b.2.2.1.1,b.2.2.1.2),b.2.2.2.1,b.2.2.2.2)).bind fun c=>if g !=(i64.wrap (c.1+1)) then (some (.inl (.brk (a.1,a.2.1,a.2.2.1,c.2.1.1,c.2.1.2,c.2.2.1.1,c.2.2.1.2,c.2.2.2.1,c.2.2.2.2)))) else ((aT a.2.2.1 a.2.1).bind fun h=>(gf h ((c.2.1.1,c.2.1.2),(c.2.2.1.1,c.2.2.1.2),c.2.2.2.1,c.2.2.2.2)).bind fun d=>if d.1 then (some (.inr (i64.wrap (a.1+1),a.2.2.1,d.2.1.1,d.2.1.2,d.2.2.1.1,d.2.2.1.2,d.2.2.2.1,d.2.2.2.2))) else (some (.inl (.brk (a.1,a.2.1,a.2.2.1,d.2.1.1,d.2.1.2,d.2.2.1.1,d.2.2.1.2,d.2.2.2.1,d.2.2.2.2))))))) (fun e=>some (.nxt (e.1,i64.wrap (a.2.1+1),e.2.1,e.2.2.1,e.2.2.2.1,e.2.2.2.2.1,e.2.2.2.2.2.1,e.2.2.2.2.2.2.1,e.2.2.2.2.2.2.2)))) else (some (.brk (a.1,a.2.1,a.2.2.1,a.2.2.2.1,a.2.2.2.2.1,a.2.2.2.2.2.1,a.2.2.2.2.2.2.1,a.2.2.2.2.2.2.2.1,a.2.2.2.2.2.2.2.2)))
def wE (d:ByteArray) (b:Yq9×Yq6×Yq7×ByteArray) (f:Unit):Option (Int×Yq9×Yq6×Yq7×ByteArray):=
 (m_i_ScanLog d).bind fun c=>aP (ay (b8 c) aW (0,0,c.2.1,b.1.1,b.1.2,b.2.1.1,b.2.1.2,b.2.2.1,b.2.2.2)) (fun e=>some e) (fun a=>some (a.1,(a.2.2.2.1,a.2.2.2.2.1),(a.2.2.2.2.2.1,a.2.2.2.2.2.2.1),a.2.2.2.2.2.2.2.1,a.2.2.2.2.2.2.2.2))
def iG (a:Yq9×Yq6×Yq7×ByteArray) (d:ByteArray):Option ((Yq9×Yq6×Yq7×ByteArray)×Int):=
 (iX ((a.1.1,a.1.2),(a.2.1.1,a.2.1.2),a.2.2.1,a.2.2.2)).bind fun b=>(dU ((a.1.1,a.1.2),(a.2.1.1,a.2.1.2),a.2.2.1,a.2.2.2)).bind fun e=>if e then ((wE d ((b.1.1,b.1.2),(b.2.1.1,b.2.1.2),b.2.2.1,b.2.2.2) ()).bind fun c=>some (((c.2.1.1,c.2.1.2),(c.2.2.1.1,c.2.2.1.2),c.2.2.2.1,c.2.2.2.2),c.1)) else (some (((b.1.1,b.1.2),(b.2.1.1,b.2.1.2),b.2.2.1,b.2.2.2),0))
def cR (a:Int) (b:Int) (c:Int):Option Bool:=
 if decide (a≥b) then (some (decide (a<=c))) else (some false)
def o8 (b:(List Int)×(List Yq1)) (a:Int×Int×Int×Int):Option Bool:=
 (cR a.1 1 99).bind fun c=>if c then ((cR a.2.1 0 (i64.wrap ((b.1.length:Int) - 1))).bind fun d=>if d then ((cR a.2.2.1 0 (i64.wrap ((b.1.length:Int) - 1))).bind fun e=>if e then ((cR a.2.2.2 0 2).bind fun f=>some f) else (some false)) else (some false)) else (some false)
def nl (b:(List Int)×(List Yq1)) (a:Int):Option (Out Bool Int):=
 if decide (a<(b.1.length:Int)) then ((aT b.1 a).bind fun c=>(cR c 0 2).bind fun d=>if d then (some (.nxt (i64.wrap (a+1)))) else (some (.ret false))) else (some (.brk a))
def jC (b:(List Int)×(List Yq1)) (a:Int):Option (Out Bool Int):=
 if decide (a<(b.2.length:Int)) then ((aT b.2 a).bind fun c=>(o8 (b.1,b.2) (c.1,c.2.1,c.2.2.1,c.2.2.2)).bind fun d=>if d then (if decide (a>0) then ((aT b.2 (i64.wrap (a - 1))).bind fun e=>(aT b.2 a).bind fun f=>if decide (e.1≥f.1) then (some (.ret false)) else (some (.nxt (i64.wrap (a+1))))) else (some (.nxt (i64.wrap (a+1))))) else (some (.ret false))) else (some (.brk a))
def cV (a:(List Int)×(List Yq1)):Option Bool:=
 aP (ay (nl a) aW 0) (fun r=>some r) (fun c=>aP (ay (jC a) aW 0) (fun r=>some r) (fun d=>(cR (a.1.length:Int) 1 5).bind fun b=>if b then (some (decide ((a.2.length:Int)<=12))) else (some false)))
def oj (b:List Int) (c:List Int) (a:Int):Option (Out Int Int):=
 if decide (a<(b.length:Int)) then (if decide (a<(c.length:Int)) then ((aT b a).bind fun d=>(aT c a).bind fun e=>if decide (d<e) then (some (.ret (-1))) else ((aT b a).bind fun f=>(aT c a).bind fun g=>if decide (f>g) then (some (.ret 1)) else (some (.nxt (i64.wrap (a+1)))))) else (some (.brk a))) else (some (.brk a))
def np (a:List Int) (b:List Int):Option Int:=
 aP (ay (oj a b) aW 0) (fun r=>some r) (fun c=>if decide ((a.length:Int)<(b.length:Int)) then (some (-1)) else (if decide ((a.length:Int)>(b.length:Int)) then (some 1) else (some 0)))
def eW (b:Int×(List Yq5)) (a:Int):Option (Out Bool Int):=
 if decide (a<(b.2.length:Int)) then ((aT b.2 a).bind fun c=>(cV (c.1,c.2)).bind fun d=>if d then ((aT b.2 a).bind fun e=>(aT b.2 0).bind fun f=>(np e.1 f.1).bind fun g=>if g !=0 then (some (.ret false)) else (some (.nxt (i64.wrap (a+1))))) else (some (.ret false))) else (some (.brk a))
def m_s_IsValidHistory (a:Int×(List Yq5)):Option Bool:=
 aP (ay (eW a) aW 0) (fun r=>some r) (fun d=>(cR (a.2.length:Int) 1 8).bind fun b=>if b then ((cR a.1 1 (i64.wrap ((i64.wrap (999 - (a.2.length:Int)))+1))).bind fun c=>some c) else (some false))
def gG (a:List Yq1):Option (List Yq1):=
 (cd 32 ([] :List Yq1) a).bind fun b=>some b
def lV (a:Int):Option Bool:=
 (cR a 0 8).bind fun b=>some b
def nr (a:Int×Int×Int×Int):Option Int:=
 Option.bind ((if a.1==1 then (some (a.1==1)) else (some (a.1==2)):Option Bool)) (fun b=>if b then (if a.2.1 !=0 then (some (-1)) else (if a.2.2.1 !=0 then (some (-1)) else (if a.2.2.2 !=0 then (some (-1)) else (some 0)))) else (if a.1==3 then ((lV a.2.1).bind fun c=>if c then (if a.2.2.1 !=0 then (some (-1)) else (if a.2.2.2 !=0 then (some (-1)) else (some 0))) else (some (-1))) else (Option.bind ((if a.1==4 then (some (a.1==4)) else (some (a.1==5)):Option Bool)) (fun d=>if d then (if a.2.1 !=0 then (some (-1)) else (if a.2.2.1 !=0 then (some (-1)) else (if a.2.2.2 !=0 then (some (-1)) else (some 2)))) else (if a.1==6 then (if a.2.1 !=0 then (some (-1)) else (if a.2.2.1 !=0 then (some (-1)) else (if a.2.2.2 !=0 then (some (-1)) else (some 1)))) else (if a.1==7 then (if a.2.1 !=0 then (some (-1)) else ((cR a.2.2.2 1 3).bind fun e=>if e then ((cR a.2.2.1 0 a.2.2.2).bind fun f=>if f then (some 1) else (some (-1))) else (some (-1)))) else (some (-1))))))))
def pU (d:(List Yq1)) (a:Int×Int):Option (Out Bool (Int×Int)):=
 if decide (a.2<(d.length:Int)) then ((aT d a.2).bind fun b=>(nr (b.1,b.2.1,b.2.2.1,b.2.2.2)).bind fun c=>if decide (c<0) then (some (.ret false)) else (if decide (c>a.1) then (some (.ret false)) else (some (.nxt (i64.wrap ((i64.wrap (a.1 - c))+1),i64.wrap (a.2+1)))))) else (some (.brk (a.1,a.2)))
def sH (a:(List Yq1)):Option Bool:=
 aP (ay (pU a) aW (0,0)) (fun r=>some r) (fun b=>some (b.1==1))
def kh (a:(List Yq1)):Option Bool:=
 if decide ((a.length:Int)<=24) then ((sH a).bind fun b=>some b) else (some false)
def lu (c:List Yq1) (a:Int×Int):Option Jd:=
 if decide (a.1>0) then ((aT c (i64.wrap (a.2 - 1))).bind fun b=>(nr (b.1,b.2.1,b.2.2.1,b.2.2.2)).bind fun d=>some (.nxt (i64.wrap ((i64.wrap (a.1 - 1))+d),i64.wrap (a.2 - 1)))) else (some (.brk (a.1,a.2)))
def hZ (a:List Yq1):Option Int:=
 aP (ay (lu a) aW (1,(a.length:Int))) (fun r=>some r) (fun b=>some b.2)
def eD:Nat->(List Yq1)->Option Int
 | 0,_=>none
 | n+1,p0l =>
  (aT p0l (i64.wrap ((p0l.length:Int) - 1))).bind fun a=>Option.bind ((if a.1==4 then (some (a.1==4)) else (some (a.1==5)):Option Bool)) (fun c=>if c then ((chk (And (0<=(i64.wrap ((p0l.length:Int) - 1))) ((i64.wrap ((p0l.length:Int) - 1))<=(p0l.length:Int)))).bind fun _=>(hZ (p0l.take ((i64.wrap ((p0l.length:Int) - 1)).toNat))).bind fun b=>(chk (And (0<=b) (b<=(p0l.length:Int)))).bind fun _=>((eD n) (p0l.take b.toNat)).bind fun d=>(chk (And (0<=b) (And (b<=(i64.wrap ((p0l.length:Int) - 1))) ((i64.wrap ((p0l.length:Int) - 1))<=(p0l.length:Int))))).bind fun _=>((eD n) ((p0l.take ((i64.wrap ((p0l.length:Int) - 1)).toNat)).drop b.toNat)).bind fun e=>some (Min.min 100000 (i64.wrap ((i64.wrap (d+e))+1)))) else (if a.1==6 then ((chk (And (0<=(i64.wrap ((p0l.length:Int) - 1))) ((i64.wrap ((p0l.length:Int) - 1))<=(p0l.length:Int)))).bind fun _=>((eD n) (p0l.take ((i64.wrap ((p0l.length:Int) - 1)).toNat))).bind fun f=>some (Min.min 100000 (i64.wrap (f+1)))) else (if a.1==7 then ((chk (And (0<=(i64.wrap ((p0l.length:Int) - 1))) ((i64.wrap ((p0l.length:Int) - 1))<=(p0l.length:Int)))).bind fun _=>((eD n) (p0l.take ((i64.wrap ((p0l.length:Int) - 1)).toNat))).bind fun g=>some (Min.min 100000 (i64.wrap ((i64.wrap ((i64.wrap (g+3))*a.2.2.2))+1)))) else (some 1))))
def kP (b:(List Yq1)) (c:(List Yq1)) (a:Int×Int×Int×Int):Option (List Yq1):=
 (gG b).bind fun d=>(cd 32 d c).bind fun e=>(cd 32 e ([(a.1,a.2.1,a.2.2.1,a.2.2.2)])).bind fun f=>some f
def o9 (a:Int):Option (List Yq1):=
 some ([(a,0,0,0)])
def jK:Nat->(List Yq1)->Int->Int->Option (List Yq1)
 | 0,_,_,_=>none
 | n+1,p0e,p1low,p2high =>
  if p2high==0 then ((o9 2).bind fun b=>some b) else (((jK n) p0e (Max.max 0 (i64.wrap (p1low - 1))) (i64.wrap (p2high - 1))).bind fun c=>(kP p0e c (4,0,0,0)).bind fun a=>if decide (p1low>0) then (some a) else ((o9 2).bind fun d=>(kP a d (5,0,0,0)).bind fun e=>some e))
def cS:Nat->(List Yq1)->Option (List Yq1)
 | 0,_=>none
 | n+1,p0l =>
  (aT p0l (i64.wrap ((p0l.length:Int) - 1))).bind fun a=>Option.bind ((if a.1==4 then (some (a.1==4)) else (some (a.1==5)):Option Bool)) (fun c=>if c then ((chk (And (0<=(i64.wrap ((p0l.length:Int) - 1))) ((i64.wrap ((p0l.length:Int) - 1))<=(p0l.length:Int)))).bind fun _=>(hZ (p0l.take ((i64.wrap ((p0l.length:Int) - 1)).toNat))).bind fun b=>(chk (And (0<=b) (b<=(p0l.length:Int)))).bind fun _=>((cS n) (p0l.take b.toNat)).bind fun d=>(chk (And (0<=b) (And (b<=(i64.wrap ((p0l.length:Int) - 1))) ((i64.wrap ((p0l.length:Int) - 1))<=(p0l.length:Int))))).bind fun _=>((cS n) ((p0l.take ((i64.wrap ((p0l.length:Int) - 1)).toNat)).drop b.toNat)).bind fun e=>(kP d e (a.1,a.2.1,a.2.2.1,a.2.2.2)).bind fun f=>some f) else (if a.1==6 then ((chk (And (0<=(i64.wrap ((p0l.length:Int) - 1))) ((i64.wrap ((p0l.length:Int) - 1))<=(p0l.length:Int)))).bind fun _=>((cS n) (p0l.take ((i64.wrap ((p0l.length:Int) - 1)).toNat))).bind fun g=>(kP g ([] :List Yq1) (a.1,a.2.1,a.2.2.1,a.2.2.2)).bind fun h=>some h) else (if a.1==7 then ((chk (And (0<=(i64.wrap ((p0l.length:Int) - 1))) ((i64.wrap ((p0l.length:Int) - 1))<=(p0l.length:Int)))).bind fun _=>((cS n) (p0l.take ((i64.wrap ((p0l.length:Int) - 1)).toNat))).bind fun i=>(jK gr i a.2.2.1 a.2.2.2).bind fun j=>some j) else (some ([(a.1,a.2.1,a.2.2.1,a.2.2.2)])))))
def lx (a:(List Yq1)):Option (((List Yq1))×Bool):=
 (kh a).bind fun c=>if c then ((eD gr a).bind fun d=>if decide (d>5000) then (some ([],false)) else ((cS gr a).bind fun b=>if decide ((b.length:Int)>400) then (some ([],false)) else (some (b,true)))) else (some ([],false))
def iZ (b:Int) (c:Int) (a:Int×List Int):Option (Out OW (Int×List Int)):=
 if decide (a.1<(a.2.length:Int)) then (Option.bind (((chk (0<=a.1)).bind fun _=>if (yS (th b a.1) 1)==1 then ((aT a.2 a.1).bind fun d=>(aT a.2 a.1).bind fun f=>some (a.2.set a.1.toNat (orI d c))) else (some a.2):Option (List Int))) (fun e=>some (.nxt (i64.wrap (a.1+1),e)))) else (some (.brk (a.1,a.2)))
def nt (a:(List Int)×Int×Int×(List Int)×Bool) (b:Int) (c:Int):Option OW:=
 aP (ay (iZ b c) aW (0,a.2.2.2.1)) (fun d=>some d) (fun e=>some (a.1,a.2.1,a.2.2.1,e.2,a.2.2.2.2))
def dt:Nat->OW->(List Yq1)->Option ((Bool×Int×Int)×(List Int)×Int×Int×(List Int)×Bool)
 | 0,_,_=>none
 | n+1,p0,p1 =>
  (aT p1 (i64.wrap ((p1.length:Int) - 1))).bind fun g=>if g.1==2 then (some ((true,0,0),p0.1,p0.2.1,p0.2.2.1,p0.2.2.2.1,p0.2.2.2.2)) else (if g.1==3 then ((cd 8 p0.1 ([g.2.1])).bind fun p=>(cd 8 p0.2.2.2.1 ([0])).bind fun q=>some ((false,H6 1 (p0.1.length:Int),H6 1 (p0.1.length:Int)),p,p0.2.1,p0.2.2.1,q,p0.2.2.2.2)) else (if g.1==4 then ((chk (And (0<=(i64.wrap ((p1.length:Int) - 1))) ((i64.wrap ((p1.length:Int) - 1))<=(p1.length:Int)))).bind fun _=>(hZ (p1.take ((i64.wrap ((p1.length:Int) - 1)).toNat))).bind fun h=>(chk (And (0<=h) (h<=(p1.length:Int)))).bind fun _=>((dt n) (p0.1,p0.2.1,p0.2.2.1,p0.2.2.2.1,p0.2.2.2.2) (p1.take h.toNat)).bind fun b=>(chk (And (0<=h) (And (h<=(i64.wrap ((p1.length:Int) - 1))) ((i64.wrap ((p1.length:Int) - 1))<=(p1.length:Int))))).bind fun _=>((dt n) (b.2.1,b.2.2.1,b.2.2.2.1,b.2.2.2.2.1,b.2.2.2.2.2) ((p1.take ((i64.wrap ((p1.length:Int) - 1)).toNat)).drop h.toNat)).bind fun a=>(nt (a.2.1,a.2.2.1,a.2.2.2.1,a.2.2.2.2.1,a.2.2.2.2.2) b.1.2.2 a.1.2.1).bind fun d=>if b.1.1 then (Option.bind ((if b.1.1 then (some (a.1.1,orI b.1.2.1 a.1.2.1,a.1.2.2)) else (some (a.1.1,b.1.2.1,a.1.2.2)):Option (Bool×Int×Int))) (fun j=>Option.bind ((if a.1.1 then (some (j.1,j.2.1,orI b.1.2.2 a.1.2.2)) else (some (j.1,j.2.1,j.2.2)):Option (Bool×Int×Int))) (fun m=>some ((m.1,m.2.1,m.2.2),d.1,d.2.1,d.2.2.1,d.2.2.2.1,d.2.2.2.2)))) else (Option.bind ((if b.1.1 then (some (false,orI b.1.2.1 a.1.2.1,a.1.2.2)) else (some (false,b.1.2.1,a.1.2.2)):Option (Bool×Int×Int))) (fun k=>Option.bind ((if a.1.1 then (some (k.1,k.2.1,orI b.1.2.2 a.1.2.2)) else (some (k.1,k.2.1,k.2.2)):Option (Bool×Int×Int))) (fun o=>some ((o.1,o.2.1,o.2.2),d.1,d.2.1,d.2.2.1,d.2.2.2.1,d.2.2.2.2))))) else (if g.1==5 then ((chk (And (0<=(i64.wrap ((p1.length:Int) - 1))) ((i64.wrap ((p1.length:Int) - 1))<=(p1.length:Int)))).bind fun _=>(hZ (p1.take ((i64.wrap ((p1.length:Int) - 1)).toNat))).bind fun i=>(chk (And (0<=i) (i<=(p1.length:Int)))).bind fun _=>((dt n) (p0.1,p0.2.1,p0.2.2.1,p0.2.2.2.1,p0.2.2.2.2) (p1.take i.toNat)).bind fun e=>(chk (And (0<=i) (And (i<=(i64.wrap ((p1.length:Int) - 1))) ((i64.wrap ((p1.length:Int) - 1))<=(p1.length:Int))))).bind fun _=>((dt n) (e.2.1,e.2.2.1,e.2.2.2.1,e.2.2.2.2.1,e.2.2.2.2.2) ((p1.take ((i64.wrap ((p1.length:Int) - 1)).toNat)).drop i.toNat)).bind fun c=>if e.1.1 then (some ((true,orI e.1.2.1 c.1.2.1,orI e.1.2.2 c.1.2.2),c.2.1,c.2.2.1,c.2.2.2.1,c.2.2.2.2.1,c.2.2.2.2.2)) else (some ((c.1.1,orI e.1.2.1 c.1.2.1,orI e.1.2.2 c.1.2.2),c.2.1,c.2.2.1,c.2.2.2.1,c.2.2.2.2.1,c.2.2.2.2.2))) else (if g.1==6 then ((chk (And (0<=(i64.wrap ((p1.length:Int) - 1))) ((i64.wrap ((p1.length:Int) - 1))<=(p1.length:Int)))).bind fun _=>((dt n) (p0.1,p0.2.1,p0.2.2.1,p0.2.2.2.1,p0.2.2.2.2) (p1.take ((i64.wrap ((p1.length:Int) - 1)).toNat))).bind fun f=>(nt (f.2.1,f.2.2.1,f.2.2.2.1,f.2.2.2.2.1,f.2.2.2.2.2) f.1.2.2 f.1.2.1).bind fun l=>some ((true,f.1.2.1,f.1.2.2),l.1,l.2.1,l.2.2.1,l.2.2.2.1,l.2.2.2.2)) else (some ((false,0,0),p0.1,p0.2.1,p0.2.2.1,p0.2.2.2.1,p0.2.2.2.2))))))
def du (b:(List Yq1)×Bool) (a:Int×Int):Option (Out (OW×Bool) (Int×Int)):=
 if decide (a.2<(b.1.length:Int)) then (Option.bind (((aT b.1 a.2).bind fun c=>if c.1==3 then (some (i64.wrap (a.1+1))) else (some a.1):Option Int)) (fun d=>some (.nxt (d,i64.wrap (a.2+1))))) else (some (.brk (a.1,a.2)))
def gL (c:List Yq1):Option (OW×Bool):=
 (lx c).bind fun b=>if b.2 then (aP (ay (du b) aW (0,0)) (fun d=>some d) (fun e=>if decide (e.1>20) then (some ((([] :List Int),0,0,([] :List Int),false),false)) else ((dt gr (([] :List Int),0,0,([] :List Int),false) b.1).bind fun a=>some ((a.2.1,a.1.2.1,a.1.2.2,a.2.2.2.2.1,a.1.1),true)))) else (some ((([] :List Int),0,0,([] :List Int),false),false))
def ic (b:(List Int)×Int×Int×(List Int)×Bool) (c:Int) (a:Int×Int):Option Jd:=
 if decide (a.2<(b.1.length:Int)) then (Option.bind (((chk (0<=i64.wrap (a.2+1))).bind fun _=>if (yS (th c (i64.wrap (a.2+1))) 1)==1 then ((aT b.2.2.2.1 a.2).bind fun d=>some (orI a.1 d)) else (some a.1):Option Int)) (fun e=>some (.nxt (e,i64.wrap (a.2+1))))) else (some (.brk (a.1,a.2)))
def ig (b:(List Int)×Int×Int×(List Int)×Bool) (c:Int) (d:Int×Int) (a:Int×Int):Option Jd:=
 if decide (a.2<(b.1.length:Int)) then (Option.bind (((chk (0<=a.2)).bind fun _=>if (yS (th d.1 a.2) 1)==1 then ((aT b.1 a.2).bind fun e=>if e==c then ((chk (0<=i64.wrap (a.2+1))).bind fun _=>some (orI a.1 (H6 1 (i64.wrap (a.2+1))))) else (some a.1)) else (some a.1):Option Int)) (fun f=>some (.nxt (f,i64.wrap (a.2+1))))) else (some (.brk (a.1,a.2)))
def om (a:(List Int)×Int×Int×(List Int)×Bool) (b:Int) (c:Int):Option Int:=
 Option.bind ((if (yS b 1)==1 then (some a.2.1) else (some 0):Option Int)) (fun d=>aP (ay (ic a b) aW (d,0)) (fun r=>some r) (fun e=>aP (ay (ig a c e) aW (0,0)) (fun r=>some r) (fun f=>some f.1)))
def oN (b:List Int) (c:Int) (a:Int):Option (Out Int Int):=
 if decide (a<(b.length:Int)) then ((aT b a).bind fun d=>if d==c then (some (.ret a)) else (some (.nxt (i64.wrap (a+1))))) else (some (.brk a))
def nw (a:List Int) (b:Int):Option Int:=
 aP (ay (oN a b) aW 0) (fun r=>some r) (fun c=>some (-1))
def lz (a:(List Int)×Int×Int×(List Int)×Bool) (b:Int):Option Bool:=
 if (yS b 1)==1 then (if a.2.2.2.2 then (some true) else (some ((yS (th b 1) a.2.2.1) !=0))) else (some ((yS (th b 1) a.2.2.1) !=0))
def fD (b:(List Int)×Int×Int×(List Int)×Bool) (f:(List Int)×Int×Int×(List Bool)×(List (List Int))) (a:(List Int)×(List Int)×Int):Option (Out (Yq2×Bool) ((List Int)×(List Int)×Int)):=
 if decide (a.2.2<9) then ((aT a.1 f.2.1).bind fun g=>(om (b.1,b.2.1,b.2.2.1,b.2.2.2.1,b.2.2.2.2) g a.2.2).bind fun c=>Option.bind ((if c !=0 then ((nw a.1 c).bind fun d=>if decide (d<0) then ((cd 8 a.1 ([c])).bind fun h=>some (h,(a.1.length:Int))) else (some (a.1,d))) else (some (a.1,-1)):Option ((List Int)×Int))) (fun e=>(cd 8 a.2.1 ([e.2])).bind fun i=>some (.nxt (e.1,i,i64.wrap (a.2.2+1))))) else (some (.brk (a.1,a.2.1,a.2.2)))
def fE (b:(List Int)×Int×Int×(List Int)×Bool) (d:Int) (a:(List Int)×Int×Int×(List Bool)×(List (List Int))):Option (Out (Yq2×Bool) ((List Int)×Int×Int×(List Bool)×(List (List Int)))):=
 if decide (a.2.1<(a.1.length:Int)) then (aP (ay (fD b a) aW (a.1,([] :List Int),0)) (fun r=>some (.ret r)) (fun c=>if decide ((c.1.length:Int)>d) then (some (.ret ((0,[],[]),false))) else ((aT c.1 a.2.1).bind fun e=>(lz (b.1,b.2.1,b.2.2.1,b.2.2.2.1,b.2.2.2.2) e).bind fun f=>(cd 1 a.2.2.2.1 ([f])).bind fun g=>(cd 24 a.2.2.2.2 ([c.2.1])).bind fun h=>some (.nxt (c.1,i64.wrap (a.2.1+1),a.2.2.1,g,h))))) else (some (.brk (a.1,a.2.1,a.2.2.1,a.2.2.2.1,a.2.2.2.2)))
def ja (b:(List Int)×Int×Int×(List Int)×Bool) (c:Int):Option (Yq2×Bool):=
 aP (ay (fE b c) aW ([1],0,0,[],[])) (fun r=>some r) (fun a=>some ((a.2.2.1,a.2.2.2.1,a.2.2.2.2),true))
def wF (a:(List Int)×Int):Option (Out Yq2 ((List Int)×Int)):=
 if decide (a.2<9) then ((cd 8 a.1 ([-1])).bind fun b=>some (.nxt (b,i64.wrap (a.2+1)))) else (some (.brk (a.1,a.2)))
def oO:Option Yq2:=
 aP (ay (wF) aW (([] :List Int),0)) (fun r=>some r) (fun a=>some (0,[false],[a.1]))
def gy (f:Int×(List Bool)×(List (List Int))) (d:List Int) (g:List Bool) (h:(List Int)×(List Int)×Int×Int×(List Bool)×(List (List Int))) (a:(List Int)×(List Int)×(List Int)×Int):Option (Out Yq2 ((List Int)×(List Int)×(List Int)×Int)):=
 if decide (a.2.2.2<9) then ((aT a.2.1 h.2.2.1).bind fun i=>(aT f.2.2 i).bind fun j=>(aT j a.2.2.2).bind fun b=>Option.bind ((if decide (b≥0) then ((aT g b).bind fun k=>if k then ((aT d b).bind fun l=>(nw a.1 l).bind fun e=>if decide (e<0) then ((aT d b).bind fun m=>(cd 8 a.1 ([m])).bind fun n=>(cd 8 a.2.1 ([b])).bind fun o=>some (n,o,(a.1.length:Int))) else (some (a.1,a.2.1,e))) else (some (a.1,a.2.1,-1))) else (some (a.1,a.2.1,-1)):Option ((List Int)×(List Int)×Int))) (fun c=>(cd 8 a.2.2.1 ([c.2.2])).bind fun p=>some (.nxt (c.1,c.2.1,p,i64.wrap (a.2.2.2+1))))) else (some (.brk (a.1,a.2.1,a.2.2.1,a.2.2.2)))
def jm (c:Int×(List Bool)×(List (List Int))) (d:List Int) (e:List Bool) (a:(List Int)×(List Int)×Int×Int×(List Bool)×(List (List Int))):Option (Out Yq2 ((List Int)×(List Int)×Int×Int×(List Bool)×(List (List Int)))):=
 if decide (a.2.2.1<(a.1.length:Int)) then (aP (ay (gy c d e a) aW (a.1,a.2.1,([] :List Int),0)) (fun r=>some (.ret r)) (fun b=>(aT b.2.1 a.2.2.1).bind fun f=>(aT c.2.1 f).bind fun g=>(cd 1 a.2.2.2.2.1 ([g])).bind fun h=>(cd 24 a.2.2.2.2.2 ([b.2.2.1])).bind fun i=>some (.nxt (b.1,b.2.1,i64.wrap (a.2.2.1+1),a.2.2.2.1,h,i)))) else (some (.brk (a.1,a.2.1,a.2.2.1,a.2.2.2.1,a.2.2.2.2.1,a.2.2.2.2.2)))
def iH (a:Int×(List Bool)×(List (List Int))) (d:List Int) (e:List Bool):Option Yq2:=
 (aT e a.1).bind fun f=>if f then ((aT d a.1).bind fun g=>aP (ay (jm a d e) aW ([g],[a.1],0,0,[],[])) (fun r=>some r) (fun b=>some (b.2.2.2.1,b.2.2.2.2.1,b.2.2.2.2.2))) else ((oO).bind fun c=>some (c.1,c.2.1,c.2.2))
def jb (c:Int×(List Bool)×(List (List Int))) (b:(List Bool)×Int) (a:(List Bool)×Int):Option (Out (List Bool) ((List Bool)×Int)):=
 if decide (a.2<9) then (Option.bind (((aT c.2.2 b.2).bind fun d=>(aT d a.2).bind fun e=>if decide (e≥0) then ((aT c.2.2 b.2).bind fun f=>(aT f a.2).bind fun g=>(aT a.1 g).bind fun h=>if h then ((aT a.1 b.2).bind fun j=>some (a.1.set b.2.toNat true)) else (some a.1)) else (some a.1):Option (List Bool))) (fun i=>some (.nxt (i,i64.wrap (a.2+1))))) else (some (.brk (a.1,a.2)))
def jc (b:Int×(List Bool)×(List (List Int))) (a:(List Bool)×Int):Option (Out (List Bool) ((List Bool)×Int)):=
 if decide (a.2<(b.2.1.length:Int)) then (aP (ay (jb b a) aW (a.1,0)) (fun r=>some (.ret r)) (fun c=>some (.nxt (c.1,i64.wrap (a.2+1))))) else (some (.brk (a.1,a.2)))
def lA (b:Int×(List Bool)×(List (List Int))) (a:(List Bool)×Int):Option (Out (List Bool) ((List Bool)×Int)):=
 if decide (a.2<(b.2.1.length:Int)) then (aP (ay (jc b) aW (a.1,0)) (fun r=>some (.ret r)) (fun c=>some (.nxt (c.1,i64.wrap (a.2+1))))) else (some (.brk (a.1,a.2)))
def kQ (a:Int×(List Bool)×(List (List Int))):Option (List Bool):=
 (cd 1 ([] :List Bool) a.2.1).bind fun b=>aP (ay (lA a) aW (b,0)) (fun r=>some r) (fun c=>some c.1)
def mA (c:Int×(List Bool)×(List (List Int))) (d:List Int) (e:Int) (a:(List Int)×Int):Option (Out (List Int) ((List Int)×Int)):=
 if decide (a.2<9) then (Option.bind (((aT c.2.2 e).bind fun f=>(aT f a.2).bind fun b=>if decide (b<0) then ((cd 8 a.1 ([-1])).bind fun g=>some g) else ((aT d b).bind fun h=>(cd 8 a.1 ([h])).bind fun i=>some i):Option (List Int))) (fun j=>some (.nxt (j,i64.wrap (a.2+1))))) else (some (.brk (a.1,a.2)))
def pa (c:Int×(List Bool)×(List (List Int))) (a:List Int) (b:Int):Option (List Int):=
 (aT a b).bind fun d=>aP (ay (mA c a b) aW ([d],0)) (fun r=>some r) (fun e=>some e.1)
def fF (b:Int×(List Bool)×List (List Int)) (c:List Bool) (a:(List Int)×Int):Option (Out (List Int) ((List Int)×Int)):=
 if decide (a.2<(b.2.1.length:Int)) then ((aT b.2.1 a.2).bind fun d=>Option.bind ((if d then (some 1) else (some 0):Option Int)) (fun e=>(aT c a.2).bind fun f=>Option.bind ((if f then (some e) else (some (-1)):Option Int)) (fun g=>(cd 8 a.1 ([g])).bind fun h=>some (.nxt (h,i64.wrap (a.2+1)))))) else (some (.brk (a.1,a.2)))
def fG (b:(List (List Int))×(List Int)×Int) (c:List Int) (a:Int×Int):Option (Out (List Int) (Int×Int)):=
 if decide (a.2<(b.1.length:Int)) then (Option.bind (((aT b.1 a.2).bind fun d=>(np d c).bind fun e=>if e==0 then (some a.2) else (some a.1):Option Int)) (fun f=>some (.nxt (f,i64.wrap (a.2+1))))) else (some (.brk (a.1,a.2)))
def fH (b:Int×(List Bool)×List (List Int)) (c:(List Int)×Int) (a:(List (List Int))×(List Int)×Int):Option (Out (List Int) ((List (List Int))×(List Int)×Int)):=
 if decide (a.2.2<(b.2.1.length:Int)) then (Option.bind (((aT c.1 a.2.2).bind fun h=>if decide (h<0) then ((cd 8 a.2.1 ([(-1)])).bind fun i=>some (a.1,i)) else ((pa (b.1,b.2.1,b.2.2) c.1 a.2.2).bind fun d=>aP (ay (fG a d) aW ((-1),0)) (fun l=>none) (fun e=>Option.bind ((if decide (e.1<0) then ((cd 24 a.1 ([d])).bind fun j=>some (j,(a.1.length:Int))) else (some (a.1,e.1)):Option ((List (List Int))×Int))) (fun f=>(cd 8 a.2.1 ([f.2])).bind fun k=>some (f.1,k)))):Option ((List (List Int))×List Int))) (fun g=>some (.nxt (g.1,g.2,i64.wrap (a.2.2+1))))) else (some (.brk (a.1,a.2.1,a.2.2)))
def kR (b:Int×(List Bool)×List (List Int)) (a:(List Int)×Int):Option (Out (List Int) ((List Int)×Int)):=
 if decide (a.2<=(b.2.1.length:Int)) then (aP (ay (fH b a) aW (([] :List (List Int)),([] :List Int),0)) (fun d=>some (.ret d)) (fun c=>(np c.2.1 a.1).bind fun e=>if e==0 then (some (.ret a.1)) else (some (.nxt (c.2.1,i64.wrap (a.2+1)))))) else (some (.brk (a.1,a.2)))
def jd (a:Int×(List Bool)×List (List Int)):Option (List Int):=
 (kQ (a.1,a.2.1,a.2.2)).bind fun b=>aP (ay (fF a b) aW (([] :List Int),0)) (fun c=>some c) (fun d=>aP (ay (kR a) aW (d.1,0)) (fun e=>some e) (fun f=>some f.1))
def fI (a:Int×(List Bool)×(List (List Int))):Option Yq2:=
 (jd (a.1,a.2.1,a.2.2)).bind fun c=>(kQ (a.1,a.2.1,a.2.2)).bind fun d=>(iH (a.1,a.2.1,a.2.2) c d).bind fun b=>some (b.1,b.2.1,b.2.2)
def ij (d:(List Yq1)):Option (Yq2×Bool):=
 (gL d).bind fun a=>if a.2 then ((ja (a.1.1,a.1.2.1,a.1.2.2.1,a.1.2.2.2.1,a.1.2.2.2.2) 200).bind fun b=>if b.2 then ((fI (b.1.1,b.1.2.1,b.1.2.2)).bind fun c=>if decide ((c.2.1.length:Int)>12) then (some ((0,[],[]),false)) else (some ((c.1,c.2.1,c.2.2),true))) else (some ((0,[],[]),false))) else (some ((0,[],[]),false))
def fl (b:Int×(List Bool)×(List (List Int))) (c:Int×(List Bool)×(List (List Int))) (a:Int):Option (Out Bool Int):=
 if decide (a<(b.2.1.length:Int)) then ((aT b.2.1 a).bind fun d=>(aT c.2.1 a).bind fun e=>if d !=e then (some (.ret false)) else (some (.nxt (i64.wrap (a+1))))) else (some (.brk a))
def fm (b:Int×(List Bool)×(List (List Int))) (c:Int×(List Bool)×(List (List Int))) (a:Int):Option (Out Bool Int):=
 if decide (a<(b.2.2.length:Int)) then ((aT b.2.2 a).bind fun d=>(aT c.2.2 a).bind fun e=>(np d e).bind fun f=>if f !=0 then (some (.ret false)) else (some (.nxt (i64.wrap (a+1))))) else (some (.brk a))
def fJ (a:Int×(List Bool)×(List (List Int))) (b:Int×(List Bool)×(List (List Int))):Option Bool:=
 if a.1 !=b.1 then (some false) else (if (a.2.1.length:Int) !=(b.2.1.length:Int) then (some false) else (if (a.2.2.length:Int) !=(b.2.2.length:Int) then (some false) else (aP (ay (fl a b) aW 0) (fun r=>some r) (fun c=>aP (ay (fm a b) aW 0) (fun r=>some r) (fun d=>some true)))))
def il (d:List Yq2) (b:Int×(List Bool)×(List (List Int))) (a:Int):Option (Out Int Int):=
 if decide (a<(d.length:Int)) then ((aT d a).bind fun c=>(fJ (c.1,c.2.1,c.2.2) (b.1,b.2.1,b.2.2)).bind fun e=>if e then (some (.ret a)) else (some (.nxt (i64.wrap (a+1))))) else (some (.brk a))
def lW (a:List Yq2) (b:Int×(List Bool)×(List (List Int))):Option Int:=
 aP (ay (il a b) aW 0) (fun r=>some r) (fun c=>some (-1))
def dw (c:List Yq3) (a:Int×(List Yq2)×(List Yq3)):Option (Out (Yq8×Bool) OX):=
 if decide (a.1<(c.length:Int)) then ((aT c a.1).bind fun h=>(ij h.2.1).bind fun b=>if b.2 then ((aT c a.1).bind fun i=>(cR i.1 1 99).bind fun j=>if j then (if decide (a.1>0) then ((aT c (i64.wrap (a.1 - 1))).bind fun k=>(aT c a.1).bind fun l=>if decide (k.1≥l.1) then (some (.ret (([],[]),false))) else ((lW a.2.1 (b.1.1,b.1.2.1,b.1.2.2)).bind fun f=>Option.bind ((if decide (f<0) then ((cd 56 a.2.1 ([(b.1.1,b.1.2.1,b.1.2.2)])).bind fun m=>some ((a.2.1.length:Int),m,a.2.2)) else (some (f,a.2.1,a.2.2)):Option OX)) (fun d=>(aT c a.1).bind fun n=>(aT c a.1).bind fun o=>(gG o.2.1).bind fun p=>(cd 40 d.2.2 ([(n.1,p,d.1)])).bind fun q=>some (.nxt (i64.wrap (a.1+1),d.2.1,q))))) else ((lW a.2.1 (b.1.1,b.1.2.1,b.1.2.2)).bind fun g=>Option.bind ((if decide (g<0) then ((cd 56 a.2.1 ([(b.1.1,b.1.2.1,b.1.2.2)])).bind fun r=>some ((a.2.1.length:Int),r,a.2.2)) else (some (g,a.2.1,a.2.2)):Option OX)) (fun e=>(aT c a.1).bind fun s=>(aT c a.1).bind fun t=>(gG t.2.1).bind fun u=>(cd 40 e.2.2 ([(s.1,u,e.1)])).bind fun v=>some (.nxt (i64.wrap (a.1+1),e.2.1,v))))) else (some (.ret (([],[]),false)))) else (some (.ret (([],[]),false)))) else (some (.brk (a.1,a.2.1,a.2.2)))
def oo (a:List Yq3):Option (Yq8×Bool):=
 if decide ((a.length:Int)>4) then (some (([],[]),false)) else (aP (ay (dw a) aW (0,[],[])) (fun r=>some r) (fun b=>some ((b.2.1,b.2.2),true)))
def iI (d:(List Yq1)) (e:(List Yq1)) (a:Int):Option (Out Bool Int):=
 if decide (a<(d.length:Int)) then ((aT d a).bind fun b=>(aT e a).bind fun c=>if (b.1==c.1)&&((b.2.1==c.2.1)&&((b.2.2.1==c.2.2.1)&&((b.2.2.2==c.2.2.2)&&true))) then (some (.nxt (i64.wrap (a+1)))) else (some (.ret false))) else (some (.brk a))
def lB (a:(List Yq1)) (b:(List Yq1)):Option Bool:=
 if (a.length:Int) !=(b.length:Int) then (some false) else (aP (ay (iI a b) aW 0) (fun r=>some r) (fun c=>some true))
def eG (d:(List Yq2)×(List Yq3)) (e:(List Yq2)×(List Yq3)) (a:Int):Option (Out Bool Int):=
 if decide (a<(d.1.length:Int)) then ((aT d.1 a).bind fun b=>(aT e.1 a).bind fun c=>(fJ (b.1,b.2.1,b.2.2) (c.1,c.2.1,c.2.2)).bind fun f=>if f then (some (.nxt (i64.wrap (a+1)))) else (some (.ret false))) else (some (.brk a))
def eH (b:(List Yq2)×(List Yq3)) (c:(List Yq2)×(List Yq3)) (a:Int):Option (Out Bool Int):=
 if decide (a<(b.2.length:Int)) then ((aT b.2 a).bind fun d=>(aT c.2 a).bind fun e=>if d.1 !=e.1 then (some (.ret false)) else ((aT b.2 a).bind fun f=>(aT c.2 a).bind fun g=>(lB f.2.1 g.2.1).bind fun h=>if h then ((aT b.2 a).bind fun i=>(aT c.2 a).bind fun j=>if i.2.2 !=j.2.2 then (some (.ret false)) else (some (.nxt (i64.wrap (a+1))))) else (some (.ret false)))) else (some (.brk a))
def gg (a:(List Yq2)×(List Yq3)) (b:(List Yq2)×(List Yq3)):Option Bool:=
 if (a.1.length:Int) !=(b.1.length:Int) then (some false) else (if (a.2.length:Int) !=(b.2.length:Int) then (some false) else (aP (ay (eG a b) aW 0) (fun r=>some r) (fun c=>aP (ay (eH a b) aW 0) (fun r=>some r) (fun d=>some true))))
def gi (a:(List Yq2)×(List Yq3)):Option Bool:=
 (oo a.2).bind fun b=>if b.2 then ((gg (b.1.1,b.1.2) (a.1,a.2)).bind fun c=>some c) else (some false)
def a8 (a:Int×(List Yq5)):Option Int:=
 (m_s_IsValidHistory (a.1,a.2)).bind fun b=>if b then (some (i64.wrap ((i64.wrap (a.1+(a.2.length:Int))) - 1))) else (some 0)
def eN (b:(List Yq2)×(List Yq3)) (c:Int) (a:Int):Option (Out Int Int):=
 if decide (a<(b.2.length:Int)) then ((aT b.2 a).bind fun d=>if d.1==c then (some (.ret a)) else (some (.nxt (i64.wrap (a+1))))) else (some (.brk a))
def kj (a:(List Yq2)×(List Yq3)) (b:Int):Option Int:=
 aP (ay (eN a b) aW 0) (fun r=>some r) (fun c=>some (-1))
def cN (a:yG×Yq8×Yq7×ByteArray) (b:Int):Option (Out Bool Int):=
 if decide (b<(a.2.2.1.length:Int)) then ((aT a.2.2.1 b).bind fun c=>(cR c.1 1 99).bind fun d=>if d then (if decide (b>0) then ((aT a.2.2.1 (i64.wrap (b - 1))).bind fun e=>if decide (e.1≥c.1) then (some (.ret false)) else ((kj (a.2.1.1,a.2.1.2) c.2.1).bind fun f=>if decide (f<0) then (some (.ret false)) else ((a8 (a.1.1,a.1.2)).bind fun g=>(cR c.2.2 0 g).bind fun h=>if h then (some (.nxt (i64.wrap (b+1)))) else (some (.ret false))))) else ((kj (a.2.1.1,a.2.1.2) c.2.1).bind fun i=>if decide (i<0) then (some (.ret false)) else ((a8 (a.1.1,a.1.2)).bind fun j=>(cR c.2.2 0 j).bind fun k=>if k then (some (.nxt (i64.wrap (b+1)))) else (some (.ret false))))) else (some (.ret false))) else (some (.brk b))
def ue (a:yG×Yq8×Yq7×ByteArray):Option Bool:=
 aP (ay (cN a) aW 0) (fun r=>some r) (fun b=>some (decide ((a.2.2.1.length:Int)<=4)))
def dD (a:Int×ByteArray):Option (Out ByteArray (Int×ByteArray)):=
 if a.1 !=0 then (Option.bind ((if decide ((Int.tmod a.1 10)<0) then (some (i64.wrap (-(Int.tmod a.1 10)))) else (some (Int.tmod a.1 10)):Option Int)) (fun b=>(lh (xj ([IntKind.u8.wrap (i64.wrap (48+b))])) a.2).bind fun c=>some (.nxt (O0 a.1 10,c)))) else (some (.brk (a.1,a.2)))
def b9 (a:Int):Option ByteArray:=
 if a==0 then (some (⟨#[48]⟩)) else (aP (ay (dD) aW (a,(⟨#[]⟩:ByteArray))) (fun c=>some c) (fun b=>if decide (a<0) then ((lh (⟨#[45]⟩) b.2).bind fun d=>some d) else (some b.2)))
def eO (a:Int):Option ByteArray:=
 (lV a).bind fun b=>if b then ((aT ([(⟨#[97]⟩:ByteArray),(⟨#[97,45]⟩:ByteArray),(⟨#[98]⟩:ByteArray),(⟨#[98,45]⟩:ByteArray),(⟨#[99]⟩:ByteArray),(⟨#[99,45]⟩:ByteArray),(⟨#[48]⟩:ByteArray),(⟨#[49]⟩:ByteArray),(⟨#[50]⟩:ByteArray)]) a).bind fun c=>some c) else (some (⟨#[]⟩:ByteArray))
def je (a:Int×Int×Int×Int):Option ByteArray:=
 (cR a.1 1 99).bind fun b=>if b then ((cR a.2.1 0 4).bind fun c=>if c then ((cR a.2.2.1 0 4).bind fun d=>if d then ((cR a.2.2.2 0 2).bind fun e=>if e then ((b9 a.1).bind fun f=>(lh f (⟨#[58]⟩)).bind fun g=>(b9 a.2.1).bind fun h=>(lh g h).bind fun i=>(eO (i64.wrap (2*a.2.2.2))).bind fun j=>(lh i j).bind fun k=>(b9 a.2.2.1).bind fun l=>(lh k l).bind fun m=>some m) else (some ((⟨#[]⟩:ByteArray)))) else (some ((⟨#[]⟩:ByteArray)))) else (some ((⟨#[]⟩:ByteArray)))) else (some ((⟨#[]⟩:ByteArray)))
def eX (c:List Yq4) (a:ByteArray×Int):Option (Out ByteArray (ByteArray×Int)):=
 if decide (a.2<(c.length:Int)) then (l7 (S:=ByteArray) ((aT c a.2).bind fun b=>(je (b.2.1,b.2.2.1,b.2.2.2.1,b.2.2.2.2)).bind fun d=>if d==((⟨#[]⟩:ByteArray)) then (some (.inl (.ret ((⟨#[]⟩:ByteArray))))) else (Option.bind ((if decide (a.2>0) then ((lh a.1 (⟨#[32]⟩)).bind fun f=>some f) else (some a.1):Option ByteArray)) (fun e=>(aT c a.2).bind fun g=>if g.1 then ((lh e (⟨#[43]⟩)).bind fun h=>(lh h d).bind fun i=>some (.inr i)) else ((lh e (⟨#[45]⟩)).bind fun j=>(lh j d).bind fun k=>some (.inr k))))) (fun l=>some (.nxt (l,i64.wrap (a.2+1))))) else (some (.brk (a.1,a.2)))
def cT (a:List Yq4):Option ByteArray:=
 if decide ((a.length:Int)>6) then (some ((⟨#[]⟩:ByteArray))) else (aP (ay (eX a) aW ((⟨#[]⟩:ByteArray),0)) (fun b=>some b) (fun c=>some c.1))
def fK (b:ByteArray) (a:Int×Int):Option Jd:=
 if decide (a.2<((b.size:Nat):Int)) then ((jB b a.2).bind fun c=>some (.nxt (Int.tmod (i64.wrap ((i64.wrap ((i64.wrap (a.1*257))+(i64.wrap c)))+1)) 9973,i64.wrap (a.2+1)))) else (some (.brk (a.1,a.2)))
def fS (a:ByteArray):Option Int:=
 aP (ay (fK a) aW (1,0)) (fun b=>some b) (fun c=>some c.1)
def dE (b:Int) (a:List Yq4):Option ByteArray:=
 (cR b 1 999).bind fun e=>if e then (if decide ((a.length:Int)>0) then ((cT a).bind fun f=>if f==((⟨#[]⟩:ByteArray)) then (some ((⟨#[]⟩:ByteArray))) else ((b9 b).bind fun g=>(lh g (⟨#[59]⟩)).bind fun h=>(cT a).bind fun i=>(lh h i).bind fun j=>(lh j (⟨#[59]⟩)).bind fun c=>(fS c).bind fun k=>(b9 k).bind fun l=>(lh c l).bind fun m=>(lh m (⟨#[10]⟩)).bind fun n=>some n)) else ((b9 b).bind fun o=>(lh o (⟨#[59]⟩)).bind fun p=>(cT a).bind fun q=>(lh p q).bind fun r=>(lh r (⟨#[59]⟩)).bind fun d=>(fS d).bind fun s=>(b9 s).bind fun t=>(lh d t).bind fun u=>(lh u (⟨#[10]⟩)).bind fun v=>some v)) else (some ((⟨#[]⟩:ByteArray)))
def oq (b:ByteArray) (d:Int) (a:(List ByteArray)×Int×Int):Option (Out (List ByteArray) ((List ByteArray)×Int×Int)):=
 if decide (a.2.2<((b.size:Nat):Int)) then (Option.bind (((jB b a.2.2).bind fun e=>if e==d then ((qT b a.2.1 a.2.2).bind fun f=>(cd 16 a.1 ([f])).bind fun g=>some (g,i64.wrap (a.2.2+1))) else (some (a.1,a.2.1)):Option ((List ByteArray)×Int))) (fun c=>some (.nxt (c.1,c.2,i64.wrap (a.2.2+1))))) else (some (.brk (a.1,a.2.1,a.2.2)))
def im (a:ByteArray) (c:Int):Option (List ByteArray):=
 aP (ay (oq a c) aW (([] :List ByteArray),0,0)) (fun d=>some d) (fun b=>(qT a b.2.1 ((a.size:Nat):Int)).bind fun e=>(cd 16 b.1 ([e])).bind fun f=>some f)
def ir (b:ByteArray) (a:Int×Int×Int):Option (Out (Int×Bool) (Int×Int×Int)):=
 if decide (a.2.2<((b.size:Nat):Int)) then (if decide (a.2.2<11) then (Option.bind (((jB b a.2.2).bind fun d=>if decide (d≥48) then ((jB b a.2.2).bind fun e=>if decide (e<=57) then ((jB b a.2.2).bind fun f=>some (i64.wrap ((i64.wrap (a.1*10))+(i64.wrap (IntKind.u8.wrap (f - 48)))),i64.wrap (a.2.1+1))) else (some (a.1,a.2.1))) else (some (a.1,a.2.1)):Option (Int×Int))) (fun c=>some (.nxt (c.1,c.2,i64.wrap (a.2.2+1))))) else (some (.brk (a.1,a.2.1,a.2.2)))) else (some (.brk (a.1,a.2.1,a.2.2)))
def fT (a:ByteArray):Option (Int×Bool):=
 aP (ay (ir a) aW (0,0,0)) (fun e=>some e) (fun b=>if decide (((a.size:Nat):Int)>0) then ((jB a 0).bind fun f=>Option.bind ((if f==45 then (some (i64.wrap (-b.1))) else (some b.1):Option Int)) (fun c=>if decide (b.2.1>9) then (some (0,false)) else (if decide (((a.size:Nat):Int)>10) then (some (0,false)) else ((b9 c).bind fun g=>if g !=a then (some (0,false)) else (some (c,true)))))) else (Option.bind ((some b.1:Option Int)) (fun d=>if decide (b.2.1>9) then (some (0,false)) else (if decide (((a.size:Nat):Int)>10) then (some (0,false)) else ((b9 d).bind fun h=>if h !=a then (some (0,false)) else (some (d,true)))))))
def kl (b:ByteArray) (a:Int):Option (Out (Int×Bool) Int):=
 if decide (a<9) then ((eO a).bind fun c=>if c==b then (some (.ret (a,true))) else (some (.nxt (i64.wrap (a+1))))) else (some (.brk a))
def fL (a:ByteArray):Option (Int×Bool):=
 aP (ay (kl a) aW 0) (fun r=>some r) (fun b=>some (0,false))
def gj (b:ByteArray):Option (Yq1×Bool):=
 (im b 58).bind fun a=>if (a.length:Int) !=2 then (some ((0,0,0,0),false)) else ((aT a 1).bind fun g=>if ((g.size:Nat):Int) !=3 then (some ((0,0,0,0),false)) else ((aT a 0).bind fun h=>(fT h).bind fun c=>(aT a 1).bind fun i=>(qT i 1 2).bind fun j=>(fL j).bind fun d=>(aT a 1).bind fun k=>(jB k 0).bind fun e=>(aT a 1).bind fun l=>(jB l 2).bind fun f=>(je (c.1,i64.wrap ((i64.wrap e) - 48),i64.wrap ((i64.wrap f) - 48),O0 d.1 2)).bind fun m=>if m !=b then (some ((0,0,0,0),false)) else (some ((c.1,i64.wrap ((i64.wrap e) - 48),i64.wrap ((i64.wrap f) - 48),O0 d.1 2),true))))
def cJ (c:List ByteArray) (a:Int×List Yq4):Option (Out ((List Yq4)×Bool) (Int×List Yq4)):=
 if decide (a.1<(c.length:Int)) then (if decide (a.1<=6) then ((aT c a.1).bind fun e=>if decide (((e.size:Nat):Int)<2) then (some (.ret (([] :List Yq4),false))) else ((aT c a.1).bind fun d=>(qT d 1 ((d.size:Nat):Int)).bind fun f=>(gj f).bind fun b=>if b.2 then ((aT c a.1).bind fun g=>(jB g 0).bind fun h=>(cd 40 a.2 ([(h==43,b.1.1,b.1.2.1,b.1.2.2.1,b.1.2.2.2)])).bind fun i=>some (.nxt (i64.wrap (a.1+1),i))) else (some (.ret (([] :List Yq4),false))))) else (some (.brk (a.1,a.2)))) else (some (.brk (a.1,a.2)))
def dO (a:ByteArray):Option ((List Yq4)×Bool):=
 if a==((⟨#[]⟩:ByteArray)) then (some (([] :List Yq4),true)) else ((im a 32).bind fun c=>aP (ay (cJ c) aW (0,([] :List Yq4))) (fun d=>some d) (fun b=>(cT b.2).bind fun e=>if e !=a then (some (([] :List Yq4),false)) else (some (b.2,true))))
def jn (d:ByteArray):Option (Int×((List (Bool×Yq1)))×Bool):=
 (im d 59).bind fun a=>if (a.length:Int) !=3 then (some (0,[],false)) else ((aT a 0).bind fun e=>(fT e).bind fun b=>(aT a 1).bind fun f=>(dO f).bind fun c=>if b.2 then (if c.2 then ((dE b.1 c.1).bind fun g=>if g !=d then (some (0,[],false)) else (some (b.1,c.1,true))) else (some (0,[],false))) else (some (0,[],false)))
def bt (c:ByteArray) (a:(List Int)×(List (List Yq4))×Int×Int):Option (Out ((List Int)×(List (List Yq4))×Int) ((List Int)×(List (List Yq4))×Int×Int)):=
 if decide (a.2.2.2<((c.size:Nat):Int)) then (if decide (((c.size:Nat):Int)<=4000) then (l7 (S:=(List Int)×(List (List Yq4))×Int) ((jB c a.2.2.2).bind fun e=>if e !=10 then (some (.inr (a.1,a.2.1,a.2.2.1))) else ((qT c a.2.2.1 (i64.wrap (a.2.2.2+1))).bind fun f=>(jn f).bind fun b=>if b.2.2 then (if decide ((a.1.length:Int)>0) then ((aT a.1 (i64.wrap ((a.1.length:Int) - 1))).bind fun g=>if b.1 !=(i64.wrap (g+1)) then (some (.inl (.ret (a.1,a.2.1,a.2.2.1)))) else ((cd 8 a.1 ([b.1])).bind fun h=>(cd 24 a.2.1 ([b.2.1])).bind fun i=>some (.inr (h,i,i64.wrap (a.2.2.2+1))))) else ((cd 8 a.1 ([b.1])).bind fun j=>(cd 24 a.2.1 ([b.2.1])).bind fun k=>some (.inr (j,k,i64.wrap (a.2.2.2+1))))) else (some (.inl (.ret (a.1,a.2.1,a.2.2.1)))))) (fun d=>some (.nxt (d.1,d.2.1,d.2.2,i64.wrap (a.2.2.2+1))))) else (some (.brk (a.1,a.2.1,a.2.2.1,a.2.2.2)))) else (some (.brk (a.1,a.2.1,a.2.2.1,a.2.2.2)))
def m_s_ScanLog (b:ByteArray):Option ((List Int)×(List (List Yq4))×Int):=
 aP (ay (bt b) aW (([] :List Int),([] :List (List Yq4)),0,0)) (fun c=>some c) (fun a=>some (a.1,a.2.1,a.2.2.1))
def wG (a:yG×Yq8×Yq7×ByteArray):Option Bool:=
 (m_s_ScanLog a.2.2.2).bind fun b=>if b.2.2==(a.2.2.2.size:Int) then (if decide ((a.2.2.2.size:Int)<=4000) then (if (b.1.length:Int)==0 then (some true) else ((aT b.1 (i64.wrap ((b.1.length:Int) - 1))).bind fun c=>(a8 (a.1.1,a.1.2)).bind fun d=>some (c==d))) else (some false)) else (some false)
def dV (a:yG×Yq8×Yq7×ByteArray):Option Bool:=
 (m_s_IsValidHistory (a.1.1,a.1.2)).bind fun b=>if b then ((gi (a.2.1.1,a.2.1.2)).bind fun c=>if c then ((ue ((a.1.1,a.1.2),(a.2.1.1,a.2.1.2),a.2.2.1,a.2.2.2)).bind fun d=>if d then ((wG ((a.1.1,a.1.2),(a.2.1.1,a.2.1.2),a.2.2.1,a.2.2.2)).bind fun e=>some e) else (some false)) else (some false)) else (some false)
def ct (a:(List Int)×(List Yq1)):Option Yq5:=
 (cd 8 ([] :List Int) a.1).bind fun b=>(cd 32 ([] :List Yq1) a.2).bind fun c=>some (b,c)
def km (b:Int×(List Yq5)) (a:Int×Int×(List Yq5)):Option (Out yG (Int×Int×(List Yq5))):=
 if decide (a.1<(b.2.length:Int)) then ((aT b.2 a.1).bind fun c=>(ct (c.1,c.2)).bind fun d=>(cd 48 a.2.2 ([(d.1,d.2)])).bind fun e=>some (.nxt (i64.wrap (a.1+1),a.2.1,e))) else (some (.brk (a.1,a.2.1,a.2.2)))
def pb (a:Int×(List Yq5)):Option yG:=
 aP (ay (km a) aW (0,a.1,[])) (fun r=>some r) (fun b=>some (b.2.1,b.2.2))
def jf (b:Int×(List Bool)×(List (List Int))) (a:Int×Int×(List Bool)×(List (List Int))):Option (Out Yq2 (Int×Int×(List Bool)×(List (List Int)))):=
 if decide (a.1<(b.2.2.length:Int)) then ((aT b.2.2 a.1).bind fun c=>(cd 8 ([] :List Int) c).bind fun d=>(cd 24 a.2.2.2 ([d])).bind fun e=>some (.nxt (i64.wrap (a.1+1),a.2.1,a.2.2.1,e))) else (some (.brk (a.1,a.2.1,a.2.2.1,a.2.2.2)))
def pV (a:Int×(List Bool)×(List (List Int))):Option Yq2:=
 (cd 1 ([] :List Bool) a.2.1).bind fun c=>aP (ay (jf a) aW (0,a.1,c,[])) (fun r=>some r) (fun b=>some (b.2.1,b.2.2.1,b.2.2.2))
def jg (d:(List Yq2)×(List Yq3)) (a:Int×(List Yq2)×(List Yq3)):Option (Out Yq8 OX):=
 if decide (a.1<(d.1.length:Int)) then ((aT d.1 a.1).bind fun b=>(pV (b.1,b.2.1,b.2.2)).bind fun c=>(cd 56 a.2.1 ([(c.1,c.2.1,c.2.2)])).bind fun e=>some (.nxt (i64.wrap (a.1+1),e,a.2.2))) else (some (.brk (a.1,a.2.1,a.2.2)))
def jh (c:(List Yq2)×(List Yq3)) (a:Int×(List Yq2)×(List Yq3)):Option (Out Yq8 OX):=
 if decide (a.1<(c.2.length:Int)) then ((aT c.2 a.1).bind fun b=>(gG b.2.1).bind fun d=>(cd 40 a.2.2 ([(b.1,d,b.2.2)])).bind fun e=>some (.nxt (i64.wrap (a.1+1),a.2.1,e))) else (some (.brk (a.1,a.2.1,a.2.2)))
def pW (a:(List Yq2)×(List Yq3)):Option Yq8:=
 aP (ay (jg a) aW (0,[],[])) (fun r=>some r) (fun b=>aP (ay (jh a) aW (0,b.2.1,b.2.2)) (fun r=>some r) (fun c=>some (c.2.1,c.2.2)))
def ny (a:yG×Yq8×Yq7×ByteArray):Option (yG×Yq8×Yq7×ByteArray):=
 (pb (a.1.1,a.1.2)).bind fun b=>(pW (a.2.1.1,a.2.1.2)).bind fun c=>(cd 24 ([] :List (Int×Int×Int)) a.2.2.1).bind fun d=>some ((b.1,b.2),(c.1,c.2),d,a.2.2.2)
def gz (b:(List Int)×(List Yq1)) (c:Int) (a:Int):Option (Out Int Int):=
 if decide (a<(b.2.length:Int)) then ((aT b.2 a).bind fun d=>if d.1==c then (some (.ret a)) else (some (.nxt (i64.wrap (a+1))))) else (some (.brk a))
def iJ (a:(List Int)×(List Yq1)) (b:Int):Option Int:=
 aP (ay (gz a b) aW 0) (fun r=>some r) (fun c=>some (-1))
def iK (b:(List Int)×(List Yq1)) (c:Int×Int×Int×Int) (a:Int):Option (Out (Yq5×Bool) Int):=
 if decide (a<(b.2.length:Int)) then ((aT b.2 a).bind fun d=>if decide (d.1<c.1) then (some (.nxt (i64.wrap (a+1)))) else (some (.brk a))) else (some (.brk a))
def lC (a:(List Int)×(List Yq1)) (b:Int×Int×Int×Int):Option (Yq5×Bool):=
 (cV (a.1,a.2)).bind fun h=>if h then ((o8 (a.1,a.2) (b.1,b.2.1,b.2.2.1,b.2.2.2)).bind fun i=>if i then ((iJ (a.1,a.2) b.1).bind fun j=>if decide (j≥0) then ((ct (a.1,a.2)).bind fun d=>some ((d.1,d.2),false)) else (if (a.2.length:Int)==12 then ((ct (a.1,a.2)).bind fun e=>some ((e.1,e.2),false)) else (aP (ay (iK a b) aW 0) (fun r=>some r) (fun c=>(cd 8 ([] :List Int) a.1).bind fun k=>(chk (0<=c/\c<=(a.2.length:Int))).bind fun _=>(cd 32 ([] :List Yq1) (a.2.take c.toNat)).bind fun l=>(cd 32 l ([(b.1,b.2.1,b.2.2.1,b.2.2.2)])).bind fun m=>(chk (0<=c/\c<=(a.2.length:Int))).bind fun _=>(cd 32 m (a.2.drop c.toNat)).bind fun n=>some ((k,n),true))))) else ((ct (a.1,a.2)).bind fun f=>some ((f.1,f.2),false))) else ((ct (a.1,a.2)).bind fun g=>some ((g.1,g.2),false))
def lD (a:(List Int)×(List Yq1)) (e:Int):Option (Yq5×Bool):=
 (iJ (a.1,a.2) e).bind fun b=>(cV (a.1,a.2)).bind fun f=>if f then (if decide (b<0) then ((ct (a.1,a.2)).bind fun c=>some ((c.1,c.2),false)) else ((cd 8 ([] :List Int) a.1).bind fun g=>(chk (0<=b/\b<=(a.2.length:Int))).bind fun _=>(cd 32 ([] :List Yq1) (a.2.take b.toNat)).bind fun h=>(chk (0<=i64.wrap (b+1)/\i64.wrap (b+1)<=(a.2.length:Int))).bind fun _=>(cd 32 h (a.2.drop (i64.wrap (b+1)).toNat)).bind fun i=>some ((g,i),true))) else ((ct (a.1,a.2)).bind fun d=>some ((d.1,d.2),false))
def fc (c:(List Int)×(List Yq1)) (e:(List (Bool×Yq1))) (a:Int×(List Int)×(List Yq1)):Option (Out (Yq5×Bool) (Int×(List Int)×(List Yq1))):=
 if decide (a.1<(e.length:Int)) then (if decide (a.1<=6) then (l7 (S:=(List Int)×(List Yq1)) ((aT e a.1).bind fun b=>(aT e a.1).bind fun n=>if n.1 then ((lC (a.2.1,a.2.2) (b.2.1,b.2.2.1,b.2.2.2.1,b.2.2.2.2)).bind fun f=>if f.2 then (some (.inr (f.1.1,f.1.2))) else ((ct (c.1,c.2)).bind fun h=>some (.inl (.ret ((h.1,h.2),false))))) else ((iJ (a.2.1,a.2.2) b.2.1).bind fun i=>if decide (i<0) then ((ct (c.1,c.2)).bind fun j=>some (.inl (.ret ((j.1,j.2),false)))) else ((aT a.2.2 i).bind fun d=>if (d.1==b.2.1)&&((d.2.1==b.2.2.1)&&((d.2.2.1==b.2.2.2.1)&&((d.2.2.2==b.2.2.2.2)&&true))) then ((lD (a.2.1,a.2.2) b.2.1).bind fun g=>if g.2 then (some (.inr (g.1.1,g.1.2))) else ((ct (c.1,c.2)).bind fun k=>some (.inl (.ret ((k.1,k.2),false))))) else ((ct (c.1,c.2)).bind fun l=>some (.inl (.ret ((l.1,l.2),false))))))) (fun m=>some (.nxt (i64.wrap (a.1+1),m.1,m.2)))) else (some (.brk (a.1,a.2.1,a.2.2)))) else (some (.brk (a.1,a.2.1,a.2.2)))
def uf (a:(List Int)×(List Yq1)) (d:(List (Bool×Yq1))):Option (Yq5×Bool):=
 (ct (a.1,a.2)).bind fun b=>aP (ay (fc a d) aW (0,b.1,b.2)) (fun r=>some r) (fun c=>some ((c.2.1,c.2.2),true))
def ji (a:(List Int)×(List Yq1)) (c:(List (Bool×Yq1))):Option (Yq5×Bool):=
 (cV (a.1,a.2)).bind fun f=>if f then (if decide ((c.length:Int)>6) then ((ct (a.1,a.2)).bind fun d=>some ((d.1,d.2),false)) else ((uf (a.1,a.2) c).bind fun b=>some ((b.1.1,b.1.2),b.2))) else ((ct (a.1,a.2)).bind fun e=>some ((e.1,e.2),false))
def iu (b:Int×List ((List Int)×List Yq1)) (g:List Yq4):Option (Yq9×Bool):=
 (pb (b.1,b.2)).bind fun a=>(m_s_IsValidHistory (b.1,b.2)).bind fun h=>if h then ((a8 (b.1,b.2)).bind fun i=>if i==999 then (some ((a.1,a.2),false)) else ((aT b.2 (i64.wrap ((b.2.length:Int) - 1))).bind fun e=>(ji (e.1,e.2) g).bind fun d=>if d.2 then ((cd 48 a.2 ([(d.1.1,d.1.2)])).bind fun c=>Option.bind ((if decide ((c.length:Int)>8) then ((chk (And ((0:Int)<=1) (1<=(c.length:Int)))).bind fun _=>some (i64.wrap (a.1+1),c.drop 1)) else (some (a.1,c)):Option Yq9)) (fun f=>some ((f.1,f.2),true))) else (some ((a.1,a.2),false)))) else (some ((a.1,a.2),false))
def iw (b:Yq9×Yq6×Yq7×ByteArray) (d:List Yq4):Option ((Yq9×Yq6×Yq7×ByteArray)×Bool):=
 (ny ((b.1.1,b.1.2),(b.2.1.1,b.2.1.2),b.2.2.1,b.2.2.2)).bind fun a=>(dV ((b.1.1,b.1.2),(b.2.1.1,b.2.1.2),b.2.2.1,b.2.2.2)).bind fun f=>if f then ((iu (b.1.1,b.1.2) d).bind fun c=>if c.2 then ((a8 (c.1.1,c.1.2)).bind fun g=>(dE g d).bind fun e=>if decide ((i64.wrap (((b.2.2.2.size:Nat):Int)+((e.size:Nat):Int)))>4000) then (some (((a.1.1,a.1.2),(a.2.1.1,a.2.1.2),a.2.2.1,a.2.2.2),false)) else ((lh b.2.2.2 e).bind fun h=>some (((c.1.1,c.1.2),(a.2.1.1,a.2.1.2),a.2.2.1,h),true))) else (some (((a.1.1,a.1.2),(a.2.1.1,a.2.1.2),a.2.2.1,a.2.2.2),false))) else (some (((a.1.1,a.1.2),(a.2.1.1,a.2.1.2),a.2.2.1,a.2.2.2),false))
def ba (d:(List Int)×(List (List Yq4))×Int) (a:Int×Int×(List (List Yq4))×Int×(List ((List Int)×List Yq1))×(List (Int×(List Bool)×List (List Int)))×(List (Int×(List Yq1)×Int))×Yq7×ByteArray):Option (Out ((Yq9×Yq6×Yq7×ByteArray)×Int) YZ):=
 if decide (a.2.1<(d.1.length:Int)) then (l7 (S:=Int×(List (List Yq4))×Int×(List ((List Int)×List Yq1))×(List (Int×(List Bool)×List (List Int)))×(List (Int×(List Yq1)×Int))×Yq7×ByteArray) ((aT d.1 a.2.1).bind fun e=>(a8 (a.2.2.2.1,a.2.2.2.2.1)).bind fun f=>if decide (e<=f) then (some (.inr (a.1,a.2.2.1,a.2.2.2.1,a.2.2.2.2.1,a.2.2.2.2.2.1,a.2.2.2.2.2.2.1,a.2.2.2.2.2.2.2.1,a.2.2.2.2.2.2.2.2))) else ((aT a.2.2.1 a.2.1).bind fun g=>(iw ((a.2.2.2.1,a.2.2.2.2.1),(a.2.2.2.2.2.1,a.2.2.2.2.2.2.1),a.2.2.2.2.2.2.2.1,a.2.2.2.2.2.2.2.2) g).bind fun c=>if c.2 then ((aT d.1 a.2.1).bind fun h=>(a8 (a.2.2.2.1,a.2.2.2.2.1)).bind fun i=>if h !=(i64.wrap (i+1)) then (some (.inl (.ret (((a.2.2.2.1,a.2.2.2.2.1),(a.2.2.2.2.2.1,a.2.2.2.2.2.2.1),a.2.2.2.2.2.2.2.1,a.2.2.2.2.2.2.2.2),a.1)))) else (some (.inr (i64.wrap (a.1+1),a.2.2.1,c.1.1.1,c.1.1.2,c.1.2.1.1,c.1.2.1.2,c.1.2.2.1,c.1.2.2.2)))) else (some (.inl (.ret (((a.2.2.2.1,a.2.2.2.2.1),(a.2.2.2.2.2.1,a.2.2.2.2.2.2.1),a.2.2.2.2.2.2.2.1,a.2.2.2.2.2.2.2.2),a.1)))))) (fun b=>some (.nxt (b.1,i64.wrap (a.2.1+1),b.2.1,b.2.2.1,b.2.2.2.1,b.2.2.2.2.1,b.2.2.2.2.2.1,b.2.2.2.2.2.2.1,b.2.2.2.2.2.2.2)))) else (some (.brk (a.1,a.2.1,a.2.2.1,a.2.2.2.1,a.2.2.2.2.1,a.2.2.2.2.2.1,a.2.2.2.2.2.2.1,a.2.2.2.2.2.2.2.1,a.2.2.2.2.2.2.2.2)))
def iL (a:Yq9×Yq6×Yq7×ByteArray) (e:ByteArray):Option ((Yq9×Yq6×Yq7×ByteArray)×Int):=
 (ny ((a.1.1,a.1.2),(a.2.1.1,a.2.1.2),a.2.2.1,a.2.2.2)).bind fun b=>(dV ((a.1.1,a.1.2),(a.2.1.1,a.2.1.2),a.2.2.1,a.2.2.2)).bind fun f=>if f then ((m_s_ScanLog e).bind fun d=>aP (ay (ba d) aW (0,0,d.2.1,b.1.1,b.1.2,b.2.1.1,b.2.1.2,b.2.2.1,b.2.2.2)) (fun g=>some g) (fun c=>some (((c.2.2.2.1,c.2.2.2.2.1),(c.2.2.2.2.2.1,c.2.2.2.2.2.2.1),c.2.2.2.2.2.2.2.1,c.2.2.2.2.2.2.2.2),c.1))) else (some (((b.1.1,b.1.2),(b.2.1.1,b.2.1.2),b.2.2.1,b.2.2.2),0))
def sI (a:List Int) (b:Int):Option Int:=
 if decide (i64.wrap (b - (a.length:Int))<0) then (some (-1)) else (some (i64.wrap (b - (a.length:Int))))
def ug (a:List Yq1) (b:Int):Option Int:=
 if decide (i64.wrap (b - (a.length:Int))<0) then (some (-1)) else (some (i64.wrap (b - (a.length:Int))))
def pX (a:(List Int)×(List Yq1)) (d:Int):Option Int:=
 (sI a.1 d).bind fun b=>if decide (b<0) then (some (-1)) else ((ug a.2 b).bind fun c=>if decide (c<0) then (some (-1)) else (some c))
def ko (b:List Yq5) (a:Int×Int):Option Jd:=
 if decide (a.2<(b.length:Int)) then ((aT b a.2).bind fun c=>(pX (c.1,c.2) a.1).bind fun d=>if decide (d<0) then (some (.ret (-1))) else (some (.nxt (d,i64.wrap (a.2+1))))) else (some (.brk (a.1,a.2)))
def ru (a:List Yq5) (b:Int):Option Int:=
 if decide (i64.wrap (b - (a.length:Int))<0) then (some (-1)) else (aP (ay (ko a) aW (i64.wrap (b - (a.length:Int)),0)) (fun r=>some r) (fun c=>some c.1))
def mB (b:Int×(List Yq5)) (c:Int):Option Int:=
 (ru b.2 c).bind fun a=>if decide (a<0) then (some (-1)) else (some a)
def uh (a:List Bool) (b:Int):Option Int:=
 if decide (i64.wrap (b - (a.length:Int))<0) then (some (-1)) else (some (i64.wrap (b - (a.length:Int))))
def lE (b:List (List Int)) (a:Int×Int):Option Jd:=
 if decide (a.2<(b.length:Int)) then ((aT b a.2).bind fun d=>(sI d a.1).bind fun c=>if decide (c<0) then (some (.ret (-1))) else (some (.nxt (c,i64.wrap (a.2+1))))) else (some (.brk (a.1,a.2)))
def ui (a:List (List Int)) (b:Int):Option Int:=
 if decide (i64.wrap (b - (a.length:Int))<0) then (some (-1)) else (aP (ay (lE a) aW (i64.wrap (b - (a.length:Int)),0)) (fun r=>some r) (fun c=>some c.1))
def kp (a:Int×(List Bool)×(List (List Int))) (d:Int):Option Int:=
 (uh a.2.1 d).bind fun b=>if decide (b<0) then (some (-1)) else ((ui a.2.2 b).bind fun c=>if decide (c<0) then (some (-1)) else (some c))
def gk (c:List Yq2) (a:Int×Int):Option Jd:=
 if decide (a.2<(c.length:Int)) then ((aT c a.2).bind fun b=>(kp (b.1,b.2.1,b.2.2) a.1).bind fun d=>if decide (d<0) then (some (.ret (-1))) else (some (.nxt (d,i64.wrap (a.2+1))))) else (some (.brk (a.1,a.2)))
def ma (a:List Yq2) (b:Int):Option Int:=
 if decide (i64.wrap (b - (a.length:Int))<0) then (some (-1)) else (aP (ay (gk a) aW (i64.wrap (b - (a.length:Int)),0)) (fun r=>some r) (fun c=>some c.1))
def rv (a:List Yq1) (b:Int):Option Int:=
 if decide (i64.wrap (b - (a.length:Int))<0) then (some (-1)) else (some (i64.wrap (b - (a.length:Int))))
def sJ (b:(List Yq1)) (c:Int):Option Int:=
 (rv b c).bind fun a=>if decide (a<0) then (some (-1)) else (some a)
def jo (b:Int×((List Yq1))×Int) (c:Int):Option Int:=
 (sJ b.2.1 c).bind fun a=>if decide (a<0) then (some (-1)) else (some a)
def fo (c:List Yq3) (a:Int×Int):Option Jd:=
 if decide (a.2<(c.length:Int)) then ((aT c a.2).bind fun b=>(jo (b.1,b.2.1,b.2.2) a.1).bind fun d=>if decide (d<0) then (some (.ret (-1))) else (some (.nxt (d,i64.wrap (a.2+1))))) else (some (.brk (a.1,a.2)))
def kS (a:List Yq3) (b:Int):Option Int:=
 if decide (i64.wrap (b - (a.length:Int))<0) then (some (-1)) else (aP (ay (fo a) aW (i64.wrap (b - (a.length:Int)),0)) (fun r=>some r) (fun c=>some c.1))
def lF (a:(List Yq2)×(List Yq3)) (d:Int):Option Int:=
 (ma a.1 d).bind fun b=>if decide (b<0) then (some (-1)) else ((kS a.2 b).bind fun c=>if decide (c<0) then (some (-1)) else (some c))
def kT (a:List (Int×Int×Int)) (b:Int):Option Int:=
 if decide (i64.wrap (b - (a.length:Int))<0) then (some (-1)) else (some (i64.wrap (b - (a.length:Int))))
def ot (a:yG×Yq8×Yq7×ByteArray) (e:Int):Option Int:=
 (mB (a.1.1,a.1.2) e).bind fun c=>if decide (c<0) then (some (-1)) else ((lF (a.2.1.1,a.2.1.2) c).bind fun d=>if decide (d<0) then (some (-1)) else ((kT a.2.2.1 d).bind fun b=>if decide (b<0) then (some (-1)) else (if decide (i64.wrap (b - (a.2.2.2.size:Int))<0) then (some (-1)) else (some (i64.wrap (b - (a.2.2.2.size:Int)))))))
def mC (b:List Int) (a:(List Int)×Int):Option (Out (List Int) ((List Int)×Int)):=
 if decide (a.2<(b.length:Int)) then ((aT b a.2).bind fun c=>(aT a.1 a.2).bind fun d=>some (.nxt (a.1.set a.2.toNat c,i64.wrap (a.2+1)))) else (some (.brk (a.1,a.2)))
def pc (a:List Int):Option (List Int):=
 (mkI 8 (a.length:Int) (0:Int)).bind fun b=>aP (ay (mC a) aW (b,0)) (fun r=>some r) (fun c=>some c.1)
def sK (a:Int×Int×Int×Int):Option Yq1:=
 some (a.1,a.2.1,a.2.2.1,a.2.2.2)
def lG (d:List Yq1) (a:(List Yq1)×Int):Option (Out (List Yq1) ((List Yq1)×Int)):=
 if decide (a.2<(d.length:Int)) then ((aT d a.2).bind fun b=>(sK (b.1,b.2.1,b.2.2.1,b.2.2.2)).bind fun c=>(aT a.1 a.2).bind fun e=>some (.nxt (a.1.set a.2.toNat (c.1,c.2.1,c.2.2.1,c.2.2.2),i64.wrap (a.2+1)))) else (some (.brk (a.1,a.2)))
def pY (a:List Yq1):Option (List Yq1):=
 (mkI 32 (a.length:Int) ((0,0,0,0):Int×Int×Int×Int)).bind fun b=>aP (ay (lG a) aW (b,0)) (fun r=>some r) (fun c=>some c.1)
def pZ (a:(List Int)×(List Yq1)):Option Yq5:=
 (pc a.1).bind fun b=>(pY a.2).bind fun c=>some (b,c)
def kq (b:List Yq5) (a:(List Yq5)×Int):Option (Out (List Yq5) ((List Yq5)×Int)):=
 if decide (a.2<(b.length:Int)) then ((aT b a.2).bind fun c=>(pZ (c.1,c.2)).bind fun d=>(aT a.1 a.2).bind fun e=>some (.nxt (a.1.set a.2.toNat (d.1,d.2),i64.wrap (a.2+1)))) else (some (.brk (a.1,a.2)))
def ou (a:List Yq5):Option (List Yq5):=
 (mkI 48 (a.length:Int) (([],[]):(List Int)×(List Yq1))).bind fun b=>aP (ay (kq a) aW (b,0)) (fun r=>some r) (fun c=>some c.1)
def mD (a:Int×(List Yq5)):Option yG:=
 (ou a.2).bind fun b=>some (a.1,b)
def lH (b:List Bool) (a:(List Bool)×Int):Option (Out (List Bool) ((List Bool)×Int)):=
 if decide (a.2<(b.length:Int)) then ((aT b a.2).bind fun c=>(aT a.1 a.2).bind fun d=>some (.nxt (a.1.set a.2.toNat c,i64.wrap (a.2+1)))) else (some (.brk (a.1,a.2)))
def p7 (a:List Bool):Option (List Bool):=
 (mkI 1 (a.length:Int) (false:Bool)).bind fun b=>aP (ay (lH a) aW (b,0)) (fun r=>some r) (fun c=>some c.1)
def lI (b:List (List Int)) (a:(List (List Int))×Int):Option (Out (List (List Int)) ((List (List Int))×Int)):=
 if decide (a.2<(b.length:Int)) then ((aT b a.2).bind fun c=>(pc c).bind fun d=>(aT a.1 a.2).bind fun e=>some (.nxt (a.1.set a.2.toNat d,i64.wrap (a.2+1)))) else (some (.brk (a.1,a.2)))
def p8 (a:List (List Int)):Option (List (List Int)):=
 (mkI 24 (a.length:Int) ([] :List Int)).bind fun b=>aP (ay (lI a) aW (b,0)) (fun r=>some r) (fun c=>some c.1)
def kt (a:Int×(List Bool)×(List (List Int))):Option Yq2:=
 (p7 a.2.1).bind fun b=>(p8 a.2.2).bind fun c=>some (a.1,b,c)
def gl (d:List Yq2) (a:(List Yq2)×Int):Option (Out (List Yq2) ((List Yq2)×Int)):=
 if decide (a.2<(d.length:Int)) then ((aT d a.2).bind fun b=>(kt (b.1,b.2.1,b.2.2)).bind fun c=>(aT a.1 a.2).bind fun e=>some (.nxt (a.1.set a.2.toNat (c.1,c.2.1,c.2.2),i64.wrap (a.2+1)))) else (some (.brk (a.1,a.2)))
def jq (a:List Yq2):Option (List Yq2):=
 (mkI 56 (a.length:Int) ((0,[],[]):Int×(List Bool)×(List (List Int)))).bind fun b=>aP (ay (gl a) aW (b,0)) (fun r=>some r) (fun c=>some c.1)
def p9 (a:Int×Int×Int×Int):Option Yq1:=
 some (a.1,a.2.1,a.2.2.1,a.2.2.2)
def ku (d:List Yq1) (a:(List Yq1)×Int):Option (Out (List Yq1) ((List Yq1)×Int)):=
 if decide (a.2<(d.length:Int)) then ((aT d a.2).bind fun b=>(p9 (b.1,b.2.1,b.2.2.1,b.2.2.2)).bind fun c=>(aT a.1 a.2).bind fun e=>some (.nxt (a.1.set a.2.toNat (c.1,c.2.1,c.2.2.1,c.2.2.2),i64.wrap (a.2+1)))) else (some (.brk (a.1,a.2)))
def ox (a:List Yq1):Option (List Yq1):=
 (mkI 32 (a.length:Int) ((0,0,0,0):Int×Int×Int×Int)).bind fun b=>aP (ay (ku a) aW (b,0)) (fun r=>some r) (fun c=>some c.1)
def sL (a:(List Yq1)):Option (List Yq1):=
 (ox a).bind fun b=>some b
def jr (a:Int×((List Yq1))×Int):Option Yq3:=
 (sL a.2.1).bind fun b=>some (a.1,b,a.2.2)
def fp (d:List Yq3) (a:(List Yq3)×Int):Option (Out (List Yq3) ((List Yq3)×Int)):=
 if decide (a.2<(d.length:Int)) then ((aT d a.2).bind fun b=>(jr (b.1,b.2.1,b.2.2)).bind fun c=>(aT a.1 a.2).bind fun e=>some (.nxt (a.1.set a.2.toNat (c.1,c.2.1,c.2.2),i64.wrap (a.2+1)))) else (some (.brk (a.1,a.2)))
def iM (a:List Yq3):Option (List Yq3):=
 (mkI 40 (a.length:Int) ((0,[],0):Int×((List Yq1))×Int)).bind fun b=>aP (ay (fp a) aW (b,0)) (fun r=>some r) (fun c=>some c.1)
def lJ (a:(List Yq2)×(List Yq3)):Option Yq8:=
 (jq a.1).bind fun b=>(iM a.2).bind fun c=>some (b,c)
def jt (a:Int×Int×Int):Option (Int×Int×Int):=
 some (a.1,a.2.1,a.2.2)
def fq (d:List (Int×Int×Int)) (a:Yq7×Int):Option (Out Yq7 (Yq7×Int)):=
 if decide (a.2<(d.length:Int)) then ((aT d a.2).bind fun b=>(jt (b.1,b.2.1,b.2.2)).bind fun c=>(aT a.1 a.2).bind fun e=>some (.nxt (a.1.set a.2.toNat (c.1,c.2.1,c.2.2),i64.wrap (a.2+1)))) else (some (.brk (a.1,a.2)))
def iN (a:List (Int×Int×Int)):Option Yq7:=
 (mkI 24 (a.length:Int) ((0,0,0):Int×Int×Int)).bind fun b=>aP (ay (fq a) aW (b,0)) (fun r=>some r) (fun c=>some c.1)
def jL (a:yG×Yq8×Yq7×ByteArray):Option (yG×Yq8×Yq7×ByteArray):=
 (mD (a.1.1,a.1.2)).bind fun b=>(lJ (a.2.1.1,a.2.1.2)).bind fun c=>(iN a.2.2.1).bind fun d=>some ((b.1,b.2),(c.1,c.2),d,a.2.2.2)
def mE (b:List Int) (c:List Int) (a:Int):Option (Out Bool Int):=
 if decide (a<(b.length:Int)) then ((aT b a).bind fun d=>(aT c a).bind fun e=>if d !=e then (some (.ret false)) else (some (.nxt (i64.wrap (a+1))))) else (some (.brk a))
def sM (a:List Int) (b:List Int):Option Bool:=
 if (a.length:Int) !=(b.length:Int) then (some false) else (aP (ay (mE a b) aW 0) (fun r=>some r) (fun c=>some true))
def sN (a:Int×Int×Int×Int) (b:Int×Int×Int×Int):Option Bool:=
 if a.1 !=b.1 then (some false) else (if a.2.1 !=b.2.1 then (some false) else (if a.2.2.1 !=b.2.2.1 then (some false) else (if a.2.2.2 !=b.2.2.2 then (some false) else (some true))))
def lK (d:List Yq1) (e:List Yq1) (a:Int):Option (Out Bool Int):=
 if decide (a<(d.length:Int)) then ((aT d a).bind fun b=>(aT e a).bind fun c=>(sN (b.1,b.2.1,b.2.2.1,b.2.2.2) (c.1,c.2.1,c.2.2.1,c.2.2.2)).bind fun f=>if f then (some (.nxt (i64.wrap (a+1)))) else (some (.ret false))) else (some (.brk a))
def uj (a:List Yq1) (b:List Yq1):Option Bool:=
 if (a.length:Int) !=(b.length:Int) then (some false) else (aP (ay (lK a b) aW 0) (fun r=>some r) (fun c=>some true))
def qa (a:(List Int)×(List Yq1)) (b:(List Int)×(List Yq1)):Option Bool:=
 (sM a.1 b.1).bind fun c=>if c then ((uj a.2 b.2).bind fun d=>if d then (some true) else (some false)) else (some false)
def ky (b:List Yq5) (e:List Yq5) (a:Int):Option (Out Bool Int):=
 if decide (a<(b.length:Int)) then ((aT b a).bind fun c=>(aT e a).bind fun d=>(qa (c.1,c.2) (d.1,d.2)).bind fun f=>if f then (some (.nxt (i64.wrap (a+1)))) else (some (.ret false))) else (some (.brk a))
def ry (a:List Yq5) (b:List Yq5):Option Bool:=
 if (a.length:Int) !=(b.length:Int) then (some false) else (aP (ay (ky a b) aW 0) (fun r=>some r) (fun c=>some true))
def mF (a:Int×(List Yq5)) (b:Int×(List Yq5)):Option Bool:=
 if a.1 !=b.1 then (some false) else ((ry a.2 b.2).bind fun c=>if c then (some true) else (some false))
def lL (b:List Bool) (c:List Bool) (a:Int):Option (Out Bool Int):=
 if decide (a<(b.length:Int)) then ((aT b a).bind fun d=>(aT c a).bind fun e=>if d !=e then (some (.ret false)) else (some (.nxt (i64.wrap (a+1))))) else (some (.brk a))
def uk (a:List Bool) (b:List Bool):Option Bool:=
 if (a.length:Int) !=(b.length:Int) then (some false) else (aP (ay (lL a b) aW 0) (fun r=>some r) (fun c=>some true))
def lM (b:List (List Int)) (c:List (List Int)) (a:Int):Option (Out Bool Int):=
 if decide (a<(b.length:Int)) then ((aT b a).bind fun d=>(aT c a).bind fun e=>(sM d e).bind fun f=>if f then (some (.nxt (i64.wrap (a+1)))) else (some (.ret false))) else (some (.brk a))
def um (a:List (List Int)) (b:List (List Int)):Option Bool:=
 if (a.length:Int) !=(b.length:Int) then (some false) else (aP (ay (lM a b) aW 0) (fun r=>some r) (fun c=>some true))
def kz (a:Int×(List Bool)×(List (List Int))) (b:Int×(List Bool)×(List (List Int))):Option Bool:=
 if a.1 !=b.1 then (some false) else ((uk a.2.1 b.2.1).bind fun c=>if c then ((um a.2.2 b.2.2).bind fun d=>if d then (some true) else (some false)) else (some false))
def gm (d:List Yq2) (e:List Yq2) (a:Int):Option (Out Bool Int):=
 if decide (a<(d.length:Int)) then ((aT d a).bind fun b=>(aT e a).bind fun c=>(kz (b.1,b.2.1,b.2.2) (c.1,c.2.1,c.2.2)).bind fun f=>if f then (some (.nxt (i64.wrap (a+1)))) else (some (.ret false))) else (some (.brk a))
def mb (a:List Yq2) (b:List Yq2):Option Bool:=
 if (a.length:Int) !=(b.length:Int) then (some false) else (aP (ay (gm a b) aW 0) (fun r=>some r) (fun c=>some true))
def qb (a:Int×Int×Int×Int) (b:Int×Int×Int×Int):Option Bool:=
 if a.1 !=b.1 then (some false) else (if a.2.1 !=b.2.1 then (some false) else (if a.2.2.1 !=b.2.2.1 then (some false) else (if a.2.2.2 !=b.2.2.2 then (some false) else (some true))))
def kA (d:List Yq1) (e:List Yq1) (a:Int):Option (Out Bool Int):=
 if decide (a<(d.length:Int)) then ((aT d a).bind fun b=>(aT e a).bind fun c=>(qb (b.1,b.2.1,b.2.2.1,b.2.2.2) (c.1,c.2.1,c.2.2.1,c.2.2.2)).bind fun f=>if f then (some (.nxt (i64.wrap (a+1)))) else (some (.ret false))) else (some (.brk a))
def rz (a:List Yq1) (b:List Yq1):Option Bool:=
 if (a.length:Int) !=(b.length:Int) then (some false) else (aP (ay (kA a b) aW 0) (fun r=>some r) (fun c=>some true))
def sO (a:(List Yq1)) (b:(List Yq1)):Option Bool:=
 (rz a b).bind fun c=>if c then (some true) else (some false)
def ju (a:Int×((List Yq1))×Int) (b:Int×((List Yq1))×Int):Option Bool:=
 if a.1 !=b.1 then (some false) else ((sO a.2.1 b.2.1).bind fun c=>if c then (if a.2.2 !=b.2.2 then (some false) else (some true)) else (some false))
def fu (d:List Yq3) (e:List Yq3) (a:Int):Option (Out Bool Int):=
 if decide (a<(d.length:Int)) then ((aT d a).bind fun b=>(aT e a).bind fun c=>(ju (b.1,b.2.1,b.2.2) (c.1,c.2.1,c.2.2)).bind fun f=>if f then (some (.nxt (i64.wrap (a+1)))) else (some (.ret false))) else (some (.brk a))
def kU (a:List Yq3) (b:List Yq3):Option Bool:=
 if (a.length:Int) !=(b.length:Int) then (some false) else (aP (ay (fu a b) aW 0) (fun r=>some r) (fun c=>some true))
def lN (a:(List Yq2)×(List Yq3)) (b:(List Yq2)×(List Yq3)):Option Bool:=
 (mb a.1 b.1).bind fun c=>if c then ((kU a.2 b.2).bind fun d=>if d then (some true) else (some false)) else (some false)
def jv (a:Int×Int×Int) (b:Int×Int×Int):Option Bool:=
 if a.1 !=b.1 then (some false) else (if a.2.1 !=b.2.1 then (some false) else (if a.2.2 !=b.2.2 then (some false) else (some true)))
def fv (d:List (Int×Int×Int)) (e:List (Int×Int×Int)) (a:Int):Option (Out Bool Int):=
 if decide (a<(d.length:Int)) then ((aT d a).bind fun b=>(aT e a).bind fun c=>(jv (b.1,b.2.1,b.2.2) (c.1,c.2.1,c.2.2)).bind fun f=>if f then (some (.nxt (i64.wrap (a+1)))) else (some (.ret false))) else (some (.brk a))
def kV (a:List (Int×Int×Int)) (b:List (Int×Int×Int)):Option Bool:=
 if (a.length:Int) !=(b.length:Int) then (some false) else (aP (ay (fv a b) aW 0) (fun r=>some r) (fun c=>some true))
def oy (a:yG×Yq8×Yq7×ByteArray) (b:yG×Yq8×Yq7×ByteArray):Option Bool:=
 (mF (a.1.1,a.1.2) (b.1.1,b.1.2)).bind fun c=>if c then ((lN (a.2.1.1,a.2.1.2) (b.2.1.1,b.2.1.2)).bind fun d=>if d then ((kV a.2.2.1 b.2.2.1).bind fun e=>if e then (if a.2.2.2 !=b.2.2.2 then (some false) else (some true)) else (some false)) else (some false)) else (some false)
def fw (a:yG×Yq8×Yq7×ByteArray) (c:ByteArray):Option Int:=
 (dU ((a.1.1,a.1.2),(a.2.1.1,a.2.1.2),a.2.2.1,a.2.2.2)).bind fun d=>if d then ((iG ((a.1.1,a.1.2),(a.2.1.1,a.2.1.2),a.2.2.1,a.2.2.2) c).bind fun b=>(bH (b.1.1.1,b.1.1.2)).bind fun e=>some e) else (some 0)
def fx (a:yG×Yq8×Yq7×ByteArray) (c:ByteArray):Option Int:=
 (dV ((a.1.1,a.1.2),(a.2.1.1,a.2.1.2),a.2.2.1,a.2.2.2)).bind fun d=>if d then ((iL ((a.1.1,a.1.2),(a.2.1.1,a.2.1.2),a.2.2.1,a.2.2.2) c).bind fun b=>(a8 (b.1.1.1,b.1.1.2)).bind fun e=>some e) else (some 0)
def cU (a:yG×Yq8×Yq7×ByteArray) (e:ByteArray):Option Bool:=
 if decide ((e.size:Int)>1048576) then (some true) else ((ot ((a.1.1,a.1.2),(a.2.1.1,a.2.1.2),a.2.2.1,a.2.2.2) 1048576).bind fun f=>if decide (f<0) then (some true) else ((jL ((a.1.1,a.1.2),(a.2.1.1,a.2.1.2),a.2.2.1,a.2.2.2)).bind fun c=>(fx ((c.1.1,c.1.2),(c.2.1.1,c.2.1.2),c.2.2.1,c.2.2.2) e).bind fun g=>(jL ((a.1.1,a.1.2),(a.2.1.1,a.2.1.2),a.2.2.1,a.2.2.2)).bind fun b=>(fw ((b.1.1,b.1.2),(b.2.1.1,b.2.1.2),b.2.2.1,b.2.2.2) e).bind fun h=>if h !=g then (some false) else ((jL ((a.1.1,a.1.2),(a.2.1.1,a.2.1.2),a.2.2.1,a.2.2.2)).bind fun d=>(oy ((b.1.1,b.1.2),(b.2.1.1,b.2.1.2),b.2.2.1,b.2.2.2) ((d.1.1,d.1.2),(d.2.1.1,d.2.1.2),d.2.2.1,d.2.2.2)).bind fun i=>if i then (some true) else (some false))))
end D
end Go.Proofs.YtodbpnpbhpeepaaGreatDoor
