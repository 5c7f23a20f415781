/- FnDeterminism: for every input the law returns true and changes nothing that was there. Part 5 of 7. -/
import Derived.Test.YtobnepmpjgmpoaaGreatDC3
set_option linter.unusedVariables false
set_option linter.unusedSimpArgs false
set_option linter.unnecessarySimpa false
set_option linter.unusedSectionVars false
set_option maxRecDepth 1000000
namespace Go.Proofs.YtobnepmpjgmpoaaGreat
open Go.IntKind (i64)
namespace R
open Go.RowKit
open D
def Er (i:Nat):(p:PM)->p.den->AV
 | .rd t,d=>CJ i t d
 | .ow t,d=>C4 (gi i [] t d)
 | .fn a b,d=>.one (.fn ⟨i,[]⟩ a b d)
 | .cap T t,d=>.one (.fz ⟨i,[]⟩ T t d 0)
 | .capf T a b,d=>.one (.fzf ⟨i,[]⟩ T a b d)
 | .ptr _ _,_=>.one (.ptr ⟨i,[]⟩ 0)
 | .eat t,d=>C4 (gi i [] t d)
 | .fk g,_=>.one (.val (.func (.func g) #[] #[]))
 | .crs _ _,_=>.one (.ptr ⟨i,[]⟩ 0)
 | .kb _ _ _,_=>.one (.own ⟨i,[]⟩)
 | .kc _,_=>.one (.own ⟨i,[]⟩)
def AL (q i:Nat):(p:PM)->p.den->List (Hdr×Chk)
 | .ow t,d=>gK i [] t d
 | .ptr T t,d=>[(⟨i,[]⟩,.box T t d)]
 | .eat t,d=>gK i [] t d
 | .crs T E,d=>[(⟨i,[]⟩,.blk T [.rd ⟨q,[]⟩ (.sl E (.int .u8)) d.1,.val (.int .i64 d.2.1),.val (.int .i64 d.2.2)])]
 | .kb g T t,d=>[(⟨i,[]⟩,.clo g [] [.ptr ⟨q,[]⟩ 0]),(⟨q,[]⟩,.box T t d)]
 | .kc g,_=>[(⟨i,[]⟩,.clo g [] [.ptr ⟨q,[]⟩ 0])]
 | _,_=>[]
def AM:(i:Nat)->(ps:List PM)->denP ps->List (Nat×Nat×AV)
 | _,[],_=>[]
 | i,p::ps,d=>(i,i,Er i p d.1)::AM (i+1) ps d.2
def xr (q:Nat):(i:Nat)->(ps:List PM)->denP ps->List Ent
 | _,[],_=>[]
 | i,p::ps,d=>(AL q i p d.1).map (fun g=>(g.1,i,g.2))++xr q (i+1) ps d.2
def rP (ps:List PM) (d:denP ps):Sg:=⟨AM 0 ps d,xr ps.length 0 ps d,ps.length+1⟩
def O0 (P:Program) (w0:World) (J:Hp) (θ:Th) (n i:Nat):(p:PM)->Value->p.den->Prop
 | .ow t,v,d=>(gi i [] t d).2.map (·.v θ)=fm t.isProd v/\ ∀x∈(gi i [] t d).2,x.ok P w0 J θ n
 | .ptr _ _,v,_=>hv θ ⟨i,[]⟩=v/\i<n
 | .crs _ _,v,_=>hv θ ⟨i,[]⟩=v/\i<n
 | _,_,_=>True
def StF (P:Program) (w0:World) (J:Hp) (θ:Th) (n:Nat):(i:Nat)->(ps:List PM)->List Value->denP ps->Prop
 | i,p::ps,v::vs,d=>O0 P w0 J θ n i p v d.1/\StF P w0 J θ n (i+1) ps vs d.2
 | _,_,_,_=>True
section
variable {P:Program} {w0 w:World} {J:Hp} {θ:Th} {n:Nat} {C:List Ch}
theorem qa {id:Nat} {pre:List Nat} {t:Ty} {d:t.den} : ∀g∈gK id pre t d,Gq g.2:=eD t d 0
theorem Es {p:PM} {i:Nat} {v:Value} {d:p.den} {ps:List PM} {vs:List Value} {e:denP ps} {γ:Value} {q:Nat} (hi:i<n) (hq:q<n) (hγ:θ q=γ) (hθ:θ i=v) (h:N7 P w0 J γ p v d) (hS:St J w0 w (owCh γ (p::ps) (v::vs) (d,e)++C)) :
  (∀chs,(Er i p d).ok P w0 J θ n chs)/\(Er i p d).v θ=v/\St J w0 w ((AL q i p d).map (fun g=>toCh P θ (g.1,i,g.2))++(owCh γ ps vs e++C))/\(∀g∈AL q i p d,∀chs,okE P w0 J θ n chs (g.1,i,g.2))/\O0 P w0 J θ n i p v d:=by
 cases p with
 | rd t =>
  obtain ⟨cs,h1,h2⟩:=h
  have hav:=fun chs=>jZ (P:=P) (w0:=w0) (J:=J) (chs:=chs) hi hθ t d cs h2 h1
  exact ⟨fun chs=>(hav chs).1,(hav []).2,hS,fun g hg=>(by cases hg),trivial⟩
 | fn a b =>
  have hh:hv θ ⟨i,[]⟩=v:=hθ
  exact ⟨fun chs=>⟨hi,by rw[hh];exact h⟩,hh,hS,fun g hg=>(by cases hg),trivial⟩
 | cap T t =>
  obtain ⟨b,rfl,cells,h1,h2⟩:=h
  have hh:hv θ ⟨i,[]⟩= .pointer (some ⟨b,0,none⟩):=hθ
  refine ⟨fun chs=>⟨hi,cells,by rw[hh];exact h1,h2⟩,?_,hS,fun g hg=>(by cases hg),trivial⟩
  show Value.pointer (some ⟨bk (hv θ ⟨i,[]⟩),0,none⟩)=_
  rw[hh];rfl
 | capf T x y =>
  obtain ⟨b,rfl,u,h1,h2⟩:=h
  have hh:hv θ ⟨i,[]⟩= .pointer (some ⟨b,0,none⟩):=hθ
  refine ⟨fun chs=>⟨hi,u,by rw[hh];exact h1,h2⟩,?_,hS,fun g hg=>(by cases hg),trivial⟩
  show Value.pointer (some ⟨bk (hv θ ⟨i,[]⟩),0,none⟩)=_
  rw[hh];rfl
 | ptr T t =>
  obtain ⟨b,rfl⟩:=h
  have hh:hv θ ⟨i,[]⟩= .pointer (some ⟨b,0,none⟩):=hθ
  refine ⟨fun chs=>hi,?_,?_,fun g hg chs=>by obtain rfl:=ak hg;exact lI trivial hi hi,hh,hi⟩
  ·show Value.pointer (some ⟨bk (hv θ ⟨i,[]⟩),0,none⟩)=_
   rw[hh];rfl
  ·show St J w0 w (Ch.box (bk (hv θ ⟨i,[]⟩)) T t.rep d::_)
   rw[hh];exact hS
 | ow t =>
  have hS:St J w0 w (Ch.own t.rep (fm t.isProd v) d::(owCh γ ps vs e++C)):=hS
  obtain ⟨k1,k2,k3,k4,k5⟩:=n9 (P:=P) (m:=i) (pre:=[]) (id:=i) (n:=n) hi (show hv θ ⟨i,[]⟩=v from hθ) h hS
  have q:=fun chs=>uZ (P:=P) (w0:=w0) (J:=J) (θ:=θ) (n:=n) (chs:=chs) (gi i [] t d) (fun e=>lG e) k1
  exact ⟨fun chs=>(q chs).1,(q []).2.trans k3,k5,fun g hg chs=>lI (qa g hg) (by rw[k4 g hg];exact hi) hi,k2,k1⟩
 | eat t =>
  have hS:St J w0 w (Ch.own t.rep (fm t.isProd v) d::(owCh γ ps vs e++C)):=hS
  obtain ⟨k1,k2,k3,k4,k5⟩:=n9 (P:=P) (m:=i) (pre:=[]) (id:=i) (n:=n) hi (show hv θ ⟨i,[]⟩=v from hθ) h hS
  have q:=fun chs=>uZ (P:=P) (w0:=w0) (J:=J) (θ:=θ) (n:=n) (chs:=chs) (gi i [] t d) (fun e=>lG e) k1
  exact ⟨fun chs=>(q chs).1,(q []).2.trans k3,k5,fun g hg chs=>lI (qa g hg) (by rw[k4 g hg];exact hi) hi,trivial⟩
 | fk g =>
  obtain rfl:=h
  exact ⟨fun chs=>rfl,rfl,hS,fun g hg=>(by cases hg),trivial⟩
 | crs T E =>
  obtain ⟨⟨b,rfl⟩,hrd⟩:=h
  have hh:hv θ ⟨i,[]⟩= .pointer (some ⟨b,0,none⟩):=hθ
  have hg0:hv θ ⟨q,[]⟩=γ:=hγ
  refine ⟨fun chs=>hi,?_,?_,fun g hg chs=>?_,hh,hi⟩
  ·show Value.pointer (some ⟨bk (hv θ ⟨i,[]⟩),0,none⟩)=_
   rw[hh];rfl
  ·show St J w0 w (Ch.blk (bk (hv θ ⟨i,[]⟩)) [hv θ ⟨q,[]⟩,.int .i64 d.2.1,.int .i64 d.2.2] T::_)
   rw[hh,hg0];exact hS
  ·obtain rfl:=ak hg
   refine ⟨hi,hi,fun z hz=>?_⟩
   rcases au hz with rfl | hz
   ·exact ⟨hq,by rw[hg0];exact hrd⟩
   ·rcases au hz with rfl | hz
    ·exact Eq.refl true
    ·obtain rfl:=ak hz
     exact Eq.refl true
 | kb g T t =>
  obtain ⟨rfl,b,hb⟩:=h
  have hh:hv θ ⟨i,[]⟩= .func (.func g) #[] #[γ]:=hθ
  have hg0:hv θ ⟨q,[]⟩=γ:=hγ
  have hp:Value.pointer (some ⟨bk (hv θ ⟨q,[]⟩),0,none⟩)=γ:=by rw[hg0,hb];rfl
  refine ⟨fun chs=>⟨hi,by rw[hh];rfl⟩,hh,?_,fun g' hg chs=>?_,trivial⟩
  ·show St J w0 w (Ch.emp::Ch.box (bk (hv θ ⟨q,[]⟩)) T t.rep d::_)
   rw[hg0]
   exact St.emp.2 hS
  ·rcases au hg with rfl | hg
   ·refine ⟨hi,hi,fun y hy=>(by cases hy),fun x hx=>?_,?_⟩
    ·obtain rfl:=ak hx
     exact hq
    ·show hv θ ⟨i,[]⟩= .func (.func g) #[] #[Value.pointer (some ⟨bk (hv θ ⟨q,[]⟩),0,none⟩)]
     rw[hh,hp]
   ·obtain rfl:=ak hg
    exact lI trivial hq hi
 | kc g =>
  obtain ⟨rfl,b,hb⟩:=h
  have hh:hv θ ⟨i,[]⟩= .func (.func g) #[] #[γ]:=hθ
  have hg0:hv θ ⟨q,[]⟩=γ:=hγ
  have hp:Value.pointer (some ⟨bk (hv θ ⟨q,[]⟩),0,none⟩)=γ:=by rw[hg0,hb];rfl
  refine ⟨fun chs=>⟨hi,by rw[hh];rfl⟩,hh,?_,fun g' hg chs=>?_,trivial⟩
  ·show St J w0 w (Ch.emp::_)
   exact St.emp.2 hS
  ·obtain rfl:=ak hg
   refine ⟨hi,hi,fun y hy=>(by cases hy),fun x hx=>?_,?_⟩
   ·obtain rfl:=ak hx
    exact hq
   ·show hv θ ⟨i,[]⟩= .func (.func g) #[] #[Value.pointer (some ⟨bk (hv θ ⟨q,[]⟩),0,none⟩)]
    rw[hh,hp]
theorem AN {γ:Value} {q:Nat} (hq:q<n) (hγ:θ q=γ): ∀ {ps:List PM} {i:Nat} {vs:List Value} {d:denP ps} {C:List Ch},PArgs P w0 J γ ps vs d->(∀j v,vs[j]? =some v->θ (i+j)=v)->i+ps.length<=n->St J w0 w (owCh γ ps vs d++C)->
  (∀e∈AM i ps d,(∀chs,e.2.2.ok P w0 J θ n chs)/\i<=e.1/\e.2.1=e.1/\e.1<i+ps.length/\vs[e.1 - i]? =some (e.2.2.v θ))/\((AM i ps d).Pairwise fun a b=>a.2.1≠b.2.1)/\St J w0 w ((xr q i ps d).map (toCh P θ)++C)/\(∀e∈xr q i ps d,∀chs,okE P w0 J θ n chs e)/\StF P w0 J θ n i ps vs d
 | [],i,vs,d,C,h,_,_,hS=>by
  have h:vs= []:=h
  subst h
  exact ⟨fun e he=>(by cases he),List.Pairwise.nil,hS,fun e he=>(by cases he),trivial⟩
 | p::ps,i,vs,d,C,h,hθ,hn,hS=>by
  obtain ⟨v,r,rfl,h1,h3⟩:=h
  rw[ax] at hn
  obtain ⟨a1,a2,a3,a4,a5⟩:=Es (n:=n) (i:=i) (θ:=θ) (e:=d.2) (show i<n by omega) hq hγ (hθ 0 v rfl) h1 hS
  obtain ⟨k1,k2,k3,k4,k5⟩:=AN hq hγ (i:=i+1) h3 (fun j u hj=>by
   have:=hθ (j+1) u hj
   rwa [show i+(j+1)=i+1+j from by omega] at this) (by omega) (a3.perm (List.perm_append_comm_assoc _ _ _))
  refine ⟨fun e he=>?_,List.pairwise_cons.2 ⟨fun e he hh=>?_,k2⟩,?_,fun e he chs=>?_,a5,k5⟩
  ·rcases au he with rfl | he
   ·exact ⟨a1,az _,rfl,by rw[ax];show i<_;omega,by show (v::r)[i - i]? =_;rw[Nat.sub_self,a2];rfl⟩
   ·obtain ⟨q1,q2,q3,q4,q5⟩:=k1 e he
    refine ⟨q1,by omega,q3,by rw[ax];omega,?_⟩
    rw[show e.1 - i=(e.1 - (i+1))+1 from by omega];exact q5
  ·have:=k1 e he
   have hh:i=e.2.1:=hh
   omega
  ·show St J w0 w (((AL q i p d.1).map _++xr q (i+1) ps d.2).map (toCh P θ)++C)
   rw[aH,List.map_map]
   refine k3.perm ?_
   rw[ai]
   exact List.perm_append_comm_assoc _ _ _
  ·rcases aA he with he | he
   ·obtain ⟨g,hg,rfl⟩:=List.mem_map.1 he
    exact a4 g hg chs
   ·exact k4 e he chs
theorem xt {γ:Value} : ∀ {ps:List PM} {vs:List Value} {d:denP ps},PArgs P w0 J γ ps vs d->vs.length=ps.length
 | [],vs,d,h=>by
  have h:vs= []:=h
  subst h;rfl
 | p::ps,vs,d,h=>by
  obtain ⟨v,r,rfl,h1,h3⟩:=h
  simpa using xt h3
end
def Lf (tt:TT) (s:Sg):ResultVar->Option AV
 | .tmp t=>look s.env t
 | .cell p T=>(FD (look s.env p)).bind fun h=>(td tt T).bind fun d=>(mR h s.chs).bind fun b=>a8 (Nat.beq b.cells.length d.n) (N5 d.agg b.cells)
theorem Lg {v:Option AV} {h:Hdr} (k:FD v=some h):v=some (.one (.ptr h 0)):=by
 unfold FD at k
 split at k
 ·rename_i h' off
  split at k
  ·rename_i ho
   rw[aj ho,aa k]
  ·cases k
 ·cases k
section
variable {P:Program} {I:Hp} {w0 w:World} {F:Ch} {J:Hp} {θ:Th} {n:Nat} {s:Sg} {a:Act} {tt:TT}
theorem Lh (ha:Agr n a (envL θ s)) {t g:Nat} {T E:TypeId} {v:Value} {cs:List Ch} (h:(envL θ s).lookup t=some (.pointer (some ⟨g,0,none⟩))) (hs:St J w0 w cs) (i:Nat) (hi:cs[i]? =some (Ch.blk g [v] E)) (hT:TI P T false 1):yf P a w (.cell t T) v:=by
 refine ⟨_,ha.2.2 t _ h,?_⟩
 have hg:=hs.heap i hi
 have hc:w.cell? ⟨g,0,none⟩=some v:=by simp[World.cell?,hg]
 simp[loadVar,Sem.run_bind,hT.run_agg,load,Sem.run,hc,Result.andThen]
theorem HE (hT:TTok P tt) (hS:Sim P I w0 F n J θ s a w) {r:ResultVar} {v:AV} (h:Lf tt s r=some v):yf P a w r (v.v θ)/\v.ok P w0 J θ s.nxt s.chs:=by
 cases r with
 | tmp t=>exact ⟨JH hS.agr (dO h),a7 (x:=.tmp t) hS.fine h⟩
 | cell p T =>
  obtain ⟨hh,h1,h⟩:=bind_some (show (FD (look s.env p)).bind _=some v from h)
  obtain ⟨d,hd,h⟩:=bind_some h
  obtain ⟨b,hb,h⟩:=bind_some h
  obtain ⟨hl,h⟩:=af h
  have hl:=aj hl
  have hp:=gb hb
  have hok:=hS.fine.chs _ (hp.mem_iff.2 (List.mem_cons_self ..))
  obtain ⟨k1,k2⟩:=CX (chs:=s.chs) h hok.2.2
  refine ⟨?_,k1⟩
  have hlk:(envL θ s).lookup p=some (.pointer (some ⟨bk (hv θ hh),0,none⟩)):=dO (Lg h1)
  have hst:=hS.st.perm ((hp.map (toCh P θ)).append_right [F])
  have hti:=(hT.get hd).ti
  cases hagg:d.agg with
  | true =>
   rw[hagg] at k2 hti
   rw[<-k2]
   exact FL hS.agr hlk hst 0 rfl hti (by rw[List.length_map];exact hl)
  | false =>
   rw[hagg] at k2 hti h
   have h1':d.n=1:=by
    have:=(hT.get hd).one
    rw[hagg] at this
    simpa using this
   obtain ⟨x,hx⟩:=List.length_eq_one_iff.1 (hl.trans h1')
   rw[h1'] at hti
   rw[hx] at k2
   rw[<-k2]
   have hst2:St J w0 w (Ch.blk (bk (hv θ hh)) [x.v θ] b.T::(b.rest.map (toCh P θ)++ [F])):=by
    have:(toCh P θ (b.ent hh))=Ch.blk (bk (hv θ hh)) (b.cells.map (·.v θ)) b.T:=rfl
    rw[hx] at this
    rw[<-show toCh P θ (b.ent hh)=Ch.blk (bk (hv θ hh)) [x.v θ] b.T from this]
    exact hst
   exact Lh hS.agr hlk hst2 0 rfl hti
end
def y8:(ts:List Ty)->List AV->List Ent->Option (fl ts×List Ent×List Ent)
 | [],[],chs=>some ((),[],chs)
 | t::ts,v::vs,chs=>a8 (iX v==t.isProd) ((gf v).bind fun cs=>(cm t cs chs).bind fun q=>a8 q.cells.isEmpty ((y8 ts vs q.rest).bind fun r=>some ((q.d,r.1),q.used++r.2.1,r.2.2)))
 | _,_,_=>none
def pq:(ts:List Ty)->List Value->fl ts->List Ch
 | t::ts,v::vs,d=>Ch.own t.rep (fm t.isProd v) d.1::pq ts vs d.2
 | _,_,_=>[]
theorem tV {P:Program} {w0:World} {J:Hp} {θ:Th} {n:Nat} {chs0:List Ent} : ∀ {ts:List Ty} {vs:List AV} {chs:List Ent} {r:fl ts×List Ent×List Ent},y8 ts vs chs=some r->(∀v∈vs,v.ok P w0 J θ n chs0)->
  chs.Perm (r.2.1++r.2.2)/\vs.length=ts.length/\iP J (r.2.1.map (toCh P θ)) (pq ts (vs.map (·.v θ)) r.1)/\ ∀(i:Nat) t v,ts[i]? =some t->vs[i]? =some v->jY (v.v θ)=t.isProd
 | [],[],chs,r,h,_=>by
  obtain rfl:=aa (show some _=some r from h)
  exact ⟨List.Perm.refl _,rfl,nV,fun i t v ht=>by simp at ht⟩
 | t::ts,v::vs,chs,r,h,hv'=>by
  obtain ⟨ha,h⟩:=af (show a8 (iX v==t.isProd) _=some r from h)
  have ha:iX v=t.isProd:=by simpa using ha
  obtain ⟨cs,hcs,h⟩:=bind_some h
  obtain ⟨q,hq,h⟩:=bind_some h
  obtain ⟨he,h⟩:=af h
  obtain ⟨r',hr,h⟩:=bind_some h
  obtain rfl:=aa h
  obtain ⟨c1,c2⟩:=eV hcs (hv' v (by simp))
  obtain ⟨p,cc,e1,e2⟩:=fH (J:=J) (θ:=θ) hq c1
  rw[List.isEmpty_iff.1 he,List.append_nil] at e1
  subst e1
  obtain ⟨k1,k2,k3,k4⟩:=tV hr fun x hx=>hv' x (by simp[hx])
  have hcell:fm t.isProd (v.v θ)=cs.map (·.v θ)/\jY (v.v θ)=t.isProd:=by
   rw[<-ha]
   cases v with
   | agg xs =>
    obtain rfl:=aa (show some xs=some cs from hcs)
    exact ⟨rfl,rfl⟩
   | one x =>
    obtain rfl:=aa (show some [x] =some cs from hcs)
    refine ⟨rfl,?_⟩
    have h1:(x.v θ).oneCell'=true:=LV.one (show LV.ok P w0 J θ n x from hv' (.one x) (by simp))
    show jY (x.v θ)=false
    generalize x.v θ=u at h1
    cases u <;> first | rfl | cases h1
   | _=>cases hcs
  refine ⟨by rw[ai];exact p.trans (k1.append_left _),by rw[ax,ax,k2],?_,fun i t' v' ht hv0=>?_⟩
  ·show iP J ((q.used++r'.2.1).map _) (Ch.own t.rep (fm t.isProd (v.v θ)) q.d::pq ts (vs.map _) r'.1)
   rw[aH,hcell.1]
   exact lE e2 k3
  ·cases i with
   | zero =>
    obtain rfl:t=t':=by simpa using ht
    obtain rfl:v=v':=by simpa using hv0
    exact hcell.2
   | succ i=>exact k4 i t' v' (by simpa using ht) (by simpa using hv0)
 | [],_::_,chs,r,h,_=>by cases h
 | _::_,[],chs,r,h,_=>by cases h
def NW:List Value->Value
 | [v] =>v
 | vs=>.tuple vs.toArray
def AO (P:Program) (a:Act) (w:World):List ResultVar->List Value->Prop
 | [],vs=>vs= []
 | r::rs,vs=> ∃v us,vs=v::us/\yf P a w r v/\AO P a w rs us
theorem qb {P:Program} {a:Act} {w:World} {f:ResultVar->Sem Value} (hf: ∀r v,yf P a w r v->(f r).run P w= .ok v w): ∀ {l:List ResultVar} {vs:List Value},AO P a w l vs->(l.mapM f).run P w= .ok vs w
 | [],vs,h=>by
  have h:vs= []:=h
  subst h
  rw[List.mapM_nil];rfl
 | r::l,vs,h=>by
  obtain ⟨v,us,rfl,h1,h2⟩:=h
  rw[List.mapM_cons,Sem.run_bind,hf r v h1]
  simp only[Result.andThen_ok,Sem.run_bind,qb hf h2]
  rfl
def NX (a:Act) (r:ResultVar):Sem Value:=match r with
 | .tmp t=>pure (a.tmps.getD t undef)
 | .cell p t=>do loadVar t (<-asAddr (a.tmps.getD p undef))
theorem Li {P:Program} {a:Act} {w:World} {r:ResultVar} {v:Value} (h:yf P a w r v):(NX a r).run P w= .ok v w:=by
 cases r with
 | tmp t =>
  have h:a.tmps.getD t undef=v:=h
  show (pure (a.tmps.getD t undef):Sem Value).run P w=_
  rw[h];rfl
 | cell p T =>
  obtain ⟨A,h1,h2⟩:=h
  show ((asAddr (a.tmps.getD p undef)) >>=fun x=>loadVar T x).run P w=_
  rw[h1,Sem.run_bind]
  show Result.andThen (.ok A w) _=_
  rw[Result.andThen_ok];exact h2
theorem M7 {P:Program} {n:Nat} {a:Act} {w:World} {L:List (Nat×Value)} {fn:Func} {R:Ending->World->Prop} {vs:List Value} (ha:Agr n a L) (h:AO P a w fn.results.toList vs) (hR:R (.returned (NW vs)) w):bodyPost P fn R .ret a w:=by
 refine ⟨ha.1,NW vs,?_,hR⟩
 have hr:((fn.results.mapM (NX a)):Sem (Array Value)).run P w= .ok vs.toArray w:=by
  rw[Array.mapM_eq_mapM_toList]
  have:=qb (f:=NX a) (fun r v=>Li) h
  simp[this,Sem.run_map]
 show ((fn.results.mapM (NX a)) >>=fun vs=>pure (if h:vs.size=1 then vs[0] else .tuple vs):Sem Value).run P w=_
 rw[Sem.run_bind,hr,Result.andThen_ok]
 match vs with
 | [] =>rfl
 | [v] =>rfl
 | _::_::_=>rfl
def cq (g0:Nat):(i:Nat)->(ps:List PM)->denP ps->List Ent->Option (fl (outs ps)×List Ent×List Ent)
 | _,[],_,chs=>some ((),[],chs)
 | i,.ow t::ps,d,chs=>(cm t (gi i [] t d.1).2 chs).bind fun q=>a8 q.cells.isEmpty ((cq g0 (i+1) ps d.2 q.rest).bind fun r=>some ((q.d,r.1),q.used++r.2.1,r.2.2))
 | i,.ptr T t::ps,d,chs=>(lH ⟨i,[]⟩ T t chs).bind fun q=>(cq g0 (i+1) ps d.2 q.2.2).bind fun r=>some ((q.1,r.1),q.2.1++r.2.1,r.2.2)
 | i,.rd _::ps,d,chs=>cq g0 (i+1) ps d.2 chs
 | i,.fn _ _::ps,d,chs=>cq g0 (i+1) ps d.2 chs
 | i,.eat _::ps,d,chs=>cq g0 (i+1) ps d.2 chs
 | i,.cap _ _::ps,d,chs=>cq g0 (i+1) ps d.2 chs
 | i,.capf _ _ _::ps,d,chs=>cq g0 (i+1) ps d.2 chs
 | i,.fk _::ps,d,chs=>cq g0 (i+1) ps d.2 chs
 | i,.kc _::ps,d,chs=>cq g0 (i+1) ps d.2 chs
 | i,.kb _ T t::ps,d,chs=>(lH ⟨g0,[]⟩ T t chs).bind fun q=>(cq g0 (i+1) ps d.2 q.2.2).bind fun r=>some ((q.1,r.1),q.2.1++r.2.1,r.2.2)
 | i,.crs T E::ps,d,chs=>(np ⟨i,[]⟩ T E chs).bind fun q=>a8 (Hdr.beq q.g ⟨g0,[]⟩) ((cq g0 (i+1) ps d.2 q.rest).bind fun r=>some ((q.d.2,r.1),q.ent::r.2.1,r.2.2))
theorem ct {P:Program} {w0:World} {J J':Hp} {θ θ':Th} {n n':Nat} {chs0:List Ent} (hJ:J.le J') (hs:Same n θ θ') {γ:Value} {g0:Nat} (hg0:g0<n) (hγ:θ g0=γ): ∀ {ps:List PM} {i:Nat} {d:denP ps} {chs:List Ent} {vs:List Value} {r:fl (outs ps)×List Ent×List Ent},cq g0 i ps d chs=some r->vs.length=ps.length->StF P w0 J θ n i ps vs d->(∀e∈chs,okE P w0 J' θ' n' chs0 e)->
  chs.Perm (r.2.1++r.2.2)/\iP J' (r.2.1.map (toCh P θ')) (outCh γ ps vs r.1)
 | [],i,d,chs,vs,r,h,_,_,_=>by
  obtain rfl:=aa (show some _=some r from h)
  exact ⟨List.Perm.refl _,nV⟩
 | p::ps,i,d,chs,[],r,h,hl,_,_=>by cases hl
 | .ow t::ps,i,d,chs,v::vs,r,h,hl,hF,hc=>by
  obtain ⟨q,hq,h⟩:=bind_some (show (cm t (gi i [] t d.1).2 chs).bind _=some r from h)
  obtain ⟨he,h⟩:=af h
  obtain ⟨r',hr,h⟩:=bind_some h
  obtain rfl:=aa h
  obtain ⟨⟨k1,k2⟩,k3⟩:=hF
  obtain ⟨p,cc,e1,e2⟩:=fH (P:=P) (w0:=w0) (J:=J') (θ:=θ') (n:=n) hq fun x hx=>LV.ok_same hs (az _) (k2 x hx) hJ
  rw[List.isEmpty_iff.1 he,List.append_nil] at e1
  subst e1
  rw[dV hs k2,k1] at e2
  obtain ⟨q1,q2⟩:=ct hJ hs hg0 hγ hr (by simpa using hl) k3 fun e he=>hc e (p.mem_iff.2 (by simp[he]))
  refine ⟨by rw[ai];exact p.trans (q1.append_left _),?_⟩
  show iP J' ((q.used++r'.2.1).map _) (Ch.own t.rep (fm t.isProd v) q.d::outCh γ ps vs r'.1)
  rw[aH]
  exact lE e2 q2
 | .ptr T t::ps,i,d,chs,v::vs,r,h,hl,hF,hc=>by
  obtain ⟨q,hq,h⟩:=bind_some (show (lH ⟨i,[]⟩ T t chs).bind _=some r from h)
  obtain ⟨r',hr,h⟩:=bind_some h
  obtain rfl:=aa h
  obtain ⟨⟨k1,k2⟩,k3⟩:=hF
  obtain ⟨p,hb⟩:=mi (P:=P) (w0:=w0) (J:=J') (J':=J') (θ:=θ') hq Hp.le.rfl hc
  obtain ⟨q1,q2⟩:=ct hJ hs hg0 hγ hr (by simpa using hl) k3 fun e he=>hc e (p.mem_iff.2 (by simp[he]))
  refine ⟨by rw[ai];exact p.trans (q1.append_left _),?_⟩
  show iP J' ((q.2.1++r'.2.1).map _) (Ch.box (bk v) T t.rep q.1::outCh γ ps vs r'.1)
  rw[aH]
  have hh:hv θ' ⟨i,[]⟩=v:=(aO hs (show (⟨i,[]⟩:Hdr).id<n from k2)).trans k1
  rw[hh] at hb
  intro w F hsp
  obtain ⟨G,K,rfl,h1,h2⟩:=hsp.split
  exact ⟨G,K,rfl,hb w G h1,q2 w K h2⟩
 | .rd t::ps,i,d,chs,v::vs,r,h,hl,hF,hc=>ct (ps:=ps) hJ hs hg0 hγ (show cq g0 (i+1) ps d.2 chs=some r from h) (by simpa using hl) hF.2 hc
 | .fn _ _::ps,i,d,chs,v::vs,r,h,hl,hF,hc=>ct (ps:=ps) hJ hs hg0 hγ (show cq g0 (i+1) ps d.2 chs=some r from h) (by simpa using hl) hF.2 hc
 | .eat _::ps,i,d,chs,v::vs,r,h,hl,hF,hc=>ct (ps:=ps) hJ hs hg0 hγ (show cq g0 (i+1) ps d.2 chs=some r from h) (by simpa using hl) hF.2 hc
 | .cap _ _::ps,i,d,chs,v::vs,r,h,hl,hF,hc=>ct (ps:=ps) hJ hs hg0 hγ (show cq g0 (i+1) ps d.2 chs=some r from h) (by simpa using hl) hF.2 hc
 | .capf _ _ _::ps,i,d,chs,v::vs,r,h,hl,hF,hc=>ct (ps:=ps) hJ hs hg0 hγ (show cq g0 (i+1) ps d.2 chs=some r from h) (by simpa using hl) hF.2 hc
 | .kc _::ps,i,d,chs,v::vs,r,h,hl,hF,hc=>ct (ps:=ps) hJ hs hg0 hγ (show cq g0 (i+1) ps d.2 chs=some r from h) (by simpa using hl) hF.2 hc
 | .kb _ T t::ps,i,d,chs,v::vs,r,h,hl,hF,hc=>by
  obtain ⟨q,hq,h⟩:=bind_some (show (lH ⟨g0,[]⟩ T t chs).bind _=some r from h)
  obtain ⟨r',hr,h⟩:=bind_some h
  obtain rfl:=aa h
  obtain ⟨-,k3⟩:=hF
  obtain ⟨p,hb⟩:=mi (P:=P) (w0:=w0) (J:=J') (J':=J') (θ:=θ') hq Hp.le.rfl hc
  obtain ⟨q1,q2⟩:=ct hJ hs hg0 hγ hr (by simpa using hl) k3 fun e he=>hc e (p.mem_iff.2 (by simp[he]))
  refine ⟨by rw[ai];exact p.trans (q1.append_left _),?_⟩
  show iP J' ((q.2.1++r'.2.1).map _) (Ch.box (bk γ) T t.rep q.1::outCh γ ps vs r'.1)
  rw[aH]
  have hh:hv θ' ⟨g0,[]⟩=γ:=by
   show vg (θ' g0) [] =γ
   rw[hs g0 hg0,hγ];rfl
  rw[hh] at hb
  intro w F hsp
  obtain ⟨G,K,rfl,h1,h2⟩:=hsp.split
  exact ⟨G,K,rfl,hb w G h1,q2 w K h2⟩
 | .fk _::ps,i,d,chs,v::vs,r,h,hl,hF,hc=>ct (ps:=ps) hJ hs hg0 hγ (show cq g0 (i+1) ps d.2 chs=some r from h) (by simpa using hl) hF.2 hc
 | .crs T E::ps,i,d,chs,v::vs,r,h,hl,hF,hc=>by
  obtain ⟨q,hq,h⟩:=bind_some (show (np ⟨i,[]⟩ T E chs).bind _=some r from h)
  obtain ⟨hb,h⟩:=af h
  obtain ⟨r',hr,h⟩:=bind_some h
  obtain rfl:=aa h
  obtain ⟨⟨k1,k2⟩,k3⟩:=hF
  obtain ⟨p,ver,he⟩:=iJ hq
  obtain ⟨q1,q2⟩:=ct hJ hs hg0 hγ hr (by simpa using hl) k3 fun e he=>hc e (p.mem_iff.2 (by simp[he]))
  refine ⟨p.trans (q1.cons _),?_⟩
  have hh:hv θ' ⟨i,[]⟩=v:=(aO hs (show (⟨i,[]⟩:Hdr).id<n from k2)).trans k1
  have hg:hv θ' q.g=γ:=by
   rw[Hdr.beq_eq hb]
   show vg (θ' g0) [] =γ
   rw[hs g0 hg0,hγ];rfl
  show iP J' (toCh P θ' q.ent::r'.2.1.map _) (Ch.blk (bk v) [γ,.int .i64 q.d.2.1,.int .i64 q.d.2.2] T::outCh γ ps vs r'.1)
  rw[he]
  intro w F hsp
  obtain ⟨G,K,rfl,h1,h2⟩:=hsp
  have h1:(Ch.blk (bk (hv θ' ⟨i,[]⟩)) [hv θ' q.g,.int .i64 q.d.2.1,.int .i64 q.d.2.2] T).holds J' w G:=h1
  rw[hh,hg] at h1
  exact ⟨G,K,rfl,h1,q2 w K h2⟩
def ofH:(ts:List Ty)->fl ts->dens ts
 | [],_=>()
 | [_],d=>d.1
 | _::u::ts,d=>(d.1,ofH (u::ts) d.2)
theorem za: ∀(ts:List Ty) (d:fl ts),toH ts (ofH ts d)=d
 | [],_=>rfl
 | [_],_=>rfl
 | _::u::ts,d=>congrArg (Prod.mk d.1) (za (u::ts) d.2)
def BQ:(ts us:List Ty)->fl ts->fl us->fl (ts++us)
 | [],_,_,e=>e
 | _::ts,us,d,e=>(d.1,BQ ts us d.2 e)
theorem vE: ∀(ts us:List Ty) (d:fl ts) (e:fl us),hFst ts us (BQ ts us d e)=d
 | [],_,_,_=>rfl
 | _::ts,us,d,e=>congrArg (Prod.mk d.1) (vE ts us d.2 e)
theorem AP: ∀(ts us:List Ty) (d:fl ts) (e:fl us),hSnd ts us (BQ ts us d e)=e
 | [],_,_,_=>rfl
 | _::ts,us,d,e=>AP ts us d.2 e
def rQ (tt:TT) (s:Sg):List ResultVar->Option (List AV)
 | [] =>some []
 | r::rs=>(Lf tt s r).bind fun v=>(rQ tt s rs).bind fun vs=>some (v::vs)
def zb (s:Sg):List AV->List Hdr
 | [] =>[]
 | v::vs=>rE v++zb s vs
def qH:List Ent->List Hdr
 | [] =>[]
 | e::l=>match e.2.2 with
  | .hole _ _ _ _ _ _ _ _ _ _=>e.1::qH l
  | _=>qH l
def M8:List AV->List (Bool×Hdr)
 | [] =>[]
 | v::vs=>OW true v++M8 vs
def xu (tr:Trs) (vs:List AV) (s:Sg):Sg:=match tr with
 | [] =>s
 | _=>GI (D9 tr) (M8 vs) s
def HF (tr:Trs) (vs:List AV) (s0:Sg):Sg:=match xu tr vs s0 with
 | s=>oo (zb s0 vs++qH s.chs) s
def nlN:List AV->(ts:List Ty)->fl ts->Int
 | [.one (.own _)],[.sl _ t],d=>((List.length (α:=t.den) d.1:Nat):Int)
 | [.one (.val v)],[.sl _ _],_=>match isNil v with
  | true=>1
  | false=>0
 | _,_,_=>0
def M9 (an:List (Nat×Ty)) (vs:List AV) (ts:List Ty) (d:fl ts):Option Unit:=match tQ 1000000 an with
 | true=>chk (0<nlN vs ts d)
 | false=>some ()
theorem Na {vs:List AV} {ts:List Ty} {d:fl ts} {θ:Th} (h:0<nlN vs ts d) {v:Value} (hv:vs.map (·.v θ)= [v]):pX ts d v:=by
 unfold nlN at h
 split at h
 ·intro h0
  omega
 ·split at h
  ·rename_i h1
   intro _
   have:=iA h1
   subst this
   simpa [AV.v,LV.v] using hv.symm
  ·omega
 ·omega
def Et (V:Env) (rvs:List ResultVar) (rs:List Ty) (ps:List PM) (d:denP ps) (s00:Sg):Option (dens (rs++outs ps)):=(rQ V.tt s00 rvs).bind fun vs00=>GQ vs00 s00 fun s0=>(rQ V.tt s0 rvs).bind fun vs0=>match HF V.tr vs0 s0 with
 | s=>(rQ V.tt s rvs).bind fun vs=>(y8 rs vs s.chs).bind fun r=>(cq ps.length 0 ps d r.2.2).bind fun o=>(M9 V.an vs rs r.1).bind fun _=>some (ofH _ (BQ rs (outs ps) r.1 o.1))
end R
namespace R
open Go.RowKit
open D
theorem tW {vs:List Value} : ∀ {ts:List Ty} {i:Nat} {us:List Value} {d:fl ts},us.length=ts.length->(∀j v,us[j]? =some v->vs[i+j]? =some v)->nX i ts d (.tuple vs.toArray)=pq ts us d
 | [],i,us,d,h,_=>by
  cases us with
  | nil=>rfl
  | cons _ _=>cases h
 | t::ts,i,[],d,h,_=>by cases h
 | t::ts,i,u::us,d,h,k=>by
  have h0:vg (.tuple vs.toArray) [i] =u:=by
   show vs.toArray.getD i undef=u
   have:=k 0 u rfl
   rw[Nat.add_zero] at this
   simp[Array.getD_eq_getD_getElem?,this]
  show Ch.own t.rep (fm t.isProd (vg (.tuple vs.toArray) [i])) d.1::nX (i+1) ts d.2 _=Ch.own t.rep (fm t.isProd u) d.1::pq ts us d.2
  rw[h0,tW (us:=us) (by simpa using h) fun j v hj=>by
   have:=k (j+1) v (by simpa using hj)
   rwa [show i+(j+1)=i+1+j from by omega] at this]
theorem BR {ts:List Ty} {vs:List Value} {d:fl ts} (h:vs.length=ts.length):resGv ts d (NW vs)=pq ts vs d:=by
 match ts,vs,d,h with
 | [],[],d,_=>rfl
 | [t],[v],d,_=>rfl
 | t::u::ts,v::w::vs,d,h =>
  show nX 0 _ d (.tuple (v::w::vs).toArray)=_
  exact tW h fun j x hj=>by rw[Nat.zero_add];exact hj
theorem HG {ts:List Ty} {vs:List Value} (h:vs.length=ts.length) (k: ∀(i:Nat) t v,ts[i]? =some t->vs[i]? =some v->jY v=t.isProd):resFa ts (NW vs):=by
 match ts,vs,h with
 | [],[],_=>exact ⟨#[],rfl,rfl,fun i t ht=>by simp at ht⟩
 | [t],[v],_=>exact k 0 t v rfl rfl
 | t::u::ts,v::w::vs,h =>
  refine ⟨(v::w::vs).toArray,rfl,by simpa using h,fun i t' ht=>?_⟩
  have hlt:i<(v::w::vs).length:=by rw[h];exact (List.getElem?_eq_some_iff.1 ht).1
  have:=k i t' ((v::w::vs)[i]) ht (List.getElem?_eq_getElem hlt)
  rw[<-this,Array.getD_eq_getD_getElem?,List.getElem?_toArray,List.getElem?_eq_getElem hlt];rfl
theorem ox {P:Program} {I:Hp} {w0 w:World} {F:Ch} {J:Hp} {θ:Th} {n:Nat} {s:Sg} {a:Act} {tt:TT} (hT:TTok P tt) (hS:Sim P I w0 F n J θ s a w): ∀ {rs:List ResultVar} {vs:List AV},rQ tt s rs=some vs->AO P a w rs (vs.map (·.v θ))/\ ∀v∈vs,v.ok P w0 J θ s.nxt s.chs
 | [],vs,h=>by
  obtain rfl:=aa (show some [] =some vs from h)
  exact ⟨rfl,fun v hv=>by cases hv⟩
 | r::rs,vs,h=>by
  obtain ⟨v,hv',h⟩:=bind_some (show (Lf tt s r).bind _=some vs from h)
  obtain ⟨us,hus,h⟩:=bind_some h
  obtain rfl:=aa h
  obtain ⟨k1,k2⟩:=HE hT hS hv'
  obtain ⟨q1,q2⟩:=ox hT hS hus
  refine ⟨⟨_,_,rfl,k1,q1⟩,fun x hx=>?_⟩
  rcases au hx with rfl | hx
  ·exact k2
  ·exact q2 x hx
theorem Eu {J:Hp} {a b c d:List Ch} (h:iP J a b) (k:iP J c d):iP J (a++c) (b++d):=fun w F hs=>by
 obtain ⟨G,K,rfl,e1,e2⟩:=hs.split
 exact (h w G e1).append (k w K e2)
theorem St.sepTo {J:Hp} {w0 w:World} {a b C:List Ch} (h:St J w0 w (a++C)) (k:iP J a b):St J w0 w (b++C):=by
 obtain ⟨h1,h2,F,h3,h4,h5⟩:=h
 obtain ⟨G,K,rfl,e1,e2⟩:=h3.split
 exact ⟨h1,h2,G++K,(k w G e1).append e2,h4,h5⟩
theorem pv {P:Program} {n:Nat} {I:Hp} {w0:World} {k:FuncId} {fn:Func} {c:Code} {args:Array Value} {rn:List Ch} {fact:Value->Prop} {gv:Value->List Ch} (L:List (Nat×Value)) (hf:P.funcs[k]? =some fn) (hb:fn.body=some c) (hn:fn.ntmps=n) (hm:args.size<=n) (hL: ∀p∈L,args[p.1]? =some p.2)
  (h: ∀F w a,Agr n a L->St I w0 w (rn++ [F])->c.wp P (bodyPost P fn fun e w'=> ∃v,e= .returned v/\fact v/\ ∃J,I.le J/\St J w0 w' (gv v++ [F])) a w) (hd: ∀v,Ch.back (gv v)):Con P k args I w0 rn fact gv:=by
 intro w C hs
 have hs':St I w0 w (rn++ [Ch.fr I C]):=by
  obtain ⟨hb,hi,F,h1,h2,h3⟩:=hs
  obtain ⟨G,K,rfl,e1,e2⟩:=h1.split
  exact ⟨hb,hi,G++K,e1.append ⟨K,[],by simp,e2,rfl⟩,h2,h3⟩
 have:=h (Ch.fr I C) w { tmps:=args++Array.replicate (fn.ntmps - args.size) undef,defers:=[] } (Agr.start L (by omega) hL) hs'
 refine (calls_of_wp hf hb this).mono ?_
 rintro e w' ⟨v,rfl,hv,J,hJ,hs⟩
 exact ⟨v,rfl,hv,hs.back hJ (hd v)⟩
theorem HH {P:Program} {I:Hp} {w0 w:World} {F:Ch} {n:Nat} {J:Hp} {θ:Th} {s:Sg} {a:Act} {tr:Trs} {vs:List AV} (hS:Sim P I w0 F n J θ s a w): ∃J' θ',J.le J'/\Sim P I w0 F n J' θ' (HF tr vs s) a w/\Fr s θ (HF tr vs s) θ':=by
 have key: ∃J' θ',J.le J'/\Sim P I w0 F n J' θ' (xu tr vs s) a w/\Fr s θ (xu tr vs s) θ':=by
  unfold xu
  split
  ·exact ⟨J,θ,Hp.le.rfl,hS,Fr.rfl⟩
  ·exact nr hS
 obtain ⟨J',θ',h1,h2,h3⟩:=key
 obtain ⟨S2,F2⟩:=mo (V:=⟨[],[],[],n,[]⟩) (hs:=zb s vs++qH (xu tr vs s).chs) h2
 exact ⟨J',θ',h1,S2,h3.trans F2⟩
theorem I3 {V:Env} {P:Program} {w0:World} {F:Ch} {J:Hp} {θ:Th} (hT:TTok P V.tt) {fn:Func} {rs:List Ty} {ps:List PM} {d:denP ps} {vs:List Value} {s0:Sg} (k0:vs.length=ps.length) (k5:StF P w0 J θ (ps.length+1) 0 ps vs d) (hn0:ps.length+1<=s0.nxt) {γ:Value} (hγ:θ ps.length=γ): ∀r J' θ' s' a' w',Et V fn.results.toList rs ps d s'=some r->Sim P J w0 F V.n J' θ' s' a' w'->J.le J'->Fr s0 θ s' θ'->
  bodyPost P fn (fun e w'=> ∃v,e= .returned v/\(resFa rs v/\(tQ 1000000 V.an=true->pX rs (hFst rs (outs ps) (toH _ r)) v))/\ ∃J2,J.le J2/\St J2 w0 w' ((resGv rs (hFst rs (outs ps) (toH _ r)) v++outCh γ ps vs (hSnd rs (outs ps) (toH _ r)))++ [F])) .ret a' w':=by
 intro r J' θ' s' a' w' hrt hS' hJ hFr
 obtain ⟨vs00,hv00,hrt⟩:=bind_some (show (rQ V.tt s' fn.results.toList).bind _=some r from hrt)
 obtain ⟨s0',hrt,S0,N0⟩:=Av hrt (ox hT hS' hv00).2 hS'
 obtain ⟨vs0,hv0,hrt⟩:=bind_some hrt
 obtain ⟨J1,θ1,hJ1,S1,F1⟩:=HH (tr:=V.tr) (vs:=vs0) S0
 generalize HF V.tr vs0 s0'=s1 at hrt S1 F1
 have hle:s0.nxt<=s'.nxt:=hFr.1
 have hsame:Same (ps.length+1) θ θ1:=fun i hi=>(F1.same i (by omega)).trans (hFr.same i (by omega))
 replace hJ:=hJ.trans hJ1
 clear hJ1 F1 hS' S0 hFr
 revert J1 θ1
 clear J' θ'
 intro J' θ' S1 hsame hJ
 obtain ⟨us,hus,hrt⟩:=bind_some hrt
 obtain ⟨q,hq,hrt⟩:=bind_some hrt
 obtain ⟨o,ho,hrt⟩:=bind_some hrt
 obtain ⟨u0,hnl,hrt⟩:=bind_some hrt
 obtain rfl:=aa hrt
 obtain ⟨r1,r2⟩:=ox hT S1 hus
 obtain ⟨t1,t2,t3,t4⟩:=tV (J:=J') (θ:=θ') hq r2
 obtain ⟨o1,o2⟩:=ct (P:=P) (J:=J) (J':=J') (θ:=θ) (θ':=θ') (vs:=vs) (n:=ps.length+1) (n':=s1.nxt) (chs0:=s1.chs) hJ hsame (al _) hγ ho k0 k5 fun e he=>S1.fine.chs e (t1.mem_iff.2 (by simp[he]))
 have hl:(us.map (·.v θ')).length=rs.length:=by rw[List.length_map];exact t2
 refine M7 S1.agr r1 ⟨_,rfl,⟨HG hl fun i t v ht hv1=>?_,fun han=>?_⟩,J',hJ,?_⟩
 ·rw[List.getElem?_map] at hv1
  obtain ⟨x,hx,rfl⟩:=Option.map_eq_some_iff.1 hv1
  exact t4 i t x ht hx
 ·rw[za,vE]
  unfold M9 at hnl
  rw[han] at hnl
  have hnl:0<nlN us rs q.1:=bd hnl
  rcases us with _ | ⟨x,us⟩
  ·cases hnl
  ·cases us with
   | nil=>exact Na (θ:=θ') hnl rfl
   | cons y us=>unfold nlN at hnl;split at hnl <;> first | omega | simp_all
 ·rw[za,vE,AP,BR hl]
  have hp:=t1.trans (o1.append_left _)
  have h1:=S1.st.perm ((hp.map (toCh P θ')).append_right [F])
  have h2:St J' w0 w' ((q.2.1.map (toCh P θ')++o.2.1.map (toCh P θ'))++(o.2.2.map (toCh P θ')++ [F])):=by
   simpa [aH,ai] using h1
  have h3:=St.sepTo h2 (Eu t3 o2)
  refine St.left (ds:=o.2.2.map (toCh P θ')) (h3.perm ?_)
  simp only[ai]
  exact List.Perm.append_left _ (List.Perm.append_left _ List.perm_append_comm)
theorem Lj {V:Env} {P:Program} (hT:TTok P V.tt) (hF:FTok P V.ft) (hmx:P.follows .mixedOrders=true) {k:FuncId} {fn:Func} {c:Code} {f:FS} (hf:P.funcs[k]? =some fn) (hb:fn.body=some c) (hn:fn.ntmps=V.n) (hen:Enters P k) (hm:f.ps.length<=V.n) (hdp:(wN f.rs&&pb f.ps)=true) (ann:Ann)
  (hmod: ∀d,appP f.ps f.m d=fN V (Et V fn.results.toList f.rs f.ps d) c ann (fun r=>some r) (fun _ _=>none) (Et V fn.results.toList f.rs f.ps d) (lr (rP f.ps d))): ∀w0 J γ vs (d:denP f.ps) r,Lay P J->PArgs P w0 J γ f.ps vs d->appP f.ps f.m d=some r->Con P k vs.toArray J w0 (owCh γ f.ps vs d) (fun v=>resFa f.rs v/\(tQ 1000000 V.an=true->pX f.rs (hFst f.rs (outs f.ps) (toH _ r)) v)) (fun v=>resGv f.rs (hFst f.rs (outs f.ps) (toH _ r)) v++outCh γ f.ps vs (hSnd f.rs (outs f.ps) (toH _ r))):=by
 rw[ah] at hdp
 intro w0 J γ vs d r hlay ha hr
 rw[hmod] at hr
 have k0:=xt ha
 let θ:Th:=fun i=>if i=vs.length then γ else vs.getD i undef
 have hθ: ∀j v,vs[j]? =some v->θ (0+j)=v:=fun j v hj=>by
  show (if 0+j=vs.length then γ else vs.getD (0+j) undef)=v
  rw[Nat.zero_add,if_neg (Nat.ne_of_lt (List.getElem?_eq_some_iff.1 hj).1),List.getD_eq_getElem?_getD,hj];rfl
 have hθg:θ f.ps.length=γ:=by
  show (if f.ps.length=vs.length then γ else _)=γ
  rw[if_pos k0.symm]
 have hzip: ∀p∈(vs.zipIdx.map fun q=>(q.2,q.1)),vs.toArray[p.1]? =some p.2:=fun p hp=>by
  obtain ⟨q,hq,rfl⟩:=List.mem_map.1 hp
  obtain ⟨v,j⟩:=q
  have:=(List.mk_mem_zipIdx_iff_getElem? (x:=v) (i:=j)).1 hq
  simpa using this
 refine pv (n:=V.n) (vs.zipIdx.map fun q=>(q.2,q.1)) hf hb hn (by rw[List.size_toArray,k0];exact hm) hzip (fun F w a hA hst=>?_) (fun v=>pd (cn _ _ _ hdp.2) _ _ hdp.1)
 ·obtain ⟨k1,k2,k3,k4,k5⟩:=AN (n:=f.ps.length+1) (q:=f.ps.length) (C:=[F]) (al _) hθg ha hθ (by omega) hst
  have hfine:Fine P w0 J θ (rP f.ps d):=⟨fun e he=>(k1 e he).1 _,fun e he=>by have:=k1 e he;show e.2.1<f.ps.length+1;omega,k2,fun e he=>k4 e he _,hlay⟩
  have hA':Agr V.n a (envL θ (rP f.ps d)):=hA.pick _ fun p hp=>by
   obtain ⟨e,he,rfl⟩:=List.mem_map.1 hp
   have h5:=(k1 e he).2.2.2.2
   rw[Nat.sub_zero] at h5
   have key: ∀(l:List Value) (k:Nat) (i:Nat) (v:Value),k<=i->l[i - k]? =some v->((l.zipIdx k).map fun q=>(q.2,q.1)).lookup i=some v:=by
    intro l
    induction l with
    | nil=>intro k i v _ h;simp at h
    | cons x l ih =>
     intro k i v hk h
     simp only[List.zipIdx_cons,List.map_cons,List.lookup_cons]
     by_cases e:i=k
     ·subst e
      simp at h
      simp[h]
     ·have:(i==k)=false:=by simpa using e
      rw[this]
      refine ih (k+1) i v (by omega) ?_
      rw[show i - k=(i - (k+1))+1 from by omega] at h
      simpa using h
   exact key vs 0 e.1 _ (Nat.zero_le _) h5
  have hS:Sim P J w0 F V.n J θ (rP f.ps d) a w:=⟨Hp.le.rfl,hA',k3,hfine⟩
  have fin:=I3 (rs:=f.rs) (fn:=fn) (F:=F) hT k0 k5 (az (rP f.ps d).nxt) hθg
  obtain ⟨θ0,hS0,hFr0⟩:=qz hS
  exact (nw (I:=J) (w0:=w0) (F:=F) hT hF hmx c).1 ann hr hS0 (fun J' θ' s' a' w' hk S' hJ hFr=>fin r J' θ' s' a' w' hk S' hJ (hFr0.trans hFr)) (fun i J' θ' s' a' w' hk=>by cases hk) (fun r' J' θ' s' a' w' hrt hrr hS' hJ hFr=>by
   obtain rfl:=aa hrr
   exact fin _ J' θ' s' a' w' hrt hS' hJ (hFr0.trans hFr))
theorem fok {V:Env} {P:Program} (hT:TTok P V.tt) (hF:FTok P V.ft) (hmx:P.follows .mixedOrders=true) {k:FuncId} {fn:Func} {c:Code} {f:FS} (hf:P.funcs[k]? =some fn) (hb:fn.body=some c) (hn:fn.ntmps=V.n) (hen:Enters P k) (hcl:f.cl=none) (hm:f.ps.length<=V.n) (hdp:(wN f.rs&&pb f.ps)=true) (ann:Ann)
  (hmod: ∀d,appP f.ps f.m d=fN V (Et V fn.results.toList f.rs f.ps d) c ann (fun r=>some r) (fun _ _=>none) (Et V fn.results.toList f.rs f.ps d) (lr (rP f.ps d))):FOk P k f:=
 ⟨fun q hq=>by (rw[hcl] at hq;cases hq),fun _=>hen,fun _ w0 J γ vs d r hlay ha hr w C hs=>(Lj hT hF hmx hf hb hn hen hm hdp ann hmod w0 J γ vs d r hlay ha hr w C hs).mono fun e w' ⟨v,h1,h2,h3⟩=>⟨v,h1,h2.1,h3⟩⟩
theorem HI {V:Env} {P:Program} (hT:TTok P V.tt) (hF:FTok P V.ft) (hmx:P.follows .mixedOrders=true) {k:FuncId} {fn:Func} {c:Code} {E b:Nat} (hf:P.funcs[k]? =some fn) (hb:fn.body=some c) (hn:fn.ntmps=V.n) (hen:Enters P k) (hm:1<=V.n) (ann:Ann)
  (hmod: ∀(E':TypeId) (bn:Bool) (xs:List Raw),(match bn with | true=>some ([] :List Raw) | false=>(ez b [] xs).bind fun zs=>some zs)=fN V (Et V fn.results.toList [.sl E .raw] [] ()) c ann (fun r=>some r) (fun _ _=>none) (Et V fn.results.toList [.sl E .raw] [] ()) ⟨[(0,0,.one (.rdn ⟨0,[]⟩ bn (.sl E' .raw) xs))],[],1⟩):o9 P k E b:=by
 refine ⟨hen,fun E' J w0 v xs zs hlay hrd BQ=>?_⟩
 obtain ⟨bn,hbn⟩: ∃bn,tz v=bn:=⟨_,rfl⟩
 have hr:fN V (Et V fn.results.toList [.sl E .raw] [] ()) c ann (fun r=>some r) (fun _ _=>none) (Et V fn.results.toList [.sl E .raw] [] ()) ⟨[(0,0,.one (.rdn ⟨0,[]⟩ bn (.sl E' .raw) xs))],[],1⟩=some zs:=by
  rw[<-hmod E' bn xs]
  cases bn with
  | false =>
   show (ez b [] xs).bind _=_
   rw[BQ];rfl
  | true =>
   obtain ⟨h1,-⟩:=vl BQ
   obtain ⟨ao,cap,e,-,hx⟩:=hrd
   obtain rfl:v= .slice ao xs.length cap:=by simpa using e
   rcases hx with rfl | ⟨b,off,ccs,t,fr,rfl,-⟩
   ·rw[h1];rfl
   ·cases hbn
 let θ:Th:=fun _=>v
 have key:Con P k #[v] J w0 [] (fun v=>resFa [.sl E .raw] v/\(tQ 1000000 V.an=true->pX [.sl E .raw] (zs,()) v)) (fun v=>resGv [.sl E .raw] (zs,()) v++ []):=by
  refine pv (n:=V.n) [(0,v)] hf hb hn hm (fun p hp=>by obtain rfl:=ak hp;rfl) (fun F w a hA hst=>?_) (fun u=>pd (D:=[]) trivial [.sl E .raw] (zs,()) rfl)
  have hfine:Fine P w0 J θ ⟨[(0,0,.one (.rdn ⟨0,[]⟩ bn (.sl E' .raw) xs))],[],1⟩:=⟨fun e he=>by obtain rfl:=ak he;exact ⟨Nat.one_pos,hrd,hbn⟩,fun e he=>by obtain rfl:=ak he;exact Nat.one_pos,List.pairwise_singleton _ _,fun e he=>(by cases he),hlay⟩
  have hS:Sim P J w0 F V.n J θ ⟨[(0,0,.one (.rdn ⟨0,[]⟩ bn (.sl E' .raw) xs))],[],1⟩ a w:=⟨Hp.le.rfl,hA,hst,hfine⟩
  have fin:=I3 (V:=V) (θ:=θ) (J:=J) (w0:=w0) (rs:=[.sl E .raw]) (ps:=[]) (d:=()) (vs:=[]) (s0:=⟨[(0,0,.one (.rdn ⟨0,[]⟩ bn (.sl E' .raw) xs))],[],1⟩) (fn:=fn) (F:=F) hT rfl trivial (az _) (γ:=θ 0) rfl
  exact (nw (I:=J) (w0:=w0) (F:=F) hT hF hmx c).1 ann hr hS (fun J' θ' s' a' w' hk S' hJ hFr=>fin _ J' θ' s' a' w' hk S' hJ hFr) (fun i J' θ' s' a' w' hk=>by cases hk) (fun r' J' θ' s' a' w' hrt hrr hS' hJ hFr=>by
   obtain rfl:=aa hrr
   exact fin _ J' θ' s' a' w' hrt hS' hJ hFr)
 exact fun w C hs=>(key w C hs).mono fun e w' ⟨v,h1,h2,h3⟩=>⟨v,h1,trivial,h3⟩
theorem mz {P:Program} {k:FuncId} {f:FS} (h:Enters P k) (hc:f.cl=none) (hm: ∀d,appP f.ps f.m d=none):FOk P k f:=
 ⟨fun q hq=>by (rw[hc] at hq;cases hq),fun _=>h,fun _ _ _ _ _ d r _ _ hr=>by rw[hm d] at hr;cases hr⟩
theorem Ev {P:Program} {k:FuncId} {f:FS} {E b:Nat} (h:FOk P k ⟨f.ps,f.rs,f.m,none⟩) (hc:o9 P k E b) (hb:Nat.beq b 0=false:=by rfl) (h7:Nat.beq b 7=false:=by rfl) (h8:Nat.ble 1000 b=false:=by rfl) (h9:Nat.beq b 9=false:=by rfl):FOk P k ⟨f.ps,f.rs,f.m,some (E,b)⟩:=
 ⟨fun q hq=>by obtain rfl:=aa hq;exact ⟨⟨fun e=>(by rw[hb] at e;cases e),fun _ _ _ _=>hc,fun e=>(by rw[h8] at e;cases e)⟩,fun e=>(by rw[h7] at e;cases e),fun e=>(by rw[h9] at e;cases e)⟩,fun _=>h.en rfl,fun _=>h.con rfl⟩
end R
namespace R
open Go.RowKit
open D
end R
namespace R
open Go.RowKit
open D
def rtN (V:Env) (rvs:List ResultVar) (T:TypeId) (s:Sg):Option (Int×Int):=(rQ V.tt s rvs).bind fun vs=>match vs with
 | [.one (.ptr h off)] =>a8 (Nat.beq off 0) ((mR h s.chs).bind fun b=>a8 (Nat.beq b.T T) (match b.cells with
  | [.rd g _ _,.val (.int .i64 x),.val (.int .i64 y)] =>a8 (Hdr.beq g ⟨0,[]⟩) (some (x,y))
  | _=>none))
 | _=>none
theorem Nb {V:Env} {P:Program} (hT:TTok P V.tt) (hF:FTok P V.ft) (hmx:P.follows .mixedOrders=true) {k:FuncId} {fn:Func} {c:Code} {E T:Nat} {t:Ty} {m:List t.den->Option (Int×Int)} (hf:P.funcs[k]? =some fn) (hb:fn.body=some c) (hn:fn.ntmps=V.n) (hen:Enters P k) (hm:1<=V.n) (ann:Ann)
  (hmod: ∀xs:List t.den,m xs=fN V (rtN V fn.results.toList T) c ann (fun r=>some r) (fun _ _=>none) (rtN V fn.results.toList T) ⟨[(0,0,.one (.rd ⟨0,[]⟩ (.sl E t) xs))],[],1⟩):NewOk P k T ⟨[.rd (.sl E t)],[.int .i64,.int .i64],m,some (T,9)⟩:=by
 refine ⟨hen,fun w0 J γ vs d r ns hlay ha BQ hns=>?_⟩
 obtain ⟨v,vs',rfl,hd,hnil⟩:=ha
 obtain rfl:vs'= []:=hnil
 obtain ⟨xs,u⟩:=d
 obtain ⟨cs,hcs,hrd⟩:=hd
 obtain rfl:cs= [v]:=hcs
 obtain ⟨x,y⟩:=r
 have hr:=hmod xs
 rw[show m xs=some (x,y) from BQ] at hr
 obtain rfl: [x,y] =ns:=aa hns
 let θ:Th:=fun _=>v
 refine pv (n:=V.n) [(0,v)] hf hb hn hm (fun p hp=>by obtain rfl:=ak hp;rfl) (fun F w a hA hst=>?_) (fun u=>Ch.back_deeps ⟨Ij,trivial⟩)
 have hfine:Fine P w0 J θ ⟨[(0,0,.one (.rd ⟨0,[]⟩ (.sl E t) xs))],[],1⟩:=⟨fun e he=>by obtain rfl:=ak he;exact ⟨Nat.one_pos,hrd⟩,fun e he=>by obtain rfl:=ak he;exact Nat.one_pos,List.pairwise_singleton _ _,fun e he=>(by cases he),hlay⟩
 have hS:Sim P J w0 F V.n J θ ⟨[(0,0,.one (.rd ⟨0,[]⟩ (.sl E t) xs))],[],1⟩ a w:=⟨Hp.le.rfl,hA,hst,hfine⟩
 have fin: ∀r J' θ' s' a' w',rtN V fn.results.toList T s'=some r->Sim P J w0 F V.n J' θ' s' a' w'->J.le J'->Fr ⟨[(0,0,.one (.rd ⟨0,[]⟩ (.sl E t) xs))],[],1⟩ θ s' θ'->
   bodyPost P fn (fun e w'=> ∃u,e= .returned u/\(∃b,u= .pointer (some ⟨b,0,none⟩))/\ ∃J2,J.le J2/\St J2 w0 w' ([Ch.blk (bk u) ([v] ++ [r.1,r.2].map (Value.int .i64)) T] ++ [F])) .ret a' w':=by
  intro r J' θ' s' a' w' hrt S' hJ hFr
  obtain ⟨us,hus,hrt⟩:=bind_some hrt
  obtain ⟨r1,r2⟩:=ox hT S' hus
  split at hrt
  ·rename_i h off
   obtain ⟨ho,hrt⟩:=af hrt
   obtain rfl:off=0:=aj ho
   obtain ⟨b,hb',hrt⟩:=bind_some hrt
   obtain ⟨hT',hrt⟩:=af hrt
   have hT':b.T=T:=aj hT'
   split at hrt
   ·rename_i g ty d p q hcells
    obtain ⟨hg,hrt⟩:=af hrt
    obtain rfl:=Hdr.beq_eq hg
    obtain rfl:=aa hrt
    refine M7 S'.agr r1 ⟨_,rfl,⟨bk (hv θ' h),rfl⟩,J',hJ,?_⟩
    have h1:=S'.st.perm (((gb hb').map (toCh P θ')).append_right [F])
    have e0:hv θ' ⟨0,[]⟩=v:=by
     show vg (θ' 0) [] =v
     rw[hFr.same 0 Nat.one_pos];rfl
    have h2:St J' w0 w' (Ch.blk (bk (hv θ' h)) (b.cells.map (·.v θ')) b.T::(b.rest.map (toCh P θ')++ [F])):=h1
    rw[hcells,hT'] at h2
    have h3:St J' w0 w' ([Ch.blk (bk (hv θ' h)) [hv θ' ⟨0,[]⟩,.int .i64 p,.int .i64 q] T] ++ [F] ++b.rest.map (toCh P θ')):=h2.perm ((List.perm_append_comm).cons _)
    rw[e0] at h3
    exact h3.left
   ·cases hrt
  ·cases hrt
 exact (nw (I:=J) (w0:=w0) (F:=F) hT hF hmx c).1 ann hr.symm hS (fun J' θ' s' a' w' hk S' hJ hFr=>fin _ J' θ' s' a' w' hk S' hJ hFr) (fun i J' θ' s' a' w' hk=>by cases hk) (fun r' J' θ' s' a' w' hrt hrr hS' hJ hFr=>by
  obtain rfl:=aa hrr
  exact fin _ J' θ' s' a' w' hrt hS' hJ hFr)
theorem Lk {P:Program} {k:FuncId} {f:FS} {T:Nat} (hc:NewOk P k T f) (hcl:f.cl=some (T,9)):FOk P k f:=by
 have ho:f.ov=true:=by unfold FS.ov;rw[hcl];rfl
 refine ⟨fun q hq=>?_,fun e=>(by rw[ho] at e;cases e),fun e=>(by rw[ho] at e;cases e)⟩
 rw[hcl] at hq
 obtain rfl:=aa hq
 exact ⟨⟨fun e=>(by cases e),fun _ _ _ e=>(by cases e),fun e=>(by cases e)⟩,fun e=>(by cases e),fun _=>hc⟩
end R
namespace R
open Go.RowKit
open D
def FldAll (P:Program) (T:TypeId):Nat->List (Nat×Nat)->Prop
 | _,[] =>True
 | i,q::l=>TF P T i q.1 q.2/\FldAll P T (i+1) l
theorem FldAll.get {P:Program} {T:TypeId} : ∀ {l:List (Nat×Nat)} {i:Nat},FldAll P T i l-> ∀f q,l[f]? =some q->TF P T (i+f) q.1 q.2
 | [],_,_,f,q,h=>by simp at h
 | x::l,i,⟨h1,h2⟩,f,q,h=>by
  cases f with
  | zero=>simp at h;subst h;exact h1
  | succ f =>
   have:=FldAll.get h2 f q (by simpa using h)
   rwa [show i+1+f=i+(f+1) from by omega] at this
section
variable {P:Program} {T:TypeId}
theorem nz {n b:Nat} {ty:Ty} {z:Value} {boo:Bool} {ik:Option (Option IntKind)} (h1:TI P T false 1) (h2:ty.size=1) (h3:TZ P T z 1 b) (h4:z.cells=(zeroCells ty).toArray) (h5:1<=b) (h6:boo=true->P.underlying T=some .bool) (h7: ∀k,ik=some k->P.underlying T=some (ikD k)):TDok P T ⟨false,1,none,ty,[],some b,none,boo,none,none,ik,false,none⟩:=
 ⟨h1,rfl,h2,fun E h=>by simp at h,fun f q h=>by simp at h,fun b' h=>by obtain rfl:=aa h;exact ⟨z,h3,h4,h5⟩,fun pl h=>by simp at h,h6,(fun ks h=>by cases h),(fun m h=>by cases h),h7,(fun h=>by cases h),fun e h=>by cases h⟩
theorem ze {E:TypeId} {t:Ty} (h1:TI P T false 1) (h2:P.underlying T=some (.slice E)) (h3:TZ P T (.slice none 0 0) 1 24):TDok P T ⟨false,1,some E,.sl E t,[],some 24,none,false,none,none,none,false,none⟩:=
 ⟨h1,rfl,rfl,fun E' h=>by obtain rfl:=aa h;exact h2,fun f q h=>by simp at h,fun b' h=>by obtain rfl:=aa h;exact ⟨_,h3,rfl,by decide⟩,fun pl h=>by simp at h,(fun h=>by cases h),(fun ks h=>by cases h),(fun m h=>by cases h),(fun k h=>by cases h),(fun h=>by cases h),fun e h=>by cases h⟩
theorem zf {n b:Nat} {ty:Ty} {fs pl:List (Nat×Nat)} {z:Value} {eq:Option (List (Option IntKind))} (h1:TI P T true n) (h2:ty.size=n) (h3:FldAll P T 0 fs) (h4:TZ P T z n b) (h5:z.cells=(zeroCells ty).toArray) (h6:1<=b) (h7:TB P T pl) (h8: ∀ks,eq=some ks-> ∀w,Curq ks fun xs ys r=>EqT P T (.agg xs.toArray) (.agg ys.toArray) r w):TDok P T ⟨true,n,none,ty,fs,some b,some pl,false,eq,none,none,false,none⟩:=
 ⟨h1,rfl,h2,fun E h=>by simp at h,fun f q h=>by have:=h3.get f q h;rwa [Nat.zero_add] at this,fun b' h=>by obtain rfl:=aa h;exact ⟨z,h4,h5,h6⟩,fun pl' h=>by obtain rfl:=aa h;exact h7,(fun h=>by cases h),h8,(fun m h=>by cases h),(fun k h=>by cases h),(fun h=>by cases h),fun e h=>by cases h⟩
theorem Ew {ty:Ty} {b:Nat} (h1:TI P T false 1) (h2:ty.size=1) (h3:TZ P T .nilFunc 1 b):TDok P T ⟨false,1,none,ty,[],none,none,false,none,none,none,true,none⟩:=
 ⟨h1,rfl,h2,fun E h=>by simp at h,fun f q h=>by simp at h,(fun b' h=>by cases h),(fun pl h=>by cases h),(fun h=>by cases h),(fun ks h=>by cases h),(fun m' h=>by cases h),(fun k h=>by cases h),(fun _=>⟨b,h3⟩),fun e h=>by cases h⟩
theorem Oo {m:MD} {ty:Ty} (h1:TI P T false 1) (h2:ty.size=1) (h3:MDok P T m):TDok P T ⟨false,1,none,ty,[],none,none,false,none,some m,none,false,none⟩:=
 ⟨h1,rfl,h2,fun E h=>by simp at h,fun f q h=>by simp at h,(fun b' h=>by cases h),(fun pl h=>by cases h),(fun h=>by cases h),(fun ks h=>by cases h),(fun m' h=>by obtain rfl:=aa h;exact h3),(fun k h=>by cases h),(fun h=>by cases h),fun e h=>by cases h⟩
end
end R
namespace D
open Go.RowKit
abbrev Yq1:Type:=(Int×(List Bool)×(List (List Int)))
abbrev Yq2:Type:=(Int×Int×Int×Int)
abbrev Yq3:Type:=((List Int)×Int×Int×(List Int)×Bool)
abbrev Yq4:Type:=(Int×Int×Bool×Int×Int)
abbrev Yq5:Type:=((Int×(List Bool)×List (List Int))×Int×Int)
def zg (a:List Int):Option Bool:=
 some (decide ((a.length:Int)>1048576))
def gm (a:Int) (b:Int) (c:Int):Option Bool:=
 if decide (a≥b) then (some (decide (a<=c))) else (some false)
def dF (a:Int):Option Bool:=
 (gm a 0 8).bind fun b=>some b
def jb (a:Int×Int×Int×Int):Option Int:=
 Option.bind ((if a.1==1 then (some (a.1==1)) else (some (a.1==2)):Option Bool)) (fun b=>if b then (if a.2.1 !=0 then (some (-1)) else (if a.2.2.1 !=0 then (some (-1)) else (if a.2.2.2 !=0 then (some (-1)) else (some 0)))) else (if a.1==3 then ((dF a.2.1).bind fun c=>if c then (if a.2.2.1 !=0 then (some (-1)) else (if a.2.2.2 !=0 then (some (-1)) else (some 0))) else (some (-1))) else (Option.bind ((if a.1==4 then (some (a.1==4)) else (some (a.1==5)):Option Bool)) (fun d=>if d then (if a.2.1 !=0 then (some (-1)) else (if a.2.2.1 !=0 then (some (-1)) else (if a.2.2.2 !=0 then (some (-1)) else (some 2)))) else (if a.1==6 then (if a.2.1 !=0 then (some (-1)) else (if a.2.2.1 !=0 then (some (-1)) else (if a.2.2.2 !=0 then (some (-1)) else (some 1)))) else (if a.1==7 then (if a.2.1 !=0 then (some (-1)) else ((gm a.2.2.2 1 3).bind fun e=>if e then ((gm a.2.2.1 0 a.2.2.2).bind fun f=>if f then (some 1) else (some (-1))) else (some (-1)))) else (some (-1))))))))
def kK (d:(List Yq2)) (a:Int×Int):Option (Out Bool (Int×Int)):=
 if decide (a.2<(d.length:Int)) then ((bf d a.2).bind fun b=>(jb (b.1,b.2.1,b.2.2.1,b.2.2.2)).bind fun c=>if decide (c<0) then (some (.ret false)) else (if decide (c>a.1) then (some (.ret false)) else (some (.nxt (i64.wrap ((i64.wrap (a.1 - c))+1),i64.wrap (a.2+1)))))) else (some (.brk (a.1,a.2)))
def mA (a:(List Yq2)):Option Bool:=
 bc (aK (kK a) br (0,0)) (fun r=>some r) (fun b=>some (b.1==1))
def eF (a:(List Yq2)):Option Bool:=
 if decide ((a.length:Int)<=24) then ((mA a).bind fun b=>some b) else (some false)
def gQ (c:List Yq2) (a:Int×Int):Option (Out Int (Int×Int)):=
 if decide (a.1>0) then ((bf c (i64.wrap (a.2 - 1))).bind fun b=>(jb (b.1,b.2.1,b.2.2.1,b.2.2.2)).bind fun d=>some (.nxt (i64.wrap ((i64.wrap (a.1 - 1))+d),i64.wrap (a.2 - 1)))) else (some (.brk (a.1,a.2)))
def eG (a:List Yq2):Option Int:=
 bc (aK (gQ a) br (1,(a.length:Int))) (fun r=>some r) (fun b=>some b.2)
def cN:Nat->(List Yq2)->Option Int
 | 0,_=>none
 | n+1,p0l =>
  (bf p0l (i64.wrap ((p0l.length:Int) - 1))).bind fun a=>Option.bind ((if a.1==4 then (some (a.1==4)) else (some (a.1==5)):Option Bool)) (fun c=>if c then ((chk (And (0<=(i64.wrap ((p0l.length:Int) - 1))) ((i64.wrap ((p0l.length:Int) - 1))<=(p0l.length:Int)))).bind fun _=>(eG (p0l.take ((i64.wrap ((p0l.length:Int) - 1)).toNat))).bind fun b=>(chk (And (0<=b) (b<=(p0l.length:Int)))).bind fun _=>((cN n) (p0l.take b.toNat)).bind fun d=>(chk (And (0<=b) (And (b<=(i64.wrap ((p0l.length:Int) - 1))) ((i64.wrap ((p0l.length:Int) - 1))<=(p0l.length:Int))))).bind fun _=>((cN n) ((p0l.take ((i64.wrap ((p0l.length:Int) - 1)).toNat)).drop b.toNat)).bind fun e=>some (Min.min 100000 (i64.wrap ((i64.wrap (d+e))+1)))) else (if a.1==6 then ((chk (And (0<=(i64.wrap ((p0l.length:Int) - 1))) ((i64.wrap ((p0l.length:Int) - 1))<=(p0l.length:Int)))).bind fun _=>((cN n) (p0l.take ((i64.wrap ((p0l.length:Int) - 1)).toNat))).bind fun f=>some (Min.min 100000 (i64.wrap (f+1)))) else (if a.1==7 then ((chk (And (0<=(i64.wrap ((p0l.length:Int) - 1))) ((i64.wrap ((p0l.length:Int) - 1))<=(p0l.length:Int)))).bind fun _=>((cN n) (p0l.take ((i64.wrap ((p0l.length:Int) - 1)).toNat))).bind fun g=>some (Min.min 100000 (i64.wrap ((i64.wrap ((i64.wrap (g+3))*a.2.2.2))+1)))) else (some 1))))
def pw (a:List Yq2):Option (List Yq2):=
 (ez 32 ([] :List Yq2) a).bind fun b=>some b
def cL (b:(List Yq2)) (c:(List Yq2)) (a:Int×Int×Int×Int):Option (List Yq2):=
 (pw b).bind fun d=>(ez 32 d c).bind fun e=>(ez 32 e ([(a.1,a.2.1,a.2.2.1,a.2.2.2)])).bind fun f=>some f
def iK (a:Int):Option (List Yq2):=
 some ([(a,0,0,0)])
def fO:Nat->(List Yq2)->Int->Int->Option (List Yq2)
 | 0,_,_,_=>none
 | n+1,p0e,p1low,p2high =>
  if p2high==0 then ((iK 2).bind fun b=>some b) else (((fO n) p0e (Max.max 0 (i64.wrap (p1low - 1))) (i64.wrap (p2high - 1))).bind fun c=>(cL p0e c (4,0,0,0)).bind fun a=>if decide (p1low>0) then (some a) else ((iK 2).bind fun d=>(cL a d (5,0,0,0)).bind fun e=>some e))
def bG:Nat->(List Yq2)->Option (List Yq2)
 | 0,_=>none
 | n+1,p0l =>
  (bf p0l (i64.wrap ((p0l.length:Int) - 1))).bind fun a=>Option.bind ((if a.1==4 then (some (a.1==4)) else (some (a.1==5)):Option Bool)) (fun c=>if c then ((chk (And (0<=(i64.wrap ((p0l.length:Int) - 1))) ((i64.wrap ((p0l.length:Int) - 1))<=(p0l.length:Int)))).bind fun _=>(eG (p0l.take ((i64.wrap ((p0l.length:Int) - 1)).toNat))).bind fun b=>(chk (And (0<=b) (b<=(p0l.length:Int)))).bind fun _=>((bG n) (p0l.take b.toNat)).bind fun d=>(chk (And (0<=b) (And (b<=(i64.wrap ((p0l.length:Int) - 1))) ((i64.wrap ((p0l.length:Int) - 1))<=(p0l.length:Int))))).bind fun _=>((bG n) ((p0l.take ((i64.wrap ((p0l.length:Int) - 1)).toNat)).drop b.toNat)).bind fun e=>(cL d e (a.1,a.2.1,a.2.2.1,a.2.2.2)).bind fun f=>some f) else (if a.1==6 then ((chk (And (0<=(i64.wrap ((p0l.length:Int) - 1))) ((i64.wrap ((p0l.length:Int) - 1))<=(p0l.length:Int)))).bind fun _=>((bG n) (p0l.take ((i64.wrap ((p0l.length:Int) - 1)).toNat))).bind fun g=>(cL g ([] :List Yq2) (a.1,a.2.1,a.2.2.1,a.2.2.2)).bind fun h=>some h) else (if a.1==7 then ((chk (And (0<=(i64.wrap ((p0l.length:Int) - 1))) ((i64.wrap ((p0l.length:Int) - 1))<=(p0l.length:Int)))).bind fun _=>((bG n) (p0l.take ((i64.wrap ((p0l.length:Int) - 1)).toNat))).bind fun i=>(fO jx i a.2.2.1 a.2.2.2).bind fun j=>some j) else (some ([(a.1,a.2.1,a.2.2.1,a.2.2.2)])))))
def gR (a:(List Yq2)):Option (((List Yq2))×Bool):=
 (eF a).bind fun c=>if c then ((cN jx a).bind fun d=>if decide (d>5000) then (some ([],false)) else ((bG jx a).bind fun b=>if decide ((b.length:Int)>400) then (some ([],false)) else (some (b,true)))) else (some ([],false))
def fq (b:Int) (c:Int) (a:Int×List Int):Option (Out Yq3 (Int×List Int)):=
 if decide (a.1<(a.2.length:Int)) then (Option.bind (((chk (0<=a.1)).bind fun _=>if (mZ (k9 b a.1) 1)==1 then ((bf a.2 a.1).bind fun d=>(bf a.2 a.1).bind fun f=>some (a.2.set a.1.toNat (orI d c))) else (some a.2):Option (List Int))) (fun e=>some (.nxt (i64.wrap (a.1+1),e)))) else (some (.brk (a.1,a.2)))
def jc (a:(List Int)×Int×Int×(List Int)×Bool) (b:Int) (c:Int):Option Yq3:=
 bc (aK (fq b c) br (0,a.2.2.2.1)) (fun d=>some d) (fun e=>some (a.1,a.2.1,a.2.2.1,e.2,a.2.2.2.2))
def b0:Nat->Yq3->(List Yq2)->Option ((Bool×Int×Int)×(List Int)×Int×Int×(List Int)×Bool)
 | 0,_,_=>none
 | n+1,p0,p1 =>
  (bf p1 (i64.wrap ((p1.length:Int) - 1))).bind fun g=>if g.1==2 then (some ((true,0,0),p0.1,p0.2.1,p0.2.2.1,p0.2.2.2.1,p0.2.2.2.2)) else (if g.1==3 then ((ez 8 p0.1 ([g.2.1])).bind fun p=>(ez 8 p0.2.2.2.1 ([0])).bind fun q=>some ((false,v8 1 (p0.1.length:Int),v8 1 (p0.1.length:Int)),p,p0.2.1,p0.2.2.1,q,p0.2.2.2.2)) else (if g.1==4 then ((chk (And (0<=(i64.wrap ((p1.length:Int) - 1))) ((i64.wrap ((p1.length:Int) - 1))<=(p1.length:Int)))).bind fun _=>(eG (p1.take ((i64.wrap ((p1.length:Int) - 1)).toNat))).bind fun h=>(chk (And (0<=h) (h<=(p1.length:Int)))).bind fun _=>((b0 n) (p0.1,p0.2.1,p0.2.2.1,p0.2.2.2.1,p0.2.2.2.2) (p1.take h.toNat)).bind fun b=>(chk (And (0<=h) (And (h<=(i64.wrap ((p1.length:Int) - 1))) ((i64.wrap ((p1.length:Int) - 1))<=(p1.length:Int))))).bind fun _=>((b0 n) (b.2.1,b.2.2.1,b.2.2.2.1,b.2.2.2.2.1,b.2.2.2.2.2) ((p1.take ((i64.wrap ((p1.length:Int) - 1)).toNat)).drop h.toNat)).bind fun a=>(jc (a.2.1,a.2.2.1,a.2.2.2.1,a.2.2.2.2.1,a.2.2.2.2.2) b.1.2.2 a.1.2.1).bind fun d=>if b.1.1 then (Option.bind ((if b.1.1 then (some (a.1.1,orI b.1.2.1 a.1.2.1,a.1.2.2)) else (some (a.1.1,b.1.2.1,a.1.2.2)):Option (Bool×Int×Int))) (fun j=>Option.bind ((if a.1.1 then (some (j.1,j.2.1,orI b.1.2.2 a.1.2.2)) else (some (j.1,j.2.1,j.2.2)):Option (Bool×Int×Int))) (fun m=>some ((m.1,m.2.1,m.2.2),d.1,d.2.1,d.2.2.1,d.2.2.2.1,d.2.2.2.2)))) else (Option.bind ((if b.1.1 then (some (false,orI b.1.2.1 a.1.2.1,a.1.2.2)) else (some (false,b.1.2.1,a.1.2.2)):Option (Bool×Int×Int))) (fun k=>Option.bind ((if a.1.1 then (some (k.1,k.2.1,orI b.1.2.2 a.1.2.2)) else (some (k.1,k.2.1,k.2.2)):Option (Bool×Int×Int))) (fun o=>some ((o.1,o.2.1,o.2.2),d.1,d.2.1,d.2.2.1,d.2.2.2.1,d.2.2.2.2))))) else (if g.1==5 then ((chk (And (0<=(i64.wrap ((p1.length:Int) - 1))) ((i64.wrap ((p1.length:Int) - 1))<=(p1.length:Int)))).bind fun _=>(eG (p1.take ((i64.wrap ((p1.length:Int) - 1)).toNat))).bind fun i=>(chk (And (0<=i) (i<=(p1.length:Int)))).bind fun _=>((b0 n) (p0.1,p0.2.1,p0.2.2.1,p0.2.2.2.1,p0.2.2.2.2) (p1.take i.toNat)).bind fun e=>(chk (And (0<=i) (And (i<=(i64.wrap ((p1.length:Int) - 1))) ((i64.wrap ((p1.length:Int) - 1))<=(p1.length:Int))))).bind fun _=>((b0 n) (e.2.1,e.2.2.1,e.2.2.2.1,e.2.2.2.2.1,e.2.2.2.2.2) ((p1.take ((i64.wrap ((p1.length:Int) - 1)).toNat)).drop i.toNat)).bind fun c=>if e.1.1 then (some ((true,orI e.1.2.1 c.1.2.1,orI e.1.2.2 c.1.2.2),c.2.1,c.2.2.1,c.2.2.2.1,c.2.2.2.2.1,c.2.2.2.2.2)) else (some ((c.1.1,orI e.1.2.1 c.1.2.1,orI e.1.2.2 c.1.2.2),c.2.1,c.2.2.1,c.2.2.2.1,c.2.2.2.2.1,c.2.2.2.2.2))) else (if g.1==6 then ((chk (And (0<=(i64.wrap ((p1.length:Int) - 1))) ((i64.wrap ((p1.length:Int) - 1))<=(p1.length:Int)))).bind fun _=>((b0 n) (p0.1,p0.2.1,p0.2.2.1,p0.2.2.2.1,p0.2.2.2.2) (p1.take ((i64.wrap ((p1.length:Int) - 1)).toNat))).bind fun f=>(jc (f.2.1,f.2.2.1,f.2.2.2.1,f.2.2.2.2.1,f.2.2.2.2.2) f.1.2.2 f.1.2.1).bind fun l=>some ((true,f.1.2.1,f.1.2.2),l.1,l.2.1,l.2.2.1,l.2.2.2.1,l.2.2.2.2)) else (some ((false,0,0),p0.1,p0.2.1,p0.2.2.1,p0.2.2.2.1,p0.2.2.2.2))))))
def b7 (b:(List Yq2)×Bool) (a:Int×Int):Option (Out (Yq3×Bool) (Int×Int)):=
 if decide (a.2<(b.1.length:Int)) then (Option.bind (((bf b.1 a.2).bind fun c=>if c.1==3 then (some (i64.wrap (a.1+1))) else (some a.1):Option Int)) (fun d=>some (.nxt (d,i64.wrap (a.2+1))))) else (some (.brk (a.1,a.2)))
def c7 (c:List Yq2):Option (Yq3×Bool):=
 (gR c).bind fun b=>if b.2 then (bc (aK (b7 b) br (0,0)) (fun d=>some d) (fun e=>if decide (e.1>20) then (some ((([] :List Int),0,0,([] :List Int),false),false)) else ((b0 jx (([] :List Int),0,0,([] :List Int),false) b.1).bind fun a=>some ((a.2.1,a.1.2.1,a.1.2.2,a.2.2.2.2.1,a.1.1),true)))) else (some ((([] :List Int),0,0,([] :List Int),false),false))
def fP (a:(List Int)×Int×Int):Option (Int×Int×Int):=
 Option.bind ((if decide (a.2.1<(a.1.length:Int)) then ((bf a.1 a.2.1).bind fun c=>some (mZ (i64.wrap ((mZ (NF (k9 (i64.wrap ((i64.wrap (a.2.2*6364136223846793005))+1442695040888963407)) 33) (k9 (i64.wrap ((i64.wrap (a.2.2*6364136223846793005))+1442695040888963407)) 45)) 255)+(i64.wrap c))) 255,i64.wrap (a.2.1+1),i64.wrap ((i64.wrap (a.2.2*6364136223846793005))+1442695040888963407))) else (some (mZ (NF (k9 (i64.wrap ((i64.wrap (a.2.2*6364136223846793005))+1442695040888963407)) 33) (k9 (i64.wrap ((i64.wrap (a.2.2*6364136223846793005))+1442695040888963407)) 45)) 255,a.2.1,i64.wrap ((i64.wrap (a.2.2*6364136223846793005))+1442695040888963407))):Option (Int×Int×Int))) (fun b=>some (b.1,b.2.1,b.2.2))
def bg (a:(List Int)×Int×Int) (b:Int):Option (Int×Int×Int):=
 if decide (b<=0) then (some (0,a.2.1,a.2.2)) else (if decide (b<=256) then ((fP (a.1,a.2.1,a.2.2)).bind fun c=>(chk (b≠0)).bind fun _=>some (Int.tmod c.1 b,c.2.1,c.2.2)) else ((fP (a.1,a.2.1,a.2.2)).bind fun d=>(fP (a.1,d.2.1,d.2.2)).bind fun e=>(fP (a.1,e.2.1,e.2.2)).bind fun f=>(fP (a.1,f.2.1,f.2.2)).bind fun g=>(chk (b≠0)).bind fun _=>some (Int.tmod (i64.wrap ((i64.wrap ((i64.wrap ((i64.wrap (d.1*16777216))+(i64.wrap (e.1*65536))))+(i64.wrap (f.1*256))))+g.1)) b,g.2.1,g.2.2)))
def eY (a:(List Int)×Int×Int) (c:Int):Option (Bool×Int×Int):=
 (bg (a.1,a.2.1,a.2.2) c).bind fun b=>some (b.1==0,b.2.1,b.2.2)
def xw (b:ByteArray) (d:Int) (a:(List ByteArray)×Int×Int):Option (Out (List ByteArray) ((List ByteArray)×Int×Int)):=
 if decide (a.2.2<((b.size:Nat):Int)) then (Option.bind (((yQ b a.2.2).bind fun e=>if e==d then ((KJ b a.2.1 a.2.2).bind fun f=>(ez 16 a.1 ([f])).bind fun g=>some (g,i64.wrap (a.2.2+1))) else (some (a.1,a.2.1)):Option ((List ByteArray)×Int))) (fun c=>some (.nxt (c.1,c.2,i64.wrap (a.2.2+1))))) else (some (.brk (a.1,a.2.1,a.2.2)))
def xx (a:ByteArray) (c:Int):Option (List ByteArray):=
 bc (aK (xw a c) br (([] :List ByteArray),0,0)) (fun d=>some d) (fun b=>(KJ a b.2.1 ((a.size:Nat):Int)).bind fun e=>(ez 16 b.1 ([e])).bind fun f=>some f)
def il (a:Int):Option ByteArray:=
 (dF a).bind fun b=>if b then ((bf ([(⟨#[97]⟩:ByteArray),(⟨#[97,45]⟩:ByteArray),(⟨#[98]⟩:ByteArray),(⟨#[98,45]⟩:ByteArray),(⟨#[99]⟩:ByteArray),(⟨#[99,45]⟩:ByteArray),(⟨#[48]⟩:ByteArray),(⟨#[49]⟩:ByteArray),(⟨#[50]⟩:ByteArray)]) a).bind fun c=>some c) else (some (⟨#[]⟩:ByteArray))
def qm (a:Int×ByteArray):Option (Out ByteArray (Int×ByteArray)):=
 if a.1 !=0 then (Option.bind ((if decide ((Int.tmod a.1 10)<0) then (some (i64.wrap (-(Int.tmod a.1 10)))) else (some (Int.tmod a.1 10)):Option Int)) (fun b=>(KI (rC ([IntKind.u8.wrap (i64.wrap (48+b))])) a.2).bind fun c=>some (.nxt (ND a.1 10,c)))) else (some (.brk (a.1,a.2)))
def kL (a:Int):Option ByteArray:=
 if a==0 then (some (⟨#[48]⟩)) else (bc (aK (qm) br (a,(⟨#[]⟩:ByteArray))) (fun c=>some c) (fun b=>if decide (a<0) then ((KI (⟨#[45]⟩) b.2).bind fun d=>some d) else (some b.2)))
def rR (a:Int×Int×Int×Int):Option ByteArray:=
 if a.1==1 then (some (⟨#[33]⟩)) else (if a.1==2 then (some (⟨#[40,41]⟩)) else (if a.1==3 then ((il a.2.1).bind fun b=>some b) else (if a.1==4 then (some (⟨#[46]⟩)) else (if a.1==5 then (some (⟨#[124]⟩)) else (if a.1==6 then (some (⟨#[42]⟩)) else ((kL a.2.2.1).bind fun c=>(KI (⟨#[123]⟩) c).bind fun d=>(KI d (⟨#[44]⟩)).bind fun e=>(kL a.2.2.2).bind fun f=>(KI e f).bind fun g=>(KI g (⟨#[125]⟩)).bind fun h=>some h))))))
def oy (b:ByteArray) (a:Int):Option (Out (Int×Bool) Int):=
 if decide (a<9) then ((il a).bind fun c=>if c==b then (some (.ret (a,true))) else (some (.nxt (i64.wrap (a+1))))) else (some (.brk a))
def lP (a:ByteArray):Option (Int×Bool):=
 bc (aK (oy a) br 0) (fun r=>some r) (fun b=>some (0,false))
def vF (b:ByteArray) (a:Int):Option (Out Yq2 Int):=
 if decide (a<=6) then (if a !=3 then ((rR (a,0,0,0)).bind fun c=>if c==b then (some (.ret (a,0,0,0))) else (some (.nxt (i64.wrap (a+1))))) else (some (.nxt (i64.wrap (a+1))))) else (some (.brk a))
def tX (a:ByteArray):Option Yq2:=
 bc (aK (vF a) br 1) (fun c=>some c) (fun i=>(lP a).bind fun b=>if b.2 then (some (3,b.1,0,0)) else (if ((a.size:Nat):Int)==5 then ((yQ a 0).bind fun d=>if d==123 then ((yQ a 2).bind fun e=>if e==44 then ((yQ a 4).bind fun f=>if f==125 then ((yQ a 1).bind fun g=>(yQ a 3).bind fun h=>some (7,0,i64.wrap ((i64.wrap g) - 48),i64.wrap ((i64.wrap h) - 48))) else (some (0,0,0,0))) else (some (0,0,0,0))) else (some (0,0,0,0))) else (some (0,0,0,0))))
def qn (c:List ByteArray) (a:Int×(List Yq2)):Option (Out (((List Yq2))×Bool) (Int×(List Yq2))):=
 if decide (a.1<(c.length:Int)) then (if decide (a.1<=24) then ((bf c a.1).bind fun d=>(tX d).bind fun b=>(ez 32 a.2 ([(b.1,b.2.1,b.2.2.1,b.2.2.2)])).bind fun e=>some (.nxt (i64.wrap (a.1+1),e))) else (some (.brk (a.1,a.2)))) else (some (.brk (a.1,a.2)))
def eZ (b:ByteArray):Option (((List Yq2))×Bool):=
 (xx b 32).bind fun c=>bc (aK (qn c) br (0,[])) (fun r=>some r) (fun a=>(eF a.2).bind fun d=>if d then (some (a.2,true)) else (some ([],false)))
def mB (a:(List Int)×Int×Int) (c:List ByteArray):Option (ByteArray×Int×Int):=
 (bg (a.1,a.2.1,a.2.2) (c.length:Int)).bind fun b=>(bf c b.1).bind fun d=>some (d,b.2.1,b.2.2)
def kM (a:(List Int)×Int×Int):Option ((List Yq2)×Int×Int):=
 (mB (a.1,a.2.1,a.2.2) ([⟨#[97]⟩,⟨#[97,32,98,32,46]⟩,⟨#[97,32,42]⟩,⟨#[97,32,98,32,124,32,42]⟩,⟨#[97,32,97,45,32,46]⟩,⟨#[97,32,42,32,98,32,46]⟩,⟨#[97,32,98,32,42,32,46,32,99,32,46]⟩,⟨#[97,32,97,32,124,32,42]⟩,⟨#[97,32,98,32,46,32,42]⟩,⟨#[48,32,97,32,46,32,42]⟩,⟨#[97,32,49,32,46,32,98,32,46]⟩,⟨#[97,32,123,48,44,50,125]⟩,⟨#[97,32,98,32,124,32,123,49,44,51,125]⟩,⟨#[40,41]⟩,⟨#[33]⟩,⟨#[97,45,32,42,32,97,32,46]⟩,⟨#[97,32,98,45,32,46,32,42,32,99,32,124]⟩,⟨#[97,32,42,32,97,32,42,32,46]⟩,⟨#[97,32,48,32,124,32,42,32,98,32,46]⟩,⟨#[97,32,97,32,46,32,42]⟩,⟨#[97,32,98,32,46,32,98,32,97,32,46,32,124,32,42]⟩])).bind fun b=>(eZ b.1).bind fun c=>some (c.1,b.2.1,b.2.2)
def bV (a:(List Int)×Int×Int) (c:List Int):Option (Int×Int×Int):=
 (bg (a.1,a.2.1,a.2.2) (c.length:Int)).bind fun b=>(bf c b.1).bind fun d=>some (d,b.2.1,b.2.2)
def m6 (a:Int):Option (List Yq2):=
 some ([(3,a,0,0)])
def cr:Nat->((List Int)×Int×Int)->Int->Option ((List Yq2)×Int×Int)
 | 0,_,_=>none
 | n+1,p0,p1 =>
  if p1==0 then ((eY (p0.1,p0.2.1,p0.2.2) 12).bind fun b=>if b.1 then ((bV (p0.1,b.2.1,b.2.2) ([1,2])).bind fun d=>(iK d.1).bind fun m=>some (m,d.2.1,d.2.2)) else ((bV (p0.1,b.2.1,b.2.2) ([0,0,2,2,1,4,3,6,7])).bind fun e=>(m6 e.1).bind fun o=>some (o,e.2.1,e.2.2))) else ((bg (p0.1,p0.2.1,p0.2.2) 6).bind fun a=>Option.bind ((if a.1==0 then (some (a.1==0)) else (some (a.1==1)):Option Bool)) (fun p=>if p then (((cr n) (p0.1,a.2.1,a.2.2) (i64.wrap (p1 - 1))).bind fun f=>((cr n) (p0.1,f.2.1,f.2.2) (i64.wrap (p1 - 1))).bind fun g=>(cL f.1 g.1 (4,0,0,0)).bind fun q=>some (q,g.2.1,g.2.2)) else (Option.bind ((if a.1==2 then (some (a.1==2)) else (some (a.1==3)):Option Bool)) (fun r=>if r then (((cr n) (p0.1,a.2.1,a.2.2) (i64.wrap (p1 - 1))).bind fun h=>((cr n) (p0.1,h.2.1,h.2.2) (i64.wrap (p1 - 1))).bind fun i=>(cL h.1 i.1 (5,0,0,0)).bind fun s=>some (s,i.2.1,i.2.2)) else (if a.1==4 then (((cr n) (p0.1,a.2.1,a.2.2) (i64.wrap (p1 - 1))).bind fun j=>(cL j.1 ([] :List Yq2) (6,0,0,0)).bind fun t=>some (t,j.2.1,j.2.2)) else ((bg (p0.1,a.2.1,a.2.2) 3).bind fun c=>((cr n) (p0.1,c.2.1,c.2.2) (i64.wrap (p1 - 1))).bind fun k=>(bg (p0.1,k.2.1,k.2.2) (i64.wrap ((i64.wrap (1+c.1))+1))).bind fun l=>(cL k.1 ([] :List Yq2) (7,0,l.1,i64.wrap (1+c.1))).bind fun u=>some (u,l.2.1,l.2.2)))))))
def j2 (a:(List Int)×Int×Int):Option ((List Yq2)×Int×Int):=
 (eY (a.1,a.2.1,a.2.2) 2).bind fun b=>if b.1 then ((kM (a.1,b.2.1,b.2.2)).bind fun c=>some (c.1,c.2.1,c.2.2)) else ((bg (a.1,b.2.1,b.2.2) 3).bind fun d=>(cr jx (a.1,d.2.1,d.2.2) (i64.wrap (1+d.1))).bind fun e=>some (e.1,e.2.1,e.2.2))
def mC (d:(List Int)×Int×Int):Option (Yq3×Int×Int):=
 (j2 (d.1,d.2.1,d.2.2)).bind fun e=>(c7 e.1).bind fun a=>(bg (d.1,e.2.1,e.2.2) 14).bind fun b=>Option.bind ((if b.1==0 then ((bV (d.1,b.2.1,b.2.2) ([(-1),1,1048576])).bind fun f=>some (f.2.1,f.2.2,a.1.1,f.1,a.1.2.2.1,a.1.2.2.2.1,a.1.2.2.2.2)) else (if b.1==1 then ((ez 8 a.1.1 ([0])).bind fun g=>some (b.2.1,b.2.2,g,a.1.2.1,a.1.2.2.1,a.1.2.2.2.1,a.1.2.2.2.2)) else (if b.1==2 then (some (b.2.1,b.2.2,a.1.1,a.1.2.1,a.1.2.2.1,a.1.2.2.2.1,cond.match_1 (fun (h:Bool)=>Bool) a.1.2.2.2.2 (fun (i:Unit)=>false) (fun (j:Unit)=>true))) else (some (b.2.1,b.2.2,a.1.1,a.1.2.1,a.1.2.2.1,a.1.2.2.2.1,a.1.2.2.2.2)))):Option (Int×Int×(List Int)×Int×Int×(List Int)×Bool))) (fun c=>some ((c.2.2.1,c.2.2.2.1,c.2.2.2.2.1,c.2.2.2.2.2.1,c.2.2.2.2.2.2),c.1,c.2.1))
def jD (b:List Int) (a:Int×Int):Option (Out (Int×Int) (Int×Int)):=
 if decide (a.2<(b.length:Int)) then (if decide (a.2<4000) then ((bf b a.2).bind fun c=>some (.nxt (mZ (i64.wrap ((i64.wrap ((i64.wrap (a.1*131))+(i64.wrap c)))+7)) 1073741823,i64.wrap (a.2+1)))) else (some (.brk (a.1,a.2)))) else (some (.brk (a.1,a.2)))
def j3 (a:List Int):Option (Int×Int):=
 bc (aK (jD a) br (i64.wrap (10101+(a.length:Int)),0)) (fun b=>some b) (fun c=>some (0,c.1))
def dJ (b:List Int):Option Yq3:=
 (j3 b).bind fun c=>(mC (b,c.1,c.2)).bind fun a=>some (a.1.1,a.1.2.1,a.1.2.2.1,a.1.2.2.2.1,a.1.2.2.2.2)
def fQ (a:Int) (b:Int) (c:Int):Option Bool:=
 if decide (a≥b) then (some (decide (a<=c))) else (some false)
def bB (a:Int) (q0:Int):Option Bool:=
 (chk (0<=q0)).bind fun _=>(fQ a 0 (i64.wrap ((v8 1 q0) - 1))).bind fun b=>some b
def eH (a:Int):Option Bool:=
 (fQ a 0 8).bind fun b=>some b
def cD (b:(List Int)×Int×Int×(List Int)×Bool) (a:Int):Option (Out Bool Int):=
 if decide (a<(b.1.length:Int)) then ((bf b.1 a).bind fun c=>(eH c).bind fun d=>if d then ((bf b.2.2.2.1 a).bind fun e=>(bB e (b.1.length:Int)).bind fun f=>if f then (some (.nxt (i64.wrap (a+1)))) else (some (.ret false))) else (some (.ret false))) else (some (.brk a))
def dk (a:(List Int)×Int×Int×(List Int)×Bool):Option Bool:=
 if decide ((a.1.length:Int)>20) then (some false) else (if (a.2.2.2.1.length:Int) !=(a.1.length:Int) then (some false) else (bc (aK (cD a) br 0) (fun r=>some r) (fun d=>(bB a.2.1 (a.1.length:Int)).bind fun b=>if b then ((bB a.2.2.1 (a.1.length:Int)).bind fun c=>some c) else (some false))))
def cO (e:Int->Int->Option (Int×Bool)) (f:(List Int)×(List (Int×Int))×Int×Int×(List Bool)×(List (List Int))) (a:(List Int)×(List (Int×Int))×(List Int)×Int):Option (Out (Yq1×Bool) ((List Int)×(List (Int×Int))×(List Int)×Int)):=
 if decide (a.2.2.2<9) then (Option.bind (((bf a.1 f.2.2.1).bind fun g=>(e g a.2.2.2).bind fun b=>if b.2 then ((chk (iOk b.1=true)).bind fun _=>Option.bind ((if (lkM a.2.1 b.1).isSome then (some (a.1,a.2.1,(lkM a.2.1 b.1).getD 0)) else ((CA a.2.1 iOk iOk b.1 (a.1.length:Int)).bind fun m37=>(ez 8 a.1 ([b.1])).bind fun h=>some (h,m37,(a.1.length:Int))):Option ((List Int)×(List (Int×Int))×Int))) (fun c=>(ez 8 a.2.2.1 ([c.2.2])).bind fun i=>some (c.1,c.2.1,i))) else ((ez 8 a.2.2.1 ([-1])).bind fun j=>some (a.1,a.2.1,j)):Option ((List Int)×(List (Int×Int))×(List Int)))) (fun d=>some (.nxt (d.1,d.2.1,d.2.2,i64.wrap (a.2.2.2+1))))) else (some (.brk (a.1,a.2.1,a.2.2.1,a.2.2.2)))
def bh (c:Int) (d:Int->Option Bool) (e:Int->Int->Option (Int×Bool)) (a:(List Int)×(List (Int×Int))×Int×Int×(List Bool)×(List (List Int))):Option (Out (Yq1×Bool) ((List Int)×(List (Int×Int))×Int×Int×(List Bool)×(List (List Int)))):=
 if decide (a.2.2.1<(a.1.length:Int)) then (bc (aK (cO e a) br (a.1,a.2.1,([] :List Int),0)) (fun r=>some (.ret r)) (fun b=>if decide ((b.1.length:Int)>c) then (some (.ret ((0,[],[]),false))) else ((bf b.1 a.2.2.1).bind fun f=>(d f).bind fun g=>(ez 1 a.2.2.2.2.1 ([g])).bind fun h=>(ez 24 a.2.2.2.2.2 ([b.2.2.1])).bind fun i=>some (.nxt (b.1,b.2.1,i64.wrap (a.2.2.1+1),a.2.2.2.1,h,i))))) else (some (.brk (a.1,a.2.1,a.2.2.1,a.2.2.2.1,a.2.2.2.2.1,a.2.2.2.2.2)))
def cw (b:Int) (c:Int) (d:Int->Option Bool) (e:Int->Int->Option (Int×Bool)):Option (Yq1×Bool):=
 (CA ([] :List (Int×Int)) iOk iOk b 0).bind fun m1=>bc (aK (bh c d e) br ([b],m1,0,0,[],[])) (fun r=>some r) (fun a=>some ((a.2.2.2.1,a.2.2.2.2.1,a.2.2.2.2.2),true))
def b8 (a:(List Int)×Int×Int×(List Int)×Bool) (b:Int):Option Bool:=
 if (mZ b 1)==1 then (if a.2.2.2.2 then (some true) else (some ((mZ (k9 b 1) a.2.2.1) !=0))) else (some ((mZ (k9 b 1) a.2.2.1) !=0))
def bO (b:(List Int)×Int×Int×(List Int)×Bool) (c:Int) (a:Int×Int):Option (Out Int (Int×Int)):=
 if decide (a.2<(b.2.2.2.1.length:Int)) then (Option.bind (((bf b.2.2.2.1 a.2).bind fun d=>(chk (0<=i64.wrap (a.2+1))).bind fun _=>if (mZ (k9 c (i64.wrap (a.2+1))) 1)==1 then (some (orI a.1 d)) else (some a.1):Option Int)) (fun e=>some (.nxt (e,i64.wrap (a.2+1))))) else (some (.brk (a.1,a.2)))
def bP (b:(List Int)×Int×Int×(List Int)×Bool) (c:Int) (d:Int×Int) (a:Int×Int):Option (Out Int (Int×Int)):=
 if decide (a.2<(b.1.length:Int)) then (Option.bind (((bf b.1 a.2).bind fun e=>if e==c then ((chk (0<=a.2)).bind fun _=>if (mZ (k9 d.1 a.2) 1)==1 then ((chk (0<=i64.wrap (a.2+1))).bind fun _=>some (orI a.1 (v8 1 (i64.wrap (a.2+1))))) else (some a.1)) else (some a.1):Option Int)) (fun f=>some (.nxt (f,i64.wrap (a.2+1))))) else (some (.brk (a.1,a.2)))
def dK (a:(List Int)×Int×Int×(List Int)×Bool) (b:Int) (c:Int):Option Int:=
 Option.bind ((if (mZ b 1)==1 then (some a.2.1) else (some 0):Option Int)) (fun d=>bc (aK (bO a b) br (d,0)) (fun r=>some r) (fun e=>bc (aK (bP a c e) br (0,0)) (fun r=>some r) (fun f=>some f.1)))
def bT (b:Int) (c:Int) (q0:(List Int)×Int×Int×(List Int)×Bool):Option (Int×Bool):=
 (dK (q0.1,q0.2.1,q0.2.2.1,q0.2.2.2.1,q0.2.2.2.2) b c).bind fun a=>some (a,a !=0)
def eI (a:(List Int)×Int×Int×(List Int)×Bool) (c:Int):Option (Yq1×Bool):=
 (cw 1 c (fun a0=>b8 (a.1,a.2.1,a.2.2.1,a.2.2.2.1,a.2.2.2.2) a0) (fun a0 a1=>bT a0 a1 (a.1,a.2.1,a.2.2.1,a.2.2.2.1,a.2.2.2.2))).bind fun b=>some ((b.1.1,b.1.2.1,b.1.2.2),b.2)
def gp (a:(List Int)×Int×Int×(List Int)×Bool):Option (Yq1×Bool):=
 (dk (a.1,a.2.1,a.2.2.1,a.2.2.2.1,a.2.2.2.2)).bind fun c=>if c then ((eI (a.1,a.2.1,a.2.2.1,a.2.2.2.1,a.2.2.2.2) 12).bind fun b=>some ((b.1.1,b.1.2.1,b.1.2.2),b.2)) else (some ((0,[],[]),false))
def cE (a:(List Int)×Int×Int×(List Int)×Bool) (b:Int):Option (Out Bool Int):=
 if decide (b<(a.1.length:Int)) then ((bf a.1 b).bind fun c=>(dF c).bind fun d=>if d then ((bf a.2.2.2.1 b).bind fun e=>(chk (0<=(a.1.length:Int))).bind fun _=>(gm e 0 (i64.wrap ((v8 1 (a.1.length:Int)) - 1))).bind fun f=>if f then (some (.nxt (i64.wrap (b+1)))) else (some (.ret false))) else (some (.ret false))) else (some (.brk b))
def bu (a:(List Int)×Int×Int×(List Int)×Bool):Option Bool:=
 if decide ((a.1.length:Int)>20) then (some false) else (if (a.2.2.2.1.length:Int) !=(a.1.length:Int) then (some false) else ((chk (0<=(a.1.length:Int))).bind fun _=>(gm a.2.1 0 (i64.wrap ((v8 1 (a.1.length:Int)) - 1))).bind fun b=>if b then ((chk (0<=(a.1.length:Int))).bind fun _=>(gm a.2.2.1 0 (i64.wrap ((v8 1 (a.1.length:Int)) - 1))).bind fun c=>if c then (bc (aK (cE a) br 0) (fun r=>some r) (fun d=>some true)) else (some false)) else (some false)))
def eJ (b:(List Int)×Int×Int×(List Int)×Bool) (c:Int) (a:Int×Int):Option (Out Int (Int×Int)):=
 if decide (a.2<(b.1.length:Int)) then (Option.bind (((chk (0<=i64.wrap (a.2+1))).bind fun _=>if (mZ (k9 c (i64.wrap (a.2+1))) 1)==1 then ((bf b.2.2.2.1 a.2).bind fun d=>some (orI a.1 d)) else (some a.1):Option Int)) (fun e=>some (.nxt (e,i64.wrap (a.2+1))))) else (some (.brk (a.1,a.2)))
def eK (b:(List Int)×Int×Int×(List Int)×Bool) (c:Int) (d:Int×Int) (a:Int×Int):Option (Out Int (Int×Int)):=
 if decide (a.2<(b.1.length:Int)) then (Option.bind (((chk (0<=a.2)).bind fun _=>if (mZ (k9 d.1 a.2) 1)==1 then ((bf b.1 a.2).bind fun e=>if e==c then ((chk (0<=i64.wrap (a.2+1))).bind fun _=>some (orI a.1 (v8 1 (i64.wrap (a.2+1))))) else (some a.1)) else (some a.1):Option Int)) (fun f=>some (.nxt (f,i64.wrap (a.2+1))))) else (some (.brk (a.1,a.2)))
def gX (a:(List Int)×Int×Int×(List Int)×Bool) (b:Int) (c:Int):Option Int:=
 Option.bind ((if (mZ b 1)==1 then (some a.2.1) else (some 0):Option Int)) (fun d=>bc (aK (eJ a b) br (d,0)) (fun r=>some r) (fun e=>bc (aK (eK a c e) br (0,0)) (fun r=>some r) (fun f=>some f.1)))
def fu (a:(List Int)×Int×Int×(List Int)×Bool) (b:Int):Option Bool:=
 if (mZ b 1)==1 then (if a.2.2.2.2 then (some true) else (some ((mZ (k9 b 1) a.2.2.1) !=0))) else (some ((mZ (k9 b 1) a.2.2.1) !=0))
def jQ (b:List Int) (c:Int) (a:Int):Option (Out Int Int):=
 if decide (a<(b.length:Int)) then ((bf b a).bind fun d=>if d==c then (some (.ret a)) else (some (.nxt (i64.wrap (a+1))))) else (some (.brk a))
def jd (a:List Int) (b:Int):Option Int:=
 bc (aK (jQ a b) br 0) (fun r=>some r) (fun c=>some (-1))
def dw (b:(List Int)×Int×Int×(List Int)×Bool) (f:(List Int)×Int×Int×(List Bool)×(List (List Int))) (a:(List Int)×(List Int)×Int):Option (Out (Yq1×Bool) ((List Int)×(List Int)×Int)):=
 if decide (a.2.2<9) then ((bf a.1 f.2.1).bind fun g=>(gX (b.1,b.2.1,b.2.2.1,b.2.2.2.1,b.2.2.2.2) g a.2.2).bind fun c=>Option.bind ((if c !=0 then ((jd a.1 c).bind fun d=>if decide (d<0) then ((ez 8 a.1 ([c])).bind fun h=>some (h,(a.1.length:Int))) else (some (a.1,d))) else (some (a.1,-1)):Option ((List Int)×Int))) (fun e=>(ez 8 a.2.1 ([e.2])).bind fun i=>some (.nxt (e.1,i,i64.wrap (a.2.2+1))))) else (some (.brk (a.1,a.2.1,a.2.2)))
def dx (b:(List Int)×Int×Int×(List Int)×Bool) (d:Int) (a:(List Int)×Int×Int×(List Bool)×(List (List Int))):Option (Out (Yq1×Bool) ((List Int)×Int×Int×(List Bool)×(List (List Int)))):=
 if decide (a.2.1<(a.1.length:Int)) then (bc (aK (dw b a) br (a.1,([] :List Int),0)) (fun r=>some (.ret r)) (fun c=>if decide ((c.1.length:Int)>d) then (some (.ret ((0,[],[]),false))) else ((bf c.1 a.2.1).bind fun e=>(fu (b.1,b.2.1,b.2.2.1,b.2.2.2.1,b.2.2.2.2) e).bind fun f=>(ez 1 a.2.2.2.1 ([f])).bind fun g=>(ez 24 a.2.2.2.2 ([c.2.1])).bind fun h=>some (.nxt (c.1,i64.wrap (a.2.1+1),a.2.2.1,g,h))))) else (some (.brk (a.1,a.2.1,a.2.2.1,a.2.2.2.1,a.2.2.2.2)))
def bW (b:(List Int)×Int×Int×(List Int)×Bool) (c:Int):Option (Yq1×Bool):=
 bc (aK (dx b c) br ([1],0,0,[],[])) (fun r=>some r) (fun a=>some ((a.2.2.1,a.2.2.2.1,a.2.2.2.2),true))
def gq (a:(List Int)×Int×Int×(List Int)×Bool):Option (Yq1×Bool):=
 (bu (a.1,a.2.1,a.2.2.1,a.2.2.2.1,a.2.2.2.2)).bind fun c=>if c then ((bW (a.1,a.2.1,a.2.2.1,a.2.2.2.1,a.2.2.2.2) 12).bind fun b=>some ((b.1.1,b.1.2.1,b.1.2.2),b.2)) else (some ((0,[],[]),false))
def jE (b:List Int) (c:List Int) (a:Int):Option (Out Int Int):=
 if decide (a<(b.length:Int)) then (if decide (a<(c.length:Int)) then ((bf b a).bind fun d=>(bf c a).bind fun e=>if decide (d<e) then (some (.ret (-1))) else ((bf b a).bind fun f=>(bf c a).bind fun g=>if decide (f>g) then (some (.ret 1)) else (some (.nxt (i64.wrap (a+1)))))) else (some (.brk a))) else (some (.brk a))
def j4 (a:List Int) (b:List Int):Option Int:=
 bc (aK (jE a b) br 0) (fun r=>some r) (fun c=>if decide ((a.length:Int)<(b.length:Int)) then (some (-1)) else (if decide ((a.length:Int)>(b.length:Int)) then (some 1) else (some 0)))
def dm (b:Int×(List Bool)×(List (List Int))) (c:Int×(List Bool)×(List (List Int))) (a:Int):Option (Out Bool Int):=
 if decide (a<(b.2.1.length:Int)) then ((bf b.2.1 a).bind fun d=>(bf c.2.1 a).bind fun e=>if d !=e then (some (.ret false)) else (some (.nxt (i64.wrap (a+1))))) else (some (.brk a))
def dn (b:Int×(List Bool)×(List (List Int))) (c:Int×(List Bool)×(List (List Int))) (a:Int):Option (Out Bool Int):=
 if decide (a<(b.2.2.length:Int)) then ((bf b.2.2 a).bind fun d=>(bf c.2.2 a).bind fun e=>(j4 d e).bind fun f=>if f !=0 then (some (.ret false)) else (some (.nxt (i64.wrap (a+1))))) else (some (.brk a))
def bj (a:Int×(List Bool)×(List (List Int))) (b:Int×(List Bool)×(List (List Int))):Option Bool:=
 if a.1 !=b.1 then (some false) else (if (a.2.1.length:Int) !=(b.2.1.length:Int) then (some false) else (if (a.2.2.length:Int) !=(b.2.2.length:Int) then (some false) else (bc (aK (dm a b) br 0) (fun r=>some r) (fun c=>bc (aK (dn a b) br 0) (fun r=>some r) (fun d=>some true)))))
def dP (e:(List Int)×Int×Int) (f:Int×Int×Int) (a:(List Int)×Int×Int×Int):Option (Out Yq5 ((List Int)×Int×Int×Int)):=
 if decide (a.2.1<9) then ((eY (e.1,a.2.2.1,a.2.2.2) 3).bind fun b=>Option.bind ((if b.1 then (some ((-1),b.2.1,b.2.2)) else ((bg (e.1,b.2.1,b.2.2) (i64.wrap (1+f.1))).bind fun c=>some (c.1,c.2.1,c.2.2)):Option (Int×Int×Int))) (fun d=>Option.bind ((if decide (a.2.1>3) then (some (-1)) else (some d.1):Option Int)) (fun g=>(ez 8 a.1 ([g])).bind fun h=>some (.nxt (h,i64.wrap (a.2.1+1),d.2.1,d.2.2))))) else (some (.brk (a.1,a.2.1,a.2.2.1,a.2.2.2)))
def fD (d:(List Int)×Int×Int) (e:Int×Int×Int) (a:Int×Int×(List Bool)×(List (List Int))×Int×Int):Option (Out Yq5 (Int×Int×(List Bool)×(List (List Int))×Int×Int)):=
 if decide (a.1<(i64.wrap (1+e.1))) then (bc (aK (dP d e) br (([] :List Int),0,a.2.2.2.2.1,a.2.2.2.2.2)) (fun f=>some (.ret f)) (fun b=>(eY (d.1,b.2.2.1,b.2.2.2) 3).bind fun c=>(ez 1 a.2.2.1 ([c.1])).bind fun g=>(ez 24 a.2.2.2.1 ([b.1])).bind fun h=>some (.nxt (i64.wrap (a.1+1),a.2.1,g,h,c.2.1,c.2.2)))) else (some (.brk (a.1,a.2.1,a.2.2.1,a.2.2.2.1,a.2.2.2.2.1,a.2.2.2.2.2)))
def gr (a:(List Int)×Int×Int):Option Yq5:=
 (bg (a.1,a.2.1,a.2.2) 4).bind fun c=>(bg (a.1,c.2.1,c.2.2) (i64.wrap (1+c.1))).bind fun d=>bc (aK (fD a c) br (0,d.1,([] :List Bool),([] :List (List Int)),d.2.1,d.2.2)) (fun e=>some e) (fun b=>some ((b.2.1,b.2.2.1,b.2.2.2.1),b.2.2.2.2.1,b.2.2.2.2.2))
def mD (a:(List Int)×Int×Int):Option Yq5:=
 (eY (a.1,a.2.1,a.2.2) 3).bind fun b=>if b.1 then ((gr (a.1,b.2.1,b.2.2)).bind fun c=>some ((c.1.1,c.1.2.1,c.1.2.2),c.2.1,c.2.2)) else ((j2 (a.1,b.2.1,b.2.2)).bind fun d=>(c7 d.1).bind fun e=>(bW (e.1.1,e.1.2.1,e.1.2.2.1,e.1.2.2.2.1,e.1.2.2.2.2) 12).bind fun g=>if g.2 then (some ((g.1.1,g.1.2.1,g.1.2.2),d.2.1,d.2.2)) else ((gr (a.1,d.2.1,d.2.2)).bind fun f=>some ((f.1.1,f.1.2.1,f.1.2.2),f.2.1,f.2.2)))
def j5 (c:(List Int)×Int×Int):Option Yq5:=
 (mD (c.1,c.2.1,c.2.2)).bind fun a=>(bg (c.1,a.2.1,a.2.2) 14).bind fun b=>Option.bind ((if b.1==0 then ((bV (c.1,b.2.1,b.2.2) ([(-1),12,1])).bind fun e=>some (e.2.1,e.2.2,e.1,a.1.2.1,a.1.2.2)) else (if b.1==1 then ((ez 1 a.1.2.1 ([true])).bind fun i=>some (b.2.1,b.2.2,a.1.1,i,a.1.2.2)) else (if b.1==2 then ((bf a.1.2.2 0).bind fun g=>(bV (c.1,b.2.1,b.2.2) ([(-2),12,0])).bind fun f=>(bf g 0).bind fun j=>some (f.2.1,f.2.2,a.1.1,a.1.2.1,a.1.2.2.set 0 (g.set 0 f.1))) else (if b.1==3 then ((bf a.1.2.2 0).bind fun h=>(chk (And ((0:Int)<=8) (8<=(h.length:Int)))).bind fun _=>(bf a.1.2.2 0).bind fun k=>(chk (0<((a.1.2.2.set 0 ([] :List Int)).length:Int))).bind fun _=>some (b.2.1,b.2.2,a.1.1,a.1.2.1,a.1.2.2.set 0 (h.take 8))) else (some (b.2.1,b.2.2,a.1.1,a.1.2.1,a.1.2.2))))):Option (Int×Int×Int×(List Bool)×List (List Int)))) (fun d=>some ((d.2.2.1,d.2.2.2.1,d.2.2.2.2),d.1,d.2.1))
def mE (a:(List Int)×Int×Int):Option (Int×Int×Int):=
 (eY (a.1,a.2.1,a.2.2) 14).bind fun b=>if b.1 then ((bV (a.1,b.2.1,b.2.2) ([(-1),9,8,100])).bind fun c=>some (c.1,c.2.1,c.2.2)) else ((bV (a.1,b.2.1,b.2.2) ([0,0,0,1,2,2,3,4,6,7])).bind fun d=>some (d.1,d.2.1,d.2.2))
def gS (c:(List Int)×Int×Int) (a:(List Int)×Int×Int×Int):Option (Out ((List Int)×Int×Int) ((List Int)×Int×Int×Int)):=
 if decide (a.2.1>0) then ((mE (c.1,a.2.2.1,a.2.2.2)).bind fun b=>(ez 8 a.1 ([b.1])).bind fun d=>some (.nxt (d,i64.wrap (a.2.1 - 1),b.2.1,b.2.2))) else (some (.brk (a.1,a.2.1,a.2.2.1,a.2.2.2)))
def kN (a:(List Int)×Int×Int):Option ((List Int)×Int×Int):=
 (bg (a.1,a.2.1,a.2.2) 6).bind fun b=>bc (aK (gS a) br (([] :List Int),b.1,b.2.1,b.2.2)) (fun d=>some d) (fun c=>some (c.1,c.2.2.1,c.2.2.2))
def gu (b:List Int):Option ((Int×(List Bool)×List (List Int))×List Int):=
 (j3 b).bind fun c=>(j5 (b,c.1,c.2)).bind fun a=>(kN (b,a.2.1,a.2.2)).bind fun d=>some ((a.1.1,a.1.2.1,a.1.2.2),d.1)
def iB (b:List Int) (a:Int):Option (Out Bool Int):=
 if decide (a<(b.length:Int)) then ((bf b a).bind fun c=>(dF c).bind fun d=>if d then (some (.nxt (i64.wrap (a+1)))) else (some (.ret false))) else (some (.brk a))
def j6 (a:List Int):Option Bool:=
 bc (aK (iB a) br 0) (fun r=>some r) (fun b=>some (decide ((a.length:Int)<=8)))
def bp (c:Int×(List Bool)×(List (List Int))) (b:List Int) (a:Int):Option (Out Bool Int):=
 if decide (a<(b.length:Int)) then ((bf b a).bind fun d=>(fQ d (-1) (i64.wrap ((c.2.1.length:Int) - 1))).bind fun e=>if e then (some (.nxt (i64.wrap (a+1)))) else (some (.ret false))) else (some (.brk a))
def cF (b:Int×(List Bool)×(List (List Int))) (a:Int):Option (Out Bool Int):=
 if decide (a<(b.2.2.length:Int)) then ((bf b.2.2 a).bind fun c=>bc (aK (bp b c) br 0) (fun r=>some (.ret r)) (fun d=>if (c.length:Int) !=9 then (some (.ret false)) else (some (.nxt (i64.wrap (a+1)))))) else (some (.brk a))
def aQ (a:Int×(List Bool)×(List (List Int))):Option Bool:=
 (fQ (a.2.1.length:Int) 1 12).bind fun b=>if b then ((fQ a.1 0 (i64.wrap ((a.2.1.length:Int) - 1))).bind fun c=>if c then (if (a.2.2.length:Int) !=(a.2.1.length:Int) then (some false) else (bc (aK (cF a) br 0) (fun r=>some r) (fun d=>some true))) else (some false)) else (some false)
def aV (c:Int×(List Bool)×(List (List Int))) (a:Int) (b:Int):Option Int:=
 if decide (a<0) then (some (-1)) else ((eH b).bind fun d=>if d then ((bf c.2.2 a).bind fun e=>(bf e b).bind fun f=>some f) else (some (-1)))
def gT (b:Int×(List Bool)×(List (List Int))) (c:List Int) (a:Int×Int):Option (Out Int (Int×Int)):=
 if decide (a.2<(c.length:Int)) then ((bf c a.2).bind fun d=>(aV (b.1,b.2.1,b.2.2) a.1 d).bind fun e=>some (.nxt (e,i64.wrap (a.2+1)))) else (some (.brk (a.1,a.2)))
def eL (a:Int×(List Bool)×(List (List Int))) (b:List Int):Option Int:=
 (aQ (a.1,a.2.1,a.2.2)).bind fun c=>if c then (bc (aK (gT a b) br (a.1,0)) (fun r=>some r) (fun d=>some d.1)) else (some (-1))
def aW (b:Int×(List Bool)×(List (List Int))) (a:Int):Option Bool:=
 if decide (a≥0) then ((bf b.2.1 a).bind fun c=>some c) else (some false)
def bH (a:Int×(List Bool)×(List (List Int))) (b:List Int):Option Bool:=
 (eL (a.1,a.2.1,a.2.2) b).bind fun c=>(aW (a.1,a.2.1,a.2.2) c).bind fun d=>some d
def b9 (b:(List Int)×Int×Int×(List Int)×Bool) (c:List Int) (a:Int×Int):Option (Out Bool (Int×Int)):=
 if decide (a.2<(c.length:Int)) then ((bf c a.2).bind fun d=>(gX (b.1,b.2.1,b.2.2.1,b.2.2.2.1,b.2.2.2.2) a.1 d).bind fun e=>some (.nxt (e,i64.wrap (a.2+1)))) else (some (.brk (a.1,a.2)))
def ed (a:(List Int)×Int×Int×(List Int)×Bool) (b:List Int):Option Bool:=
 (bu (a.1,a.2.1,a.2.2.1,a.2.2.2.1,a.2.2.2.2)).bind fun c=>if c then ((j6 b).bind fun d=>if d then (bc (aK (b9 a b) br (1,0)) (fun r=>some r) (fun e=>(fu (a.1,a.2.1,a.2.2.1,a.2.2.2.1,a.2.2.2.2) e.1).bind fun f=>some f)) else (some false)) else (some false)
def cd (b:List Int):Option (Int×(List Bool)×List (List Int)):=
 (j3 b).bind fun c=>(j5 (b,c.1,c.2)).bind fun a=>some (a.1.1,a.1.2.1,a.1.2.2)
def cf (b:Bool×Int×List Bool) (c:List Int) (a:Bool×Int×List Bool):Option (Out (List Bool) (Bool×Int×List Bool)):=
 if decide (a.2.1<(c.length:Int)) then (Option.bind (((bf c a.2.1).bind fun d=>if decide (d≥0) then ((bf a.2.2 d).bind fun f=>if f then ((bf a.2.2 b.2.1).bind fun g=>if g then (some (a.1,a.2.2)) else ((bf a.2.2 b.2.1).bind fun h=>some (true,a.2.2.set b.2.1.toNat true))) else (some (a.1,a.2.2))) else (some (a.1,a.2.2)):Option (Bool×List Bool))) (fun e=>some (.nxt (e.1,i64.wrap (a.2.1+1),e.2)))) else (some (.brk (a.1,a.2.1,a.2.2)))
def cg (b:Int×(List Bool)×List (List Int)) (a:Bool×Int×List Bool):Option (Out (List Bool) (Bool×Int×List Bool)):=
 if decide (a.2.1<(b.2.2.length:Int)) then ((bf b.2.2 a.2.1).bind fun d=>bc (aK (cf a d) br (a.1,0,a.2.2)) (fun e=>some (.ret e)) (fun c=>some (.nxt (c.1,i64.wrap (a.2.1+1),c.2.2)))) else (some (.brk (a.1,a.2.1,a.2.2)))
def eM (c:Int×(List Bool)×List (List Int)) (a:Bool×List Bool):Option (Out (List Bool) (Bool×List Bool)):=
 if a.1 then (bc (aK (cg c) br (false,0,a.2)) (fun d=>some (.ret d)) (fun b=>some (.nxt (b.1,b.2.2)))) else (some (.brk (a.1,a.2)))
def bI (a:Int×(List Bool)×List (List Int)):Option (List Bool):=
 (ez 1 ([] :List Bool) a.2.1).bind fun b=>bc (aK (eM a) br (true,b)) (fun c=>some c) (fun d=>some d.2)
def nA (a:Int) (b:Int):Option (Int×Int):=
 some (IntKind.u32.wrap (k9 (IntKind.u64.wrap ((IntKind.u64.wrap a)*(IntKind.u64.wrap b))) 32),IntKind.u32.wrap (IntKind.u64.wrap ((IntKind.u64.wrap a)*(IntKind.u64.wrap b))))
def je (a:Int) (b:Int):Option (Int×Int):=
 some (IntKind.u64.wrap ((IntKind.u64.wrap ((IntKind.u64.wrap ((k9 a 32)*(k9 b 32)))+(k9 (IntKind.u64.wrap ((IntKind.u64.wrap ((k9 a 32)*(Fy b 4294967295)))+(k9 (IntKind.u64.wrap ((Fy a 4294967295)*(Fy b 4294967295))) 32))) 32)))+(k9 (IntKind.u64.wrap ((Fy (IntKind.u64.wrap ((IntKind.u64.wrap ((k9 a 32)*(Fy b 4294967295)))+(k9 (IntKind.u64.wrap ((Fy a 4294967295)*(Fy b 4294967295))) 32))) 4294967295)+(IntKind.u64.wrap ((Fy a 4294967295)*(k9 b 32))))) 32)),IntKind.u64.wrap (a*b))
def j7 (b:Int) (c:Int):Option (Int×Int):=
 (je b c).bind fun a=>some (a.1,a.2)
def gY (a:Int×List Int):Option (Out (List Int) (Int×List Int)):=
 if decide (a.1<(a.2.length:Int)) then ((chk (And (0<=a.1) (a.1<=(a.2.length:Int)))).bind fun _=>(chk (And (0<=a.1) (a.1<=(a.2.length:Int)))).bind fun _=>(chk (And (0<=a.1) (a.1<=(a.2.length:Int)))).bind fun _=>(chk (And (0<=a.1) (a.1<=(a.2.length:Int)))).bind fun _=>some (.nxt (i64.wrap (a.1+((Min.min ((a.2.take a.1.toNat).length) (a.2.length - a.1.toNat):Nat):Int)),sZ a.2 a.1.toNat (a.2.take a.1.toNat)))) else (some (.brk (a.1,a.2)))
def eN (a:List Int) (c:Int):Option (List Int):=
 if decide (c<0) then (none) else ((j7 (IntKind.u64.wrap (a.length:Int)) (IntKind.u64.wrap c)).bind fun b=>if decide (b.1>0) then (none) else (if decide (b.2>9223372036854775807) then (none) else ((mkI 8 (i64.wrap b.2) 0).bind fun d=>bc (aK (gY) br (((Min.min a.length (d.length - 0):Nat):Int),sZ d 0 a)) (fun e=>some e) (fun f=>some f.2))))
def kO:Option Yq1:=
 (eN ([-1]) 9).bind fun a=>some (0,[false],[a])
def cz (b:Int) (c:Int) (q0:Int×(List Bool)×(List (List Int))) (q1:List Bool):Option (Int×Bool):=
 (aV (q0.1,q0.2.1,q0.2.2) b c).bind fun a=>if decide (a≥0) then ((bf q1 a).bind fun d=>some (a,d)) else (some (a,false))
def eg (a:Int×(List Bool)×(List (List Int))):Option Yq1:=
 (bI (a.1,a.2.1,a.2.2)).bind fun d=>(bf d a.1).bind fun e=>if e then ((cw a.1 (a.2.1.length:Int) (fun a0=>aW (a.1,a.2.1,a.2.2) a0) (fun a0 a1=>cz a0 a1 (a.1,a.2.1,a.2.2) d)).bind fun b=>some (b.1.1,b.1.2.1,b.1.2.2)) else ((kO).bind fun c=>some (c.1,c.2.1,c.2.2))
def dy (a:Int×(List Bool)×(List (List Int))):Option Yq1:=
 (aQ (a.1,a.2.1,a.2.2)).bind fun c=>if c then ((eg (a.1,a.2.1,a.2.2)).bind fun b=>some (b.1,b.2.1,b.2.2)) else (some (0,[],[]))
def bw (b:List (List Int)) (c:(List Int)->Option Bool) (a:Int):Option (Out Int Int):=
 if decide (a<(b.length:Int)) then ((bf b a).bind fun d=>(c d).bind fun e=>if e then (some (.ret a)) else (some (.nxt (i64.wrap (a+1))))) else (some (.brk a))
def be (a:List (List Int)) (b:(List Int)->Option Bool):Option Int:=
 bc (aK (bw a b) br 0) (fun r=>some r) (fun c=>some (-1))
def bC (b:List Int) (c:List Int) (a:Int):Option (Out Bool Int):=
 if decide (a<(b.length:Int)) then ((bf b a).bind fun d=>(bf c a).bind fun e=>if d !=e then (some (.ret false)) else (some (.nxt (i64.wrap (a+1))))) else (some (.brk a))
def bN (a:List Int) (b:List Int):Option Bool:=
 if (a.length:Int) !=(b.length:Int) then (some false) else (bc (aK (bC a b) br 0) (fun r=>some r) (fun c=>some true))
def dX (a:List Int) (q0:List Int):Option Bool:=
 (bN a q0).bind fun b=>some b
def bJ (d:List Int) (c:List Int) (a:Int×(List Int)):Option (Out ((List Int)×Int) (Int×(List Int))):=
 if decide (a.1<(c.length:Int)) then ((bf c a.1).bind fun b=>Option.bind ((if decide (b≥0) then ((bf d b).bind fun e=>some e) else (some b):Option Int)) (fun f=>(ez 8 a.2 ([f])).bind fun g=>some (.nxt (i64.wrap (a.1+1),g)))) else (some (.brk (a.1,a.2)))
def cG (h:Int×(List Bool)×(List (List Int))) (b:List Int) (a:(List (List Int))×(List Int)×Int):Option (Out ((List Int)×Int) ((List (List Int))×(List Int)×Int)):=
 if decide (a.2.2<(b.length:Int)) then (Option.bind (((bf b a.2.2).bind fun c=>if decide (c<0) then ((ez 8 a.2.1 ([-1])).bind fun i=>some (a.1,i)) else ((bf h.2.2 a.2.2).bind fun j=>bc (aK (bJ b j) br (0,[c])) (fun _=>none) (fun d=>(be a.1 (fun a0=>dX a0 d.2)).bind fun e=>Option.bind ((if decide (e<0) then ((ez 24 a.1 ([d.2])).bind fun k=>some (k,(a.1.length:Int))) else (some (a.1,e)):Option ((List (List Int))×Int))) (fun f=>(ez 8 a.2.1 ([f.2])).bind fun l=>some (f.1,l)))):Option ((List (List Int))×(List Int)))) (fun g=>some (.nxt (g.1,g.2,i64.wrap (a.2.2+1))))) else (some (.brk (a.1,a.2.1,a.2.2)))
def cA (b:Int×(List Bool)×(List (List Int))) (c:List Int):Option ((List Int)×Int):=
 bc (aK (cG b c) br (([] :List (List Int)),([] :List Int),0)) (fun r=>some r) (fun a=>some (a.2.1,(a.1.length:Int)))
def bD (c:Int×(List Bool)×(List (List Int))) (b:List Bool) (a:(List Int)×Int):Option (Out (List Int) ((List Int)×Int)):=
 if decide (a.2<(b.length:Int)) then (Option.bind (((bf b a.2).bind fun d=>if d then ((bf c.2.1 a.2).bind fun e=>if e then ((ez 8 a.1 ([1])).bind fun f=>some f) else ((ez 8 a.1 ([0])).bind fun g=>some g)) else ((ez 8 a.1 ([-1])).bind fun h=>some h):Option (List Int))) (fun i=>some (.nxt (i,i64.wrap (a.2+1))))) else (some (.brk (a.1,a.2)))
def dz (b:Int×(List Bool)×(List (List Int))) (c:(List Int)×Int):Option (Out (List Int) ((List Int)×Int)):=
 (cA (b.1,b.2.1,b.2.2) c.1).bind fun a=>if a.2==c.2 then (some (.ret a.1)) else (some (.nxt (a.1,a.2)))
def cj (a:Int×(List Bool)×(List (List Int))):Option (List Int):=
 (bI (a.1,a.2.1,a.2.2)).bind fun b=>bc (aK (bD a b) br (([] :List Int),0)) (fun r=>some r) (fun c=>bc (aK (dz a) br (c.1,-1)) (fun r=>some r) (fun d=>none))
def cx (b:List Int) (c:Int) (a:Int):Option (Out Int Int):=
 if decide (a<(b.length:Int)) then ((bf b a).bind fun d=>if c==d then (some (.ret a)) else (some (.nxt (i64.wrap (a+1))))) else (some (.brk a))
def cX (a:List Int) (b:Int):Option Int:=
 bc (aK (cx a b) br 0) (fun r=>some r) (fun c=>some (-1))
def aR (a:Int) (q0:List Int):Option Int:=
 (cX q0 a).bind fun b=>some b
def bE (a:Int) (q0:Int×(List Bool)×(List (List Int))) (q1:Int->Option Int):Option Bool:=
 (q1 a).bind fun b=>(bf q0.2.1 b).bind fun c=>some c
def bF (b:Int) (c:Int) (q0:Int×(List Bool)×(List (List Int))) (q1:Int->Option Int) (q2:List Int):Option (Int×Bool):=
 (q1 b).bind fun d=>(aV (q0.1,q0.2.1,q0.2.2) d c).bind fun a=>if decide (a<0) then (some (0,false)) else ((bf q2 a).bind fun e=>if decide (e<0) then (some (0,false)) else ((bf q2 a).bind fun f=>some (f,true)))
def bQ (a:Int×(List Bool)×(List (List Int))):Option Yq1:=
 (cj (a.1,a.2.1,a.2.2)).bind fun b=>(bf b a.1).bind fun e=>if decide (e<0) then ((kO).bind fun c=>some (c.1,c.2.1,c.2.2)) else ((bf b a.1).bind fun f=>(cw f (b.length:Int) (fun a0=>bE a0 (a.1,a.2.1,a.2.2) (fun a0=>aR a0 b)) (fun a0 a1=>bF a0 a1 (a.1,a.2.1,a.2.2) (fun a0=>aR a0 b) b)).bind fun d=>some (d.1.1,d.1.2.1,d.1.2.2))
def gZ (a:Int×(List Bool)×(List (List Int))):Option Yq1:=
 (aQ (a.1,a.2.1,a.2.2)).bind fun c=>if c then ((bQ (a.1,a.2.1,a.2.2)).bind fun b=>some (b.1,b.2.1,b.2.2)) else (some (0,[],[]))
def dW (b:Int×(List Bool)×(List (List Int))) (c:Int) (a:Int):Option (Out Bool Int):=
 if decide (a<9) then ((bf b.2.2 c).bind fun d=>(bf d a).bind fun e=>(gm e (-1) (i64.wrap ((b.2.1.length:Int) - 1))).bind fun f=>if f then (some (.nxt (i64.wrap (a+1)))) else (some (.ret false))) else (some (.brk a))
def gU (b:Int×(List Bool)×(List (List Int))) (a:Int):Option (Out Bool Int):=
 if decide (a<(b.2.1.length:Int)) then ((bf b.2.2 a).bind fun c=>if (c.length:Int) !=9 then (some (.ret false)) else (bc (aK (dW b a) br 0) (fun r=>some (.ret r)) (fun d=>some (.nxt (i64.wrap (a+1)))))) else (some (.brk a))
def jf (a:Int×(List Bool)×(List (List Int))):Option Bool:=
 (gm a.1 0 (i64.wrap ((a.2.1.length:Int) - 1))).bind fun b=>if b then (if (a.2.2.length:Int) !=(a.2.1.length:Int) then (some false) else (bc (aK (gU a) br 0) (fun r=>some r) (fun c=>some true))) else (some false)
def aC (a:Int×(List Bool)×(List (List Int))):Option Bool:=
 if decide ((a.2.1.length:Int)<=12) then ((jf (a.1,a.2.1,a.2.2)).bind fun b=>some b) else (some false)
def px (a:(List Int)×Int):Option (Out Yq1 ((List Int)×Int)):=
 if decide (a.2<9) then ((ez 8 a.1 ([-1])).bind fun b=>some (.nxt (b,i64.wrap (a.2+1)))) else (some (.brk (a.1,a.2)))
def jR:Option Yq1:=
 bc (aK (px) br (([] :List Int),0)) (fun r=>some r) (fun a=>some (0,[false],[a.1]))
def dQ (f:Int×(List Bool)×(List (List Int))) (d:List Int) (g:List Bool) (h:(List Int)×(List Int)×Int×Int×(List Bool)×(List (List Int))) (a:(List Int)×(List Int)×(List Int)×Int):Option (Out Yq1 ((List Int)×(List Int)×(List Int)×Int)):=
 if decide (a.2.2.2<9) then ((bf a.2.1 h.2.2.1).bind fun i=>(bf f.2.2 i).bind fun j=>(bf j a.2.2.2).bind fun b=>Option.bind ((if decide (b≥0) then ((bf g b).bind fun k=>if k then ((bf d b).bind fun l=>(jd a.1 l).bind fun e=>if decide (e<0) then ((bf d b).bind fun m=>(ez 8 a.1 ([m])).bind fun n=>(ez 8 a.2.1 ([b])).bind fun o=>some (n,o,(a.1.length:Int))) else (some (a.1,a.2.1,e))) else (some (a.1,a.2.1,-1))) else (some (a.1,a.2.1,-1)):Option ((List Int)×(List Int)×Int))) (fun c=>(ez 8 a.2.2.1 ([c.2.2])).bind fun p=>some (.nxt (c.1,c.2.1,p,i64.wrap (a.2.2.2+1))))) else (some (.brk (a.1,a.2.1,a.2.2.1,a.2.2.2)))
def fE (c:Int×(List Bool)×(List (List Int))) (d:List Int) (e:List Bool) (a:(List Int)×(List Int)×Int×Int×(List Bool)×(List (List Int))):Option (Out Yq1 ((List Int)×(List Int)×Int×Int×(List Bool)×(List (List Int)))):=
 if decide (a.2.2.1<(a.1.length:Int)) then (bc (aK (dQ c d e a) br (a.1,a.2.1,([] :List Int),0)) (fun r=>some (.ret r)) (fun b=>(bf b.2.1 a.2.2.1).bind fun f=>(bf c.2.1 f).bind fun g=>(ez 1 a.2.2.2.2.1 ([g])).bind fun h=>(ez 24 a.2.2.2.2.2 ([b.2.2.1])).bind fun i=>some (.nxt (b.1,b.2.1,i64.wrap (a.2.2.1+1),a.2.2.2.1,h,i)))) else (some (.brk (a.1,a.2.1,a.2.2.1,a.2.2.2.1,a.2.2.2.2.1,a.2.2.2.2.2)))
def c8 (a:Int×(List Bool)×(List (List Int))) (d:List Int) (e:List Bool):Option Yq1:=
 (bf e a.1).bind fun f=>if f then ((bf d a.1).bind fun g=>bc (aK (fE a d e) br ([g],[a.1],0,0,[],[])) (fun r=>some r) (fun b=>some (b.2.2.2.1,b.2.2.2.2.1,b.2.2.2.2.2))) else ((jR).bind fun c=>some (c.1,c.2.1,c.2.2))
def fv (c:Int×(List Bool)×(List (List Int))) (b:(List Bool)×Int) (a:(List Bool)×Int):Option (Out (List Bool) ((List Bool)×Int)):=
 if decide (a.2<9) then (Option.bind (((bf c.2.2 b.2).bind fun d=>(bf d a.2).bind fun e=>if decide (e≥0) then ((bf c.2.2 b.2).bind fun f=>(bf f a.2).bind fun g=>(bf a.1 g).bind fun h=>if h then ((bf a.1 b.2).bind fun j=>some (a.1.set b.2.toNat true)) else (some a.1)) else (some a.1):Option (List Bool))) (fun i=>some (.nxt (i,i64.wrap (a.2+1))))) else (some (.brk (a.1,a.2)))
def fw (b:Int×(List Bool)×(List (List Int))) (a:(List Bool)×Int):Option (Out (List Bool) ((List Bool)×Int)):=
 if decide (a.2<(b.2.1.length:Int)) then (bc (aK (fv b a) br (a.1,0)) (fun r=>some (.ret r)) (fun c=>some (.nxt (c.1,i64.wrap (a.2+1))))) else (some (.brk (a.1,a.2)))
def gV (b:Int×(List Bool)×(List (List Int))) (a:(List Bool)×Int):Option (Out (List Bool) ((List Bool)×Int)):=
 if decide (a.2<(b.2.1.length:Int)) then (bc (aK (fw b) br (a.1,0)) (fun r=>some (.ret r)) (fun c=>some (.nxt (c.1,i64.wrap (a.2+1))))) else (some (.brk (a.1,a.2)))
def fI (a:Int×(List Bool)×(List (List Int))):Option (List Bool):=
 (ez 1 ([] :List Bool) a.2.1).bind fun b=>bc (aK (gV a) br (b,0)) (fun r=>some r) (fun c=>some c.1)
def cB (b:Int×(List Bool)×(List (List Int))) (a:(List Int)×Int):Option (Out Yq1 ((List Int)×Int)):=
 if decide (a.2<(b.2.1.length:Int)) then ((ez 8 a.1 ([a.2])).bind fun c=>some (.nxt (c,i64.wrap (a.2+1)))) else (some (.brk (a.1,a.2)))
def dA (a:Int×(List Bool)×(List (List Int))):Option Yq1:=
 (aC (a.1,a.2.1,a.2.2)).bind fun c=>if c then (bc (aK (cB a) br (([] :List Int),0)) (fun r=>some r) (fun d=>(fI (a.1,a.2.1,a.2.2)).bind fun e=>(c8 (a.1,a.2.1,a.2.2) d.1 e).bind fun b=>some (b.1,b.2.1,b.2.2))) else (some (0,[],[]))
def iC (c:Int×(List Bool)×(List (List Int))) (d:List Int) (e:Int) (a:(List Int)×Int):Option (Out (List Int) ((List Int)×Int)):=
 if decide (a.2<9) then (Option.bind (((bf c.2.2 e).bind fun f=>(bf f a.2).bind fun b=>if decide (b<0) then ((ez 8 a.1 ([-1])).bind fun g=>some g) else ((bf d b).bind fun h=>(ez 8 a.1 ([h])).bind fun i=>some i):Option (List Int))) (fun j=>some (.nxt (j,i64.wrap (a.2+1))))) else (some (.brk (a.1,a.2)))
def j8 (c:Int×(List Bool)×(List (List Int))) (a:List Int) (b:Int):Option (List Int):=
 (bf a b).bind fun d=>bc (aK (iC c a b) br ([d],0)) (fun r=>some r) (fun e=>some e.1)
def dB (b:Int×(List Bool)×List (List Int)) (c:List Bool) (a:(List Int)×Int):Option (Out (List Int) ((List Int)×Int)):=
 if decide (a.2<(b.2.1.length:Int)) then ((bf b.2.1 a.2).bind fun d=>Option.bind ((if d then (some 1) else (some 0):Option Int)) (fun e=>(bf c a.2).bind fun f=>Option.bind ((if f then (some e) else (some (-1)):Option Int)) (fun g=>(ez 8 a.1 ([g])).bind fun h=>some (.nxt (h,i64.wrap (a.2+1)))))) else (some (.brk (a.1,a.2)))
def dC (b:(List (List Int))×(List Int)×Int) (c:List Int) (a:Int×Int):Option (Out (List Int) (Int×Int)):=
 if decide (a.2<(b.1.length:Int)) then (Option.bind (((bf b.1 a.2).bind fun d=>(j4 d c).bind fun e=>if e==0 then (some a.2) else (some a.1):Option Int)) (fun f=>some (.nxt (f,i64.wrap (a.2+1))))) else (some (.brk (a.1,a.2)))
def dD (b:Int×(List Bool)×List (List Int)) (c:(List Int)×Int) (a:(List (List Int))×(List Int)×Int):Option (Out (List Int) ((List (List Int))×(List Int)×Int)):=
 if decide (a.2.2<(b.2.1.length:Int)) then (Option.bind (((bf c.1 a.2.2).bind fun h=>if decide (h<0) then ((ez 8 a.2.1 ([(-1)])).bind fun i=>some (a.1,i)) else ((j8 (b.1,b.2.1,b.2.2) c.1 a.2.2).bind fun d=>bc (aK (dC a d) br ((-1),0)) (fun l=>none) (fun e=>Option.bind ((if decide (e.1<0) then ((ez 24 a.1 ([d])).bind fun j=>some (j,(a.1.length:Int))) else (some (a.1,e.1)):Option ((List (List Int))×Int))) (fun f=>(ez 8 a.2.1 ([f.2])).bind fun k=>some (f.1,k)))):Option ((List (List Int))×List Int))) (fun g=>some (.nxt (g.1,g.2,i64.wrap (a.2.2+1))))) else (some (.brk (a.1,a.2.1,a.2.2)))
def gM (b:Int×(List Bool)×List (List Int)) (a:(List Int)×Int):Option (Out (List Int) ((List Int)×Int)):=
 if decide (a.2<=(b.2.1.length:Int)) then (bc (aK (dD b a) br (([] :List (List Int)),([] :List Int),0)) (fun d=>some (.ret d)) (fun c=>(j4 c.2.1 a.1).bind fun e=>if e==0 then (some (.ret a.1)) else (some (.nxt (c.2.1,i64.wrap (a.2+1)))))) else (some (.brk (a.1,a.2)))
def fx (a:Int×(List Bool)×List (List Int)):Option (List Int):=
 (fI (a.1,a.2.1,a.2.2)).bind fun b=>bc (aK (dB a b) br (([] :List Int),0)) (fun c=>some c) (fun d=>bc (aK (gM a) br (d.1,0)) (fun e=>some e) (fun f=>some f.1))
def gx (a:Int×(List Bool)×(List (List Int))):Option Yq1:=
 (fx (a.1,a.2.1,a.2.2)).bind fun c=>(fI (a.1,a.2.1,a.2.2)).bind fun d=>(c8 (a.1,a.2.1,a.2.2) c d).bind fun b=>some (b.1,b.2.1,b.2.2)
def g9 (a:Int×(List Bool)×(List (List Int))):Option Yq1:=
 (aC (a.1,a.2.1,a.2.2)).bind fun c=>if c then ((gx (a.1,a.2.1,a.2.2)).bind fun b=>some (b.1,b.2.1,b.2.2)) else (some (0,[],[]))
def kP (c:Int×(List Bool)×(List (List Int))) (b:List Int) (a:Int×Int):Option (Out Int (Int×Int)):=
 if decide (a.2<(b.length:Int)) then (if decide (a.1≥0) then ((bf b a.2).bind fun d=>(dF d).bind fun e=>if e then ((bf c.2.2 a.1).bind fun f=>(bf b a.2).bind fun g=>(bf f g).bind fun h=>some (.nxt (h,i64.wrap (a.2+1)))) else (some (.ret (-1)))) else (some (.brk (a.1,a.2)))) else (some (.brk (a.1,a.2)))
def mF (a:Int×(List Bool)×(List (List Int))) (b:Int) (c:List Int):Option Int:=
 bc (aK (kP a c) br (b,0)) (fun r=>some r) (fun d=>some d.1)
def eO (a:Int×(List Bool)×(List (List Int))) (b:List Int):Option Int:=
 (aC (a.1,a.2.1,a.2.2)).bind fun c=>if c then ((mF (a.1,a.2.1,a.2.2) a.1 b).bind fun d=>some d) else (some (-1))
def cP (a:Int×(List Bool)×(List (List Int))) (c:List Int):Option Bool:=
 (eO (a.1,a.2.1,a.2.2) c).bind fun b=>if decide (b≥0) then ((bf a.2.1 b).bind fun d=>some d) else (some false)
def bq (b:List Bool) (c:List Bool) (a:Int):Option (Out Bool Int):=
 if decide (a<(b.length:Int)) then ((bf b a).bind fun d=>(bf c a).bind fun e=>if d !=e then (some (.ret false)) else (some (.nxt (i64.wrap (a+1))))) else (some (.brk a))
def cH (a:List Bool) (b:List Bool):Option Bool:=
 if (a.length:Int) !=(b.length:Int) then (some false) else (bc (aK (bq a b) br 0) (fun r=>some r) (fun c=>some true))
def aP (b:List (List Int)) (c:List (List Int)) (d:(List Int)->(List Int)->Option Bool) (a:Int):Option (Out Bool Int):=
 if decide (a<(b.length:Int)) then ((bf b a).bind fun e=>(bf c a).bind fun f=>(d e f).bind fun g=>if g then (some (.nxt (i64.wrap (a+1)))) else (some (.ret false))) else (some (.brk a))
def aZ (a:List (List Int)) (b:List (List Int)) (c:(List Int)->(List Int)->Option Bool):Option Bool:=
 if (a.length:Int) !=(b.length:Int) then (some false) else (bc (aK (aP a b c) br 0) (fun r=>some r) (fun d=>some true))
def dL (a:List Int) (b:List Int):Option Bool:=
 (bN a b).bind fun c=>some c
def fa (a:Int×(List Bool)×(List (List Int))) (b:Int×(List Bool)×(List (List Int))):Option Bool:=
 if a.1==b.1 then ((cH a.2.1 b.2.1).bind fun c=>if c then ((aZ a.2.2 b.2.2 (fun a0 a1=>dL a0 a1)).bind fun d=>some d) else (some false)) else (some false)
def gy (a:Int×(List Bool)×(List (List Int))):Option Bool:=
 (aQ (a.1,a.2.1,a.2.2)).bind fun c=>if c then ((bQ (a.1,a.2.1,a.2.2)).bind fun b=>(fa (a.1,a.2.1,a.2.2) (b.1,b.2.1,b.2.2)).bind fun d=>some d) else (some false)
def gz (b:Int×(List Bool)×(List (List Int))) (a:Int):Option Bool:=
 if decide (a≥0) then ((bf b.2.1 a).bind fun c=>some c) else (some false)
def jS (b:List Yq4) (a:Int×(List Int)):Option (Out (List Int) (Int×(List Int))):=
 if decide (a.1>0) then ((bf b a.1).bind fun c=>(ez 8 ([c.2.2.2.2]) a.2).bind fun d=>(bf b a.1).bind fun e=>some (.nxt (e.2.2.2.1,d))) else (some (.brk (a.1,a.2)))
def kQ (a:List Yq4) (b:Int):Option (List Int):=
 bc (aK (jS a) br (b,([] :List Int))) (fun r=>some r) (fun c=>some c.2)
def jg (b:Int×(List Bool)×(List (List Int))) (a:Int) (c:Int):Option Int:=
 if decide (a<0) then (some (-1)) else ((bf b.2.2 a).bind fun d=>(bf d c).bind fun e=>some e)
def iD (b:List Yq4) (c:Int×Int×Bool×Int×Int) (a:Int):Option (Out Bool Int):=
 if decide (a<(b.length:Int)) then ((bf b a).bind fun d=>if d.1==c.1 then ((bf b a).bind fun e=>if e.2.1==c.2.1 then ((bf b a).bind fun f=>if f.2.2.1==c.2.2.1 then (some (.ret true)) else (some (.nxt (i64.wrap (a+1))))) else (some (.nxt (i64.wrap (a+1))))) else (some (.nxt (i64.wrap (a+1))))) else (some (.brk a))
def mG (a:List Yq4) (b:Int×Int×Bool×Int×Int):Option Bool:=
 bc (aK (iD a b) br 0) (fun r=>some r) (fun c=>some false)
def dR (c:Int×(List Bool)×(List (List Int))) (d:Int×(List Bool)×(List (List Int))) (b:(List Yq4)×Int) (a:(List Yq4)×Int):Option (Out ((List Int)×Bool) ((List Yq4)×Int)):=
 if decide (a.2<9) then (Option.bind (((bf a.1 b.2).bind fun g=>(jg (c.1,c.2.1,c.2.2) g.1 a.2).bind fun e=>(bf a.1 b.2).bind fun h=>(jg (d.1,d.2.1,d.2.2) h.2.1 a.2).bind fun f=>(mG a.1 (e,f,false,b.2,a.2)).bind fun i=>if i then (some a.1) else ((ez 40 a.1 ([(e,f,false,b.2,a.2)])).bind fun j=>some j):Option (List Yq4))) (fun k=>some (.nxt (k,i64.wrap (a.2+1))))) else (some (.brk (a.1,a.2)))
def im (b:Int×(List Bool)×(List (List Int))) (c:Int×(List Bool)×(List (List Int))) (f:Bool) (a:(List Yq4)×Int):Option (Out ((List Int)×Bool) ((List Yq4)×Int)):=
 if decide (a.2<(a.1.length:Int)) then ((bf a.1 a.2).bind fun g=>(gz (b.1,b.2.1,b.2.2) g.1).bind fun d=>(bf a.1 a.2).bind fun h=>(gz (c.1,c.2.1,c.2.2) h.2.1).bind fun e=>Option.bind (if e then (if d then (if d then (if e then some false else some (!f)) else some false) else some true) else (if d then (if e then some false else some (!f)) else some false):Option Bool) (fun b57=>if b57 then ((kQ a.1 a.2).bind fun i=>some (.ret (i,true))) else (bc (aK (dR b c a) br (a.1,0)) (fun r=>some (.ret r)) (fun j=>some (.nxt (j.1,i64.wrap (a.2+1))))))) else (some (.brk (a.1,a.2)))
def gA (a:Int×(List Bool)×(List (List Int))) (b:Int) (c:Int×(List Bool)×(List (List Int))) (d:Int) (e:Bool):Option ((List Int)×Bool):=
 bc (aK (im a c e) br ([(b,d,false,0,0)],0)) (fun r=>some r) (fun f=>some (([] :List Int),false))
def jh (a:Int×(List Bool)×(List (List Int))) (b:Int×(List Bool)×(List (List Int))):Option ((List Int)×Bool):=
 (aC (a.1,a.2.1,a.2.2)).bind fun d=>if d then ((aC (b.1,b.2.1,b.2.2)).bind fun e=>if e then ((gA (a.1,a.2.1,a.2.2) a.1 (b.1,b.2.1,b.2.2) b.1 true).bind fun c=>some (c.1,c.2)) else (some (([] :List Int),false))) else (some (([] :List Int),false))
def dq (a:Int×(List Bool)×(List (List Int))) (b:Int×(List Bool)×(List (List Int))):Option Bool:=
 (jh (a.1,a.2.1,a.2.2) (b.1,b.2.1,b.2.2)).bind fun c=>(aC (a.1,a.2.1,a.2.2)).bind fun d=>if d then ((aC (b.1,b.2.1,b.2.2)).bind fun e=>if e then (some (!c.2)) else (some false)) else (some false)
def dE (a:Int×(List Bool)×(List (List Int))) (b:Int×(List Bool)×(List (List Int))):Option Bool:=
 (dq (a.1,a.2.1,a.2.2) (b.1,b.2.1,b.2.2)).bind fun c=>if c then ((dq (b.1,b.2.1,b.2.2) (a.1,a.2.1,a.2.2)).bind fun d=>some d) else (some false)
def bR (c:List Int) (a:(List Int)×Int×List Bool):Option (Out (List Bool) ((List Int)×Int×List Bool)):=
 if decide (a.2.1<(c.length:Int)) then (Option.bind (((bf c a.2.1).bind fun b=>if decide (b≥0) then ((bf a.2.2 b).bind fun e=>if e then (some (a.1,a.2.2)) else ((bf a.2.2 b).bind fun g=>(ez 8 a.1 ([b])).bind fun f=>some (f,a.2.2.set b.toNat true))) else (some (a.1,a.2.2)):Option ((List Int)×List Bool))) (fun d=>some (.nxt (d.1,i64.wrap (a.2.1+1),d.2)))) else (some (.brk (a.1,a.2.1,a.2.2)))
def dY (c:Int×(List Bool)×List (List Int)) (a:(List Int)×List Bool):Option (Out (List Bool) ((List Int)×List Bool)):=
 if decide ((a.1.length:Int)>0) then ((bf a.1 0).bind fun d=>(bf c.2.2 d).bind fun e=>bc (aK (bR e) br (a.1,0,a.2)) (fun f=>some (.ret f)) (fun b=>(chk (And ((0:Int)<=1) (1<=(b.1.length:Int)))).bind fun _=>some (.nxt (b.1.drop 1,b.2.2)))) else (some (.brk (a.1,a.2)))
def cQ (a:Int×(List Bool)×List (List Int)):Option (List Bool):=
 (mkI 1 (a.2.1.length:Int) false).bind fun b=>(bf b a.1).bind fun e=>bc (aK (dY a) br ([a.1],b.set a.1.toNat true)) (fun c=>some c) (fun d=>some d.2)
def cR (b:List Bool) (c:List Bool) (a:(List Int)×Int):Option (Out (List Int) ((List Int)×Int)):=
 if decide (a.2<(b.length:Int)) then (Option.bind (((bf b a.2).bind fun d=>if d then ((bf c a.2).bind fun e=>if e then ((ez 8 a.1 ([a.2])).bind fun f=>some f) else (some a.1)) else (some a.1):Option (List Int))) (fun g=>some (.nxt (g,i64.wrap (a.2+1))))) else (some (.brk (a.1,a.2)))
def dS (a:Int×(List Bool)×(List (List Int))):Option (List Int):=
 (aQ (a.1,a.2.1,a.2.2)).bind fun b=>if b then ((bI (a.1,a.2.1,a.2.2)).bind fun c=>(cQ (a.1,a.2.1,a.2.2)).bind fun d=>bc (aK (cR c d) br (([] :List Int),0)) (fun r=>some r) (fun e=>some e.1)) else (some ([]))
def fb (g:List Int):Option Bool:=
 (zg g).bind fun k=>if k then (some true) else ((dJ g).bind fun b=>(gp (b.1,b.2.1,b.2.2.1,b.2.2.2.1,b.2.2.2.2)).bind fun e=>(gq (b.1,b.2.1,b.2.2.1,b.2.2.2.1,b.2.2.2.2)).bind fun h=>sY (S:=Unit) (if e.2 !=h.2 then (some (.inl false)) else ((bj (e.1.1,e.1.2.1,e.1.2.2) (h.1.1,h.1.2.1,h.1.2.2)).bind fun l=>if l then (some (.inr ())) else (some (.inl false)))) (fun B=>(gu g).bind fun d=>sY (S:=Unit) (if e.2 then ((j6 d.2).bind fun m=>if m then ((bH (e.1.1,e.1.2.1,e.1.2.2) d.2).bind fun n=>(ed (b.1,b.2.1,b.2.2.1,b.2.2.2.1,b.2.2.2.2) d.2).bind fun o=>if n !=o then (some (.inl false)) else (some (.inr ()))) else (some (.inr ()))) else (some (.inr ()))) (fun C=>(cd g).bind fun a=>(dy (a.1,a.2.1,a.2.2)).bind fun f=>(gZ (a.1,a.2.1,a.2.2)).bind fun c=>sY (S:=Unit) ((dA (a.1,a.2.1,a.2.2)).bind fun i=>(bj (f.1,f.2.1,f.2.2) (i.1,i.2.1,i.2.2)).bind fun p=>if p then ((g9 (a.1,a.2.1,a.2.2)).bind fun j=>(bj (c.1,c.2.1,c.2.2) (j.1,j.2.1,j.2.2)).bind fun q=>if q then ((eL (a.1,a.2.1,a.2.2) d.2).bind fun r=>(eO (a.1,a.2.1,a.2.2) d.2).bind fun s=>if r !=s then (some (.inl false)) else (some (.inr ()))) else (some (.inl false))) else (some (.inl false))) (fun E=>(aC (a.1,a.2.1,a.2.2)).bind fun t=>if t then ((bH (f.1,f.2.1,f.2.2) d.2).bind fun u=>(cP (a.1,a.2.1,a.2.2) d.2).bind fun v=>if u==v then ((bH (c.1,c.2.1,c.2.2) d.2).bind fun w=>(cP (a.1,a.2.1,a.2.2) d.2).bind fun x=>if w==x then (if decide ((c.2.1.length:Int)<=(f.2.1.length:Int)) then ((gy (c.1,c.2.1,c.2.2)).bind fun y=>if y then ((dE (a.1,a.2.1,a.2.2) (c.1,c.2.1,c.2.2)).bind fun z=>if z then ((dS (a.1,a.2.1,a.2.2)).bind fun A=>some (decide ((A.length:Int)<=(a.2.1.length:Int)))) else (some false)) else (some false)) else (some false)) else (some false)) else (some false)) else (if (f.2.1.length:Int)==0 then (some ((c.2.1.length:Int)==0)) else (some false))))))
end D
namespace R
open Go.RowKit
open D
abbrev y9:Ty:=.str
abbrev Oq:Ty:=.sl 9 y9
abbrev y3:Ty:=.int .i64
abbrev y4:Ty:=.bool
abbrev L6:Ty:=.prod y3 (.prod y3 (.prod y4 (.prod y3 y3)))
abbrev Ot:Ty:=.sl 116 L6
abbrev Nc:Ty:=.int .u32
abbrev Nd:Ty:=.int .u64
abbrev y5:Ty:=.int .u8
abbrev y22:Ty:=.sl 5 y5
abbrev y24:Ty:=.sl 3 y3
abbrev y26:Ty:=.prod y24 (.prod y3 (.prod y3 (.prod y24 y4)))
abbrev y28:Ty:=.sl 4 y4
abbrev y29:Ty:=.sl 24 y24
abbrev y31:Ty:=.prod y3 (.prod y28 y29)
abbrev y89:Ty:=.prod y3 (.prod y3 (.prod y3 y3))
abbrev y64:Ty:=.sl 89 y89
abbrev y66:Ty:=.wr y64
abbrev y71:Ty:=.prod y22 (.prod y3 y3)
abbrev y77:Ty:=.int .u64
abbrev y91:Ty:=.prod y4 (.prod y3 y3)
theorem mz3 (w:World):(zeroValue 3).run Tryz.prog w= .ok (.int .i64 0) w:=by kernel_rfl
theorem kk3:KeyOk Tryz.prog 3 (fun n:Int=>Value.int .i64 n) JS iOk:=Mm Tryz.underlying3
theorem ek3:EltOk Tryz.prog 3 (fun n:Int=>Value.int .i64 n) JS iOk 0:=Mn Tryz.underlying3 mz3
def tt:TT:=[(3,⟨false,1,none,y3,[],some 8,none,false,none,none,some (some .i64),false,none⟩),
 (4,⟨false,1,none,y4,[],some 1,none,true,none,none,none,false,none⟩),
 (5,⟨false,1,none,y5,[],some 1,none,false,none,none,some (some .u8),false,none⟩),
 (9,⟨false,1,none,y9,[],some 16,none,false,none,none,some none,false,none⟩),
 (22,⟨false,1,some 5,y22,[],some 24,none,false,none,none,none,false,none⟩),
 (24,⟨false,1,some 3,y24,[],some 24,none,false,none,none,none,false,none⟩),
 (26,⟨true,5,none,y26,[(0,0),(1,0),(2,0),(3,0),(4,0)],some 72,some [(0,1),(1,1),(2,1),(3,1),(4,1)],false,none,none,none,false,none⟩),
 (28,⟨false,1,some 4,y28,[],some 24,none,false,none,none,none,false,none⟩),
 (29,⟨false,1,some 24,y29,[],some 24,none,false,none,none,none,false,none⟩),
 (31,⟨true,3,none,y31,[(0,0),(1,0),(2,0)],some 56,some [(0,1),(1,1),(2,1)],false,none,none,none,false,none⟩),
 (37,⟨false,1,none,.bool,[],none,none,false,none,none,none,true,none⟩),
 (53,⟨false,1,none,.bool,[],none,none,false,none,none,none,true,none⟩),
 (64,⟨false,1,some 89,y64,[],some 24,none,false,none,none,none,false,none⟩),
 (66,⟨true,1,none,y66,[(0,0)],some 24,some [(0,1)],false,none,none,none,false,none⟩),
 (71,⟨true,3,none,y71,[(0,0),(1,0),(2,0)],some 40,some [(0,1),(1,1),(2,1)],false,none,none,none,false,none⟩),
 (74,⟨false,1,none,.bool,[],none,none,false,none,none,none,true,none⟩),
 (77,⟨false,1,none,y77,[],some 8,none,false,none,none,some (some .u64),false,none⟩),
 (79,⟨false,1,none,.bool,[],none,none,false,none,none,none,true,none⟩),
 (82,⟨false,1,none,.bool,[],none,none,false,none,none,none,true,none⟩),
 (89,⟨true,4,none,y89,[(0,0),(1,0),(2,0),(3,0)],some 32,some [(0,1),(1,1),(2,1),(3,1)],false,none,none,none,false,none⟩),
 (91,⟨true,3,none,y91,[(0,0),(1,0),(2,0)],some 24,some [(0,1),(1,1),(2,1)],false,none,none,none,false,none⟩),
 (96,⟨false,1,none,.bool,[],none,none,false,none,some ⟨3,3,.int,.int⟩,none,false,none⟩),
 (109,⟨false,1,some 9,Oq,[],some 24,none,false,none,none,none,false,none⟩),
 (116,⟨true,5,none,L6,[(0,0),(1,0),(2,0),(3,0),(4,0)],some 40,some [(0,1),(1,1),(2,1),(3,1),(4,1)],false,none,none,none,false,none⟩),
 (117,⟨false,1,some 116,Ot,[],some 24,none,false,none,none,none,false,none⟩),
 (126,⟨false,1,none,Nc,[],some 4,none,false,none,none,some (some .u32),false,none⟩),
 (129,⟨false,1,none,Nd,[],some 8,none,false,none,none,some (some .u64),false,none⟩)]
theorem Ll:TTok Tryz.prog tt:=⟨nz (n:=1) (z:=.int .i64 0) ⟨⟨_,Tryz.underlying3,rfl⟩,by kernel_rfl⟩ rfl (by unfold TZ;kernel_rfl) rfl (bM rfl) (fun h=>by cases h) (fun k h=>by obtain rfl:=aa h;exact Tryz.underlying3),
 nz (n:=1) (z:=.bool false) ⟨⟨_,Tryz.underlying4,rfl⟩,by kernel_rfl⟩ rfl (by unfold TZ;kernel_rfl) rfl (bM rfl) (fun h=>Tryz.underlying4) (fun k h=>by cases h),
 nz (n:=1) (z:=.int .u8 0) ⟨⟨_,Tryz.underlying5,rfl⟩,by kernel_rfl⟩ rfl (by unfold TZ;kernel_rfl) rfl (bM rfl) (fun h=>by cases h) (fun k h=>by obtain rfl:=aa h;exact Tryz.underlying5),
 nz (n:=1) (z:=.string ⟨#[]⟩) ⟨⟨_,Tryz.underlying9,rfl⟩,by kernel_rfl⟩ rfl (by unfold TZ;kernel_rfl) rfl (bM rfl) (fun h=>by cases h) (fun k h=>by obtain rfl:=aa h;exact Tryz.underlying9),
 ze ⟨⟨_,Tryz.underlying22,rfl⟩,by kernel_rfl⟩ Tryz.underlying22 (by unfold TZ;kernel_rfl),
 ze ⟨⟨_,Tryz.underlying24,rfl⟩,by kernel_rfl⟩ Tryz.underlying24 (by unfold TZ;kernel_rfl),
 zf (z:=.agg #[.slice none 0 0,.int .i64 0,.int .i64 0,.slice none 0 0,.bool false]) ⟨⟨_,Tryz.underlying26,rfl⟩,by kernel_rfl⟩ rfl ⟨⟨_,_,Tryz.underlying26,rfl,rfl,by kernel_rfl⟩,⟨_,_,Tryz.underlying26,rfl,rfl,by kernel_rfl⟩,⟨_,_,Tryz.underlying26,rfl,rfl,by kernel_rfl⟩,⟨_,_,Tryz.underlying26,rfl,rfl,by kernel_rfl⟩,⟨_,_,Tryz.underlying26,rfl,rfl,by kernel_rfl⟩,trivial⟩ (by unfold TZ;kernel_rfl) rfl (bM rfl) ⟨_,Tryz.underlying26,by kernel_rfl⟩ (fun ks h=>by cases h),
 ze ⟨⟨_,Tryz.underlying28,rfl⟩,by kernel_rfl⟩ Tryz.underlying28 (by unfold TZ;kernel_rfl),
 ze ⟨⟨_,Tryz.underlying29,rfl⟩,by kernel_rfl⟩ Tryz.underlying29 (by unfold TZ;kernel_rfl),
 zf (z:=.agg #[.int .i64 0,.slice none 0 0,.slice none 0 0]) ⟨⟨_,Tryz.underlying31,rfl⟩,by kernel_rfl⟩ rfl ⟨⟨_,_,Tryz.underlying31,rfl,rfl,by kernel_rfl⟩,⟨_,_,Tryz.underlying31,rfl,rfl,by kernel_rfl⟩,⟨_,_,Tryz.underlying31,rfl,rfl,by kernel_rfl⟩,trivial⟩ (by unfold TZ;kernel_rfl) rfl (bM rfl) ⟨_,Tryz.underlying31,by kernel_rfl⟩ (fun ks h=>by cases h),
 Ew (ty:=.bool) (b:=8) ⟨⟨_,Tryz.underlying37,rfl⟩,by kernel_rfl⟩ rfl (by unfold TZ;kernel_rfl),
 Ew (ty:=.bool) (b:=8) ⟨⟨_,Tryz.underlying53,rfl⟩,by kernel_rfl⟩ rfl (by unfold TZ;kernel_rfl),
 ze ⟨⟨_,Tryz.underlying64,rfl⟩,by kernel_rfl⟩ Tryz.underlying64 (by unfold TZ;kernel_rfl),
 zf (z:=.agg #[.slice none 0 0]) ⟨⟨_,Tryz.underlying66,rfl⟩,by kernel_rfl⟩ rfl ⟨⟨_,_,Tryz.underlying66,rfl,rfl,by kernel_rfl⟩,trivial⟩ (by unfold TZ;kernel_rfl) rfl (bM rfl) ⟨_,Tryz.underlying66,by kernel_rfl⟩ (fun ks h=>by cases h),
 zf (z:=.agg #[.slice none 0 0,.int .i64 0,.int .i64 0]) ⟨⟨_,Tryz.underlying71,rfl⟩,by kernel_rfl⟩ rfl ⟨⟨_,_,Tryz.underlying71,rfl,rfl,by kernel_rfl⟩,⟨_,_,Tryz.underlying71,rfl,rfl,by kernel_rfl⟩,⟨_,_,Tryz.underlying71,rfl,rfl,by kernel_rfl⟩,trivial⟩ (by unfold TZ;kernel_rfl) rfl (bM rfl) ⟨_,Tryz.underlying71,by kernel_rfl⟩ (fun ks h=>by cases h),
 Ew (ty:=.bool) (b:=8) ⟨⟨_,Tryz.underlying74,rfl⟩,by kernel_rfl⟩ rfl (by unfold TZ;kernel_rfl),
 nz (n:=1) (z:=.int .u64 0) ⟨⟨_,Tryz.underlying77,rfl⟩,by kernel_rfl⟩ rfl (by unfold TZ;kernel_rfl) rfl (bM rfl) (fun h=>by cases h) (fun k h=>by obtain rfl:=aa h;exact Tryz.underlying77),
 Ew (ty:=.bool) (b:=8) ⟨⟨_,Tryz.underlying79,rfl⟩,by kernel_rfl⟩ rfl (by unfold TZ;kernel_rfl),
 Ew (ty:=.bool) (b:=8) ⟨⟨_,Tryz.underlying82,rfl⟩,by kernel_rfl⟩ rfl (by unfold TZ;kernel_rfl),
 zf (z:=.agg #[.int .i64 0,.int .i64 0,.int .i64 0,.int .i64 0]) ⟨⟨_,Tryz.underlying89,rfl⟩,by kernel_rfl⟩ rfl ⟨⟨_,_,Tryz.underlying89,rfl,rfl,by kernel_rfl⟩,⟨_,_,Tryz.underlying89,rfl,rfl,by kernel_rfl⟩,⟨_,_,Tryz.underlying89,rfl,rfl,by kernel_rfl⟩,⟨_,_,Tryz.underlying89,rfl,rfl,by kernel_rfl⟩,trivial⟩ (by unfold TZ;kernel_rfl) rfl (bM rfl) ⟨_,Tryz.underlying89,by kernel_rfl⟩ (fun ks h=>by cases h),
 zf (z:=.agg #[.bool false,.int .i64 0,.int .i64 0]) ⟨⟨_,Tryz.underlying91,rfl⟩,by kernel_rfl⟩ rfl ⟨⟨_,_,Tryz.underlying91,rfl,rfl,by kernel_rfl⟩,⟨_,_,Tryz.underlying91,rfl,rfl,by kernel_rfl⟩,⟨_,_,Tryz.underlying91,rfl,rfl,by kernel_rfl⟩,trivial⟩ (by unfold TZ;kernel_rfl) rfl (bM rfl) ⟨_,Tryz.underlying91,by kernel_rfl⟩ (fun ks h=>by cases h),
 Oo (m:=⟨3,3,.int,.int⟩) (ty:=.bool) ⟨⟨_,Tryz.underlying96,rfl⟩,by kernel_rfl⟩ rfl ⟨Tryz.underlying96,kk3,ek3⟩,
 ze ⟨⟨_,Tryz.underlying109,rfl⟩,by kernel_rfl⟩ Tryz.underlying109 (by unfold TZ;kernel_rfl),
 zf (z:=.agg #[.int .i64 0,.int .i64 0,.bool false,.int .i64 0,.int .i64 0]) ⟨⟨_,Tryz.underlying116,rfl⟩,by kernel_rfl⟩ rfl ⟨⟨_,_,Tryz.underlying116,rfl,rfl,by kernel_rfl⟩,⟨_,_,Tryz.underlying116,rfl,rfl,by kernel_rfl⟩,⟨_,_,Tryz.underlying116,rfl,rfl,by kernel_rfl⟩,⟨_,_,Tryz.underlying116,rfl,rfl,by kernel_rfl⟩,⟨_,_,Tryz.underlying116,rfl,rfl,by kernel_rfl⟩,trivial⟩ (by unfold TZ;kernel_rfl) rfl (bM rfl) ⟨_,Tryz.underlying116,by kernel_rfl⟩ (fun ks h=>by cases h),
 ze ⟨⟨_,Tryz.underlying117,rfl⟩,by kernel_rfl⟩ Tryz.underlying117 (by unfold TZ;kernel_rfl),
 nz (n:=1) (z:=.int .u32 0) ⟨⟨_,Tryz.underlying126,rfl⟩,by kernel_rfl⟩ rfl (by unfold TZ;kernel_rfl) rfl (bM rfl) (fun h=>by cases h) (fun k h=>by obtain rfl:=aa h;exact Tryz.underlying126),
 nz (n:=1) (z:=.int .u64 0) ⟨⟨_,Tryz.underlying129,rfl⟩,by kernel_rfl⟩ rfl (by unfold TZ;kernel_rfl) rfl (bM rfl) (fun h=>by cases h) (fun k h=>by obtain rfl:=aa h;exact Tryz.underlying129),trivial⟩
theorem mixed:Tryz.prog.follows .mixedOrders=true:=by kernel_rfl
def I4 (fn:Func):Code:=match fn.body with
 | some c=>c
 | none=>.skip
theorem fk {k:FuncId} {fn:Func} {f:FS} (ft:FT) (hF:FTok Tryz.prog ft) (hf:Tryz.prog.funcs[k]? =some fn) (ann:Ann) (an:List (Nat×Ty):=[]) (tr:Trs:=[]) (hb:fn.body=some (I4 fn):=by rfl) (he:(fn.name == "runtime.NumGoroutine")=false:=by kernel_rfl) (hcl:f.cl=none:=by rfl) (hm:Nat.ble f.ps.length fn.ntmps=true:=by rfl) (hdp:(wN f.rs&&pb f.ps)=true:=by rfl)
  (hmod: ∀d,appP f.ps f.m d=fN ⟨tt,ft,an,fn.ntmps,tr⟩ (Et ⟨tt,ft,an,fn.ntmps,tr⟩ fn.results.toList f.rs f.ps d) (I4 fn) ann (fun r=>some r) (fun _ _=>none) (Et ⟨tt,ft,an,fn.ntmps,tr⟩ fn.results.toList f.rs f.ps d) (lr (rP f.ps d)):=by intro d;kernel_rfl):FOk Tryz.prog k f:=
 fok (V:=⟨tt,ft,an,fn.ntmps,tr⟩) Ll hF mixed hf hb rfl (enters_of hf he hb) hcl (bM hm) hdp ann hmod
def Ex:FS:=⟨[.rd y22],[y4],zg,none⟩
def oz:FS:=⟨[.rd y3,.rd y3,.rd y3],[y4],gm,none⟩
def fR:FS:=⟨[.rd y3],[y4],dF,none⟩
def nB:FS:=⟨[.rd y89],[y3],jb,none⟩
def tY:FS:=⟨[.rd y66],[y4],mA,none⟩
def ji:FS:=⟨[.rd y66],[y4],eF,none⟩
def kR:FS:=⟨[.rd y64],[y3],eG,none⟩
def kS (n:Nat):FS:=⟨[.rd y64],[y3],cN n,none⟩
def tZ:FS:=⟨[.rd y64],[y66],pw,none⟩
def mH:FS:=⟨[.rd y66,.rd y66,.rd y89],[y66],cL,none⟩
def py:FS:=⟨[.rd y3],[y66],iK,none⟩
def jF (n:Nat):FS:=⟨[.rd y66,.rd y3,.rd y3],[y66],fO n,none⟩
def iE (n:Nat):FS:=⟨[.rd y64],[y66],bG n,none⟩
def m7:FS:=⟨[.rd y66],[y66,y4],gR,none⟩
def rS:FS:=⟨[.ptr 26 y26,.rd y3,.rd y3],[],jc,none⟩
def jG (n:Nat):FS:=⟨[.ptr 26 y26,.rd y64],[y91],b0 n,none⟩
def gB:FS:=⟨[.rd y66],[y26,y4],c7,none⟩
def ua:FS:=⟨[.crs 71 5],[y3],fP,none⟩
def dg:FS:=⟨[.crs 71 5,.rd y3],[y3],bg,none⟩
def iL:FS:=⟨[.crs 71 5,.rd y3],[y4],eY,none⟩
def xy:FS:=⟨[.rd y9,.rd y5],[Oq],xx,none⟩
def iq:FS:=⟨[.rd y3],[y9],il,none⟩
def oA:FS:=⟨[.rd y3],[y9],kL,none⟩
def rT:FS:=⟨[.rd y89],[y9],rR,none⟩
def lQ:FS:=⟨[.rd y9],[y3,y4],lP,none⟩
def ub:FS:=⟨[.rd y9],[y89],tX,none⟩
def oB:FS:=⟨[.rd y9],[y66,y4],eZ,none⟩
def uc:FS:=⟨[.crs 71 5,.rd Oq],[y9],mB,none⟩
def rU:FS:=⟨[.crs 71 5],[y66],kM,none⟩
def gC:FS:=⟨[.crs 71 5,.rd y24],[y3],bV,none⟩
def m8:FS:=⟨[.rd y3],[y66],m6,none⟩
def mI (n:Nat):FS:=⟨[.crs 71 5,.rd y3],[y66],cr n,none⟩
def pz:FS:=⟨[.crs 71 5],[y66],j2,none⟩
def ud:FS:=⟨[.crs 71 5],[y26],mC,none⟩
def oC:FS:=⟨[.rd y22],[.int .i64,.int .i64],j3,some (71,9)⟩
def jj:FS:=⟨[.rd y22],[y26],dJ,none⟩
def mJ:FS:=⟨[.rd y3,.rd y3,.rd y3],[y4],fQ,none⟩
def gF:FS:=⟨[.rd y3,.cap 3 y3],[y4],bB,none⟩
def lR:FS:=⟨[.rd y3],[y4],eH,none⟩
def iu:FS:=⟨[.rd y26],[y4],dk,none⟩
def fF:FS:=⟨[.rd y3,.rd y3,.fn [y3] [y4],.fn [y3,y3] [y3,y4]],[y31,y4],cw,none⟩
def hH:FS:=⟨[.rd y26,.rd y3],[y4],b8,none⟩
def jk:FS:=⟨[.rd y26,.rd y3,.rd y3],[y3],dK,none⟩
def j9:FS:=⟨[.rd y3,.rd y3,.cap 26 y26],[y3,y4],bT,none⟩
def lS:FS:=⟨[.rd y26,.rd y3],[y31,y4],eI,none⟩
def lT:FS:=⟨[.rd y26],[y31,y4],gp,none⟩
def fh:FS:=⟨[.rd y26],[y4],bu,none⟩
def lV:FS:=⟨[.rd y26,.rd y3,.rd y3],[y3],gX,none⟩
def jT:FS:=⟨[.rd y26,.rd y3],[y4],fu,none⟩
def nC:FS:=⟨[.rd y24,.rd y3],[y3],jd,none⟩
def jU:FS:=⟨[.rd y26,.rd y3],[y31,y4],bW,none⟩
def lW:FS:=⟨[.rd y26],[y31,y4],gq,none⟩
def rV:FS:=⟨[.rd y24,.rd y24],[y3],j4,none⟩
def ka:FS:=⟨[.rd y31,.rd y31],[y4],bj,none⟩
def oD:FS:=⟨[.crs 71 5],[y31],gr,none⟩
def ue:FS:=⟨[.crs 71 5],[y31],mD,none⟩
def pA:FS:=⟨[.crs 71 5],[y31],j5,none⟩
def uf:FS:=⟨[.crs 71 5],[y3],mE,none⟩
def rW:FS:=⟨[.crs 71 5],[y24],kN,none⟩
def lX:FS:=⟨[.rd y22],[y31,y24],gu,none⟩
def pB:FS:=⟨[.rd y24],[y4],j6,none⟩
def bK:FS:=⟨[.rd y31],[y4],aQ,none⟩
def eh:FS:=⟨[.rd y31,.rd y3,.rd y3],[y3],aV,none⟩
def nD:FS:=⟨[.rd y31,.rd y24],[y3],eL,none⟩
def eP:FS:=⟨[.rd y31,.rd y3],[y4],aW,none⟩
def lY:FS:=⟨[.rd y31,.rd y24],[y4],bH,none⟩
def jH:FS:=⟨[.rd y26,.rd y24],[y4],ed,none⟩
def hO:FS:=⟨[.rd y22],[y31],cd,none⟩
def a6:FS:=⟨[.rd y28],[y28],fun _=>none,some (4,1)⟩
def ep:FS:=⟨[.rd y31],[y28],bI,none⟩
def jl:FS:=⟨[.rd Nc,.rd Nc],[Nc,Nc],nA,none⟩
def jm:FS:=⟨[.rd Nd,.rd Nd],[Nd,Nd],je,none⟩
def kd:FS:=⟨[.rd y77,.rd y77],[y77,y77],j7,none⟩
def eQ:FS:=⟨[.rd y24,.rd y3],[y24],eN,none⟩
def nE:FS:=⟨[],[y31],kO,none⟩
def iw:FS:=⟨[.rd y3,.rd y3,.cap 31 y31,.cap 28 y28],[y3,y4],cz,none⟩
def jI:FS:=⟨[.rd y31],[y31],eg,none⟩
def ke:FS:=⟨[.rd y31],[y31],dy,none⟩
def cW:FS:=⟨[.rd y29,.fn [y24] [y4]],[y3],be,none⟩
def cY:FS:=⟨[.rd y24,.rd y24],[y4],bN,none⟩
def gG:FS:=⟨[.rd y24,.cap 24 y24],[y4],dX,none⟩
def ix:FS:=⟨[.rd y31,.rd y24],[y24,y3],cA,none⟩
def hY:FS:=⟨[.rd y31],[y24],cj,none⟩
def ff:FS:=⟨[.rd y24,.rd y3],[y3],cX,none⟩
def fS:FS:=⟨[.rd y3,.cap 24 y24],[y3],aR,none⟩
def fT:FS:=⟨[.rd y3,.cap 31 y31,.capf 79 [y3] [y3]],[y4],bE,none⟩
def fU:FS:=⟨[.rd y3,.rd y3,.cap 31 y31,.capf 79 [y3] [y3],.cap 24 y24],[y3,y4],bF,none⟩
def dZ:FS:=⟨[.rd y31],[y31],bQ,none⟩
def qc:FS:=⟨[.rd y31],[y31],gZ,none⟩
def rX:FS:=⟨[.rd y31],[y4],jf,none⟩
def bz:FS:=⟨[.rd y31],[y4],aC,none⟩
def m9:FS:=⟨[],[y31],jR,none⟩
def kT:FS:=⟨[.rd y31,.rd y24,.rd y28],[y31],c8,none⟩
def kU:FS:=⟨[.rd y31],[y28],fI,none⟩
def kg:FS:=⟨[.rd y31],[y31],dA,none⟩
def ug:FS:=⟨[.rd y31,.rd y24,.rd y3],[y24],j8,none⟩
def na:FS:=⟨[.rd y31],[y24],fx,none⟩
def lZ:FS:=⟨[.rd y31],[y31],gx,none⟩
def qd:FS:=⟨[.rd y31],[y31],g9,none⟩
def uh:FS:=⟨[.rd y31,.rd y3,.rd y24],[y3],mF,none⟩
def nF:FS:=⟨[.rd y31,.rd y24],[y3],eO,none⟩
def l5:FS:=⟨[.rd y31,.rd y24],[y4],cP,none⟩
def et:FS:=⟨[.rd y28,.rd y28],[y4],cH,none⟩
def bA:FS:=⟨[.rd y29,.rd y29,.fn [y24,y24] [y4]],[y4],aZ,none⟩
def jn:FS:=⟨[.rd y24,.rd y24],[y4],dL,none⟩
def kh:FS:=⟨[.rd y31,.rd y31],[y4],fa,none⟩
def oE:FS:=⟨[.rd y31],[y4],gy,none⟩
def oF:FS:=⟨[.rd y31,.rd y3],[y4],gz,none⟩
def rY:FS:=⟨[.rd Ot,.rd y3],[y24],kQ,none⟩
def rZ:FS:=⟨[.rd y31,.rd y3,.rd y3],[y3],jg,none⟩
def ui:FS:=⟨[.rd Ot,.rd L6],[y4],mG,none⟩
def oG:FS:=⟨[.rd y31,.rd y3,.rd y31,.rd y3,.rd y4],[y24,y4],gA,none⟩
def l6:FS:=⟨[.rd y31,.rd y31],[y24,y4],jh,none⟩
def iy:FS:=⟨[.rd y31,.rd y31],[y4],dq,none⟩
def kj:FS:=⟨[.rd y31,.rd y31],[y4],dE,none⟩
def jo:FS:=⟨[.rd y31],[y28],cQ,none⟩
def lj:FS:=⟨[.rd y31],[y24],dS,none⟩
def pC:FS:=⟨[.rd y22],[y4],fb,none⟩
end R
namespace R
open Go.RowKit
open D
theorem Lm:FOk Tryz.prog 4 Ex:=fk [] trivial Tryz.func4 .no
theorem qI:FOk Tryz.prog 62 oz:=fk [] trivial Tryz.func62 .no
theorem hZ:FOk Tryz.prog 34 fR:=fk [(62,oz)] ⟨qI,trivial⟩ Tryz.func34 .no
theorem sa:FOk Tryz.prog 111 nB:=fk [(34,fR),(62,oz)] ⟨hZ,qI,trivial⟩ Tryz.func111 (.t (.two (.t (.join [.slot 5 .boo] .no (.t (.t (.t (.join [.slot 37 .boo] .no .no)))))) .no))
theorem BS:FOk Tryz.prog 109 tY:=fk [(111,nB)] ⟨sa,trivial⟩ Tryz.func109 (.t (.t (.two (.t (.loop [.s 3,.s 4] .no)) .no)))
theorem l7:FOk Tryz.prog 92 ji:=fk [(109,tY)] ⟨BS,trivial⟩ Tryz.func92 .no
theorem nG:FOk Tryz.prog 95 kR:=fk [(111,nB)] ⟨sa,trivial⟩ Tryz.func95 (.t (.t (.t (.two (.loop [.s 3,.s 4] .no) .no))))
theorem sb: ∀n,FOk Tryz.prog 93 (kS n)
 | 0=>mz (f:=kS 0) (enters_of Tryz.func93 (by kernel_rfl) rfl) rfl (fun d=>rfl)
 | n+1=>by
  have ih:=sb n
  exact fk [(93,(kS n)),(95,kR)] ⟨ih,nG,trivial⟩ Tryz.func93 (.t (.t (.t (.two (.t (.two (.t (.at [.slot 15 .boo] .no)) .no)) .no))))
theorem BT:FOk Tryz.prog 114 tZ:=fk [] trivial Tryz.func114 .no
theorem pD:FOk Tryz.prog 101 mH:=fk [(114,tZ)] ⟨BT,trivial⟩ Tryz.func101 .no
theorem uj:FOk Tryz.prog 99 py:=fk [] trivial Tryz.func99 .no
theorem qe: ∀n,FOk Tryz.prog 110 (jF n)
 | 0=>mz (f:=jF 0) (enters_of Tryz.func110 (by kernel_rfl) rfl) rfl (fun d=>rfl)
 | n+1=>by
  have ih:=qe n
  exact fk [(99,py),(101,mH),(110,(jF n))] ⟨uj,pD,ih,trivial⟩ Tryz.func110 .no
theorem oH: ∀n,FOk Tryz.prog 94 (iE n)
 | 0=>mz (f:=iE 0) (enters_of Tryz.func94 (by kernel_rfl) rfl) rfl (fun d=>rfl)
 | n+1=>by
  have ih:=oH n
  exact fk [(94,(iE n)),(95,kR),(101,mH),(110,(jF jx))] ⟨ih,nG,pD,(qe jx),trivial⟩ Tryz.func94 (.t (.t (.t (.two (.t (.two (.t (.at [.slot 15 .boo] .no)) .no)) .no))))
theorem tj:FOk Tryz.prog 81 m7:=fk [(92,ji),(93,(kS jx)),(94,(iE jx))] ⟨l7,(sb jx),(oH jx),trivial⟩ Tryz.func81 .no
theorem zh:FOk Tryz.prog 96 rS:=fk [] trivial Tryz.func96 (.t (.loop [.s 6,.par 4 [3] 3 y3] (.t (.two (.at [.par 4 [3] 3 y3] .no) .no))))
theorem qf: ∀n,FOk Tryz.prog 82 (jG n)
 | 0=>mz (f:=jG 0) (enters_of Tryz.func82 (by kernel_rfl) rfl) rfl (fun d=>rfl)
 | n+1=>by
  have ih:=qf n
  exact fk [(82,(jG n)),(95,kR),(96,rS)] ⟨ih,nG,zh,trivial⟩ Tryz.func82 (.t (.t (.t (.two (.t (.t (.t (.t (.t (.t (.two (.t (.t (.t (.t (.t (.two (.t (.at [.box 11 [.boo,(.num .i64),(.num .i64)]] .no)) (.two (.t (.at [.box 11 [.boo,(.num .i64),(.num .i64)]] .no)) .no))))))) .no))))))) .no))))
theorem jJ:FOk Tryz.prog 51 gB:=fk [(81,m7),(82,(jG jx))] ⟨tj,(qf jx),trivial⟩ Tryz.func51 (.t (.t (.t (.t (.two (.t (.loop [.s 6,.s 7] (.t (.two (.at [.s 6] .no) .no)))) .no)))))
end R
namespace R
open Go.RowKit
open D
theorem BU:FOk Tryz.prog 86 ua:=fk [] trivial Tryz.func86 (.t (.t (.t (.two (.t (.at [.s 3,.cur 0] .no)) .no))))
theorem dM:FOk Tryz.prog 53 dg:=fk [(86,ua)] ⟨BU,trivial⟩ Tryz.func53 .no
theorem kl:FOk Tryz.prog 83 iL:=fk [(53,dg)] ⟨dM,trivial⟩ Tryz.func83 .no
theorem Ey:FOk Tryz.prog 112 xy:=fk [] trivial Tryz.func112 (.t (.t (.t (.two (.t (.loop [.slot 5 (.own 9 y9),.s 6,.s 7] (.t (.two (.at [.slot 5 (.own 9 y9),.s 6] .no) .no)))) .no))))
theorem ln:FOk Tryz.prog 119 iq:=fk [(34,fR)] ⟨hZ,trivial⟩ Tryz.func119 .no
theorem vG:FOk Tryz.prog 120 oA:=fk [] trivial Tryz.func120 (.t (.t (.t (.t (.two (.loop [.s 0,.slot 3 .str] (.t (.t (.two (.t (.at [.s 5] .no)) .no)))) .no)))))
theorem zi:FOk Tryz.prog 117 rT:=fk [(119,iq),(120,oA)] ⟨ln,vG,trivial⟩ Tryz.func117 .no
theorem sd:FOk Tryz.prog 118 lQ:=fk [(119,iq)] ⟨ln,trivial⟩ Tryz.func118 (.t (.two (.t (.loop [.s 4] .no)) .no))
theorem BV:FOk Tryz.prog 113 ub:=fk [(117,rT),(118,lQ)] ⟨zi,sd,trivial⟩ Tryz.func113 (.t (.two (.t (.loop [.s 3] .no)) .no))
theorem vH:FOk Tryz.prog 97 oB:=fk [(92,ji),(112,xy),(113,ub)] ⟨l7,Ey,BV,trivial⟩ Tryz.func97 (.t (.t (.t (.two (.t (.loop [.s 6,.box 4 [(.own 89 y89)]] .no)) .no))))
theorem BW:FOk Tryz.prog 98 uc:=fk [(53,dg)] ⟨dM,trivial⟩ Tryz.func98 .no
theorem zj:FOk Tryz.prog 84 rU:=fk [(97,oB),(98,uc)] ⟨vH,BW,trivial⟩ Tryz.func84 .no
theorem iF:FOk Tryz.prog 54 gC:=fk [(53,dg)] ⟨dM,trivial⟩ Tryz.func54 .no
theorem tk:FOk Tryz.prog 100 m8:=fk [] trivial Tryz.func100 .no
theorem uk: ∀n,FOk Tryz.prog 85 (mI n)
 | 0=>mz (f:=mI 0) (enters_of Tryz.func85 (by kernel_rfl) rfl) rfl (fun d=>rfl)
 | n+1=>by
  have ih:=uk n
  exact fk [(53,dg),(54,gC),(83,iL),(85,(mI n)),(99,py),(100,m8),(101,mH)] ⟨dM,iF,kl,ih,uj,tk,pD,trivial⟩ Tryz.func85 (.t (.t (.two (.t (.two (.t (.at [.slot 20 .boo] .no)) (.t (.two (.t (.at [.slot 33 .boo] .no)) .no)))) .no)))
theorem um:FOk Tryz.prog 52 pz:=fk [(53,dg),(83,iL),(84,rU),(85,(mI jx))] ⟨dM,kl,zj,(uk jx),trivial⟩ Tryz.func52 .no
theorem BX:FOk Tryz.prog 25 ud:=fk [(51,gB),(52,pz),(53,dg),(54,gC)] ⟨jJ,um,dM,iF,trivial⟩ Tryz.func25 (.t (.t (.two (.t (.at [.cur 0,.box 3 [(.own 3 y3),(.num .i64),(.num .i64),(.own 3 y3),.boo]] .no)) .no)))
end R
namespace R
open Go.RowKit
open D
theorem se:FOk Tryz.prog 26 oC:=Lk (T:=71) (Nb (V:=⟨tt,[],[],32,[]⟩) Ll trivial mixed Tryz.func26 rfl rfl (enters_of Tryz.func26 (by kernel_rfl) rfl) (bM rfl) (.t (.t (.two (.t (.loop [.s 3,.s 4] .no)) .no))) (fun xs=>by kernel_rfl)) rfl
theorem nH:FOk Tryz.prog 5 jj:=fk [(25,ud),(26,oC)] ⟨BX,se,trivial⟩ Tryz.func5 .no
theorem pE:FOk Tryz.prog 56 mJ:=fk [] trivial Tryz.func56 .no
theorem lz:FOk Tryz.prog 55 gF:=fk [(56,mJ)] ⟨pE,trivial⟩ Tryz.func55 .no
theorem qg:FOk Tryz.prog 57 lR:=fk [(56,mJ)] ⟨pE,trivial⟩ Tryz.func57 .no
theorem mS:FOk Tryz.prog 27 iu:=fk [(55,gF),(57,lR)] ⟨lz,qg,trivial⟩ Tryz.func27 (.t (.t (.t (.t (.two (.t (.loop [.s 23] .no)) .no)))))
theorem ir:FOk Tryz.prog 58 fF:=fk [] trivial Tryz.func58 (.t (.t (.t (.t (.two (.t (.loop [.slot 10 (.own 3 y3),.slot 11 (.map ⟨3,3,.int,.int⟩),.s 13,.box 12 [(.num .i64),(.own 4 y4),(.own 24 y24)]] (.t (.two (.t (.two (.t (.loop [.slot 10 (.own 3 y3),.slot 11 (.map ⟨3,3,.int,.int⟩),.slot 14 (.own 3 y3),.s 15] (.t (.join [.slot 10 (.own 3 y3),.slot 11 (.map ⟨3,3,.int,.int⟩),.slot 14 (.own 3 y3)] (.t (.t (.t (.join [.slot 10 (.own 3 y3),.slot 11 (.map ⟨3,3,.int,.int⟩),.s 18] .no .no)))) .no)))) .no)) .no)))) .no)))))
theorem l8:FOk Tryz.prog 59 hH:=fk [] trivial Tryz.func59 .no
theorem nI:FOk Tryz.prog 61 jk:=fk [] trivial Tryz.func61 (.t (.t (.join [.s 7] .no (.two (.t (.loop [.s 7,.s 21] (.t (.t (.join [.s 7] .no .no))))) (.t (.two (.t (.loop [.s 10,.s 39] (.t (.t (.join [.s 10] .no .no))))) .no))))))
theorem pF:FOk Tryz.prog 60 j9:=fk [(61,jk)] ⟨nI,trivial⟩ Tryz.func60 .no
theorem sf:FOk Tryz.prog 28 lS:=fk [(58,fF),(59,hH),(60,j9)] ⟨ir,l8,pF,trivial⟩ Tryz.func28 .no
theorem sg:FOk Tryz.prog 6 lT:=fk [(27,iu),(28,lS)] ⟨mS,sf,trivial⟩ Tryz.func6 .no
theorem iz:FOk Tryz.prog 29 fh:=fk [(34,fR),(62,oz)] ⟨hZ,qI,trivial⟩ Tryz.func29 (.t (.t (.t (.two (.t (.loop [.s 4] .no)) .no))))
theorem qi:FOk Tryz.prog 36 lV:=fk [] trivial Tryz.func36 (.t (.t (.join [.s 7] .no (.two (.t (.loop [.s 7,.s 8] (.t (.join [.s 7] .no .no)))) (.t (.two (.t (.loop [.s 9,.s 10] (.t (.join [.s 9] .no .no)))) .no))))))
theorem nc:FOk Tryz.prog 37 jT:=fk [] trivial Tryz.func37 .no
theorem si:FOk Tryz.prog 63 nC:=fk [] trivial Tryz.func63 (.t (.two (.t (.loop [.s 5] .no)) .no))
theorem ng:FOk Tryz.prog 30 jU:=fk [(36,lV),(37,jT),(63,nC)] ⟨qi,nc,si,trivial⟩ Tryz.func30 (.t (.t (.t (.two (.t (.loop [.slot 7 (.own 3 y3),.s 8,.box 6 [(.num .i64),(.own 4 y4),(.own 24 y24)]] (.t (.two (.t (.two (.t (.loop [.slot 7 (.own 3 y3),.slot 9 (.own 3 y3),.s 10] (.t (.two (.t (.t (.join [.slot 7 (.own 3 y3),.s 12] .no .no))) .no)))) .no)) .no)))) .no))))
end R
namespace R
open Go.RowKit
open D
theorem sj:FOk Tryz.prog 7 lW:=fk [(29,fh),(30,jU)] ⟨iz,ng,trivial⟩ Tryz.func7 .no
theorem xz:FOk Tryz.prog 31 rV:=fk [] trivial Tryz.func31 (.t (.two (.t (.loop [.s 5] .no)) .no))
theorem pG:FOk Tryz.prog 8 ka:=fk [(31,rV)] ⟨xz,trivial⟩ Tryz.func8 (.t (.t (.two (.t (.loop [.s 5] .no)) (.two (.t (.loop [.s 6] .no)) .no))))
theorem vI:FOk Tryz.prog 87 oD:=fk [(53,dg),(83,iL)] ⟨dM,kl,trivial⟩ Tryz.func87 (.t (.t (.t (.two (.t (.loop [.s 5,.box 4 [(.num .i64),(.own 4 .bool),(.own 24 y24)],.cur 0] (.t (.two (.t (.two (.t (.loop [.slot 6 (.own 3 y3),.s 7,.cur 0] (.t (.two (.t (.two (.t (.at [.s 8,.cur 0] .no)) (.two (.t (.at [.s 8] .no)) .no))) .no)))) .no)) .no)))) .no))))
theorem BY:FOk Tryz.prog 64 ue:=fk [(30,jU),(51,gB),(52,pz),(83,iL),(87,oD)] ⟨ng,jJ,um,kl,vI,trivial⟩ Tryz.func64 .no
theorem uo:FOk Tryz.prog 32 pA:=fk [(53,dg),(54,gC),(64,ue)] ⟨dM,iF,BY,trivial⟩ Tryz.func32 (.t (.t (.two (.t (.at [.cur 0,.box 3 [(.num .i64),(.own 4 y4),(.own 24 y24)]] .no)) .no)))
theorem BZ:FOk Tryz.prog 65 uf:=fk [(54,gC),(83,iL)] ⟨iF,kl,trivial⟩ Tryz.func65 .no
theorem zk:FOk Tryz.prog 33 rW:=fk [(53,dg),(65,uf)] ⟨dM,BZ,trivial⟩ Tryz.func33 (.t (.t (.two (.t (.loop [.slot 3 (.own 3 y3),.s 4,.cur 0] .no)) .no)))
theorem sk:FOk Tryz.prog 9 lX:=fk [(26,oC),(32,pA),(33,rW)] ⟨se,uo,zk,trivial⟩ Tryz.func9 .no
theorem uq:FOk Tryz.prog 10 pB:=fk [(34,fR)] ⟨hZ,trivial⟩ Tryz.func10 (.t (.two (.t (.loop [.s 3] .no)) .no))
theorem cC:FOk Tryz.prog 38 bK:=fk [(56,mJ)] ⟨pE,trivial⟩ Tryz.func38 (.t (.t (.t (.two (.t (.loop [.s 32] (.t (.t (.two (.t (.two (.t (.loop [.s 38] .no)) .no)) .no))))) .no))))
theorem gD:FOk Tryz.prog 44 eh:=fk [(57,lR)] ⟨qg,trivial⟩ Tryz.func44 .no
theorem sn:FOk Tryz.prog 18 nD:=fk [(38,bK),(44,eh)] ⟨cC,gD,trivial⟩ Tryz.func18 (.t (.t (.t (.two (.t (.loop [.s 5,.s 15] .no)) .no))))
theorem ic:FOk Tryz.prog 35 eP:=fk [] trivial Tryz.func35 .no
theorem so:FOk Tryz.prog 11 lY:=fk [(18,nD),(35,eP)] ⟨sn,ic,trivial⟩ Tryz.func11 .no
theorem oJ:FOk Tryz.prog 12 jH:=fk [(10,pB),(29,fh),(36,lV),(37,jT)] ⟨uq,iz,qi,nc,trivial⟩ Tryz.func12 (.t (.t (.t (.two (.t (.loop [.s 5,.s 6] .no)) .no))))
theorem l9:FOk Tryz.prog 13 hO:=fk [(26,oC),(32,pA)] ⟨se,uo,trivial⟩ Tryz.func13 .no
end R
namespace R
open Go.RowKit
open D
theorem iG:FOk Tryz.prog 80 a6:=Ev (f:=a6) (mz (f:=⟨a6.ps,a6.rs,a6.m,none⟩) (enters_of Tryz.func80 (by kernel_rfl) rfl) rfl (fun d=>rfl)) (HI (V:=⟨tt,[],[(5,.raw)],8,[]⟩) Ll trivial mixed Tryz.func80 rfl rfl (enters_of Tryz.func80 (by kernel_rfl) rfl) (bM rfl) .no (fun E bn xs=>by cases bn <;> kernel_rfl))
theorem gE:FOk Tryz.prog 49 ep:=fk [(80,a6)] ⟨iG,trivial⟩ Tryz.func49 (.t (.t (.two (.t (.loop [.slot 4 .boo,.row 3 4 y4] (.t (.t (.t (.loop [.slot 4 .boo,.s 16,.row 3 4 y4] (.t (.t (.two (.t (.t (.loop [.slot 4 .boo,.s 23,.row 3 4 y4] (.t (.t (.two (.at [.slot 4 .boo,.row 3 4 y4] .no) .no)))))) .no))))))))) .no)))
theorem nJ:FOk Tryz.prog 115 jl:=fk [] trivial Tryz.func115 .no
theorem nK:FOk Tryz.prog 116 jm:=fk [] trivial Tryz.func116 .no
theorem pH:FOk Tryz.prog 102 kd:=fk [(115,jl),(116,jm)] ⟨nJ,nK,trivial⟩ Tryz.func102 .no
theorem jq:FOk Tryz.prog 88 eQ:=fk [(102,kd)] ⟨pH,trivial⟩ Tryz.func88 (.t (.t (.t (.t (.t (.t (.two (.loop [.s 8,.row 7 3 (.int .i64)] .no) .no))))))) (an:=[(44,.bool)])
theorem sp:FOk Tryz.prog 66 nE:=fk [(88,eQ)] ⟨jq,trivial⟩ Tryz.func66 .no
theorem mT:FOk Tryz.prog 67 iw:=fk [(44,eh)] ⟨gD,trivial⟩ Tryz.func67 .no
theorem oK:FOk Tryz.prog 39 jI:=fk [(35,eP),(49,ep),(58,fF),(66,nE),(67,iw)] ⟨ic,gE,ir,sp,mT,trivial⟩ Tryz.func39 .no
theorem pI:FOk Tryz.prog 14 ke:=fk [(38,bK),(39,jI)] ⟨cC,oK,trivial⟩ Tryz.func14 .no
theorem fY:FOk Tryz.prog 103 cW:=fk [] trivial Tryz.func103 (.t (.two (.t (.loop [.s 8] .no)) .no))
theorem fg:FOk Tryz.prog 78 cY:=fk [] trivial Tryz.func78 (.t (.t (.two (.t (.loop [.s 13] .no)) .no)))
theorem lA:FOk Tryz.prog 104 gG:=fk [(78,cY)] ⟨fg,trivial⟩ Tryz.func104 .no
theorem mU:FOk Tryz.prog 89 ix:=fk [(103,cW),(104,gG)] ⟨fY,lA,trivial⟩ Tryz.func89 (.t (.t (.t (.two (.t (.loop [.slot 6 (.own 24 y24),.slot 7 (.own 3 y3),.s 18] (.t (.t (.join [.slot 6 (.own 24 y24),.slot 7 (.own 3 y3)] (.t (.t (.t (.two (.t (.loop [.s 36,.box 10 [(.own 3 y3)]] (.t (.t (.two (.t (.join [.s 12] .no .no)) .no))))) (.t (.join [.slot 6 (.own 24 y24),.s 13,.gone 10] .no .no)))))) .no))))) .no))))
theorem ma:FOk Tryz.prog 68 hY:=fk [(49,ep),(89,ix)] ⟨gE,mU,trivial⟩ Tryz.func68 (.t (.t (.two (.t (.loop [.slot 3 (.own 3 y3),.s 13] (.t (.t (.join [.slot 3 (.own 3 y3)] .no .no))))) (.t (.loop [.slot 3 (.own 3 y3),.s 6] .no)))))
theorem jy:FOk Tryz.prog 70 ff:=fk [] trivial Tryz.func70 (.t (.two (.t (.loop [.s 8] .no)) .no))
theorem ko:FOk Tryz.prog 69 fS:=fk [(70,ff)] ⟨jy,trivial⟩ Tryz.func69 .no
end R
namespace R
open Go.RowKit
open D
theorem kp:FOk Tryz.prog 71 fT:=fk [] trivial Tryz.func71 .no
theorem kq:FOk Tryz.prog 72 fU:=fk [(44,eh)] ⟨gD,trivial⟩ Tryz.func72 .no
theorem gH:FOk Tryz.prog 40 dZ:=fk [(58,fF),(66,nE),(68,hY),(69,fS),(71,fT),(72,fU)] ⟨ir,sp,ma,ko,kp,kq,trivial⟩ Tryz.func40 .no
theorem xA:FOk Tryz.prog 15 qc:=fk [(38,bK),(40,dZ)] ⟨cC,gH,trivial⟩ Tryz.func15 .no
theorem zm:FOk Tryz.prog 46 rX:=fk [(62,oz)] ⟨qI,trivial⟩ Tryz.func46 (.t (.t (.t (.two (.t (.loop [.s 4] (.t (.two (.t (.t (.loop [.s 5] .no))) .no)))) .no))))
theorem bL:FOk Tryz.prog 20 bz:=fk [(46,rX)] ⟨zm,trivial⟩ Tryz.func20 .no
theorem tm:FOk Tryz.prog 73 m9:=fk [] trivial Tryz.func73 (.t (.t (.two (.t (.loop [.slot 1 (.own 3 y3),.s 2] .no)) .no)))
theorem oL:FOk Tryz.prog 41 kT:=fk [(63,nC),(73,m9)] ⟨si,tm,trivial⟩ Tryz.func41 (.t (.t (.t (.t (.t (.two (.t (.loop [.slot 8 (.own 3 y3),.slot 9 (.own 3 y3),.s 10,.box 7 [(.num .i64),(.own 4 y4),(.own 24 y24)]] (.t (.two (.t (.two (.t (.loop [.slot 8 (.own 3 y3),.slot 9 (.own 3 y3),.slot 11 (.own 3 y3),.s 12] (.t (.two (.t (.t (.join [.slot 8 (.own 3 y3),.slot 9 (.own 3 y3),.s 14] .no .no))) .no)))) .no)) .no)))) .no))))))
theorem nL:FOk Tryz.prog 42 kU:=fk [] trivial Tryz.func42 (.t (.t (.two (.t (.loop [.row 3 4 y4,.s 4] (.t (.two (.t (.loop [.row 3 4 y4,.s 5] (.t (.two (.t (.loop [.row 3 4 y4,.s 6] (.t (.join [.row 3 4 y4] .no .no)))) .no)))) .no)))) .no)))
theorem pJ:FOk Tryz.prog 16 kg:=fk [(20,bz),(41,kT),(42,kU)] ⟨bL,oL,nL,trivial⟩ Tryz.func16 (.t (.t (.t (.two (.t (.loop [.slot 3 (.own 3 y3),.s 4] .no)) .no))))
theorem B0:FOk Tryz.prog 90 ug:=fk [] trivial Tryz.func90 (.t (.t (.two (.t (.loop [.slot 7 (.own 3 y3),.s 8] (.t (.join [.slot 7 (.own 3 y3)] .no .no)))) .no)))
theorem tn:FOk Tryz.prog 74 na:=fk [(31,rV),(42,kU),(90,ug)] ⟨xz,nL,B0,trivial⟩ Tryz.func74 (.t (.t (.t (.two (.t (.loop [.slot 4 (.own 3 y3),.s 5] (.t (.two (.t (.two (.t (.at [.s 6] .no)) (.two (.t (.at [.s 6] .no)) .no))) .no)))) (.two (.t (.loop [.slot 4 (.own 3 y3),.s 7] (.t (.two (.t (.t (.two (.t (.loop [.slot 8 (.own 24 y24),.slot 9 (.own 3 y3),.s 10] (.t (.two (.at [.slot 8 (.own 24 y24),.slot 9 (.own 3 y3)] (.t (.t (.t (.two (.t (.loop [.s 12,.s 13] (.t (.two (.at [.s 12] .no) .no)))) (.two (.t (.at [.slot 8 (.own 24 y24),.s 12,.gone 11] .no)) .no)))))) .no)))) .no))) .no)))) .no)))))
theorem sq:FOk Tryz.prog 43 lZ:=fk [(41,kT),(42,kU),(74,na)] ⟨oL,nL,tn,trivial⟩ Tryz.func43 .no
theorem xB:FOk Tryz.prog 17 qd:=fk [(20,bz),(43,lZ)] ⟨bL,sq,trivial⟩ Tryz.func17 .no
theorem B1:FOk Tryz.prog 45 uh:=fk [(34,fR)] ⟨hZ,trivial⟩ Tryz.func45 (.t (.two (.t (.loop [.s 1,.s 7] .no)) .no))
theorem ss:FOk Tryz.prog 19 nF:=fk [(20,bz),(45,uh)] ⟨bL,B1,trivial⟩ Tryz.func19 .no
theorem su:FOk Tryz.prog 21 l5:=fk [(19,nF)] ⟨ss,trivial⟩ Tryz.func21 .no
end R
namespace R
open Go.RowKit
open D
theorem iH:FOk Tryz.prog 75 et:=fk [] trivial Tryz.func75 (.t (.t (.two (.t (.loop [.s 13] .no)) .no)))
theorem c9:FOk Tryz.prog 76 bA:=fk [] trivial Tryz.func76 (.t (.t (.two (.t (.loop [.s 17] .no)) .no)))
theorem nM:FOk Tryz.prog 77 jn:=fk [(78,cY)] ⟨fg,trivial⟩ Tryz.func77 .no
theorem pK:FOk Tryz.prog 47 kh:=fk [(75,et),(76,bA),(77,jn)] ⟨iH,c9,nM,trivial⟩ Tryz.func47 .no
theorem vJ:FOk Tryz.prog 22 oE:=fk [(38,bK),(40,dZ),(47,kh)] ⟨cC,gH,pK,trivial⟩ Tryz.func22 .no
theorem vK:FOk Tryz.prog 105 oF:=fk [] trivial Tryz.func105 .no
theorem zn:FOk Tryz.prog 106 rY:=fk [] trivial Tryz.func106 (.t (.t (.two (.loop [.s 1,.slot 5 (.own 3 y3)] .no) .no)))
theorem zo:FOk Tryz.prog 107 rZ:=fk [] trivial Tryz.func107 .no
theorem B2:FOk Tryz.prog 108 ui:=fk [] trivial Tryz.func108 (.t (.two (.t (.loop [.s 5] .no)) .no))
theorem vL:FOk Tryz.prog 91 oG:=fk [(105,oF),(106,rY),(107,rZ),(108,ui)] ⟨vK,zn,zo,B2,trivial⟩ Tryz.func91 (.t (.t (.two (.t (.loop [.slot 12 (.own 116 L6),.s 13] (.t (.two (.t (.t (.two (.two (.at [.slot 57 .boo] .no) .no) (.t (.loop [.slot 12 (.own 116 L6),.s 16] (.t (.join [.slot 12 (.own 116 L6)] .no .no))))))) .no)))) .no)))
theorem sv:FOk Tryz.prog 79 l6:=fk [(20,bz),(91,oG)] ⟨bL,vL,trivial⟩ Tryz.func79 .no
theorem mV:FOk Tryz.prog 48 iy:=fk [(20,bz),(79,l6)] ⟨bL,sv,trivial⟩ Tryz.func48 .no
theorem pL:FOk Tryz.prog 23 kj:=fk [(48,iy)] ⟨mV,trivial⟩ Tryz.func23 .no
theorem nN:FOk Tryz.prog 50 jo:=fk [] trivial Tryz.func50 (.t (.t (.t (.two (.t (.loop [.slot 4 (.own 3 (.int .i64)),.row 3 4 y4] (.t (.two (.t (.loop [.slot 4 (.own 3 y3),.s 31,.row 3 4 y4] (.t (.t (.two (.at [.slot 4 (.own 3 y3),.row 3 4 y4] .no) .no))))) .no)))) .no)))) (an:=[(22,.bool)])
theorem qo:FOk Tryz.prog 24 lj:=fk [(38,bK),(49,ep),(50,jo)] ⟨cC,gE,nN,trivial⟩ Tryz.func24 (.t (.t (.t (.t (.two (.t (.loop [.slot 5 (.own 3 y3),.s 17] (.t (.t (.join [.slot 5 (.own 3 y3)] .no .no))))) .no)))))
theorem pM:FOk Tryz.prog 3 pC:=fk [(4,Ex),(5,jj),(6,lT),(7,lW),(8,ka),(9,lX),(10,pB),(11,lY),(12,jH),(13,hO),(14,ke),(15,qc),(16,kg),(17,qd),(18,nD),(19,nF),(20,bz),(21,l5),(22,oE),(23,kj),(24,lj)] ⟨Lm,nH,sg,sj,pG,sk,uq,so,oJ,l9,pI,xA,pJ,xB,sn,ss,bL,su,vJ,pL,qo,trivial⟩ Tryz.func3 (.t (.t (.t (.t (.t (.joinX [] .no (.t (.joinX [] .no (.t (.t (.t (.joinX [] .no .no))))))))))))
end R
namespace D
open Go.RowKit
theorem pN (x0:List Int) (r:Bool) (hm:fb x0=some r) {I:Hp} {w0:World} (v0_0:Value) (r0_0:(aq 5 rU8).rd I [v0_0] x0) (hL:Lay Tryz.prog I):Con Tryz.prog 3 #[v0_0] I w0 [] (fun v=>v= .bool r) (fun _=>[]):=fun w C hs =>
 ((R.pM).con rfl w0 I undef [v0_0] (x0,()) r hL ⟨_,_,rfl,⟨[v0_0],rfl,r0_0⟩,rfl⟩ hm w C hs).mono fun e w' ⟨v,he,_,hst⟩=>by
  obtain ⟨h1,h2⟩:=R.n8 (h1:=fun _=>rfl) (show St I w0 w' (Ch.own R.Ty.bool.rep [v] r::C) from hst)
  exact ⟨v,he,(List.cons.inj h1).1,h2⟩
end D
namespace D
open Go.RowKit
def I64 (n:Int):Prop:= -9223372036854775808<=n/\n<=9223372036854775807
class Data (α:Type) where
 lim:α->Prop
 sm:α->Prop
instance:Data Int:=⟨I64,fun _=>True⟩
instance:Data Bool:=⟨fun _=>True,fun _=>True⟩
instance:Data ByteArray:=⟨fun s=>s.size<=9223372036854775807,fun s=>s.size<=1048576⟩
instance {α β:Type} [Data α] [Data β] :Data (α×β):=⟨fun x=>Data.lim x.1/\Data.lim x.2,fun x=>Data.sm x.1/\Data.sm x.2⟩
instance {α:Type} [Data α] :Data (List α):=⟨fun xs=>xs.length<=9223372036854775807/\ ∀x,x∈xs->Data.lim x,fun xs=>xs.length<=1048576/\ ∀x,x∈xs->Data.sm x⟩
structure Opens (P:Program) (t:TypeId) {α:Type} [Data α] (R:Rep α):Prop where
 out: ∀ {H:Type} (enc:TypeId×Value->H) (w:World) (fuel:Nat) (cs:List Value) (x:DataW H×List MemPlace),DataW.trod enc P w 0 (fun _=>true) true fuel t cs=some x-> ∃a:α,R.rd (hp w) cs a/\Data.lim a
theorem HJ {P:Program} {t:TypeId} (h:P.underlying t=some (.int .u8)):Opens P t rU8:=by
 constructor
 intro H enc w fuel cs x hx
 obtain ⟨n,rfl,-,hw⟩:=DataW.trod_int h hx
 refine ⟨n,rfl,show I64 n from ?_⟩
 simp[Lit.wf,IntKind.min,IntKind.max,IntKind.signed,IntKind.bits] at hw
 unfold I64
 omega
theorem zp {P:Program} {t e:TypeId} {α:Type} [Data α] {R:Rep α} {E:TypeId} (h:P.underlying t=some (.slice e)) (hc:P.cellsOf e=R.size) (h0:0<R.size) (he:Opens P e R):Opens P t (aq E R):=by
 constructor
 intro H enc w fuel cs x hx
 rcases Go.Deep.open_slice h hx with ⟨rfl,-⟩ | ⟨a,len,cap,m,n,D,Pl,rfl,-,hl,hm,hmm,-,hel⟩
 ·exact ⟨[],⟨none,0,rfl,by simp,.inl rfl⟩,Nat.zero_le _,fun x hx=>by cases hx⟩
 have hlm:m=cap:=by simpa using hmm
 subst hlm
 rw[hc] at hel
 by_cases hz:len=0
 ·subst hz
  exact ⟨[],⟨some a,m,rfl,by simp,.inl rfl⟩,Nat.zero_le _,fun x hx=>by cases hx⟩
 ·have hone: ∀i,i<len-> ∃c:List Value,∃y:α,c.length=R.size/\(∀j,j<R.size->w.cell? ((a.add (i*R.size)).add j)=c[j]?)/\R.rd (hp w) c y/\Data.lim y:=by
   intro i hi
   obtain ⟨c,h1,h2⟩:=hel i (by omega)
   obtain ⟨-,h3,h4⟩:=World.cells?_some h1
   obtain ⟨y,hy⟩:=he.out enc w _ _ _ h2
   exact ⟨c,y,h3,h4,hy⟩
  obtain ⟨c0,y0,hc0,hr0,-⟩:=hone 0 (by omega)
  have h00:=hr0 0 h0
  have hsome: ∃v,c0[0]? =some v:=⟨_,List.getElem?_eq_getElem (by omega)⟩
  obtain ⟨v,hv⟩:=hsome
  rw[hv] at h00
  have ha:(a.add (0*R.size)).add 0=a:=by simp[Addr.add]
  rw[ha] at h00
  obtain ⟨b,off,spot⟩:=a
  have hb: ∃ccs T fr,w.heap[b]? =some (.cells ccs T fr)/\spot=none:=by
   simp only[World.cell?] at h00
   split at h00
   ·rename_i ccs T fr heq
    cases spot with
    | none=>exact ⟨ccs,T,fr,heq,rfl⟩
    | some s=>simp at h00
   ·simp at h00
  obtain ⟨ccs,T,fr,hh,rfl⟩:=hb
  have hadd: ∀i j,(Addr.add ⟨b,off,none⟩ i).add j=⟨b,off+i+j,none⟩:=by
   intro i j
   by_cases h1:i=0 <;> by_cases h2:j=0 <;> simp[Addr.add,h1,h2,Nat.add_assoc]
  haveI:Inhabited α:=⟨y0⟩
  obtain ⟨X,hX⟩:=Go.Deep.choose_lt (α:=α) (n:=len) (p:=fun i y=> ∃c:List Value,c.length=R.size/\(∀j,j<R.size->ccs.toList[off+i*R.size+j]? =c[j]?)/\R.rd (hp w) c y/\Data.lim y) (fun i hi=>by
   obtain ⟨c,y,h1,h2,h3⟩:=hone i hi
   refine ⟨y,c,h1,fun j hj=>?_,h3⟩
   have:=h2 j hj
   rw[hadd] at this
   simp only[World.cell?,hh] at this
   simpa using this)
  have hlen:((List.range len).map X).length=len:=by simp
  have hel2: ∀i y,((List.range len).map X)[i]? =some y->i<len/\y=X i:=fun i y hy=>by
   have hi:i<len:=by have:=(List.getElem?_eq_some_iff.1 hy).1;omega
   exact ⟨hi,by simpa [hi] using hy.symm⟩
  refine ⟨(List.range len).map X,⟨some ⟨b,off,none⟩,m,by rw[hlen],by rw[hlen];unfold maxLen at hm;unfold lim;omega,.inr ⟨b,off,ccs,T,fr,rfl,hh,fun i y hy=>?_⟩⟩,by rw[hlen];unfold maxLen at hm;omega,fun y hy=>?_⟩
  ·obtain ⟨hi,rfl⟩:=hel2 i y hy
   obtain ⟨c,e1,e2,e3,-⟩:=hX i hi
   exact ⟨c,e1,e2,e3⟩
  ·obtain ⟨i,hi,he⟩:=List.mem_iff_getElem?.1 hy |>.imp fun i hi=>hel2 i y hi
   obtain ⟨-,-,-,-,e4⟩:=hX i hi
   rw[he];exact e4
theorem St.below {w0 w:World} {cs:List Ch} (h:St (hp w0) w0 w cs):Below w0.heap.size w0 w:=by
 obtain ⟨⟨h1,h2,h3,h4⟩,h5,-⟩:=h
 refine ⟨h1,h2,h3,h4,fun b hb=>?_⟩
 have e:w0.heap[b]? =some w0.heap[b]:=Array.getElem?_eq_getElem hb
 rw[e];exact h5 b _ e
end D
namespace D
open Go.RowKit
theorem dU {n:Int} (h1: -9223372036854775808<=n) (h2:n<=9223372036854775807):i64.wrap n=n:=by
 simp only[IntKind.wrap,IntKind.bits,IntKind.signed,Bool.true_and]
 split <;> rename_i h <;> simp at h <;> omega
theorem aI {i:Nat} (h:i<9223372036854775807):i64.wrap ((i:Int)+1)=((i+1:Nat):Int):=by
 rw[dU (by omega) (by omega)];rfl
theorem fG {α:Type} {xs:List α} {i:Nat} (h:i<xs.length):bf xs (i:Int)=some (xs[i]):=by
 unfold bf
 rw[if_pos (Int.natCast_nonneg _)]
 simp[h]
theorem sw {i n:Nat} (h:i<n):decide ((i:Int)<(n:Int))=true:=by simp[h]
theorem sx {n:Nat} :decide ((n:Int)<(n:Int))=false:=by simp
theorem xC (k:Nat) (h:k<=9223372036854775807):k<br:=by unfold br;omega
theorem xD {R S:Type} {f:S->Option (Out R S)} (inv:Nat->S) (N:Nat) (h: ∀i,i<N->f (inv i)=some (.nxt (inv (i+1)))): ∀(m i k:Nat),i+m=N->aK f (k+m) (inv i)=aK f k (inv N)
 | 0,i,k,e=>by rw[show i=N by omega];rfl
 | m+1,i,k,e=>by
  rw[<-Nat.add_assoc,aK,h i (by omega)]
  exact xD inv N h m (i+1) k (by omega)
theorem Ez {R S:Type} {f:S->Option (Out R S)} (inv:Nat->S) (N:Nat) {s:S} (h: ∀i,i<N->f (inv i)=some (.nxt (inv (i+1)))) (he:f (inv N)=some (.brk s)) (hN:N<br):aK f br (inv 0)=some (.brk s):=by
 have e:br=(br - N - 1)+1+N:=by omega
 rw[e,xD inv N h N 0 _ (by omega),aK,he]
theorem O1 {α:Type} [Data α] {f:Int×Int->Option (Out Int (Int×Int))} (xs:List α)
  (hstep: ∀i (h:i<xs.length) l,0<=l->l<=1048576-> ∃r,f (l,(i:Int))=some (if r<0 then .ret (-1) else .nxt (r,((i+1:Nat):Int)))/\(r<0\/(0<=r/\r<=l/\Data.sm xs[i])))
  (hend: ∀l,f (l,(xs.length:Int))=some (.brk (l,(xs.length:Int)))): ∀(m i k:Nat) (l:Int),i+m=xs.length->m<k->0<=l->l<=1048576->
   aK f k (l,(i:Int))=some (.ret (-1))\/ ∃r,aK f k (l,(i:Int))=some (.brk (r,(xs.length:Int)))/\0<=r/\r<=l/\ ∀j (h:j<xs.length),i<=j->Data.sm xs[j]
 | 0,i,k,l,e,hk,h0,h1=>by
  obtain ⟨k,rfl⟩: ∃q,k=q+1:=⟨k - 1,by omega⟩
  obtain rfl:i=xs.length:=by omega
  exact .inr ⟨l,by rw[aK,hend],h0,Int.le_refl _,fun j hj hi=>by omega⟩
 | m+1,i,k,l,e,hk,h0,h1=>by
  obtain ⟨k,rfl⟩: ∃q,k=q+1:=⟨k - 1,by omega⟩
  obtain ⟨r,e1,e2⟩:=hstep i (by omega) l h0 h1
  rw[aK,e1]
  rcases e2 with e2 | ⟨e2,e3,e4⟩
  ·rw[if_pos e2];exact .inl rfl
  ·rw[if_neg (by omega)]
   rcases O1 xs hstep hend m (i+1) k r (by omega) (by omega) e2 (by omega) with h | ⟨q,g1,g2,g3,g4⟩
   ·exact .inl h
   ·refine .inr ⟨q,g1,g2,by omega,fun j hj hi=>?_⟩
    by_cases hji:j=i
    ·subst hji;exact e4
    ·exact g4 j hj (by omega)
theorem szL {α:Type} [Data α] {f:Int×Int->Option (Out Int (Int×Int))} (xs:List α) {l:Int} (hN:xs.length<=9223372036854775807)
  (hstep: ∀i (h:i<xs.length) l,0<=l->l<=1048576-> ∃r,f (l,(i:Int))=some (if r<0 then .ret (-1) else .nxt (r,((i+1:Nat):Int)))/\(r<0\/(0<=r/\r<=l/\Data.sm xs[i])))
  (hend: ∀l,f (l,(xs.length:Int))=some (.brk (l,(xs.length:Int)))) (h0:0<=l) (h1:l<=1048576) :
  ∃r,(if decide (i64.wrap (l - (xs.length:Int))<0) then (some (-1)) else (bc (aK f br (i64.wrap (l - (xs.length:Int)),0)) (fun r=>some r) (fun s4=>some s4.1)))=some r/\(r<0\/(0<=r/\r<=l/\Data.sm xs)):=by
 rw[dU (by omega) (by omega)]
 by_cases h:l - (xs.length:Int)<0
 ·exact ⟨-1,by rw[if_pos (decide_eq_true h)],.inl (by decide)⟩
 ·rw[if_neg (by simpa using h)]
  rcases O1 xs hstep hend xs.length 0 br (l - xs.length) (by omega) (xC _ hN) (by omega) (by omega) with e | ⟨r,e,g1,g2,g3⟩
  ·exact ⟨-1,by rw[show ((0:Int))=((0:Nat):Int) from rfl,e];rfl,.inl (by decide)⟩
  ·refine ⟨r,by rw[show ((0:Int))=((0:Nat):Int) from rfl,e];rfl,.inr ⟨g1,by omega,by omega,fun x hx=>?_⟩⟩
   obtain ⟨j,hj,rfl⟩:=List.getElem_of_mem hx
   exact g3 j hj (Nat.zero_le _)
theorem Ou {α:Type} [DecidableEq α] {f:Int->Option (Out Bool Int)} (xs ys:List α) (hl:xs.length=ys.length)
  (hstep: ∀i (h:i<xs.length) (h':i<ys.length),f (i:Int)=some (if xs[i] =ys[i] then .nxt ((i+1:Nat):Int) else .ret false)) (hend:f (xs.length:Int)=some (.brk (xs.length:Int))): ∀(m i k:Nat),i+m=xs.length->m<k->
   aK f k (i:Int)=some (if xs.drop i=ys.drop i then .brk (xs.length:Int) else .ret false)
 | 0,i,k,e,hk=>by
  obtain ⟨k,rfl⟩: ∃q,k=q+1:=⟨k - 1,by omega⟩
  obtain rfl:i=xs.length:=by omega
  rw[aK,hend,List.drop_of_length_le (az _),List.drop_of_length_le (by omega),if_pos rfl]
 | m+1,i,k,e,hk=>by
  obtain ⟨k,rfl⟩: ∃q,k=q+1:=⟨k - 1,by omega⟩
  have hi:i<xs.length:=by omega
  have hi':i<ys.length:=by omega
  have d1:=List.drop_eq_getElem_cons hi
  have d2:=List.drop_eq_getElem_cons hi'
  rw[aK,hstep i hi hi',d1,d2]
  by_cases h:xs[i] =ys[i]
  ·rw[if_pos h]
   simp only
   rw[Ou xs ys hl hstep hend m (i+1) k (by omega) (by omega)]
   simp only[List.cons.injEq,h,true_and]
  ·rw[if_neg h]
   simp only[List.cons.injEq,h,false_and,if_false]
theorem eqL {α:Type} [DecidableEq α] {f:Int->Option (Out Bool Int)} (xs ys:List α) (hN:xs.length<=9223372036854775807)
  (hstep: ∀i (h:i<xs.length) (h':i<ys.length),f (i:Int)=some (if xs[i] =ys[i] then .nxt ((i+1:Nat):Int) else .ret false)) (hend:f (xs.length:Int)=some (.brk (xs.length:Int))) :
  (if (xs.length:Int) !=(ys.length:Int) then (some false) else (bc (aK f br 0) (fun r=>some r) (fun s4=>some true)))=some (decide (xs=ys)):=by
 by_cases hl:xs.length=ys.length
 ·rw[if_neg (by rw[hl];simp),show ((0:Int))=((0:Nat):Int) from rfl,Ou xs ys hl hstep hend xs.length 0 br (by omega) (xC _ hN)]
  by_cases h:xs=ys
  ·subst h;simp[bc]
  ·simp[bc,h]
 ·have:xs≠ys:=fun e=>hl (by rw[e])
  rw[if_pos (by simp;omega)];simp[this]
theorem eqB {α:Type} [DecidableEq α] {f:Int->Option (Out Bool Int)} {K:Option Bool} (xs ys:List α) (hN:xs.length<=9223372036854775807) (hl:xs.length=ys.length)
  (hstep: ∀i (h:i<xs.length) (h':i<ys.length),f (i:Int)=some (if xs[i] =ys[i] then .nxt ((i+1:Nat):Int) else .ret false)) (hend:f (xs.length:Int)=some (.brk (xs.length:Int))) :
  bc (aK f br 0) (fun r=>some r) (fun s4=>K)=(if xs=ys then K else some false):=by
 rw[show ((0:Int))=((0:Nat):Int) from rfl,Ou xs ys hl hstep hend xs.length 0 br (by omega) (xC _ hN)]
 by_cases h:xs=ys
 ·subst h;simp[bc]
 ·simp[bc,h]
theorem Nf {f:Int->Option (Out Int Int)} (xs ys:List Int)
  (hstep: ∀i (h:i<xs.length) (h':i<ys.length),f (i:Int)=some (if xs[i] < ys[i] then .ret (-1) else if xs[i] > ys[i] then .ret 1 else .nxt ((i+1:Nat):Int))) (hend: ∀i,xs.length<=i\/ys.length<=i->f (i:Int)=some (.brk (i:Int))): ∀(m i k:Nat),i+m=xs.length->m<k->
   (∃r,aK f k (i:Int)=some (.ret r)/\r≠0/\xs≠ys)\/ ∃s,aK f k (i:Int)=some (.brk s)/\(xs.length=ys.length->xs.drop i=ys.drop i)
 | 0,i,k,e,hk=>by
  obtain ⟨k,rfl⟩: ∃q,k=q+1:=⟨k - 1,by omega⟩
  exact .inr ⟨_,by rw[aK,hend i (.inl (by omega))],fun h=>by rw[List.drop_of_length_le (by omega),List.drop_of_length_le (by omega)]⟩
 | m+1,i,k,e,hk=>by
  obtain ⟨k,rfl⟩: ∃q,k=q+1:=⟨k - 1,by omega⟩
  have hi:i<xs.length:=by omega
  by_cases hi':i<ys.length
  ·have hne: ∀h:xs[i] ≠ys[i],xs≠ys:=fun h e=>h (by subst e;rfl)
   rw[aK,hstep i hi hi']
   by_cases h1:xs[i] < ys[i]
   ·rw[if_pos h1];exact .inl ⟨-1,rfl,by decide,hne (by omega)⟩
   ·rw[if_neg h1]
    by_cases h2:xs[i] > ys[i]
    ·rw[if_pos h2];exact .inl ⟨1,rfl,by decide,hne (by omega)⟩
    ·rw[if_neg h2]
     rcases Nf xs ys hstep hend m (i+1) k (by omega) (by omega) with h | ⟨s,g1,g2⟩
     ·exact .inl h
     ·refine .inr ⟨s,g1,fun hl=>?_⟩
      have h3:xs[i] =ys[i]:=by omega
      rw[List.drop_eq_getElem_cons hi,List.drop_eq_getElem_cons hi',g2 hl,h3]
  ·exact .inr ⟨_,by rw[aK,hend i (.inr (by omega))],fun h=>by omega⟩
instance:LawfulBEq ByteArray where
 eq_of_beq {a b} h:=ByteArray.ext (eq_of_beq (show (a.data==b.data)=true from h))
 rfl {a}:=beq_self_eq_true a.data
theorem mW {α β:Type} (p:α×β):(p.1,p.2)=p:=rfl
end D
namespace D
open Go.RowKit
theorem da {R S:Type} {f:S->Option (Out R S)} (Inv:Nat->S->Prop) (Q:Out R S->Prop) (N:Nat)
  (h: ∀i s,i<=N->Inv i s->(i<N/\ ∃s',f s=some (.nxt s')/\Inv (i+1) s')\/ ∃o,f s=some o/\(∀s',o≠ .nxt s')/\Q o) {s:S} (h0:Inv 0 s) (hN:N<br): ∃o,aK f br s=some o/\Q o:=by
 have key: ∀(k i:Nat) (s:S),i<=N->N<i+k->Inv i s-> ∃o,aK f k s=some o/\Q o:=by
  intro k
  induction k with
  | zero=>intro i s h1 h2;omega
  | succ k ih =>
   intro i s h1 h2 hI
   rcases h i s h1 hI with ⟨hi,s',e,hI'⟩ | ⟨o,e,hn,hq⟩
   ·obtain ⟨o,e',hq⟩:=ih (i+1) s' (by omega) (by omega) hI'
    exact ⟨o,by rw[aK,e];exact e',hq⟩
   ·refine ⟨o,?_,hq⟩
    rw[aK,e]
    cases o with
    | nxt s'=>exact absurd rfl (hn s')
    | brk s'=>rfl
    | ret r=>rfl
 exact key br 0 s (by omega) (by omega) h0
theorem eR {R S:Type} {f:S->Option (Out R S)} (Inv:Nat->S->Prop) (N:Nat) (h: ∀i s,i<N->Inv i s-> ∃s',f s=some (.nxt s')/\Inv (i+1) s') (he: ∀s,Inv N s->f s=some (.brk s)) {s:S} (h0:Inv 0 s) (hN:N<br): ∃s',aK f br s=some (.brk s')/\Inv N s':=by
 obtain ⟨o,e,s',rfl,h⟩:=da (f:=f) Inv (fun o=> ∃s',o= .brk s'/\Inv N s') N (fun i s hi hI=>by
  by_cases h1:i<N
  ·exact .inl ⟨h1,h i s h1 hI⟩
  ·obtain rfl:i=N:=by omega
   exact .inr ⟨_,he s hI,(fun s' e=>by cases e),s,rfl,hI⟩) h0 hN
 exact ⟨s',e,h⟩
theorem bX {R S:Type} {f:S->Option (Out R S)} (st:Nat->S) (N:Nat) (h: ∀i,i<N->f (st i)=some (.nxt (st (i+1)))) (he:f (st N)=some (.brk (st N))) (hN:N<br):aK f br (st 0)=some (.brk (st N)):=Ez st N h he hN
theorem kV {k:Nat} (h:k<=9223372036854775807):k<br:=xC k h
theorem oM {i:Nat} (h:i<=9223372036854775807):i64.wrap ((i:Int) - 1)=(i:Int) - 1:=dU (by omega) (by omega)
theorem aT {α:Type} {b:Nat} {xs ys:List α} (h:(xs.length+ys.length)*b<=140737488355328):ez b xs ys=some (xs++ys):=by unfold ez;rw[if_pos h]
theorem vM {i n:Nat} :decide ((i:Int)<(n:Int))=decide (i<n):=by simp
theorem bS {R S T:Type} {x:Option (Out R S)} {r:R} {kr:R->Option T} {k:S->Option T} (h:x=some (.ret r)):bc x kr k=kr r:=by rw[h];rfl
theorem aD {R S T:Type} {x:Option (Out R S)} {s:S} {kr:R->Option T} {k:S->Option T} (h:x=some (.brk s)):bc x kr k=k s:=by rw[h];rfl
def nth {α:Type} [Inhabited α] (xs:List α) (i:Int):α:=xs.getD i.toNat default
section
variable {α:Type} [Inhabited α] {xs ys:List α}
theorem aB {i:Int} (h0:0<=i) (h1:i<xs.length):bf xs i=some (nth xs i):=by
 unfold bf nth
 rw[if_pos h0]
 have:i.toNat<xs.length:=by omega
 simp[List.getD_eq_getElem?_getD,this]
theorem a9 {i:Nat} (h:i<xs.length):nth xs (i:Int)=xs[i]:=by simp[nth,List.getD_eq_getElem?_getD,h]
theorem cS {i:Int} (h0:0<=i) (h1:i<xs.length):nth xs i∈xs:=by
 have:i.toNat<xs.length:=by omega
 have e:nth xs i=xs[i.toNat]:=by simp[nth,List.getD_eq_getElem?_getD,this]
 rw[e];exact List.getElem_mem this
theorem eS {i:Int} (h0:0<=i) (h1:i<xs.length):nth (xs++ys) i=nth xs i:=by
 have:i.toNat<xs.length:=by omega
 simp[nth,List.getD_eq_getElem?_getD,List.getElem?_append_left this]
theorem Ln {β:Type} [Inhabited β] {f:α->β} {i:Int} (h0:0<=i) (h1:i<xs.length):nth (xs.map f) i=f (nth xs i):=by
 have:i.toNat<xs.length:=by omega
 simp[nth,List.getD_eq_getElem?_getD,this]
theorem zq {x:α} (h:x∈xs): ∃i:Nat,i<xs.length/\nth xs (i:Int)=x:=by
 obtain ⟨i,hi,rfl⟩:=List.getElem_of_mem h
 exact ⟨i,hi,a9 hi⟩
theorem fV {i:Int} {x:α} (h0:0<=i) (h1:i<xs.length):nth (xs.set i.toNat x) i=x:=by
 have:i.toNat<xs.length:=by omega
 simp[nth,List.getD_eq_getElem?_getD,this]
theorem iM {i j:Int} {x:α} (h0:0<=i) (hj:0<=j) (h:i≠j):nth (xs.set i.toNat x) j=nth xs j:=by
 have:i.toNat≠j.toNat:=by omega
 simp[nth,List.getD_eq_getElem?_getD,List.getElem?_set_ne this]
theorem Lo (h:xs.length=ys.length) (k: ∀i:Nat,i<xs.length->nth xs (i:Int)=nth ys (i:Int)):xs=ys:=by
 refine List.ext_getElem h fun i h1 h2=>?_
 have:=k i h1
 rwa [a9 h1,a9 h2] at this
end
section
variable {κ:Type} [DecidableEq κ]
def nbL (l:List κ):Option κ->List κ
 | none=>l
 | some x=>if x∈l then l else l++ [x]
def nbI (l:List κ):Option κ->Int
 | none=> -1
 | some x=>(l.idxOf x:Int)
def nbS (l:List κ) (os:List (Option κ)):List κ:=os.foldl nbL l
def nbR (l:List κ):List (Option κ)->List Int
 | [] =>[]
 | o::os=>nbI l o::nbR (nbL l o) os
theorem mK (l:List κ) (os:List (Option κ)) (o:Option κ):nbS l (os++ [o])=nbL (nbS l os) o:=by simp[nbS]
theorem mL: ∀(l:List κ) (os:List (Option κ)) (o:Option κ),nbR l (os++ [o])=nbR l os++ [nbI (nbS l os) o]
 | l,[],o=>rfl
 | l,p::os,o=>by
  show nbI l p::nbR (nbL l p) (os++ [o])=nbI l p::nbR (nbL l p) os++ [nbI (nbS (nbL l p) os) o]
  rw[mL (nbL l p) os o];rfl
theorem cZ: ∀(l:List κ) (os:List (Option κ)),(nbR l os).length=os.length
 | l,[] =>rfl
 | l,o::os=>by show (nbR (nbL l o) os).length+1=_;rw[cZ];rfl
theorem B3 (l : List κ) (o : Option κ) : l <+: nbL l o := by
  cases o with
  | none => exact List.prefix_refl l
  | some x => unfold nbL; simp only; split
              · exact List.prefix_refl l
              · exact List.prefix_append l [x]
theorem fW: ∀(l:List κ) (os:List (Option κ)),l <+:nbS l os
 | l,[] =>List.prefix_refl l
 | l,o::os=>(B3 l o).trans (fW (nbL l o) os)
theorem EA {l : List κ} {o : Option κ} (h : l.Nodup) : (nbL l o).Nodup := by
  cases o with
  | none => exact h
  | some x => unfold nbL; simp only; split
              · exact h
              · rename_i hx; exact List.nodup_append.2 ⟨h, by simp, by rintro a ha b hb rfl; simp at hb; exact hx (hb ▸ ha)⟩
theorem ku: ∀ {l:List κ} {os:List (Option κ)},l.Nodup->(nbS l os).Nodup
 | l,[],h=>h
 | l,o::os,h=>ku (l:=nbL l o) (os:=os) (EA h)
theorem EB {l : List κ} {o : Option κ} {x : κ} : x ∈ nbL l o ↔ x ∈ l \/ o = some x := by
  cases o with
  | none => simp [nbL]
  | some y => unfold nbL; simp only; split
              · rename_i h; constructor
                · exact .inl
                · rintro (h' | h')
                  · exact h'
                  · simp at h'; exact h' ▸ h
              · simp; exact or_congr Iff.rfl eq_comm
theorem kW: ∀ {l:List κ} {os:List (Option κ)} {x:κ},x∈nbS l os↔x∈l\/some x∈os
 | l,[],x=>by simp[nbS]
 | l,o::os,x=>by
  show x∈nbS (nbL l o) os↔_
  rw[kW,EB,List.mem_cons,or_assoc]
  exact or_congr Iff.rfl (or_congr eq_comm Iff.rfl)
theorem fJ {l:List κ} {x:κ} (h:x∈l):nbL l (some x)=l:=by simp[nbL,h]
theorem fj {l:List κ} {x:κ} (h:x∉l):nbL l (some x)=l++ [x]:=by simp[nbL,h]
theorem ky {l:List κ} {x:κ} (h:x∉l):l.idxOf x=l.length:=List.idxOf_eq_length h
def bfS (nx:κ->List (Option κ)) (first:κ):Nat->List κ
 | 0=>[first]
 | i+1=>match (bfS nx first i)[i]? with
  | some x=>nbS (bfS nx first i) (nx x)
  | none=>bfS nx first i
def bfR (nx:κ->List (Option κ)) (first:κ):Nat->List (List Int)
 | 0=>[]
 | i+1=>bfR nx first i++(match (bfS nx first i)[i]? with
  | some x=>[nbR (bfS nx first i) (nx x)]
  | none=>[])
variable {nx:κ->List (Option κ)} {first:κ}
theorem qJ {i:Nat} (h:i<(bfS nx first i).length):bfS nx first (i+1)=nbS (bfS nx first i) (nx ((bfS nx first i)[i])):=by
 rw[bfS,List.getElem?_eq_getElem h]
theorem mM {i:Nat} (h:i<(bfS nx first i).length):bfR nx first (i+1)=bfR nx first i++ [nbR (bfS nx first i) (nx ((bfS nx first i)[i]))]:=by
 rw[bfR,List.getElem?_eq_getElem h]
theorem ba (i:Nat):bfS nx first i <+:bfS nx first (i+1):=by
 rw[bfS]
 split
 ·exact fW _ _
 ·exact List.prefix_refl _
theorem iN {i j:Nat} (h:i<=j):bfS nx first i <+:bfS nx first j:=by
 induction h with
 | refl=>exact List.prefix_refl _
 | step _ ih=>exact ih.trans (ba _)
theorem fy: ∀i,(bfS nx first i).Nodup
 | 0=>by simp[bfS]
 | i+1=>by
  rw[bfS]
  split
  ·exact ku (fy i)
  ·exact fy i
theorem db {G:κ->Prop} (h0:G first) (h: ∀x,G x-> ∀y,some y∈nx x->G y): ∀i,∀x∈bfS nx first i,G x
 | 0=>by simp[bfS];exact h0
 | i+1=>by
  rw[bfS]
  split
  ·rename_i y hy
   intro x hx
   rcases kW.1 hx with hx | hx
   ·exact db h0 h i x hx
   ·exact h y (db h0 h i y (List.mem_of_getElem? hy)) x hx
  ·exact db h0 h i
theorem kz (i:Nat):(bfS nx first i)[0]? =some first:=by
 obtain ⟨t,ht⟩:=iN (nx:=nx) (first:=first) (Nat.zero_le i)
 rw[<-ht];rfl
theorem fc: ∀ {i:Nat},(∀j,j<i->j<(bfS nx first j).length)->(bfR nx first i).length=i
 | 0,_=>rfl
 | i+1,h=>by rw[mM (h i (by omega)),aw,fc fun j hj=>h j (by omega)];rfl
def bfE (nx:κ->List (Option κ)) (first:κ) (N:Nat):Prop:=N=(bfS nx first N).length/\ ∀i,i<N->i<(bfS nx first i).length
theorem EC {B:Nat} (hB: ∀i,(bfS nx first i).length<=B): ∃N,N<=B/\bfE nx first N:=by
 have key: ∀m i,i+m=B->(∀j,j<i->j<(bfS nx first j).length)-> ∃N,N<=B/\bfE nx first N:=by
  intro m
  induction m with
  | zero =>
   intro i hi hj
   have h1:=hB i
   have h2:i<=(bfS nx first i).length:=by
    cases i with
    | zero=>omega
    | succ i =>
     have:=hj i (by omega)
     have hp:=(ba (nx:=nx) (first:=first) i).length_le
     omega
   exact ⟨i,by omega,by omega,hj⟩
  | succ m ih =>
   intro i hi hj
   by_cases h:i<(bfS nx first i).length
   ·exact ih (i+1) (by omega) fun j hj'=>by
     by_cases e:j=i
     ·subst e;exact h
     ·exact hj j (by omega)
   ·have h2:i<=(bfS nx first i).length:=by
     cases i with
     | zero=>omega
     | succ i =>
      have:=hj i (by omega)
      have hp:=(ba (nx:=nx) (first:=first) i).length_le
      omega
    exact ⟨i,by omega,by omega,hj⟩
 exact key B 0 (by omega) (by omega)
theorem vN {N M:Nat} (h:bfE nx first N) (k:bfE nx first M):N=M:=by
 rcases Nat.lt_trichotomy N M with e | e | e
 ·have:=k.2 N e;have:=h.1;omega
 ·exact e
 ·have:=h.2 M e;have:=k.1;omega
end
end D
namespace D
open Go.RowKit
abbrev AutT:=Int×(List Bool)×(List (List Int))
structure VA (a:AutT) (n:Nat):Prop where
 len:a.2.1.length=n
 start:0<=a.1/\a.1<n
 nlen:a.2.2.length=n
 row: ∀r∈a.2.2,r.length=9
 ent: ∀r∈a.2.2,∀t∈r,-1<=t/\t<n
def mv (a:AutT) (s:Int) (k:Nat):Int:=nth (nth a.2.2 s) k
theorem L7 (x l h:Int):gm x l h=some (decide (l<=x/\x<=h)):=by
 unfold gm
 by_cases c:l<=x
 ·simp[c]
 ·have: ¬l<=x/\True:=⟨c,trivial⟩
  simp[c]
theorem Lp (x l h:Int):fQ x l h=some (decide (l<=x/\x<=h)):=by
 unfold fQ
 by_cases c:l<=x
 ·simp[c]
 ·simp[c]
theorem scan {α R:Type} [Inhabited α] {f:Int->Option (Out R Int)} (xs:List α) (p:α->Prop) [DecidablePred p] (r:R) (hN:xs.length<=9223372036854775807)
  (h: ∀i:Nat,i<xs.length->f (i:Int)=some (if p (nth xs i) then .nxt ((i+1:Nat):Int) else .ret r)) (he:f (xs.length:Int)=some (.brk (xs.length:Int))) :
  (aK f br 0=some (.brk (xs.length:Int))/\ ∀x∈xs,p x)\/(aK f br 0=some (.ret r)/\ ¬ ∀x∈xs,p x):=by
 obtain ⟨o,e,hq⟩:=da (f:=f) (fun i s=>s=(i:Int)/\ ∀j:Nat,j<i->p (nth xs j)) (fun o=>(o= .brk (xs.length:Int)/\ ∀x∈xs,p x)\/(o= .ret r/\ ¬ ∀x∈xs,p x)) xs.length (s:=0) (by
  rintro i s hi ⟨rfl,hp⟩
  by_cases hl:i<xs.length
  ·by_cases c:p (nth xs i)
   ·refine .inl ⟨hl,_,by rw[h i hl,if_pos c],rfl,fun j hj=>?_⟩
    by_cases e:j=i
    ·subst e;exact c
    ·exact hp j (by omega)
   ·refine .inr ⟨_,by rw[h i hl,if_neg c],(fun s' e=>by cases e),.inr ⟨rfl,fun hx=>c (hx _ (cS (by omega) (by omega)))⟩⟩
  ·obtain rfl:i=xs.length:=by omega
   refine .inr ⟨_,he,(fun s' e=>by cases e),.inl ⟨rfl,fun x hx=>?_⟩⟩
   obtain ⟨j,hj,rfl⟩:=zq hx
   exact hp j hj) ⟨rfl,by omega⟩ (kV hN)
 rcases hq with ⟨rfl,hq⟩ | ⟨rfl,hq⟩
 ·exact .inl ⟨e,hq⟩
 ·exact .inr ⟨e,hq⟩
section
variable {a:AutT} {n:Nat} (V:VA a n)
include V
theorem VA.pos:0<n:=by have:=V.start;omega
theorem VA.rowAt {s:Int} (h0:0<=s) (h1:s<n):(nth a.2.2 s).length=9:=V.row _ (cS h0 (by rw[V.nlen];exact h1))
theorem VA.mv {s:Int} {k:Nat} (h0:0<=s) (h1:s<n) (hk:k<9): -1<=mv a s k/\mv a s k<n:=
 V.ent _ (cS h0 (by rw[V.nlen];exact h1)) _ (cS (by omega) (by rw[V.rowAt h0 h1];omega))
theorem VA.get {s:Int} (h0:0<=s) (h1:s<n):bf a.2.2 s=some (nth a.2.2 s):=aB h0 (by rw[V.nlen];exact h1)
theorem VA.get2 {s:Int} {k:Nat} (h0:0<=s) (h1:s<n) (hk:k<9):bf (nth a.2.2 s) (k:Int)=some (D.mv a s k):=aB (by omega) (by rw[V.rowAt h0 h1];omega)
theorem VA.acc {s:Int} (h0:0<=s) (h1:s<n):bf a.2.1 s=some (nth a.2.1 s):=aB h0 (by rw[V.len];exact h1)
theorem ED {s:Int} {k:Nat} (h0:0<=s) (h1:s<n) (hk:k<9):aV a s (k:Int)=some (mv a s k):=by
 unfold aV eH
 rw[if_neg (by simp;omega),Lp];simp only[ae]
 rw[if_pos (by simp;omega),V.get h0 h1];simp only[ae]
 rw[V.get2 h0 h1 hk];rfl
end
theorem B4 {a:AutT} {s:Int} {k:Int} (h0:s<0):aV a s k=some (-1):=by
 unfold aV;rw[if_pos (by simpa using h0)]
end D
namespace D
open Go.RowKit
def B5 (out:List Bool) (t:Int):Bool:=decide (t≥0)&&nth out t
def hit (out:List Bool) (row:List Int):Bool:=row.any (B5 out)
def jK (a:AutT) (out:List Bool) (s:Nat):List Bool:=if hit out (nth a.2.2 s) then out.set s true else out
def cJ (a:AutT) (out:List Bool):Nat->List Bool
 | 0=>out
 | s+1=>jK a (cJ a out s) s
def cnt (out:List Bool):Nat:=out.count true
theorem EE (out:List Bool):cnt out<=out.length:=List.count_le_length
theorem AQ {out:List Bool} {s:Nat} (h:s<out.length) (k:out[s] =true):out.set s true=out:=by
 refine List.ext_getElem (by simp) fun i h1 h2=>?_
 rw[List.getElem_set]
 split
 ·rename_i e;subst e;exact k.symm
 ·rfl
theorem zr {out:List Bool} {s:Nat} (h:s<out.length) (k:out[s] =false):cnt (out.set s true)=cnt out+1:=by
 unfold cnt
 rw[List.count_set h];simp[k]
section
variable {a:AutT} {n:Nat}
theorem vO (a:AutT) (out:List Bool) (s:Nat):(jK a out s).length=out.length:=by unfold jK;split <;> simp
theorem dN (a:AutT) (out:List Bool): ∀s,(cJ a out s).length=out.length
 | 0=>rfl
 | s+1=>by rw[cJ,vO,dN a out s]
theorem mb {out:List Bool} {s:Nat} (h:s<out.length):(jK a out s=out/\ ¬(hit out (nth a.2.2 s)=true/\nth out s=false))\/(cnt (jK a out s)=cnt out+1/\hit out (nth a.2.2 s)=true/\nth out s=false):=by
 unfold jK
 rw[a9 h]
 cases hh:hit out (nth a.2.2 s) with
 | false=>exact .inl ⟨by simp,by simp⟩
 | true =>
  cases hk:out[s] with
  | true=>exact .inl ⟨by simp[AQ h hk],by simp⟩
  | false=>exact .inr ⟨by simp[zr h hk],rfl,rfl⟩
theorem mN {out:List Bool} : ∀s,s<=out.length->(cJ a out s=out/\cnt (cJ a out s)=cnt out)\/cnt out<cnt (cJ a out s)
 | 0,_=>.inl ⟨rfl,rfl⟩
 | s+1,hs=>by
  have hl:s<(cJ a out s).length:=by rw[dN];omega
  have ih:=mN (out:=out) s (by omega)
  rw[cJ]
  rcases mb (a:=a) hl with ⟨e,-⟩ | ⟨e,-,-⟩
  ·rw[e];exact ih
  ·rcases ih with ⟨-,h2⟩ | h
   ·exact .inr (by omega)
   ·exact .inr (by omega)
def it (a:AutT):Nat->List Bool
 | 0=>a.2.1
 | j+1=>cJ a (it a j) a.2.1.length
theorem jr (a:AutT): ∀j,(it a j).length=a.2.1.length
 | 0=>rfl
 | j+1=>by rw[it,dN,jr a j]
theorem I5 (a:AutT) (j:Nat):cnt (it a j)<=a.2.1.length:=by rw[<-jr a j];exact EE _
theorem zt (a:AutT) (j:Nat):(it a (j+1)=it a j)\/cnt (it a j)<cnt (it a (j+1)):=by
 rcases mN (a:=a) (out:=it a j) a.2.1.length (by rw[jr];exact az _) with h | h
 ·exact .inl h.1
 ·exact .inr h
theorem I6 {j k:Nat} (h:it a (j+1)=it a j) (hk:j<=k):it a k=it a j:=by
 induction hk with
 | refl=>rfl
 | step _ ih=>rw[it,ih];exact h
theorem EF {j k:Nat} (h:it a (j+1)=it a j) (h':it a (k+1)=it a k):it a j=it a k:=by
 rcases Nat.le_total j k with e | e
 ·exact (I6 h e).symm
 ·exact I6 h' e
theorem EG (a : AutT) : it a (a.2.1.length + 1) = it a a.2.1.length := by
  have key : ∀ j, it a (j + 1) = it a j \/ j + 1 <= cnt (it a (j + 1)) := by
    intro j
    induction j with
    | zero => rcases zt a 0 with h | h
              · exact .inl h
              · exact .inr (by omega)
    | succ j ih =>
      rcases zt a (j + 1) with h | h
      · exact .inl h
      · rcases ih with h' | h'
        · left; rw [it, h']; exact h'
        · exact .inr (by omega)
  rcases key a.2.1.length with h | h
  · exact h
  · have := I5 a (a.2.1.length + 1); omega
def live (a:AutT):List Bool:=it a a.2.1.length
theorem fK (a:AutT):(live a).length=a.2.1.length:=jr a _
theorem AR {α:Type} [Inhabited α] {row:List α} {p:α->Bool} {k:Nat} (h:k<row.length):(row.take (k+1)).any p=((row.take k).any p || p (nth row (k:Int))):=by
 rw[List.take_succ_eq_append_getElem h,List.any_append,a9 h];simp
section
variable (V:VA a n) (hn:n<=1000000)
include V hn
theorem EH {out:List Bool} {s:Nat} (hs:s<n) (hl:out.length=n):aK (fv a (out,(s:Int))) br (out,0)=some (.brk (jK a out s,9)):=by
 have hr:=V.rowAt (s:=s) (by omega) (by omega)
 have hls:s<out.length:=by omega
 have:=bX (f:=fv a (out,(s:Int))) (fun k=>(if ((nth a.2.2 (s:Int)).take k).any (B5 out) then out.set s true else out,(k:Int))) 9 (fun k hk=>by
  unfold fv
  simp only
  rw[if_pos (by simp;omega),V.get (by omega) (by omega)];simp only[ae]
  rw[V.get2 (by omega) (by omega) hk];simp only[ae]
  rw[AR (by omega),show nth (nth a.2.2 (s:Int)) (k:Int)=mv a s k from rfl]
  simp only[aI (show k<9223372036854775807 by omega)]
  by_cases c:mv a s k≥0
  ·have hset:(out.set s true).length=n:=by simp[hl]
   have hm:=(V.mv (s:=s) (k:=k) (by omega) (by omega) hk).2
   rw[if_pos (by simpa using c)]
   by_cases q:((nth a.2.2 (s:Int)).take k).any (B5 out)=true
   ·simp only[q,if_true,Bool.true_or]
    rw[aB c (by rw[hset];exact hm),aB (by omega) (by rw[hset];omega)];simp only[ae,Int.toNat_natCast]
    split <;> simp
   ·simp only[q,Bool.false_eq_true,if_false,Bool.false_or,B5]
    rw[aB c (by rw[hl];exact hm),aB (by omega) (by rw[hl];omega)];simp only[ae,Int.toNat_natCast]
    cases hc:nth out (mv a s k) <;> simp[hc,c]
  ·rw[if_neg (by simpa using c)]
   simp[B5,c]) (by unfold fv;simp) (by unfold br;omega)
 have e9:(nth a.2.2 (s:Int)).take 9=nth a.2.2 (s:Int):=List.take_of_length_le (by omega)
 rw[e9] at this
 exact this
theorem xE {out:List Bool} (hl:out.length=n):aK (fw a) br (out,0)=some (.brk (cJ a out n,(n:Int))):=by
 have hlen:=V.len
 refine bX (f:=fw a) (fun s=>(cJ a out s,(s:Int))) n (fun s hs=>?_) ?_ (kV (by omega))
 ·unfold fw
  simp only
  rw[if_pos (by simp;omega),aD (EH V hn hs (by rw[dN];exact hl)),aI (by omega)]
  rfl
 ·unfold fw
  simp only
  rw[if_neg (by simp;omega)]
theorem EI:fI a=some (live a):=by
 have hlen:=V.len
 unfold fI
 rw[aT (by simp;omega)];simp only[ae,List.nil_append]
 have:=bX (f:=gV a) (fun j=>(it a j,(j:Int))) n (fun j hj=>by
  unfold gV
  simp only
  rw[if_pos (by simp;omega),aD (xE V hn (by rw[jr];exact hlen)),aI (by omega),it,hlen]) (by
  unfold gV
  simp only
  rw[if_neg (by simp;omega)]) (kV (by omega))
 exact (aD this).trans (by simp[live,hlen])
theorem EJ {out:List Bool} {g:Bool} {s:Nat} (hs:s<n) (hl:out.length=n):aK (cf (g,(s:Int),out) (nth a.2.2 (s:Int))) br (g,0,out)=some (.brk (g || (hit out (nth a.2.2 (s:Int)) && !nth out (s:Int)),9,jK a out s)):=by
 have hr:=V.rowAt (s:=s) (by omega) (by omega)
 have hls:s<out.length:=by omega
 have:=bX (f:=cf (g,(s:Int),out) (nth a.2.2 (s:Int))) (fun k=>(g || (((nth a.2.2 (s:Int)).take k).any (B5 out) && !nth out (s:Int)),(k:Int),if ((nth a.2.2 (s:Int)).take k).any (B5 out) then out.set s true else out)) 9 (fun k hk=>by
  unfold cf
  simp only
  rw[if_pos (by simp[hr];omega),V.get2 (by omega) (by omega) hk];simp only[ae]
  rw[AR (by omega),show nth (nth a.2.2 (s:Int)) (k:Int)=mv a s k from rfl]
  simp only[aI (show k<9223372036854775807 by omega)]
  by_cases c:mv a s k≥0
  ·have hset:(out.set s true).length=n:=by simp[hl]
   have hm:=(V.mv (s:=s) (k:=k) (by omega) (by omega) hk).2
   rw[if_pos (by simpa using c)]
   by_cases q:((nth a.2.2 (s:Int)).take k).any (B5 out)=true
   ·simp only[q,if_true,Bool.true_or]
    have hself:nth (out.set s true) (s:Int)=true:=by
     have:=fV (xs:=out) (i:=(s:Int)) (x:=true) (by omega) (by omega)
     simpa using this
    rw[aB c (by rw[hset];exact hm),aB (by omega) (by rw[hset];omega)];simp only[ae,Int.toNat_natCast,hself,if_true]
    split <;> simp
   ·simp only[q,Bool.false_eq_true,if_false,Bool.false_or,B5,Bool.false_and,Bool.or_false]
    rw[aB c (by rw[hl];exact hm),aB (by omega) (by rw[hl];omega)];simp only[ae,Int.toNat_natCast]
    cases hc:nth out (mv a s k) with
    | false=>simp[c]
    | true =>
     cases hd:nth out (s:Int) with
     | false=>simp[c]
     | true =>
      rw[a9 hls] at hd
      simp[c,AQ hls hd]
  ·rw[if_neg (by simpa using c)]
   simp[B5,c]) (by unfold cf;simp[hr]) (by unfold br;omega)
 have e9:(nth a.2.2 (s:Int)).take 9=nth a.2.2 (s:Int):=List.take_of_length_le (by omega)
 rw[e9] at this
 have e0:(g || (((nth a.2.2 (s:Int)).take 0).any (B5 out) && !nth out (s:Int)))=g:=by simp
 rw[e0] at this
 exact this
theorem xF {out:List Bool} (hl:out.length=n): ∃g,aK (cg a) br (false,0,out)=some (.brk (g,(n:Int),cJ a out n))/\(g=true↔cnt out<cnt (cJ a out n)):=by
 have hlen:=V.len
 have hnl:=V.nlen
 obtain ⟨s',e,⟨g,rfl,hg⟩⟩:=eR (f:=cg a) (fun s st=> ∃g,st=(g,(s:Int),cJ a out s)/\(g=true↔cnt out<cnt (cJ a out s))) n (by
  rintro s st hs ⟨g,rfl,hg⟩
  have hpl:(cJ a out s).length=n:=by rw[dN];exact hl
  unfold cg
  simp only
  rw[if_pos (by simp;omega),V.get (by omega) (by omega)];simp only[ae]
  rw[aD (EJ V hn hs hpl),aI (by omega)]
  refine ⟨_,rfl,_,rfl,?_⟩
  rw[Bool.or_eq_true,ah,Bool.not_eq_true',hg,cJ]
  have hc:=mN (a:=a) (out:=out) s (by omega)
  rcases mb (a:=a) (out:=cJ a out s) (s:=s) (by omega) with ⟨e,k⟩ | ⟨e,k⟩
  ·rw[e];exact ⟨fun h=>h.elim id fun h=>absurd h k,.inl⟩
  ·rw[e]
   exact ⟨fun _=>by rcases hc with ⟨-,h⟩ | h <;> omega,fun _=>.inr k⟩) (by
  rintro s ⟨g,rfl,hg⟩
  unfold cg
  simp only
  rw[if_neg (by simp;omega)]) ⟨false,rfl,by simp[cJ]⟩ (kV (by omega))
 exact ⟨g,e,hg⟩
theorem EK:bI a=some (live a):=by
 have hlen:=V.len
 unfold bI
 rw[aT (by simp;omega)];simp only[ae,List.nil_append]
 obtain ⟨o,e,i,rfl,hi⟩:=da (f:=eM a) (fun i s=> ∃b,s=(b,it a i)/\(b=true->i<=cnt (it a i))/\(b=false->it a (i+1)=it a i)) (fun o=> ∃i,o= .brk (false,it a i)/\it a (i+1)=it a i) (n+1) (s:=(true,a.2.1)) (by
  rintro i s hi ⟨b,rfl,h1,h2⟩
  unfold eM
  simp only
  cases b with
  | false=>exact .inr ⟨_,by rw[if_neg (by simp)],(fun s' e=>by cases e),i,rfl,h2 rfl⟩
  | true =>
   have hc:=I5 a i
   have h1:=h1 rfl
   obtain ⟨g,e,hg⟩:=xF V hn (out:=it a i) (by rw[jr];exact hlen)
   have ee:cJ a (it a i) n=it a (i+1):=by rw[it,hlen]
   rw[ee] at e hg
   refine .inl ⟨by omega,(g,it a (i+1)),by rw[if_pos rfl,aD e],g,rfl,fun h=>?_,fun h=>?_⟩
   ·have:=hg.1 h;omega
   ·have hs:it a (i+1)=it a i:=by
     rcases zt a i with h' | h'
     ·exact h'
     ·rw[<-hg,h] at h';cases h'
    rw[it,hs];exact hs) ⟨true,rfl,fun _=>Nat.zero_le _,fun h=>by cases h⟩ (kV (by omega))
 rw[aD e]
 have:=EF hi (EG a)
 simp[live,this]
end
end
end D
namespace D
open Go.RowKit
def nothing:AutT:=(0,[false],[[-1,-1,-1,-1,-1,-1,-1,-1,-1]])
theorem EL:jR=some nothing:=by kernel_rfl
theorem xG:kO=some nothing:=by kernel_rfl
theorem EM {n:Nat} (h:n<=1000000):iOk (n:Int)=true:=by
 have h1:i64.min= -9223372036854775808:=by decide
 have h2:i64.max=9223372036854775807:=by decide
 simp only[iOk,Lit.wf,h1,h2,ah,decide_eq_true_eq]
 omega
theorem take_one {α:Type} [Inhabited α] {xs:List α} {k:Nat} (h:k<xs.length):xs.take (k+1)=xs.take k++ [nth xs (k:Int)]:=by
 rw[List.take_succ_eq_append_getElem h,a9 h]
theorem fe {α:Type} [Inhabited α] {xs ys:List α} (h:xs <+:ys) {i:Int} (h0:0<=i) (h1:i<xs.length):nth ys i=nth xs i:=by
 obtain ⟨t,rfl⟩:=h
 exact eS h0 h1
structure NumOk {κ:Type} [DecidableEq κ] (nx:κ->List (Option κ)) (first:κ) (G:κ->Prop) (B:Nat):Prop where
 g0:G first
 gn: ∀x,G x-> ∀y,some y∈nx x->G y
 len: ∀x,G x->(nx x).length=9
 bound: ∀l:List κ,l.Nodup->(∀x∈l,G x)->l.length<=B
section
variable {κ:Type} [DecidableEq κ] [Inhabited κ] {nx:κ->List (Option κ)} {first:κ} {G:κ->Prop} {B:Nat}
theorem NumOk.le (H:NumOk nx first G B) (i:Nat):(bfS nx first i).length<=B:=H.bound _ (fy i) (db H.g0 H.gn i)
theorem NumOk.at (H:NumOk nx first G B) {i:Nat} (h:i<(bfS nx first i).length):G (nth (bfS nx first i) (i:Int)):=db H.g0 H.gn i _ (cS (by omega) (by omega))
theorem fA {i:Nat} (h:i<(bfS nx first i).length):bfS nx first (i+1)=nbS (bfS nx first i) (nx (nth (bfS nx first i) (i:Int))):=by rw[qJ h,a9 h]
theorem oN {i:Nat} (h:i<(bfS nx first i).length):bfR nx first (i+1)=bfR nx first i++ [nbR (bfS nx first i) (nx (nth (bfS nx first i) (i:Int)))]:=by rw[mM h,a9 h]
theorem oO {β:Type} {acc:κ->β} {i:Nat} (h:i<(bfS nx first i).length):((bfS nx first (i+1)).take (i+1)).map acc=((bfS nx first i).take i).map acc++ [acc (nth (bfS nx first i) (i:Int))]:=by
 have hp:=ba (nx:=nx) (first:=first) i
 have hl:=hp.length_le
 have e:(bfS nx first (i+1)).take i=(bfS nx first i).take i:=by
  obtain ⟨t,ht⟩:=hp
  rw[<-ht,List.take_append_of_le_length (by omega)]
 rw[take_one (by omega),aH,e,fe hp (by omega) (by omega)];rfl
def MapOf (M:List (κ×Int)) (l:List κ):Prop:=M.length=l.length/\ ∀x,M.lookup x=if x∈l then some (l.idxOf x:Int) else none
theorem MapOf.one (x:κ):MapOf [(x,0)] [x]:=by
 refine ⟨rfl,fun y=>?_⟩
 rw[List.lookup_cons]
 by_cases e:y=x
 ·subst e;simp
 ·simp only[show (y==x)=false from by simp[e]];simp[e]
theorem MapOf.put {M:List (κ×Int)} {l:List κ} (h:MapOf M l) {x:κ} (hx:x∉l):MapOf ((x,(l.length:Int))::M) (l++ [x]):=by
 refine ⟨by simp[h.1],fun y=>?_⟩
 rw[List.lookup_cons]
 by_cases e:y=x
 ·subst e
  simp[List.idxOf_append,hx]
 ·simp only[show (y==x)=false from by simp[e],h.2 y,List.mem_append,List.mem_singleton,e,or_false]
  by_cases k:y∈l
  ·simp[k,List.idxOf_append]
  ·simp[k]
end
section
variable {nx:Int->List (Option Int)} {first:Int} {G:Int->Prop} {B:Nat}
theorem xH {p3:Int->Int->Option (Int×Bool)} {l:List Int} {M:List (Int×Int)} {os:List (Option Int)} {acs:List Bool} {rws:List (List Int)} {i:Nat}
  (hi:i<l.length) (hos:os.length=9) (hM:MapOf M l) (hok: ∀y,some y∈os->iOk y=true) (hB: ∀k,(nbS l (os.take k)).length<=1000000)
  (hp: ∀(k:Nat) (hk:k<9),∃j,p3 (nth l (i:Int)) (k:Int)=some (match nth os (k:Int) with | some y=>(y,true) | none=>(j,false))) :
  ∃M',aK (cO p3 (l,M,(i:Int),0,acs,rws)) br (l,M,[],0)=some (.brk (nbS l os,M',nbR l os,9))/\MapOf M' (nbS l os):=by
 obtain ⟨s',e,M',rfl,hM'⟩:=eR (f:=cO p3 (l,M,(i:Int),0,acs,rws)) (fun k s=> ∃M',s=(nbS l (os.take k),M',nbR l (os.take k),(k:Int))/\MapOf M' (nbS l (os.take k))) 9 (by
  rintro k s hk ⟨M1,rfl,hM1⟩
  have hpre:=fW l (os.take k)
  have hlen:=hpre.length_le
  have hBk:=hB k
  obtain ⟨j,hj⟩:=hp k hk
  have hrl:(nbR l (os.take k)).length<=9:=by rw[cZ,aF];omega
  unfold cO
  simp only
  rw[if_pos (by simp;omega),aB (by omega) (by omega)];simp only[ae]
  rw[fe hpre (by omega) (by omega),hj,take_one (by omega),mK,mL]
  simp only[ae,aI (show k<9223372036854775807 by omega)]
  cases ho:nth os (k:Int) with
  | none =>
   simp only[Bool.false_eq_true,if_false]
   rw[aT (by simp;omega)]
   exact ⟨_,rfl,M1,rfl,hM1⟩
  | some y =>
   have hy:iOk y=true:=hok y (ho ▸ cS (by omega) (by omega))
   simp only[if_true]
   rw[show chk (iOk y=true)=some () from by unfold chk;rw[if_pos hy]];simp only[ae]
   rw[show lkM M1 y=_ from hM1.2 y]
   by_cases c:y∈nbS l (os.take k)
   ·simp only[c,if_true,Option.isSome_some,Option.getD_some,ae]
    rw[aT (by simp;omega)]
    exact ⟨_,rfl,M1,by rw[fJ c];rfl,by rw[fJ c];exact hM1⟩
   ·have hput:CA M1 iOk iOk y ((nbS l (os.take k)).length:Int)=some ((y,((nbS l (os.take k)).length:Int))::M1):=by
     unfold CA
     rw[if_pos ⟨by have:=hM1.1;omega,hy,EM hBk⟩]
    simp only[c,if_false,Option.isSome_none,Bool.false_eq_true,hput,ae]
    rw[aT (by simp;omega)];simp only[ae]
    rw[aT (by simp;omega)]
    refine ⟨_,rfl,(y,((nbS l (os.take k)).length:Int))::M1,?_,?_⟩
    ·rw[fj c];simp only[nbI,ky c]
    ·rw[fj c];exact hM1.put c) (by
  rintro s ⟨M1,rfl,hM1⟩
  unfold cO
  simp) (s:=(l,M,[],0)) ⟨M,rfl,hM⟩ (by unfold br;omega)
 rw[List.take_of_length_le (by omega)] at e hM'
 exact ⟨M',e,hM'⟩
theorem I7 {most:Int} {p2:Int->Option Bool} {p3:Int->Int->Option (Int×Bool)} {acc:Int->Bool} (H:NumOk nx first G B) (hB:B<=1000000) (hmost:(B:Int)<=most) (hok: ∀x,G x->iOk x=true)
  (h2: ∀x,G x->p2 x=some (acc x)) (h3: ∀x (k:Nat),G x->k<9-> ∃j,p3 x (k:Int)=some (match nth (nx x) (k:Int) with | some y=>(y,true) | none=>(j,false))) :
  ∃N,bfE nx first N/\cw first most p2 p3=some ((0,(bfS nx first N).map acc,bfR nx first N),true):=by
 obtain ⟨N,hNB,hN⟩:=EC (nx:=nx) (first:=first) (H.le)
 refine ⟨N,hN,?_⟩
 unfold cw
 rw[show CA ([] :List (Int×Int)) iOk iOk first 0=some [(first,0)] from by unfold CA;rw[if_pos ⟨by simp,hok _ H.g0,by decide⟩]];simp only[ae]
 obtain ⟨s',e,M',rfl,hM'⟩:=eR (f:=bh most p2 p3) (fun i s=> ∃M,s=(bfS nx first i,M,(i:Int),0,((bfS nx first i).take i).map acc,bfR nx first i)/\MapOf M (bfS nx first i)) N (by
  rintro i s hi ⟨M,rfl,hM⟩
  have hlt:=hN.2 i hi
  have hG:=H.at hlt
  have hle:=H.le i
  have hle':=H.le (i+1)
  obtain ⟨M',e,hM'⟩:=xH (p3:=p3) (l:=bfS nx first i) (M:=M) (os:=nx (nth (bfS nx first i) (i:Int))) (acs:=((bfS nx first i).take i).map acc) (rws:=bfR nx first i) hlt (H.len _ hG) hM (fun y hy=>hok y (H.gn _ hG y hy))
   (fun k=>by
    have:(nbS (bfS nx first i) ((nx (nth (bfS nx first i) (i:Int))).take k)).length<=B:=H.bound _ (ku (fy i)) fun x hx=>by
     rcases kW.1 hx with hx | hx
     ·exact db H.g0 H.gn i x hx
     ·exact H.gn _ hG x (List.mem_of_mem_take hx)
    omega) (fun k hk=>h3 _ k hG hk)
  unfold bh
  simp only
  rw[if_pos (by simp;omega),aD e,<-fA hlt]
  rw[<-fA hlt] at hM'
  have hl2:=(ba (nx:=nx) (first:=first) i).length_le
  simp only
  rw[if_neg (by simp;omega),aB (by omega) (by omega)];simp only[ae]
  rw[fe (ba i) (by omega) (by omega),h2 _ hG];simp only[ae]
  have hr:(bfR nx first i).length=i:=fc fun j hj=>hN.2 j (by omega)
  rw[aT (by simp;omega)];simp only[ae]
  rw[aT (by simp;omega)];simp only[ae,aI (show i<9223372036854775807 by omega)]
  exact ⟨_,rfl,M',by rw[oO hlt,oN hlt],hM'⟩) (by
  rintro s ⟨M,rfl,hM⟩
  unfold bh
  simp only
  rw[if_neg (by have:=hN.1;simp;omega)]) (s:=([first],[(first,0)],0,0,[],[])) ⟨_,rfl,MapOf.one first⟩ (kV (by omega))
 rw[aD e]
 simp only
 rw[List.take_of_length_le (by have:=hN.1;omega)]
end
theorem I8 {l:List Int} {x:Int} (h:l.length<=9223372036854775807):jd l x=some (if x∈l then (l.idxOf x:Int) else -1):=by
 unfold jd
 obtain ⟨o,e,hq⟩:=da (f:=jQ l x) (fun i s=>s=(i:Int)/\x∉l.take i) (fun o=>(x∈l/\o= .ret (l.idxOf x:Int))\/(x∉l/\ ∃s,o= .brk s)) l.length (s:=0) (by
  rintro i s hi ⟨rfl,hx⟩
  unfold jQ
  by_cases hl:i<l.length
  ·rw[if_pos (by simp;omega),aB (by omega) (by omega)];simp only[ae]
   by_cases c:nth l (i:Int)=x
   ·refine .inr ⟨_,by rw[if_pos (by simpa using c)],(fun s' e=>by cases e),.inl ?_⟩
    have e:l=l.take i++(x::l.drop (i+1)):=by
     rw[<-c,a9 hl,<-List.drop_eq_getElem_cons hl,List.take_append_drop]
    refine ⟨by rw[e];simp,?_⟩
    congr 1
    conv=>rhs;rw[e,List.idxOf_append,if_neg hx,List.idxOf_cons_self]
    simp[aF];first | done | omega
   ·refine .inl ⟨hl,_,by rw[if_neg (by simpa using c)],by rw[aI (by omega)],?_⟩
    rw[take_one hl,List.mem_append,List.mem_singleton]
    rintro (h | h)
    ·exact hx h
    ·exact c h.symm
  ·refine .inr ⟨_,by rw[if_neg (by simp;omega)],(fun s' e=>by cases e),.inr ⟨?_,_,rfl⟩⟩
   rwa [List.take_of_length_le (by omega)] at hx) ⟨rfl,by simp⟩ (kV h)
 rcases hq with ⟨hx,rfl⟩ | ⟨hx,s,rfl⟩
 ·rw[bS e,if_pos hx]
 ·rw[aD e,if_neg hx]
section
variable {a:AutT} {n:Nat} {c:List Int} {lv:List Bool} {nx:Int->List (Option Int)} {G:Int->Prop} {B:Nat} {acc:Int->Bool}
def good (n:Nat) (lv:List Bool) (r:Int):Prop:=0<=r/\r<n/\nth lv r=true
def fZ (a:AutT) (c:List Int) (lv:List Bool) (r:Int):List (Option Int):=(List.range 9).map fun k=>if mv a r k≥0/\nth lv (mv a r k)=true then some (nth c (mv a r k)) else none
theorem qK {r:Int} {k:Nat} (hk:k<9):nth (fZ a c lv r) (k:Int)=if mv a r k≥0/\nth lv (mv a r k)=true then some (nth c (mv a r k)) else none:=by
 have:k<(fZ a c lv r).length:=by simp[fZ];omega
 rw[a9 this];simp[fZ]
def RepsOf (n:Nat) (lv:List Bool) (c:List Int) (rs l:List Int):Prop:=rs.length=l.length/\ ∀j:Nat,j<l.length->good n lv (nth rs j)/\nth c (nth rs j)=nth l (j:Int)
theorem RepsOf.snoc {rs l:List Int} (h:RepsOf n lv c rs l) {t:Int} (ht:good n lv t):RepsOf n lv c (rs++ [t]) (l++ [nth c t]):=by
 refine ⟨by simp[h.1],fun j hj=>?_⟩
 by_cases e:j<l.length
 ·rw[eS (by omega) (by have:=h.1;omega),eS (by omega) (by omega)];exact h.2 j e
 ·have e:j=l.length:=by simp at hj;omega
  subst e
  have h1:nth (rs++ [t]) (l.length:Int)=t:=by rw[a9 (by simp[h.1])];simp[<-h.1]
  have h2:nth (l++ [nth c t]) (l.length:Int)=nth c t:=by rw[a9 (by simp)];simp
  rw[h1,h2];exact ⟨ht,rfl⟩
theorem EN (V:VA a n) (hn:n<=1000000) (hc:c.length=n) (hlv:lv.length=n) {l rs:List Int} {acs:List Bool} {rws:List (List Int)} {i:Nat} (hi:i<l.length) (hR:RepsOf n lv c rs l) {os:List (Option Int)} (hos:os.length=9)
  (ho: ∀r,good n lv r->nth c r=nth l (i:Int)->fZ a c lv r=os) (hB: ∀k,(nbS l (os.take k)).length<=1000000) :
  ∃rs',aK (dQ a c lv (l,rs,(i:Int),0,acs,rws)) br (l,rs,[],0)=some (.brk (nbS l os,rs',nbR l os,9))/\RepsOf n lv c rs' (nbS l os):=by
 obtain ⟨s',e,rs',rfl,hR'⟩:=eR (f:=dQ a c lv (l,rs,(i:Int),0,acs,rws)) (fun k s=> ∃rs',s=(nbS l (os.take k),rs',nbR l (os.take k),(k:Int))/\RepsOf n lv c rs' (nbS l (os.take k))) 9 (by
  rintro k s hk ⟨r1,rfl,hR1⟩
  have hpre:=fW l (os.take k)
  have hlen:=hpre.length_le
  have hBk:=hB k
  have hrl:(nbR l (os.take k)).length<=9:=by rw[cZ,aF];omega
  have hr1:=hR1.1
  obtain ⟨⟨g0,g1,g2⟩,gc⟩:=hR1.2 i (by omega)
  rw[fe hpre (by omega) (by omega)] at gc
  have hsu:=ho _ ⟨g0,g1,g2⟩ gc
  have hok:nth os (k:Int)=if mv a (nth r1 (i:Int)) k≥0/\nth lv (mv a (nth r1 (i:Int)) k)=true then some (nth c (mv a (nth r1 (i:Int)) k)) else none:=by
   rw[<-hsu];exact qK hk
  have hmv:=V.mv (s:=nth r1 (i:Int)) (k:=k) g0 g1 hk
  unfold dQ
  simp only
  rw[if_pos (by simp;omega),aB (xs:=r1) (by omega) (by omega)];simp only[ae]
  rw[V.get g0 g1];simp only[ae]
  rw[V.get2 g0 g1 hk,take_one (by omega),mK,mL]
  simp only[ae,aI (show k<9223372036854775807 by omega)]
  by_cases c1:mv a (nth r1 (i:Int)) k≥0
  ·rw[if_pos (by simpa using c1),aB (xs:=lv) c1 (by omega)];simp only[ae]
   by_cases c2:nth lv (mv a (nth r1 (i:Int)) k)=true
   ·rw[if_pos ⟨c1,c2⟩] at hok
    rw[if_pos c2,aB (xs:=c) c1 (by omega),hok];simp only[ae]
    rw[I8 (by omega)];simp only[ae]
    by_cases c3:nth c (mv a (nth r1 (i:Int)) k)∈nbS l (os.take k)
    ·rw[if_pos c3,if_neg (by simp)];simp only[ae]
     rw[aT (by simp;omega)]
     exact ⟨_,rfl,r1,by rw[fJ c3];rfl,by rw[fJ c3];exact hR1⟩
    ·rw[if_neg c3,if_pos (by decide)]
     rw[aT (by simp;omega)];simp only[ae]
     rw[aT (by simp;omega)];simp only[ae]
     rw[aT (by simp;omega)];simp only[ae]
     refine ⟨_,rfl,r1++ [mv a (nth r1 (i:Int)) k],?_,?_⟩
     ·rw[fj c3];simp only[nbI,ky c3]
     ·rw[fj c3];exact hR1.snoc ⟨c1,hmv.2,c2⟩
   ·rw[if_neg (fun h=>c2 h.2)] at hok
    rw[if_neg c2,hok];simp only[ae]
    rw[aT (by simp;omega)]
    exact ⟨_,rfl,r1,rfl,hR1⟩
  ·rw[if_neg (fun h=>c1 h.1)] at hok
   rw[if_neg (by simpa using c1),hok];simp only[ae]
   rw[aT (by simp;omega)]
   exact ⟨_,rfl,r1,rfl,hR1⟩) (by
  rintro s ⟨r1,rfl,hR1⟩
  unfold dQ
  simp) (s:=(l,rs,[],0)) ⟨rs,rfl,hR⟩ (by unfold br;omega)
 rw[List.take_of_length_le (by omega)] at e hR'
 exact ⟨rs',e,hR'⟩
theorem I9 (V:VA a n) (hn:n<=1000000) (hc:c.length=n) (hlv:lv.length=n) (hs:nth lv a.1=true) (H:NumOk nx (nth c a.1) G B) (hB:B<=1000000)
  (hnx: ∀r,good n lv r->nx (nth c r)=fZ a c lv r) (hacc: ∀r,good n lv r->acc (nth c r)=nth a.2.1 r) :
  ∃N,bfE nx (nth c a.1) N/\c8 a c lv=some (0,(bfS nx (nth c a.1) N).map acc,bfR nx (nth c a.1) N):=by
 obtain ⟨N,hNB,hN⟩:=EC (nx:=nx) (first:=nth c a.1) (H.le)
 refine ⟨N,hN,?_⟩
 have hst:=V.start
 have hlen:=V.len
 unfold c8
 rw[aB hst.1 (by omega)];simp only[ae]
 rw[if_pos hs,aB hst.1 (by omega)];simp only[ae]
 obtain ⟨s',e,rs,rfl,hR⟩:=eR (f:=fE a c lv) (fun i s=> ∃rs,s=(bfS nx (nth c a.1) i,rs,(i:Int),0,((bfS nx (nth c a.1) i).take i).map acc,bfR nx (nth c a.1) i)/\RepsOf n lv c rs (bfS nx (nth c a.1) i)) N (by
  rintro i s hi ⟨rs,rfl,hR⟩
  have hlt:=hN.2 i hi
  have hG:=H.at hlt
  have hle:=H.le i
  have hle':=H.le (i+1)
  obtain ⟨rs',e,hR'⟩:=EN (acs:=((bfS nx (nth c a.1) i).take i).map acc) (rws:=bfR nx (nth c a.1) i) V hn hc hlv hlt hR (os:=nx (nth (bfS nx (nth c a.1) i) (i:Int))) (H.len _ hG) (fun r hr e=>by rw[<-hnx r hr,e]) (fun k=>by
    have:(nbS (bfS nx (nth c a.1) i) ((nx (nth (bfS nx (nth c a.1) i) (i:Int))).take k)).length<=B:=H.bound _ (ku (fy i)) fun x hx=>by
     rcases kW.1 hx with hx | hx
     ·exact db H.g0 H.gn i x hx
     ·exact H.gn _ hG x (List.mem_of_mem_take hx)
    omega)
  unfold fE
  simp only
  rw[if_pos (by simp;omega),aD e]
  rw[<-fA hlt] at hR'
  have hl2:=(ba (nx:=nx) (first:=nth c a.1) i).length_le
  have hr1:=hR'.1
  obtain ⟨⟨g0,g1,g2⟩,gc⟩:=hR'.2 i (by omega)
  rw[fe (ba i) (by omega) (by omega)] at gc
  rw[aB (xs:=rs') (by omega) (by omega)];simp only[ae]
  rw[V.acc g0 g1,<-hacc _ ⟨g0,g1,g2⟩,gc];simp only[ae]
  have hr:(bfR nx (nth c a.1) i).length=i:=fc fun j hj=>hN.2 j (by omega)
  rw[aT (by simp;omega)];simp only[ae]
  rw[aT (by simp;omega)];simp only[ae,aI (show i<9223372036854775807 by omega)]
  exact ⟨_,rfl,rs',by rw[<-fA hlt,oO hlt,oN hlt],hR'⟩) (by
  rintro s ⟨rs,rfl,hR⟩
  unfold fE
  simp only
  rw[if_neg (by have:=hN.1;simp;omega)]) (s:=([nth c a.1],[a.1],0,0,[],[])) ⟨[a.1],rfl,rfl,fun j hj=>by
   obtain rfl:j=0:=by simpa [bfS] using hj
   exact ⟨⟨hst.1,hst.2,hs⟩,rfl⟩⟩ (kV (by omega))
 rw[aD e]
 simp only
 rw[List.take_of_length_le (by have:=hN.1;omega)]
theorem sy (V:VA a n) (hlv:lv.length=n) (hs:nth lv a.1=false):c8 a c lv=some nothing:=by
 have hst:=V.start
 unfold c8
 rw[aB hst.1 (by omega)];simp only[ae]
 rw[hs,EL];rfl
end
end D
end Go.Proofs.YtobnepmpjgmpoaaGreat
