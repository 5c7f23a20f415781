/- FnMessageAudit: for every input the law returns true and changes nothing that was there. Part 5 of 8. -/
import Derived.Test.YtbhafdfiplkacaaGreatAC3
set_option linter.unusedVariables false
set_option linter.unusedSimpArgs false
set_option linter.unnecessarySimpa false
set_option linter.unusedSectionVars false
set_option maxRecDepth 1000000
namespace Go.Proofs.YtbhafdfiplkacaaGreat
open Go.IntKind (i64)
namespace R
open Go.RowKit
open D
def Om (i:Nat):(p:PM)->p.den->AV
 | .rd t,d=>Mz i t d
 | .ow t,d=>MW (lC i [] t d)
 | .fn a b,d=>.one (.fn ⟨i,[]⟩ a b d)
 | .cap T t,d=>.one (.fz ⟨i,[]⟩ T t d 0)
 | .capf T a b,d=>.one (.fzf ⟨i,[]⟩ T a b d)
 | .ptr _ _,_=>.one (.ptr ⟨i,[]⟩ 0)
 | .eat t,d=>MW (lC i [] t d)
 | .fk g,_=>.one (.val (.func (.func g) #[] #[]))
 | .crs _ _,_=>.one (.ptr ⟨i,[]⟩ 0)
 | .kb _ _ _,_=>.one (.own ⟨i,[]⟩)
 | .kc _,_=>.one (.own ⟨i,[]⟩)
def JO (q i:Nat):(p:PM)->p.den->List (Hdr×Chk)
 | .ow t,d=>mj i [] t d
 | .ptr T t,d=>[(⟨i,[]⟩,.box T t d)]
 | .eat t,d=>mj i [] t d
 | .crs T E,d=>[(⟨i,[]⟩,.blk T [.rd ⟨q,[]⟩ (.sl E (.int .u8)) d.1,.val (.int .i64 d.2.1),.val (.int .i64 d.2.2)])]
 | .kb g T t,d=>[(⟨i,[]⟩,.clo g [] [.ptr ⟨q,[]⟩ 0]),(⟨q,[]⟩,.box T t d)]
 | .kc g,_=>[(⟨i,[]⟩,.clo g [] [.ptr ⟨q,[]⟩ 0])]
 | _,_=>[]
def JP:(i:Nat)->(ps:List PM)->denP ps->List (Nat×Nat×AV)
 | _,[],_=>[]
 | i,p::ps,d=>(i,i,Om i p d.1)::JP (i+1) ps d.2
def Gh (q:Nat):(i:Nat)->(ps:List PM)->denP ps->List Ent
 | _,[],_=>[]
 | i,p::ps,d=>(JO q i p d.1).map (fun g=>(g.1,i,g.2))++Gh q (i+1) ps d.2
def yJ (ps:List PM) (d:denP ps):Sg:=⟨JP 0 ps d,Gh ps.length 0 ps d,ps.length+1⟩
def aay (P:Program) (w0:World) (J:Hp) (θ:Th) (n i:Nat):(p:PM)->Value->p.den->Prop
 | .ow t,v,d=>(lC i [] t d).2.map (·.v θ)=jY t.isProd v/\ ∀x∈(lC i [] t d).2,x.ok P w0 J θ n
 | .ptr _ _,v,_=>hv θ ⟨i,[]⟩=v/\i<n
 | .crs _ _,v,_=>hv θ ⟨i,[]⟩=v/\i<n
 | _,_,_=>True
def StF (P:Program) (w0:World) (J:Hp) (θ:Th) (n:Nat):(i:Nat)->(ps:List PM)->List Value->denP ps->Prop
 | i,p::ps,v::vs,d=>aay P w0 J θ n i p v d.1/\StF P w0 J θ n (i+1) ps vs d.2
 | _,_,_,_=>True
section
variable {P:Program} {w0 w:World} {J:Hp} {θ:Th} {n:Nat} {C:List Ch}
theorem yK {id:Nat} {pre:List Nat} {t:Ty} {d:t.den} : ∀g∈mj id pre t d,Qw g.2:=jd t d 0
theorem On {p:PM} {i:Nat} {v:Value} {d:p.den} {ps:List PM} {vs:List Value} {e:denP ps} {γ:Value} {q:Nat} (hi:i<n) (hq:q<n) (hγ:θ q=γ) (hθ:θ i=v) (h:Zs P w0 J γ p v d) (hS:St J w0 w (owCh γ (p::ps) (v::vs) (d,e)++C)) :
  (∀chs,(Om i p d).ok P w0 J θ n chs)/\(Om i p d).v θ=v/\St J w0 w ((JO q i p d).map (fun g=>toCh P θ (g.1,i,g.2))++(owCh γ ps vs e++C))/\(∀g∈JO q i p d,∀chs,okE P w0 J θ n chs (g.1,i,g.2))/\aay P w0 J θ n i p v d:=by
 cases p with
 | rd t =>
  obtain ⟨cs,h1,h2⟩:=h
  have hav:=fun chs=>qg (P:=P) (w0:=w0) (J:=J) (chs:=chs) hi hθ t d cs h2 h1
  exact ⟨fun chs=>(hav chs).1,(hav []).2,hS,fun g hg=>(by cases hg),trivial⟩
 | fn a b =>
  have hh:hv θ ⟨i,[]⟩=v:=hθ
  exact ⟨fun chs=>⟨hi,by rw[hh];exact h⟩,hh,hS,fun g hg=>(by cases hg),trivial⟩
 | cap T t =>
  obtain ⟨b,rfl,cells,h1,h2⟩:=h
  have hh:hv θ ⟨i,[]⟩= .pointer (some ⟨b,0,none⟩):=hθ
  refine ⟨fun chs=>⟨hi,cells,by rw[hh];exact h1,h2⟩,?_,hS,fun g hg=>(by cases hg),trivial⟩
  show Value.pointer (some ⟨bk (hv θ ⟨i,[]⟩),0,none⟩)=_
  rw[hh];rfl
 | capf T x y =>
  obtain ⟨b,rfl,u,h1,h2⟩:=h
  have hh:hv θ ⟨i,[]⟩= .pointer (some ⟨b,0,none⟩):=hθ
  refine ⟨fun chs=>⟨hi,u,by rw[hh];exact h1,h2⟩,?_,hS,fun g hg=>(by cases hg),trivial⟩
  show Value.pointer (some ⟨bk (hv θ ⟨i,[]⟩),0,none⟩)=_
  rw[hh];rfl
 | ptr T t =>
  obtain ⟨b,rfl⟩:=h
  have hh:hv θ ⟨i,[]⟩= .pointer (some ⟨b,0,none⟩):=hθ
  refine ⟨fun chs=>hi,?_,?_,fun g hg chs=>by obtain rfl:=aw hg;exact sk trivial hi hi,hh,hi⟩
  ·show Value.pointer (some ⟨bk (hv θ ⟨i,[]⟩),0,none⟩)=_
   rw[hh];rfl
  ·show St J w0 w (Ch.box (bk (hv θ ⟨i,[]⟩)) T t.rep d::_)
   rw[hh];exact hS
 | ow t =>
  have hS:St J w0 w (Ch.own t.rep (jY t.isProd v) d::(owCh γ ps vs e++C)):=hS
  obtain ⟨k1,k2,k3,k4,k5⟩:=vY (P:=P) (m:=i) (pre:=[]) (id:=i) (n:=n) hi (show hv θ ⟨i,[]⟩=v from hθ) h hS
  have q:=fun chs=>DR (P:=P) (w0:=w0) (J:=J) (θ:=θ) (n:=n) (chs:=chs) (lC i [] t d) (fun e=>si e) k1
  exact ⟨fun chs=>(q chs).1,(q []).2.trans k3,k5,fun g hg chs=>sk (yK g hg) (by rw[k4 g hg];exact hi) hi,k2,k1⟩
 | eat t =>
  have hS:St J w0 w (Ch.own t.rep (jY t.isProd v) d::(owCh γ ps vs e++C)):=hS
  obtain ⟨k1,k2,k3,k4,k5⟩:=vY (P:=P) (m:=i) (pre:=[]) (id:=i) (n:=n) hi (show hv θ ⟨i,[]⟩=v from hθ) h hS
  have q:=fun chs=>DR (P:=P) (w0:=w0) (J:=J) (θ:=θ) (n:=n) (chs:=chs) (lC i [] t d) (fun e=>si e) k1
  exact ⟨fun chs=>(q chs).1,(q []).2.trans k3,k5,fun g hg chs=>sk (yK g hg) (by rw[k4 g hg];exact hi) hi,trivial⟩
 | fk g =>
  obtain rfl:=h
  exact ⟨fun chs=>rfl,rfl,hS,fun g hg=>(by cases hg),trivial⟩
 | crs T E =>
  obtain ⟨⟨b,rfl⟩,hrd⟩:=h
  have hh:hv θ ⟨i,[]⟩= .pointer (some ⟨b,0,none⟩):=hθ
  have hg0:hv θ ⟨q,[]⟩=γ:=hγ
  refine ⟨fun chs=>hi,?_,?_,fun g hg chs=>?_,hh,hi⟩
  ·show Value.pointer (some ⟨bk (hv θ ⟨i,[]⟩),0,none⟩)=_
   rw[hh];rfl
  ·show St J w0 w (Ch.blk (bk (hv θ ⟨i,[]⟩)) [hv θ ⟨q,[]⟩,.int .i64 d.2.1,.int .i64 d.2.2] T::_)
   rw[hh,hg0];exact hS
  ·obtain rfl:=aw hg
   refine ⟨hi,hi,fun z hz=>?_⟩
   rcases aD hz with rfl | hz
   ·exact ⟨hq,by rw[hg0];exact hrd⟩
   ·rcases aD hz with rfl | hz
    ·exact Eq.refl true
    ·obtain rfl:=aw hz
     exact Eq.refl true
 | kb g T t =>
  obtain ⟨rfl,b,hb⟩:=h
  have hh:hv θ ⟨i,[]⟩= .func (.func g) #[] #[γ]:=hθ
  have hg0:hv θ ⟨q,[]⟩=γ:=hγ
  have hp:Value.pointer (some ⟨bk (hv θ ⟨q,[]⟩),0,none⟩)=γ:=by rw[hg0,hb];rfl
  refine ⟨fun chs=>⟨hi,by rw[hh];rfl⟩,hh,?_,fun g' hg chs=>?_,trivial⟩
  ·show St J w0 w (Ch.emp::Ch.box (bk (hv θ ⟨q,[]⟩)) T t.rep d::_)
   rw[hg0]
   exact St.emp.2 hS
  ·rcases aD hg with rfl | hg
   ·refine ⟨hi,hi,fun y hy=>(by cases hy),fun x hx=>?_,?_⟩
    ·obtain rfl:=aw hx
     exact hq
    ·show hv θ ⟨i,[]⟩= .func (.func g) #[] #[Value.pointer (some ⟨bk (hv θ ⟨q,[]⟩),0,none⟩)]
     rw[hh,hp]
   ·obtain rfl:=aw hg
    exact sk trivial hq hi
 | kc g =>
  obtain ⟨rfl,b,hb⟩:=h
  have hh:hv θ ⟨i,[]⟩= .func (.func g) #[] #[γ]:=hθ
  have hg0:hv θ ⟨q,[]⟩=γ:=hγ
  have hp:Value.pointer (some ⟨bk (hv θ ⟨q,[]⟩),0,none⟩)=γ:=by rw[hg0,hb];rfl
  refine ⟨fun chs=>⟨hi,by rw[hh];rfl⟩,hh,?_,fun g' hg chs=>?_,trivial⟩
  ·show St J w0 w (Ch.emp::_)
   exact St.emp.2 hS
  ·obtain rfl:=aw hg
   refine ⟨hi,hi,fun y hy=>(by cases hy),fun x hx=>?_,?_⟩
   ·obtain rfl:=aw hx
    exact hq
   ·show hv θ ⟨i,[]⟩= .func (.func g) #[] #[Value.pointer (some ⟨bk (hv θ ⟨q,[]⟩),0,none⟩)]
    rw[hh,hp]
theorem JQ {γ:Value} {q:Nat} (hq:q<n) (hγ:θ q=γ): ∀ {ps:List PM} {i:Nat} {vs:List Value} {d:denP ps} {C:List Ch},PArgs P w0 J γ ps vs d->(∀j v,vs[j]? =some v->θ (i+j)=v)->i+ps.length<=n->St J w0 w (owCh γ ps vs d++C)->
  (∀e∈JP i ps d,(∀chs,e.2.2.ok P w0 J θ n chs)/\i<=e.1/\e.2.1=e.1/\e.1<i+ps.length/\vs[e.1 - i]? =some (e.2.2.v θ))/\((JP i ps d).Pairwise fun a b=>a.2.1≠b.2.1)/\St J w0 w ((Gh q i ps d).map (toCh P θ)++C)/\(∀e∈Gh q i ps d,∀chs,okE P w0 J θ n chs e)/\StF P w0 J θ n i ps vs d
 | [],i,vs,d,C,h,_,_,hS=>by
  have h:vs= []:=h
  subst h
  exact ⟨fun e he=>(by cases he),List.Pairwise.nil,hS,fun e he=>(by cases he),trivial⟩
 | p::ps,i,vs,d,C,h,hθ,hn,hS=>by
  obtain ⟨v,r,rfl,h1,h3⟩:=h
  rw[au] at hn
  obtain ⟨a1,a2,a3,a4,a5⟩:=On (n:=n) (i:=i) (θ:=θ) (e:=d.2) (show i<n by omega) hq hγ (hθ 0 v rfl) h1 hS
  obtain ⟨k1,k2,k3,k4,k5⟩:=JQ hq hγ (i:=i+1) h3 (fun j u hj=>by
   have:=hθ (j+1) u hj
   rwa [show i+(j+1)=i+1+j from by omega] at this) (by omega) (a3.perm (List.perm_append_comm_assoc _ _ _))
  refine ⟨fun e he=>?_,List.pairwise_cons.2 ⟨fun e he hh=>?_,k2⟩,?_,fun e he chs=>?_,a5,k5⟩
  ·rcases aD he with rfl | he
   ·exact ⟨a1,aG _,rfl,by rw[au];show i<_;omega,by show (v::r)[i - i]? =_;rw[Nat.sub_self,a2];rfl⟩
   ·obtain ⟨q1,q2,q3,q4,q5⟩:=k1 e he
    refine ⟨q1,by omega,q3,by rw[au];omega,?_⟩
    rw[show e.1 - i=(e.1 - (i+1))+1 from by omega];exact q5
  ·have:=k1 e he
   have hh:i=e.2.1:=hh
   omega
  ·show St J w0 w (((JO q i p d.1).map _++Gh q (i+1) ps d.2).map (toCh P θ)++C)
   rw[aN,List.map_map]
   refine k3.perm ?_
   rw[al]
   exact List.perm_append_comm_assoc _ _ _
  ·rcases aI he with he | he
   ·obtain ⟨g,hg,rfl⟩:=List.mem_map.1 he
    exact a4 g hg chs
   ·exact k4 e he chs
theorem Gi {γ:Value} : ∀ {ps:List PM} {vs:List Value} {d:denP ps},PArgs P w0 J γ ps vs d->vs.length=ps.length
 | [],vs,d,h=>by
  have h:vs= []:=h
  subst h;rfl
 | p::ps,vs,d,h=>by
  obtain ⟨v,r,rfl,h1,h3⟩:=h
  simpa using Gi h3
end
def VO (tt:TT) (s:Sg):ResultVar->Option AV
 | .tmp t=>look s.env t
 | .cell p T=>(PV (look s.env p)).bind fun h=>(td tt T).bind fun d=>(tZ h s.chs).bind fun b=>bW (Nat.beq b.cells.length d.n) (Zq d.agg b.cells)
theorem VP {v:Option AV} {h:Hdr} (k:PV v=some h):v=some (.one (.ptr h 0)):=by
 unfold PV at k
 split at k
 ·rename_i h' off
  split at k
  ·rename_i ho
   rw[ay ho,af k]
  ·cases k
 ·cases k
section
variable {P:Program} {I:Hp} {w0 w:World} {F:Ch} {J:Hp} {θ:Th} {n:Nat} {s:Sg} {a:Act} {tt:TT}
theorem VQ (ha:Agr n a (envL θ s)) {t g:Nat} {T E:TypeId} {v:Value} {cs:List Ch} (h:(envL θ s).lookup t=some (.pointer (some ⟨g,0,none⟩))) (hs:St J w0 w cs) (i:Nat) (hi:cs[i]? =some (Ch.blk g [v] E)) (hT:TI P T false 1):Hj P a w (.cell t T) v:=by
 refine ⟨_,ha.2.2 t _ h,?_⟩
 have hg:=hs.heap i hi
 have hc:w.cell? ⟨g,0,none⟩=some v:=by simp[World.cell?,hg]
 simp[loadVar,Sem.run_bind,hT.run_agg,load,Sem.run,hc,Result.andThen]
theorem RF (hT:TTok P tt) (hS:Sim P I w0 F n J θ s a w) {r:ResultVar} {v:AV} (h:VO tt s r=some v):Hj P a w r (v.v θ)/\v.ok P w0 J θ s.nxt s.chs:=by
 cases r with
 | tmp t=>exact ⟨Un hS.agr (iz h),bU (x:=.tmp t) hS.fine h⟩
 | cell p T =>
  obtain ⟨hh,h1,h⟩:=bind_some (show (PV (look s.env p)).bind _=some v from h)
  obtain ⟨d,hd,h⟩:=bind_some h
  obtain ⟨b,hb,h⟩:=bind_some h
  obtain ⟨hl,h⟩:=aq h
  have hl:=ay hl
  have hp:=lz hb
  have hok:=hS.fine.chs _ (hp.mem_iff.2 (List.mem_cons_self ..))
  obtain ⟨k1,k2⟩:=MQ (chs:=s.chs) h hok.2.2
  refine ⟨?_,k1⟩
  have hlk:(envL θ s).lookup p=some (.pointer (some ⟨bk (hv θ hh),0,none⟩)):=iz (VP h1)
  have hst:=hS.st.perm ((hp.map (toCh P θ)).append_right [F])
  have hti:=(hT.get hd).ti
  cases hagg:d.agg with
  | true =>
   rw[hagg] at k2 hti
   rw[<-k2]
   exact P4 hS.agr hlk hst 0 rfl hti (by rw[List.length_map];exact hl)
  | false =>
   rw[hagg] at k2 hti h
   have h1':d.n=1:=by
    have:=(hT.get hd).one
    rw[hagg] at this
    simpa using this
   obtain ⟨x,hx⟩:=List.length_eq_one_iff.1 (hl.trans h1')
   rw[h1'] at hti
   rw[hx] at k2
   rw[<-k2]
   have hst2:St J w0 w (Ch.blk (bk (hv θ hh)) [x.v θ] b.T::(b.rest.map (toCh P θ)++ [F])):=by
    have:(toCh P θ (b.ent hh))=Ch.blk (bk (hv θ hh)) (b.cells.map (·.v θ)) b.T:=rfl
    rw[hx] at this
    rw[<-show toCh P θ (b.ent hh)=Ch.blk (bk (hv θ hh)) [x.v θ] b.T from this]
    exact hst
   exact VQ hS.agr hlk hst2 0 rfl hti
end
def H7:(ts:List Ty)->List AV->List Ent->Option (jX ts×List Ent×List Ent)
 | [],[],chs=>some ((),[],chs)
 | t::ts,v::vs,chs=>bW (oD v==t.isProd) ((lA v).bind fun cs=>(eK t cs chs).bind fun q=>bW q.cells.isEmpty ((H7 ts vs q.rest).bind fun r=>some ((q.d,r.1),q.used++r.2.1,r.2.2)))
 | _,_,_=>none
def xM:(ts:List Ty)->List Value->jX ts->List Ch
 | t::ts,v::vs,d=>Ch.own t.rep (jY t.isProd v) d.1::xM ts vs d.2
 | _,_,_=>[]
theorem CW {P:Program} {w0:World} {J:Hp} {θ:Th} {n:Nat} {chs0:List Ent} : ∀ {ts:List Ty} {vs:List AV} {chs:List Ent} {r:jX ts×List Ent×List Ent},H7 ts vs chs=some r->(∀v∈vs,v.ok P w0 J θ n chs0)->
  chs.Perm (r.2.1++r.2.2)/\vs.length=ts.length/\oq J (r.2.1.map (toCh P θ)) (xM ts (vs.map (·.v θ)) r.1)/\ ∀(i:Nat) t v,ts[i]? =some t->vs[i]? =some v->oz (v.v θ)=t.isProd
 | [],[],chs,r,h,_=>by
  obtain rfl:=af (show some _=some r from h)
  exact ⟨List.Perm.refl _,rfl,vR,fun i t v ht=>by simp at ht⟩
 | t::ts,v::vs,chs,r,h,hv'=>by
  obtain ⟨ha,h⟩:=aq (show bW (oD v==t.isProd) _=some r from h)
  have ha:oD v=t.isProd:=by simpa using ha
  obtain ⟨cs,hcs,h⟩:=bind_some h
  obtain ⟨q,hq,h⟩:=bind_some h
  obtain ⟨he,h⟩:=aq h
  obtain ⟨r',hr,h⟩:=bind_some h
  obtain rfl:=af h
  obtain ⟨c1,c2⟩:=jI hcs (hv' v (by simp))
  obtain ⟨p,cc,e1,e2⟩:=kH (J:=J) (θ:=θ) hq c1
  rw[List.isEmpty_iff.1 he,List.append_nil] at e1
  subst e1
  obtain ⟨k1,k2,k3,k4⟩:=CW hr fun x hx=>hv' x (by simp[hx])
  have hcell:jY t.isProd (v.v θ)=cs.map (·.v θ)/\oz (v.v θ)=t.isProd:=by
   rw[<-ha]
   cases v with
   | agg xs =>
    obtain rfl:=af (show some xs=some cs from hcs)
    exact ⟨rfl,rfl⟩
   | one x =>
    obtain rfl:=af (show some [x] =some cs from hcs)
    refine ⟨rfl,?_⟩
    have h1:(x.v θ).oneCell'=true:=LV.one (show LV.ok P w0 J θ n x from hv' (.one x) (by simp))
    show oz (x.v θ)=false
    generalize x.v θ=u at h1
    cases u <;> first | rfl | cases h1
   | _=>cases hcs
  refine ⟨by rw[al];exact p.trans (k1.append_left _),by rw[au,au,k2],?_,fun i t' v' ht hv0=>?_⟩
  ·show oq J ((q.used++r'.2.1).map _) (Ch.own t.rep (jY t.isProd (v.v θ)) q.d::xM ts (vs.map _) r'.1)
   rw[aN,hcell.1]
   exact se e2 k3
  ·cases i with
   | zero =>
    obtain rfl:t=t':=by simpa using ht
    obtain rfl:v=v':=by simpa using hv0
    exact hcell.2
   | succ i=>exact k4 i t' v' (by simpa using ht) (by simpa using hv0)
 | [],_::_,chs,r,h,_=>by cases h
 | _::_,[],chs,r,h,_=>by cases h
def Zd:List Value->Value
 | [v] =>v
 | vs=>.tuple vs.toArray
def JR (P:Program) (a:Act) (w:World):List ResultVar->List Value->Prop
 | [],vs=>vs= []
 | r::rs,vs=> ∃v us,vs=v::us/\Hj P a w r v/\JR P a w rs us
theorem yL {P:Program} {a:Act} {w:World} {f:ResultVar->Sem Value} (hf: ∀r v,Hj P a w r v->(f r).run P w= .ok v w): ∀ {l:List ResultVar} {vs:List Value},JR P a w l vs->(l.mapM f).run P w= .ok vs w
 | [],vs,h=>by
  have h:vs= []:=h
  subst h
  rw[List.mapM_nil];rfl
 | r::l,vs,h=>by
  obtain ⟨v,us,rfl,h1,h2⟩:=h
  rw[List.mapM_cons,Sem.run_bind,hf r v h1]
  simp only[Result.andThen_ok,Sem.run_bind,yL hf h2]
  rfl
def Ze (a:Act) (r:ResultVar):Sem Value:=match r with
 | .tmp t=>pure (a.tmps.getD t undef)
 | .cell p t=>do loadVar t (<-asAddr (a.tmps.getD p undef))
theorem VR {P:Program} {a:Act} {w:World} {r:ResultVar} {v:Value} (h:Hj P a w r v):(Ze a r).run P w= .ok v w:=by
 cases r with
 | tmp t =>
  have h:a.tmps.getD t undef=v:=h
  show (pure (a.tmps.getD t undef):Sem Value).run P w=_
  rw[h];rfl
 | cell p T =>
  obtain ⟨A,h1,h2⟩:=h
  show ((asAddr (a.tmps.getD p undef)) >>=fun x=>loadVar T x).run P w=_
  rw[h1,Sem.run_bind]
  show Result.andThen (.ok A w) _=_
  rw[Result.andThen_ok];exact h2
theorem XS {P:Program} {n:Nat} {a:Act} {w:World} {L:List (Nat×Value)} {fn:Func} {R:Ending->World->Prop} {vs:List Value} (ha:Agr n a L) (h:JR P a w fn.results.toList vs) (hR:R (.returned (Zd vs)) w):bodyPost P fn R .ret a w:=by
 refine ⟨ha.1,Zd vs,?_,hR⟩
 have hr:((fn.results.mapM (Ze a)):Sem (Array Value)).run P w= .ok vs.toArray w:=by
  rw[Array.mapM_eq_mapM_toList]
  have:=yL (f:=Ze a) (fun r v=>VR) h
  simp[this,Sem.run_map]
 show ((fn.results.mapM (Ze a)) >>=fun vs=>pure (if h:vs.size=1 then vs[0] else .tuple vs):Sem Value).run P w=_
 rw[Sem.run_bind,hr,Result.andThen_ok]
 match vs with
 | [] =>rfl
 | [v] =>rfl
 | _::_::_=>rfl
def eM (g0:Nat):(i:Nat)->(ps:List PM)->denP ps->List Ent->Option (jX (outs ps)×List Ent×List Ent)
 | _,[],_,chs=>some ((),[],chs)
 | i,.ow t::ps,d,chs=>(eK t (lC i [] t d.1).2 chs).bind fun q=>bW q.cells.isEmpty ((eM g0 (i+1) ps d.2 q.rest).bind fun r=>some ((q.d,r.1),q.used++r.2.1,r.2.2))
 | i,.ptr T t::ps,d,chs=>(sj ⟨i,[]⟩ T t chs).bind fun q=>(eM g0 (i+1) ps d.2 q.2.2).bind fun r=>some ((q.1,r.1),q.2.1++r.2.1,r.2.2)
 | i,.rd _::ps,d,chs=>eM g0 (i+1) ps d.2 chs
 | i,.fn _ _::ps,d,chs=>eM g0 (i+1) ps d.2 chs
 | i,.eat _::ps,d,chs=>eM g0 (i+1) ps d.2 chs
 | i,.cap _ _::ps,d,chs=>eM g0 (i+1) ps d.2 chs
 | i,.capf _ _ _::ps,d,chs=>eM g0 (i+1) ps d.2 chs
 | i,.fk _::ps,d,chs=>eM g0 (i+1) ps d.2 chs
 | i,.kc _::ps,d,chs=>eM g0 (i+1) ps d.2 chs
 | i,.kb _ T t::ps,d,chs=>(sj ⟨g0,[]⟩ T t chs).bind fun q=>(eM g0 (i+1) ps d.2 q.2.2).bind fun r=>some ((q.1,r.1),q.2.1++r.2.1,r.2.2)
 | i,.crs T E::ps,d,chs=>(uU ⟨i,[]⟩ T E chs).bind fun q=>bW (Hdr.beq q.g ⟨g0,[]⟩) ((eM g0 (i+1) ps d.2 q.rest).bind fun r=>some ((q.d.2,r.1),q.ent::r.2.1,r.2.2))
theorem eR {P:Program} {w0:World} {J J':Hp} {θ θ':Th} {n n':Nat} {chs0:List Ent} (hJ:J.le J') (hs:Same n θ θ') {γ:Value} {g0:Nat} (hg0:g0<n) (hγ:θ g0=γ): ∀ {ps:List PM} {i:Nat} {d:denP ps} {chs:List Ent} {vs:List Value} {r:jX (outs ps)×List Ent×List Ent},eM g0 i ps d chs=some r->vs.length=ps.length->StF P w0 J θ n i ps vs d->(∀e∈chs,okE P w0 J' θ' n' chs0 e)->
  chs.Perm (r.2.1++r.2.2)/\oq J' (r.2.1.map (toCh P θ')) (outCh γ ps vs r.1)
 | [],i,d,chs,vs,r,h,_,_,_=>by
  obtain rfl:=af (show some _=some r from h)
  exact ⟨List.Perm.refl _,vR⟩
 | p::ps,i,d,chs,[],r,h,hl,_,_=>by cases hl
 | .ow t::ps,i,d,chs,v::vs,r,h,hl,hF,hc=>by
  obtain ⟨q,hq,h⟩:=bind_some (show (eK t (lC i [] t d.1).2 chs).bind _=some r from h)
  obtain ⟨he,h⟩:=aq h
  obtain ⟨r',hr,h⟩:=bind_some h
  obtain rfl:=af h
  obtain ⟨⟨k1,k2⟩,k3⟩:=hF
  obtain ⟨p,cc,e1,e2⟩:=kH (P:=P) (w0:=w0) (J:=J') (θ:=θ') (n:=n) hq fun x hx=>LV.ok_same hs (aG _) (k2 x hx) hJ
  rw[List.isEmpty_iff.1 he,List.append_nil] at e1
  subst e1
  rw[iG hs k2,k1] at e2
  obtain ⟨q1,q2⟩:=eR hJ hs hg0 hγ hr (by simpa using hl) k3 fun e he=>hc e (p.mem_iff.2 (by simp[he]))
  refine ⟨by rw[al];exact p.trans (q1.append_left _),?_⟩
  show oq J' ((q.used++r'.2.1).map _) (Ch.own t.rep (jY t.isProd v) q.d::outCh γ ps vs r'.1)
  rw[aN]
  exact se e2 q2
 | .ptr T t::ps,i,d,chs,v::vs,r,h,hl,hF,hc=>by
  obtain ⟨q,hq,h⟩:=bind_some (show (sj ⟨i,[]⟩ T t chs).bind _=some r from h)
  obtain ⟨r',hr,h⟩:=bind_some h
  obtain rfl:=af h
  obtain ⟨⟨k1,k2⟩,k3⟩:=hF
  obtain ⟨p,hb⟩:=tq (P:=P) (w0:=w0) (J:=J') (J':=J') (θ:=θ') hq Hp.le.rfl hc
  obtain ⟨q1,q2⟩:=eR hJ hs hg0 hγ hr (by simpa using hl) k3 fun e he=>hc e (p.mem_iff.2 (by simp[he]))
  refine ⟨by rw[al];exact p.trans (q1.append_left _),?_⟩
  show oq J' ((q.2.1++r'.2.1).map _) (Ch.box (bk v) T t.rep q.1::outCh γ ps vs r'.1)
  rw[aN]
  have hh:hv θ' ⟨i,[]⟩=v:=(bg hs (show (⟨i,[]⟩:Hdr).id<n from k2)).trans k1
  rw[hh] at hb
  intro w F hsp
  obtain ⟨G,K,rfl,h1,h2⟩:=hsp.split
  exact ⟨G,K,rfl,hb w G h1,q2 w K h2⟩
 | .rd t::ps,i,d,chs,v::vs,r,h,hl,hF,hc=>eR (ps:=ps) hJ hs hg0 hγ (show eM g0 (i+1) ps d.2 chs=some r from h) (by simpa using hl) hF.2 hc
 | .fn _ _::ps,i,d,chs,v::vs,r,h,hl,hF,hc=>eR (ps:=ps) hJ hs hg0 hγ (show eM g0 (i+1) ps d.2 chs=some r from h) (by simpa using hl) hF.2 hc
 | .eat _::ps,i,d,chs,v::vs,r,h,hl,hF,hc=>eR (ps:=ps) hJ hs hg0 hγ (show eM g0 (i+1) ps d.2 chs=some r from h) (by simpa using hl) hF.2 hc
 | .cap _ _::ps,i,d,chs,v::vs,r,h,hl,hF,hc=>eR (ps:=ps) hJ hs hg0 hγ (show eM g0 (i+1) ps d.2 chs=some r from h) (by simpa using hl) hF.2 hc
 | .capf _ _ _::ps,i,d,chs,v::vs,r,h,hl,hF,hc=>eR (ps:=ps) hJ hs hg0 hγ (show eM g0 (i+1) ps d.2 chs=some r from h) (by simpa using hl) hF.2 hc
 | .kc _::ps,i,d,chs,v::vs,r,h,hl,hF,hc=>eR (ps:=ps) hJ hs hg0 hγ (show eM g0 (i+1) ps d.2 chs=some r from h) (by simpa using hl) hF.2 hc
 | .kb _ T t::ps,i,d,chs,v::vs,r,h,hl,hF,hc=>by
  obtain ⟨q,hq,h⟩:=bind_some (show (sj ⟨g0,[]⟩ T t chs).bind _=some r from h)
  obtain ⟨r',hr,h⟩:=bind_some h
  obtain rfl:=af h
  obtain ⟨-,k3⟩:=hF
  obtain ⟨p,hb⟩:=tq (P:=P) (w0:=w0) (J:=J') (J':=J') (θ:=θ') hq Hp.le.rfl hc
  obtain ⟨q1,q2⟩:=eR hJ hs hg0 hγ hr (by simpa using hl) k3 fun e he=>hc e (p.mem_iff.2 (by simp[he]))
  refine ⟨by rw[al];exact p.trans (q1.append_left _),?_⟩
  show oq J' ((q.2.1++r'.2.1).map _) (Ch.box (bk γ) T t.rep q.1::outCh γ ps vs r'.1)
  rw[aN]
  have hh:hv θ' ⟨g0,[]⟩=γ:=by
   show vg (θ' g0) [] =γ
   rw[hs g0 hg0,hγ];rfl
  rw[hh] at hb
  intro w F hsp
  obtain ⟨G,K,rfl,h1,h2⟩:=hsp.split
  exact ⟨G,K,rfl,hb w G h1,q2 w K h2⟩
 | .fk _::ps,i,d,chs,v::vs,r,h,hl,hF,hc=>eR (ps:=ps) hJ hs hg0 hγ (show eM g0 (i+1) ps d.2 chs=some r from h) (by simpa using hl) hF.2 hc
 | .crs T E::ps,i,d,chs,v::vs,r,h,hl,hF,hc=>by
  obtain ⟨q,hq,h⟩:=bind_some (show (uU ⟨i,[]⟩ T E chs).bind _=some r from h)
  obtain ⟨hb,h⟩:=aq h
  obtain ⟨r',hr,h⟩:=bind_some h
  obtain rfl:=af h
  obtain ⟨⟨k1,k2⟩,k3⟩:=hF
  obtain ⟨p,ver,he⟩:=oe hq
  obtain ⟨q1,q2⟩:=eR hJ hs hg0 hγ hr (by simpa using hl) k3 fun e he=>hc e (p.mem_iff.2 (by simp[he]))
  refine ⟨p.trans (q1.cons _),?_⟩
  have hh:hv θ' ⟨i,[]⟩=v:=(bg hs (show (⟨i,[]⟩:Hdr).id<n from k2)).trans k1
  have hg:hv θ' q.g=γ:=by
   rw[Hdr.beq_eq hb]
   show vg (θ' g0) [] =γ
   rw[hs g0 hg0,hγ];rfl
  show oq J' (toCh P θ' q.ent::r'.2.1.map _) (Ch.blk (bk v) [γ,.int .i64 q.d.2.1,.int .i64 q.d.2.2] T::outCh γ ps vs r'.1)
  rw[he]
  intro w F hsp
  obtain ⟨G,K,rfl,h1,h2⟩:=hsp
  have h1:(Ch.blk (bk (hv θ' ⟨i,[]⟩)) [hv θ' q.g,.int .i64 q.d.2.1,.int .i64 q.d.2.2] T).holds J' w G:=h1
  rw[hh,hg] at h1
  exact ⟨G,K,rfl,h1,q2 w K h2⟩
def ofH:(ts:List Ty)->jX ts->dens ts
 | [],_=>()
 | [_],d=>d.1
 | _::u::ts,d=>(d.1,ofH (u::ts) d.2)
theorem H8: ∀(ts:List Ty) (d:jX ts),toH ts (ofH ts d)=d
 | [],_=>rfl
 | [_],_=>rfl
 | _::u::ts,d=>congrArg (Prod.mk d.1) (H8 (u::ts) d.2)
def AN:(ts us:List Ty)->jX ts->jX us->jX (ts++us)
 | [],_,_,e=>e
 | _::ts,us,d,e=>(d.1,AN ts us d.2 e)
theorem Ei: ∀(ts us:List Ty) (d:jX ts) (e:jX us),hFst ts us (AN ts us d e)=d
 | [],_,_,_=>rfl
 | _::ts,us,d,e=>congrArg (Prod.mk d.1) (Ei ts us d.2 e)
theorem JS: ∀(ts us:List Ty) (d:jX ts) (e:jX us),hSnd ts us (AN ts us d e)=e
 | [],_,_,_=>rfl
 | _::ts,us,d,e=>JS ts us d.2 e
def AO (tt:TT) (s:Sg):List ResultVar->Option (List AV)
 | [] =>some []
 | r::rs=>(VO tt s r).bind fun v=>(AO tt s rs).bind fun vs=>some (v::vs)
def H9 (s:Sg):List AV->List Hdr
 | [] =>[]
 | v::vs=>AC v++H9 s vs
def zF:List Ent->List Hdr
 | [] =>[]
 | e::l=>match e.2.2 with
  | .hole _ _ _ _ _ _ _ _ _ _=>e.1::zF l
  | _=>zF l
def XT:List AV->List (Bool×Hdr)
 | [] =>[]
 | v::vs=>aau true v++XT vs
def Gj (tr:Trs) (vs:List AV) (s:Sg):Sg:=match tr with
 | [] =>s
 | _=>QN (N4 tr) (XT vs) s
def RG (tr:Trs) (vs:List AV) (s0:Sg):Sg:=match Gj tr vs s0 with
 | s=>wj (H9 s0 vs++zF s.chs) s
def nlN:List AV->(ts:List Ty)->jX ts->Int
 | [.one (.own _)],[.sl _ t],d=>((List.length (α:=t.den) d.1:Nat):Int)
 | [.one (.val v)],[.sl _ _],_=>match isNil v with
  | true=>1
  | false=>0
 | _,_,_=>0
def XU (an:List (Nat×Ty)) (vs:List AV) (ts:List Ty) (d:jX ts):Option Unit:=match AB 1000000 an with
 | true=>chk (0<nlN vs ts d)
 | false=>some ()
theorem XV {vs:List AV} {ts:List Ty} {d:jX ts} {θ:Th} (h:0<nlN vs ts d) {v:Value} (hv:vs.map (·.v θ)= [v]):yB ts d v:=by
 unfold nlN at h
 split at h
 ·intro h0
  omega
 ·split at h
  ·rename_i h1
   intro _
   have:=nP h1
   subst this
   simpa [AV.v,LV.v] using hv.symm
  ·omega
 ·omega
def Ll (V:Env) (rvs:List ResultVar) (rs:List Ty) (ps:List PM) (d:denP ps) (s00:Sg):Option (dens (rs++outs ps)):=(AO V.tt s00 rvs).bind fun vs00=>QW vs00 s00 fun s0=>(AO V.tt s0 rvs).bind fun vs0=>match RG V.tr vs0 s0 with
 | s=>(AO V.tt s rvs).bind fun vs=>(H7 rs vs s.chs).bind fun r=>(eM ps.length 0 ps d r.2.2).bind fun o=>(XU V.an vs rs r.1).bind fun _=>some (ofH _ (AN rs (outs ps) r.1 o.1))
end R
namespace R
open Go.RowKit
open D
theorem CX {vs:List Value} : ∀ {ts:List Ty} {i:Nat} {us:List Value} {d:jX ts},us.length=ts.length->(∀j v,us[j]? =some v->vs[i+j]? =some v)->vT i ts d (.tuple vs.toArray)=xM ts us d
 | [],i,us,d,h,_=>by
  cases us with
  | nil=>rfl
  | cons _ _=>cases h
 | t::ts,i,[],d,h,_=>by cases h
 | t::ts,i,u::us,d,h,k=>by
  have h0:vg (.tuple vs.toArray) [i] =u:=by
   show vs.toArray.getD i undef=u
   have:=k 0 u rfl
   rw[Nat.add_zero] at this
   simp[Array.getD_eq_getD_getElem?,this]
  show Ch.own t.rep (jY t.isProd (vg (.tuple vs.toArray) [i])) d.1::vT (i+1) ts d.2 _=Ch.own t.rep (jY t.isProd u) d.1::xM ts us d.2
  rw[h0,CX (us:=us) (by simpa using h) fun j v hj=>by
   have:=k (j+1) v (by simpa using hj)
   rwa [show i+(j+1)=i+1+j from by omega] at this]
theorem Lm {ts:List Ty} {vs:List Value} {d:jX ts} (h:vs.length=ts.length):resGv ts d (Zd vs)=xM ts vs d:=by
 match ts,vs,d,h with
 | [],[],d,_=>rfl
 | [t],[v],d,_=>rfl
 | t::u::ts,v::w::vs,d,h =>
  show vT 0 _ d (.tuple (v::w::vs).toArray)=_
  exact CX h fun j x hj=>by rw[Nat.zero_add];exact hj
theorem RH {ts:List Ty} {vs:List Value} (h:vs.length=ts.length) (k: ∀(i:Nat) t v,ts[i]? =some t->vs[i]? =some v->oz v=t.isProd):resFa ts (Zd vs):=by
 match ts,vs,h with
 | [],[],_=>exact ⟨#[],rfl,rfl,fun i t ht=>by simp at ht⟩
 | [t],[v],_=>exact k 0 t v rfl rfl
 | t::u::ts,v::w::vs,h =>
  refine ⟨(v::w::vs).toArray,rfl,by simpa using h,fun i t' ht=>?_⟩
  have hlt:i<(v::w::vs).length:=by rw[h];exact (List.getElem?_eq_some_iff.1 ht).1
  have:=k i t' ((v::w::vs)[i]) ht (List.getElem?_eq_getElem hlt)
  rw[<-this,Array.getD_eq_getD_getElem?,List.getElem?_toArray,List.getElem?_eq_getElem hlt];rfl
theorem wq {P:Program} {I:Hp} {w0 w:World} {F:Ch} {J:Hp} {θ:Th} {n:Nat} {s:Sg} {a:Act} {tt:TT} (hT:TTok P tt) (hS:Sim P I w0 F n J θ s a w): ∀ {rs:List ResultVar} {vs:List AV},AO tt s rs=some vs->JR P a w rs (vs.map (·.v θ))/\ ∀v∈vs,v.ok P w0 J θ s.nxt s.chs
 | [],vs,h=>by
  obtain rfl:=af (show some [] =some vs from h)
  exact ⟨rfl,fun v hv=>by cases hv⟩
 | r::rs,vs,h=>by
  obtain ⟨v,hv',h⟩:=bind_some (show (VO tt s r).bind _=some vs from h)
  obtain ⟨us,hus,h⟩:=bind_some h
  obtain rfl:=af h
  obtain ⟨k1,k2⟩:=RF hT hS hv'
  obtain ⟨q1,q2⟩:=wq hT hS hus
  refine ⟨⟨_,_,rfl,k1,q1⟩,fun x hx=>?_⟩
  rcases aD hx with rfl | hx
  ·exact k2
  ·exact q2 x hx
theorem Oo {J:Hp} {a b c d:List Ch} (h:oq J a b) (k:oq J c d):oq J (a++c) (b++d):=fun w F hs=>by
 obtain ⟨G,K,rfl,e1,e2⟩:=hs.split
 exact (h w G e1).append (k w K e2)
theorem St.sepTo {J:Hp} {w0 w:World} {a b C:List Ch} (h:St J w0 w (a++C)) (k:oq J a b):St J w0 w (b++C):=by
 obtain ⟨h1,h2,F,h3,h4,h5⟩:=h
 obtain ⟨G,K,rfl,e1,e2⟩:=h3.split
 exact ⟨h1,h2,G++K,(k w G e1).append e2,h4,h5⟩
theorem xN {P:Program} {n:Nat} {I:Hp} {w0:World} {k:FuncId} {fn:Func} {c:Code} {args:Array Value} {rn:List Ch} {fact:Value->Prop} {gv:Value->List Ch} (L:List (Nat×Value)) (hf:P.funcs[k]? =some fn) (hb:fn.body=some c) (hn:fn.ntmps=n) (hm:args.size<=n) (hL: ∀p∈L,args[p.1]? =some p.2)
  (h: ∀F w a,Agr n a L->St I w0 w (rn++ [F])->c.wp P (bodyPost P fn fun e w'=> ∃v,e= .returned v/\fact v/\ ∃J,I.le J/\St J w0 w' (gv v++ [F])) a w) (hd: ∀v,Ch.back (gv v)):Con P k args I w0 rn fact gv:=by
 intro w C hs
 have hs':St I w0 w (rn++ [Ch.fr I C]):=by
  obtain ⟨hb,hi,F,h1,h2,h3⟩:=hs
  obtain ⟨G,K,rfl,e1,e2⟩:=h1.split
  exact ⟨hb,hi,G++K,e1.append ⟨K,[],by simp,e2,rfl⟩,h2,h3⟩
 have:=h (Ch.fr I C) w { tmps:=args++Array.replicate (fn.ntmps - args.size) undef,defers:=[] } (Agr.start L (by omega) hL) hs'
 refine (calls_of_wp hf hb this).mono ?_
 rintro e w' ⟨v,rfl,hv,J,hJ,hs⟩
 exact ⟨v,rfl,hv,hs.back hJ (hd v)⟩
theorem RI {P:Program} {I:Hp} {w0 w:World} {F:Ch} {n:Nat} {J:Hp} {θ:Th} {s:Sg} {a:Act} {tr:Trs} {vs:List AV} (hS:Sim P I w0 F n J θ s a w): ∃J' θ',J.le J'/\Sim P I w0 F n J' θ' (RG tr vs s) a w/\Fr s θ (RG tr vs s) θ':=by
 have key: ∃J' θ',J.le J'/\Sim P I w0 F n J' θ' (Gj tr vs s) a w/\Fr s θ (Gj tr vs s) θ':=by
  unfold Gj
  split
  ·exact ⟨J,θ,Hp.le.rfl,hS,Fr.rfl⟩
  ·exact uW hS
 obtain ⟨J',θ',h1,h2,h3⟩:=key
 obtain ⟨S2,F2⟩:=tw (V:=⟨[],[],[],n,[]⟩) (hs:=H9 s vs++zF (Gj tr vs s).chs) h2
 exact ⟨J',θ',h1,S2,h3.trans F2⟩
theorem Tq {V:Env} {P:Program} {w0:World} {F:Ch} {J:Hp} {θ:Th} (hT:TTok P V.tt) {fn:Func} {rs:List Ty} {ps:List PM} {d:denP ps} {vs:List Value} {s0:Sg} (k0:vs.length=ps.length) (k5:StF P w0 J θ (ps.length+1) 0 ps vs d) (hn0:ps.length+1<=s0.nxt) {γ:Value} (hγ:θ ps.length=γ): ∀r J' θ' s' a' w',Ll V fn.results.toList rs ps d s'=some r->Sim P J w0 F V.n J' θ' s' a' w'->J.le J'->Fr s0 θ s' θ'->
  bodyPost P fn (fun e w'=> ∃v,e= .returned v/\(resFa rs v/\(AB 1000000 V.an=true->yB rs (hFst rs (outs ps) (toH _ r)) v))/\ ∃J2,J.le J2/\St J2 w0 w' ((resGv rs (hFst rs (outs ps) (toH _ r)) v++outCh γ ps vs (hSnd rs (outs ps) (toH _ r)))++ [F])) .ret a' w':=by
 intro r J' θ' s' a' w' hrt hS' hJ hFr
 obtain ⟨vs00,hv00,hrt⟩:=bind_some (show (AO V.tt s' fn.results.toList).bind _=some r from hrt)
 obtain ⟨s0',hrt,S0,N0⟩:=Jy hrt (wq hT hS' hv00).2 hS'
 obtain ⟨vs0,hv0,hrt⟩:=bind_some hrt
 obtain ⟨J1,θ1,hJ1,S1,F1⟩:=RI (tr:=V.tr) (vs:=vs0) S0
 generalize RG V.tr vs0 s0'=s1 at hrt S1 F1
 have hle:s0.nxt<=s'.nxt:=hFr.1
 have hsame:Same (ps.length+1) θ θ1:=fun i hi=>(F1.same i (by omega)).trans (hFr.same i (by omega))
 replace hJ:=hJ.trans hJ1
 clear hJ1 F1 hS' S0 hFr
 revert J1 θ1
 clear J' θ'
 intro J' θ' S1 hsame hJ
 obtain ⟨us,hus,hrt⟩:=bind_some hrt
 obtain ⟨q,hq,hrt⟩:=bind_some hrt
 obtain ⟨o,ho,hrt⟩:=bind_some hrt
 obtain ⟨u0,hnl,hrt⟩:=bind_some hrt
 obtain rfl:=af hrt
 obtain ⟨r1,r2⟩:=wq hT S1 hus
 obtain ⟨t1,t2,t3,t4⟩:=CW (J:=J') (θ:=θ') hq r2
 obtain ⟨o1,o2⟩:=eR (P:=P) (J:=J) (J':=J') (θ:=θ) (θ':=θ') (vs:=vs) (n:=ps.length+1) (n':=s1.nxt) (chs0:=s1.chs) hJ hsame (aF _) hγ ho k0 k5 fun e he=>S1.fine.chs e (t1.mem_iff.2 (by simp[he]))
 have hl:(us.map (·.v θ')).length=rs.length:=by rw[List.length_map];exact t2
 refine XS S1.agr r1 ⟨_,rfl,⟨RH hl fun i t v ht hv1=>?_,fun han=>?_⟩,J',hJ,?_⟩
 ·rw[List.getElem?_map] at hv1
  obtain ⟨x,hx,rfl⟩:=Option.map_eq_some_iff.1 hv1
  exact t4 i t x ht hx
 ·rw[H8,Ei]
  unfold XU at hnl
  rw[han] at hnl
  have hnl:0<nlN us rs q.1:=bV hnl
  rcases us with _ | ⟨x,us⟩
  ·cases hnl
  ·cases us with
   | nil=>exact XV (θ:=θ') hnl rfl
   | cons y us=>unfold nlN at hnl;split at hnl <;> first | omega | simp_all
 ·rw[H8,Ei,JS,Lm hl]
  have hp:=t1.trans (o1.append_left _)
  have h1:=S1.st.perm ((hp.map (toCh P θ')).append_right [F])
  have h2:St J' w0 w' ((q.2.1.map (toCh P θ')++o.2.1.map (toCh P θ'))++(o.2.2.map (toCh P θ')++ [F])):=by
   simpa [aN,al] using h1
  have h3:=St.sepTo h2 (Oo t3 o2)
  refine St.left (ds:=o.2.2.map (toCh P θ')) (h3.perm ?_)
  simp only[al]
  exact List.Perm.append_left _ (List.Perm.append_left _ List.perm_append_comm)
theorem Ia {V:Env} {P:Program} (hT:TTok P V.tt) (hF:FTok P V.ft) (hmx:P.follows .mixedOrders=true) {k:FuncId} {fn:Func} {c:Code} {f:FS} (hf:P.funcs[k]? =some fn) (hb:fn.body=some c) (hn:fn.ntmps=V.n) (hen:Enters P k) (hm:f.ps.length<=V.n) (hdp:(DX f.rs&&v8 f.ps)=true) (ann:Ann)
  (hmod: ∀d,appP f.ps f.m d=j4 V (Ll V fn.results.toList f.rs f.ps d) c ann (fun r=>some r) (fun _ _=>none) (Ll V fn.results.toList f.rs f.ps d) (q7 (yJ f.ps d))): ∀w0 J γ vs (d:denP f.ps) r,Lay P J->PArgs P w0 J γ f.ps vs d->appP f.ps f.m d=some r->Con P k vs.toArray J w0 (owCh γ f.ps vs d) (fun v=>resFa f.rs v/\(AB 1000000 V.an=true->yB f.rs (hFst f.rs (outs f.ps) (toH _ r)) v)) (fun v=>resGv f.rs (hFst f.rs (outs f.ps) (toH _ r)) v++outCh γ f.ps vs (hSnd f.rs (outs f.ps) (toH _ r))):=by
 rw[ak] at hdp
 intro w0 J γ vs d r hlay ha hr
 rw[hmod] at hr
 have k0:=Gi ha
 let θ:Th:=fun i=>if i=vs.length then γ else vs.getD i undef
 have hθ: ∀j v,vs[j]? =some v->θ (0+j)=v:=fun j v hj=>by
  show (if 0+j=vs.length then γ else vs.getD (0+j) undef)=v
  rw[Nat.zero_add,if_neg (Nat.ne_of_lt (List.getElem?_eq_some_iff.1 hj).1),List.getD_eq_getElem?_getD,hj];rfl
 have hθg:θ f.ps.length=γ:=by
  show (if f.ps.length=vs.length then γ else _)=γ
  rw[if_pos k0.symm]
 have hzip: ∀p∈(vs.zipIdx.map fun q=>(q.2,q.1)),vs.toArray[p.1]? =some p.2:=fun p hp=>by
  obtain ⟨q,hq,rfl⟩:=List.mem_map.1 hp
  obtain ⟨v,j⟩:=q
  have:=(List.mk_mem_zipIdx_iff_getElem? (x:=v) (i:=j)).1 hq
  simpa using this
 refine xN (n:=V.n) (vs.zipIdx.map fun q=>(q.2,q.1)) hf hb hn (by rw[List.size_toArray,k0];exact hm) hzip (fun F w a hA hst=>?_) (fun v=>xE (eL _ _ _ hdp.2) _ _ hdp.1)
 ·obtain ⟨k1,k2,k3,k4,k5⟩:=JQ (n:=f.ps.length+1) (q:=f.ps.length) (C:=[F]) (aF _) hθg ha hθ (by omega) hst
  have hfine:Fine P w0 J θ (yJ f.ps d):=⟨fun e he=>(k1 e he).1 _,fun e he=>by have:=k1 e he;show e.2.1<f.ps.length+1;omega,k2,fun e he=>k4 e he _,hlay⟩
  have hA':Agr V.n a (envL θ (yJ f.ps d)):=hA.pick _ fun p hp=>by
   obtain ⟨e,he,rfl⟩:=List.mem_map.1 hp
   have h5:=(k1 e he).2.2.2.2
   rw[Nat.sub_zero] at h5
   have key: ∀(l:List Value) (k:Nat) (i:Nat) (v:Value),k<=i->l[i - k]? =some v->((l.zipIdx k).map fun q=>(q.2,q.1)).lookup i=some v:=by
    intro l
    induction l with
    | nil=>intro k i v _ h;simp at h
    | cons x l ih =>
     intro k i v hk h
     simp only[List.zipIdx_cons,List.map_cons,List.lookup_cons]
     by_cases e:i=k
     ·subst e
      simp at h
      simp[h]
     ·have:(i==k)=false:=by simpa using e
      rw[this]
      refine ih (k+1) i v (by omega) ?_
      rw[show i - k=(i - (k+1))+1 from by omega] at h
      simpa using h
   exact key vs 0 e.1 _ (Nat.zero_le _) h5
  have hS:Sim P J w0 F V.n J θ (yJ f.ps d) a w:=⟨Hp.le.rfl,hA',k3,hfine⟩
  have fin:=Tq (rs:=f.rs) (fn:=fn) (F:=F) hT k0 k5 (aG (yJ f.ps d).nxt) hθg
  obtain ⟨θ0,hS0,hFr0⟩:=zx hS
  exact (uZ (I:=J) (w0:=w0) (F:=F) hT hF hmx c).1 ann hr hS0 (fun J' θ' s' a' w' hk S' hJ hFr=>fin r J' θ' s' a' w' hk S' hJ (hFr0.trans hFr)) (fun i J' θ' s' a' w' hk=>by cases hk) (fun r' J' θ' s' a' w' hrt hrr hS' hJ hFr=>by
   obtain rfl:=af hrr
   exact fin _ J' θ' s' a' w' hrt hS' hJ (hFr0.trans hFr))
theorem fok {V:Env} {P:Program} (hT:TTok P V.tt) (hF:FTok P V.ft) (hmx:P.follows .mixedOrders=true) {k:FuncId} {fn:Func} {c:Code} {f:FS} (hf:P.funcs[k]? =some fn) (hb:fn.body=some c) (hn:fn.ntmps=V.n) (hen:Enters P k) (hcl:f.cl=none) (hm:f.ps.length<=V.n) (hdp:(DX f.rs&&v8 f.ps)=true) (ann:Ann)
  (hmod: ∀d,appP f.ps f.m d=j4 V (Ll V fn.results.toList f.rs f.ps d) c ann (fun r=>some r) (fun _ _=>none) (Ll V fn.results.toList f.rs f.ps d) (q7 (yJ f.ps d))):FOk P k f:=
 ⟨fun q hq=>by (rw[hcl] at hq;cases hq),fun _=>hen,fun _ w0 J γ vs d r hlay ha hr w C hs=>(Ia hT hF hmx hf hb hn hen hm hdp ann hmod w0 J γ vs d r hlay ha hr w C hs).mono fun e w' ⟨v,h1,h2,h3⟩=>⟨v,h1,h2.1,h3⟩⟩
theorem aaW {V:Env} {P:Program} (hT:TTok P V.tt) (hF:FTok P V.ft) (hmx:P.follows .mixedOrders=true) {k:FuncId} {fn:Func} {c:Code} {f:FS} (hf:P.funcs[k]? =some fn) (hb:fn.body=some c) (hn:fn.ntmps=V.n) (hen:Enters P k) (hcl:f.cl=some (0,7)/\AB 1000000 V.an=true) (hm:f.ps.length<=V.n) (hdp:(DX f.rs&&v8 f.ps)=true) (ann:Ann)
  (hmod: ∀d,appP f.ps f.m d=j4 V (Ll V fn.results.toList f.rs f.ps d) c ann (fun r=>some r) (fun _ _=>none) (Ll V fn.results.toList f.rs f.ps d) (q7 (yJ f.ps d))):FOk P k f:=
 ⟨fun q hq=>by
  rw[hcl.1] at hq
  obtain rfl:=af hq
  exact ⟨⟨fun e=>(by cases e),fun _ e=>(by cases e),fun e=>(by cases e)⟩,(fun _ w0 J γ vs d r hlay ha hr w C hs=>(Ia hT hF hmx hf hb hn hen hm hdp ann hmod w0 J γ vs d r hlay ha hr w C hs).mono fun e w' ⟨v,h1,h2,h3⟩=>⟨v,h1,⟨h2.1,h2.2 hcl.2⟩,h3⟩),fun e=>(by cases e)⟩,fun _=>hen,fun _ w0 J γ vs d r hlay ha hr w C hs=>(Ia hT hF hmx hf hb hn hen hm hdp ann hmod w0 J γ vs d r hlay ha hr w C hs).mono fun e w' ⟨v,h1,h2,h3⟩=>⟨v,h1,h2.1,h3⟩⟩
theorem JT {V:Env} {P:Program} (hT:TTok P V.tt) (hF:FTok P V.ft) (hmx:P.follows .mixedOrders=true) {k:FuncId} {fn:Func} {c:Code} {E b:Nat} (hf:P.funcs[k]? =some fn) (hb:fn.body=some c) (hn:fn.ntmps=V.n) (hen:Enters P k) (hm:1<=V.n) (ann:Ann)
  (hmod: ∀(E':TypeId) (bn:Bool) (xs:List Raw),(match bn with | true=>some ([] :List Raw) | false=>(bM b [] xs).bind fun zs=>some zs)=j4 V (Ll V fn.results.toList [.sl E .raw] [] ()) c ann (fun r=>some r) (fun _ _=>none) (Ll V fn.results.toList [.sl E .raw] [] ()) ⟨[(0,0,.one (.rdn ⟨0,[]⟩ bn (.sl E' .raw) xs))],[],1⟩):xB P k E b:=by
 refine ⟨hen,fun E' J w0 v xs zs hlay hrd AN=>?_⟩
 obtain ⟨bn,hbn⟩: ∃bn,CE v=bn:=⟨_,rfl⟩
 have hr:j4 V (Ll V fn.results.toList [.sl E .raw] [] ()) c ann (fun r=>some r) (fun _ _=>none) (Ll V fn.results.toList [.sl E .raw] [] ()) ⟨[(0,0,.one (.rdn ⟨0,[]⟩ bn (.sl E' .raw) xs))],[],1⟩=some zs:=by
  rw[<-hmod E' bn xs]
  cases bn with
  | false =>
   show (bM b [] xs).bind _=_
   rw[AN];rfl
  | true =>
   obtain ⟨h1,-⟩:=D2 AN
   obtain ⟨ao,cap,e,-,hx⟩:=hrd
   obtain rfl:v= .slice ao xs.length cap:=by simpa using e
   rcases hx with rfl | ⟨b,off,ccs,t,fr,rfl,-⟩
   ·rw[h1];rfl
   ·cases hbn
 let θ:Th:=fun _=>v
 have key:Con P k #[v] J w0 [] (fun v=>resFa [.sl E .raw] v/\(AB 1000000 V.an=true->yB [.sl E .raw] (zs,()) v)) (fun v=>resGv [.sl E .raw] (zs,()) v++ []):=by
  refine xN (n:=V.n) [(0,v)] hf hb hn hm (fun p hp=>by obtain rfl:=aw hp;rfl) (fun F w a hA hst=>?_) (fun u=>xE (D:=[]) trivial [.sl E .raw] (zs,()) rfl)
  have hfine:Fine P w0 J θ ⟨[(0,0,.one (.rdn ⟨0,[]⟩ bn (.sl E' .raw) xs))],[],1⟩:=⟨fun e he=>by obtain rfl:=aw he;exact ⟨Nat.one_pos,hrd,hbn⟩,fun e he=>by obtain rfl:=aw he;exact Nat.one_pos,List.pairwise_singleton _ _,fun e he=>(by cases he),hlay⟩
  have hS:Sim P J w0 F V.n J θ ⟨[(0,0,.one (.rdn ⟨0,[]⟩ bn (.sl E' .raw) xs))],[],1⟩ a w:=⟨Hp.le.rfl,hA,hst,hfine⟩
  have fin:=Tq (V:=V) (θ:=θ) (J:=J) (w0:=w0) (rs:=[.sl E .raw]) (ps:=[]) (d:=()) (vs:=[]) (s0:=⟨[(0,0,.one (.rdn ⟨0,[]⟩ bn (.sl E' .raw) xs))],[],1⟩) (fn:=fn) (F:=F) hT rfl trivial (aG _) (γ:=θ 0) rfl
  exact (uZ (I:=J) (w0:=w0) (F:=F) hT hF hmx c).1 ann hr hS (fun J' θ' s' a' w' hk S' hJ hFr=>fin _ J' θ' s' a' w' hk S' hJ hFr) (fun i J' θ' s' a' w' hk=>by cases hk) (fun r' J' θ' s' a' w' hrt hrr hS' hJ hFr=>by
   obtain rfl:=af hrr
   exact fin _ J' θ' s' a' w' hrt hS' hJ hFr)
 exact fun w C hs=>(key w C hs).mono fun e w' ⟨v,h1,h2,h3⟩=>⟨v,h1,trivial,h3⟩
theorem ku {P:Program} {k:FuncId} {f:FS} (h:Enters P k) (hc:f.cl=none) (hm: ∀d,appP f.ps f.m d=none):FOk P k f:=
 ⟨fun q hq=>by (rw[hc] at hq;cases hq),fun _=>h,fun _ _ _ _ _ d r _ _ hr=>by rw[hm d] at hr;cases hr⟩
theorem Gk {P:Program} {k:FuncId} {f:FS} {E b:Nat} (h:FOk P k ⟨f.ps,f.rs,f.m,none⟩) (hc:xB P k E b) (hb:Nat.beq b 0=false:=by rfl) (h7:Nat.beq b 7=false:=by rfl) (h8:Nat.ble 1000 b=false:=by rfl) (h9:Nat.beq b 9=false:=by rfl):FOk P k ⟨f.ps,f.rs,f.m,some (E,b)⟩:=
 ⟨fun q hq=>by obtain rfl:=af hq;exact ⟨⟨fun e=>(by rw[hb] at e;cases e),fun _ _ _ _=>hc,fun e=>(by rw[h8] at e;cases e)⟩,fun e=>(by rw[h7] at e;cases e),fun e=>(by rw[h9] at e;cases e)⟩,fun _=>h.en rfl,fun _=>h.con rfl⟩
end R
namespace R
open Go.RowKit
open D
end R
namespace R
open Go.RowKit
open D
def rtN (V:Env) (rvs:List ResultVar) (T:TypeId) (s:Sg):Option (Int×Int):=(AO V.tt s rvs).bind fun vs=>match vs with
 | [.one (.ptr h off)] =>bW (Nat.beq off 0) ((tZ h s.chs).bind fun b=>bW (Nat.beq b.T T) (match b.cells with
  | [.rd g _ _,.val (.int .i64 x),.val (.int .i64 y)] =>bW (Hdr.beq g ⟨0,[]⟩) (some (x,y))
  | _=>none))
 | _=>none
theorem XW {V:Env} {P:Program} (hT:TTok P V.tt) (hF:FTok P V.ft) (hmx:P.follows .mixedOrders=true) {k:FuncId} {fn:Func} {c:Code} {E T:Nat} {t:Ty} {m:List t.den->Option (Int×Int)} (hf:P.funcs[k]? =some fn) (hb:fn.body=some c) (hn:fn.ntmps=V.n) (hen:Enters P k) (hm:1<=V.n) (ann:Ann)
  (hmod: ∀xs:List t.den,m xs=j4 V (rtN V fn.results.toList T) c ann (fun r=>some r) (fun _ _=>none) (rtN V fn.results.toList T) ⟨[(0,0,.one (.rd ⟨0,[]⟩ (.sl E t) xs))],[],1⟩):NewOk P k T ⟨[.rd (.sl E t)],[.int .i64,.int .i64],m,some (T,9)⟩:=by
 refine ⟨hen,fun w0 J γ vs d r ns hlay ha AN hns=>?_⟩
 obtain ⟨v,vs',rfl,hd,hnil⟩:=ha
 obtain rfl:vs'= []:=hnil
 obtain ⟨xs,u⟩:=d
 obtain ⟨cs,hcs,hrd⟩:=hd
 obtain rfl:cs= [v]:=hcs
 obtain ⟨x,y⟩:=r
 have hr:=hmod xs
 rw[show m xs=some (x,y) from AN] at hr
 obtain rfl: [x,y] =ns:=af hns
 let θ:Th:=fun _=>v
 refine xN (n:=V.n) [(0,v)] hf hb hn hm (fun p hp=>by obtain rfl:=aw hp;rfl) (fun F w a hA hst=>?_) (fun u=>Ch.back_deeps ⟨SD,trivial⟩)
 have hfine:Fine P w0 J θ ⟨[(0,0,.one (.rd ⟨0,[]⟩ (.sl E t) xs))],[],1⟩:=⟨fun e he=>by obtain rfl:=aw he;exact ⟨Nat.one_pos,hrd⟩,fun e he=>by obtain rfl:=aw he;exact Nat.one_pos,List.pairwise_singleton _ _,fun e he=>(by cases he),hlay⟩
 have hS:Sim P J w0 F V.n J θ ⟨[(0,0,.one (.rd ⟨0,[]⟩ (.sl E t) xs))],[],1⟩ a w:=⟨Hp.le.rfl,hA,hst,hfine⟩
 have fin: ∀r J' θ' s' a' w',rtN V fn.results.toList T s'=some r->Sim P J w0 F V.n J' θ' s' a' w'->J.le J'->Fr ⟨[(0,0,.one (.rd ⟨0,[]⟩ (.sl E t) xs))],[],1⟩ θ s' θ'->
   bodyPost P fn (fun e w'=> ∃u,e= .returned u/\(∃b,u= .pointer (some ⟨b,0,none⟩))/\ ∃J2,J.le J2/\St J2 w0 w' ([Ch.blk (bk u) ([v] ++ [r.1,r.2].map (Value.int .i64)) T] ++ [F])) .ret a' w':=by
  intro r J' θ' s' a' w' hrt S' hJ hFr
  obtain ⟨us,hus,hrt⟩:=bind_some hrt
  obtain ⟨r1,r2⟩:=wq hT S' hus
  split at hrt
  ·rename_i h off
   obtain ⟨ho,hrt⟩:=aq hrt
   obtain rfl:off=0:=ay ho
   obtain ⟨b,hb',hrt⟩:=bind_some hrt
   obtain ⟨hT',hrt⟩:=aq hrt
   have hT':b.T=T:=ay hT'
   split at hrt
   ·rename_i g ty d p q hcells
    obtain ⟨hg,hrt⟩:=aq hrt
    obtain rfl:=Hdr.beq_eq hg
    obtain rfl:=af hrt
    refine XS S'.agr r1 ⟨_,rfl,⟨bk (hv θ' h),rfl⟩,J',hJ,?_⟩
    have h1:=S'.st.perm (((lz hb').map (toCh P θ')).append_right [F])
    have e0:hv θ' ⟨0,[]⟩=v:=by
     show vg (θ' 0) [] =v
     rw[hFr.same 0 Nat.one_pos];rfl
    have h2:St J' w0 w' (Ch.blk (bk (hv θ' h)) (b.cells.map (·.v θ')) b.T::(b.rest.map (toCh P θ')++ [F])):=h1
    rw[hcells,hT'] at h2
    have h3:St J' w0 w' ([Ch.blk (bk (hv θ' h)) [hv θ' ⟨0,[]⟩,.int .i64 p,.int .i64 q] T] ++ [F] ++b.rest.map (toCh P θ')):=h2.perm ((List.perm_append_comm).cons _)
    rw[e0] at h3
    exact h3.left
   ·cases hrt
  ·cases hrt
 exact (uZ (I:=J) (w0:=w0) (F:=F) hT hF hmx c).1 ann hr.symm hS (fun J' θ' s' a' w' hk S' hJ hFr=>fin _ J' θ' s' a' w' hk S' hJ hFr) (fun i J' θ' s' a' w' hk=>by cases hk) (fun r' J' θ' s' a' w' hrt hrr hS' hJ hFr=>by
  obtain rfl:=af hrr
  exact fin _ J' θ' s' a' w' hrt hS' hJ hFr)
theorem VS {P:Program} {k:FuncId} {f:FS} {T:Nat} (hc:NewOk P k T f) (hcl:f.cl=some (T,9)):FOk P k f:=by
 have ho:f.ov=true:=by unfold FS.ov;rw[hcl];rfl
 refine ⟨fun q hq=>?_,fun e=>(by rw[ho] at e;cases e),fun e=>(by rw[ho] at e;cases e)⟩
 rw[hcl] at hq
 obtain rfl:=af hq
 exact ⟨⟨fun e=>(by cases e),fun _ _ _ e=>(by cases e),fun e=>(by cases e)⟩,fun e=>(by cases e),fun _=>hc⟩
end R
namespace R
open Go.RowKit Go.Shelf Go.Sort
open D
abbrev PT:Ty:=.prod (.int .i64) (.int .i64)
def ze (x:Int×Int):List Value:=[.int .i64 x.1,.int .i64 x.2]
theorem JU (x:Int×Int):(ze x).length=2:=rfl
theorem RJ (x:Int×Int): ∀v∈ze x,v.oneCell'=true:=by
 intro v hv
 simp only[ze,List.mem_cons,List.not_mem_nil,or_false] at hv
 rcases hv with rfl | rfl <;> rfl
def Ln (cf:Int×Int->Int×Int->Int) (xs:List (Int×Int)):List (Int×Int):=xs.mergeSort fun x y=> !(ltOf cf) y x
def RK (cf:Int×Int->Int×Int->Int) (xs:List (Int×Int)):Option (List (Int×Int)):=(chk (xs.length<4611686018427387904)).bind fun _=>some (Ln cf xs)
theorem Gl (cf:Int×Int->Int×Int->Int) (xs:List (Int×Int)):(Ln cf xs).length=xs.length:=List.length_mergeSort _
theorem St.grown {I:Hp} {w0 w:World} {cs:List Ch} (h:St I w0 w cs) (os:Array Obj):St I w0 (grow w os) cs:=by
 refine St.step (w:=w) (c:=[]) (c':=[]) h rfl rfl rfl (by simp[grow]) ?_
 rintro F rfl - -
 exact ⟨fun b hb _=>heap_grow_old w os hb,[],rfl,List.nodup_nil,by simp⟩
theorem Oq (d:Array (Int×Int)) {i j:Nat} {z:Int×Int} (h:d.toList[i]? =some z) (hj:j<2):(flatK ze 2 d)[i*2+j]? =(ze z)[j]? :=by
 have hi:i<d.size:=by
  rcases Nat.lt_or_ge i d.size with c | c
  ·exact c
  ·rw[List.getElem?_eq_none (by simpa using c)] at h;cases h
 have hlt:i*2+j<d.size*2:=by omega
 have hb:=get_flatK ze 2 d (i*2+j) hlt
 have hs:i*2+j<(flatK ze 2 d).size:=by rw[size_flatK];exact hlt
 rw[getElem!_pos (flatK ze 2 d) _ hs] at hb
 rw[Array.getElem?_eq_getElem hs,hb,show (i*2+j) / 2=i from by omega,show (i*2+j) % 2=j from by omega]
 have hz:d[i]! =z:=by
  rw[getElem!_pos d _ hi]
  rw[List.getElem?_eq_getElem (by simpa using hi)] at h
  simpa using af h
 rw[hz,getElem!_pos (ze z) _ (by rw[JU];exact hj),List.getElem?_eq_getElem]
theorem VT {I:Hp} {c:List Value} {x:Int×Int} (h:PT.rep.rd I c x):c=ze x:=by
 obtain ⟨c1,c2,rfl,h1,h2⟩:=h
 obtain rfl:c1= [_]:=h1
 obtain rfl:c2= [_]:=h2
 rfl
theorem VU {I:Hp} (x:Int×Int):PT.rep.rd I (ze x) x:=⟨[_],[_],rfl,rfl,rfl⟩
theorem Ot {P:Program} {ρ:Ren} (L:SlLaysF0.n6 P ρ) (aE: ∀w,(isAgg (ρ.t 24)).run P w= .ok true w) (zE: ∀w,(Go.sizeOf (ρ.t 24)).run P w= .ok 2 w) {cf:Int×Int->Int×Int->Int} (hO:SWO (ltOf cf)) (hT: ∀x y,(ltOf cf) x y=false->(ltOf cf) y x=false->x=y) {g:FuncId} (eg:Enters P g) (hcmp: ∀blk off size w,CmpLays P g #[] ze 2 cf blk off size w) (en:Enters P (ρ.f 6)) (E:TypeId) :
  FOk P (ρ.f 6) ⟨[.ow (.sl E PT),.fk g],[],fun xs _=>RK cf xs,none⟩:=by
 refine ⟨fun q hq=>(by cases hq),fun _=>en,fun _ w0 J γ vs d r hlay ha AN=>?_⟩
 obtain ⟨v,vs1,rfl,hd,v2,vs2,rfl,rfl,hnil⟩:=ha
 obtain rfl:vs2= []:=hnil
 obtain ⟨xs0,u1,un⟩:=d
 let xs:List (Int×Int):=xs0
 let zs:List (Int×Int):=r
 have AN:RK cf xs=some zs:=AN
 obtain ⟨u1,hc,hz⟩:=Option.bind_eq_some_iff.1 AN
 have hc:=bV hc
 have hz:=af hz
 intro w C hst
 have hst:St J w0 w (Ch.own (aC E PT.rep) [v] xs::C):=hst
 clear AN
 rename_i happ0
 clear happ0 hd
 clear_value xs
 have hfin: ∀ {e:Ending} {w':World},(∃W,e= .returned (.tuple #[])/\w'=W/\St J w0 W (Ch.own (aC E PT.rep) [v] zs::C))-> ∃v':Value,e= .returned v'/\(∃vs:Array Value,v'= .tuple vs/\vs.size=0/\ ∀(i:Nat) (t:Ty),([] :List Ty)[i]? =some t->oz (vs.getD i undef)=t.isProd)/\St J w0 w' (Ch.own (aC E PT.rep) [v] zs::C):=by
  rintro e w' ⟨W,rfl,rfl,h⟩
  exact ⟨_,rfl,⟨#[],rfl,rfl,fun i t h=>(by simp at h)⟩,h⟩
 have hcase:(v= .slice none 0 0/\xs= [])\/ ∃g' ofs n cap,v= .slice (some ⟨g',ofs,none⟩) n cap:=by
  obtain ⟨hb,hi,F,⟨G,K,rfl,⟨hl,e2⟩,e3⟩,h4,h5⟩:=hst
  rcases e2 with ⟨hv,h1,_⟩ | ⟨g',ofs',cap',cur,K1,hv,_⟩
  ·exact .inl ⟨List.cons.inj hv |>.1,h1⟩
  ·exact .inr ⟨_,_,_,_,List.cons.inj hv |>.1⟩
 rcases hcase with ⟨rfl,hx⟩ | ⟨g',ofs,n,cap,rfl⟩
 ·refine (AnyF.slices_SortFunc_none L none 0 (.func (.func g) #[] #[]) w).mono fun e w' ⟨he,hw⟩=>hfin ⟨_,he,hw,?_⟩
  rw[<-hz,hx,show Ln cf [] = [] from List.mergeSort_nil ..]
  rw[hx] at hst
  exact hst
 ·obtain ⟨hn,h1,h2,cur,hg,hroom,hat⟩:=yF (R:=PT.rep) (k:=2) (Ty.sh_ok (t:=PT) rfl) rfl hst
  obtain rfl:=hn
  have hH:HoldsK ze 2 w g' ofs xs.toArray:=by
   intro j hj
   rw[size_flatK] at hj
   have hj:j<xs.length*2:=by simpa using hj
   have hi:j / 2<xs.length:=by omega
   obtain ⟨c,e1,e2,e3⟩:=hat (j / 2) _ (List.getElem?_eq_getElem hi)
   have hcj:=e2 (j % 2) (Nat.mod_lt _ (by omega))
   rw[show j / 2*2+j % 2=j from by omega,VT e3] at hcj
   have hf:=Oq xs.toArray (i:=j / 2) (j:=j % 2) (z:=xs[j / 2]) (by simpa using List.getElem?_eq_getElem hi) (Nat.mod_lt _ (by omega))
   rw[show j / 2*2+j % 2=j from by omega] at hf
   have hs:j<(flatK ze 2 xs.toArray).size:=by rw[size_flatK];simpa using hj
   refine ⟨?_,?_⟩
   ·unfold World.cell?
    simp only[hg]
    rw[List.getElem?_drop] at hcj
    rw[getElem!_pos (flatK ze 2 xs.toArray) _ hs,<-Array.getElem?_toList,hcj,<-hf,Array.getElem?_eq_getElem hs]
    rfl
   ·unfold World.frozen?
    simp only[hg]
    simp
  have hblk:g'<w.heap.size:=by
   rcases Nat.lt_or_ge g' w.heap.size with c | c
   ·exact c
   ·rw[Array.getElem?_eq_none c] at hg;cases hg
  have key:=AnyQ.slices_SortFunc_total L 2 aE zE ze JU RJ cf hO g #[] g' ofs cap xs.toArray w eg (hcmp _ _ _ _) hH hblk (by simpa using hc) hT
  rw[show xs.toArray.size=xs.length from List.size_toArray] at key
  refine key.mono ?_
  rintro e w' ⟨he,m,os,rfl⟩
  refine hfin ⟨_,he,rfl,?_⟩
  show St J w0 (grow (putRow id (Sort.ahead w m) g' ofs (flatK ze 2 (Ln cf xs).toArray)) os) _
  rw[hz]
  have hlen:zs.length=xs.length:=by rw[<-hz];exact Gl _ _
  have hfl:(flatK ze 2 zs.toArray).toList.length=(flatK ze 2 xs.toArray).size:=by rw[Array.length_toList,size_flatK,size_flatK];simp[hlen]
  have hq:=Go.Lib.putRow_eq_setCells id w g' ofs (flatK ze 2 xs.toArray) (flatK ze 2 zs.toArray).toList m hH hfl
  rw[Array.toArray_toList] at hq
  rw[hq,List.map_id]
  refine St.grown ?_ os
  have hst2:St J w0 (w.drewN m) (Ch.own (aC E PT.rep) [.slice (some ⟨g',ofs,none⟩) xs.length cap] xs::C):=hst.drawn rfl rfl rfl rfl
  have hcapz:zs.length<=cap:=by rw[hlen];exact h1
  have hlimz:zs.length<=lim:=by
   have:lim=2 ^ 63 - 1:=rfl
   have:maxLen=2 ^ 63 - 1:=rfl
   omega
  have hlt: ∀(i:Nat) (z:Int×Int),zs[i]? =some z->i<xs.length:=fun i z hi=>by
   rcases Nat.lt_or_ge i zs.length with c | c
   ·omega
   ·rw[List.getElem?_eq_none c] at hi;cases hi
  have hnw: ∀(i:Nat) (z:Int×Int),zs[i]? =some z-> ∀j,j<2->(flatK ze 2 zs.toArray).toList[(i - 0)*2+j]? =(ze z)[j]? :=fun i z hi j hj=>by
   rw[Nat.sub_zero,Array.getElem?_toList]
   exact Oq zs.toArray (by simpa using hi) hj
  have h3:=As (p:=0) (cnt:=xs.length) (zs:=zs) (news:=(flatK ze 2 zs.toArray).toList) (Ty.sh_ok (t:=PT) rfl) (Ty.cpy (t:=PT) rfl) (k:=2) rfl (by rw[hfl,size_flatK];simp) (by omega) hcapz hlimz (fun i z hi=>.inl ⟨Nat.zero_le _,(by have:=hlt i z hi;omega),ze z,rfl,hnw i z hi,VU z⟩) hst2
  rw[Nat.zero_mul,Nat.add_zero,show @List.length PT.den zs=xs.length from hlen] at h3
  exact h3
def cmpI (a b:Int):Int:=if a<b then -1 else if b<a then 1 else 0
def Lo (x y:Int×Int):Int:=if x.1=y.1 then cmpI x.2 y.2 else cmpI x.1 y.1
theorem Ou {a b:Int} :cmpI a b<0↔a<b:=by
 unfold cmpI
 split
 ·simp_all
 ·split <;> simp_all
theorem Ov {x y:Int×Int} :ltOf Lo x y=true↔x.1<y.1\/x.1=y.1/\x.2<y.2:=by
 unfold ltOf Lo
 rw[decide_eq_true_iff]
 split
 ·rw[Ou];omega
 ·rw[Ou];omega
theorem zG {x y:Int×Int} :ltOf Lo x y=false↔ ¬(x.1<y.1\/x.1=y.1/\x.2<y.2):=by
 rw[<-Ov,Bool.not_eq_true]
theorem RL:SWO (ltOf Lo) where
 irrefl x:=by rw[zG];omega
 trans x y z h k:=by rw[Ov] at *;omega
 ntrans x y z h k:=by rw[zG] at *;omega
theorem RM (x y:Int×Int) (h:ltOf Lo x y=false) (k:ltOf Lo y x=false):x=y:=by
 rw[zG] at h k
 exact Prod.ext (by omega) (by omega)
end R
namespace R
open Go.Shelf
def wt:Go.Shelf.Ren:=⟨fun | 6=>259 | 15=>303 | 14=>310 | 28=>334 | 29=>335 | 20=>338 | 21=>339 | 22=>340 | 23=>341 | 24=>342 | 25=>343 | 26=>344 | 27=>345 | 46=>359 | 47=>352 | 48=>353 | 49=>360 | 50=>361 | 57=>364 | n=>n,fun | 22=>55 | 24=>65 | 25=>125 | 3=>3 | 39=>226 | 0=>0 | 53=>345 | 55=>347 | 4=>4 | 46=>338 | 45=>337 | 50=>248 | 5=>5 | 9=>9 | 66=>361 | 70=>365 | 76=>369 | 77=>259 | n=>n,fun | n=>n⟩
theorem Cc:Go.Proofs.SlLaysF0.n6 Tryz.prog wt:= {
 mixed:=by kernel_rfl
 f6:=⟨Tryz.f259.name,by decide,Tryz.func259.trans (congrArg some (by kernel_rfl))⟩
 f14:=⟨Tryz.f310.name,by decide,Tryz.func310.trans (congrArg some (by kernel_rfl))⟩
 f15:=Tryz.func303.trans (congrArg some (by kernel_rfl))
 f20:=⟨Tryz.f338.name,by decide,Tryz.func338.trans (congrArg some (by kernel_rfl))⟩
 f21:=⟨Tryz.f339.name,by decide,Tryz.func339.trans (congrArg some (by kernel_rfl))⟩
 f22:=⟨Tryz.f340.name,by decide,Tryz.func340.trans (congrArg some (by kernel_rfl))⟩
 f23:=⟨Tryz.f341.name,by decide,Tryz.func341.trans (congrArg some (by kernel_rfl))⟩
 f24:=⟨Tryz.f342.name,by decide,Tryz.func342.trans (congrArg some (by kernel_rfl))⟩
 f25:=⟨Tryz.f343.name,by decide,Tryz.func343.trans (congrArg some (by kernel_rfl))⟩
 f26:=⟨Tryz.f344.name,by decide,Tryz.func344.trans (congrArg some (by kernel_rfl))⟩
 f27:=⟨Tryz.f345.name,by decide,Tryz.func345.trans (congrArg some (by kernel_rfl))⟩
 f28:=Tryz.func334.trans (congrArg some (by kernel_rfl))
 f29:=Tryz.func335.trans (congrArg some (by kernel_rfl))
 f46:=⟨Tryz.f359.name,by decide,Tryz.func359.trans (congrArg some (by kernel_rfl))⟩
 f47:=Tryz.func352.trans (congrArg some (by kernel_rfl))
 f48:=Tryz.func353.trans (congrArg some (by kernel_rfl))
 f49:=⟨Tryz.f360.name,by decide,Tryz.func360.trans (congrArg some (by kernel_rfl))⟩
 f50:=⟨Tryz.f361.name,by decide,Tryz.func361.trans (congrArg some (by kernel_rfl))⟩
 f57:=⟨Tryz.f364.name,by decide,Tryz.func364.trans (congrArg some (by kernel_rfl))⟩
 t0:=Tryz.underlying0
 a0:=Tryz.isAgg0
 z0:=Tryz.sizeOf0
 v0:=Tryz.zeroValue0
 t3:=Tryz.underlying3
 a3:=Tryz.isAgg3
 z3:=Tryz.sizeOf3
 v3:=Tryz.zeroValue3
 t4:=Tryz.underlying4
 a4:=Tryz.isAgg4
 z4:=Tryz.sizeOf4
 v4:=Tryz.zeroValue4
 t5:=Tryz.underlying5
 a5:=Tryz.isAgg5
 z5:=Tryz.sizeOf5
 v5:=Tryz.zeroValue5
 t9:=Tryz.underlying9
 a9:=Tryz.isAgg9
 z9:=Tryz.sizeOf9
 v9:=Tryz.zeroValue9
 t22:=Tryz.underlying55
 a22:=Tryz.isAgg55
 z22:=Tryz.sizeOf55
 v22:=Tryz.zeroValue55
 t25:=Tryz.underlying125
 a25:=Tryz.isAgg125
 z25:=Tryz.sizeOf125
 v25:=Tryz.zeroValue125
 t39:=Tryz.underlying226
 a39:=Tryz.isAgg226
 z39:=Tryz.sizeOf226
 v39:=Tryz.zeroValue226
 t45:=Tryz.underlying337
 a45:=Tryz.isAgg337
 z45:=Tryz.sizeOf337
 v45:=Tryz.zeroValue337
 t46:=Tryz.underlying338
 a46:=Tryz.isAgg338
 z46:=Tryz.sizeOf338
 v46:=Tryz.zeroValue338
 t50:=Tryz.underlying248
 a50:=Tryz.isAgg248
 z50:=Tryz.sizeOf248
 v50:=Tryz.zeroValue248
 t53:=Tryz.underlying345
 a53:=Tryz.isAgg345
 z53:=Tryz.sizeOf345
 v53:=Tryz.zeroValue345
 t55:=Tryz.underlying347
 a55:=Tryz.isAgg347
 z55:=Tryz.sizeOf347
 v55:=Tryz.zeroValue347
 t66:=Tryz.underlying361
 a66:=Tryz.isAgg361
 z66:=Tryz.sizeOf361
 v66:=Tryz.zeroValue361
 t70:=Tryz.underlying365
 a70:=Tryz.isAgg365
 z70:=Tryz.sizeOf365
 v70:=Tryz.zeroValue365
 t76:=Tryz.underlying369
 a76:=Tryz.isAgg369
 z76:=Tryz.sizeOf369
 v76:=Tryz.zeroValue369
 t77:=Tryz.underlying259
 a77:=Tryz.isAgg259
 z77:=Tryz.sizeOf259
 v77:=Tryz.zeroValue259 }
end R
namespace R
open Go.RowKit Go.Shelf Go.Sort
open D
abbrev IT:Ty:=.int .i64
def RN (xs:List Int):Option (List Int):=(chk (xs.length<4611686018427387904)).bind fun _=>some (xs.mergeSort fun x y=>decide (x<=y))
theorem St.grownI {I:Hp} {w0 w:World} {cs:List Ch} (h:St I w0 w cs) (os:Array Obj):St I w0 (grow w os) cs:=by
 refine St.step (w:=w) (c:=[]) (c':=[]) h rfl rfl rfl (by simp[grow]) ?_
 rintro F rfl - -
 exact ⟨fun b hb _=>heap_grow_old w os hb,[],rfl,List.nodup_nil,by simp⟩
theorem Ow {P:Program} {ρ:Ren} (L:Lays.n189 P ρ) (en:Enters P (ρ.f 189)) (E:TypeId) :
  FOk P (ρ.f 189) ⟨[.ow (.sl E IT)],[],fun xs=>RN xs,none⟩:=by
 refine ⟨fun q hq=>(by cases hq),fun _=>en,fun _ w0 J γ vs d r hlay ha AN=>?_⟩
 obtain ⟨v,vs1,rfl,hd,hnil⟩:=ha
 obtain rfl:vs1= []:=hnil
 obtain ⟨xs0,un⟩:=d
 let xs:List Int:=xs0
 let zs:List Int:=r
 have AN:RN xs=some zs:=AN
 obtain ⟨u1,hc,hz⟩:=Option.bind_eq_some_iff.1 AN
 have hc:=bV hc
 have hz:=af hz
 intro w C hst
 have hst:St J w0 w (Ch.own (aC E IT.rep) [v] xs::C):=hst
 clear AN
 rename_i happ0
 clear happ0 hd
 clear_value xs
 have hfin: ∀ {e:Ending} {w':World},(∃W,e= .returned (.tuple #[])/\w'=W/\St J w0 W (Ch.own (aC E IT.rep) [v] zs::C))-> ∃v':Value,e= .returned v'/\(∃vs:Array Value,v'= .tuple vs/\vs.size=0/\ ∀(i:Nat) (t:Ty),([] :List Ty)[i]? =some t->oz (vs.getD i undef)=t.isProd)/\St J w0 w' (Ch.own (aC E IT.rep) [v] zs::C):=by
  rintro e w' ⟨W,rfl,rfl,h⟩
  exact ⟨_,rfl,⟨#[],rfl,rfl,fun i t h=>(by simp at h)⟩,h⟩
 have hcase:(v= .slice none 0 0/\xs= [])\/ ∃g' ofs n cap,v= .slice (some ⟨g',ofs,none⟩) n cap:=by
  obtain ⟨hb,hi,F,⟨G,K,rfl,⟨hl,e2⟩,e3⟩,h4,h5⟩:=hst
  rcases e2 with ⟨hv,h1,_⟩ | ⟨g',ofs',cap',cur,K1,hv,_⟩
  ·exact .inl ⟨List.cons.inj hv |>.1,h1⟩
  ·exact .inr ⟨_,_,_,_,List.cons.inj hv |>.1⟩
 rcases hcase with ⟨rfl,hx⟩ | ⟨g',ofs,n,cap,rfl⟩
 ·refine (Any.slices_Sort_int_none L none 0 w).mono fun e w' ⟨he,hw⟩=>hfin ⟨_,he,hw,?_⟩
  rw[<-hz,hx,List.mergeSort_nil]
  rw[hx] at hst
  exact hst
 ·obtain ⟨hn,h1,h2,cur,hg,hroom,hat⟩:=yF (R:=IT.rep) (k:=1) (Ty.sh_ok (t:=IT) rfl) rfl hst
  obtain rfl:=hn
  have hH:Holds (Value.int .i64) w g' ofs xs.toArray:=by
   intro j hj
   have hj:j<xs.length:=by simpa using hj
   obtain ⟨c,e1,e2,e3⟩:=hat j _ (List.getElem?_eq_getElem hj)
   have hcj:=e2 0 Nat.one_pos
   obtain rfl:c= [.int .i64 xs[j]]:=e3
   rw[Nat.mul_one,Nat.add_zero,List.getElem?_drop] at hcj
   refine ⟨?_,?_⟩
   ·unfold World.cell?
    simp only[hg]
    rw[<-Array.getElem?_toList,hcj,getElem!_pos xs.toArray _ (by simpa using hj)]
    simp
   ·unfold World.frozen?
    simp only[hg]
    simp
  have hblk:g'<w.heap.size:=by
   rcases Nat.lt_or_ge g' w.heap.size with c | c
   ·exact c
   ·rw[Array.getElem?_eq_none c] at hg;cases hg
  refine (Any.slices_Sort_int L g' ofs cap xs w hH hblk hc).mono ?_
  rintro e w' ⟨he,m,os,rfl⟩
  refine hfin ⟨_,he,rfl,?_⟩
  have hlen:zs.length=xs.length:=by rw[<-hz];exact List.length_mergeSort _
  rw[hz,Go.Lib.sorted_world (Value.int .i64) w g' ofs m xs.toArray zs os hH (by simpa using hlen)]
  refine St.grownI ?_ os
  have hst2:St J w0 (w.drewN m) (Ch.own (aC E IT.rep) [.slice (some ⟨g',ofs,none⟩) xs.length cap] xs::C):=hst.drawn rfl rfl rfl rfl
  have hcapz:zs.length<=cap:=by rw[hlen];exact h1
  have hlimz:zs.length<=lim:=by
   have:lim=2 ^ 63 - 1:=rfl
   have:maxLen=2 ^ 63 - 1:=rfl
   omega
  have h3:=As (p:=0) (cnt:=xs.length) (zs:=zs) (news:=zs.map (Value.int .i64)) (Ty.sh_ok (t:=IT) rfl) (Ty.cpy (t:=IT) rfl) (k:=1) rfl (by simp[hlen]) (by omega) hcapz hlimz (fun i z hi=>.inl ⟨Nat.zero_le _,(by
   have:=(List.getElem?_eq_some_iff.1 hi).1
   have:i<zs.length:=this
   omega),[.int .i64 z],rfl,fun j hj=>by
    obtain rfl:j=0:=by omega
    rw[Nat.sub_zero,Nat.mul_one,Nat.add_zero,List.getElem?_map]
    have hi:zs[i]? =some z:=hi
    rw[hi];rfl,rfl⟩) hst2
  rw[Nat.zero_mul,Nat.add_zero,show @List.length IT.den zs=xs.length from hlen] at h3
  exact h3
end R
namespace R
open Go.Shelf
def AP:Go.Shelf.Ren:=⟨fun | 189=>248 | 125=>303 | 257=>302 | 128=>334 | 129=>335 | 294=>325 | 295=>326 | 296=>327 | 297=>328 | 298=>329 | 299=>330 | 216=>331 | 300=>332 | 301=>333 | 328=>351 | 329=>352 | 330=>353 | 331=>354 | 332=>355 | 215=>356 | 343=>363 | n=>n,fun | 28=>47 | 3=>3 | 46=>226 | 0=>0 | 51=>345 | 53=>347 | 4=>4 | 183=>338 | 182=>337 | 131=>248 | 5=>5 | 9=>9 | 218=>361 | 222=>365 | 228=>369 | 229=>259 | n=>n,fun | n=>n⟩
theorem Ib:Go.Proofs.Lays.n189 Tryz.prog AP:= {
 mixed:=by kernel_rfl
 f125:=Tryz.func303.trans (congrArg some (by kernel_rfl))
 f128:=Tryz.func334.trans (congrArg some (by kernel_rfl))
 f129:=Tryz.func335.trans (congrArg some (by kernel_rfl))
 f189:=Tryz.func248.trans (congrArg some (by kernel_rfl))
 f215:=Tryz.func356.trans (congrArg some (by kernel_rfl))
 f216:=Tryz.func331.trans (congrArg some (by kernel_rfl))
 f257:=Tryz.func302.trans (congrArg some (by kernel_rfl))
 f294:=Tryz.func325.trans (congrArg some (by kernel_rfl))
 f295:=Tryz.func326.trans (congrArg some (by kernel_rfl))
 f296:=Tryz.func327.trans (congrArg some (by kernel_rfl))
 f297:=Tryz.func328.trans (congrArg some (by kernel_rfl))
 f298:=Tryz.func329.trans (congrArg some (by kernel_rfl))
 f299:=Tryz.func330.trans (congrArg some (by kernel_rfl))
 f300:=Tryz.func332.trans (congrArg some (by kernel_rfl))
 f301:=Tryz.func333.trans (congrArg some (by kernel_rfl))
 f328:=Tryz.func351.trans (congrArg some (by kernel_rfl))
 f329:=Tryz.func352.trans (congrArg some (by kernel_rfl))
 f330:=Tryz.func353.trans (congrArg some (by kernel_rfl))
 f331:=Tryz.func354.trans (congrArg some (by kernel_rfl))
 f332:=Tryz.func355.trans (congrArg some (by kernel_rfl))
 f343:=Tryz.func363.trans (congrArg some (by kernel_rfl))
 t0:=Tryz.underlying0
 a0:=Tryz.isAgg0
 z0:=Tryz.sizeOf0
 v0:=Tryz.zeroValue0
 t3:=Tryz.underlying3
 a3:=Tryz.isAgg3
 z3:=Tryz.sizeOf3
 v3:=Tryz.zeroValue3
 t4:=Tryz.underlying4
 a4:=Tryz.isAgg4
 z4:=Tryz.sizeOf4
 v4:=Tryz.zeroValue4
 t5:=Tryz.underlying5
 a5:=Tryz.isAgg5
 z5:=Tryz.sizeOf5
 v5:=Tryz.zeroValue5
 t9:=Tryz.underlying9
 a9:=Tryz.isAgg9
 z9:=Tryz.sizeOf9
 v9:=Tryz.zeroValue9
 t28:=Tryz.underlying47
 a28:=Tryz.isAgg47
 z28:=Tryz.sizeOf47
 v28:=Tryz.zeroValue47
 t46:=Tryz.underlying226
 a46:=Tryz.isAgg226
 z46:=Tryz.sizeOf226
 v46:=Tryz.zeroValue226
 t51:=Tryz.underlying345
 a51:=Tryz.isAgg345
 z51:=Tryz.sizeOf345
 v51:=Tryz.zeroValue345
 t53:=Tryz.underlying347
 a53:=Tryz.isAgg347
 z53:=Tryz.sizeOf347
 v53:=Tryz.zeroValue347
 t131:=Tryz.underlying248
 a131:=Tryz.isAgg248
 z131:=Tryz.sizeOf248
 v131:=Tryz.zeroValue248
 t182:=Tryz.underlying337
 a182:=Tryz.isAgg337
 z182:=Tryz.sizeOf337
 v182:=Tryz.zeroValue337
 t183:=Tryz.underlying338
 a183:=Tryz.isAgg338
 z183:=Tryz.sizeOf338
 v183:=Tryz.zeroValue338
 t218:=Tryz.underlying361
 a218:=Tryz.isAgg361
 z218:=Tryz.sizeOf361
 v218:=Tryz.zeroValue361
 t222:=Tryz.underlying365
 a222:=Tryz.isAgg365
 z222:=Tryz.sizeOf365
 v222:=Tryz.zeroValue365
 t228:=Tryz.underlying369
 a228:=Tryz.isAgg369
 z228:=Tryz.sizeOf369
 v228:=Tryz.zeroValue369
 t229:=Tryz.underlying259
 a229:=Tryz.isAgg259
 z229:=Tryz.sizeOf259
 v229:=Tryz.zeroValue259 }
end R
namespace R
open Go.RowKit
open D
def FldAll (P:Program) (T:TypeId):Nat->List (Nat×Nat)->Prop
 | _,[] =>True
 | i,q::l=>TF P T i q.1 q.2/\FldAll P T (i+1) l
theorem FldAll.get {P:Program} {T:TypeId} : ∀ {l:List (Nat×Nat)} {i:Nat},FldAll P T i l-> ∀f q,l[f]? =some q->TF P T (i+f) q.1 q.2
 | [],_,_,f,q,h=>by simp at h
 | x::l,i,⟨h1,h2⟩,f,q,h=>by
  cases f with
  | zero=>simp at h;subst h;exact h1
  | succ f =>
   have:=FldAll.get h2 f q (by simpa using h)
   rwa [show i+1+f=i+(f+1) from by omega] at this
section
variable {P:Program} {T:TypeId}
theorem vc {n b:Nat} {ty:Ty} {z:Value} {boo:Bool} {ik:Option (Option IntKind)} (h1:TI P T false 1) (h2:ty.size=1) (h3:TZ P T z 1 b) (h4:z.cells=(zeroCells ty).toArray) (h5:1<=b) (h6:boo=true->P.underlying T=some .bool) (h7: ∀k,ik=some k->P.underlying T=some (ikD k)):TDok P T ⟨false,1,none,ty,[],some b,none,boo,none,none,ik,false,none⟩:=
 ⟨h1,rfl,h2,fun E h=>by simp at h,fun f q h=>by simp at h,fun b' h=>by obtain rfl:=af h;exact ⟨z,h3,h4,h5⟩,fun pl h=>by simp at h,h6,(fun ks h=>by cases h),(fun m h=>by cases h),h7,(fun h=>by cases h),fun e h=>by cases h⟩
theorem rV {E:TypeId} {t:Ty} (h1:TI P T false 1) (h2:P.underlying T=some (.slice E)) (h3:TZ P T (.slice none 0 0) 1 24):TDok P T ⟨false,1,some E,.sl E t,[],some 24,none,false,none,none,none,false,none⟩:=
 ⟨h1,rfl,rfl,fun E' h=>by obtain rfl:=af h;exact h2,fun f q h=>by simp at h,fun b' h=>by obtain rfl:=af h;exact ⟨_,h3,rfl,by decide⟩,fun pl h=>by simp at h,(fun h=>by cases h),(fun ks h=>by cases h),(fun m h=>by cases h),(fun k h=>by cases h),(fun h=>by cases h),fun e h=>by cases h⟩
theorem pn {n b:Nat} {ty:Ty} {fs pl:List (Nat×Nat)} {z:Value} {eq:Option (List (Option IntKind))} (h1:TI P T true n) (h2:ty.size=n) (h3:FldAll P T 0 fs) (h4:TZ P T z n b) (h5:z.cells=(zeroCells ty).toArray) (h6:1<=b) (h7:TB P T pl) (h8: ∀ks,eq=some ks-> ∀w,Curq ks fun xs ys r=>EqT P T (.agg xs.toArray) (.agg ys.toArray) r w):TDok P T ⟨true,n,none,ty,fs,some b,some pl,false,eq,none,none,false,none⟩:=
 ⟨h1,rfl,h2,fun E h=>by simp at h,fun f q h=>by have:=h3.get f q h;rwa [Nat.zero_add] at this,fun b' h=>by obtain rfl:=af h;exact ⟨z,h4,h5,h6⟩,fun pl' h=>by obtain rfl:=af h;exact h7,(fun h=>by cases h),h8,(fun m h=>by cases h),(fun k h=>by cases h),(fun h=>by cases h),fun e h=>by cases h⟩
theorem AQ {ty:Ty} {b:Nat} (h1:TI P T false 1) (h2:ty.size=1) (h3:TZ P T .nilFunc 1 b):TDok P T ⟨false,1,none,ty,[],none,none,false,none,none,none,true,none⟩:=
 ⟨h1,rfl,h2,fun E h=>by simp at h,fun f q h=>by simp at h,(fun b' h=>by cases h),(fun pl h=>by cases h),(fun h=>by cases h),(fun ks h=>by cases h),(fun m' h=>by cases h),(fun k h=>by cases h),(fun _=>⟨b,h3⟩),fun e h=>by cases h⟩
theorem ZJ {m:MD} {ty:Ty} (h1:TI P T false 1) (h2:ty.size=1) (h3:MDok P T m):TDok P T ⟨false,1,none,ty,[],none,none,false,none,some m,none,false,none⟩:=
 ⟨h1,rfl,h2,fun E h=>by simp at h,fun f q h=>by simp at h,(fun b' h=>by cases h),(fun pl h=>by cases h),(fun h=>by cases h),(fun ks h=>by cases h),(fun m' h=>by obtain rfl:=af h;exact h3),(fun k h=>by cases h),(fun h=>by cases h),fun e h=>by cases h⟩
theorem ZK {e E:TypeId} {u:Ty} (h1:TI P T false 1) (h2:P.underlying T=some (.pointer e)) (h3:TZ P T (.pointer none) 1 8):TDok P T ⟨false,1,none,.fro (.tree e E u),[],some 8,none,false,none,none,none,false,some e⟩:=
 ⟨h1,rfl,rfl,fun E' h=>by simp at h,fun f q h=>by simp at h,fun b' h=>by obtain rfl:=af h;exact ⟨_,h3,rfl,by decide⟩,fun pl h=>by simp at h,(fun h=>by cases h),(fun ks h=>by cases h),(fun m h=>by cases h),(fun k h=>by cases h),(fun h=>by cases h),fun e' h=>by obtain rfl:=af h;exact h2⟩
end
end R
namespace D
open Go.RowKit
abbrev Yq1:Type:=(Int×Int×Int×Int)
abbrev Yq2:Type:=(Int×(List Bool)×(List (List Int)))
abbrev Yq3:Type:=(Int×((List Yq1))×Int)
abbrev Yq4:Type:=(List (Int×Int))
abbrev Yq5:Type:=((List Int)×(List Yq1))
abbrev Yq6:Type:=(Int×(List Bool)×List (List Int))
abbrev Yq7:Type:=((Int×Bool)×Int×Int)
abbrev Yq8:Type:=((List Int)×List Yq1)
abbrev Yq9:Type:=((List Int)×Int×Int×(List Int)×Bool)
abbrev PW:Type:=(Out (List Int) ((List Int)×Int))
abbrev Ox:Type:=(Int×Bool×(Yq4×Yq4))
abbrev Lp:Type:=(Int×(List Yq1)×Int)
abbrev PX:Type:=(Bool×Int×Int×Int×Int)
abbrev VV:Type:=(Int×Bool×Yq4×List (Int×Int))
abbrev Ts:Type:=(Int×(List Yq2)×(List Yq3))
abbrev RO:Type:=((List Yq2)×(List Yq3))
abbrev L6:Type:=(Out Int (Int×Int))
def Ic (a:List Int):Option Bool:=
 some (decide ((a.length:Int)>1048576))
def py (b:List Int) (a:Int×Int):Option (Out (Int×Int) (Int×Int)):=
 if decide (a.2<(b.length:Int)) then (if decide (a.2<4000) then ((aQ b a.2).bind fun c=>some (.nxt (qe (i64.wrap ((i64.wrap ((i64.wrap (a.1*131))+(i64.wrap c)))+7)) 1073741823,i64.wrap (a.2+1)))) else (some (.brk (a.1,a.2)))) else (some (.brk (a.1,a.2)))
def wu (a:List Int):Option (Int×Int):=
 aO (aA (py a) aT (i64.wrap (10101+(a.length:Int)),0)) (fun b=>some b) (fun c=>some (0,c.1))
def kR (a:(List Int)×Int×Int):Option (Int×Int×Int):=
 Option.bind ((if decide (a.2.1<(a.1.length:Int)) then ((aQ a.1 a.2.1).bind fun c=>some (qe (i64.wrap ((qe (YW (nO (i64.wrap ((i64.wrap (a.2.2*6364136223846793005))+1442695040888963407)) 33) (nO (i64.wrap ((i64.wrap (a.2.2*6364136223846793005))+1442695040888963407)) 45)) 255)+(i64.wrap c))) 255,i64.wrap (a.2.1+1),i64.wrap ((i64.wrap (a.2.2*6364136223846793005))+1442695040888963407))) else (some (qe (YW (nO (i64.wrap ((i64.wrap (a.2.2*6364136223846793005))+1442695040888963407)) 33) (nO (i64.wrap ((i64.wrap (a.2.2*6364136223846793005))+1442695040888963407)) 45)) 255,a.2.1,i64.wrap ((i64.wrap (a.2.2*6364136223846793005))+1442695040888963407))):Option (Int×Int×Int))) (fun b=>some (b.1,b.2.1,b.2.2))
def aL (a:(List Int)×Int×Int) (b:Int):Option (Int×Int×Int):=
 if decide (b<=0) then (some (0,a.2.1,a.2.2)) else (if decide (b<=256) then ((kR (a.1,a.2.1,a.2.2)).bind fun c=>(chk (b≠0)).bind fun _=>some (Int.tmod c.1 b,c.2.1,c.2.2)) else ((kR (a.1,a.2.1,a.2.2)).bind fun d=>(kR (a.1,d.2.1,d.2.2)).bind fun e=>(kR (a.1,e.2.1,e.2.2)).bind fun f=>(kR (a.1,f.2.1,f.2.2)).bind fun g=>(chk (b≠0)).bind fun _=>some (Int.tmod (i64.wrap ((i64.wrap ((i64.wrap ((i64.wrap (d.1*16777216))+(i64.wrap (e.1*65536))))+(i64.wrap (f.1*256))))+g.1)) b,g.2.1,g.2.2)))
def bu (a:(List Int)×Int×Int) (c:Int):Option (Bool×Int×Int):=
 (aL (a.1,a.2.1,a.2.2) c).bind fun b=>some (b.1==0,b.2.1,b.2.2)
def bq (a:(List Int)×Int×Int) (c:List Int):Option (Int×Int×Int):=
 (aL (a.1,a.2.1,a.2.2) (c.length:Int)).bind fun b=>(aQ c b.1).bind fun d=>some (d,b.2.1,b.2.2)
def dq (a:Int) (b:Int) (c:Int):Option Bool:=
 if decide (a≥b) then (some (decide (a<=c))) else (some false)
def na (a:Int):Option Bool:=
 (dq a 0 8).bind fun b=>some b
def oH (a:Int×Int×Int×Int):Option Int:=
 Option.bind ((if a.1==1 then (some (a.1==1)) else (some (a.1==2)):Option Bool)) (fun b=>if b then (if a.2.1 !=0 then (some (-1)) else (if a.2.2.1 !=0 then (some (-1)) else (if a.2.2.2 !=0 then (some (-1)) else (some 0)))) else (if a.1==3 then ((na a.2.1).bind fun c=>if c then (if a.2.2.1 !=0 then (some (-1)) else (if a.2.2.2 !=0 then (some (-1)) else (some 0))) else (some (-1))) else (Option.bind ((if a.1==4 then (some (a.1==4)) else (some (a.1==5)):Option Bool)) (fun d=>if d then (if a.2.1 !=0 then (some (-1)) else (if a.2.2.1 !=0 then (some (-1)) else (if a.2.2.2 !=0 then (some (-1)) else (some 2)))) else (if a.1==6 then (if a.2.1 !=0 then (some (-1)) else (if a.2.2.1 !=0 then (some (-1)) else (if a.2.2.2 !=0 then (some (-1)) else (some 1)))) else (if a.1==7 then (if a.2.1 !=0 then (some (-1)) else ((dq a.2.2.2 1 3).bind fun e=>if e then ((dq a.2.2.1 0 a.2.2.2).bind fun f=>if f then (some 1) else (some (-1))) else (some (-1)))) else (some (-1))))))))
def rb (d:(List Yq1)) (a:Int×Int):Option (Out Bool (Int×Int)):=
 if decide (a.2<(d.length:Int)) then ((aQ d a.2).bind fun b=>(oH (b.1,b.2.1,b.2.2.1,b.2.2.2)).bind fun c=>if decide (c<0) then (some (.ret false)) else (if decide (c>a.1) then (some (.ret false)) else (some (.nxt (i64.wrap ((i64.wrap (a.1 - c))+1),i64.wrap (a.2+1)))))) else (some (.brk (a.1,a.2)))
def tF (a:(List Yq1)):Option Bool:=
 aO (aA (rb a) aT (0,0)) (fun r=>some r) (fun b=>some (b.1==1))
def jf (a:(List Yq1)):Option Bool:=
 if decide ((a.length:Int)<=24) then ((tF a).bind fun b=>some b) else (some false)
def mL (c:List Yq1) (a:Int×Int):Option L6:=
 if decide (a.1>0) then ((aQ c (i64.wrap (a.2 - 1))).bind fun b=>(oH (b.1,b.2.1,b.2.2.1,b.2.2.2)).bind fun d=>some (.nxt (i64.wrap ((i64.wrap (a.1 - 1))+d),i64.wrap (a.2 - 1)))) else (some (.brk (a.1,a.2)))
def jg (a:List Yq1):Option Int:=
 aO (aA (mL a) aT (1,(a.length:Int))) (fun r=>some r) (fun b=>some b.2)
def fv:Nat->(List Yq1)->Option Int
 | 0,_=>none
 | n+1,p0l =>
  (aQ p0l (i64.wrap ((p0l.length:Int) - 1))).bind fun a=>Option.bind ((if a.1==4 then (some (a.1==4)) else (some (a.1==5)):Option Bool)) (fun c=>if c then ((chk (And (0<=(i64.wrap ((p0l.length:Int) - 1))) ((i64.wrap ((p0l.length:Int) - 1))<=(p0l.length:Int)))).bind fun _=>(jg (p0l.take ((i64.wrap ((p0l.length:Int) - 1)).toNat))).bind fun b=>(chk (And (0<=b) (b<=(p0l.length:Int)))).bind fun _=>((fv n) (p0l.take b.toNat)).bind fun d=>(chk (And (0<=b) (And (b<=(i64.wrap ((p0l.length:Int) - 1))) ((i64.wrap ((p0l.length:Int) - 1))<=(p0l.length:Int))))).bind fun _=>((fv n) ((p0l.take ((i64.wrap ((p0l.length:Int) - 1)).toNat)).drop b.toNat)).bind fun e=>some (Min.min 100000 (i64.wrap ((i64.wrap (d+e))+1)))) else (if a.1==6 then ((chk (And (0<=(i64.wrap ((p0l.length:Int) - 1))) ((i64.wrap ((p0l.length:Int) - 1))<=(p0l.length:Int)))).bind fun _=>((fv n) (p0l.take ((i64.wrap ((p0l.length:Int) - 1)).toNat))).bind fun f=>some (Min.min 100000 (i64.wrap (f+1)))) else (if a.1==7 then ((chk (And (0<=(i64.wrap ((p0l.length:Int) - 1))) ((i64.wrap ((p0l.length:Int) - 1))<=(p0l.length:Int)))).bind fun _=>((fv n) (p0l.take ((i64.wrap ((p0l.length:Int) - 1)).toNat))).bind fun g=>some (Min.min 100000 (i64.wrap ((i64.wrap ((i64.wrap (g+3))*a.2.2.2))+1)))) else (some 1))))
def fM (a:List Yq1):Option (List Yq1):=
 (bM 32 ([] :List Yq1) a).bind fun b=>some b
def fl (b:(List Yq1)) (c:(List Yq1)) (a:Int×Int×Int×Int):Option (List Yq1):=
 (fM b).bind fun d=>(bM 32 d c).bind fun e=>(bM 32 e ([(a.1,a.2.1,a.2.2.1,a.2.2.2)])).bind fun f=>some f
def oh (a:Int):Option (List Yq1):=
 some ([(a,0,0,0)])
def kS:Nat->(List Yq1)->Int->Int->Option (List Yq1)
 | 0,_,_,_=>none
 | n+1,p0e,p1low,p2high =>
  if p2high==0 then ((oh 2).bind fun b=>some b) else (((kS n) p0e (Max.max 0 (i64.wrap (p1low - 1))) (i64.wrap (p2high - 1))).bind fun c=>(fl p0e c (4,0,0,0)).bind fun a=>if decide (p1low>0) then (some a) else ((oh 2).bind fun d=>(fl a d (5,0,0,0)).bind fun e=>some e))
def dz:Nat->(List Yq1)->Option (List Yq1)
 | 0,_=>none
 | n+1,p0l =>
  (aQ p0l (i64.wrap ((p0l.length:Int) - 1))).bind fun a=>Option.bind ((if a.1==4 then (some (a.1==4)) else (some (a.1==5)):Option Bool)) (fun c=>if c then ((chk (And (0<=(i64.wrap ((p0l.length:Int) - 1))) ((i64.wrap ((p0l.length:Int) - 1))<=(p0l.length:Int)))).bind fun _=>(jg (p0l.take ((i64.wrap ((p0l.length:Int) - 1)).toNat))).bind fun b=>(chk (And (0<=b) (b<=(p0l.length:Int)))).bind fun _=>((dz n) (p0l.take b.toNat)).bind fun d=>(chk (And (0<=b) (And (b<=(i64.wrap ((p0l.length:Int) - 1))) ((i64.wrap ((p0l.length:Int) - 1))<=(p0l.length:Int))))).bind fun _=>((dz n) ((p0l.take ((i64.wrap ((p0l.length:Int) - 1)).toNat)).drop b.toNat)).bind fun e=>(fl d e (a.1,a.2.1,a.2.2.1,a.2.2.2)).bind fun f=>some f) else (if a.1==6 then ((chk (And (0<=(i64.wrap ((p0l.length:Int) - 1))) ((i64.wrap ((p0l.length:Int) - 1))<=(p0l.length:Int)))).bind fun _=>((dz n) (p0l.take ((i64.wrap ((p0l.length:Int) - 1)).toNat))).bind fun g=>(fl g ([] :List Yq1) (a.1,a.2.1,a.2.2.1,a.2.2.2)).bind fun h=>some h) else (if a.1==7 then ((chk (And (0<=(i64.wrap ((p0l.length:Int) - 1))) ((i64.wrap ((p0l.length:Int) - 1))<=(p0l.length:Int)))).bind fun _=>((dz n) (p0l.take ((i64.wrap ((p0l.length:Int) - 1)).toNat))).bind fun i=>(kS fJ i a.2.2.1 a.2.2.2).bind fun j=>some j) else (some ([(a.1,a.2.1,a.2.2.1,a.2.2.2)])))))
def iH (a:(List Yq1)):Option (((List Yq1))×Bool):=
 (jf a).bind fun c=>if c then ((fv fJ a).bind fun d=>if decide (d>5000) then (some ([],false)) else ((dz fJ a).bind fun b=>if decide ((b.length:Int)>400) then (some ([],false)) else (some (b,true)))) else (some ([],false))
def j5 (b:Int) (c:Int) (a:Int×List Int):Option (Out Yq9 (Int×List Int)):=
 if decide (a.1<(a.2.length:Int)) then (Option.bind (((chk (0<=a.1)).bind fun _=>if (qe (nO b a.1) 1)==1 then ((aQ a.2 a.1).bind fun d=>(aQ a.2 a.1).bind fun f=>some (a.2.set a.1.toNat (orI d c))) else (some a.2):Option (List Int))) (fun e=>some (.nxt (i64.wrap (a.1+1),e)))) else (some (.brk (a.1,a.2)))
def oJ (a:(List Int)×Int×Int×(List Int)×Bool) (b:Int) (c:Int):Option Yq9:=
 aO (aA (j5 b c) aT (0,a.2.2.2.1)) (fun d=>some d) (fun e=>some (a.1,a.2.1,a.2.2.1,e.2,a.2.2.2.2))
def cG:Nat->Yq9->(List Yq1)->Option ((Bool×Int×Int)×(List Int)×Int×Int×(List Int)×Bool)
 | 0,_,_=>none
 | n+1,p0,p1 =>
  (aQ p1 (i64.wrap ((p1.length:Int) - 1))).bind fun g=>if g.1==2 then (some ((true,0,0),p0.1,p0.2.1,p0.2.2.1,p0.2.2.2.1,p0.2.2.2.2)) else (if g.1==3 then ((bM 8 p0.1 ([g.2.1])).bind fun p=>(bM 8 p0.2.2.2.1 ([0])).bind fun q=>some ((false,vM 1 (p0.1.length:Int),vM 1 (p0.1.length:Int)),p,p0.2.1,p0.2.2.1,q,p0.2.2.2.2)) else (if g.1==4 then ((chk (And (0<=(i64.wrap ((p1.length:Int) - 1))) ((i64.wrap ((p1.length:Int) - 1))<=(p1.length:Int)))).bind fun _=>(jg (p1.take ((i64.wrap ((p1.length:Int) - 1)).toNat))).bind fun h=>(chk (And (0<=h) (h<=(p1.length:Int)))).bind fun _=>((cG n) (p0.1,p0.2.1,p0.2.2.1,p0.2.2.2.1,p0.2.2.2.2) (p1.take h.toNat)).bind fun b=>(chk (And (0<=h) (And (h<=(i64.wrap ((p1.length:Int) - 1))) ((i64.wrap ((p1.length:Int) - 1))<=(p1.length:Int))))).bind fun _=>((cG n) (b.2.1,b.2.2.1,b.2.2.2.1,b.2.2.2.2.1,b.2.2.2.2.2) ((p1.take ((i64.wrap ((p1.length:Int) - 1)).toNat)).drop h.toNat)).bind fun a=>(oJ (a.2.1,a.2.2.1,a.2.2.2.1,a.2.2.2.2.1,a.2.2.2.2.2) b.1.2.2 a.1.2.1).bind fun d=>if b.1.1 then (Option.bind ((if b.1.1 then (some (a.1.1,orI b.1.2.1 a.1.2.1,a.1.2.2)) else (some (a.1.1,b.1.2.1,a.1.2.2)):Option (Bool×Int×Int))) (fun j=>Option.bind ((if a.1.1 then (some (j.1,j.2.1,orI b.1.2.2 a.1.2.2)) else (some (j.1,j.2.1,j.2.2)):Option (Bool×Int×Int))) (fun m=>some ((m.1,m.2.1,m.2.2),d.1,d.2.1,d.2.2.1,d.2.2.2.1,d.2.2.2.2)))) else (Option.bind ((if b.1.1 then (some (false,orI b.1.2.1 a.1.2.1,a.1.2.2)) else (some (false,b.1.2.1,a.1.2.2)):Option (Bool×Int×Int))) (fun k=>Option.bind ((if a.1.1 then (some (k.1,k.2.1,orI b.1.2.2 a.1.2.2)) else (some (k.1,k.2.1,k.2.2)):Option (Bool×Int×Int))) (fun o=>some ((o.1,o.2.1,o.2.2),d.1,d.2.1,d.2.2.1,d.2.2.2.1,d.2.2.2.2))))) else (if g.1==5 then ((chk (And (0<=(i64.wrap ((p1.length:Int) - 1))) ((i64.wrap ((p1.length:Int) - 1))<=(p1.length:Int)))).bind fun _=>(jg (p1.take ((i64.wrap ((p1.length:Int) - 1)).toNat))).bind fun i=>(chk (And (0<=i) (i<=(p1.length:Int)))).bind fun _=>((cG n) (p0.1,p0.2.1,p0.2.2.1,p0.2.2.2.1,p0.2.2.2.2) (p1.take i.toNat)).bind fun e=>(chk (And (0<=i) (And (i<=(i64.wrap ((p1.length:Int) - 1))) ((i64.wrap ((p1.length:Int) - 1))<=(p1.length:Int))))).bind fun _=>((cG n) (e.2.1,e.2.2.1,e.2.2.2.1,e.2.2.2.2.1,e.2.2.2.2.2) ((p1.take ((i64.wrap ((p1.length:Int) - 1)).toNat)).drop i.toNat)).bind fun c=>if e.1.1 then (some ((true,orI e.1.2.1 c.1.2.1,orI e.1.2.2 c.1.2.2),c.2.1,c.2.2.1,c.2.2.2.1,c.2.2.2.2.1,c.2.2.2.2.2)) else (some ((c.1.1,orI e.1.2.1 c.1.2.1,orI e.1.2.2 c.1.2.2),c.2.1,c.2.2.1,c.2.2.2.1,c.2.2.2.2.1,c.2.2.2.2.2))) else (if g.1==6 then ((chk (And (0<=(i64.wrap ((p1.length:Int) - 1))) ((i64.wrap ((p1.length:Int) - 1))<=(p1.length:Int)))).bind fun _=>((cG n) (p0.1,p0.2.1,p0.2.2.1,p0.2.2.2.1,p0.2.2.2.2) (p1.take ((i64.wrap ((p1.length:Int) - 1)).toNat))).bind fun f=>(oJ (f.2.1,f.2.2.1,f.2.2.2.1,f.2.2.2.2.1,f.2.2.2.2.2) f.1.2.2 f.1.2.1).bind fun l=>some ((true,f.1.2.1,f.1.2.2),l.1,l.2.1,l.2.2.1,l.2.2.2.1,l.2.2.2.2)) else (some ((false,0,0),p0.1,p0.2.1,p0.2.2.1,p0.2.2.2.1,p0.2.2.2.2))))))
def eD (b:(List Yq1)×Bool) (a:Int×Int):Option (Out (Yq9×Bool) (Int×Int)):=
 if decide (a.2<(b.1.length:Int)) then (Option.bind (((aQ b.1 a.2).bind fun c=>if c.1==3 then (some (i64.wrap (a.1+1))) else (some a.1):Option Int)) (fun d=>some (.nxt (d,i64.wrap (a.2+1))))) else (some (.brk (a.1,a.2)))
def dA (c:List Yq1):Option (Yq9×Bool):=
 (iH c).bind fun b=>if b.2 then (aO (aA (eD b) aT (0,0)) (fun d=>some d) (fun e=>if decide (e.1>20) then (some ((([] :List Int),0,0,([] :List Int),false),false)) else ((cG fJ (([] :List Int),0,0,([] :List Int),false) b.1).bind fun a=>some ((a.2.1,a.1.2.1,a.1.2.2,a.2.2.2.2.1,a.1.1),true)))) else (some ((([] :List Int),0,0,([] :List Int),false),false))
def jh (b:(List Int)×Int×Int×(List Int)×Bool) (c:Int) (a:Int×Int):Option L6:=
 if decide (a.2<(b.1.length:Int)) then (Option.bind (((chk (0<=i64.wrap (a.2+1))).bind fun _=>if (qe (nO c (i64.wrap (a.2+1))) 1)==1 then ((aQ b.2.2.2.1 a.2).bind fun d=>some (orI a.1 d)) else (some a.1):Option Int)) (fun e=>some (.nxt (e,i64.wrap (a.2+1))))) else (some (.brk (a.1,a.2)))
def ji (b:(List Int)×Int×Int×(List Int)×Bool) (c:Int) (d:Int×Int) (a:Int×Int):Option L6:=
 if decide (a.2<(b.1.length:Int)) then (Option.bind (((chk (0<=a.2)).bind fun _=>if (qe (nO d.1 a.2) 1)==1 then ((aQ b.1 a.2).bind fun e=>if e==c then ((chk (0<=i64.wrap (a.2+1))).bind fun _=>some (orI a.1 (vM 1 (i64.wrap (a.2+1))))) else (some a.1)) else (some a.1):Option Int)) (fun f=>some (.nxt (f,i64.wrap (a.2+1))))) else (some (.brk (a.1,a.2)))
def pz (a:(List Int)×Int×Int×(List Int)×Bool) (b:Int) (c:Int):Option Int:=
 Option.bind ((if (qe b 1)==1 then (some a.2.1) else (some 0):Option Int)) (fun d=>aO (aA (jh a b) aT (d,0)) (fun r=>some r) (fun e=>aO (aA (ji a c e) aT (0,0)) (fun r=>some r) (fun f=>some f.1)))
def pW (b:List Int) (c:Int) (a:Int):Option (Out Int Int):=
 if decide (a<(b.length:Int)) then ((aQ b a).bind fun d=>if d==c then (some (.ret a)) else (some (.nxt (i64.wrap (a+1))))) else (some (.brk a))
def oK (a:List Int) (b:Int):Option Int:=
 aO (aA (pW a b) aT 0) (fun r=>some r) (fun c=>some (-1))
def mM (a:(List Int)×Int×Int×(List Int)×Bool) (b:Int):Option Bool:=
 if (qe b 1)==1 then (if a.2.2.2.2 then (some true) else (some ((qe (nO b 1) a.2.2.1) !=0))) else (some ((qe (nO b 1) a.2.2.1) !=0))
def gG (b:(List Int)×Int×Int×(List Int)×Bool) (f:(List Int)×Int×Int×(List Bool)×(List (List Int))) (a:(List Int)×(List Int)×Int):Option (Out (Yq2×Bool) ((List Int)×(List Int)×Int)):=
 if decide (a.2.2<9) then ((aQ a.1 f.2.1).bind fun g=>(pz (b.1,b.2.1,b.2.2.1,b.2.2.2.1,b.2.2.2.2) g a.2.2).bind fun c=>Option.bind ((if c !=0 then ((oK a.1 c).bind fun d=>if decide (d<0) then ((bM 8 a.1 ([c])).bind fun h=>some (h,(a.1.length:Int))) else (some (a.1,d))) else (some (a.1,-1)):Option ((List Int)×Int))) (fun e=>(bM 8 a.2.1 ([e.2])).bind fun i=>some (.nxt (e.1,i,i64.wrap (a.2.2+1))))) else (some (.brk (a.1,a.2.1,a.2.2)))
def gH (b:(List Int)×Int×Int×(List Int)×Bool) (d:Int) (a:(List Int)×Int×Int×(List Bool)×(List (List Int))):Option (Out (Yq2×Bool) ((List Int)×Int×Int×(List Bool)×(List (List Int)))):=
 if decide (a.2.1<(a.1.length:Int)) then (aO (aA (gG b a) aT (a.1,([] :List Int),0)) (fun r=>some (.ret r)) (fun c=>if decide ((c.1.length:Int)>d) then (some (.ret ((0,[],[]),false))) else ((aQ c.1 a.2.1).bind fun e=>(mM (b.1,b.2.1,b.2.2.1,b.2.2.2.1,b.2.2.2.2) e).bind fun f=>(bM 1 a.2.2.2.1 ([f])).bind fun g=>(bM 24 a.2.2.2.2 ([c.2.1])).bind fun h=>some (.nxt (c.1,i64.wrap (a.2.1+1),a.2.2.1,g,h))))) else (some (.brk (a.1,a.2.1,a.2.2.1,a.2.2.2.1,a.2.2.2.2)))
def dZ (b:(List Int)×Int×Int×(List Int)×Bool) (c:Int):Option (Yq2×Bool):=
 aO (aA (gH b c) aT ([1],0,0,[],[])) (fun r=>some r) (fun a=>some ((a.2.2.1,a.2.2.2.1,a.2.2.2.2),true))
def xO (a:(List Int)×Int):Option (Out Yq2 ((List Int)×Int)):=
 if decide (a.2<9) then ((bM 8 a.1 ([-1])).bind fun b=>some (.nxt (b,i64.wrap (a.2+1)))) else (some (.brk (a.1,a.2)))
def pX:Option Yq2:=
 aO (aA (xO) aT (([] :List Int),0)) (fun r=>some r) (fun a=>some (0,[false],[a.1]))
def iA (f:Int×(List Bool)×(List (List Int))) (d:List Int) (g:List Bool) (h:(List Int)×(List Int)×Int×Int×(List Bool)×(List (List Int))) (a:(List Int)×(List Int)×(List Int)×Int):Option (Out Yq2 ((List Int)×(List Int)×(List Int)×Int)):=
 if decide (a.2.2.2<9) then ((aQ a.2.1 h.2.2.1).bind fun i=>(aQ f.2.2 i).bind fun j=>(aQ j a.2.2.2).bind fun b=>Option.bind ((if decide (b≥0) then ((aQ g b).bind fun k=>if k then ((aQ d b).bind fun l=>(oK a.1 l).bind fun e=>if decide (e<0) then ((aQ d b).bind fun m=>(bM 8 a.1 ([m])).bind fun n=>(bM 8 a.2.1 ([b])).bind fun o=>some (n,o,(a.1.length:Int))) else (some (a.1,a.2.1,e))) else (some (a.1,a.2.1,-1))) else (some (a.1,a.2.1,-1)):Option ((List Int)×(List Int)×Int))) (fun c=>(bM 8 a.2.2.1 ([c.2.2])).bind fun p=>some (.nxt (c.1,c.2.1,p,i64.wrap (a.2.2.2+1))))) else (some (.brk (a.1,a.2.1,a.2.2.1,a.2.2.2)))
def ky (c:Int×(List Bool)×(List (List Int))) (d:List Int) (e:List Bool) (a:(List Int)×(List Int)×Int×Int×(List Bool)×(List (List Int))):Option (Out Yq2 ((List Int)×(List Int)×Int×Int×(List Bool)×(List (List Int)))):=
 if decide (a.2.2.1<(a.1.length:Int)) then (aO (aA (iA c d e a) aT (a.1,a.2.1,([] :List Int),0)) (fun r=>some (.ret r)) (fun b=>(aQ b.2.1 a.2.2.1).bind fun f=>(aQ c.2.1 f).bind fun g=>(bM 1 a.2.2.2.2.1 ([g])).bind fun h=>(bM 24 a.2.2.2.2.2 ([b.2.2.1])).bind fun i=>some (.nxt (b.1,b.2.1,i64.wrap (a.2.2.1+1),a.2.2.2.1,h,i)))) else (some (.brk (a.1,a.2.1,a.2.2.1,a.2.2.2.1,a.2.2.2.2.1,a.2.2.2.2.2)))
def jL (a:Int×(List Bool)×(List (List Int))) (d:List Int) (e:List Bool):Option Yq2:=
 (aQ e a.1).bind fun f=>if f then ((aQ d a.1).bind fun g=>aO (aA (ky a d e) aT ([g],[a.1],0,0,[],[])) (fun r=>some r) (fun b=>some (b.2.2.2.1,b.2.2.2.2.1,b.2.2.2.2.2))) else ((pX).bind fun c=>some (c.1,c.2.1,c.2.2))
def pA (b:List Int) (c:List Int) (a:Int):Option (Out Int Int):=
 if decide (a<(b.length:Int)) then (if decide (a<(c.length:Int)) then ((aQ b a).bind fun d=>(aQ c a).bind fun e=>if decide (d<e) then (some (.ret (-1))) else ((aQ b a).bind fun f=>(aQ c a).bind fun g=>if decide (f>g) then (some (.ret 1)) else (some (.nxt (i64.wrap (a+1)))))) else (some (.brk a))) else (some (.brk a))
def oL (a:List Int) (b:List Int):Option Int:=
 aO (aA (pA a b) aT 0) (fun r=>some r) (fun c=>if decide ((a.length:Int)<(b.length:Int)) then (some (-1)) else (if decide ((a.length:Int)>(b.length:Int)) then (some 1) else (some 0)))
def j6 (c:Int×(List Bool)×(List (List Int))) (b:(List Bool)×Int) (a:(List Bool)×Int):Option (Out (List Bool) ((List Bool)×Int)):=
 if decide (a.2<9) then (Option.bind (((aQ c.2.2 b.2).bind fun d=>(aQ d a.2).bind fun e=>if decide (e≥0) then ((aQ c.2.2 b.2).bind fun f=>(aQ f a.2).bind fun g=>(aQ a.1 g).bind fun h=>if h then ((aQ a.1 b.2).bind fun j=>some (a.1.set b.2.toNat true)) else (some a.1)) else (some a.1):Option (List Bool))) (fun i=>some (.nxt (i,i64.wrap (a.2+1))))) else (some (.brk (a.1,a.2)))
def j7 (b:Int×(List Bool)×(List (List Int))) (a:(List Bool)×Int):Option (Out (List Bool) ((List Bool)×Int)):=
 if decide (a.2<(b.2.1.length:Int)) then (aO (aA (j6 b a) aT (a.1,0)) (fun r=>some (.ret r)) (fun c=>some (.nxt (c.1,i64.wrap (a.2+1))))) else (some (.brk (a.1,a.2)))
def mN (b:Int×(List Bool)×(List (List Int))) (a:(List Bool)×Int):Option (Out (List Bool) ((List Bool)×Int)):=
 if decide (a.2<(b.2.1.length:Int)) then (aO (aA (j7 b) aT (a.1,0)) (fun r=>some (.ret r)) (fun c=>some (.nxt (c.1,i64.wrap (a.2+1))))) else (some (.brk (a.1,a.2)))
def mo (a:Int×(List Bool)×(List (List Int))):Option (List Bool):=
 (bM 1 ([] :List Bool) a.2.1).bind fun b=>aO (aA (mN a) aT (b,0)) (fun r=>some r) (fun c=>some c.1)
def nQ (c:Int×(List Bool)×(List (List Int))) (d:List Int) (e:Int) (a:(List Int)×Int):Option PW:=
 if decide (a.2<9) then (Option.bind (((aQ c.2.2 e).bind fun f=>(aQ f a.2).bind fun b=>if decide (b<0) then ((bM 8 a.1 ([-1])).bind fun g=>some g) else ((aQ d b).bind fun h=>(bM 8 a.1 ([h])).bind fun i=>some i):Option (List Int))) (fun j=>some (.nxt (j,i64.wrap (a.2+1))))) else (some (.brk (a.1,a.2)))
def ql (c:Int×(List Bool)×(List (List Int))) (a:List Int) (b:Int):Option (List Int):=
 (aQ a b).bind fun d=>aO (aA (nQ c a b) aT ([d],0)) (fun r=>some r) (fun e=>some e.1)
def gI (b:Int×(List Bool)×List (List Int)) (c:List Bool) (a:(List Int)×Int):Option PW:=
 if decide (a.2<(b.2.1.length:Int)) then ((aQ b.2.1 a.2).bind fun d=>Option.bind ((if d then (some 1) else (some 0):Option Int)) (fun e=>(aQ c a.2).bind fun f=>Option.bind ((if f then (some e) else (some (-1)):Option Int)) (fun g=>(bM 8 a.1 ([g])).bind fun h=>some (.nxt (h,i64.wrap (a.2+1)))))) else (some (.brk (a.1,a.2)))
def gJ (b:(List (List Int))×(List Int)×Int) (c:List Int) (a:Int×Int):Option (Out (List Int) (Int×Int)):=
 if decide (a.2<(b.1.length:Int)) then (Option.bind (((aQ b.1 a.2).bind fun d=>(oL d c).bind fun e=>if e==0 then (some a.2) else (some a.1):Option Int)) (fun f=>some (.nxt (f,i64.wrap (a.2+1))))) else (some (.brk (a.1,a.2)))
def gK (b:Int×(List Bool)×List (List Int)) (c:(List Int)×Int) (a:(List (List Int))×(List Int)×Int):Option (Out (List Int) ((List (List Int))×(List Int)×Int)):=
 if decide (a.2.2<(b.2.1.length:Int)) then (Option.bind (((aQ c.1 a.2.2).bind fun h=>if decide (h<0) then ((bM 8 a.2.1 ([(-1)])).bind fun i=>some (a.1,i)) else ((ql (b.1,b.2.1,b.2.2) c.1 a.2.2).bind fun d=>aO (aA (gJ a d) aT ((-1),0)) (fun l=>none) (fun e=>Option.bind ((if decide (e.1<0) then ((bM 24 a.1 ([d])).bind fun j=>some (j,(a.1.length:Int))) else (some (a.1,e.1)):Option ((List (List Int))×Int))) (fun f=>(bM 8 a.2.1 ([f.2])).bind fun k=>some (f.1,k)))):Option ((List (List Int))×List Int))) (fun g=>some (.nxt (g.1,g.2,i64.wrap (a.2.2+1))))) else (some (.brk (a.1,a.2.1,a.2.2)))
def mq (b:Int×(List Bool)×List (List Int)) (a:(List Int)×Int):Option PW:=
 if decide (a.2<=(b.2.1.length:Int)) then (aO (aA (gK b a) aT (([] :List (List Int)),([] :List Int),0)) (fun d=>some (.ret d)) (fun c=>(oL c.2.1 a.1).bind fun e=>if e==0 then (some (.ret a.1)) else (some (.nxt (c.2.1,i64.wrap (a.2+1)))))) else (some (.brk (a.1,a.2)))
def j8 (a:Int×(List Bool)×List (List Int)):Option (List Int):=
 (mo (a.1,a.2.1,a.2.2)).bind fun b=>aO (aA (gI a b) aT (([] :List Int),0)) (fun c=>some c) (fun d=>aO (aA (mq a) aT (d.1,0)) (fun e=>some e) (fun f=>some f.1))
def gL (a:Int×(List Bool)×(List (List Int))):Option Yq2:=
 (j8 (a.1,a.2.1,a.2.2)).bind fun c=>(mo (a.1,a.2.1,a.2.2)).bind fun d=>(jL (a.1,a.2.1,a.2.2) c d).bind fun b=>some (b.1,b.2.1,b.2.2)
def m_s_CompileExpr (d:(List Yq1)):Option (Yq2×Bool):=
 (dA d).bind fun a=>if a.2 then ((dZ (a.1.1,a.1.2.1,a.1.2.2.1,a.1.2.2.2.1,a.1.2.2.2.2) 200).bind fun b=>if b.2 then ((gL (b.1.1,b.1.2.1,b.1.2.2)).bind fun c=>if decide ((c.2.1.length:Int)>12) then (some ((0,[],[]),false)) else (some ((c.1,c.2.1,c.2.2),true))) else (some ((0,[],[]),false))) else (some ((0,[],[]),false))
def gA (b:Int×(List Bool)×(List (List Int))) (c:Int×(List Bool)×(List (List Int))) (a:Int):Option (Out Bool Int):=
 if decide (a<(b.2.1.length:Int)) then ((aQ b.2.1 a).bind fun d=>(aQ c.2.1 a).bind fun e=>if d !=e then (some (.ret false)) else (some (.nxt (i64.wrap (a+1))))) else (some (.brk a))
def gB (b:Int×(List Bool)×(List (List Int))) (c:Int×(List Bool)×(List (List Int))) (a:Int):Option (Out Bool Int):=
 if decide (a<(b.2.2.length:Int)) then ((aQ b.2.2 a).bind fun d=>(aQ c.2.2 a).bind fun e=>(oL d e).bind fun f=>if f !=0 then (some (.ret false)) else (some (.nxt (i64.wrap (a+1))))) else (some (.brk a))
def gM (a:Int×(List Bool)×(List (List Int))) (b:Int×(List Bool)×(List (List Int))):Option Bool:=
 if a.1 !=b.1 then (some false) else (if (a.2.1.length:Int) !=(b.2.1.length:Int) then (some false) else (if (a.2.2.length:Int) !=(b.2.2.length:Int) then (some false) else (aO (aA (gA a b) aT 0) (fun r=>some r) (fun c=>aO (aA (gB a b) aT 0) (fun r=>some r) (fun d=>some true)))))
def eE (d:List Yq2) (b:Int×(List Bool)×(List (List Int))) (a:Int):Option (Out Int Int):=
 if decide (a<(d.length:Int)) then ((aQ d a).bind fun c=>(gM (c.1,c.2.1,c.2.2) (b.1,b.2.1,b.2.2)).bind fun e=>if e then (some (.ret a)) else (some (.nxt (i64.wrap (a+1))))) else (some (.brk a))
def fg (a:List Yq2) (b:Int×(List Bool)×(List (List Int))):Option Int:=
 aO (aA (eE a b) aT 0) (fun r=>some r) (fun c=>some (-1))
def bA (c:List Yq3) (a:Int×(List Yq2)×(List Yq3)):Option (Out (RO×Bool) Ts):=
 if decide (a.1<(c.length:Int)) then ((aQ c a.1).bind fun h=>(m_s_CompileExpr h.2.1).bind fun b=>if b.2 then ((aQ c a.1).bind fun i=>(dq i.1 1 99).bind fun j=>if j then (if decide (a.1>0) then ((aQ c (i64.wrap (a.1 - 1))).bind fun k=>(aQ c a.1).bind fun l=>if decide (k.1≥l.1) then (some (.ret (([],[]),false))) else ((fg a.2.1 (b.1.1,b.1.2.1,b.1.2.2)).bind fun f=>Option.bind ((if decide (f<0) then ((bM 56 a.2.1 ([(b.1.1,b.1.2.1,b.1.2.2)])).bind fun m=>some ((a.2.1.length:Int),m,a.2.2)) else (some (f,a.2.1,a.2.2)):Option Ts)) (fun d=>(aQ c a.1).bind fun n=>(aQ c a.1).bind fun o=>(fM o.2.1).bind fun p=>(bM 40 d.2.2 ([(n.1,p,d.1)])).bind fun q=>some (.nxt (i64.wrap (a.1+1),d.2.1,q))))) else ((fg a.2.1 (b.1.1,b.1.2.1,b.1.2.2)).bind fun g=>Option.bind ((if decide (g<0) then ((bM 56 a.2.1 ([(b.1.1,b.1.2.1,b.1.2.2)])).bind fun r=>some ((a.2.1.length:Int),r,a.2.2)) else (some (g,a.2.1,a.2.2)):Option Ts)) (fun e=>(aQ c a.1).bind fun s=>(aQ c a.1).bind fun t=>(fM t.2.1).bind fun u=>(bM 40 e.2.2 ([(s.1,u,e.1)])).bind fun v=>some (.nxt (i64.wrap (a.1+1),e.2.1,v))))) else (some (.ret (([],[]),false)))) else (some (.ret (([],[]),false)))) else (some (.brk (a.1,a.2.1,a.2.2)))
def cH (a:List Yq3):Option (RO×Bool):=
 if decide ((a.length:Int)>4) then (some (([],[]),false)) else (aO (aA (bA a) aT (0,[],[])) (fun r=>some r) (fun b=>some ((b.2.1,b.2.2),true)))
def jM (d:(List Yq1)) (e:(List Yq1)) (a:Int):Option (Out Bool Int):=
 if decide (a<(d.length:Int)) then ((aQ d a).bind fun b=>(aQ e a).bind fun c=>if (b.1==c.1)&&((b.2.1==c.2.1)&&((b.2.2.1==c.2.2.1)&&((b.2.2.2==c.2.2.2)&&true))) then (some (.nxt (i64.wrap (a+1)))) else (some (.ret false))) else (some (.brk a))
def mO (a:(List Yq1)) (b:(List Yq1)):Option Bool:=
 if (a.length:Int) !=(b.length:Int) then (some false) else (aO (aA (jM a b) aT 0) (fun r=>some r) (fun c=>some true))
def fG (d:(List Yq2)×(List Yq3)) (e:(List Yq2)×(List Yq3)) (a:Int):Option (Out Bool Int):=
 if decide (a<(d.1.length:Int)) then ((aQ d.1 a).bind fun b=>(aQ e.1 a).bind fun c=>(gM (b.1,b.2.1,b.2.2) (c.1,c.2.1,c.2.2)).bind fun f=>if f then (some (.nxt (i64.wrap (a+1)))) else (some (.ret false))) else (some (.brk a))
def fH (b:(List Yq2)×(List Yq3)) (c:(List Yq2)×(List Yq3)) (a:Int):Option (Out Bool Int):=
 if decide (a<(b.2.length:Int)) then ((aQ b.2 a).bind fun d=>(aQ c.2 a).bind fun e=>if d.1 !=e.1 then (some (.ret false)) else ((aQ b.2 a).bind fun f=>(aQ c.2 a).bind fun g=>(mO f.2.1 g.2.1).bind fun h=>if h then ((aQ b.2 a).bind fun i=>(aQ c.2 a).bind fun j=>if i.2.2 !=j.2.2 then (some (.ret false)) else (some (.nxt (i64.wrap (a+1))))) else (some (.ret false)))) else (some (.brk a))
def ig (a:(List Yq2)×(List Yq3)) (b:(List Yq2)×(List Yq3)):Option Bool:=
 if (a.1.length:Int) !=(b.1.length:Int) then (some false) else (if (a.2.length:Int) !=(b.2.length:Int) then (some false) else (aO (aA (fG a b) aT 0) (fun r=>some r) (fun c=>aO (aA (fH a b) aT 0) (fun r=>some r) (fun d=>some true))))
def cq (a:(List Yq2)×(List Yq3)):Option Bool:=
 (cH a.2).bind fun b=>if b.2 then ((ig (b.1.1,b.1.2) (a.1,a.2)).bind fun c=>some c) else (some false)
def fN (b:(List Yq2)×(List Yq3)) (c:Int) (a:Int):Option (Out Int Int):=
 if decide (a<(b.2.length:Int)) then ((aQ b.2 a).bind fun d=>if d.1==c then (some (.ret a)) else (some (.nxt (i64.wrap (a+1))))) else (some (.brk a))
def ij (a:(List Yq2)×(List Yq3)) (b:Int):Option Int:=
 aO (aA (fN a b) aT 0) (fun r=>some r) (fun c=>some (-1))
def j9 (b:Int×(List Bool)×(List (List Int))) (a:Int×Int×(List Bool)×(List (List Int))):Option (Out Yq2 (Int×Int×(List Bool)×(List (List Int)))):=
 if decide (a.1<(b.2.2.length:Int)) then ((aQ b.2.2 a.1).bind fun c=>(bM 8 ([] :List Int) c).bind fun d=>(bM 24 a.2.2.2 ([d])).bind fun e=>some (.nxt (i64.wrap (a.1+1),a.2.1,a.2.2.1,e))) else (some (.brk (a.1,a.2.1,a.2.2.1,a.2.2.2)))
def oM (a:Int×(List Bool)×(List (List Int))):Option Yq2:=
 (bM 1 ([] :List Bool) a.2.1).bind fun c=>aO (aA (j9 a) aT (0,a.1,c,[])) (fun r=>some r) (fun b=>some (b.2.1,b.2.2.1,b.2.2.2))
def ke (d:(List Yq2)×(List Yq3)) (a:Int×(List Yq2)×(List Yq3)):Option (Out RO Ts):=
 if decide (a.1<(d.1.length:Int)) then ((aQ d.1 a.1).bind fun b=>(oM (b.1,b.2.1,b.2.2)).bind fun c=>(bM 56 a.2.1 ([(c.1,c.2.1,c.2.2)])).bind fun e=>some (.nxt (i64.wrap (a.1+1),e,a.2.2))) else (some (.brk (a.1,a.2.1,a.2.2)))
def kg (c:(List Yq2)×(List Yq3)) (a:Int×(List Yq2)×(List Yq3)):Option (Out RO Ts):=
 if decide (a.1<(c.2.length:Int)) then ((aQ c.2 a.1).bind fun b=>(fM b.2.1).bind fun d=>(bM 40 a.2.2 ([(b.1,d,b.2.2)])).bind fun e=>some (.nxt (i64.wrap (a.1+1),a.2.1,e))) else (some (.brk (a.1,a.2.1,a.2.2)))
def mr (a:(List Yq2)×(List Yq3)):Option RO:=
 aO (aA (ke a) aT (0,[],[])) (fun r=>some r) (fun b=>aO (aA (kg a) aT (0,b.2.1,b.2.2)) (fun r=>some r) (fun c=>some (c.2.1,c.2.2)))
def nI (b:(List Yq2)×(List Yq3)) (c:Int) (a:Int):Option (Out (RO×Bool) Int):=
 if decide (a<(b.2.length:Int)) then ((aQ b.2 a).bind fun d=>if decide (d.1<c) then (some (.nxt (i64.wrap (a+1)))) else (some (.brk a))) else (some (.brk a))
def gN (a:(List Yq2)×(List Yq3)) (c:Int) (h:(List Yq1)):Option (RO×Bool):=
 (cq (a.1,a.2)).bind fun i=>if i then ((ij (a.1,a.2) c).bind fun j=>if decide (j≥0) then ((mr (a.1,a.2)).bind fun e=>some ((e.1,e.2),false)) else (aO (aA (nI a c) aT 0) (fun r=>some r) (fun b=>(chk (0<=b/\b<=(a.2.length:Int))).bind fun _=>(bM 40 ([] :List Yq3) (a.2.take b.toNat)).bind fun k=>(bM 40 k ([(c,h,0)])).bind fun l=>(chk (0<=b/\b<=(a.2.length:Int))).bind fun _=>(bM 40 l (a.2.drop b.toNat)).bind fun m=>(cH m).bind fun d=>if d.2 then (some ((d.1.1,d.1.2),true)) else ((mr (a.1,a.2)).bind fun f=>some ((f.1,f.2),false))))) else ((mr (a.1,a.2)).bind fun g=>some ((g.1,g.2),false))
def Gn (b:ByteArray) (d:Int) (a:(List ByteArray)×Int×Int):Option (Out (List ByteArray) ((List ByteArray)×Int×Int)):=
 if decide (a.2.2<((b.size:Nat):Int)) then (Option.bind (((HU b a.2.2).bind fun e=>if e==d then ((Vj b a.2.1 a.2.2).bind fun f=>(bM 16 a.1 ([f])).bind fun g=>some (g,i64.wrap (a.2.2+1))) else (some (a.1,a.2.1)):Option ((List ByteArray)×Int))) (fun c=>some (.nxt (c.1,c.2,i64.wrap (a.2.2+1))))) else (some (.brk (a.1,a.2.1,a.2.2)))
def Gp (a:ByteArray) (c:Int):Option (List ByteArray):=
 aO (aA (Gn a c) aT (([] :List ByteArray),0,0)) (fun d=>some d) (fun b=>(Vj a b.2.1 ((a.size:Nat):Int)).bind fun e=>(bM 16 b.1 ([e])).bind fun f=>some f)
def nA (a:Int):Option ByteArray:=
 (na a).bind fun b=>if b then ((aQ ([(⟨#[97]⟩:ByteArray),(⟨#[97,45]⟩:ByteArray),(⟨#[98]⟩:ByteArray),(⟨#[98,45]⟩:ByteArray),(⟨#[99]⟩:ByteArray),(⟨#[99,45]⟩:ByteArray),(⟨#[48]⟩:ByteArray),(⟨#[49]⟩:ByteArray),(⟨#[50]⟩:ByteArray)]) a).bind fun c=>some c) else (some (⟨#[]⟩:ByteArray))
def zf (a:Int×ByteArray):Option (Out ByteArray (Int×ByteArray)):=
 if a.1 !=0 then (Option.bind ((if decide ((Int.tmod a.1 10)<0) then (some (i64.wrap (-(Int.tmod a.1 10)))) else (some (Int.tmod a.1 10)):Option Int)) (fun b=>(Vi (Az ([IntKind.u8.wrap (i64.wrap (48+b))])) a.2).bind fun c=>some (.nxt (He a.1 10,c)))) else (some (.brk (a.1,a.2)))
def re (a:Int):Option ByteArray:=
 if a==0 then (some (⟨#[48]⟩)) else (aO (aA (zf) aT (a,(⟨#[]⟩:ByteArray))) (fun c=>some c) (fun b=>if decide (a<0) then ((Vi (⟨#[45]⟩) b.2).bind fun d=>some d) else (some b.2)))
def AR (a:Int×Int×Int×Int):Option ByteArray:=
 if a.1==1 then (some (⟨#[33]⟩)) else (if a.1==2 then (some (⟨#[40,41]⟩)) else (if a.1==3 then ((nA a.2.1).bind fun b=>some b) else (if a.1==4 then (some (⟨#[46]⟩)) else (if a.1==5 then (some (⟨#[124]⟩)) else (if a.1==6 then (some (⟨#[42]⟩)) else ((re a.2.2.1).bind fun c=>(Vi (⟨#[123]⟩) c).bind fun d=>(Vi d (⟨#[44]⟩)).bind fun e=>(re a.2.2.2).bind fun f=>(Vi e f).bind fun g=>(Vi g (⟨#[125]⟩)).bind fun h=>some h))))))
def wv (b:ByteArray) (a:Int):Option (Out (Int×Bool) Int):=
 if decide (a<9) then ((nA a).bind fun c=>if c==b then (some (.ret (a,true))) else (some (.nxt (i64.wrap (a+1))))) else (some (.brk a))
def sw (a:ByteArray):Option (Int×Bool):=
 aO (aA (wv a) aT 0) (fun r=>some r) (fun b=>some (0,false))
def Ej (b:ByteArray) (a:Int):Option (Out Yq1 Int):=
 if decide (a<=6) then (if a !=3 then ((AR (a,0,0,0)).bind fun c=>if c==b then (some (.ret (a,0,0,0))) else (some (.nxt (i64.wrap (a+1))))) else (some (.nxt (i64.wrap (a+1))))) else (some (.brk a))
def CY (a:ByteArray):Option Yq1:=
 aO (aA (Ej a) aT 1) (fun c=>some c) (fun i=>(sw a).bind fun b=>if b.2 then (some (3,b.1,0,0)) else (if ((a.size:Nat):Int)==5 then ((HU a 0).bind fun d=>if d==123 then ((HU a 2).bind fun e=>if e==44 then ((HU a 4).bind fun f=>if f==125 then ((HU a 1).bind fun g=>(HU a 3).bind fun h=>some (7,0,i64.wrap ((i64.wrap g) - 48),i64.wrap ((i64.wrap h) - 48))) else (some (0,0,0,0))) else (some (0,0,0,0))) else (some (0,0,0,0))) else (some (0,0,0,0))))
def zg (c:List ByteArray) (a:Int×(List Yq1)):Option (Out (((List Yq1))×Bool) (Int×(List Yq1))):=
 if decide (a.1<(c.length:Int)) then (if decide (a.1<=24) then ((aQ c a.1).bind fun d=>(CY d).bind fun b=>(bM 32 a.2 ([(b.1,b.2.1,b.2.2.1,b.2.2.2)])).bind fun e=>some (.nxt (i64.wrap (a.1+1),e))) else (some (.brk (a.1,a.2)))) else (some (.brk (a.1,a.2)))
def jN (b:ByteArray):Option (((List Yq1))×Bool):=
 (Gp b 32).bind fun c=>aO (aA (zg c) aT (0,[])) (fun r=>some r) (fun a=>(jf a.2).bind fun d=>if d then (some (a.2,true)) else (some ([],false)))
def tG (a:(List Int)×Int×Int) (c:List ByteArray):Option (ByteArray×Int×Int):=
 (aL (a.1,a.2.1,a.2.2) (c.length:Int)).bind fun b=>(aQ c b.1).bind fun d=>some (d,b.2.1,b.2.2)
def oN (a:(List Int)×Int×Int):Option ((List Yq1)×Int×Int):=
 (tG (a.1,a.2.1,a.2.2) ([⟨#[97]⟩,⟨#[97,32,98,32,46]⟩,⟨#[97,32,42]⟩,⟨#[97,32,98,32,124,32,42]⟩,⟨#[97,32,97,45,32,46]⟩,⟨#[97,32,42,32,98,32,46]⟩,⟨#[97,32,98,32,42,32,46,32,99,32,46]⟩,⟨#[97,32,97,32,124,32,42]⟩,⟨#[97,32,98,32,46,32,42]⟩,⟨#[48,32,97,32,46,32,42]⟩,⟨#[97,32,49,32,46,32,98,32,46]⟩,⟨#[97,32,123,48,44,50,125]⟩,⟨#[97,32,98,32,124,32,123,49,44,51,125]⟩,⟨#[40,41]⟩,⟨#[33]⟩,⟨#[97,45,32,42,32,97,32,46]⟩,⟨#[97,32,98,45,32,46,32,42,32,99,32,124]⟩,⟨#[97,32,42,32,97,32,42,32,46]⟩,⟨#[97,32,48,32,124,32,42,32,98,32,46]⟩,⟨#[97,32,97,32,46,32,42]⟩,⟨#[97,32,98,32,46,32,98,32,97,32,46,32,124,32,42]⟩])).bind fun b=>(jN b.1).bind fun c=>some (c.1,b.2.1,b.2.2)
def eN (d:(List Int)×Int×Int) (a:Int×Int×Int×(List Yq6)×List Lp):Option (Out (((List Yq6)×List Lp)×Int×Int) (Int×Int×Int×(List Yq6)×List Lp)):=
 if decide (a.1>0) then ((aL (d.1,a.2.1,a.2.2.1) 6).bind fun b=>(oN (d.1,b.2.1,b.2.2)).bind fun c=>(gN (a.2.2.2.1,a.2.2.2.2) (i64.wrap (1+b.1)) c.1).bind fun e=>some (.nxt (i64.wrap (a.1 - 1),c.2.1,c.2.2,e.1.1,e.1.2))) else (some (.brk (a.1,a.2.1,a.2.2.1,a.2.2.2.1,a.2.2.2.2)))
def jj (a:(List Int)×Int×Int):Option (((List Yq6)×List Lp)×Int×Int):=
 (aL (a.1,a.2.1,a.2.2) 3).bind fun c=>aO (aA (eN a) aT (i64.wrap (1+c.1),c.2.1,c.2.2,([] :List Yq6),([] :List Lp))) (fun d=>some d) (fun b=>some ((b.2.2.2.1,b.2.2.2.2),b.2.1,b.2.2.1))
def ug (a:Int):Option (List Yq1):=
 some ([(3,a,0,0)])
def eO:Nat->((List Int)×Int×Int)->Int->Option ((List Yq1)×Int×Int)
 | 0,_,_=>none
 | n+1,p0,p1 =>
  if p1==0 then ((bu (p0.1,p0.2.1,p0.2.2) 12).bind fun b=>if b.1 then ((bq (p0.1,b.2.1,b.2.2) ([1,2])).bind fun d=>(oh d.1).bind fun m=>some (m,d.2.1,d.2.2)) else ((bq (p0.1,b.2.1,b.2.2) ([0,0,2,2,1,4,3,6,7])).bind fun e=>(ug e.1).bind fun o=>some (o,e.2.1,e.2.2))) else ((aL (p0.1,p0.2.1,p0.2.2) 6).bind fun a=>Option.bind ((if a.1==0 then (some (a.1==0)) else (some (a.1==1)):Option Bool)) (fun p=>if p then (((eO n) (p0.1,a.2.1,a.2.2) (i64.wrap (p1 - 1))).bind fun f=>((eO n) (p0.1,f.2.1,f.2.2) (i64.wrap (p1 - 1))).bind fun g=>(fl f.1 g.1 (4,0,0,0)).bind fun q=>some (q,g.2.1,g.2.2)) else (Option.bind ((if a.1==2 then (some (a.1==2)) else (some (a.1==3)):Option Bool)) (fun r=>if r then (((eO n) (p0.1,a.2.1,a.2.2) (i64.wrap (p1 - 1))).bind fun h=>((eO n) (p0.1,h.2.1,h.2.2) (i64.wrap (p1 - 1))).bind fun i=>(fl h.1 i.1 (5,0,0,0)).bind fun s=>some (s,i.2.1,i.2.2)) else (if a.1==4 then (((eO n) (p0.1,a.2.1,a.2.2) (i64.wrap (p1 - 1))).bind fun j=>(fl j.1 ([] :List Yq1) (6,0,0,0)).bind fun t=>some (t,j.2.1,j.2.2)) else ((aL (p0.1,a.2.1,a.2.2) 3).bind fun c=>((eO n) (p0.1,c.2.1,c.2.2) (i64.wrap (p1 - 1))).bind fun k=>(aL (p0.1,k.2.1,k.2.2) (i64.wrap ((i64.wrap (1+c.1))+1))).bind fun l=>(fl k.1 ([] :List Yq1) (7,0,l.1,i64.wrap (1+c.1))).bind fun u=>some (u,l.2.1,l.2.2)))))))
def tH (a:(List Int)×Int×Int):Option ((List Yq1)×Int×Int):=
 (bu (a.1,a.2.1,a.2.2) 2).bind fun b=>if b.1 then ((oN (a.1,b.2.1,b.2.2)).bind fun c=>some (c.1,c.2.1,c.2.2)) else ((aL (a.1,b.2.1,b.2.2) 3).bind fun d=>(eO fJ (a.1,d.2.1,d.2.2) (i64.wrap (1+d.1))).bind fun e=>some (e.1,e.2.1,e.2.2))
def iB (e:(List Int)×Int×Int) (f:Int×Int×Int) (a:(List Int)×Int×Int×Int):Option (Out (Yq6×Int×Int) ((List Int)×Int×Int×Int)):=
 if decide (a.2.1<9) then ((bu (e.1,a.2.2.1,a.2.2.2) 3).bind fun b=>Option.bind ((if b.1 then (some ((-1),b.2.1,b.2.2)) else ((aL (e.1,b.2.1,b.2.2) (i64.wrap (1+f.1))).bind fun c=>some (c.1,c.2.1,c.2.2)):Option (Int×Int×Int))) (fun d=>Option.bind ((if decide (a.2.1>3) then (some (-1)) else (some d.1):Option Int)) (fun g=>(bM 8 a.1 ([g])).bind fun h=>some (.nxt (h,i64.wrap (a.2.1+1),d.2.1,d.2.2))))) else (some (.brk (a.1,a.2.1,a.2.2.1,a.2.2.2)))
def kz (d:(List Int)×Int×Int) (e:Int×Int×Int) (a:Int×Int×(List Bool)×(List (List Int))×Int×Int):Option (Out (Yq6×Int×Int) (Int×Int×(List Bool)×(List (List Int))×Int×Int)):=
 if decide (a.1<(i64.wrap (1+e.1))) then (aO (aA (iB d e) aT (([] :List Int),0,a.2.2.2.2.1,a.2.2.2.2.2)) (fun f=>some (.ret f)) (fun b=>(bu (d.1,b.2.2.1,b.2.2.2) 3).bind fun c=>(bM 1 a.2.2.1 ([c.1])).bind fun g=>(bM 24 a.2.2.2.1 ([b.1])).bind fun h=>some (.nxt (i64.wrap (a.1+1),a.2.1,g,h,c.2.1,c.2.2)))) else (some (.brk (a.1,a.2.1,a.2.2.1,a.2.2.2.1,a.2.2.2.2.1,a.2.2.2.2.2)))
def lG (a:(List Int)×Int×Int):Option (Yq6×Int×Int):=
 (aL (a.1,a.2.1,a.2.2) 4).bind fun c=>(aL (a.1,c.2.1,c.2.2) (i64.wrap (1+c.1))).bind fun d=>aO (aA (kz a c) aT (0,d.1,([] :List Bool),([] :List (List Int)),d.2.1,d.2.2)) (fun e=>some e) (fun b=>some ((b.2.1,b.2.2.1,b.2.2.2.1),b.2.2.2.2.1,b.2.2.2.2.2))
def tI (a:(List Int)×Int×Int):Option (Yq6×Int×Int):=
 (bu (a.1,a.2.1,a.2.2) 3).bind fun b=>if b.1 then ((lG (a.1,b.2.1,b.2.2)).bind fun c=>some ((c.1.1,c.1.2.1,c.1.2.2),c.2.1,c.2.2)) else ((tH (a.1,b.2.1,b.2.2)).bind fun d=>(dA d.1).bind fun e=>(dZ (e.1.1,e.1.2.1,e.1.2.2.1,e.1.2.2.2.1,e.1.2.2.2.2) 12).bind fun g=>if g.2 then (some ((g.1.1,g.1.2.1,g.1.2.2),d.2.1,d.2.2)) else ((lG (a.1,d.2.1,d.2.2)).bind fun f=>some ((f.1.1,f.1.2.1,f.1.2.2),f.2.1,f.2.2)))
def oi (c:(List Int)×Int×Int):Option (((List Yq6)×List Lp)×Int×Int):=
 (jj (c.1,c.2.1,c.2.2)).bind fun a=>(aL (c.1,a.2.1,a.2.2) 16).bind fun b=>Option.bind ((if b.1==0 then (if decide ((a.1.2.length:Int)>0) then ((aL (c.1,b.2.1,b.2.2) 3).bind fun f=>(aQ a.1.2 0).bind fun h=>some (f.2.1,f.2.2,a.1.1,a.1.2.set 0 (h.1,h.2.1,f.1))) else (some (b.2.1,b.2.2,a.1.1,a.1.2))) else (if b.1==1 then (if decide ((a.1.2.length:Int)>0) then ((bq (c.1,b.2.1,b.2.2) ([0,100,99])).bind fun g=>(aQ a.1.2 0).bind fun i=>some (g.2.1,g.2.2,a.1.1,a.1.2.set 0 (g.1,i.2))) else (some (b.2.1,b.2.2,a.1.1,a.1.2))) else (if b.1==2 then ((tI (c.1,b.2.1,b.2.2)).bind fun d=>(bM 56 a.1.1 ([(d.1.1,d.1.2.1,d.1.2.2)])).bind fun j=>some (d.2.1,d.2.2,j,a.1.2)) else (some (b.2.1,b.2.2,a.1.1,a.1.2)))):Option (Int×Int×(List Yq6)×List Lp))) (fun e=>some ((e.2.2.1,e.2.2.2),e.1,e.2.1))
def qm (a:(List Int)×Int×Int) (c:(List Yq6)×List Lp):Option (Int×Int×Int):=
 if decide ((c.2.length:Int)>0) then ((bu (a.1,a.2.1,a.2.2) 4).bind fun b=>if b.1 then ((bq (a.1,b.2.1,b.2.2) ([0,1,2,3,4,99,100])).bind fun d=>some (d.1,d.2.1,d.2.2)) else ((aL (a.1,b.2.1,b.2.2) (c.2.length:Int)).bind fun e=>(aQ c.2 e.1).bind fun g=>some (g.1,e.2.1,e.2.2))) else ((bq (a.1,a.2.1,a.2.2) ([0,1,2,3,4,99,100])).bind fun f=>some (f.1,f.2.1,f.2.2))
def eh (c:(List Int)×Int×Int) (a:Int×Int×Int×(List Int)×List Yq1):Option (Out (Yq8×Int×Int) (Int×Int×Int×(List Int)×List Yq1)):=
 if decide (a.1>0) then ((aL (c.1,a.2.1,a.2.2.1) 3).bind fun b=>(bM 8 a.2.2.2.1 ([b.1])).bind fun d=>some (.nxt (i64.wrap (a.1 - 1),b.2.1,b.2.2,d,a.2.2.2.2))) else (some (.brk (a.1,a.2.1,a.2.2.1,a.2.2.2.1,a.2.2.2.2)))
def gj (b:(List Int)×Int×Int) (a:Int×Int×Int×Int×(List Int)×List Yq1):Option (Out (Yq8×Int×Int) (Int×Int×Int×Int×(List Int)×List Yq1)):=
 if decide (a.2.1>0) then ((aL (b.1,a.2.2.1,a.2.2.2.1) 3).bind fun c=>(aL (b.1,c.2.1,c.2.2) (a.2.2.2.2.1.length:Int)).bind fun d=>(aL (b.1,d.2.1,d.2.2) (a.2.2.2.2.1.length:Int)).bind fun e=>(bq (b.1,e.2.1,e.2.2) ([0,0,1,2])).bind fun f=>(bM 32 a.2.2.2.2.2 ([(i64.wrap ((i64.wrap (a.1+1))+c.1),d.1,e.1,f.1)])).bind fun g=>some (.nxt (i64.wrap ((i64.wrap (a.1+1))+c.1),i64.wrap (a.2.1 - 1),f.2.1,f.2.2,a.2.2.2.2.1,g))) else (some (.brk (a.1,a.2.1,a.2.2.1,a.2.2.2.1,a.2.2.2.2.1,a.2.2.2.2.2)))
def kI (a:(List Int)×Int×Int):Option (Yq8×Int×Int):=
 (bq (a.1,a.2.1,a.2.2) ([2,3,4,4,5])).bind fun d=>aO (aA (eh a) aT (d.1,d.2.1,d.2.2,([] :List Int),([] :List Yq1))) (fun g=>some g) (fun b=>(bq (a.1,b.2.1,b.2.2.1) ([4,8,11])).bind fun e=>(aL (a.1,e.2.1,e.2.2) e.1).bind fun f=>aO (aA (gj a) aT (0,f.1,f.2.1,f.2.2,b.2.2.2.1,b.2.2.2.2)) (fun h=>some h) (fun c=>some ((c.2.2.2.2.1,c.2.2.2.2.2),c.2.2.1,c.2.2.2.1)))
def qn (b:(List Int)×(List Yq1)) (a:Int×Int×Int×Int):Option Bool:=
 (dq a.1 1 99).bind fun c=>if c then ((dq a.2.1 0 (i64.wrap ((b.1.length:Int) - 1))).bind fun d=>if d then ((dq a.2.2.1 0 (i64.wrap ((b.1.length:Int) - 1))).bind fun e=>if e then ((dq a.2.2.2 0 2).bind fun f=>some f) else (some false)) else (some false)) else (some false)
def oO (b:(List Int)×(List Yq1)) (a:Int):Option (Out Bool Int):=
 if decide (a<(b.1.length:Int)) then ((aQ b.1 a).bind fun c=>(dq c 0 2).bind fun d=>if d then (some (.nxt (i64.wrap (a+1)))) else (some (.ret false))) else (some (.brk a))
def kJ (b:(List Int)×(List Yq1)) (a:Int):Option (Out Bool Int):=
 if decide (a<(b.2.length:Int)) then ((aQ b.2 a).bind fun c=>(qn (b.1,b.2) (c.1,c.2.1,c.2.2.1,c.2.2.2)).bind fun d=>if d then (if decide (a>0) then ((aQ b.2 (i64.wrap (a - 1))).bind fun e=>(aQ b.2 a).bind fun f=>if decide (e.1≥f.1) then (some (.ret false)) else (some (.nxt (i64.wrap (a+1))))) else (some (.nxt (i64.wrap (a+1))))) else (some (.ret false))) else (some (.brk a))
def bc (a:(List Int)×(List Yq1)):Option Bool:=
 aO (aA (oO a) aT 0) (fun r=>some r) (fun c=>aO (aA (kJ a) aT 0) (fun r=>some r) (fun d=>(dq (a.1.length:Int) 1 5).bind fun b=>if b then (some (decide ((a.2.length:Int)<=12))) else (some false)))
def cn (b:Int×(List Yq5)) (a:Int):Option (Out Bool Int):=
 if decide (a<(b.2.length:Int)) then ((aQ b.2 a).bind fun c=>(bc (c.1,c.2)).bind fun d=>if d then ((aQ b.2 a).bind fun e=>(aQ b.2 0).bind fun f=>(oL e.1 f.1).bind fun g=>if g !=0 then (some (.ret false)) else (some (.nxt (i64.wrap (a+1))))) else (some (.ret false))) else (some (.brk a))
def a8 (a:Int×(List Yq5)):Option Bool:=
 aO (aA (cn a) aT 0) (fun r=>some r) (fun d=>(dq (a.2.length:Int) 1 8).bind fun b=>if b then ((dq a.1 1 (i64.wrap ((i64.wrap (999 - (a.2.length:Int)))+1))).bind fun c=>some c) else (some false))
def bY (a:(List Int)×(List Yq1)):Option Yq5:=
 (bM 8 ([] :List Int) a.1).bind fun b=>(bM 32 ([] :List Yq1) a.2).bind fun c=>some (b,c)
def kh (b:(List Int)×(List Yq1)) (c:Int):Option ((Int×(List Yq5))×Bool):=
 (bY (b.1,b.2)).bind fun a=>(a8 (c,[(a.1,a.2)])).bind fun d=>if d then (some ((c,[(a.1,a.2)]),true)) else (some ((0,[]),false))
def aX (a:Int×(List Yq5)):Option Int:=
 (a8 (a.1,a.2)).bind fun b=>if b then (some (i64.wrap ((i64.wrap (a.1+(a.2.length:Int))) - 1))) else (some 0)
def lH (b:Int×(List Yq5)) (a:Int×Int×(List Yq5)):Option (Out (Int×(List Yq5)) (Int×Int×(List Yq5))):=
 if decide (a.1<(b.2.length:Int)) then ((aQ b.2 a.1).bind fun c=>(bY (c.1,c.2)).bind fun d=>(bM 48 a.2.2 ([(d.1,d.2)])).bind fun e=>some (.nxt (i64.wrap (a.1+1),a.2.1,e))) else (some (.brk (a.1,a.2.1,a.2.2)))
def qo (a:Int×(List Yq5)):Option (Int×(List Yq5)):=
 aO (aA (lH a) aT (0,a.1,[])) (fun r=>some r) (fun b=>some (b.2.1,b.2.2))
def fO (b:(List Int)×(List Yq1)) (c:Int) (a:Int):Option (Out Int Int):=
 if decide (a<(b.2.length:Int)) then ((aQ b.2 a).bind fun d=>if d.1==c then (some (.ret a)) else (some (.nxt (i64.wrap (a+1))))) else (some (.brk a))
def dB (a:(List Int)×(List Yq1)) (b:Int):Option Int:=
 aO (aA (fO a b) aT 0) (fun r=>some r) (fun c=>some (-1))
def jO (b:(List Int)×(List Yq1)) (c:Int×Int×Int×Int) (a:Int):Option (Out (Yq5×Bool) Int):=
 if decide (a<(b.2.length:Int)) then ((aQ b.2 a).bind fun d=>if decide (d.1<c.1) then (some (.nxt (i64.wrap (a+1)))) else (some (.brk a))) else (some (.brk a))
def mP (a:(List Int)×(List Yq1)) (b:Int×Int×Int×Int):Option (Yq5×Bool):=
 (bc (a.1,a.2)).bind fun h=>if h then ((qn (a.1,a.2) (b.1,b.2.1,b.2.2.1,b.2.2.2)).bind fun i=>if i then ((dB (a.1,a.2) b.1).bind fun j=>if decide (j≥0) then ((bY (a.1,a.2)).bind fun d=>some ((d.1,d.2),false)) else (if (a.2.length:Int)==12 then ((bY (a.1,a.2)).bind fun e=>some ((e.1,e.2),false)) else (aO (aA (jO a b) aT 0) (fun r=>some r) (fun c=>(bM 8 ([] :List Int) a.1).bind fun k=>(chk (0<=c/\c<=(a.2.length:Int))).bind fun _=>(bM 32 ([] :List Yq1) (a.2.take c.toNat)).bind fun l=>(bM 32 l ([(b.1,b.2.1,b.2.2.1,b.2.2.2)])).bind fun m=>(chk (0<=c/\c<=(a.2.length:Int))).bind fun _=>(bM 32 m (a.2.drop c.toNat)).bind fun n=>some ((k,n),true))))) else ((bY (a.1,a.2)).bind fun f=>some ((f.1,f.2),false))) else ((bY (a.1,a.2)).bind fun g=>some ((g.1,g.2),false))
def mQ (a:(List Int)×(List Yq1)) (e:Int):Option (Yq5×Bool):=
 (dB (a.1,a.2) e).bind fun b=>(bc (a.1,a.2)).bind fun f=>if f then (if decide (b<0) then ((bY (a.1,a.2)).bind fun c=>some ((c.1,c.2),false)) else ((bM 8 ([] :List Int) a.1).bind fun g=>(chk (0<=b/\b<=(a.2.length:Int))).bind fun _=>(bM 32 ([] :List Yq1) (a.2.take b.toNat)).bind fun h=>(chk (0<=i64.wrap (b+1)/\i64.wrap (b+1)<=(a.2.length:Int))).bind fun _=>(bM 32 h (a.2.drop (i64.wrap (b+1)).toNat)).bind fun i=>some ((g,i),true))) else ((bY (a.1,a.2)).bind fun d=>some ((d.1,d.2),false))
def pY (c:(List Int)×(List Yq1)) (e:(List (Bool×Yq1))) (a:Int×(List Int)×(List Yq1)):Option (Out (Yq5×Bool) (Int×(List Int)×(List Yq1))):=
 if decide (a.1<(e.length:Int)) then (if decide (a.1<=6) then (zW (S:=(List Int)×(List Yq1)) ((aQ e a.1).bind fun b=>(aQ e a.1).bind fun n=>if n.1 then ((mP (a.2.1,a.2.2) (b.2.1,b.2.2.1,b.2.2.2.1,b.2.2.2.2)).bind fun f=>if f.2 then (some (.inr (f.1.1,f.1.2))) else ((bY (c.1,c.2)).bind fun h=>some (.inl (.ret ((h.1,h.2),false))))) else ((dB (a.2.1,a.2.2) b.2.1).bind fun i=>if decide (i<0) then ((bY (c.1,c.2)).bind fun j=>some (.inl (.ret ((j.1,j.2),false)))) else ((aQ a.2.2 i).bind fun d=>if (d.1==b.2.1)&&((d.2.1==b.2.2.1)&&((d.2.2.1==b.2.2.2.1)&&((d.2.2.2==b.2.2.2.2)&&true))) then ((mQ (a.2.1,a.2.2) b.2.1).bind fun g=>if g.2 then (some (.inr (g.1.1,g.1.2))) else ((bY (c.1,c.2)).bind fun k=>some (.inl (.ret ((k.1,k.2),false))))) else ((bY (c.1,c.2)).bind fun l=>some (.inl (.ret ((l.1,l.2),false))))))) (fun m=>some (.nxt (i64.wrap (a.1+1),m.1,m.2)))) else (some (.brk (a.1,a.2.1,a.2.2)))) else (some (.brk (a.1,a.2.1,a.2.2)))
def eS (a:(List Int)×(List Yq1)) (d:(List (Bool×Yq1))):Option (Yq5×Bool):=
 (bY (a.1,a.2)).bind fun b=>aO (aA (pY a d) aT (0,b.1,b.2)) (fun r=>some r) (fun c=>some ((c.2.1,c.2.2),true))
def kj (a:(List Int)×(List Yq1)) (c:(List (Bool×Yq1))):Option (Yq5×Bool):=
 (bc (a.1,a.2)).bind fun f=>if f then (if decide ((c.length:Int)>6) then ((bY (a.1,a.2)).bind fun d=>some ((d.1,d.2),false)) else ((eS (a.1,a.2) c).bind fun b=>some ((b.1.1,b.1.2),b.2))) else ((bY (a.1,a.2)).bind fun e=>some ((e.1,e.2),false))
def jk (b:Int×List Yq8) (g:List PX):Option ((Int×List Yq8)×Bool):=
 (qo (b.1,b.2)).bind fun a=>(a8 (b.1,b.2)).bind fun h=>if h then ((aX (b.1,b.2)).bind fun i=>if i==999 then (some ((a.1,a.2),false)) else ((aQ b.2 (i64.wrap ((b.2.length:Int) - 1))).bind fun e=>(kj (e.1,e.2) g).bind fun d=>if d.2 then ((bM 48 a.2 ([(d.1.1,d.1.2)])).bind fun c=>Option.bind ((if decide ((c.length:Int)>8) then ((chk (And ((0:Int)<=1) (1<=(c.length:Int)))).bind fun _=>some (i64.wrap (a.1+1),c.drop 1)) else (some (a.1,c)):Option (Int×List Yq8))) (fun f=>some ((f.1,f.2),true))) else (some ((a.1,a.2),false)))) else (some ((a.1,a.2),false))
def qp (b:(List Int)×Int×Int) (k:(List Int)×List Yq1):Option (Yq1×Int×Int):=
 (aL (b.1,b.2.1,b.2.2) 40).bind fun e=>(aL (b.1,e.2.1,e.2.2) (Max.max 1 (k.1.length:Int))).bind fun c=>(aL (b.1,c.2.1,c.2.2) (Max.max 1 (k.1.length:Int))).bind fun f=>(aL (b.1,f.2.1,f.2.2) 3).bind fun g=>(aL (b.1,g.2.1,g.2.2) 16).bind fun a=>Option.bind ((if a.1==0 then ((bq (b.1,a.2.1,a.2.2) ([0,99,100])).bind fun h=>some (h.2.1,h.2.2,h.1,c.1,f.1,g.1)) else (if a.1==1 then ((bq (b.1,a.2.1,a.2.2) ([(-1),5])).bind fun i=>some (i.2.1,i.2.2,i64.wrap (1+e.1),c.1,i.1,g.1)) else (if a.1==2 then ((bq (b.1,a.2.1,a.2.2) ([(-1),3])).bind fun j=>some (j.2.1,j.2.2,i64.wrap (1+e.1),c.1,f.1,j.1)) else (some (a.2.1,a.2.2,i64.wrap (1+e.1),c.1,f.1,g.1)))):Option (Int×Int×Int×Int×Int×Int))) (fun d=>some ((d.2.2.1,d.2.2.2.1,d.2.2.2.2.1,d.2.2.2.2.2),d.1,d.2.1))
def iI (f:(List Int)×Int×Int) (a:Int×Int×Int×(List Int)×(List Yq1)×List PX):Option (Out ((List PX)×Int×Int) (Int×Int×Int×(List Int)×(List Yq1)×List PX)):=
 if decide (a.1>0) then (Option.bind (((qp (f.1,a.2.1,a.2.2.1) (a.2.2.2.1,a.2.2.2.2.1)).bind fun b=>if decide ((a.2.2.2.2.1.length:Int)>0) then ((bu (f.1,b.2.1,b.2.2) 2).bind fun g=>Option.bind ((if g.1 then ((aL (f.1,g.2.1,g.2.2) (a.2.2.2.2.1.length:Int)).bind fun v=>(aQ a.2.2.2.2.1 v.1).bind fun u=>some (v.2.1,v.2.2,false,u.1,u.2.1,u.2.2.1,u.2.2.2)) else (some (g.2.1,g.2.2,true,b.1.1,b.1.2.1,b.1.2.2.1,b.1.2.2.2)):Option (Int×Int×Bool×Int×Int×Int×Int))) (fun c=>if decide ((a.2.2.2.2.2.length:Int)>0) then ((bu (f.1,c.1,c.2.1) 4).bind fun h=>Option.bind ((if h.1 then ((aQ a.2.2.2.2.2 (i64.wrap ((a.2.2.2.2.2.length:Int) - 1))).bind fun i=>some (cond.match_1 (fun (E:Bool)=>Bool) i.1 (fun (F:Unit)=>false) (fun (G:Unit)=>true),i.2.1,i.2.2.1,i.2.2.2.1,i.2.2.2.2)) else (some (c.2.2.1,c.2.2.2.1,c.2.2.2.2.1,c.2.2.2.2.2.1,c.2.2.2.2.2.2)):Option PX)) (fun d=>(eS (a.2.2.2.1,a.2.2.2.2.1) ([(d.1,d.2.1,d.2.2.1,d.2.2.2.1,d.2.2.2.2)])).bind fun j=>if j.2 then ((bM 40 a.2.2.2.2.2 ([(d.1,d.2.1,d.2.2.1,d.2.2.2.1,d.2.2.2.2)])).bind fun w=>some (h.2.1,h.2.2,j.1.1,j.1.2,w)) else ((bu (f.1,h.2.1,h.2.2) 12).bind fun k=>if k.1 then ((bM 40 a.2.2.2.2.2 ([(d.1,d.2.1,d.2.2.1,d.2.2.2.1,d.2.2.2.2)])).bind fun x=>some (k.2.1,k.2.2,j.1.1,j.1.2,x)) else (some (k.2.1,k.2.2,a.2.2.2.1,a.2.2.2.2.1,a.2.2.2.2.2))))) else ((eS (a.2.2.2.1,a.2.2.2.2.1) ([(c.2.2.1,c.2.2.2.1,c.2.2.2.2.1,c.2.2.2.2.2.1,c.2.2.2.2.2.2)])).bind fun l=>if l.2 then ((bM 40 a.2.2.2.2.2 ([(c.2.2.1,c.2.2.2.1,c.2.2.2.2.1,c.2.2.2.2.2.1,c.2.2.2.2.2.2)])).bind fun y=>some (c.1,c.2.1,l.1.1,l.1.2,y)) else ((bu (f.1,c.1,c.2.1) 12).bind fun m=>if m.1 then ((bM 40 a.2.2.2.2.2 ([(c.2.2.1,c.2.2.2.1,c.2.2.2.2.1,c.2.2.2.2.2.1,c.2.2.2.2.2.2)])).bind fun z=>some (m.2.1,m.2.2,l.1.1,l.1.2,z)) else (some (m.2.1,m.2.2,a.2.2.2.1,a.2.2.2.2.1,a.2.2.2.2.2)))))) else (if decide ((a.2.2.2.2.2.length:Int)>0) then ((bu (f.1,b.2.1,b.2.2) 4).bind fun n=>Option.bind ((if n.1 then ((aQ a.2.2.2.2.2 (i64.wrap ((a.2.2.2.2.2.length:Int) - 1))).bind fun o=>some (cond.match_1 (fun (H:Bool)=>Bool) o.1 (fun (I:Unit)=>false) (fun (J:Unit)=>true),o.2.1,o.2.2.1,o.2.2.2.1,o.2.2.2.2)) else (some (true,b.1.1,b.1.2.1,b.1.2.2.1,b.1.2.2.2)):Option PX)) (fun e=>(eS (a.2.2.2.1,a.2.2.2.2.1) ([(e.1,e.2.1,e.2.2.1,e.2.2.2.1,e.2.2.2.2)])).bind fun p=>if p.2 then ((bM 40 a.2.2.2.2.2 ([(e.1,e.2.1,e.2.2.1,e.2.2.2.1,e.2.2.2.2)])).bind fun A=>some (n.2.1,n.2.2,p.1.1,p.1.2,A)) else ((bu (f.1,n.2.1,n.2.2) 12).bind fun q=>if q.1 then ((bM 40 a.2.2.2.2.2 ([(e.1,e.2.1,e.2.2.1,e.2.2.2.1,e.2.2.2.2)])).bind fun B=>some (q.2.1,q.2.2,p.1.1,p.1.2,B)) else (some (q.2.1,q.2.2,a.2.2.2.1,a.2.2.2.2.1,a.2.2.2.2.2))))) else ((eS (a.2.2.2.1,a.2.2.2.2.1) ([(true,b.1.1,b.1.2.1,b.1.2.2.1,b.1.2.2.2)])).bind fun r=>if r.2 then ((bM 40 a.2.2.2.2.2 ([(true,b.1.1,b.1.2.1,b.1.2.2.1,b.1.2.2.2)])).bind fun C=>some (b.2.1,b.2.2,r.1.1,r.1.2,C)) else ((bu (f.1,b.2.1,b.2.2) 12).bind fun s=>if s.1 then ((bM 40 a.2.2.2.2.2 ([(true,b.1.1,b.1.2.1,b.1.2.2.1,b.1.2.2.2)])).bind fun D=>some (s.2.1,s.2.2,r.1.1,r.1.2,D)) else (some (s.2.1,s.2.2,a.2.2.2.1,a.2.2.2.2.1,a.2.2.2.2.2))))):Option (Int×Int×(List Int)×(List Yq1)×List PX))) (fun t=>some (.nxt (i64.wrap (a.1 - 1),t.1,t.2.1,t.2.2.1,t.2.2.2.1,t.2.2.2.2)))) else (some (.brk (a.1,a.2.1,a.2.2.1,a.2.2.2.1,a.2.2.2.2.1,a.2.2.2.2.2)))
def oP (a:(List Int)×Int×Int) (d:(List Int)×List Yq1) (f:Int):Option ((List PX)×Int×Int):=
 (bY (d.1,d.2)).bind fun e=>(aL (a.1,a.2.1,a.2.2) (i64.wrap (f+1))).bind fun b=>aO (aA (iI a) aT (b.1,b.2.1,b.2.2,e.1,e.2,([] :List PX))) (fun g=>some g) (fun c=>some (c.2.2.2.2.2,c.2.1,c.2.2.1))
def fP (e:(List Int)×Int×Int) (a:Int×Int×Int×Int×List Yq8):Option (Out ((Int×List Yq8)×Int×Int) (Int×Int×Int×Int×List Yq8)):=
 if decide (a.1>0) then ((aQ a.2.2.2.2 (i64.wrap ((a.2.2.2.2.length:Int) - 1))).bind fun c=>(oP (e.1,a.2.1,a.2.2.1) (c.1,c.2) 4).bind fun b=>(jk (a.2.2.2.1,a.2.2.2.2) b.1).bind fun d=>some (.nxt (i64.wrap (a.1 - 1),b.2.1,b.2.2,d.1.1,d.1.2))) else (some (.brk (a.1,a.2.1,a.2.2.1,a.2.2.2.1,a.2.2.2.2)))
def lI (a:(List Int)×Int×Int):Option ((Int×List Yq8)×Int×Int):=
 (kI (a.1,a.2.1,a.2.2)).bind fun b=>(aL (a.1,b.2.1,b.2.2) 4).bind fun d=>(kh (b.1.1,b.1.2) (i64.wrap (1+d.1))).bind fun g=>(bq (a.1,d.2.1,d.2.2) ([3,5,10])).bind fun e=>(aL (a.1,e.2.1,e.2.2) e.1).bind fun f=>aO (aA (fP a) aT (f.1,f.2.1,f.2.2,g.1.1,g.1.2)) (fun h=>some h) (fun c=>some ((c.2.2.2.1,c.2.2.2.2),c.2.1,c.2.2.1))
def fV (a:Int×List Yq8) (c:Int):Option ((Int×List Yq8)×Bool):=
 (qo (a.1,a.2)).bind fun b=>(a8 (a.1,a.2)).bind fun d=>if d then ((aX (a.1,a.2)).bind fun e=>(dq c a.1 e).bind fun f=>if f then ((chk (And (0<=(i64.wrap (c - a.1))) ((i64.wrap (c - a.1))<=(b.2.length:Int)))).bind fun _=>some ((c,b.2.drop ((i64.wrap (c - a.1)).toNat)),true)) else (some ((b.1,b.2),false))) else (some ((b.1,b.2),false))
def wx (c:(List Int)×Int×Int):Option (Yq8×Int×Int):=
 (kI (c.1,c.2.1,c.2.2)).bind fun b=>(aL (c.1,b.2.1,b.2.2) 14).bind fun a=>Option.bind ((if a.1==0 then ((bq (c.1,a.2.1,a.2.2) ([(-1),3,2])).bind fun e=>(aQ b.1.1 0).bind fun k=>some (e.2.1,e.2.2,b.1.1.set 0 e.1,b.1.2)) else (if a.1==1 then ((bq (c.1,a.2.1,a.2.2) ([0,1,99,100])).bind fun f=>(aL (c.1,f.2.1,f.2.2) 6).bind fun g=>(aL (c.1,g.2.1,g.2.2) 6).bind fun h=>(aL (c.1,h.2.1,h.2.2) 4).bind fun i=>(bM 32 b.1.2 ([(f.1,g.1,h.1,i.1)])).bind fun j=>some (i.2.1,i.2.2,b.1.1,j)) else (if a.1==2 then (some (a.2.1,a.2.2,([] :List Int),b.1.2)) else (some (a.2.1,a.2.2,b.1.1,b.1.2)))):Option (Int×Int×(List Int)×List Yq1))) (fun d=>some ((d.2.2.1,d.2.2.2),d.1,d.2.1))
def qq (c:(List Int)×Int×Int):Option ((Int×List Yq8)×Int×Int):=
 (lI (c.1,c.2.1,c.2.2)).bind fun a=>(aL (c.1,a.2.1,a.2.2) 14).bind fun b=>Option.bind ((if b.1==0 then ((bq (c.1,b.2.1,b.2.2) ([0,999,998,1000])).bind fun f=>some (f.2.1,f.2.2,f.1,a.1.2)) else (if b.1==1 then ((wx (c.1,b.2.1,b.2.2)).bind fun d=>(aQ a.1.2 (i64.wrap ((a.1.2.length:Int) - 1))).bind fun g=>some (d.2.1,d.2.2,a.1.1,a.1.2.set ((i64.wrap ((a.1.2.length:Int) - 1)).toNat) (d.1.1,d.1.2))) else (if b.1==2 then (some (b.2.1,b.2.2,a.1.1,([] :List Yq8))) else (some (b.2.1,b.2.2,a.1.1,a.1.2)))):Option (Int×Int×Int×List Yq8))) (fun e=>some ((e.2.2.1,e.2.2.2),e.1,e.2.1))
def tJ (a:(List Int)×Int×Int):Option ((Int×List Yq8)×((List Yq6)×List Lp)×(Int×Int×Int)×Int×Int):=
 (lI (a.1,a.2.1,a.2.2)).bind fun c=>(jj (a.1,c.2.1,c.2.2)).bind fun b=>(bu (a.1,b.2.1,b.2.2) 3).bind fun j=>if j.1 then (Option.bind ((if decide ((c.1.2.length:Int)>2) then ((aL (a.1,j.2.1,j.2.2) (i64.wrap ((c.1.2.length:Int) - 1))).bind fun u=>(fV (c.1.1,c.1.2) (i64.wrap ((i64.wrap (c.1.1+1))+u.1))).bind fun x=>some (x.1.1,x.1.2,u.2.1,u.2.2)) else (some (c.1.1,c.1.2,j.2.1,j.2.2)):Option (Int×(List Yq8)×Int×Int))) (fun f=>(aL (a.1,f.2.2.1,f.2.2.2) 5).bind fun k=>(qm (a.1,k.2.1,k.2.2) (b.1.1,b.1.2)).bind fun l=>(aX (f.1,f.2.1)).bind fun y=>(aL (a.1,l.2.1,l.2.2) (Max.max 1 (i64.wrap (y+1)))).bind fun o=>(aL (a.1,o.2.1,o.2.2) 20).bind fun d=>Option.bind ((if d.1==0 then ((qq (a.1,d.2.1,d.2.2)).bind fun q=>some (q.2.1,q.2.2,i64.wrap (1+k.1),l.1,o.1,q.1.1,q.1.2,b.1.1,b.1.2)) else (if d.1==1 then ((oi (a.1,d.2.1,d.2.2)).bind fun r=>some (r.2.1,r.2.2,i64.wrap (1+k.1),l.1,o.1,f.1,f.2.1,r.1.1,r.1.2)) else (if d.1==2 then ((bq (a.1,d.2.1,d.2.2) ([(-1),1000])).bind fun v=>some (v.2.1,v.2.2,i64.wrap (1+k.1),l.1,v.1,f.1,f.2.1,b.1.1,b.1.2)) else (some (d.2.1,d.2.2,i64.wrap (1+k.1),l.1,o.1,f.1,f.2.1,b.1.1,b.1.2)))):Option (Int×Int×Int×Int×Int×Int×(List Yq8)×(List Yq6)×List Lp))) (fun h=>some ((h.2.2.2.2.2.1,h.2.2.2.2.2.2.1),(h.2.2.2.2.2.2.2.1,h.2.2.2.2.2.2.2.2),(h.2.2.1,h.2.2.2.1,h.2.2.2.2.1),h.1,h.2.1)))) else (Option.bind ((some (c.1.1,c.1.2,j.2.1,j.2.2):Option (Int×(List Yq8)×Int×Int))) (fun g=>(aL (a.1,g.2.2.1,g.2.2.2) 5).bind fun m=>(qm (a.1,m.2.1,m.2.2) (b.1.1,b.1.2)).bind fun n=>(aX (g.1,g.2.1)).bind fun z=>(aL (a.1,n.2.1,n.2.2) (Max.max 1 (i64.wrap (z+1)))).bind fun p=>(aL (a.1,p.2.1,p.2.2) 20).bind fun e=>Option.bind ((if e.1==0 then ((qq (a.1,e.2.1,e.2.2)).bind fun s=>some (s.2.1,s.2.2,i64.wrap (1+m.1),n.1,p.1,s.1.1,s.1.2,b.1.1,b.1.2)) else (if e.1==1 then ((oi (a.1,e.2.1,e.2.2)).bind fun t=>some (t.2.1,t.2.2,i64.wrap (1+m.1),n.1,p.1,g.1,g.2.1,t.1.1,t.1.2)) else (if e.1==2 then ((bq (a.1,e.2.1,e.2.2) ([(-1),1000])).bind fun w=>some (w.2.1,w.2.2,i64.wrap (1+m.1),n.1,w.1,g.1,g.2.1,b.1.1,b.1.2)) else (some (e.2.1,e.2.2,i64.wrap (1+m.1),n.1,p.1,g.1,g.2.1,b.1.1,b.1.2)))):Option (Int×Int×Int×Int×Int×Int×(List Yq8)×(List Yq6)×List Lp))) (fun i=>some ((i.2.2.2.2.2.1,i.2.2.2.2.2.2.1),(i.2.2.2.2.2.2.2.1,i.2.2.2.2.2.2.2.2),(i.2.2.1,i.2.2.2.1,i.2.2.2.2.1),i.1,i.2.1))))
def kK (a:Int×(List Yq5)) (b:(List Yq2)×(List Yq3)) (c:Int×Int×Int):Option Bool:=
 (a8 (a.1,a.2)).bind fun d=>if d then ((cq (b.1,b.2)).bind fun e=>if e then ((ij (b.1,b.2) c.2.1).bind fun f=>if decide (f≥0) then (if decide (c.2.2≥0) then ((aX (a.1,a.2)).bind fun g=>some (decide (c.2.2<g))) else (some false)) else (some false)) else (some false)) else (some false)
def dC (a:(List Yq2)×(List Yq3)) (e:Int):Option (Yq2×Bool):=
 (ij (a.1,a.2) e).bind fun d=>(cq (a.1,a.2)).bind fun f=>if f then (if decide (d<0) then (some ((0,[],[]),false)) else ((aQ a.2 d).bind fun g=>(aQ a.1 g.2.2).bind fun b=>(oM (b.1,b.2.1,b.2.2)).bind fun c=>some ((c.1,c.2.1,c.2.2),true))) else (some ((0,[],[]),false))
def iJ (b:Int×(List Bool)×(List (List Int))) (c:Int) (a:Int):Option (Out Bool Int):=
 if decide (a<9) then ((aQ b.2.2 c).bind fun d=>(aQ d a).bind fun e=>(dq e (-1) (i64.wrap ((b.2.1.length:Int) - 1))).bind fun f=>if f then (some (.nxt (i64.wrap (a+1)))) else (some (.ret false))) else (some (.brk a))
def mR (b:Int×(List Bool)×(List (List Int))) (a:Int):Option (Out Bool Int):=
 if decide (a<(b.2.1.length:Int)) then ((aQ b.2.2 a).bind fun c=>if (c.length:Int) !=9 then (some (.ret false)) else (aO (aA (iJ b a) aT 0) (fun r=>some (.ret r)) (fun d=>some (.nxt (i64.wrap (a+1)))))) else (some (.brk a))
def oQ (a:Int×(List Bool)×(List (List Int))):Option Bool:=
 (dq a.1 0 (i64.wrap ((a.2.1.length:Int) - 1))).bind fun b=>if b then (if (a.2.2.length:Int) !=(a.2.1.length:Int) then (some false) else (aO (aA (mR a) aT 0) (fun r=>some r) (fun c=>some true))) else (some false)
def cY (a:Int×(List Bool)×(List (List Int))):Option Bool:=
 if decide ((a.2.1.length:Int)<=12) then ((oQ (a.1,a.2.1,a.2.2)).bind fun b=>some b) else (some false)
def jl (b:(List Int)×(List Yq1)) (a:Int×(List Bool)×(List (List Int))) (c:Int) (d:Int):Option Bool:=
 (bc (b.1,b.2)).bind fun e=>if e then ((cY (a.1,a.2.1,a.2.2)).bind fun f=>if f then ((dq c 0 (i64.wrap ((b.1.length:Int) - 1))).bind fun g=>if g then ((dq d 0 (i64.wrap ((a.2.1.length:Int) - 1))).bind fun h=>some h) else (some false)) else (some false)) else (some false)
def lJ (b:(List Int)×(List Yq1)) (c:Int) (a:(List (Int×Bool))×Int):Option (Out (List (Int×Bool)) ((List (Int×Bool))×Int)):=
 if decide (a.2<(b.2.length:Int)) then (Option.bind ((Option.bind (((aQ b.2 a.2).bind fun e=>if e.2.1==c then ((aQ b.2 a.2).bind fun f=>(bM 16 a.1 ([(f.1,false)])).bind fun g=>some g) else (some a.1):Option (List (Int×Bool)))) (fun d=>(aQ b.2 a.2).bind fun h=>if h.2.2.1==c then ((aQ b.2 a.2).bind fun i=>(bM 16 d ([(i.1,true)])).bind fun j=>some j) else (some d)):Option (List (Int×Bool)))) (fun k=>some (.nxt (k,i64.wrap (a.2+1))))) else (some (.brk (a.1,a.2)))
def qu (a:(List Int)×(List Yq1)) (b:Int):Option (List (Int×Bool)):=
 aO (aA (lJ a b) aT (([] :List (Int×Bool)),0)) (fun r=>some r) (fun c=>some c.1)
def mu (b:Int×(List Bool)×(List (List Int))) (c:Int) (a:Int×Int):Option L6:=
 if decide (a.1≥0) then ((chk (0<=a.1)).bind fun _=>if (qe (nO a.2 a.1) 1)==0 then ((chk (0<=a.1)).bind fun _=>(aQ b.2.2 a.1).bind fun d=>(aQ d (i64.wrap (6+c))).bind fun e=>some (.nxt (e,orI a.2 (vM 1 a.1)))) else (some (.brk (a.1,a.2)))) else (some (.brk (a.1,a.2)))
def gk (a:Int×(List Bool)×(List (List Int))) (b:Int) (c:Int):Option Int:=
 aO (aA (mu a c) aT (b,0)) (fun r=>some r) (fun d=>some d.2)
def il (a:Int×Int×Int×Int) (b:Bool):Option Int:=
 if b then (some (i64.wrap ((i64.wrap (2*a.2.2.2))+1))) else (some (i64.wrap (2*a.2.2.2)))
def oR (a:Int×Int×Int×Int) (b:Bool):Option Int:=
 if b then (some a.2.1) else (some a.2.2.1)
def jm (d:Int×(List Bool)×(List (List Int))) (e:Int) (f:List (Int×Bool)) (g:(List Yq7)×Int) (b:Int×Int×Int×Int) (a:Int×Int):Option (Out (List Yq7) (Int×Int)):=
 if decide (a.2<(d.2.1.length:Int)) then (Option.bind (((aQ d.2.2 a.2).bind fun h=>(aQ f g.2).bind fun i=>(il (b.1,b.2.1,b.2.2.1,b.2.2.2) i.2).bind fun j=>(aQ h j).bind fun c=>(chk (0<=a.2)).bind fun _=>if (qe (nO e a.2) 1)==1 then (if decide (c≥0) then ((chk (0<=c)).bind fun _=>some (orI a.1 (vM 1 c))) else (some a.1)) else (some a.1):Option Int)) (fun k=>some (.nxt (k,i64.wrap (a.2+1))))) else (some (.brk (a.1,a.2)))
def jn (f:Int×(List Bool)×(List (List Int))) (c:List (Int×Bool)) (d:(List Yq7)×Int) (b:Int×Int×Int×Int) (g:Int×Int) (a:(List Yq7)×Int):Option (Out (List Yq7) ((List Yq7)×Int)):=
 if decide (a.2<(f.2.1.length:Int)) then (Option.bind (((chk (0<=a.2)).bind fun _=>if (qe (nO g.1 a.2) 1)==1 then ((aQ c d.2).bind fun e=>(aQ c d.2).bind fun h=>(oR (b.1,b.2.1,b.2.2.1,b.2.2.2) h.2).bind fun i=>(bM 32 a.1 ([((e.1,e.2),i,a.2)])).bind fun j=>some j) else (some a.1):Option (List Yq7))) (fun k=>some (.nxt (k,i64.wrap (a.2+1))))) else (some (.brk (a.1,a.2)))
def jo (c:(List Int)×(List Yq1)) (d:Int×(List Bool)×(List (List Int))) (f:Int) (b:List (Int×Bool)) (a:(List Yq7)×Int):Option (Out (List Yq7) ((List Yq7)×Int)):=
 if decide (a.2<(b.length:Int)) then ((aQ b a.2).bind fun g=>(dB (c.1,c.2) g.1).bind fun h=>(aQ c.2 h).bind fun e=>aO (aA (jm d f b a e) aT (0,0)) (fun r=>some (.ret r)) (fun i=>aO (aA (jn d b a e i) aT (a.1,0)) (fun r=>some (.ret r)) (fun j=>some (.nxt (j.1,i64.wrap (a.2+1)))))) else (some (.brk (a.1,a.2)))
def kT (a:(List Int)×(List Yq1)) (b:Int×(List Bool)×(List (List Int))) (c:Int) (d:Int):Option (List Yq7):=
 (aQ a.1 c).bind fun e=>(gk (b.1,b.2.1,b.2.2) d e).bind fun f=>(qu (a.1,a.2) c).bind fun g=>aO (aA (jo a b f g) aT (([] :List Yq7),0)) (fun r=>some r) (fun h=>some h.1)
def jq (b:(List Int)×(List Yq1)) (c:Int×(List Bool)×(List (List Int))) (a:(List Int)×Int):Option PW:=
 if decide (a.2<i64.wrap ((b.1.length:Int)*(c.2.1.length:Int))) then ((bM 8 a.1 ([-1])).bind fun d=>some (.nxt (d,i64.wrap (a.2+1)))) else (some (.brk (a.1,a.2)))
def jr (b:Int×(List Bool)×(List (List Int))) (g:(List Int)×(List Int)×Int) (e:List Yq7) (a:(List Int)×(List Int)×Int):Option (Out (List Int) ((List Int)×(List Int)×Int)):=
 if decide (a.2.2<(e.length:Int)) then (Option.bind (((aQ e a.2.2).bind fun c=>(aQ e a.2.2).bind fun d=>(aQ a.1 (i64.wrap ((i64.wrap (c.2.1*(b.2.1.length:Int)))+d.2.2))).bind fun h=>if decide (h<0) then ((aQ a.2.1 g.2.2).bind fun i=>(aQ a.1 i).bind fun j=>(aQ a.1 (i64.wrap ((i64.wrap (c.2.1*(b.2.1.length:Int)))+d.2.2))).bind fun l=>(bM 8 a.2.1 ([i64.wrap ((i64.wrap (c.2.1*(b.2.1.length:Int)))+d.2.2)])).bind fun k=>some (a.1.set (i64.wrap ((i64.wrap (c.2.1*(b.2.1.length:Int)))+d.2.2)).toNat (i64.wrap (j+1)),k)) else (some (a.1,a.2.1)):Option ((List Int)×(List Int)))) (fun f=>some (.nxt (f.1,f.2,i64.wrap (a.2.2+1))))) else (some (.brk (a.1,a.2.1,a.2.2)))
def jt (c:(List Int)×(List Yq1)) (b:Int×(List Bool)×(List (List Int))) (a:(List Int)×(List Int)×Int):Option (Out (List Int) ((List Int)×(List Int)×Int)):=
 if decide (a.2.2<(a.2.1.length:Int)) then ((aQ a.2.1 a.2.2).bind fun e=>(chk ((b.2.1.length:Int)≠0)).bind fun _=>(aQ a.2.1 a.2.2).bind fun f=>(chk ((b.2.1.length:Int)≠0)).bind fun _=>(kT (c.1,c.2) (b.1,b.2.1,b.2.2) (He e (b.2.1.length:Int)) (Int.tmod f (b.2.1.length:Int))).bind fun g=>aO (aA (jr b a g) aT (a.1,a.2.1,0)) (fun r=>some (.ret r)) (fun d=>some (.nxt (d.1,d.2.1,i64.wrap (a.2.2+1))))) else (some (.brk (a.1,a.2.1,a.2.2)))
def nc (b:(List Int)×(List Yq1)) (a:Int×(List Bool)×(List (List Int))) (c:Int):Option (List Int):=
 aO (aA (jq b a) aT (([] :List Int),0)) (fun r=>some r) (fun d=>(aQ ([i64.wrap ((i64.wrap (c*(a.2.1.length:Int)))+a.1)]) 0).bind fun e=>(aQ d.1 e).bind fun g=>aO (aA (jt b a) aT (d.1.set e.toNat 0,[i64.wrap ((i64.wrap (c*(a.2.1.length:Int)))+a.1)],0)) (fun r=>some r) (fun f=>some f.1))
def gO (b:Int×(List Bool)×(List (List Int))) (c:Int) (a:Int):Option (Out Bool Int):=
 if decide (a<(b.2.1.length:Int)) then ((chk (0<=a)).bind fun _=>if (qe (nO c a) 1)==1 then ((aQ b.2.1 a).bind fun d=>if d then (some (.ret true)) else (some (.nxt (i64.wrap (a+1))))) else (some (.nxt (i64.wrap (a+1))))) else (some (.brk a))
def kl (b:(List Int)×(List Yq1)) (a:Int×(List Bool)×(List (List Int))) (c:Int) (d:Int):Option Bool:=
 (aQ b.1 c).bind fun e=>(gk (a.1,a.2.1,a.2.2) d e).bind fun f=>aO (aA (gO a f) aT 0) (fun r=>some r) (fun g=>some false)
def ng (b:Int) (a:(List Int)×Int):Option PW:=
 if decide (a.2<30) then (Option.bind (((chk (0<=a.2)).bind fun _=>if (qe (nO b a.2) 1)==1 then ((bM 8 a.1 ([a.2])).bind fun c=>some c) else (some a.1):Option (List Int))) (fun d=>some (.nxt (d,i64.wrap (a.2+1))))) else (some (.brk (a.1,a.2)))
def wz (a:Int):Option (List Int):=
 aO (aA (ng a) aT (([] :List Int),0)) (fun r=>some r) (fun b=>some b.1)
def km (c:(List Int)×(List Yq1)) (b:Int×(List Bool)×(List (List Int))) (d:List Int) (a:Int×Int):Option (Out (List Int) (Int×Int)):=
 if decide (a.2<(d.length:Int)) then (Option.bind (((aQ d a.2).bind fun e=>if decide (e≥0) then ((chk ((b.2.1.length:Int)≠0)).bind fun _=>(chk ((b.2.1.length:Int)≠0)).bind fun _=>(kl (c.1,c.2) (b.1,b.2.1,b.2.2) (He a.2 (b.2.1.length:Int)) (Int.tmod a.2 (b.2.1.length:Int))).bind fun f=>if f then ((chk ((b.2.1.length:Int)≠0)).bind fun _=>(chk (0<=He a.2 (b.2.1.length:Int))).bind fun _=>some (orI a.1 (vM 1 (He a.2 (b.2.1.length:Int))))) else (some a.1)) else (some a.1):Option Int)) (fun g=>some (.nxt (g,i64.wrap (a.2+1))))) else (some (.brk (a.1,a.2)))
def oS (b:(List Int)×(List Yq1)) (a:Int×(List Bool)×(List (List Int))) (c:Int):Option (List Int):=
 (nc (b.1,b.2) (a.1,a.2.1,a.2.2) c).bind fun d=>aO (aA (km b a d) aT (0,0)) (fun r=>some r) (fun e=>(wz e.1).bind fun f=>some f)
def mw (c:Yq4×Int) (b:List Int) (a:Yq4×Int):Option (Out Yq4 (Yq4×Int)):=
 if decide (a.2<(b.length:Int)) then ((aQ b a.2).bind fun d=>(bM 16 a.1 ([(c.2,d)])).bind fun e=>some (.nxt (e,i64.wrap (a.2+1)))) else (some (.brk (a.1,a.2)))
def dP (c:(List Int)×(List Yq1)) (b:Int×(List Bool)×(List (List Int))) (a:Yq4×Int):Option (Out Yq4 (Yq4×Int)):=
 if decide (a.2<(c.1.length:Int)) then ((jl (c.1,c.2) (b.1,b.2.1,b.2.2) 0 0).bind fun d=>if d then ((oS (c.1,c.2) (b.1,b.2.1,b.2.2) a.2).bind fun e=>aO (aA (mw a e) aT (a.1,0)) (fun r=>some (.ret r)) (fun f=>some (.nxt (f.1,i64.wrap (a.2+1))))) else (some (.brk (a.1,a.2)))) else (some (.brk (a.1,a.2)))
def gl (a:(List Int)×(List Yq1)) (b:Int×(List Bool)×(List (List Int))):Option Yq4:=
 aO (aA (dP a b) aT (([] :List (Int×Int)),0)) (fun r=>some r) (fun c=>some c.1)
def bd (c:(List Yq2)×(List Yq3)) (a:(List Int)×(List Yq1)) (d:Int):Option (Yq4×Bool):=
 (dC (c.1,c.2) d).bind fun b=>if b.2 then ((bc (a.1,a.2)).bind fun e=>if e then ((gl (a.1,a.2) (b.1.1,b.1.2.1,b.1.2.2)).bind fun f=>some (f,true)) else (some (([] :List (Int×Int)),false))) else (some (([] :List (Int×Int)),false))
def dD (a:Int×(List Yq5)) (b:Int):Option (Yq5×Bool):=
 (a8 (a.1,a.2)).bind fun e=>if e then ((aX (a.1,a.2)).bind fun f=>(dq b a.1 f).bind fun g=>if g then ((aQ a.2 (i64.wrap (b - a.1))).bind fun c=>(bY (c.1,c.2)).bind fun d=>some ((d.1,d.2),true)) else (some (([],[]),false))) else (some (([],[]),false))
def nR (b:List (Int×Int)) (c:Int×Int) (a:Int):Option (Out Bool Int):=
 if decide (a<(b.length:Int)) then ((aQ b a).bind fun d=>if ((d.1==c.1)&&((d.2==c.2)&&true)) then (some (.ret true)) else (some (.nxt (i64.wrap (a+1))))) else (some (.brk a))
def my (a:List (Int×Int)) (b:Int×Int):Option Bool:=
 aO (aA (nR a b) aT 0) (fun r=>some r) (fun c=>some false)
def mz (a:Int×Int) (b:Int×Int):Option Bool:=
 if decide (a.1<b.1) then (some true) else (if a.1==b.1 then (some (decide (a.2<b.2))) else (some false))
def nS (b:List (Int×Int)) (c:Int×Int) (a:Int):Option (Out Yq4 Int):=
 if decide (a<(b.length:Int)) then ((aQ b a).bind fun d=>(mz (d.1,d.2) (c.1,c.2)).bind fun e=>if e then (some (.nxt (i64.wrap (a+1)))) else (some (.brk a))) else (some (.brk a))
def oj (a:List (Int×Int)) (c:Int×Int):Option Yq4:=
 aO (aA (nS a c) aT 0) (fun e=>some e) (fun b=>if decide (b<(a.length:Int)) then ((aQ a b).bind fun d=>if Bool.and.match_1 (fun (l:Bool)=>Bool) (d.1==c.1) (fun (m:Unit)=>false) (fun (n:Unit)=>Bool.and.match_1 (fun (o:Bool)=>Bool) (d.2==c.2) (fun (p:Unit)=>false) (fun (q:Unit)=>true)) then (some a) else ((chk (And (0<=b) (b<=(a.length:Int)))).bind fun _=>(bM 16 ([] :List (Int×Int)) ((a.take b.toNat).drop 0)).bind fun f=>(bM 16 f ([(c.1,c.2)])).bind fun g=>(chk (And (0<=b) (b<=(a.length:Int)))).bind fun _=>(bM 16 g ((a.take a.length).drop b.toNat)).bind fun h=>some h)) else ((chk (And (0<=b) (b<=(a.length:Int)))).bind fun _=>(bM 16 ([] :List (Int×Int)) ((a.take b.toNat).drop 0)).bind fun i=>(bM 16 i ([(c.1,c.2)])).bind fun j=>(chk (And (0<=b) (b<=(a.length:Int)))).bind fun _=>(bM 16 j ((a.take a.length).drop b.toNat)).bind fun k=>some k))
def gC (b:List (Int×Int)) (e:List (Int×Int)) (a:Yq4×Int):Option (Out Yq4 (Yq4×Int)):=
 if decide (a.2<(b.length:Int)) then (Option.bind (((aQ b a.2).bind fun c=>(my e (c.1,c.2)).bind fun f=>if f then (some a.1) else ((aQ b a.2).bind fun d=>(oj a.1 (d.1,d.2)).bind fun g=>some g):Option Yq4)) (fun h=>some (.nxt (h,i64.wrap (a.2+1))))) else (some (.brk (a.1,a.2)))
def dj (a:List (Int×Int)) (b:List (Int×Int)):Option Yq4:=
 aO (aA (gC a b) aT (([] :List (Int×Int)),0)) (fun r=>some r) (fun c=>some c.1)
def kA (a:List (Int×Int)) (b:List (Int×Int)):Option (Yq4×Yq4):=
 (dj b a).bind fun c=>(dj a b).bind fun d=>some (c,d)
def gm (a:Int×(List Yq5)) (b:(List Yq2)×(List Yq3)) (c:Int×Int×Int) (d:Int):Option Ox:=
 (dD (a.1,a.2) d).bind fun e=>(bd (b.1,b.2) (e.1.1,e.1.2) c.2.1).bind fun f=>if decide (c.2.2<a.1) then (some (d,true,(f.1,[]))) else ((dD (a.1,a.2) c.2.2).bind fun g=>(bd (b.1,b.2) (g.1.1,g.1.2) c.2.1).bind fun i=>(kA i.1 f.1).bind fun h=>some (d,false,(h.1,h.2)))
def ju (b:Int×List Yq8) (c:(List Yq6)×List Lp) (a:Int×Int×Int):Option (VV×(Int×Int×Int)×Bool):=
 (kK (b.1,b.2) (c.1,c.2) (a.1,a.2.1,a.2.2)).bind fun e=>if e then ((gm (b.1,b.2) (c.1,c.2) (a.1,a.2.1,a.2.2) (Max.max b.1 (i64.wrap (a.2.2+1)))).bind fun d=>some ((d.1,d.2.1,d.2.2.1,d.2.2.2),(a.1,a.2.1,Max.max b.1 (i64.wrap (a.2.2+1))),true)) else (some ((0,false,([] :List (Int×Int)),([] :List (Int×Int))),(a.1,a.2.1,a.2.2),false))
def gD (c:Int×(List Yq5)) (d:(List Yq2)×(List Yq3)) (a:(List Ox)×Int×Int×Int×Int):Option (Out ((List Ox)×(Int×Int×Int)) ((List Ox)×Int×Int×Int×Int)):=
 if decide (a.2.1<=8) then ((ju (c.1,c.2) (d.1,d.2) (a.2.2.1,a.2.2.2.1,a.2.2.2.2)).bind fun b=>if b.2.2 then ((bM 64 a.1 ([(b.1.1,b.1.2.1,(b.1.2.2.1,b.1.2.2.2))])).bind fun e=>some (.nxt (e,i64.wrap (a.2.1+1),b.2.1.1,b.2.1.2.1,b.2.1.2.2))) else (some (.ret (a.1,(a.2.2.1,a.2.2.2.1,a.2.2.2.2))))) else (some (.brk (a.1,a.2.1,a.2.2.1,a.2.2.2.1,a.2.2.2.2)))
def fm (c:Int×(List Yq5)) (d:(List Yq2)×(List Yq3)) (b:Int×Int×Int):Option ((List Ox)×(Int×Int×Int)):=
 aO (aA (gD c d) aT (([] :List Ox),0,b.1,b.2.1,b.2.2)) (fun r=>some r) (fun a=>some (a.1,(a.2.2.1,a.2.2.2.1,a.2.2.2.2)))
def dE (b:Int×(List Yq5)) (c:(List Yq2)×(List Yq3)) (a:Int×Int×Int):Option (Ox×(Int×Int×Int)×Bool):=
 (kK (b.1,b.2) (c.1,c.2) (a.1,a.2.1,a.2.2)).bind fun f=>if f then ((aX (b.1,b.2)).bind fun e=>(gm (b.1,b.2) (c.1,c.2) (a.1,a.2.1,a.2.2) e).bind fun d=>some ((d.1,d.2.1,(d.2.2.1,d.2.2.2)),(a.1,a.2.1,e),true)) else (some ((0,false,([],[])),(a.1,a.2.1,a.2.2),false))
def fW (c:List Int):Option ((Int×List Yq8)×((List Yq6)×List Lp)×Int×Int×List VV):=
 (wu c).bind fun j=>(tJ (c,j.1,j.2)).bind fun a=>(bu (c,a.2.2.2.1,a.2.2.2.2) 4).bind fun d=>Option.bind ((if d.1 then ((aL (c,d.2.1,d.2.2) 3).bind fun h=>some (h.2.1,h.2.2,a.2.2.1.1,a.2.2.1.2.1,i64.wrap (a.1.1+h.1))) else (some (d.2.1,d.2.2,a.2.2.1.1,a.2.2.1.2.1,a.1.1)):Option (Int×Int×Int×Int×Int))) (fun b=>(fm (a.1.1,a.1.2) (a.2.1.1,a.2.1.2) (b.2.2.1,b.2.2.2.1,b.2.2.2.2)).bind fun e=>if decide ((e.1.length:Int)>1) then ((bu (c,b.1,b.2.1) 3).bind fun i=>Option.bind ((if i.1 then ((chk (And ((0:Int)<=1) (1<=(e.1.length:Int)))).bind fun _=>some (e.1.drop 1)) else (some e.1):Option (List VV))) (fun k=>(bu (c,i.2.1,i.2.2) 4).bind fun m=>Option.bind ((if m.1 then ((dE (a.1.1,a.1.2) (a.2.1.1,a.2.1.2) (b.2.2.1,b.2.2.2.1,b.2.2.2.2)).bind fun f=>if f.2.2 then (some ([(f.1.1,f.1.2.1,f.1.2.2.1,f.1.2.2.2)])) else (some k)) else (some k):Option (List VV))) (fun n=>some ((a.1.1,a.1.2),(a.2.1.1,a.2.1.2),b.2.2.2.1,b.2.2.2.2,n)))) else (Option.bind ((some e.1:Option (List VV))) (fun l=>(bu (c,b.1,b.2.1) 4).bind fun o=>Option.bind ((if o.1 then ((dE (a.1.1,a.1.2) (a.2.1.1,a.2.1.2) (b.2.2.1,b.2.2.2.1,b.2.2.2.2)).bind fun g=>if g.2.2 then (some ([(g.1.1,g.1.2.1,g.1.2.2.1,g.1.2.2.2)])) else (some l)) else (some l):Option (List VV))) (fun p=>some ((a.1.1,a.1.2),(a.2.1.1,a.2.1.2),b.2.2.2.1,b.2.2.2.2,p)))))
def cP (b:List Bool) (c:List Bool) (a:Int):Option (Out Bool Int):=
 if decide (a<(b.length:Int)) then ((aQ b a).bind fun d=>(aQ c a).bind fun e=>if d !=e then (some (.ret false)) else (some (.nxt (i64.wrap (a+1))))) else (some (.brk a))
def fa (a:List Bool) (b:List Bool):Option Bool:=
 if (a.length:Int) !=(b.length:Int) then (some false) else (aO (aA (cP a b) aT 0) (fun r=>some r) (fun c=>some true))
def bh (b:List (List Int)) (c:List (List Int)) (d:(List Int)->(List Int)->Option Bool) (a:Int):Option (Out Bool Int):=
 if decide (a<(b.length:Int)) then ((aQ b a).bind fun e=>(aQ c a).bind fun f=>(d e f).bind fun g=>if g then (some (.nxt (i64.wrap (a+1)))) else (some (.ret false))) else (some (.brk a))
def bO (a:List (List Int)) (b:List (List Int)) (c:(List Int)->(List Int)->Option Bool):Option Bool:=
 if (a.length:Int) !=(b.length:Int) then (some false) else (aO (aA (bh a b c) aT 0) (fun r=>some r) (fun d=>some true))
def df (b:List Int) (c:List Int) (a:Int):Option (Out Bool Int):=
 if decide (a<(b.length:Int)) then ((aQ b a).bind fun d=>(aQ c a).bind fun e=>if d !=e then (some (.ret false)) else (some (.nxt (i64.wrap (a+1))))) else (some (.brk a))
def cX (a:List Int) (b:List Int):Option Bool:=
 if (a.length:Int) !=(b.length:Int) then (some false) else (aO (aA (df a b) aT 0) (fun r=>some r) (fun c=>some true))
def im (a:List Int) (b:List Int):Option Bool:=
 (cX a b).bind fun c=>some c
def fo (a:Int×(List Bool)×(List (List Int))) (b:Int×(List Bool)×(List (List Int))):Option Bool:=
 if a.1==b.1 then ((fa a.2.1 b.2.1).bind fun c=>if c then ((bO a.2.2 b.2.2 (fun a0 a1=>im a0 a1)).bind fun d=>some d) else (some false)) else (some false)
def aR (d:List Yq2) (e:List Yq2) (f:Yq2->Yq2->Option Bool) (a:Int):Option (Out Bool Int):=
 if decide (a<(d.length:Int)) then ((aQ d a).bind fun b=>(aQ e a).bind fun c=>(f (b.1,b.2.1,b.2.2) (c.1,c.2.1,c.2.2)).bind fun g=>if g then (some (.nxt (i64.wrap (a+1)))) else (some (.ret false))) else (some (.brk a))
def be (a:List Yq2) (b:List Yq2) (c:Yq2->Yq2->Option Bool):Option Bool:=
 if (a.length:Int) !=(b.length:Int) then (some false) else (aO (aA (aR a b c) aT 0) (fun r=>some r) (fun d=>some true))
def aP (d:List Yq3) (e:List Yq3) (f:Yq3->Yq3->Option Bool) (a:Int):Option (Out Bool Int):=
 if decide (a<(d.length:Int)) then ((aQ d a).bind fun b=>(aQ e a).bind fun c=>(f (b.1,b.2.1,b.2.2) (c.1,c.2.1,c.2.2)).bind fun g=>if g then (some (.nxt (i64.wrap (a+1)))) else (some (.ret false))) else (some (.brk a))
def a7 (a:List Yq3) (b:List Yq3) (c:Yq3->Yq3->Option Bool):Option Bool:=
 if (a.length:Int) !=(b.length:Int) then (some false) else (aO (aA (aP a b c) aT 0) (fun r=>some r) (fun d=>some true))
def cC (d:List Yq1) (e:List Yq1) (a:Int):Option (Out Bool Int):=
 if decide (a<(d.length:Int)) then ((aQ d a).bind fun b=>(aQ e a).bind fun c=>if (b.1==c.1)&&((b.2.1==c.2.1)&&((b.2.2.1==c.2.2.1)&&((b.2.2.2==c.2.2.2)&&true))) then (some (.nxt (i64.wrap (a+1)))) else (some (.ret false))) else (some (.brk a))
def c8 (a:List Yq1) (b:List Yq1):Option Bool:=
 if (a.length:Int) !=(b.length:Int) then (some false) else (aO (aA (cC a b) aT 0) (fun r=>some r) (fun c=>some true))
def mS (a:(List Yq1)) (b:(List Yq1)):Option Bool:=
 (c8 a b).bind fun c=>some c
def iC (a:Int×((List Yq1))×Int) (b:Int×((List Yq1))×Int):Option Bool:=
 if a.1==b.1 then ((mS a.2.1 b.2.1).bind fun c=>if c then (some (a.2.2==b.2.2)) else (some false)) else (some false)
def iq (a:(List Yq2)×(List Yq3)) (b:(List Yq2)×(List Yq3)):Option Bool:=
 (be a.1 b.1 (fun a0 a1=>fo a0 a1)).bind fun c=>if c then ((a7 a.2 b.2 (fun a0 a1=>iC a0 a1)).bind fun d=>some d) else (some false)
def bS (a:Int) (b:Int) (c:Int):Option Bool:=
 if decide (a≥b) then (some (decide (a<=c))) else (some false)
def kU (a:Int):Option Bool:=
 (bS a 0 8).bind fun b=>some b
def rf (a:Int×Int×Int×Int):Option Bool:=
 if a.1==3 then ((kU a.2.1).bind fun b=>if b then (if a.2.2.1==0 then (some (a.2.2.2==0)) else (some false)) else (some false)) else (if a.1==7 then (if a.2.1==0 then ((bS a.2.2.1 0 a.2.2.2).bind fun c=>if c then ((bS a.2.2.2 1 3).bind fun d=>some d) else (some false)) else (some false)) else (Option.bind ((if a.1==1 then (some (a.1==1)) else (if a.1==2 then (some (a.1==2)) else (if a.1==4 then (some (a.1==4)) else (if a.1==5 then (some (a.1==5)) else (some (a.1==6))))):Option Bool)) (fun e=>if e then (some ((a.1==a.1)&&((a.2.1==0)&&((a.2.2.1==0)&&((a.2.2.2==0)&&true))))) else (some false))))
def rh (d:List Yq1) (a:(List (Tr Yq1))×Int):Option (Out (Tr Yq1) ((List (Tr Yq1))×Int)):=
 if decide (a.2<(d.length:Int)) then ((aQ d a.2).bind fun b=>Option.bind ((Option.bind ((if b.1==4 then (some (b.1==4)) else (some (b.1==5)):Option Bool)) (fun e=>if e then (some 2) else (Option.bind ((if b.1==6 then (some (b.1==6)) else (some (b.1==7)):Option Bool)) (fun f=>if f then (some 1) else (some 0)))):Option Int)) (fun c=>(rf (b.1,b.2.1,b.2.2.1,b.2.2.2)).bind fun g=>if g then (if decide ((i64.wrap ((a.1.length:Int) - c))<0) then (some (.ret Tr.nil)) else ((chk (And (0<=(i64.wrap ((a.1.length:Int) - c))) ((i64.wrap ((a.1.length:Int) - c))<=(a.1.length:Int)))).bind fun _=>(bM 8 ([] :List (Tr Yq1)) (a.1.drop ((i64.wrap ((a.1.length:Int) - c)).toNat))).bind fun h=>(chk (And (0<=(i64.wrap ((a.1.length:Int) - c))) ((i64.wrap ((a.1.length:Int) - c))<=(a.1.length:Int)))).bind fun _=>(bM 8 (a.1.take ((i64.wrap ((a.1.length:Int) - c)).toNat)) ([Tr.node (b.1,b.2.1,b.2.2.1,b.2.2.2) h])).bind fun i=>some (.nxt (i,i64.wrap (a.2+1))))) else (some (.ret Tr.nil)))) else (some (.brk (a.1,a.2)))
def om (b:List Yq1):Option (Tr Yq1):=
 aO (aA (rh b) aT (([] :List (Tr Yq1)),0)) (fun c=>some c) (fun a=>if (a.1.length:Int) !=1 then (some Tr.nil) else ((aQ a.1 0).bind fun d=>some d))
def tK (a:List Yq1):Option Bool:=
 (om a).bind fun b=>some (cond.match_1 (fun (c:Bool)=>Bool) (Tr.isNil b) (fun (d:Unit)=>false) (fun (e:Unit)=>true))
def lK (a:(List Yq1)):Option Bool:=
 if decide ((a.length:Int)<=24) then ((tK a).bind fun b=>some b) else (some false)
def bK (mrec:(Tr Yq1)->Option Int) (b:Tr Yq1) (c:Yq1×List (Tr Yq1)) (a:Int×Int):Option L6:=
 if decide (a.2<(c.2.length:Int)) then (Option.bind (((aQ c.2 a.2).bind fun d=>(Tr.get b).bind fun j=>(Tr.get b).bind fun e=>if e.1.1==7 then ((mrec d).bind fun f=>(Tr.get b).bind fun k=>(Tr.get b).bind fun g=>some (i64.wrap (a.1+(i64.wrap ((i64.wrap (f+3))*g.1.2.2.2))))) else ((mrec d).bind fun h=>some (i64.wrap (a.1+h))):Option Int)) (fun i=>some (.nxt (i,i64.wrap (a.2+1))))) else (some (.brk (a.1,a.2)))
def cd:Nat->(Tr Yq1)->Option Int
 | 0,_=>none
 | n+1,p0x =>
  (Tr.get p0x).bind fun d=>(Tr.get p0x).bind fun a=>aO (aA (bK (cd n) p0x a) aT (1,0)) (fun b=>some b) (fun c=>some (Min.min c.1 100000))
def Ek (a:Int):Option (Tr Yq1):=
 some (Tr.node (a,0,0,0) ([] :List (Tr Yq1)))
def kV:Nat->(Tr Yq1)->Int->Int->Option (Tr Yq1)
 | 0,_,_,_=>none
 | n+1,p0x,p1low,p2high =>
  if p2high==0 then ((Ek 2).bind fun b=>some b) else (((kV n) p0x (Max.max 0 (i64.wrap (p1low - 1))) (i64.wrap (p2high - 1))).bind fun a=>if decide (p1low>0) then (some (Tr.node (4,0,0,0) ([p0x,a]))) else ((Ek 2).bind fun c=>some (Tr.node (5,0,0,0) ([Tr.node (4,0,0,0) ([p0x,a]),c]))))
def bw (mrec:(Tr Yq1)->Option (Tr Yq1)) (b:Yq1×List (Tr Yq1)) (a:Int×Int×Int×Int×Int×List (Tr Yq1)):Option (Out (Tr Yq1) (Int×Int×Int×Int×Int×List (Tr Yq1))):=
 if decide (a.1<(b.2.length:Int)) then ((aQ b.2 a.1).bind fun c=>(mrec c).bind fun d=>(bM 8 a.2.2.2.2.2 ([d])).bind fun e=>some (.nxt (i64.wrap (a.1+1),a.2.1,a.2.2.1,a.2.2.2.1,a.2.2.2.2.1,e))) else (some (.brk (a.1,a.2.1,a.2.2.1,a.2.2.2.1,a.2.2.2.2.1,a.2.2.2.2.2)))
def bF:Nat->(Tr Yq1)->Option (Tr Yq1)
 | 0,_=>none
 | n+1,p0x =>
  (Tr.get p0x).bind fun l=>(Tr.get p0x).bind fun c=>if c.1.1==7 then ((Tr.get p0x).bind fun m=>(Tr.get p0x).bind fun d=>(aQ d.2 0).bind fun e=>((bF n) e).bind fun f=>(Tr.get p0x).bind fun o=>(Tr.get p0x).bind fun g=>(Tr.get p0x).bind fun p=>(Tr.get p0x).bind fun h=>(kV fJ f g.1.2.2.1 h.1.2.2.2).bind fun i=>some i) else ((Tr.get p0x).bind fun q=>(Tr.get p0x).bind fun b=>(Tr.get p0x).bind fun r=>(Tr.get p0x).bind fun j=>aO (aA (bw (bF n) j) aT (0,b.1.1,b.1.2.1,b.1.2.2.1,b.1.2.2.2,([] :List (Tr Yq1)))) (fun k=>some k) (fun a=>some (Tr.node (a.2.1,a.2.2.1,a.2.2.2.1,a.2.2.2.2.1) a.2.2.2.2.2)))
def bp (mrec:(Tr Yq1)->(List Yq1)->Option (List Yq1)) (b:Yq1×List (Tr Yq1)) (a:Int×List Yq1):Option (Out (List Yq1) (Int×List Yq1)):=
 if decide (a.1<(b.2.length:Int)) then ((aQ b.2 a.1).bind fun c=>(mrec c a.2).bind fun d=>some (.nxt (i64.wrap (a.1+1),d))) else (some (.brk (a.1,a.2)))
def bD:Nat->(Tr Yq1)->(List Yq1)->Option (List Yq1)
 | 0,_,_=>none
 | n+1,p0x,p1out =>
  (Tr.get p0x).bind fun f=>(Tr.get p0x).bind fun b=>aO (aA (bp (bD n) b) aT (0,p1out)) (fun c=>some c) (fun d=>(Tr.get p0x).bind fun g=>(Tr.get p0x).bind fun a=>(bM 32 d.2 ([(a.1.1,a.1.2.1,a.1.2.2.1,a.1.2.2.2)])).bind fun e=>some e)
def ri (a:Tr Yq1):Option (List Yq1):=
 (bD fJ a ([] :List Yq1)).bind fun b=>some b
def mT (a:List Yq1):Option ((List Yq1)×Bool):=
 (lK a).bind fun d=>if d then ((om a).bind fun b=>(cd fJ b).bind fun e=>if decide (e>5000) then (some (([] :List Yq1),false)) else ((bF fJ b).bind fun f=>(ri f).bind fun c=>if decide ((c.length:Int)>400) then (some (([] :List Yq1),false)) else (some (c,true)))) else (some (([] :List Yq1),false))
def dF (b:(List Int)×Int×Int×(List Int)×Bool) (c:Int) (d:Int) (a:Int×List Int):Option (Out Yq9 (Int×List Int)):=
 if decide (a.1<(b.2.2.2.1.length:Int)) then (Option.bind (((chk (0<=a.1)).bind fun _=>if (qe (nO c a.1) 1)==1 then ((aQ a.2 a.1).bind fun e=>(aQ a.2 a.1).bind fun g=>some (a.2.set a.1.toNat (orI e d))) else (some a.2):Option (List Int))) (fun f=>some (.nxt (i64.wrap (a.1+1),f)))) else (some (.brk (a.1,a.2)))
def eW (a:(List Int)×Int×Int×(List Int)×Bool) (b:Int) (c:Int):Option Yq9:=
 aO (aA (dF a b c) aT (0,a.2.2.2.1)) (fun d=>some d) (fun e=>some (a.1,a.2.1,a.2.2.1,e.2,a.2.2.2.2))
def bG:Nat->Yq9->(Tr Yq1)->Option ((Int×Int×Bool)×(List Int)×Int×Int×(List Int)×Bool)
 | 0,_,_=>none
 | n+1,p0,p1 =>
  (Tr.get p1).bind fun A=>(Tr.get p1).bind fun i=>if i.1.1==2 then (some ((0,0,true),p0.1,p0.2.1,p0.2.2.1,p0.2.2.2.1,p0.2.2.2.2)) else (if i.1.1==3 then ((Tr.get p1).bind fun B=>(Tr.get p1).bind fun m=>(bM 8 p0.1 ([m.1.2.1])).bind fun o=>(bM 8 p0.2.2.2.1 ([0])).bind fun p=>some ((vM 1 (p0.1.length:Int),vM 1 (p0.1.length:Int),false),o,p0.2.1,p0.2.2.1,p,p0.2.2.2.2)) else (if i.1.1==5 then ((Tr.get p1).bind fun C=>(Tr.get p1).bind fun q=>(aQ q.2 0).bind fun r=>((bG n) (p0.1,p0.2.1,p0.2.2.1,p0.2.2.2.1,p0.2.2.2.2) r).bind fun f=>(Tr.get p1).bind fun D=>(Tr.get p1).bind fun s=>(aQ s.2 1).bind fun t=>((bG n) f.2 t).bind fun b=>if f.1.2.2 then (some ((orI f.1.1 b.1.1,orI f.1.2.1 b.1.2.1,true),b.2.1,b.2.2.1,b.2.2.2.1,b.2.2.2.2.1,b.2.2.2.2.2)) else (some ((orI f.1.1 b.1.1,orI f.1.2.1 b.1.2.1,b.1.2.2),b.2.1,b.2.2.1,b.2.2.2.1,b.2.2.2.2.1,b.2.2.2.2.2))) else (if i.1.1==4 then ((Tr.get p1).bind fun E=>(Tr.get p1).bind fun u=>(aQ u.2 0).bind fun v=>((bG n) (p0.1,p0.2.1,p0.2.2.1,p0.2.2.2.1,p0.2.2.2.2) v).bind fun c=>(Tr.get p1).bind fun F=>(Tr.get p1).bind fun w=>(aQ w.2 1).bind fun x=>((bG n) c.2 x).bind fun a=>(eW (a.2.1,a.2.2.1,a.2.2.2.1,a.2.2.2.2.1,a.2.2.2.2.2) c.1.2.1 a.1.1).bind fun d=>if c.1.2.2 then (Option.bind ((if c.1.2.2 then (some (orI c.1.1 a.1.1,a.1.2.1,a.1.2.2)) else (some (c.1.1,a.1.2.1,a.1.2.2)):Option (Int×Int×Bool))) (fun g=>Option.bind ((if a.1.2.2 then (some (g.1,orI g.2.1 c.1.2.1,g.2.2)) else (some (g.1,g.2.1,g.2.2)):Option (Int×Int×Bool))) (fun k=>some ((k.1,k.2.1,k.2.2),d.1,d.2.1,d.2.2.1,d.2.2.2.1,d.2.2.2.2)))) else (Option.bind ((if c.1.2.2 then (some (orI c.1.1 a.1.1,a.1.2.1,false)) else (some (c.1.1,a.1.2.1,false)):Option (Int×Int×Bool))) (fun h=>Option.bind ((if a.1.2.2 then (some (h.1,orI h.2.1 c.1.2.1,h.2.2)) else (some (h.1,h.2.1,h.2.2)):Option (Int×Int×Bool))) (fun l=>some ((l.1,l.2.1,l.2.2),d.1,d.2.1,d.2.2.1,d.2.2.2.1,d.2.2.2.2))))) else (if i.1.1==6 then ((Tr.get p1).bind fun G=>(Tr.get p1).bind fun y=>(aQ y.2 0).bind fun z=>((bG n) (p0.1,p0.2.1,p0.2.2.1,p0.2.2.2.1,p0.2.2.2.2) z).bind fun e=>(eW (e.2.1,e.2.2.1,e.2.2.2.1,e.2.2.2.2.1,e.2.2.2.2.2) e.1.2.1 e.1.1).bind fun j=>some ((e.1.1,e.1.2.1,true),j.1,j.2.1,j.2.2.1,j.2.2.2.1,j.2.2.2.2)) else (some ((0,0,false),p0.1,p0.2.1,p0.2.2.1,p0.2.2.2.1,p0.2.2.2.2))))))
def eF (b:(List Yq1)×Bool) (a:Int×Int):Option (Out (Yq9×Bool) (Int×Int)):=
 if decide (a.2<(b.1.length:Int)) then (Option.bind (((aQ b.1 a.2).bind fun c=>if c.1==3 then (some (i64.wrap (a.1+1))) else (some a.1):Option Int)) (fun d=>some (.nxt (d,i64.wrap (a.2+1))))) else (some (.brk (a.1,a.2)))
def iQ (c:List Yq1):Option (Yq9×Bool):=
 (mT c).bind fun b=>if b.2 then (aO (aA (eF b) aT (0,0)) (fun d=>some d) (fun e=>if decide (e.1>20) then (some ((([] :List Int),0,0,([] :List Int),false),false)) else ((om b.1).bind fun f=>(bG fJ (([] :List Int),0,0,([] :List Int),false) f).bind fun a=>some ((a.2.1,a.1.1,a.1.2.1,a.2.2.2.2.1,a.1.2.2),true)))) else (some ((([] :List Int),0,0,([] :List Int),false),false))
def fw (e:Int->Int->Option (Int×Bool)) (f:(List Int)×Yq4×Int×Int×(List Bool)×(List (List Int))) (a:(List Int)×Yq4×(List Int)×Int):Option (Out (Yq2×Bool) ((List Int)×Yq4×(List Int)×Int)):=
 if decide (a.2.2.2<9) then (Option.bind (((aQ a.1 f.2.2.1).bind fun g=>(e g a.2.2.2).bind fun b=>if b.2 then ((chk (iOk b.1=true)).bind fun _=>Option.bind ((if (lkM a.2.1 b.1).isSome then (some (a.1,a.2.1,(lkM a.2.1 b.1).getD 0)) else ((Mq a.2.1 iOk iOk b.1 (a.1.length:Int)).bind fun m37=>(bM 8 a.1 ([b.1])).bind fun h=>some (h,m37,(a.1.length:Int))):Option ((List Int)×Yq4×Int))) (fun c=>(bM 8 a.2.2.1 ([c.2.2])).bind fun i=>some (c.1,c.2.1,i))) else ((bM 8 a.2.2.1 ([-1])).bind fun j=>some (a.1,a.2.1,j)):Option ((List Int)×Yq4×(List Int)))) (fun d=>some (.nxt (d.1,d.2.1,d.2.2,i64.wrap (a.2.2.2+1))))) else (some (.brk (a.1,a.2.1,a.2.2.1,a.2.2.2)))
def cJ (c:Int) (d:Int->Option Bool) (e:Int->Int->Option (Int×Bool)) (a:(List Int)×Yq4×Int×Int×(List Bool)×(List (List Int))):Option (Out (Yq2×Bool) ((List Int)×Yq4×Int×Int×(List Bool)×(List (List Int)))):=
 if decide (a.2.2.1<(a.1.length:Int)) then (aO (aA (fw e a) aT (a.1,a.2.1,([] :List Int),0)) (fun r=>some (.ret r)) (fun b=>if decide ((b.1.length:Int)>c) then (some (.ret ((0,[],[]),false))) else ((aQ b.1 a.2.2.1).bind fun f=>(d f).bind fun g=>(bM 1 a.2.2.2.2.1 ([g])).bind fun h=>(bM 24 a.2.2.2.2.2 ([b.2.2.1])).bind fun i=>some (.nxt (b.1,b.2.1,i64.wrap (a.2.2.1+1),a.2.2.2.1,h,i))))) else (some (.brk (a.1,a.2.1,a.2.2.1,a.2.2.2.1,a.2.2.2.2.1,a.2.2.2.2.2)))
def fQ (b:Int) (c:Int) (d:Int->Option Bool) (e:Int->Int->Option (Int×Bool)):Option (Yq2×Bool):=
 (Mq ([] :List (Int×Int)) iOk iOk b 0).bind fun m1=>aO (aA (cJ c d e) aT ([b],m1,0,0,[],[])) (fun r=>some r) (fun a=>some ((a.2.2.2.1,a.2.2.2.2.1,a.2.2.2.2.2),true))
def eG (a:(List Int)×Int×Int×(List Int)×Bool) (b:Int):Option Bool:=
 if (qe b 1)==1 then (if a.2.2.2.2 then (some true) else (some ((qe (nO b 1) a.2.2.1) !=0))) else (some ((qe (nO b 1) a.2.2.1) !=0))
def dM (b:(List Int)×Int×Int×(List Int)×Bool) (c:Int) (a:Int×Int):Option L6:=
 if decide (a.2<(b.2.2.2.1.length:Int)) then (Option.bind (((aQ b.2.2.2.1 a.2).bind fun d=>(chk (0<=i64.wrap (a.2+1))).bind fun _=>if (qe (nO c (i64.wrap (a.2+1))) 1)==1 then (some (orI a.1 d)) else (some a.1):Option Int)) (fun e=>some (.nxt (e,i64.wrap (a.2+1))))) else (some (.brk (a.1,a.2)))
def dN (b:(List Int)×Int×Int×(List Int)×Bool) (c:Int) (d:Int×Int) (a:Int×Int):Option L6:=
 if decide (a.2<(b.1.length:Int)) then (Option.bind (((aQ b.1 a.2).bind fun e=>if e==c then ((chk (0<=a.2)).bind fun _=>if (qe (nO d.1 a.2) 1)==1 then ((chk (0<=i64.wrap (a.2+1))).bind fun _=>some (orI a.1 (vM 1 (i64.wrap (a.2+1))))) else (some a.1)) else (some a.1):Option Int)) (fun f=>some (.nxt (f,i64.wrap (a.2+1))))) else (some (.brk (a.1,a.2)))
def ir (a:(List Int)×Int×Int×(List Int)×Bool) (b:Int) (c:Int):Option Int:=
 Option.bind ((if (qe b 1)==1 then (some a.2.1) else (some 0):Option Int)) (fun d=>aO (aA (dM a b) aT (d,0)) (fun r=>some r) (fun e=>aO (aA (dN a c e) aT (0,0)) (fun r=>some r) (fun f=>some f.1)))
def dQ (b:Int) (c:Int) (q0:(List Int)×Int×Int×(List Int)×Bool):Option (Int×Bool):=
 (ir (q0.1,q0.2.1,q0.2.2.1,q0.2.2.2.1,q0.2.2.2.2) b c).bind fun a=>some (a,a !=0)
def jv (a:(List Int)×Int×Int×(List Int)×Bool) (c:Int):Option (Yq2×Bool):=
 (fQ 1 c (fun a0=>eG (a.1,a.2.1,a.2.2.1,a.2.2.2.1,a.2.2.2.2) a0) (fun a0 a1=>dQ a0 a1 (a.1,a.2.1,a.2.2.1,a.2.2.2.1,a.2.2.2.2))).bind fun b=>some ((b.1.1,b.1.2.1,b.1.2.2),b.2)
def eH (b:Bool×Int×List Bool) (c:List Int) (a:Bool×Int×List Bool):Option (Out (List Bool) (Bool×Int×List Bool)):=
 if decide (a.2.1<(c.length:Int)) then (Option.bind (((aQ c a.2.1).bind fun d=>if decide (d≥0) then ((aQ a.2.2 d).bind fun f=>if f then ((aQ a.2.2 b.2.1).bind fun g=>if g then (some (a.1,a.2.2)) else ((aQ a.2.2 b.2.1).bind fun h=>some (true,a.2.2.set b.2.1.toNat true))) else (some (a.1,a.2.2))) else (some (a.1,a.2.2)):Option (Bool×List Bool))) (fun e=>some (.nxt (e.1,i64.wrap (a.2.1+1),e.2)))) else (some (.brk (a.1,a.2.1,a.2.2)))
def eI (b:Int×(List Bool)×List (List Int)) (a:Bool×Int×List Bool):Option (Out (List Bool) (Bool×Int×List Bool)):=
 if decide (a.2.1<(b.2.2.length:Int)) then ((aQ b.2.2 a.2.1).bind fun d=>aO (aA (eH a d) aT (a.1,0,a.2.2)) (fun e=>some (.ret e)) (fun c=>some (.nxt (c.1,i64.wrap (a.2.1+1),c.2.2)))) else (some (.brk (a.1,a.2.1,a.2.2)))
def jw (c:Int×(List Bool)×List (List Int)) (a:Bool×List Bool):Option (Out (List Bool) (Bool×List Bool)):=
 if a.1 then (aO (aA (eI c) aT (false,0,a.2)) (fun d=>some (.ret d)) (fun b=>some (.nxt (b.1,b.2.2)))) else (some (.brk (a.1,a.2)))
def fX (a:Int×(List Bool)×List (List Int)):Option (List Bool):=
 (bM 1 ([] :List Bool) a.2.1).bind fun b=>aO (aA (jw a) aT (true,b)) (fun c=>some c) (fun d=>some d.2)
def cZ (b:List (List Int)) (c:(List Int)->Option Bool) (a:Int):Option (Out Int Int):=
 if decide (a<(b.length:Int)) then ((aQ b a).bind fun d=>(c d).bind fun e=>if e then (some (.ret a)) else (some (.nxt (i64.wrap (a+1))))) else (some (.brk a))
def cy (a:List (List Int)) (b:(List Int)->Option Bool):Option Int:=
 aO (aA (cZ a b) aT 0) (fun r=>some r) (fun c=>some (-1))
def iO (a:List Int) (q0:List Int):Option Bool:=
 (cX a q0).bind fun b=>some b
def dG (d:List Int) (c:List Int) (a:Int×(List Int)):Option (Out ((List Int)×Int) (Int×(List Int))):=
 if decide (a.1<(c.length:Int)) then ((aQ c a.1).bind fun b=>Option.bind ((if decide (b≥0) then ((aQ d b).bind fun e=>some e) else (some b):Option Int)) (fun f=>(bM 8 a.2 ([f])).bind fun g=>some (.nxt (i64.wrap (a.1+1),g)))) else (some (.brk (a.1,a.2)))
def fb (h:Int×(List Bool)×(List (List Int))) (b:List Int) (a:(List (List Int))×(List Int)×Int):Option (Out ((List Int)×Int) ((List (List Int))×(List Int)×Int)):=
 if decide (a.2.2<(b.length:Int)) then (Option.bind (((aQ b a.2.2).bind fun c=>if decide (c<0) then ((bM 8 a.2.1 ([-1])).bind fun i=>some (a.1,i)) else ((aQ h.2.2 a.2.2).bind fun j=>aO (aA (dG b j) aT (0,[c])) (fun _=>none) (fun d=>(cy a.1 (fun a0=>iO a0 d.2)).bind fun e=>Option.bind ((if decide (e<0) then ((bM 24 a.1 ([d.2])).bind fun k=>some (k,(a.1.length:Int))) else (some (a.1,e)):Option ((List (List Int))×Int))) (fun f=>(bM 8 a.2.1 ([f.2])).bind fun l=>some (f.1,l)))):Option ((List (List Int))×(List Int)))) (fun g=>some (.nxt (g.1,g.2,i64.wrap (a.2.2+1))))) else (some (.brk (a.1,a.2.1,a.2.2)))
def eX (b:Int×(List Bool)×(List (List Int))) (c:List Int):Option ((List Int)×Int):=
 aO (aA (fb b c) aT (([] :List (List Int)),([] :List Int),0)) (fun r=>some r) (fun a=>some (a.2.1,(a.1.length:Int)))
def dk (c:Int×(List Bool)×(List (List Int))) (b:List Bool) (a:(List Int)×Int):Option PW:=
 if decide (a.2<(b.length:Int)) then (Option.bind (((aQ b a.2).bind fun d=>if d then ((aQ c.2.1 a.2).bind fun e=>if e then ((bM 8 a.1 ([1])).bind fun f=>some f) else ((bM 8 a.1 ([0])).bind fun g=>some g)) else ((bM 8 a.1 ([-1])).bind fun h=>some h):Option (List Int))) (fun i=>some (.nxt (i,i64.wrap (a.2+1))))) else (some (.brk (a.1,a.2)))
def gP (b:Int×(List Bool)×(List (List Int))) (c:(List Int)×Int):Option PW:=
 (eX (b.1,b.2.1,b.2.2) c.1).bind fun a=>if a.2==c.2 then (some (.ret a.1)) else (some (.nxt (a.1,a.2)))
def eJ (a:Int×(List Bool)×(List (List Int))):Option (List Int):=
 (fX (a.1,a.2.1,a.2.2)).bind fun b=>aO (aA (dk a b) aT (([] :List Int),0)) (fun r=>some r) (fun c=>aO (aA (gP a) aT (c.1,-1)) (fun r=>some r) (fun d=>none))
def vd (a:Int) (b:Int):Option (Int×Int):=
 some (IntKind.u32.wrap (nO (IntKind.u64.wrap ((IntKind.u64.wrap a)*(IntKind.u64.wrap b))) 32),IntKind.u32.wrap (IntKind.u64.wrap ((IntKind.u64.wrap a)*(IntKind.u64.wrap b))))
def oT (a:Int) (b:Int):Option (Int×Int):=
 some (IntKind.u64.wrap ((IntKind.u64.wrap ((IntKind.u64.wrap ((nO a 32)*(nO b 32)))+(nO (IntKind.u64.wrap ((IntKind.u64.wrap ((nO a 32)*(PQ b 4294967295)))+(nO (IntKind.u64.wrap ((PQ a 4294967295)*(PQ b 4294967295))) 32))) 32)))+(nO (IntKind.u64.wrap ((PQ (IntKind.u64.wrap ((IntKind.u64.wrap ((nO a 32)*(PQ b 4294967295)))+(nO (IntKind.u64.wrap ((PQ a 4294967295)*(PQ b 4294967295))) 32))) 4294967295)+(IntKind.u64.wrap ((PQ a 4294967295)*(nO b 32))))) 32)),IntKind.u64.wrap (a*b))
def qv (b:Int) (c:Int):Option (Int×Int):=
 (oT b c).bind fun a=>some (a.1,a.2)
def nh (a:Int×List Int):Option (Out (List Int) (Int×List Int)):=
 if decide (a.1<(a.2.length:Int)) then ((chk (And (0<=a.1) (a.1<=(a.2.length:Int)))).bind fun _=>(chk (And (0<=a.1) (a.1<=(a.2.length:Int)))).bind fun _=>(chk (And (0<=a.1) (a.1<=(a.2.length:Int)))).bind fun _=>(chk (And (0<=a.1) (a.1<=(a.2.length:Int)))).bind fun _=>some (.nxt (i64.wrap (a.1+((Min.min ((a.2.take a.1.toNat).length) (a.2.length - a.1.toNat):Nat):Int)),B6 a.2 a.1.toNat (a.2.take a.1.toNat)))) else (some (.brk (a.1,a.2)))
def cK (a:List Int) (c:Int):Option (List Int):=
 if decide (c<0) then (none) else ((qv (IntKind.u64.wrap (a.length:Int)) (IntKind.u64.wrap c)).bind fun b=>if decide (b.1>0) then (none) else (if decide (b.2>9223372036854775807) then (none) else ((mkI 8 (i64.wrap b.2) 0).bind fun d=>aO (aA (nh) aT (((Min.min a.length (d.length - 0):Nat):Int),B6 d 0 a)) (fun e=>some e) (fun f=>some f.2))))
def ve:Option Yq2:=
 (cK ([-1]) 9).bind fun a=>some (0,[false],[a])
def eT (b:List Int) (c:Int) (a:Int):Option (Out Int Int):=
 if decide (a<(b.length:Int)) then ((aQ b a).bind fun d=>if c==d then (some (.ret a)) else (some (.nxt (i64.wrap (a+1))))) else (some (.brk a))
def fK (a:List Int) (b:Int):Option Int:=
 aO (aA (eT a b) aT 0) (fun r=>some r) (fun c=>some (-1))
def bm (a:Int) (q0:List Int):Option Int:=
 (fK q0 a).bind fun b=>some b
def dm (a:Int) (q0:Int×(List Bool)×(List (List Int))) (q1:Int->Option Int):Option Bool:=
 (q1 a).bind fun b=>(aQ q0.2.1 b).bind fun c=>some c
def bP (c:Int×(List Bool)×(List (List Int))) (a:Int) (b:Int):Option Int:=
 if decide (a<0) then (some (-1)) else ((kU b).bind fun d=>if d then ((aQ c.2.2 a).bind fun e=>(aQ e b).bind fun f=>some f) else (some (-1)))
def dn (b:Int) (c:Int) (q0:Int×(List Bool)×(List (List Int))) (q1:Int->Option Int) (q2:List Int):Option (Int×Bool):=
 (q1 b).bind fun d=>(bP (q0.1,q0.2.1,q0.2.2) d c).bind fun a=>if decide (a<0) then (some (0,false)) else ((aQ q2 a).bind fun e=>if decide (e<0) then (some (0,false)) else ((aQ q2 a).bind fun f=>some (f,true)))
def db (a:Int×(List Bool)×(List (List Int))):Option Yq2:=
 (eJ (a.1,a.2.1,a.2.2)).bind fun b=>(aQ b a.1).bind fun e=>if decide (e<0) then ((ve).bind fun c=>some (c.1,c.2.1,c.2.2)) else ((aQ b a.1).bind fun f=>(fQ f (b.length:Int) (fun a0=>dm a0 (a.1,a.2.1,a.2.2) (fun a0=>bm a0 b)) (fun a0 a1=>dn a0 a1 (a.1,a.2.1,a.2.2) (fun a0=>bm a0 b) b)).bind fun d=>some (d.1.1,d.1.2.1,d.1.2.2))
def AS (b:Int×(List Bool)×(List (List Int))):Option (Yq2×Bool):=
 (db (b.1,b.2.1,b.2.2)).bind fun a=>if decide ((a.2.1.length:Int)>12) then (some ((0,[],[]),false)) else (some ((a.1,a.2.1,a.2.2),true))
def jx (d:(List Yq1)):Option (Yq2×Bool):=
 (iQ d).bind fun a=>if a.2 then ((jv (a.1.1,a.1.2.1,a.1.2.2.1,a.1.2.2.2.1,a.1.2.2.2.2) 200).bind fun b=>if b.2 then ((AS (b.1.1,b.1.2.1,b.1.2.2)).bind fun c=>some ((c.1.1,c.1.2.1,c.1.2.2),c.2)) else (some ((0,[],[]),false))) else (some ((0,[],[]),false))
def ni (a:(List Yq1)):Option (List Yq1):=
 (bM 32 ([] :List Yq1) a).bind fun b=>some b
def bZ (c:List Yq2) (d:Yq2->Option Bool) (a:Int):Option (Out Int Int):=
 if decide (a<(c.length:Int)) then ((aQ c a).bind fun b=>(d (b.1,b.2.1,b.2.2)).bind fun e=>if e then (some (.ret a)) else (some (.nxt (i64.wrap (a+1))))) else (some (.brk a))
def bj (a:List Yq2) (b:Yq2->Option Bool):Option Int:=
 aO (aA (bZ a b) aT 0) (fun r=>some r) (fun c=>some (-1))
def nj (a:Int×(List Bool)×(List (List Int))) (q0:Int×(List Bool)×(List (List Int))):Option Bool:=
 (fo (q0.1,q0.2.1,q0.2.2) (a.1,a.2.1,a.2.2)).bind fun b=>some b
def lL (d:List Yq3) (a:Int×(List Yq2)×(List Yq3)):Option (Out (RO×Bool) Ts):=
 if decide (a.1<(d.length:Int)) then ((aQ d a.1).bind fun c=>(jx c.2.1).bind fun b=>if b.2 then ((bS c.1 1 99).bind fun i=>if i then (if decide (a.1>0) then ((aQ d (i64.wrap (a.1 - 1))).bind fun j=>if decide (j.1≥c.1) then (some (.ret (([],[]),false))) else ((bj a.2.1 (fun a0=>nj a0 (b.1.1,b.1.2.1,b.1.2.2))).bind fun g=>Option.bind ((if decide (g<0) then ((bM 56 a.2.1 ([(b.1.1,b.1.2.1,b.1.2.2)])).bind fun k=>some ((a.2.1.length:Int),k,a.2.2)) else (some (g,a.2.1,a.2.2)):Option Ts)) (fun e=>(ni c.2.1).bind fun l=>(bM 40 e.2.2 ([(c.1,l,e.1)])).bind fun m=>some (.nxt (i64.wrap (a.1+1),e.2.1,m))))) else ((bj a.2.1 (fun a0=>nj a0 (b.1.1,b.1.2.1,b.1.2.2))).bind fun h=>Option.bind ((if decide (h<0) then ((bM 56 a.2.1 ([(b.1.1,b.1.2.1,b.1.2.2)])).bind fun n=>some ((a.2.1.length:Int),n,a.2.2)) else (some (h,a.2.1,a.2.2)):Option Ts)) (fun f=>(ni c.2.1).bind fun o=>(bM 40 f.2.2 ([(c.1,o,f.1)])).bind fun p=>some (.nxt (i64.wrap (a.1+1),f.2.1,p))))) else (some (.ret (([],[]),false)))) else (some (.ret (([],[]),false)))) else (some (.brk (a.1,a.2.1,a.2.2)))
def tL (a:List Yq3):Option (RO×Bool):=
 aO (aA (lL a) aT (0,[],[])) (fun r=>some r) (fun b=>some ((b.2.1,b.2.2),decide ((a.length:Int)<=4)))
def dR (a:(List Yq2)×(List Yq3)):Option Bool:=
 (tL a.2).bind fun b=>if b.2 then ((iq (b.1.1,b.1.2) (a.1,a.2)).bind fun c=>some c) else (some false)
def br (c:List Yq3) (d:Yq3->Option Bool) (a:Int):Option (Out Int Int):=
 if decide (a<(c.length:Int)) then ((aQ c a).bind fun b=>(d (b.1,b.2.1,b.2.2)).bind fun e=>if e then (some (.ret a)) else (some (.nxt (i64.wrap (a+1))))) else (some (.brk a))
def cj (a:List Yq3) (b:Yq3->Option Bool):Option Int:=
 aO (aA (br a b) aT 0) (fun r=>some r) (fun c=>some (-1))
def lM (a:Int×((List Yq1))×Int) (q0:Int):Option Bool:=
 some (a.1==q0)
def nT (a:(List Yq2)×(List Yq3)) (b:Int):Option Int:=
 (cj a.2 (fun a0=>lM a0 b)).bind fun c=>some c
def jy (a:List Int):Option (List Int):=
 (bM 8 ([] :List Int) a).bind fun b=>some b
def eY (b:Int×(List Bool)×(List (List Int))) (a:Int×Int×(List Bool)×(List (List Int))):Option (Out Yq2 (Int×Int×(List Bool)×(List (List Int)))):=
 if decide (a.1<(b.2.2.length:Int)) then ((aQ b.2.2 a.1).bind fun c=>(jy c).bind fun d=>(bM 24 a.2.2.2 ([d])).bind fun e=>some (.nxt (i64.wrap (a.1+1),a.2.1,a.2.2.1,e))) else (some (.brk (a.1,a.2.1,a.2.2.1,a.2.2.2)))
def jP (a:Int×(List Bool)×(List (List Int))):Option Yq2:=
 (bM 1 ([] :List Bool) a.2.1).bind fun c=>aO (aA (eY a) aT (0,a.1,c,[])) (fun r=>some r) (fun b=>some (b.2.1,b.2.2.1,b.2.2.2))
def eP (a:(List Yq2)×(List Yq3)) (e:Int):Option (Yq2×Bool):=
 (nT (a.1,a.2) e).bind fun d=>if decide (d<0) then (some ((0,[],[]),false)) else ((dR (a.1,a.2)).bind fun f=>if f then ((aQ a.2 d).bind fun g=>(aQ a.1 g.2.2).bind fun b=>(jP (b.1,b.2.1,b.2.2)).bind fun c=>some ((c.1,c.2.1,c.2.2),true)) else (some ((0,[],[]),false)))
def mA (a:Int×Int×Int×Int) (b:Int):Option Bool:=
 (bS a.1 1 99).bind fun c=>if c then ((bS a.2.1 0 (i64.wrap (b - 1))).bind fun d=>if d then ((bS a.2.2.1 0 (i64.wrap (b - 1))).bind fun e=>if e then ((bS a.2.2.2 0 2).bind fun f=>some f) else (some false)) else (some false)) else (some false)
def fx (b:(List Int)×(List Yq1)) (a:Int):Option (Out Bool Int):=
 if decide (a<(b.1.length:Int)) then ((aQ b.1 a).bind fun c=>(bS c 0 2).bind fun d=>if d then (some (.nxt (i64.wrap (a+1)))) else (some (.ret false))) else (some (.brk a))
def dS (c:(List Int)×(List Yq1)) (a:Int):Option (Out Bool Int):=
 if decide (a<(c.2.length:Int)) then ((aQ c.2 a).bind fun b=>(mA (b.1,b.2.1,b.2.2.1,b.2.2.2) (c.1.length:Int)).bind fun d=>if d then (if decide (a>0) then ((aQ c.2 (i64.wrap (a - 1))).bind fun e=>if decide (e.1≥b.1) then (some (.ret false)) else (some (.nxt (i64.wrap (a+1))))) else (some (.nxt (i64.wrap (a+1))))) else (some (.ret false))) else (some (.brk a))
def aS (a:(List Int)×(List Yq1)):Option Bool:=
 aO (aA (fx a) aT 0) (fun r=>some r) (fun c=>aO (aA (dS a) aT 0) (fun r=>some r) (fun d=>(bS (a.1.length:Int) 1 5).bind fun b=>if b then (some (decide ((a.2.length:Int)<=12))) else (some false)))
def cQ (c:Int×(List Bool)×(List (List Int))) (b:List Int) (a:Int):Option (Out Bool Int):=
 if decide (a<(b.length:Int)) then ((aQ b a).bind fun d=>(bS d (-1) (i64.wrap ((c.2.1.length:Int) - 1))).bind fun e=>if e then (some (.nxt (i64.wrap (a+1)))) else (some (.ret false))) else (some (.brk a))
def fc (b:Int×(List Bool)×(List (List Int))) (a:Int):Option (Out Bool Int):=
 if decide (a<(b.2.2.length:Int)) then ((aQ b.2.2 a).bind fun c=>aO (aA (cQ b c) aT 0) (fun r=>some (.ret r)) (fun d=>if (c.length:Int) !=9 then (some (.ret false)) else (some (.nxt (i64.wrap (a+1)))))) else (some (.brk a))
def cA (a:Int×(List Bool)×(List (List Int))):Option Bool:=
 (bS (a.2.1.length:Int) 1 12).bind fun b=>if b then ((bS a.1 0 (i64.wrap ((a.2.1.length:Int) - 1))).bind fun c=>if c then (if (a.2.2.length:Int) !=(a.2.1.length:Int) then (some false) else (aO (aA (fc a) aT 0) (fun r=>some r) (fun d=>some true))) else (some false)) else (some false)
def ep (c:(List Int)×(List Yq1)) (b:List Int) (a:Int):Option (Out Bool Int):=
 if decide (a<(b.length:Int)) then ((aQ b a).bind fun d=>(bS d 0 (i64.wrap ((c.1.length:Int) - 1))).bind fun e=>if e then (some (.nxt (i64.wrap (a+1)))) else (some (.ret false))) else (some (.brk a))
def de (a:(List Int)×(List Yq1)) (b:Int×(List Bool)×(List (List Int))) (c:List Int):Option Bool:=
 aO (aA (ep a c) aT 0) (fun r=>some r) (fun f=>(aS (a.1,a.2)).bind fun d=>if d then ((cA (b.1,b.2.1,b.2.2)).bind fun e=>some e) else (some false))
def lN (c:List Int) (a:(List Int)×Int×List Int):Option (Out (List Int) ((List Int)×Int×List Int)):=
 if decide (a.2.1<(c.length:Int)) then ((aQ c a.2.1).bind fun b=>(aQ a.2.2 b).bind fun e=>(bM 8 a.1 ([b])).bind fun d=>some (.nxt (d,i64.wrap (a.2.1+1),a.2.2.set b.toNat 0))) else (some (.brk (a.1,a.2.1,a.2.2)))
def lO (c:List Int) (a:(List Int)×Int×List Int):Option (Out (List Int) ((List Int)×Int×List Int)):=
 if decide (a.2.1<(c.length:Int)) then (Option.bind (((aQ c a.2.1).bind fun b=>(aQ a.2.2 b).bind fun e=>if decide (e<0) then ((aQ a.1 0).bind fun f=>(aQ a.2.2 f).bind fun g=>(aQ a.2.2 b).bind fun i=>(bM 8 a.1 ([b])).bind fun h=>some (h,a.2.2.set b.toNat (i64.wrap (g+1)))) else (some (a.1,a.2.2)):Option ((List Int)×List Int))) (fun d=>some (.nxt (d.1,i64.wrap (a.2.1+1),d.2)))) else (some (.brk (a.1,a.2.1,a.2.2)))
def lP (c:List (List Int)) (a:(List Int)×List Int):Option (Out (List Int) ((List Int)×List Int)):=
 if decide ((a.1.length:Int)>0) then ((aQ a.1 0).bind fun d=>(aQ c d).bind fun e=>aO (aA (lO e) aT (a.1,0,a.2)) (fun f=>some (.ret f)) (fun b=>(chk (And ((0:Int)<=1) (1<=(b.1.length:Int)))).bind fun _=>some (.nxt (b.1.drop 1,b.2.2)))) else (some (.brk (a.1,a.2)))
def tM (a:List (List Int)) (c:List Int):Option (List Int):=
 (cK ([(-1)]) (a.length:Int)).bind fun d=>aO (aA (lN c) aT (([] :List Int),0,d)) (fun e=>some e) (fun b=>aO (aA (lP a) aT (b.1,b.2.2)) (fun f=>some f) (fun g=>some g.2))
def sx (a:Int×Int×Int×Int) (b:Bool):Option Int:=
 if b then (some (i64.wrap ((i64.wrap (2*a.2.2.2))+1))) else (some (i64.wrap (2*a.2.2.2)))
def oU (d:(List Int)×List Yq1) (b:Int×List (List Yq7)):Option (Out (List (List Yq7)) (Int×List (List Yq7))):=
 if decide (b.1<(d.2.length:Int)) then ((aQ d.2 b.1).bind fun a=>(aQ b.2 a.2.1).bind fun e=>(sx (a.1,a.2.1,a.2.2.1,a.2.2.2) false).bind fun f=>(bM 32 e ([((a.1,false),f,a.2.2.1)])).bind fun c=>(aQ b.2 a.2.1).bind fun j=>(chk (a.2.1<((b.2.set a.2.1.toNat ([] :List Yq7)).length:Int))).bind fun _=>(chk (a.2.1=a.2.1)).bind fun _=>(aQ (b.2.set a.2.1.toNat c) a.2.2.1).bind fun g=>(sx (a.1,a.2.1,a.2.2.1,a.2.2.2) true).bind fun h=>(bM 32 g ([((a.1,true),h,a.2.1)])).bind fun i=>(aQ (b.2.set a.2.1.toNat c) a.2.2.1).bind fun k=>(chk (a.2.2.1<(((b.2.set a.2.1.toNat c).set a.2.2.1.toNat ([] :List Yq7)).length:Int))).bind fun _=>(chk (a.2.2.1=a.2.2.1)).bind fun _=>some (.nxt (i64.wrap (b.1+1),(b.2.set a.2.1.toNat c).set a.2.2.1.toNat i))) else (some (.brk (b.1,b.2)))
def wA (a:(List Int)×List Yq1):Option (List (List Yq7)):=
 (mkI 24 (a.1.length:Int) ([] :List Yq7)).bind fun b=>aO (aA (oU a) aT (0,b)) (fun c=>some c) (fun d=>some d.2)
def pZ (b:Int) (a:(List Int)×Int):Option PW:=
 (chk (0<=a.2)).bind fun _=>if (nO b a.2) !=0 then (Option.bind (((chk (0<=a.2)).bind fun _=>if (qe (nO b a.2) 1)==1 then ((bM 8 a.1 ([a.2])).bind fun c=>some c) else (some a.1):Option (List Int))) (fun d=>some (.nxt (d,i64.wrap (a.2+1))))) else (some (.brk (a.1,a.2)))
def jz (a:Int):Option (List Int):=
 aO (aA (pZ a) aT (([] :List Int),0)) (fun r=>some r) (fun b=>some b.1)
def eu (b:Int×(List Bool)×(List (List Int))) (c:Int) (a:Int×Int):Option L6:=
 if decide (a.2≥0) then ((chk (0<=a.2)).bind fun _=>if (qe (nO a.1 a.2) 1)==0 then ((chk (0<=a.2)).bind fun _=>(bP (b.1,b.2.1,b.2.2) a.2 (i64.wrap (6+c))).bind fun d=>some (.nxt (orI a.1 (vM 1 a.2),d))) else (some (.brk (a.1,a.2)))) else (some (.brk (a.1,a.2)))
def gp (a:Int×(List Bool)×(List (List Int))) (b:Int) (c:Int):Option Int:=
 aO (aA (eu a c) aT (0,b)) (fun r=>some r) (fun d=>some d.1)
def nk (b:Int×(List Bool)×(List (List Int))) (e:Int) (d:List Int) (a:Int×Int):Option L6:=
 if decide (a.2<(d.length:Int)) then (Option.bind (((aQ d a.2).bind fun f=>(bP (b.1,b.2.1,b.2.2) f e).bind fun c=>if decide (c≥0) then ((chk (0<=c)).bind fun _=>some (orI a.1 (vM 1 c))) else (some a.1):Option Int)) (fun g=>some (.nxt (g,i64.wrap (a.2+1))))) else (some (.brk (a.1,a.2)))
def jA (b:Int×(List Bool)×(List (List Int))) (d:Int) (e:Int) (c:List Int) (a:Int×Int):Option L6:=
 if decide (a.2<(c.length:Int)) then ((aQ c a.2).bind fun f=>(gp (b.1,b.2.1,b.2.2) f d).bind fun g=>(jz g).bind fun h=>aO (aA (nk b e h) aT (a.1,0)) (fun r=>some (.ret r)) (fun i=>some (.nxt (i.1,i64.wrap (a.2+1))))) else (some (.brk (a.1,a.2)))
def sy (a:Int×(List Bool)×(List (List Int))) (b:Int) (c:Int) (d:Int):Option Int:=
 (jz b).bind fun e=>aO (aA (jA a c d e) aT (0,0)) (fun r=>some r) (fun f=>some f.1)
def dU (b:Int×(List Bool)×List (List Int)) (c:Int×List (List Int)) (d:Int×List (List Int)) (f:(Int×Bool)×Int×Int) (e:List Int) (a:Int×List (List Int)):Option (Out (List (List Int)) (Int×List (List Int))):=
 if decide (a.1<(e.length:Int)) then ((aQ e a.1).bind fun g=>(aQ a.2 (i64.wrap ((i64.wrap (c.1*(b.2.1.length:Int)))+d.1))).bind fun h=>(bM 8 h ([i64.wrap ((i64.wrap (f.2.2*(b.2.1.length:Int)))+g)])).bind fun i=>(aQ a.2 (i64.wrap ((i64.wrap (c.1*(b.2.1.length:Int)))+d.1))).bind fun j=>(chk ((i64.wrap ((i64.wrap (c.1*(b.2.1.length:Int)))+d.1))<((a.2.set ((i64.wrap ((i64.wrap (c.1*(b.2.1.length:Int)))+d.1)).toNat) ([] :List Int)).length:Int))).bind fun _=>(chk ((i64.wrap ((i64.wrap (c.1*(b.2.1.length:Int)))+d.1))=(i64.wrap ((i64.wrap (c.1*(b.2.1.length:Int)))+d.1)))).bind fun _=>some (.nxt (i64.wrap (a.1+1),a.2.set ((i64.wrap ((i64.wrap (c.1*(b.2.1.length:Int)))+d.1)).toNat) i))) else (some (.brk (a.1,a.2)))
def fy (g:(List Int)×List Yq1) (b:Int×(List Bool)×List (List Int)) (d:Int×List (List Int)) (e:List Yq7) (c:Int×List (List Int)) (a:Int×List (List Int)):Option (Out (List (List Int)) (Int×List (List Int))):=
 if decide (a.1<(e.length:Int)) then ((aQ e a.1).bind fun f=>(chk (0<=c.1)).bind fun _=>(aQ g.1 d.1).bind fun h=>(sy (b.1,b.2.1,b.2.2) (vM 1 c.1) h f.2.1).bind fun i=>(jz i).bind fun j=>aO (aA (dU b d c f j) aT (0,a.2)) (fun k=>some (.ret k)) (fun l=>some (.nxt (i64.wrap (a.1+1),l.2)))) else (some (.brk (a.1,a.2)))
def fA (c:(List Int)×List Yq1) (b:Int×(List Bool)×List (List Int)) (d:Int×List (List Int)) (e:List Yq7) (a:Int×List (List Int)):Option (Out (List (List Int)) (Int×List (List Int))):=
 if decide (a.1<(b.2.1.length:Int)) then (aO (aA (fy c b d e a) aT (0,a.2)) (fun f=>some (.ret f)) (fun g=>some (.nxt (i64.wrap (a.1+1),g.2)))) else (some (.brk (a.1,a.2)))
def iu (c:(List Int)×List Yq1) (d:Int×(List Bool)×List (List Int)) (b:List (List Yq7)) (a:Int×List (List Int)):Option (Out (List (List Int)) (Int×List (List Int))):=
 if decide (a.1<(b.length:Int)) then ((aQ b a.1).bind fun e=>aO (aA (fA c d a e) aT (0,a.2)) (fun f=>some (.ret f)) (fun g=>some (.nxt (i64.wrap (a.1+1),g.2)))) else (some (.brk (a.1,a.2)))
def fR (a:(List Int)×List Yq1) (b:Int×(List Bool)×List (List Int)):Option (List (List Int)):=
 (mkI 24 (i64.wrap ((b.2.1.length:Int)*(a.1.length:Int))) ([] :List Int)).bind fun c=>(wA (a.1,a.2)).bind fun d=>aO (aA (iu a b d) aT (0,c)) (fun e=>some e) (fun f=>some f.2)
def gQ (b:(List Int)×List Yq1) (a:Int×(List Bool)×List (List Int)) (c:Int):Option (List Int):=
 (de (b.1,b.2) (a.1,a.2.1,a.2.2) ([c])).bind fun e=>if e then ((fR (b.1,b.2) (a.1,a.2.1,a.2.2)).bind fun f=>(tM f ([i64.wrap ((i64.wrap (c*(a.2.1.length:Int)))+a.1)])).bind fun d=>((chk (0<(d.length:Int))).bind fun _=>some d).bind fun g=>some g) else (some ([] :List Int))
def kB (c:Int×(List Bool)×(List (List Int))) (b:List Int) (a:Int):Option (Out Bool Int):=
 if decide (a<(b.length:Int)) then ((aQ b a).bind fun d=>(aQ c.2.1 d).bind fun e=>if e then (some (.ret true)) else (some (.nxt (i64.wrap (a+1))))) else (some (.brk a))
def fS (a:Int×(List Bool)×(List (List Int))) (d:Int) (c:List Int) (b:Int):Option (Out Bool Int):=
 if decide (b<(c.length:Int)) then ((aQ c b).bind fun e=>(gp (a.1,a.2.1,a.2.2) e d).bind fun f=>(jz f).bind fun g=>aO (aA (kB a g) aT 0) (fun r=>some (.ret r)) (fun h=>some (.nxt (i64.wrap (b+1))))) else (some (.brk b))
def lQ (a:Int×(List Bool)×(List (List Int))) (b:Int) (c:Int):Option Bool:=
 (jz b).bind fun d=>aO (aA (fS a c d) aT 0) (fun r=>some r) (fun e=>some false)
def gq (a:List Int):Option (List Int):=R.RN a
def cR (c:List Int) (b:Int) (a:Int×Int×List Int):Option (Out (List Int) (Int×Int×List Int)):=
 if decide (a.2.1<((0+((c.length:Int) - 0)) - (0+b))) then (Option.bind (((chk (And (0<=a.2.1) (a.2.1<((0+((c.length:Int) - 0)) - (0+b))))).bind fun _=>(aQ a.2.2 ((0+b)+a.2.1)).bind fun e=>(chk (And (0<=(i64.wrap (a.2.1 - 1))) ((i64.wrap (a.2.1 - 1))<((0+((c.length:Int) - 0)) - (0+b))))).bind fun _=>(aQ a.2.2 ((0+b)+(i64.wrap (a.2.1 - 1)))).bind fun f=>if e !=f then ((chk (And (0<=a.2.1) (a.2.1<((0+((c.length:Int) - 0)) - (0+b))))).bind fun _=>(aQ a.2.2 ((0+b)+a.2.1)).bind fun g=>(aQ a.2.2 a.1).bind fun h=>some (i64.wrap (a.1+1),a.2.2.set a.1.toNat g)) else (some (a.1,a.2.2)):Option (Int×List Int))) (fun d=>some (.nxt (d.1,i64.wrap (a.2.1+1),d.2)))) else (some (.brk (a.1,a.2.1,a.2.2)))
def b7 (c:List Int) (b:Int):Option (Out (List Int) Int):=
 if decide (b<(c.length:Int)) then ((aQ c b).bind fun d=>(aQ c (i64.wrap (b - 1))).bind fun e=>if d==e then ((chk (And (0<=b) (And (b<=((c.length:Int) - 0)) ((0+((c.length:Int) - 0))<=(c.length:Int))))).bind fun _=>aO (aA (cR c b) aT (b,1,c)) (fun f=>some (.ret f)) (fun a=>(chk (And (0<=a.1) (And (a.1<=((a.2.2.length:Int) - 0)) ((0+((a.2.2.length:Int) - 0))<=(a.2.2.length:Int))))).bind fun _=>(chk (And ((0+a.1)<=(0+((a.2.2.length:Int) - 0))) ((0+((a.2.2.length:Int) - 0))<=(a.2.2.length:Int)))).bind fun _=>(chk (And ((0:Int)<=0) (And (0<=a.1) ((0+a.1)<=((qj a.2.2 ((0+a.1).toNat) ((0+((a.2.2.length:Int) - 0)).toNat) 0).length:Int))))).bind fun _=>some (.ret (((qj a.2.2 ((0+a.1).toNat) ((0+((a.2.2.length:Int) - 0)).toNat) 0).take ((0+a.1).toNat)).drop 0)))) else (some (.nxt (i64.wrap (b+1))))) else (some (.brk b))
def dt (a:List Int):Option (List Int):=
 if decide ((a.length:Int)<2) then (some a) else (aO (aA (b7 a) aT 1) (fun b=>some b) (fun c=>some a))
def lR (a:List Int):Option (List Int):=
 (jy a).bind fun b=>(gq b).bind fun c=>(dt c).bind fun d=>some d
def wB (a:(List Int)×Int):Option PW:=
 if decide (a.2<((0:Nat):Int)) then (none) else (some (.brk (a.1,a.2)))
def fY (d:(List Int)×List Yq1) (b:Int×(List Bool)×List (List Int)) (c:List Int) (a:(List Int)×Int):Option PW:=
 if decide (a.2<(c.length:Int)) then (Option.bind (((aQ c a.2).bind fun e=>if decide (e≥0) then ((chk ((b.2.1.length:Int)≠0)).bind fun _=>(chk (0<=(Int.tmod a.2 (b.2.1.length:Int)))).bind fun _=>(chk ((b.2.1.length:Int)≠0)).bind fun _=>(aQ d.1 (He a.2 (b.2.1.length:Int))).bind fun f=>(lQ (b.1,b.2.1,b.2.2) (vM 1 (Int.tmod a.2 (b.2.1.length:Int))) f).bind fun g=>if g then ((chk ((b.2.1.length:Int)≠0)).bind fun _=>(bM 8 a.1 ([He a.2 (b.2.1.length:Int)])).bind fun h=>some h) else (some a.1)) else (some a.1):Option (List Int))) (fun i=>some (.nxt (i,i64.wrap (a.2+1))))) else (some (.brk (a.1,a.2)))
def jB (b:(List Int)×List Yq1) (a:Int×(List Bool)×List (List Int)) (d:Int):Option (List Int):=
 (gQ (b.1,b.2) (a.1,a.2.1,a.2.2) d).bind fun c=>if decide ((c.length:Int)=0) then (aO (aA (wB) aT (([] :List Int),0)) (fun e=>some e) (fun f=>(lR f.1).bind fun g=>some g)) else (aO (aA (fY b a c) aT (([] :List Int),0)) (fun h=>some h) (fun i=>(lR i.1).bind fun j=>some j))
def mB (c:Yq4×Int) (b:List Int) (a:Yq4×Int):Option (Out Yq4 (Yq4×Int)):=
 if decide (a.2<(b.length:Int)) then ((aQ b a.2).bind fun d=>(bM 16 a.1 ([(c.2,d)])).bind fun e=>some (.nxt (e,i64.wrap (a.2+1)))) else (some (.brk (a.1,a.2)))
def gR (b:(List Int)×(List Yq1)) (c:Int×(List Bool)×(List (List Int))) (a:Yq4×Int):Option (Out Yq4 (Yq4×Int)):=
 if decide (a.2<(b.1.length:Int)) then ((jB (b.1,b.2) (c.1,c.2.1,c.2.2) a.2).bind fun d=>aO (aA (mB a d) aT (a.1,0)) (fun r=>some (.ret r)) (fun e=>some (.nxt (e.1,i64.wrap (a.2+1))))) else (some (.brk (a.1,a.2)))
def fh (b:(List Int)×(List Yq1)) (a:Int×(List Bool)×(List (List Int))):Option Yq4:=
 (de (b.1,b.2) (a.1,a.2.1,a.2.2) ([])).bind fun c=>if c then (aO (aA (gR b a) aT (([] :List (Int×Int)),0)) (fun r=>some r) (fun d=>some d.1)) else (some ([]))
def cx (c:(List Yq2)×(List Yq3)) (a:(List Int)×(List Yq1)) (d:Int):Option (Yq4×Bool):=
 (eP (c.1,c.2) d).bind fun b=>if b.2 then ((aS (a.1,a.2)).bind fun e=>if e then ((fh (a.1,a.2) (b.1.1,b.1.2.1,b.1.2.2)).bind fun f=>some (f,true)) else (some ([],false))) else (some ([],false))
def cL (b:Int×(List Yq5)) (a:Int):Option (Out Bool Int):=
 if decide (a<(b.2.length:Int)) then ((aQ b.2 a).bind fun c=>(aS (c.1,c.2)).bind fun d=>if d then ((aQ b.2 0).bind fun e=>(cX c.1 e.1).bind fun f=>if f then (some (.nxt (i64.wrap (a+1)))) else (some (.ret false))) else (some (.ret false))) else (some (.brk a))
def bz (a:Int×(List Yq5)):Option Bool:=
 (bS (a.2.length:Int) 1 8).bind fun b=>if b then ((bS a.1 1 (i64.wrap ((i64.wrap (999 - (a.2.length:Int)))+1))).bind fun c=>if c then (aO (aA (cL a) aT 0) (fun r=>some r) (fun d=>some true)) else (some false)) else (some false)
def fp (a:Int×(List Yq5)):Option Int:=
 (bz (a.1,a.2)).bind fun b=>if b then (some (i64.wrap ((i64.wrap (a.1+(a.2.length:Int))) - 1))) else (some 0)
def jQ (a:(List Int)×(List Yq1)):Option Yq5:=
 (jy a.1).bind fun b=>(bM 32 ([] :List Yq1) a.2).bind fun c=>some (b,c)
def iw (a:Int×(List Yq5)) (b:Int):Option (Yq5×Bool):=
 (bz (a.1,a.2)).bind fun e=>if e then ((fp (a.1,a.2)).bind fun f=>(bS b a.1 f).bind fun g=>if g then ((aQ a.2 (i64.wrap (b - a.1))).bind fun c=>(jQ (c.1,c.2)).bind fun d=>some ((d.1,d.2),true)) else (some (([],[]),false))) else (some (([],[]),false))
def fe (b:Int×(List Yq5)) (c:(List Yq2)×(List Yq3)) (e:Int) (f:Int):Option (Yq4×Bool):=
 (iw (b.1,b.2) f).bind fun a=>if a.2 then ((cx (c.1,c.2) (a.1.1,a.1.2) e).bind fun d=>some (d.1,d.2)) else (some ([],false))
def lS (a:Int) (b:Int):Option Int:=
 if decide (a<b) then (some (-1)) else (if decide (a>b) then (some 1) else (some 0))
def iD (a:Int×Int) (b:Int×Int):Option Int:=
 if a.1 !=b.1 then ((lS a.1 b.1).bind fun c=>some c) else ((lS a.2 b.2).bind fun d=>some d)
def jC (c:List (Int×Int)) (a:Int):Option (Out Bool Int):=
 if decide (a<(c.length:Int)) then ((aQ c a).bind fun b=>(bS b.1 0 4).bind fun e=>if e then ((bS b.2 0 4).bind fun f=>if f then (if decide (a>0) then ((aQ c (i64.wrap (a - 1))).bind fun d=>(iD (d.1,d.2) (b.1,b.2)).bind fun g=>if decide (g≥0) then (some (.ret false)) else (some (.nxt (i64.wrap (a+1))))) else (some (.nxt (i64.wrap (a+1))))) else (some (.ret false))) else (some (.ret false))) else (some (.brk a))
def fZ (a:List (Int×Int)):Option Bool:=
 aO (aA (jC a) aT 0) (fun r=>some r) (fun b=>some true)
def ct (b:List (Int×Int)) (d:(Int×Int)->Option Bool) (a:Int):Option (Out Int Int):=
 if decide (a<(b.length:Int)) then ((aQ b a).bind fun c=>(d (c.1,c.2)).bind fun e=>if e then (some (.ret a)) else (some (.nxt (i64.wrap (a+1))))) else (some (.brk a))
def bB (a:List (Int×Int)) (b:(Int×Int)->Option Bool):Option Int:=
 aO (aA (ct a b) aT 0) (fun r=>some r) (fun c=>some (-1))
def cg (d:(Int×Int)->Option Bool) (a:Int×Int×List (Int×Int)):Option (Out Yq4 (Int×Int×List (Int×Int))):=
 if decide (a.2.1<(a.2.2.length:Int)) then (Option.bind (((aQ a.2.2 a.2.1).bind fun b=>(d (b.1,b.2)).bind fun e=>if e then (some (a.1,a.2.2)) else ((aQ a.2.2 a.1).bind fun f=>some (i64.wrap (a.1+1),a.2.2.set a.1.toNat (b.1,b.2))):Option (Int×List (Int×Int)))) (fun c=>some (.nxt (c.1,i64.wrap (a.2.1+1),c.2)))) else (some (.brk (a.1,a.2.1,a.2.2)))
def cD (b:List (Int×Int)) (d:(Int×Int)->Option Bool):Option Yq4:=
 (bB b d).bind fun c=>if c==(-1) then (some b) else (aO (aA (cg d) aT (c,i64.wrap (c+1),b)) (fun e=>some e) (fun a=>(chk (And (0<=a.1) (And (a.1<=((a.2.2.length:Int) - 0)) ((0+((a.2.2.length:Int) - 0))<=(a.2.2.length:Int))))).bind fun _=>(chk (And ((0+a.1)<=(0+((a.2.2.length:Int) - 0))) ((0+((a.2.2.length:Int) - 0))<=(a.2.2.length:Int)))).bind fun _=>(chk (And ((0:Int)<=0) (And (0<=a.1) ((0+a.1)<=((qj a.2.2 ((0+a.1).toNat) ((0+((a.2.2.length:Int) - 0)).toNat) (0,0)).length:Int))))).bind fun _=>some (((qj a.2.2 ((0+a.1).toNat) ((0+((a.2.2.length:Int) - 0)).toNat) (0,0)).take ((0+a.1).toNat)).drop 0)))
def dV (a:List (Int×Int)) (b:Unit):Option Yq4:=R.RK R.Lo a
def cE (c:List (Int×Int)) (b:Int) (a:Int×Int×List (Int×Int)):Option (Out Yq4 (Int×Int×List (Int×Int))):=
 if decide (a.2.1<((0+((c.length:Int) - 0)) - (0+b))) then (Option.bind (((chk (And (0<=a.2.1) (a.2.1<((0+((c.length:Int) - 0)) - (0+b))))).bind fun _=>(aQ a.2.2 ((0+b)+a.2.1)).bind fun d=>(chk (And (0<=(i64.wrap (a.2.1 - 1))) ((i64.wrap (a.2.1 - 1))<((0+((c.length:Int) - 0)) - (0+b))))).bind fun _=>(aQ a.2.2 ((0+b)+(i64.wrap (a.2.1 - 1)))).bind fun e=>if Bool.and.match_1 (fun (h:Bool)=>Bool) (d.1==e.1) (fun (i:Unit)=>false) (fun (j:Unit)=>Bool.and.match_1 (fun (k:Bool)=>Bool) (d.2==e.2) (fun (l:Unit)=>false) (fun (m:Unit)=>true)) then (some (a.1,a.2.2)) else ((chk (And (0<=a.2.1) (a.2.1<((0+((c.length:Int) - 0)) - (0+b))))).bind fun _=>(aQ a.2.2 ((0+b)+a.2.1)).bind fun f=>(aQ a.2.2 a.1).bind fun n=>some (i64.wrap (a.1+1),a.2.2.set a.1.toNat (f.1,f.2))):Option (Int×List (Int×Int)))) (fun g=>some (.nxt (g.1,i64.wrap (a.2.1+1),g.2)))) else (some (.brk (a.1,a.2.1,a.2.2)))
def bQ (c:List (Int×Int)) (b:Int):Option (Out Yq4 Int):=
 if decide (b<(c.length:Int)) then ((aQ c b).bind fun d=>(aQ c (i64.wrap (b - 1))).bind fun e=>if Bool.and.match_1 (fun (g:Bool)=>Bool) (d.1==e.1) (fun (h:Unit)=>false) (fun (i:Unit)=>Bool.and.match_1 (fun (j:Bool)=>Bool) (d.2==e.2) (fun (k:Unit)=>false) (fun (l:Unit)=>true)) then ((chk (And (0<=b) (And (b<=((c.length:Int) - 0)) ((0+((c.length:Int) - 0))<=(c.length:Int))))).bind fun _=>aO (aA (cE c b) aT (b,1,c)) (fun f=>some (.ret f)) (fun a=>(chk (And (0<=a.1) (And (a.1<=((a.2.2.length:Int) - 0)) ((0+((a.2.2.length:Int) - 0))<=(a.2.2.length:Int))))).bind fun _=>(chk (And ((0+a.1)<=(0+((a.2.2.length:Int) - 0))) ((0+((a.2.2.length:Int) - 0))<=(a.2.2.length:Int)))).bind fun _=>(chk (And ((0:Int)<=0) (And (0<=a.1) ((0+a.1)<=((qj a.2.2 ((0+a.1).toNat) ((0+((a.2.2.length:Int) - 0)).toNat) (0,0)).length:Int))))).bind fun _=>some (.ret (((qj a.2.2 ((0+a.1).toNat) ((0+((a.2.2.length:Int) - 0)).toNat) (0,0)).take ((0+a.1).toNat)).drop 0)))) else (some (.nxt (i64.wrap (b+1))))) else (some (.brk b))
def c9 (a:List (Int×Int)):Option Yq4:=
 if decide ((a.length:Int)<2) then (some a) else (aO (aA (bQ a) aT 1) (fun b=>some b) (fun c=>some a))
def oV (a:List (Int×Int)):Option Yq4:=
 (bM 16 ([] :List (Int×Int)) a).bind fun b=>(dV b ()).bind fun c=>(c9 c).bind fun d=>some d
def cT (b:List (Int×Int)) (c:Int×Int) (a:Int):Option (Out Int Int):=
 if decide (a<(b.length:Int)) then ((aQ b a).bind fun d=>if ((c.1==d.1)&&((c.2==d.2)&&true)) then (some (.ret a)) else (some (.nxt (i64.wrap (a+1))))) else (some (.brk a))
def du (a:List (Int×Int)) (b:Int×Int):Option Int:=
 aO (aA (cT a b) aT 0) (fun r=>some r) (fun c=>some (-1))
def b8 (b:List (Int×Int)) (a:Int×Int):Option Bool:=
 (du b (a.1,a.2)).bind fun c=>some (decide (c≥0))
def kL (a:Int×Int) (q0:List (Int×Int)):Option Bool:=
 (b8 q0 (a.1,a.2)).bind fun b=>some b
def gS (a:List (Int×Int)) (b:List (Int×Int)):Option Yq4:=
 (oV a).bind fun c=>(cD c (fun (d:Int×Int)=>kL d b)).bind fun e=>some e
def mU (a:List (Int×Int)) (b:List (Int×Int)):Option Yq4:=
 (bM 16 ([] :List (Int×Int)) a).bind fun c=>(bM 16 c b).bind fun d=>(oV d).bind fun e=>some e
def ez (a:List (Int×Int)):Option Yq4:=
 (bM 16 ([] :List (Int×Int)) a).bind fun b=>some b
def dh (a:List (Int×Int)) (b:(Int×Int)->Option Bool):Option Bool:=
 (bB a b).bind fun c=>some (decide (c≥0))
def kC (a:Int×Int) (q0:List (Int×Int)):Option Bool:=
 (b8 q0 (a.1,a.2)).bind fun b=>some b
def ko (a:List (Int×Int)) (b:List (Int×Int)):Option Bool:=
 (dh a (fun a0=>kC a0 b)).bind fun c=>some c
def rj (a:Yq4×Yq4):Option Bool:=
 (fZ a.1).bind fun b=>if b then ((fZ a.2).bind fun c=>if c then ((ko a.1 a.2).bind fun d=>some (!d)) else (some false)) else (some false)
def mV (a:List (Int×Int)) (b:Yq4×Yq4):Option (Yq4×Bool):=
 (rj (b.1,b.2)).bind fun c=>if c then ((fZ a).bind fun d=>if d then ((ko a b.1).bind fun e=>if e then ((ez a).bind fun f=>some (f,false)) else ((gS b.2 a).bind fun g=>if decide ((g.length:Int)>0) then ((ez a).bind fun h=>some (h,false)) else ((gS a b.2).bind fun i=>(mU i b.1).bind fun j=>some (j,true)))) else ((ez a).bind fun k=>some (k,false))) else ((ez a).bind fun l=>some (l,false))
def iE (b:List (Int×Int)) (a:Int×Bool×(Yq4×Yq4)):Option (Yq4×Bool):=
 if a.2.1 then ((fZ a.2.2.1).bind fun d=>if d then (if decide ((a.2.2.2.length:Int)>0) then ((ez b).bind fun e=>some (e,false)) else ((ez a.2.2.1).bind fun f=>some (f,true))) else ((ez b).bind fun g=>some (g,false))) else ((mV b (a.2.2.1,a.2.2.2)).bind fun c=>some (c.1,c.2))
def cU (b:List (Int×Int)) (e:List (Int×Int)) (a:Int):Option (Out Bool Int):=
 if decide (a<(b.length:Int)) then ((aQ b a).bind fun c=>(aQ e a).bind fun d=>if (c.1==d.1)&&((c.2==d.2)&&true) then (some (.nxt (i64.wrap (a+1)))) else (some (.ret false))) else (some (.brk a))
def dw (a:List (Int×Int)) (b:List (Int×Int)):Option Bool:=
 if (a.length:Int) !=(b.length:Int) then (some false) else (aO (aA (cU a b) aT 0) (fun r=>some r) (fun c=>some true))
def mW (a:List (Int×Int)) (b:List (Int×Int)):Option Bool:=
 (dw a b).bind fun c=>some c
def eZ (d:Int×(List Yq5)) (e:(List Yq2)×(List Yq3)) (h:Int) (f:List Ox) (a:Yq4×Int×Int):Option (Out Bool (Yq4×Int×Int)):=
 if decide (a.2.2<(f.length:Int)) then ((aQ f a.2.2).bind fun b=>(iE a.1 (b.1,b.2.1,(b.2.2.1,b.2.2.2))).bind fun c=>(fe (d.1,d.2) (e.1,e.2) h b.1).bind fun g=>if c.2 then (if g.2 then (if decide (b.1<=a.2.1) then (some (.ret false)) else ((mW c.1 g.1).bind fun i=>if i then (some (.nxt (c.1,b.1,i64.wrap (a.2.2+1)))) else (some (.ret false)))) else (some (.ret false))) else (some (.ret false))) else (some (.brk (a.1,a.2.1,a.2.2)))
def gT (a:Int×(List Yq5)) (b:(List Yq2)×(List Yq3)) (c:Int) (d:Int) (f:List Ox):Option Bool:=
 (fe (a.1,a.2) (b.1,b.2) c d).bind fun e=>if e.2 then (aO (aA (eZ a b c f) aT (e.1,d,0)) (fun r=>some r) (fun g=>some true)) else (some false)
def jR (b:List (Int×Int)) (e:List (Int×Int)) (a:Int):Option (Out Bool Int):=
 if decide (a<(b.length:Int)) then ((aQ b a).bind fun c=>(aQ e a).bind fun d=>if (c.1==d.1)&&((c.2==d.2)&&true) then (some (.nxt (i64.wrap (a+1)))) else (some (.ret false))) else (some (.brk a))
def kp (a:List (Int×Int)) (b:List (Int×Int)):Option Bool:=
 if (a.length:Int) !=(b.length:Int) then (some false) else (aO (aA (jR a b) aT 0) (fun r=>some r) (fun c=>some true))
def oW (b:List (Int×Int)) (a:Int):Option (Out Bool Int):=
 if decide (a<(b.length:Int)) then ((aQ b a).bind fun e=>(dq e.1 0 4).bind fun f=>if f then ((aQ b a).bind fun g=>(dq g.2 0 4).bind fun h=>if h then (if decide (a>0) then ((aQ b (i64.wrap (a - 1))).bind fun c=>(aQ b a).bind fun d=>(mz (c.1,c.2) (d.1,d.2)).bind fun i=>if i then (some (.nxt (i64.wrap (a+1)))) else (some (.ret false))) else (some (.nxt (i64.wrap (a+1))))) else (some (.ret false))) else (some (.ret false))) else (some (.brk a))
def jD (a:List (Int×Int)):Option Bool:=
 aO (aA (oW a) aT 0) (fun r=>some r) (fun b=>some true)
def jS (b:List (Int×Int)) (a:Yq4×Int):Option (Out Yq4 (Yq4×Int)):=
 if decide (a.2<(b.length:Int)) then ((aQ b a.2).bind fun c=>(oj a.1 (c.1,c.2)).bind fun d=>some (.nxt (d,i64.wrap (a.2+1)))) else (some (.brk (a.1,a.2)))
def jT (b:List (Int×Int)) (a:Yq4×Int):Option (Out Yq4 (Yq4×Int)):=
 if decide (a.2<(b.length:Int)) then ((aQ b a.2).bind fun c=>(oj a.1 (c.1,c.2)).bind fun d=>some (.nxt (d,i64.wrap (a.2+1)))) else (some (.brk (a.1,a.2)))
def iK (a:List (Int×Int)) (b:List (Int×Int)):Option Yq4:=
 aO (aA (jS a) aT (([] :List (Int×Int)),0)) (fun r=>some r) (fun c=>aO (aA (jT b) aT (c.1,0)) (fun r=>some r) (fun d=>some d.1))
def mX (b:Yq4×Yq4) (a:Int):Option (Out Bool Int):=
 if decide (a<(b.1.length:Int)) then ((aQ b.1 a).bind fun c=>(my b.2 (c.1,c.2)).bind fun d=>if d then (some (.ret false)) else (some (.nxt (i64.wrap (a+1))))) else (some (.brk a))
def rk (a:Yq4×Yq4):Option Bool:=
 aO (aA (mX a) aT 0) (fun r=>some r) (fun d=>(jD a.1).bind fun b=>if b then ((jD a.2).bind fun c=>some c) else (some false))
def cV (d:List (Int×Int)) (b:Yq4×Yq4) (a:Bool×Int):Option (Out (Yq4×Bool) (Bool×Int)):=
 if decide (a.2<(b.1.length:Int)) then (if a.1 then ((aQ b.1 a.2).bind fun c=>(my d (c.1,c.2)).bind fun e=>some (.nxt (!e,i64.wrap (a.2+1)))) else (some (.nxt (false,i64.wrap (a.2+1))))) else (some (.brk (a.1,a.2)))
def cW (d:List (Int×Int)) (b:Yq4×Yq4) (a:Bool×Int):Option (Out (Yq4×Bool) (Bool×Int)):=
 if decide (a.2<(b.2.length:Int)) then (if a.1 then ((aQ b.2 a.2).bind fun c=>(my d (c.1,c.2)).bind fun e=>some (.nxt (e,i64.wrap (a.2+1)))) else (some (.nxt (false,i64.wrap (a.2+1))))) else (some (.brk (a.1,a.2)))
def iL (b:List (Int×Int)) (a:Yq4×Yq4):Option (Yq4×Bool):=
 Option.bind (((rk (a.1,a.2)).bind fun c=>if c then ((jD b).bind fun d=>some d) else (some false):Option Bool)) (fun e=>aO (aA (cV b a) aT (e,0)) (fun r=>some r) (fun f=>aO (aA (cW b a) aT (f.1,0)) (fun r=>some r) (fun g=>if g.1 then ((dj b a.2).bind fun h=>(iK h a.1).bind fun i=>some (i,true)) else ((bM 16 ([] :List (Int×Int)) b).bind fun j=>some (j,false)))))
def cO (b:List (Int×Int)) (a:Int×Bool×(Yq4×Yq4)):Option (Yq4×Bool):=
 if a.2.1 then ((jD a.2.2.1).bind fun d=>if d then (if decide ((a.2.2.2.length:Int)>0) then ((bM 16 ([] :List (Int×Int)) b).bind fun e=>some (e,false)) else ((bM 16 ([] :List (Int×Int)) a.2.2.1).bind fun f=>some (f,true))) else ((bM 16 ([] :List (Int×Int)) b).bind fun g=>some (g,false))) else ((iL b (a.2.2.1,a.2.2.2)).bind fun c=>some (c.1,c.2))
def aW (f:Int×(List Yq5)) (g:(List Yq2)×(List Yq3)) (h:Int) (b:List Ox) (a:Yq4×Int×Int):Option (Out Bool (Yq4×Int×Int)):=
 if decide (a.2.2<(b.length:Int)) then ((aQ b a.2.2).bind fun c=>(cO a.1 (c.1,c.2.1,(c.2.2.1,c.2.2.2))).bind fun d=>(aQ b a.2.2).bind fun i=>(dD (f.1,f.2) i.1).bind fun e=>(bd (g.1,g.2) (e.1.1,e.1.2) h).bind fun j=>if d.2 then (if e.2 then ((aQ b a.2.2).bind fun k=>if decide (k.1<=a.2.1) then (some (.ret false)) else ((kp d.1 j.1).bind fun l=>if l then ((aQ b a.2.2).bind fun m=>some (.nxt (d.1,m.1,i64.wrap (a.2.2+1)))) else (some (.ret false)))) else (some (.ret false))) else (some (.ret false))) else (some (.brk (a.1,a.2.1,a.2.2)))
def gU (a:Int×(List Yq5)) (b:(List Yq2)×(List Yq3)) (d:Int) (e:Int) (g:List Ox):Option Bool:=
 (dD (a.1,a.2) e).bind fun c=>(bd (b.1,b.2) (c.1.1,c.1.2) d).bind fun f=>if c.2 then (if f.2 then (aO (aA (aW a b d g) aT (f.1,e,0)) (fun r=>some r) (fun h=>some true)) else (some false)) else (some false)
def lT (a:Yq4×Yq4):Option (Yq4×Yq4):=
 (bM 16 ([] :List (Int×Int)) a.2).bind fun b=>(bM 16 ([] :List (Int×Int)) a.1).bind fun c=>some (b,c)
def iR (e:List Int):Option Bool:=
 (Ic e).bind fun g=>if g then (some true) else ((fW e).bind fun a=>(gT (a.1.1,a.1.2) (a.2.1.1,a.2.1.2) a.2.2.1 a.2.2.2.1 a.2.2.2.2).bind fun f=>(gU (a.1.1,a.1.2) (a.2.1.1,a.2.1.2) a.2.2.1 a.2.2.2.1 a.2.2.2.2).bind fun h=>if f !=h then (some false) else (if f then (if (a.2.2.2.2.length:Int)==0 then (some true) else ((aQ a.2.2.2.2 0).bind fun i=>if i.2.1 then (some true) else ((bM 64 ([] :List VV) a.2.2.2.2).bind fun b=>(aQ b (i64.wrap ((b.length:Int) - 1))).bind fun c=>(lT (c.2.2.1,c.2.2.2)).bind fun d=>(aQ b (i64.wrap ((b.length:Int) - 1))).bind fun l=>Option.bind ((if (d.1.length:Int)==0 then (some ((d.2.length:Int)==0)) else (some false):Option Bool)) (fun j=>(gT (a.1.1,a.1.2) (a.2.1.1,a.2.1.2) a.2.2.1 a.2.2.2.1 (b.set ((i64.wrap ((b.length:Int) - 1)).toNat) (c.1,c.2.1,d.1,d.2))).bind fun k=>some (k==j))))) else (some true)))
end D
end Go.Proofs.YtbhafdfiplkacaaGreat
